/- Words, walks and laws under the claim's statement: what it uses of them. No condition of its own. -/
import Derived.Test.YtlbemgokilhdnaaGreatDoorStL0
import Derived.Test.YtlbemgokilhdnaaGreatDoorStP0
import Derived.Lib.ValidLaws
import Derived.Lib.MapLaws
import Derived.Lib.DecodeN
import Derived.Test.YtlbemgokilhdnaaGreatDoorStS0
import Derived.WalkKit
import Derived.WalkMore
import Derived.WalkSpells
import Derived.Below
import Derived.Outline
import Derived.Deep.LoopGhost
import Derived.Deep.DeepCutAuto
import Derived.Laws.RangeAny
import Derived.Lib.OthersKept
import Derived.Lib.Hide
import Derived.Deep.QuietTactic
import Derived.BigQuiet
import Derived.Lib.SlicesS
import Derived.WalkLawsBesides
import Derived.OneCell
import Derived.Lib.SplitLaws
import Derived.Lib.CutLaws
import Derived.Lib.IndexLaws
import Derived.Test.YtlbemgokilhdnaaGreatDoorStAb1
import Derived.Test.YtlbemgokilhdnaaGreatDoorStAb0
namespace Go.Proofs.YtlbemgokilhdnaaGreatDoor.Ab
set_option linter.unusedVariables false
set_option linter.unusedSimpArgs false
open Go.RowKit
attribute [local irreducible] AWP AOps AExit AThen ABlock ANoGoto FeetOk
set_option maxHeartbeats 16000000 in
set_option maxRecDepth 10000 in
theorem pV (t : Tree) : t.whole = true → t.size ≤ 65536 → ACalls Tryz.prog 38 [.imm t.iv] [] (.imm (.lit (.bool (isSigP t)))) [] := by
  induction t using Tree.sind with
  | h t ih =>
    intro h hs
    obtain ⟨k, n, a, b, kids, rfl⟩ := cN h
    have hl : kids.length < 1000000000 := by have := cI kids h; simp only [Tree.size] at hs; omega
    obtain ⟨q, hQ0⟩ : ∃ q, isSigP (.node k n a b kids) = q := ⟨_, rfl⟩
    rw [hQ0]
    rw [isSigP] at hQ0
    cases hb : sbareP n a b false false with
    | false =>
      rw [hb, Bool.false_and] at hQ0
      subst hQ0
      rw [kG] at hb
      have hb : b.toList = emptyB.toList → a.toList = emptyB.toList → n = 0 → False := fun h1 h2 h3 => by
        have e1 : eqB b emptyB = true := by unfold eqB; rw [h1]; simp
        have e2 : eqB a emptyB = true := by unfold eqB; rw [h2]; simp
        rw [e1, e2, h3] at hb
        cases hb
      clear ih
      refine aM Tryz.func38 rfl rfl (nb rfl) rfl ?_
      repeat' (first | refine aE ?_ | (refine aH ?_;  first | refine aC tabOk rfl rfl rfl (nb rfl) rfl ?_ | refine bD rfl rfl (nb rfl) ?_ | (refine aK rfl rfl rfl (nb rfl) rfl rfl rfl (fun hq => ?_) (fun hq => ?_) <;> (first | (simp only [sD, sE, sB, sC, sN, sM, sT, sF] at hq; try (exfalso; omega)) | skip)) | refine aU tabOk rfl rfl (nb rfl) rfl ?_ | refine bG tabOk rfl rfl rfl (nb rfl) rfl rfl rfl rfl (by first | rfl | omega) (by first | omega | simp) ?_ | refine aV tabOk rfl rfl rfl (nb rfl) rfl rfl rfl (bZ _ _ (by first | assumption | omega)) ?_) | (refine aN ?_;  first | refine aG ?_ | refine aQ ?_ | refine aX ?_ | refine aT ?_ | refine aW ?_ | refine aA (b := true) rfl (fun _ => ?_) nTf | refine aA (b := false) rfl nFt (fun _ => ?_)) | (refine aJ ?_;  first | refine bB ?_ | refine aR ?_))
      all_goals first
        | exact absurd rfl (by assumption)
        | exact (hb (by assumption) (by assumption) (by assumption)).elim
        | (refine bA (by first | exact .inl rfl | exact .inr rfl) (aZ rfl (aD rfl)) rfl ?_; rfl)
    | true =>
      rw [hb, Bool.true_and] at hQ0
      by_cases hk : k = 160 ∨ k = 161
      · rw [if_pos hk] at hQ0
        rw [kG] at hb
        simp only [Bool.and_eq_true, beq_iff_eq, dO] at hb
        obtain ⟨⟨rfl, rfl⟩, rfl⟩ := hb
        by_cases h1 : kids.length = 1
        · obtain ⟨c, rfl⟩ := one_of h1
          have hz := cF (k := k) (n := 0) (a := emptyB) (b := emptyB) (kids := [c]) (t := c) (by simp)
          have hwc := bN h (List.mem_singleton.2 rfl)
          have c1 := nD c hwc (by omega)
          rw [sig1, oR isConP c hwc (by omega)] at hQ0
          generalize (if isConP c = true then (0 : Int) else 16) = C at *
          clear ih
          refine aM Tryz.func38 rfl rfl (nb rfl) rfl ?_
          repeat' (first | refine aE ?_ | (refine aH ?_;  first | refine aC tabOk rfl rfl rfl (nb rfl) rfl ?_ | refine bD rfl rfl (nb rfl) ?_ | (refine aK rfl rfl rfl (nb rfl) rfl rfl rfl (fun hq => ?_) (fun hq => ?_) <;> (first | (simp only [sD, sE, sB, sC, sN, sM, sT, sF] at hq; try (exfalso; omega)) | skip)) | refine aI rfl rfl (nb rfl) rfl rfl rfl rfl (c1) ?_ | refine aU tabOk rfl rfl (nb rfl) rfl ?_ | refine bG tabOk rfl rfl rfl (nb rfl) rfl rfl rfl rfl (by first | rfl | omega) (by first | omega | simp) ?_) | (refine aN ?_;  first | refine aG ?_ | refine aQ ?_ | refine aT ?_ | refine aW ?_ | refine aA (b := true) rfl (fun _ => ?_) nTf | refine aA (b := false) rfl nFt (fun _ => ?_)) | (refine aJ ?_;  first | refine bB ?_ | refine aR ?_))
          all_goals first
            | exact absurd rfl (by assumption)
            | (exfalso; omega)
            | (refine bA (by first | exact .inl rfl | exact .inr rfl) (aZ rfl (aD rfl)) rfl ?_; refine cM ?_; subst hQ0; simp_all)
        · rw [lX h1] at hQ0
          subst hQ0
          clear ih
          refine aM Tryz.func38 rfl rfl (nb rfl) rfl ?_
          repeat' (first | refine aE ?_ | (refine aH ?_;  first | refine aC tabOk rfl rfl rfl (nb rfl) rfl ?_ | refine bD rfl rfl (nb rfl) ?_ | (refine aK rfl rfl rfl (nb rfl) rfl rfl rfl (fun hq => ?_) (fun hq => ?_) <;> (first | (simp only [sD, sE, sB, sC, sN, sM, sT, sF] at hq; try (exfalso; omega)) | skip)) | refine aU tabOk rfl rfl (nb rfl) rfl ?_) | (refine aN ?_;  first | refine aG ?_ | refine aQ ?_ | refine aT ?_ | refine aW ?_ | refine aA (b := true) rfl (fun _ => ?_) nTf | refine aA (b := false) rfl nFt (fun _ => ?_)) | (refine aJ ?_;  first | refine bB ?_ | refine aR ?_))
          all_goals first
            | exact absurd rfl (by assumption)
            | (exfalso; omega)
            | (refine bA (by first | exact .inl rfl | exact .inr rfl) (aZ rfl (aD rfl)) rfl ?_; rfl)
      · rw [if_neg hk] at hQ0
        by_cases h162 : k = 162
        · rw [if_pos h162] at hQ0
          have := uJ k n a b kids hb h162 h hl (fun t' h1 h2 => ih t' h1 h2 (by omega))
          rw [hQ0] at this
          exact this
        · rw [if_neg h162] at hQ0
          subst hQ0
          rw [kG] at hb
          simp only [Bool.and_eq_true, beq_iff_eq, dO] at hb
          obtain ⟨⟨rfl, rfl⟩, rfl⟩ := hb
          clear ih
          refine aM Tryz.func38 rfl rfl (nb rfl) rfl ?_
          repeat' (first | refine aE ?_ | (refine aH ?_;  first | refine aC tabOk rfl rfl rfl (nb rfl) rfl ?_ | refine bD rfl rfl (nb rfl) ?_ | (refine aK rfl rfl rfl (nb rfl) rfl rfl rfl (fun hq => ?_) (fun hq => ?_) <;> (first | (simp only [sD, sE, sB, sC, sN, sM, sT, sF] at hq; try (exfalso; omega)) | skip))) | (refine aN ?_;  first | refine aG ?_ | refine aQ ?_ | refine aT ?_ | refine aW ?_ | refine aA (b := true) rfl (fun _ => ?_) nTf | refine aA (b := false) rfl nFt (fun _ => ?_)) | (refine aJ ?_;  first | refine bB ?_ | refine aR ?_))
          all_goals first
            | exact absurd rfl (by assumption)
            | exact absurd (by assumption) h162
            | (exfalso; omega)
            | (refine bA (by first | exact .inl rfl | exact .inr rfl) (aZ rfl (aD rfl)) rfl ?_; rfl)
theorem yU (n : Int) (a b : ByteArray) : sbareP n a b false true = (eqB b emptyB && eqB a emptyB && decide (0 ≤ n ∧ n ≤ 8192)) := by
  unfold sbareP
  rw [Bool.false_or, Bool.true_and]
  congr 1
  rw [Bool.eq_iff_iff]
  simp
  omega
set_option maxHeartbeats 16000000 in
set_option maxRecDepth 10000 in
theorem rS (k n : Int) (a b : ByteArray) (kids : List Tree) (kind cnt : Int) (hl : kids.length < 1000000000) : ACalls Tryz.prog 46 [.imm (Tree.iv (.node k n a b kids)), .imm (.lit (.int .i64 kind)), .imm (.lit (.int .i64 cnt))] [] (.imm (.lit (.bool ((k == kind) && sbareP n a b false true && ((kids.length : Int) == cnt))))) [] := by
  rw [yU]
  refine aM Tryz.func46 rfl rfl (nb rfl) rfl ?_
  repeat' (first | refine aE ?_ | (refine aH ?_;  first | refine aC tabOk rfl rfl rfl (nb rfl) rfl ?_ | refine bD rfl rfl (nb rfl) ?_ | (refine aK rfl rfl rfl (nb rfl) rfl rfl rfl (fun hq => ?_) (fun hq => ?_) <;> (first | (simp only [sD, sE, sB, sC, sN, sM, sT, sF] at hq; try (exfalso; omega)) | skip)) | refine aU tabOk rfl rfl (nb rfl) rfl ?_) | (refine aN ?_;  first | refine aG ?_ | refine aT ?_))
  all_goals (refine bA (by first | exact .inl rfl | exact .inr rfl) (aZ rfl (aD rfl)) rfl ?_; refine cM ?_; first | (simp_all [eqB, emptyB]; done) | (simp_all [eqB, emptyB]; omega))
set_option maxHeartbeats 8000000 in
set_option maxRecDepth 10000 in
theorem aAR (t : Tree) (h : t.whole = true) (hs : t.size ≤ 65536) : ACalls Tryz.prog 45 [.imm t.iv] [] (.imm (.lit (.bool (isExP t)))) [] := by
  obtain ⟨k, n, a, b, kids, rfl⟩ := cN h
  have hl : kids.length < 1000000000 := by have := cI kids h; simp only [Tree.size] at hs; omega
  have c1 := rS k n a b kids 164 1 hl
  by_cases h1 : kids.length = 1
  · obtain ⟨c, rfl⟩ := one_of h1
    have hz := cF (k := k) (n := n) (a := a) (b := b) (kids := [c]) (t := c) (by simp)
    have c2 := pV c (bN h (by simp)) (by omega)
    rw [isExP]
    rw [show (([c].length : Int) == 1) = true from rfl, Bool.and_true] at c1
    generalize ((k == 164) && sbareP n a b false true) = B at *
    generalize isSigP c = F at *
    refine aM Tryz.func45 rfl rfl (nb rfl) rfl ?_
    repeat' (first | refine aE ?_ | (refine aH ?_;  first | refine aC tabOk rfl rfl rfl (nb rfl) rfl ?_ | refine bD rfl rfl (nb rfl) ?_ | (refine bO rfl rfl rfl (nb rfl) rfl rfl rfl (c1) (fun hq => ?_) (fun hq => ?_)) | (refine bO rfl rfl rfl (nb rfl) rfl rfl rfl (c2) (fun hq => ?_) (fun hq => ?_)) | refine bG tabOk rfl rfl rfl (nb rfl) rfl rfl rfl rfl (by first | rfl | omega) (by first | omega | simp) ?_) | (refine aN ?_;  first | refine aG ?_ | refine aT ?_))
    all_goals (refine bA (by first | exact .inl rfl | exact .inr rfl) (aZ rfl (aD rfl)) rfl ?_; refine cM ?_; simp_all)
  · rw [mU h1]
    rw [show ((kids.length : Int) == 1) = false from beq_eq_false_iff_ne.2 (by omega), Bool.and_false] at c1
    refine aM Tryz.func45 rfl rfl (nb rfl) rfl ?_
    repeat' (first | refine aE ?_ | (refine aH ?_;  first | refine aC tabOk rfl rfl rfl (nb rfl) rfl ?_ | refine bD rfl rfl (nb rfl) ?_ | refine aI rfl rfl (nb rfl) rfl rfl rfl rfl (c1) ?_) | (refine aN ?_;  first | refine aG ?_ | refine aT ?_))
    all_goals first
      | exact absurd rfl (by assumption)
      | exact cH (by first | exact .inl rfl | exact .inr rfl) (aZ rfl (aD rfl)) rfl
set_option maxHeartbeats 16000000 in
set_option maxRecDepth 10000 in
theorem nE (t : Tree) (hw : t = .nil ∨ t.whole = true) (hs : t.size ≤ 65536) : ACalls Tryz.prog 15 [.imm t.iv] [] (.imm (.lit (.int .i64 (checkP sformP t)))) [] := by
  rcases hw with rfl | hw
  · have c1 : ACalls Tryz.prog 29 [.imm (Tree.iv .nil)] [] (.imm (.lit (.int .i64 1))) [] := by
      have c0 : ACalls Tryz.prog 58 [.imm (Tree.iv .nil), .imm (.lit (.int .i64 65536))] [] (.imm (.tup [.lit (.int .i64 65536), .lit (.int .i64 1)])) [] := by
        refine aM Tryz.func58 rfl rfl (nb rfl) rfl ?_
        repeat' (first | refine aE ?_ | (refine aH ?_;  first | refine aC tabOk rfl rfl rfl (nb rfl) rfl ?_ | refine aU tabOk rfl rfl (nb rfl) rfl ?_) | (refine aN ?_;  first | refine aG ?_ | refine aQ ?_ | refine aT ?_ | refine aA (b := true) rfl (fun _ => ?_) nTf) | (refine aJ ?_;  first | refine aR ?_))
        all_goals first
          | exact absurd rfl (by assumption)
          | (refine bA (by first | exact .inl rfl | exact .inr rfl) (bP rfl (aD rfl) (aD rfl)) rfl ?_; rfl)
      refine aM Tryz.func29 rfl rfl (nb rfl) rfl ?_
      repeat' (first | refine aE ?_ | (refine aH ?_;  first | refine aC tabOk rfl rfl rfl (nb rfl) rfl ?_ | (refine aK rfl rfl rfl (nb rfl) rfl rfl rfl (fun hq => ?_) (fun hq => ?_) <;> (first | (simp only [sD, sE, sB, sC, sN, sM, sT, sF] at hq; try (exfalso; omega)) | skip)) | refine aI rfl rfl (nb rfl) rfl rfl rfl rfl (c0) ?_) | (refine aN ?_;  first | refine aG ?_ | refine aQ ?_ | refine aT ?_ | refine aA (b := true) rfl (fun _ => ?_) nTf) | (refine aJ ?_;  first | refine aR ?_))
      all_goals first
        | exact absurd rfl (by assumption)
        | (refine bA (by first | exact .inl rfl | exact .inr rfl) (aZ rfl (aD rfl)) rfl ?_; rfl)
    rw [show checkP sformP .nil = 1 from rfl]
    refine aM Tryz.func15 rfl rfl (nb rfl) rfl ?_
    repeat' (first | refine aE ?_ | (refine aH ?_;  first | refine aC tabOk rfl rfl rfl (nb rfl) rfl ?_ | refine bD rfl rfl (nb rfl) ?_ | (refine aK rfl rfl rfl (nb rfl) rfl rfl rfl (fun hq => ?_) (fun hq => ?_) <;> (first | (simp only [sD, sE, sB, sC, sN, sM, sT, sF] at hq; try (exfalso; omega)) | skip)) | refine aI rfl rfl (nb rfl) rfl rfl rfl rfl (c1) ?_) | (refine aN ?_;  first | refine aG ?_ | refine aQ ?_ | refine aT ?_ | refine aA (b := true) rfl (fun _ => ?_) nTf) | (refine aJ ?_;  first | refine aR ?_))
    all_goals first
      | exact absurd rfl (by assumption)
      | (refine bA (by first | exact .inl rfl | exact .inr rfl) (aZ rfl (aD rfl)) rfl ?_; rfl)
  · have c1 := nD t hw hs
    have c2 := pV t hw hs
    have c3 := aAR t hw hs
    rw [oR sformP t hw hs]
    obtain ⟨k, n, a, b, kids, rfl⟩ := cN hw
    have hl : kids.length < 1000000000 := by have := cI kids hw; simp only [Tree.size] at hs; omega
    have c4 := rS k n a b kids 165 2 hl
    unfold sformP
    have hC : (if isConP (.node k n a b kids) = true then (0 : Int) else 16) ≠ 1 ∧ (if isConP (.node k n a b kids) = true then (0 : Int) else 16) ≠ 3 := by split <;> omega
    generalize (if isConP (.node k n a b kids) = true then (0 : Int) else 16) = C at *
    obtain ⟨hC1, hC3⟩ := hC
    by_cases h1 : kids.length = 2
    · obtain ⟨x, y, rfl⟩ := two h1
      have hz := cF (k := k) (n := n) (a := a) (b := b) (kids := [x, y]) (t := x) (by simp)
      have hz2 := cF (k := k) (n := n) (a := a) (b := b) (kids := [x, y]) (t := y) (by simp)
      have c5 := pV x (bN hw (by simp)) (by omega)
      have c6 := aAR y (bN hw (by simp)) (by omega)
      rw [show (([x, y].length : Int) == 2) = true from rfl, Bool.and_true] at c4
      rw [isFunP]
      generalize ((k == 165) && sbareP n a b false true) = B at *
      generalize isSigP x = F at *
      generalize isExP y = G at *
      generalize isSigP (.node k n a b [x, y]) = S1 at *
      generalize isExP (.node k n a b [x, y]) = S2 at *
      refine aM Tryz.func15 rfl rfl (nb rfl) rfl ?_
      repeat' (first | refine aE ?_ | (refine aH ?_;  first | refine aC tabOk rfl rfl rfl (nb rfl) rfl ?_ | refine bD rfl rfl (nb rfl) ?_ | (refine aK rfl rfl rfl (nb rfl) rfl rfl rfl (fun hq => ?_) (fun hq => ?_) <;> (first | (simp only [sD, sE, sB, sC, sN, sM, sT, sF] at hq; try (exfalso; omega)) | skip)) | refine aI rfl rfl (nb rfl) rfl rfl rfl rfl (c1) ?_ | (refine bO rfl rfl rfl (nb rfl) rfl rfl rfl (c2) (fun hq => ?_) (fun hq => ?_)) | (refine bO rfl rfl rfl (nb rfl) rfl rfl rfl (c3) (fun hq => ?_) (fun hq => ?_)) | (refine bO rfl rfl rfl (nb rfl) rfl rfl rfl (c4) (fun hq => ?_) (fun hq => ?_)) | (refine bO rfl rfl rfl (nb rfl) rfl rfl rfl (c5) (fun hq => ?_) (fun hq => ?_)) | (refine bO rfl rfl rfl (nb rfl) rfl rfl rfl (c6) (fun hq => ?_) (fun hq => ?_)) | refine bG tabOk rfl rfl rfl (nb rfl) rfl rfl rfl rfl (by first | rfl | omega) (by first | omega | simp) ?_) | (refine aN ?_;  first | refine aG ?_ | refine aQ ?_ | refine aT ?_ | refine aW ?_ | refine aA (b := true) rfl (fun _ => ?_) nTf | refine aA (b := false) rfl nFt (fun _ => ?_)) | (refine aJ ?_;  first | refine bB ?_ | refine aR ?_))
      all_goals first
        | exact absurd rfl (by assumption)
        | exact absurd (by assumption) hC1
        | exact absurd (by assumption) hC3
        | (refine bA (by first | exact .inl rfl | exact .inr rfl) (aZ rfl (aD rfl)) rfl ?_; refine fN ?_; simp_all)
    · rw [kV h1, Bool.or_false]
      rw [show ((kids.length : Int) == 2) = false from beq_eq_false_iff_ne.2 (by omega), Bool.and_false] at c4
      generalize isSigP (.node k n a b kids) = S1 at *
      generalize isExP (.node k n a b kids) = S2 at *
      refine aM Tryz.func15 rfl rfl (nb rfl) rfl ?_
      repeat' (first | refine aE ?_ | (refine aH ?_;  first | refine aC tabOk rfl rfl rfl (nb rfl) rfl ?_ | refine bD rfl rfl (nb rfl) ?_ | (refine aK rfl rfl rfl (nb rfl) rfl rfl rfl (fun hq => ?_) (fun hq => ?_) <;> (first | (simp only [sD, sE, sB, sC, sN, sM, sT, sF] at hq; try (exfalso; omega)) | skip)) | refine aI rfl rfl (nb rfl) rfl rfl rfl rfl (c1) ?_ | (refine bO rfl rfl rfl (nb rfl) rfl rfl rfl (c2) (fun hq => ?_) (fun hq => ?_)) | (refine bO rfl rfl rfl (nb rfl) rfl rfl rfl (c3) (fun hq => ?_) (fun hq => ?_)) | refine aI rfl rfl (nb rfl) rfl rfl rfl rfl (c4) ?_) | (refine aN ?_;  first | refine aG ?_ | refine aQ ?_ | refine aT ?_ | refine aW ?_ | refine aA (b := true) rfl (fun _ => ?_) nTf | refine aA (b := false) rfl nFt (fun _ => ?_)) | (refine aJ ?_;  first | refine bB ?_ | refine aR ?_))
      all_goals first
        | exact absurd rfl (by assumption)
        | exact absurd (by assumption) hC1
        | exact absurd (by assumption) hC3
        | (refine bA (by first | exact .inl rfl | exact .inr rfl) (aZ rfl (aD rfl)) rfl ?_; refine fN ?_; simp_all)
end Go.Proofs.YtlbemgokilhdnaaGreatDoor.Ab
namespace Go.Proofs.YtlbemgokilhdnaaGreatDoor.Ab
set_option linter.unusedVariables false
set_option linter.unusedSimpArgs false
open Go.RowKit
attribute [local irreducible] AWP AOps AExit AThen ABlock ANoGoto FeetOk
set_option maxHeartbeats 4000000 in
set_option maxRecDepth 10000 in
theorem vI (t : Tree) : t.whole = true → t.size ≤ 1000000 → ACalls Tryz.prog 24 [.imm t.iv] [] (.imm (.lit (.int .i64 (t.size : Int)))) [] := by
  induction t using Tree.ind with
  | h1 => intro h; simp [Tree.whole] at h
  | h2 k n a b kids ih =>
    intro hw hs
    have hl := cI kids hw
    have hsz : (Tree.node k n a b kids).size = 1 + Tree.sizes kids := by rw [Tree.size]
    rw [hsz] at hs ⊢
    have htk : ∀ j (h : j < kids.length), Tree.sizes (kids.take (j + 1)) = Tree.sizes (kids.take j) + kids[j].size := fun j h => by
      rw [List.take_succ_eq_append_getElem h, kU]
      simp only [Tree.sizes]; omega
    have hle : ∀ j, Tree.sizes (kids.take j) ≤ Tree.sizes kids := fun j => by
      have := kU (kids.take j) (kids.drop j)
      rw [List.take_append_drop] at this
      omega
    refine aM Tryz.func24 rfl rfl (nb rfl) rfl ?_
    repeat' (first | refine aE ?_ | (refine aH ?_;  first | refine aC tabOk rfl rfl rfl (nb rfl) rfl ?_ | refine aU tabOk rfl rfl (nb rfl) rfl ?_) | (refine aN ?_;  first | refine aG ?_ | refine aQ ?_ | refine aX ?_ | refine aW ?_ | refine aA (b := false) rfl nFt (fun _ => ?_)) | (refine aJ ?_;  first | refine bB ?_))
    refine cD (ι := {j : Nat // j ≤ kids.length}) (fun j => S.f ⟨[(4, .imm (.lit (.int .i64 (j.1 : Int)))), (0, .imm (Tree.iv (.node k n a b kids))), (3, .imm (.lit (.int .i64 ((1 + Tree.sizes (kids.take j.1) : Nat) : Int))))], []⟩) (fun j => kids.length - j.1) ⟨0, Nat.zero_le _⟩ (cA (by repeat' first | exact trivial | refine ⟨rfl, ?_⟩) (by repeat' first | exact trivial | refine ⟨rfl, ?_⟩)) ?_
    rintro ⟨j, hj⟩
    dsimp only
    by_cases hlt : j < kids.length
    · have hm := List.getElem_mem hlt
      have hget := bZ kids j hlt
      have h1 := htk j hlt
      have h2 := hle j
      have h3 := hle (j + 1)
      have hc := ih _ hm (bN hw hm) (by omega)
      repeat' (first | refine aE ?_ | (refine aH ?_;  first | refine aC tabOk rfl rfl rfl (nb rfl) rfl ?_ | (refine aK rfl rfl rfl (nb rfl) rfl rfl rfl (fun hq => ?_) (fun hq => ?_) <;> (first | (simp only [sD, sE, sB, sC, sN, sM, sT, sF] at hq; try (exfalso; omega)) | skip)) | refine aV tabOk rfl rfl rfl (nb rfl) rfl rfl rfl hget ?_ | refine aI rfl rfl (nb rfl) rfl rfl rfl rfl (hc) ?_ | refine cG (z := ((1 + Tree.sizes (kids.take (j + 1)) : Nat) : Int)) rfl rfl rfl (nb rfl) rfl rfl (by omega) (by omega) (by omega) ?_ | refine bK rfl rfl rfl (nb rfl) rfl rfl (by omega) ?_ | refine aU tabOk rfl rfl (nb rfl) rfl ?_ | refine bI tabOk rfl rfl rfl (nb rfl) rfl rfl rfl rfl (by first | assumption | omega) ?_) | (refine aN ?_;  first | refine aG ?_ | refine aQ ?_ | refine bF ?_ | refine aX ?_ | refine aW ?_ | refine aA (b := true) rfl (fun _ => ?_) nTf) | (refine aJ ?_;  first | refine bB ?_) | (refine aY ?_;  first | refine bR ?_))
      all_goals first
        | (exfalso; omega)
        | exact ⟨⟨j + 1, hlt⟩, (by show kids.length - (j + 1) < kids.length - j; omega), (cA (by repeat' first | exact trivial | refine ⟨rfl, ?_⟩) (by repeat' first | exact trivial | refine ⟨rfl, ?_⟩))⟩
    · have ej : j = kids.length := by omega
      subst ej
      rw [List.take_length]
      repeat' (first | refine aE ?_ | (refine aH ?_;  first | refine aC tabOk rfl rfl rfl (nb rfl) rfl ?_ | (refine aK rfl rfl rfl (nb rfl) rfl rfl rfl (fun hq => ?_) (fun hq => ?_) <;> (first | (simp only [sD, sE, sB, sC, sN, sM, sT, sF] at hq; try (exfalso; omega)) | skip)) | refine aU tabOk rfl rfl (nb rfl) rfl ?_) | (refine aN ?_;  first | refine aG ?_ | refine aQ ?_ | refine aT ?_ | refine bS ?_ | refine aA (b := false) rfl nFt (fun _ => ?_)) | (refine aJ ?_;  first | refine bB ?_ | refine bJ ?_) | (refine aY ?_;  first | refine bH ?_))
      all_goals first
        | (exfalso; omega)
        | (refine bA (by first | exact .inl rfl | exact .inr rfl) (aZ rfl (aD rfl)) rfl ?_; rfl)
end Go.Proofs.YtlbemgokilhdnaaGreatDoor.Ab
namespace Go.Proofs.YtlbemgokilhdnaaGreatDoor.Ab
set_option linter.unusedVariables false
set_option linter.unusedSimpArgs false
open Go.RowKit
attribute [local irreducible] AWP AOps AExit AThen ABlock ANoGoto FeetOk
section
variable {P : Program} {T : Tab} {keep : List Nat} {N : Nat} {ops : Array Oper} {K : List Foot → SF → Prop} {o : Oper} {rest : List Oper} {ks : List Foot} {s : List (Nat × AV)} {m : Mem} {d : Nat}
/-- A boxed value, by a name that was reserved. -/
theorem gC (g : Nat) {t : Nat} {x : Operand} {y : AV} (ho : o.op = .box t x) (hw : wantedA ops o (S.f ⟨s, m⟩) = some true) (hd : o.dst = some d) (hN : d < N) (hx : (S.f ⟨s, m⟩).ev x = some y) (h1 : y.cells.all AV.one = true) (hg : m.get g = some .fut) (hy : (AV.namesL y.cells).contains g = false)
    {cs : List AV} (hcs : y.cells = cs) (k : AOps P keep N ops K rest (⟨[g], false, false⟩ :: ks) (S.f ⟨(d, .obj g 0) :: s, m.put g (.cells cs)⟩)) : AOps P keep N ops K (o :: rest) ks (S.f ⟨s, m⟩) := by
  subst hcs
  exact qS hw hd hN (jI g ho hx h1 (by simpa using hy)).fut hg k
end
mutual
/-- Has no node of a tree a mark? -/
def noMark : Tree → Bool
  | .nil => true
  | .node _ _ _ b kids => decide (b = emptyB) && noMarks kids
def noMarks : List Tree → Bool
  | [] => true
  | t :: ts => noMark t && noMarks ts
end
theorem lJ : ∀ {l : List Tree}, noMarks l = true → ∀ t ∈ l, noMark t = true
  | x :: xs, h, t, ht => by
    simp only [noMarks, Bool.and_eq_true] at h
    rcases List.mem_cons.1 ht with rfl | ht
    · exact h.1
    · exact lJ h.2 t ht
theorem nF : ∀ {l : List Tree}, (∀ t ∈ l, noMark t = true) → noMarks l = true
  | [], _ => by rw [noMarks]
  | x :: xs, h => by
    simp only [noMarks, Bool.and_eq_true]
    exact ⟨h x (by simp), nF fun t ht => h t (by simp [ht])⟩
theorem rT {k n : Int} {a b : ByteArray} {kids : List Tree} (h : noMark (.node k n a b kids) = true) : b = emptyB ∧ ∀ t ∈ kids, noMark t = true := by
  rw [noMark, Bool.and_eq_true, decide_eq_true_eq] at h
  exact ⟨h.1, lJ h.2⟩
theorem iX {k n : Int} {a b : ByteArray} {kids : List Tree} (hb : b = emptyB) (h : ∀ t ∈ kids, noMark t = true) : noMark (.node k n a b kids) = true := by
  rw [noMark, Bool.and_eq_true, decide_eq_true_eq]
  exact ⟨hb, nF h⟩
theorem gX {n : Int} {a b : ByteArray} {nm nu : Bool} (h : bareP n a b nm nu = true) : b = emptyB := by
  simp only [bareP, Bool.and_eq_true] at h
  exact pR h.1.1
theorem rU (t : Tree) : isKindP t = true → noMark t = true := by
  induction t using Tree.ind with
  | h1 => intro h; simp [isKindP] at h
  | h2 k n a b kids ih =>
    intro h
    rw [isKindP] at h
    split at h
    · rename_i e
      simp only [Bool.and_eq_true, beq_iff_eq] at h
      have e0 : kids = [] := List.eq_nil_of_length_eq_zero (by omega)
      subst e0
      exact iX (gX h.1) (by simp)
    · split at h
      · rename_i e0 e
        simp only [Bool.and_eq_true] at h
        refine iX (gX h.1.1) fun t ht => ih t ht ?_
        rw [gS, List.all_map] at h
        exact List.all_eq_true.1 h.2 t ht
      · cases h
theorem iH {kind : Int} {t : Tree} (ih : ∀ t' : Tree, t'.size < t.size → isConP t' = true → noMark t' = true) (h : okNamed kind t = true) : noMark t = true := by
  cases t with
  | nil => simp [okNamed] at h
  | node k n a b ks =>
    simp only [okNamed, Bool.and_eq_true, beq_iff_eq] at h
    obtain ⟨⟨⟨rfl, hb⟩, _⟩, h⟩ := h
    by_cases h1 : ks.length = 1
    · obtain ⟨c, rfl⟩ := one_of h1
      refine iX (gX hb) fun t ht => ?_
      obtain rfl := List.mem_singleton.1 ht
      exact ih t (cF (by simp)) (by simpa [isCon1] using h)
    · rw [kS h1] at h; cases h
/-- A constructor has no marks. -/
theorem uK (t : Tree) : isConP t = true → noMark t = true := by
  induction t using Tree.sind with
  | h t ih =>
    intro h
    cases t with
    | nil => simp [isConP] at h
    | node k n a b kids =>
      rw [isConP, Bool.and_eq_true] at h
      obtain ⟨hb, h⟩ := h
      have kid : ∀ t ∈ kids, isConP t = true → noMark t = true := fun t ht => ih t (cF ht)
      refine iX (gX hb) fun t ht => ?_
      have hz := cF (k := k) (n := n) (a := a) (b := b) ht
      by_cases k0 : k = 110
      · rw [if_pos k0] at h
        simp only [Bool.and_eq_true, beq_iff_eq] at h
        have e0 : kids = [] := List.eq_nil_of_length_eq_zero (by omega)
        rw [e0] at ht; cases ht
      · rw [if_neg k0] at h
        by_cases k1 : k = 111 ∨ k = 112 ∨ k = 113
        · rw [if_pos k1] at h
          have e0 : kids = [] := List.eq_nil_of_length_eq_zero (by simpa using h)
          rw [e0] at ht
          cases ht
        · rw [if_neg k1] at h
          by_cases k2 : k = 114 ∨ k = 120
          · rw [if_pos k2, Bool.and_eq_true, mS] at h
            exact kid t ht (List.all_eq_true.1 h.2 t ht)
          · rw [if_neg k2] at h
            by_cases k3 : k = 115
            · rw [if_pos k3, Bool.and_eq_true, dT] at h
              exact iH (fun t' h1 h2 => ih t' (by omega) h2) (List.all_eq_true.1 h.1 t ht)
            · rw [if_neg k3] at h
              by_cases k4 : k = 117 ∨ k = 118 ∨ k = 119
              · rw [if_pos k4] at h
                by_cases h2 : kids.length = 2
                · obtain ⟨x, y, rfl⟩ := two h2
                  simp only [isCon2, Bool.and_eq_true] at h
                  rcases List.mem_cons.1 ht with rfl | ht'
                  · exact rU _ h.1
                  · obtain rfl := List.mem_singleton.1 ht'
                    exact kid _ ht h.2
                · rw [eW h2] at h; cases h
              · rw [if_neg k4] at h
                by_cases k5 : k = 121
                · rw [if_pos k5, Bool.and_eq_true, Bool.and_eq_true, dT] at h
                  exact iH (fun t' h1 h2 => ih t' (by omega) h2) (List.all_eq_true.1 h.1.2 t ht)
                · rw [if_neg k5] at h; cases h
section
variable {σ : Type} (V : Int → Int → σ → Tree × σ) (B : σ → Prop)
theorem oS {k : Int} (n d : Int) (s : σ) {a b : ByteArray} (kids : List Tree) (hk : ¬ k = 110) : walkS V (.node k n a b kids) d s = (.node k n a b (walkSs V kids (d + bindsP k) s).1, (walkSs V kids (d + bindsP k) s).2) := by
  by_cases h : kids.length = 0
  · have e0 : kids = [] := List.eq_nil_of_length_eq_zero h
    subst e0
    rw [jO _ _ _ _ hk, dU]
  · rw [jP _ _ _ _ hk h]
/-- What is refused once stays refused. -/
theorem wY (hV : ∀ n d s, B s → B (V n d s).2) (t : Tree) : ∀ d s, B s → B (walkS V t d s).2 := by
  induction t using Tree.ind with
  | h1 => intro d s h; rw [walkS]; exact h
  | h2 k n a b kids ih =>
    intro d s h
    by_cases k0 : k = 110
    · subst k0; rw [iV]; exact hV _ _ _ h
    · rw [oS V _ _ _ _ k0]
      have key : ∀ (l : List Tree) (s : σ), (∀ t ∈ l, t ∈ kids) → B s → B (walkSs V l (d + bindsP k) s).2 := by
        intro l
        induction l with
        | nil => intro s _ h; rw [dU]; exact h
        | cons t ts ih2 =>
          intro s hm h
          rw [walkSs]
          exact ih2 _ (fun t' h' => hm t' (by simp [h'])) (ih t (hm t (by simp)) _ _ h)
      exact key kids s (fun _ h => h) h
theorem nG (hV : ∀ n d s, B s → B (V n d s).2) (d : Int) : ∀ (l : List Tree) (s : σ), B s → B (walkSs V l d s).2
  | [], s, h => by rw [dU]; exact h
  | t :: ts, s, h => by rw [walkSs]; exact nG hV d ts _ (wY V B hV t d s h)
theorem nH (d : Int) : ∀ (l r : List Tree) (s : σ), (walkSs V (l ++ r) d s).2 = (walkSs V r d (walkSs V l d s).2).2
  | [], r, s => by rw [dU]; rfl
  | t :: ts, r, s => by rw [List.cons_append, walkSs, walkSs]; exact nH d ts r _
theorem uL (hV : ∀ n d s, B s → B (V n d s).2) (d : Int) (s : σ) (l : List Tree) (j : Nat) (h : B (walkSs V (l.take j) d s).2) : B (walkSs V l d s).2 := by
  have e := nH V d (l.take j) (l.drop j) s
  rw [List.take_append_drop] at e
  rw [e]
  exact nG V B hV d _ _ h
end
set_option maxRecDepth 10000 in
theorem yV (k n : Int) (a b : ByteArray) (kids : List Tree) : ACalls Tryz.prog 85 [.imm (Tree.iv (.node k n a b kids))] [] (.imm (.lit (.int .i64 (bindsP k)))) [] := by
  refine aM Tryz.func85 rfl rfl (nb rfl) rfl ?_
  repeat' (first | refine aE ?_ | (refine aH ?_;  first | refine aC tabOk rfl rfl rfl (nb rfl) rfl ?_ | refine bD rfl rfl (nb rfl) ?_ | (refine aK rfl rfl rfl (nb rfl) rfl rfl rfl (fun hq => ?_) (fun hq => ?_) <;> (first | (simp only [sD, sE, sB, sC, sN, sM, sT, sF] at hq; try (exfalso; omega)) | skip))) | (refine aN ?_;  first | refine aG ?_ | refine aQ ?_ | refine aT ?_ | refine aW ?_ | refine aA (b := true) rfl (fun _ => ?_) nTf | refine aA (b := false) rfl nFt (fun _ => ?_)) | (refine aJ ?_;  first | refine bB ?_ | refine aR ?_))
  all_goals (refine bA (by first | exact .inl rfl | exact .inr rfl) (aZ rfl (aD rfl)) rfl ?_; refine fN ?_; unfold bindsP; first | (rw [if_pos (by omega)]; done) | (rw [if_neg (by omega)]; done))
/-- What is told of what was made anew: it, or nil. -/
def told (R : Tree × Bool) : Tree := if R.2 = true then R.1 else .nil
theorem kW (t : Tree) : told (t, true) = t := rfl
theorem nI (t : Tree) : told (t, false) = .nil := rfl
theorem uM (by_ from_ : Int) (n d : Int) (s : Bool) (h : s = false) : (shiftV by_ from_ n d s).2 = false := by
  subst h
  unfold shiftV
  split
  · rfl
  · rw [if_neg (by simp)]
end Go.Proofs.YtlbemgokilhdnaaGreatDoor.Ab
namespace Go.Proofs.YtlbemgokilhdnaaGreatDoor.Ab
set_option linter.unusedVariables false
set_option linter.unusedSimpArgs false
open Go.RowKit
attribute [local irreducible] AWP AOps AExit AThen ABlock ANoGoto FeetOk
set_option maxHeartbeats 16000000 in
set_option maxRecDepth 10000 in
theorem yW (by_ from_ : Int) (t : Tree) : ∀ d : Int, okVars t = true → noMark t = true → t.whole = true → 0 ≤ d → d + t.size ≤ 1000000 →
    ACalls Tryz.prog 60 [.imm t.iv, .imm (.lit (.int .i64 by_)), .imm (.lit (.int .i64 from_)), .imm (.lit (.int .i64 d))] [] (.imm (.tup [(told (walkS (shiftV by_ from_) t d true)).iv, .lit (.bool (walkS (shiftV by_ from_) t d true).2)])) [] := by
  induction t using Tree.ind with
  | h1 => intro d _ _ h; simp [Tree.whole] at h
  | h2 k n a b kids ih =>
    intro d hv hk hw hd hs
    have hl := cI kids hw
    have hsz : (Tree.node k n a b kids).size = 1 + Tree.sizes kids := by rw [Tree.size]
    rw [hsz] at hs
    have ci := yV k n a b kids
    obtain ⟨rfl, hks⟩ := rT hk
    by_cases k110 : k = 110
    · obtain ⟨q1, q2, rfl, _, rfl⟩ := jN k110 hv
      subst k110
      clear ih
      rw [iV]
      unfold shiftV
      by_cases h1 : n < d ∨ n - d < from_
      · rw [if_pos h1]
        refine cY Tryz.func60 rfl rfl (nb rfl) rfl ?_
        refine dL (kF 27 (by simp) rfl rfl) ?_
        repeat' (first | refine aE ?_ | (refine aH ?_;  first | refine aC tabOk rfl rfl rfl (nb rfl) rfl ?_ | refine bD rfl rfl (nb rfl) ?_ | (refine aK rfl rfl rfl (nb rfl) rfl rfl rfl (fun hq => ?_) (fun hq => ?_) <;> (first | (simp only [sD, sE, sB, sC, sN, sM, sT, sF] at hq; try (exfalso; omega)) | skip)) | refine dC (d := 26) tabOk rfl rfl rfl (nb rfl) rfl rfl rfl rfl rfl ?_ | refine gC 27 (d := 27) rfl rfl rfl (nb rfl) rfl rfl rfl rfl rfl ?_ | refine bY rfl rfl rfl (nb rfl) rfl rfl rfl (by omega) (by omega) ?_) | (refine aN ?_;  first | refine aG ?_ | refine aQ ?_ | refine aX ?_ | refine aW ?_ | refine aA (b := false) rfl nFt (fun _ => ?_) | refine bC mixed (by kernel_rfl) ?_) | (refine aJ ?_;  first | refine bB ?_) | refine bU (bQ (by kernel_rfl)) ?_)
        all_goals first
          | exact absurd rfl (by assumption)
          | (exfalso; omega)
          | (refine dL (eD (h0 := 27) (k0 := 4) 500 26 1 rfl rfl (by simp) rfl rfl) ?_
             refine cD (ι := Unit) (fun _ => S.f ⟨[(11, .imm (.lit (.int .i64 0))), (10, .obj 27 0), (0, .imm (Tree.iv (.node 110 n emptyB emptyB [])))], [(500, .arr 26 1 0 []), (27, .cells [.imm (.lit (.int .i64 110)), .imm (.lit (.int .i64 (n))), .imm (.lit (.string ⟨#[]⟩)), .imm (.lit (.string ⟨#[]⟩)), .ref 500 0])]⟩) (fun _ => 0) () (cA (by repeat' first | exact trivial | refine ⟨rfl, ?_⟩) (by repeat' first | exact trivial | refine ⟨rfl, ?_⟩)) ?_
             rintro ⟨⟩
             dsimp only
             repeat' (first | refine aE ?_ | (refine aH ?_;  first | refine aC tabOk rfl rfl rfl (nb rfl) rfl ?_ | (refine aK rfl rfl rfl (nb rfl) rfl rfl rfl (fun hq => ?_) (fun hq => ?_) <;> (first | (simp only [sD, sE, sB, sC, sN, sM, sT, sF] at hq; try (exfalso; omega)) | skip)) | refine aU tabOk rfl rfl (nb rfl) rfl ?_ | refine bG tabOk rfl rfl rfl (nb rfl) rfl rfl rfl rfl (by first | rfl | omega) (by first | omega | simp) ?_ | refine aV tabOk rfl rfl rfl (nb rfl) rfl rfl rfl (bZ _ _ (by first | assumption | omega)) ?_) | (refine aN ?_;  first | refine aG ?_ | refine aQ ?_ | refine aX ?_ | refine aT ?_ | refine bS ?_ | refine aW ?_ | refine aA (b := true) rfl (fun _ => ?_) nTf | refine aA (b := false) rfl nFt (fun _ => ?_) | refine bC mixed (by kernel_rfl) ?_) | (refine aJ ?_;  first | refine bB ?_ | refine bJ ?_) | (refine aY ?_;  first | refine bH ?_))
             all_goals first
               | (exfalso; have hh : (0 : Int) < (([] : List Tree).length : Int) := by assumption
                  simp at hh)
               | (exfalso; omega)
               | (refine dR ((Imp.of_le (σ' := S.f ⟨[(8, .obj 27 0), (9, .imm (.lit (.bool true)))], [(500, .arr 26 1 0 []), (27, .cells [.imm (.lit (.int .i64 110)), .imm (.lit (.int .i64 (n))), .imm (.lit (.string ⟨#[]⟩)), .imm (.lit (.string ⟨#[]⟩)), .ref 500 0])]⟩) (cA (by repeat' first | exact trivial | refine ⟨rfl, ?_⟩) (by repeat' first | exact trivial | refine ⟨rfl, ?_⟩))).trans ((cW (g := 500) rfl (by repeat' first | exact trivial | exact fun _ => rfl | refine ⟨?_, ?_⟩) (by repeat' first | exact trivial | exact fun _ => rfl | refine ⟨?_, ?_⟩)).trans (dK (g := 27) rfl rfl))) ?_
                  refine bA (by first | exact .inl rfl | exact .inr rfl) (bP rfl (aD rfl) (aD rfl)) rfl ?_; rfl))
      · rw [if_neg h1]
        by_cases h2 : d - n ≤ by_ ∧ by_ ≤ 65536 - n
        · rw [if_pos ⟨rfl, h2⟩]
          refine cY Tryz.func60 rfl rfl (nb rfl) rfl ?_
          refine dL (kF 27 (by simp) rfl rfl) ?_
          repeat' (first | refine aE ?_ | (refine aH ?_;  first | refine aC tabOk rfl rfl rfl (nb rfl) rfl ?_ | (refine aK rfl rfl rfl (nb rfl) rfl rfl rfl (fun hq => ?_) (fun hq => ?_) <;> (first | (simp only [sD, sE, sB, sC, sN, sM, sT, sF] at hq; try (exfalso; omega)) | skip)) | refine dC (d := 26) tabOk rfl rfl rfl (nb rfl) rfl rfl rfl rfl rfl ?_ | refine gC 27 (d := 27) rfl rfl rfl (nb rfl) rfl rfl rfl rfl rfl ?_ | refine cG (z := n + by_) rfl rfl rfl (nb rfl) rfl rfl rfl (by omega) (by omega) ?_ | refine bY rfl rfl rfl (nb rfl) rfl rfl rfl (by omega) (by omega) ?_ | refine bM tabOk rfl rfl rfl rfl rfl rfl rfl rfl rfl rfl rfl ?_) | (refine aN ?_;  first | refine aG ?_ | refine aQ ?_ | refine bF ?_ | refine aX ?_ | refine aW ?_ | refine aA (b := true) rfl (fun _ => ?_) nTf | refine aA (b := false) rfl nFt (fun _ => ?_) | refine bC mixed (by kernel_rfl) ?_) | (refine aJ ?_;  first | refine bB ?_) | refine bU (bQ (by kernel_rfl)) ?_)
          all_goals first
            | exact absurd rfl (by assumption)
            | (exfalso; omega)
            | (refine dL (eD (h0 := 27) (k0 := 4) 500 26 1 rfl rfl (by simp) rfl rfl) ?_
               refine cD (ι := Unit) (fun _ => S.f ⟨[(11, .imm (.lit (.int .i64 0))), (10, .obj 27 0), (0, .imm (Tree.iv (.node 110 n emptyB emptyB [])))], [(500, .arr 26 1 0 []), (27, .cells [.imm (.lit (.int .i64 110)), .imm (.lit (.int .i64 (n + by_))), .imm (.lit (.string ⟨#[]⟩)), .imm (.lit (.string ⟨#[]⟩)), .ref 500 0])]⟩) (fun _ => 0) () (cA (by repeat' first | exact trivial | refine ⟨rfl, ?_⟩) (by repeat' first | exact trivial | refine ⟨rfl, ?_⟩)) ?_
               rintro ⟨⟩
               dsimp only
               repeat' (first | refine aE ?_ | (refine aH ?_;  first | refine aC tabOk rfl rfl rfl (nb rfl) rfl ?_ | (refine aK rfl rfl rfl (nb rfl) rfl rfl rfl (fun hq => ?_) (fun hq => ?_) <;> (first | (simp only [sD, sE, sB, sC, sN, sM, sT, sF] at hq; try (exfalso; omega)) | skip)) | refine aU tabOk rfl rfl (nb rfl) rfl ?_ | refine bG tabOk rfl rfl rfl (nb rfl) rfl rfl rfl rfl (by first | rfl | omega) (by first | omega | simp) ?_ | refine aV tabOk rfl rfl rfl (nb rfl) rfl rfl rfl (bZ _ _ (by first | assumption | omega)) ?_) | (refine aN ?_;  first | refine aG ?_ | refine aQ ?_ | refine aX ?_ | refine aT ?_ | refine bS ?_ | refine aW ?_ | refine aA (b := true) rfl (fun _ => ?_) nTf | refine aA (b := false) rfl nFt (fun _ => ?_) | refine bC mixed (by kernel_rfl) ?_) | (refine aJ ?_;  first | refine bB ?_ | refine bJ ?_) | (refine aY ?_;  first | refine bH ?_))
               all_goals first
                 | (exfalso; have hh : (0 : Int) < (([] : List Tree).length : Int) := by assumption
                    simp at hh)
                 | (exfalso; omega)
                 | (refine dR ((Imp.of_le (σ' := S.f ⟨[(8, .obj 27 0), (9, .imm (.lit (.bool true)))], [(500, .arr 26 1 0 []), (27, .cells [.imm (.lit (.int .i64 110)), .imm (.lit (.int .i64 (n + by_))), .imm (.lit (.string ⟨#[]⟩)), .imm (.lit (.string ⟨#[]⟩)), .ref 500 0])]⟩) (cA (by repeat' first | exact trivial | refine ⟨rfl, ?_⟩) (by repeat' first | exact trivial | refine ⟨rfl, ?_⟩))).trans ((cW (g := 500) rfl (by repeat' first | exact trivial | exact fun _ => rfl | refine ⟨?_, ?_⟩) (by repeat' first | exact trivial | exact fun _ => rfl | refine ⟨?_, ?_⟩)).trans (dK (g := 27) rfl rfl))) ?_
                    refine bA (by first | exact .inl rfl | exact .inr rfl) (bP rfl (aD rfl) (aD rfl)) rfl ?_; rfl))
        · rw [if_neg (by simp only [true_and]; exact h2)]
          refine cY Tryz.func60 rfl rfl (nb rfl) rfl ?_
          refine dL (kF 27 (by simp) rfl rfl) ?_
          repeat' (first | refine aE ?_ | (refine aH ?_;  first | refine aC tabOk rfl rfl rfl (nb rfl) rfl ?_ | refine bD rfl rfl (nb rfl) ?_ | (refine aK rfl rfl rfl (nb rfl) rfl rfl rfl (fun hq => ?_) (fun hq => ?_) <;> (first | (simp only [sD, sE, sB, sC, sN, sM, sT, sF] at hq; try (exfalso; omega)) | skip)) | refine dC (d := 26) tabOk rfl rfl rfl (nb rfl) rfl rfl rfl rfl rfl ?_ | refine gC 27 (d := 27) rfl rfl rfl (nb rfl) rfl rfl rfl rfl rfl ?_ | refine bY rfl rfl rfl (nb rfl) rfl rfl rfl (by omega) (by omega) ?_) | (refine aN ?_;  first | refine aG ?_ | refine aQ ?_ | refine aT ?_ | refine aA (b := true) rfl (fun _ => ?_) nTf | refine bC mixed (by kernel_rfl) ?_) | (refine aJ ?_;  first | refine bB ?_ | refine aR ?_) | refine bU (bQ (by kernel_rfl)) ?_)
          all_goals first
            | exact absurd rfl (by assumption)
            | (exfalso; omega)
            | (refine jM ?_; refine bA (by first | exact .inl rfl | exact .inr rfl) (bP rfl (aD rfl) (aD rfl)) rfl ?_; rfl)
    · have e := oS (shiftV by_ from_) n d true (a := a) (b := emptyB) kids k110
      rw [e]
      clear e
      have hb := kT k
      have hvs := hX k110 hv
      obtain ⟨Y, hY⟩ : ∃ Y, walkSs (shiftV by_ from_) kids (d + bindsP k) true = Y := ⟨_, rfl⟩
      rw [hY]
      refine cY Tryz.func60 rfl rfl (nb rfl) rfl ?_
      refine dL (kF 27 (by simp) rfl rfl) ?_
      repeat' (first | refine aE ?_ | (refine aH ?_;  first | refine aC tabOk rfl rfl rfl (nb rfl) rfl ?_ | refine bD rfl rfl (nb rfl) ?_ | (refine aK rfl rfl rfl (nb rfl) rfl rfl rfl (fun hq => ?_) (fun hq => ?_) <;> (first | (simp only [sD, sE, sB, sC, sN, sM, sT, sF] at hq; try (exfalso; omega)) | skip)) | refine dC (d := 26) tabOk rfl rfl rfl (nb rfl) rfl rfl rfl rfl rfl ?_ | refine gC 27 (d := 27) rfl rfl rfl (nb rfl) rfl rfl rfl rfl rfl ?_) | (refine aN ?_;  first | refine aG ?_ | refine aQ ?_ | refine aX ?_ | refine aW ?_ | refine aA (b := false) rfl nFt (fun _ => ?_) | refine bC mixed (by kernel_rfl) ?_) | (refine aJ ?_;  first | refine bB ?_) | refine bU (bQ (by kernel_rfl)) ?_)
      all_goals first
        | exact absurd (by assumption) k110
        | (exfalso; omega)
        | skip
      refine dL (eD (h0 := 27) (k0 := 4) 500 26 1 rfl rfl (by simp) rfl rfl) ?_
      refine cD (ι := {j : Nat // j ≤ kids.length ∧ (walkSs (shiftV by_ from_) (kids.take j) (d + bindsP k) true).2 = true}) (fun j => S.f ⟨[(11, .imm (.lit (.int .i64 (j.1 : Int)))), (10, .obj 27 0), (0, .imm (Tree.iv (.node k n a emptyB kids))), (1, .imm (.lit (.int .i64 by_))), (2, .imm (.lit (.int .i64 from_))), (3, .imm (.lit (.int .i64 d)))], [(500, .arr 26 1 j.1 (Tree.ivs (walkSs (shiftV by_ from_) (kids.take j.1) (d + bindsP k) true).1)), (27, .cells [.imm (.lit (.int .i64 k)), .imm (.lit (.int .i64 n)), .imm (.lit (.string a)), .imm (.lit (.string ⟨#[]⟩)), .ref 500 j.1])]⟩) (fun j => kids.length - j.1) ⟨0, Nat.zero_le _, by rw [List.take_zero, dU]⟩ (by dsimp only; rw [List.take_zero, dU]; exact (cA (by repeat' first | exact trivial | refine ⟨rfl, ?_⟩) (by repeat' first | exact trivial | refine ⟨rfl, ?_⟩))) ?_
      rintro ⟨j, hj, hok⟩
      dsimp only
      by_cases hlt : j < kids.length
      · have hm := List.getElem_mem hlt
        have hz := eB hm
        have hwk := bN hw hm
        have hget := bZ kids j hlt
        have hc := ih _ hm (d + bindsP k) (hvs _ hm) (hks _ hm) hwk (by omega) (by omega)
        have htk := iA (shiftV by_ from_) (d + bindsP k) true hlt
        rw [hok] at htk
        have hfn := (mT (shiftV by_ from_) (fun _ => True) (fun _ => 0) (fun n d s _ _ _ _ _ => ⟨(fG by_ from_ n d s).1, trivial, by rw [(fG by_ from_ n d s).2]; omega⟩) kids[j] (d + bindsP k) true (hvs _ hm) hwk (by omega) (by omega) trivial).1
        clear ih
        generalize hR : walkS (shiftV by_ from_) kids[j] (d + bindsP k) true = R at *
        obtain ⟨R1, R2⟩ := R
        dsimp only at hc hfn htk
        obtain ⟨pm, hpm⟩ := dF (cR hfn)
        cases R2 with
        | false =>
          have hbad : Y.2 = false := by
            rw [← hY]
            refine uL _ (fun s => s = false) (fun n d s h => uM by_ from_ n d s h) _ _ _ (j + 1) ?_
            rw [htk]
          have hres : told ((Tree.node k n a emptyB Y.1), Y.2) = .nil ∧ Y.2 = false := ⟨by rw [hbad]; rfl, hbad⟩
          rw [nI] at hc
          rw [hres.1, hres.2]
          clear hY htk
          generalize Tree.ivs (walkSs (shiftV by_ from_) (kids.take j) (d + bindsP k) true).1 = ZI at *
          repeat' (first | refine aE ?_ | (refine aH ?_;  first | refine aC tabOk rfl rfl rfl (nb rfl) rfl ?_ | (refine aK rfl rfl rfl (nb rfl) rfl rfl rfl (fun hq => ?_) (fun hq => ?_) <;> (first | (simp only [sD, sE, sB, sC, sN, sM, sT, sF] at hq; try (exfalso; omega)) | skip)) | refine aV tabOk rfl rfl rfl (nb rfl) rfl rfl rfl hget ?_ | refine aI rfl rfl (nb rfl) rfl rfl rfl rfl (hc) ?_ | refine aI rfl rfl (nb rfl) rfl rfl rfl rfl (ci) ?_ | refine cG rfl rfl rfl (nb rfl) rfl rfl rfl (by omega) (by omega) ?_ | refine aU tabOk rfl rfl (nb rfl) rfl ?_ | refine bI tabOk rfl rfl rfl (nb rfl) rfl rfl rfl rfl (by first | assumption | omega) ?_) | (refine aN ?_;  first | refine aG ?_ | refine aQ ?_ | refine aX ?_ | refine aT ?_ | refine aW ?_ | refine aA (b := true) rfl (fun _ => ?_) nTf | refine bC mixed (by kernel_rfl) ?_) | (refine aJ ?_;  first | refine bB ?_ | refine aR ?_) | (refine aY ?_;  first | refine bE ?_) | refine bU (bQ (by kernel_rfl)) ?_)
          all_goals first
            | (exfalso; omega)
            | (refine jM ?_; refine bA (by first | exact .inl rfl | exact .inr rfl) (bP rfl (aD rfl) (aD rfl)) rfl ?_; rfl)
        | true =>
          have hnx : Tree.ivs (walkSs (shiftV by_ from_) (kids.take (j + 1)) (d + bindsP k) true).1 = Tree.ivs (walkSs (shiftV by_ from_) (kids.take j) (d + bindsP k) true).1 ++ [.ptr pm 0] := by
            rw [htk, dW, dW, List.map_append, ← hpm]; rfl
          have hok2 : (walkSs (shiftV by_ from_) (kids.take (j + 1)) (d + bindsP k) true).2 = true := by rw [htk]
          have hil := gR (walkSs (shiftV by_ from_) (kids.take j) (d + bindsP k) true).1
          rw [fB, List.length_take, Nat.min_eq_left hj] at hil
          rw [kW, hpm] at hc
          clear htk hY
          generalize Tree.ivs (walkSs (shiftV by_ from_) (kids.take j) (d + bindsP k) true).1 = ZI at *
          repeat' (first | refine aE ?_ | (refine aH ?_;  first | refine aC tabOk rfl rfl rfl (nb rfl) rfl ?_ | (refine aK rfl rfl rfl (nb rfl) rfl rfl rfl (fun hq => ?_) (fun hq => ?_) <;> (first | (simp only [sD, sE, sB, sC, sN, sM, sT, sF] at hq; try (exfalso; omega)) | skip)) | refine aV tabOk rfl rfl rfl (nb rfl) rfl rfl rfl hget ?_ | refine aI rfl rfl (nb rfl) rfl rfl rfl rfl (hc) ?_ | refine aI rfl rfl (nb rfl) rfl rfl rfl rfl (ci) ?_ | refine dB tabOk rfl rfl rfl (nb rfl) rfl rfl rfl rfl rfl rfl rfl (by first | omega | decide) rfl (by first | omega | (dsimp only; omega)) (by first | omega | (dsimp only; omega)) ?_ | refine bK rfl rfl rfl (nb rfl) rfl rfl (by omega) ?_ | refine cG rfl rfl rfl (nb rfl) rfl rfl rfl (by omega) (by omega) ?_ | refine bV tabOk rfl rfl rfl (nb rfl) rfl rfl rfl rfl rfl rfl rfl rfl rfl ?_ | refine aU tabOk rfl rfl (nb rfl) rfl ?_ | refine bT tabOk rfl rfl rfl (nb rfl) rfl rfl rfl rfl ?_ | refine bM tabOk rfl rfl rfl rfl rfl rfl rfl rfl rfl rfl rfl ?_ | refine bI tabOk rfl rfl rfl (nb rfl) rfl rfl rfl rfl (by first | assumption | omega) ?_) | (refine aN ?_;  first | refine aG ?_ | refine aQ ?_ | refine bF ?_ | refine aX ?_ | refine aW ?_ | refine aA (b := true) rfl (fun _ => ?_) nTf | refine aA (b := false) rfl nFt (fun _ => ?_) | refine bC mixed (by kernel_rfl) ?_) | (refine aJ ?_;  first | refine bB ?_) | (refine aY ?_;  first | refine bR ?_) | refine bU (bQ (by kernel_rfl)) ?_)
          all_goals first
            | (exfalso; omega)
            | (refine ⟨⟨j + 1, hlt, hok2⟩, (by show kids.length - (j + 1) < kids.length - j; omega), ?_⟩; dsimp only; rw [hnx]; exact (cA (by repeat' first | exact trivial | refine ⟨rfl, ?_⟩) (by repeat' first | exact trivial | refine ⟨rfl, ?_⟩)))
      · have ej : j = kids.length := by omega
        subst ej
        rw [List.take_length] at hok ⊢
        rw [hY] at hok ⊢
        have hll : Y.1.length = kids.length := by rw [← hY, fB]
        have hiv : (told ((Tree.node k n a emptyB Y.1), Y.2)).iv = .ptr [.lit (.int .i64 k), .lit (.int .i64 n), .lit (.string a), .lit (.string ⟨#[]⟩), .sl false kids.length (Tree.ivs Y.1)] 0 := by rw [hok, kW, Tree.iv, hll]; rfl
        rw [hiv, hok]
        clear ih hY
        generalize Tree.ivs Y.1 = ZI at *
        repeat' (first | refine aE ?_ | (refine aH ?_;  first | refine aC tabOk rfl rfl rfl (nb rfl) rfl ?_ | (refine aK rfl rfl rfl (nb rfl) rfl rfl rfl (fun hq => ?_) (fun hq => ?_) <;> (first | (simp only [sD, sE, sB, sC, sN, sM, sT, sF] at hq; try (exfalso; omega)) | skip)) | refine aU tabOk rfl rfl (nb rfl) rfl ?_) | (refine aN ?_;  first | refine aG ?_ | refine aQ ?_ | refine aT ?_ | refine bS ?_ | refine aA (b := false) rfl nFt (fun _ => ?_)) | (refine aJ ?_;  first | refine bB ?_ | refine bJ ?_) | (refine aY ?_;  first | refine bH ?_))
        all_goals first
          | (exfalso; omega)
          | (refine dR ((Imp.of_le (σ' := S.f ⟨[(8, .obj 27 0), (9, .imm (.lit (.bool true)))], [(500, .arr 26 1 kids.length ZI), (27, .cells [.imm (.lit (.int .i64 k)), .imm (.lit (.int .i64 n)), .imm (.lit (.string a)), .imm (.lit (.string ⟨#[]⟩)), .ref 500 kids.length])]⟩) (cA (by repeat' first | exact trivial | refine ⟨rfl, ?_⟩) (by repeat' first | exact trivial | refine ⟨rfl, ?_⟩))).trans ((cW (g := 500) rfl (by repeat' first | exact trivial | exact fun _ => rfl | refine ⟨?_, ?_⟩) (by repeat' first | exact trivial | exact fun _ => rfl | refine ⟨?_, ?_⟩)).trans (dK (g := 27) rfl rfl))) ?_
             refine bA (by first | exact .inl rfl | exact .inr rfl) (bP rfl (aD rfl) (aD rfl)) rfl ?_; rfl)
end Go.Proofs.YtlbemgokilhdnaaGreatDoor.Ab
namespace Go.Proofs.YtlbemgokilhdnaaGreatDoor.Ab
set_option linter.unusedVariables false
set_option linter.unusedSimpArgs false
open Go.RowKit
attribute [local irreducible] AWP AOps AExit AThen ABlock ANoGoto FeetOk
end Go.Proofs.YtlbemgokilhdnaaGreatDoor.Ab
namespace Go.Proofs.YtlbemgokilhdnaaGreatDoor.Ab
set_option linter.unusedVariables false
set_option linter.unusedSimpArgs false
open Go.RowKit
attribute [local irreducible] AWP AOps AExit AThen ABlock ANoGoto FeetOk
/-- What within tells first. -/
def withinL (t : Tree) (l : Int) : Int := if (wholeP t l).1 = 0 then (wholeP t l).2 else match t with | .nil => l | .node .. => 0
set_option maxHeartbeats 8000000 in
set_option maxRecDepth 10000 in
theorem uN (t : Tree) : ∀ l : Int, 0 ≤ l → l ≤ 1000000 → ACalls Tryz.prog 58 [.imm t.iv, .imm (.lit (.int .i64 l))] [] (.imm (.tup [.lit (.int .i64 (withinL t l)), .lit (.int .i64 (wholeP t l).1)])) [] := by
  induction t using Tree.ind with
  | h1 => intro l h0 h1; exact uI l
  | h2 k n a b kids ih =>
    intro l h0 h1
    by_cases hl0 : l = 0
    · subst hl0
      refine aM Tryz.func58 rfl rfl (nb rfl) rfl ?_
      repeat' (first | refine aE ?_ | (refine aH ?_;  first | refine aC tabOk rfl rfl rfl (nb rfl) rfl ?_ | (refine aK rfl rfl rfl (nb rfl) rfl rfl rfl (fun hq => ?_) (fun hq => ?_) <;> (first | (simp only [sD, sE, sB, sC, sN, sM, sT, sF] at hq; try (exfalso; omega)) | skip)) | refine aU tabOk rfl rfl (nb rfl) rfl ?_) | (refine aN ?_;  first | refine aG ?_ | refine aQ ?_ | refine aT ?_ | refine aW ?_ | refine aA (b := true) rfl (fun _ => ?_) nTf | refine aA (b := false) rfl nFt (fun _ => ?_)) | (refine aJ ?_;  first | refine bB ?_ | refine aR ?_))
      all_goals first
        | exact absurd rfl (by assumption)
        | (exfalso; omega)
        | (refine bA (by first | exact .inl rfl | exact .inr rfl) (bP rfl (aD rfl) (aD rfl)) rfl ?_; rfl)
    · obtain ⟨W, hW⟩ : ∃ W, wholeP (.node k n a b kids) l = W := ⟨_, rfl⟩
      have hwl : withinL (.node k n a b kids) l = if W.1 = 0 then W.2 else 0 := by unfold withinL; rw [hW]
      rw [hwl, hW]
      rw [wholeP, if_neg (by omega)] at hW
      have hbd : ∀ j, (wholePs (kids.take j) (l - 1)).1 = 0 → 0 ≤ (wholePs (kids.take j) (l - 1)).2 ∧ (wholePs (kids.take j) (l - 1)).2 + (kids.take j).length ≤ l - 1 := fun j h => eR _ _ (by omega) h
      refine aM Tryz.func58 rfl rfl (nb rfl) rfl ?_
      repeat' (first | refine aE ?_ | (refine aH ?_;  first | refine aC tabOk rfl rfl rfl (nb rfl) rfl ?_ | (refine aK rfl rfl rfl (nb rfl) rfl rfl rfl (fun hq => ?_) (fun hq => ?_) <;> (first | (simp only [sD, sE, sB, sC, sN, sM, sT, sF] at hq; try (exfalso; omega)) | skip)) | refine bY (z := l - 1) rfl rfl rfl (nb rfl) rfl rfl (by omega) (by omega) (by omega) ?_ | refine aU tabOk rfl rfl (nb rfl) rfl ?_) | (refine aN ?_;  first | refine aG ?_ | refine aQ ?_ | refine aX ?_ | refine aW ?_ | refine aA (b := false) rfl nFt (fun _ => ?_)) | (refine aJ ?_;  first | refine bB ?_))
      all_goals first
        | exact absurd (by assumption) hl0
        | (exfalso; omega)
        | skip
      refine cD (ι := {j : Nat // j ≤ kids.length ∧ (wholePs (kids.take j) (l - 1)).1 = 0}) (fun j => S.f ⟨[(6, .imm (.lit (.int .i64 (j.1 : Int)))), (1, .imm (.lit (.int .i64 (wholePs (kids.take j.1) (l - 1)).2))), (0, .imm (Tree.iv (.node k n a b kids)))], []⟩) (fun j => kids.length - j.1) ⟨0, Nat.zero_le _, by rw [List.take_zero, wholePs]⟩ (by dsimp only; rw [List.take_zero, wholePs]; exact (cA (by repeat' first | exact trivial | refine ⟨rfl, ?_⟩) (by repeat' first | exact trivial | refine ⟨rfl, ?_⟩))) ?_
      rintro ⟨j, hj, hok⟩
      dsimp only
      have hb := hbd j hok
      rw [List.length_take, Nat.min_eq_left hj] at hb
      by_cases hlt : j < kids.length
      · have hm := List.getElem_mem hlt
        have hget := bZ kids j hlt
        have hc := ih _ hm (wholePs (kids.take j) (l - 1)).2 hb.1 (by omega)
        have hstep := gU hlt hok
        have hstop := fun h => gV hlt hok h
        clear ih
        by_cases he : (wholeP kids[j] (wholePs (kids.take j) (l - 1)).2).1 = 0
        · have hok2 : (wholePs (kids.take (j + 1)) (l - 1)).1 = 0 := by rw [hstep]; exact he
          unfold withinL at hc
          rw [if_pos he, he, ← hstep] at hc
          clear hstop hstep he
          generalize (wholePs (kids.take j) (l - 1)).2 = X at *
          generalize hZ : (wholePs (kids.take (j + 1)) (l - 1)).2 = Z at hc
          repeat' (first | refine aE ?_ | (refine aH ?_;  first | refine aC tabOk rfl rfl rfl (nb rfl) rfl ?_ | (refine aK rfl rfl rfl (nb rfl) rfl rfl rfl (fun hq => ?_) (fun hq => ?_) <;> (first | (simp only [sD, sE, sB, sC, sN, sM, sT, sF] at hq; try (exfalso; omega)) | skip)) | refine aV tabOk rfl rfl rfl (nb rfl) rfl rfl rfl hget ?_ | refine aI rfl rfl (nb rfl) rfl rfl rfl rfl (hc) ?_ | refine bK rfl rfl rfl (nb rfl) rfl rfl (by omega) ?_ | refine aU tabOk rfl rfl (nb rfl) rfl ?_ | refine bI tabOk rfl rfl rfl (nb rfl) rfl rfl rfl rfl (by first | assumption | omega) ?_) | (refine aN ?_;  first | refine aG ?_ | refine aQ ?_ | refine bF ?_ | refine aX ?_ | refine aW ?_ | refine aA (b := true) rfl (fun _ => ?_) nTf | refine aA (b := false) rfl nFt (fun _ => ?_)) | (refine aJ ?_;  first | refine bB ?_) | (refine aY ?_;  first | refine bR ?_))
          all_goals first
            | exact absurd rfl (by assumption)
            | (exfalso; omega)
            | (refine ⟨⟨j + 1, hlt, hok2⟩, (by show kids.length - (j + 1) < kids.length - j; omega), ?_⟩; dsimp only; rw [hZ]; exact (cA (by repeat' first | exact trivial | refine ⟨rfl, ?_⟩) (by repeat' first | exact trivial | refine ⟨rfl, ?_⟩)))
        · have e1 : W.1 = (wholeP kids[j] (wholePs (kids.take j) (l - 1)).2).1 := by rw [← hW, hstop he]
          rw [← e1] at hc he
          rw [if_neg he]
          clear hstop hstep
          generalize (wholePs (kids.take j) (l - 1)).2 = X at *
          generalize W.1 = E at *
          repeat' (first | refine aE ?_ | (refine aH ?_;  first | refine aC tabOk rfl rfl rfl (nb rfl) rfl ?_ | (refine aK rfl rfl rfl (nb rfl) rfl rfl rfl (fun hq => ?_) (fun hq => ?_) <;> (first | (simp only [sD, sE, sB, sC, sN, sM, sT, sF] at hq; try (exfalso; omega)) | skip)) | refine aV tabOk rfl rfl rfl (nb rfl) rfl rfl rfl hget ?_ | refine aI rfl rfl (nb rfl) rfl rfl rfl rfl (hc) ?_ | refine aU tabOk rfl rfl (nb rfl) rfl ?_ | refine bI tabOk rfl rfl rfl (nb rfl) rfl rfl rfl rfl (by first | assumption | omega) ?_) | (refine aN ?_;  first | refine aG ?_ | refine aQ ?_ | refine aX ?_ | refine aT ?_ | refine aW ?_ | refine aA (b := true) rfl (fun _ => ?_) nTf) | (refine aJ ?_;  first | refine bB ?_ | refine aR ?_) | (refine aY ?_;  first | refine bE ?_))
          all_goals first
            | exact absurd (by assumption) he
            | (exfalso; omega)
            | (refine bA (by first | exact .inl rfl | exact .inr rfl) (bP rfl (aD rfl) (aD rfl)) rfl ?_; rfl)
      · have ej : j = kids.length := by omega
        subst ej
        rw [List.take_length] at hok ⊢
        rw [hW] at hok ⊢
        rw [hok, if_pos rfl]
        clear hbd ih
        repeat' (first | refine aE ?_ | (refine aH ?_;  first | refine aC tabOk rfl rfl rfl (nb rfl) rfl ?_ | (refine aK rfl rfl rfl (nb rfl) rfl rfl rfl (fun hq => ?_) (fun hq => ?_) <;> (first | (simp only [sD, sE, sB, sC, sN, sM, sT, sF] at hq; try (exfalso; omega)) | skip)) | refine aU tabOk rfl rfl (nb rfl) rfl ?_) | (refine aN ?_;  first | refine aG ?_ | refine aQ ?_ | refine aT ?_ | refine bS ?_ | refine aA (b := false) rfl nFt (fun _ => ?_)) | (refine aJ ?_;  first | refine bB ?_ | refine bJ ?_) | (refine aY ?_;  first | refine bH ?_))
        all_goals first
          | exact absurd rfl (by assumption)
          | (exfalso; omega)
          | (refine bA (by first | exact .inl rfl | exact .inr rfl) (bP rfl (aD rfl) (aD rfl)) rfl ?_; rfl)
set_option maxHeartbeats 4000000 in
set_option maxRecDepth 10000 in
theorem pW (t : Tree) (hs : t.size ≤ 1000000) : ACalls Tryz.prog 29 [.imm t.iv] [] (.imm (.lit (.int .i64 (checkP isConP t)))) [] := by
  have c1 := uN t 65536 (by omega) (by omega)
  unfold checkP
  by_cases hw : (wholeP t 65536).1 = 0
  · rw [if_pos hw]
    rw [hw] at c1
    have c2 := yR t (eF t _ hw) hs
    cases hc : isConP t <;> (
      rw [hc] at c2
      refine aM Tryz.func29 rfl rfl (nb rfl) rfl ?_
      repeat' (first | refine aE ?_ | (refine aH ?_;  first | refine aC tabOk rfl rfl rfl (nb rfl) rfl ?_ | (refine aK rfl rfl rfl (nb rfl) rfl rfl rfl (fun hq => ?_) (fun hq => ?_) <;> (first | (simp only [sD, sE, sB, sC, sN, sM, sT, sF] at hq; try (exfalso; omega)) | skip)) | refine aI rfl rfl (nb rfl) rfl rfl rfl rfl (c1) ?_ | refine aI rfl rfl (nb rfl) rfl rfl rfl rfl (c2) ?_) | (refine aN ?_;  first | refine aG ?_ | refine aQ ?_ | refine aT ?_ | refine aW ?_ | refine aA (b := true) rfl (fun _ => ?_) nTf | refine aA (b := false) rfl nFt (fun _ => ?_)) | (refine aJ ?_;  first | refine bB ?_ | refine aR ?_))
      all_goals first
        | exact absurd rfl (by assumption)
        | (refine bA (by first | exact .inl rfl | exact .inr rfl) (aZ rfl (aD rfl)) rfl ?_; rfl))
  · rw [if_neg hw]
    generalize (wholeP t 65536).1 = E at *
    refine aM Tryz.func29 rfl rfl (nb rfl) rfl ?_
    repeat' (first | refine aE ?_ | (refine aH ?_;  first | refine aC tabOk rfl rfl rfl (nb rfl) rfl ?_ | (refine aK rfl rfl rfl (nb rfl) rfl rfl rfl (fun hq => ?_) (fun hq => ?_) <;> (first | (simp only [sD, sE, sB, sC, sN, sM, sT, sF] at hq; try (exfalso; omega)) | skip)) | refine aI rfl rfl (nb rfl) rfl rfl rfl rfl (c1) ?_) | (refine aN ?_;  first | refine aG ?_ | refine aQ ?_ | refine aT ?_ | refine aA (b := true) rfl (fun _ => ?_) nTf) | (refine aJ ?_;  first | refine aR ?_))
    all_goals first
      | exact absurd (by assumption) hw
      | (refine bA (by first | exact .inl rfl | exact .inr rfl) (aZ rfl (aD rfl)) rfl ?_; rfl)
end Go.Proofs.YtlbemgokilhdnaaGreatDoor.Ab
namespace Go.Proofs.YtlbemgokilhdnaaGreatDoor.Ab
set_option linter.unusedVariables false
set_option linter.unusedSimpArgs false
theorem rV (by_ : Tree) (hb : checkP isConP by_ = 0) (d : Int) : shiftP by_ d 0 = if (walkS (shiftV d 0) by_ 0 true).2 = true then ((walkS (shiftV d 0) by_ 0 true).1, 0) else (.nil, 2) := by
  unfold shiftP
  rw [if_pos hb, decide_eq_true (Int.le_refl _)]
end Go.Proofs.YtlbemgokilhdnaaGreatDoor.Ab
namespace Go.Proofs.YtlbemgokilhdnaaGreatDoor.Ab
set_option linter.unusedVariables false
set_option linter.unusedSimpArgs false
open Go.RowKit
attribute [local irreducible] AWP AOps AExit AThen ABlock ANoGoto FeetOk
end Go.Proofs.YtlbemgokilhdnaaGreatDoor.Ab
namespace Go.Proofs.YtlbemgokilhdnaaGreatDoor.Ab
set_option linter.unusedVariables false
set_option linter.unusedSimpArgs false
open Go.RowKit
attribute [local irreducible] AWP AOps AExit AThen ABlock ANoGoto FeetOk
end Go.Proofs.YtlbemgokilhdnaaGreatDoor.Ab
namespace Go.Proofs.YtlbemgokilhdnaaGreatDoor.Ab
set_option linter.unusedVariables false
set_option linter.unusedSimpArgs false
open Go.RowKit
attribute [local irreducible] AWP AOps AExit AThen ABlock ANoGoto FeetOk
/-- A node with kids alone. -/
def conT (k : Int) (kids : List Tree) : Tree := .node k 0 emptyB emptyB kids
def conIV (k : Int) (n : Nat) (cs : List IV) : IV := .ptr [.lit (.int .i64 k), .lit (.int .i64 0), .lit (.string ⟨#[]⟩), .lit (.string ⟨#[]⟩), .sl false n cs] 0
theorem cU (k : Int) (kids : List Tree) : (conT k kids).iv = conIV k kids.length (Tree.ivs kids) := by unfold conT conIV; rw [Tree.iv]; rfl
def higherT : Tree := conT 101 [conT 100 [], conT 100 []]
def starT : Tree := conT 100 []
/-- What a token is handed. -/
def tokP (c : Tree) : Tree × Int := if (shiftP c 1 0).2 ≠ 0 then (.nil, 3) else (conT 120 [conT 110 [], (shiftP c 1 0).1], 0)
def aroundP (kind : Int) : Nat → Tree → Tree
  | 0, c => c
  | n + 1, c => conT kind [starT, aroundP kind n c]
set_option maxHeartbeats 4000000 in
set_option maxRecDepth 10000 in
theorem kH (k : Int) (f : Bool) (n : Nat) (cs : List IV) : ACalls Tryz.prog 27 [.imm (.lit (.int .i64 k)), .imm (.sl f n cs)] [] (.imm (conIV k n cs)) [] := by
  refine cY Tryz.func27 rfl rfl (nb rfl) rfl ?_
  repeat' (first | refine aE ?_ | (refine aH ?_;  first | refine aC tabOk rfl rfl rfl (nb rfl) rfl ?_ | refine dC tabOk rfl rfl rfl (nb rfl) rfl rfl rfl rfl rfl ?_ | refine eU (t := 57) rfl rfl rfl (nb rfl) rfl rfl rfl rfl rfl rfl rfl ?_) | (refine aN ?_;  first | refine aG ?_ | refine aT ?_))
  all_goals (refine dR (dK (g := 8) rfl rfl) ?_; refine bA (by first | exact .inl rfl | exact .inr rfl) (aZ rfl (aD rfl)) rfl ?_; cases f <;> rfl)
set_option maxHeartbeats 4000000 in
set_option maxRecDepth 10000 in
theorem pX (k : Int) : ACalls Tryz.prog 27 [.imm (.lit (.int .i64 k)), .imm (.lit (.slice none 0 0))] [] (.imm (conIV k 0 [])) [] := by
  refine cY Tryz.func27 rfl rfl (nb rfl) rfl ?_
  repeat' (first | refine aE ?_ | (refine aH ?_;  first | refine aC tabOk rfl rfl rfl (nb rfl) rfl ?_ | refine dC tabOk rfl rfl rfl (nb rfl) rfl rfl rfl rfl rfl ?_ | refine eU (t := 57) rfl rfl rfl (nb rfl) rfl rfl rfl rfl rfl rfl rfl ?_) | (refine aN ?_;  first | refine aG ?_ | refine aT ?_))
  all_goals (refine dR ((eD (h0 := 8) (k0 := 4) 500 26 1 rfl rfl (by simp) rfl rfl).trans ((cW (g := 500) rfl (by repeat' first | exact trivial | exact fun _ => rfl | refine ⟨?_, ?_⟩) (by repeat' first | exact trivial | exact fun _ => rfl | refine ⟨?_, ?_⟩)).trans (dK (g := 8) rfl rfl))) ?_; refine bA (by first | exact .inl rfl | exact .inr rfl) (aZ rfl (aD rfl)) rfl ?_; rfl)
set_option maxHeartbeats 4000000 in
set_option maxRecDepth 10000 in
theorem rW : ACalls Tryz.prog 28 [] [] (.imm higherT.iv) [] := by
  have c0 := pX 100
  have c1 := kH 101 true 2 [conIV 100 0 [], conIV 100 0 []]
  unfold conIV at *
  refine aM Tryz.func28 rfl rfl (nb rfl) rfl ?_
  repeat' (first | refine aE ?_ | (refine aH ?_;  first | refine aC tabOk rfl rfl rfl (nb rfl) rfl ?_ | refine aI rfl rfl (nb rfl) rfl rfl rfl rfl (c0) ?_ | refine aI rfl rfl (nb rfl) rfl rfl rfl rfl (c1) ?_ | refine bV tabOk rfl rfl rfl (nb rfl) rfl rfl rfl rfl rfl rfl rfl rfl rfl ?_) | (refine aN ?_;  first | refine aG ?_ | refine aT ?_))
  all_goals (refine bA (by first | exact .inl rfl | exact .inr rfl) (aZ rfl (aD rfl)) rfl ?_; rfl)
set_option maxHeartbeats 4000000 in
set_option maxRecDepth 10000 in
theorem eS (k : Int) (f : Bool) (n : Nat) (cs : List IV) : ACalls Tryz.prog 31 [.imm (.lit (.int .i64 k)), .imm (.sl f n cs)] [] (.imm (conIV k n cs)) [] := by
  refine cY Tryz.func31 rfl rfl (nb rfl) rfl ?_
  repeat' (first | refine aE ?_ | (refine aH ?_;  first | refine aC tabOk rfl rfl rfl (nb rfl) rfl ?_ | refine dC tabOk rfl rfl rfl (nb rfl) rfl rfl rfl rfl rfl ?_ | refine eU (t := 57) rfl rfl rfl (nb rfl) rfl rfl rfl rfl rfl rfl rfl ?_) | (refine aN ?_;  first | refine aG ?_ | refine aT ?_))
  all_goals (refine dR (dK (g := 8) rfl rfl) ?_; refine bA (by first | exact .inl rfl | exact .inr rfl) (aZ rfl (aD rfl)) rfl ?_; cases f <;> rfl)
set_option maxHeartbeats 4000000 in
set_option maxRecDepth 10000 in
theorem iI (k : Int) : ACalls Tryz.prog 31 [.imm (.lit (.int .i64 k)), .imm (.lit (.slice none 0 0))] [] (.imm (conIV k 0 [])) [] := by
  refine cY Tryz.func31 rfl rfl (nb rfl) rfl ?_
  repeat' (first | refine aE ?_ | (refine aH ?_;  first | refine aC tabOk rfl rfl rfl (nb rfl) rfl ?_ | refine dC tabOk rfl rfl rfl (nb rfl) rfl rfl rfl rfl rfl ?_ | refine eU (t := 57) rfl rfl rfl (nb rfl) rfl rfl rfl rfl rfl rfl rfl ?_) | (refine aN ?_;  first | refine aG ?_ | refine aT ?_))
  all_goals (refine dR ((eD (h0 := 8) (k0 := 4) 500 26 1 rfl rfl (by simp) rfl rfl).trans ((cW (g := 500) rfl (by repeat' first | exact trivial | exact fun _ => rfl | refine ⟨?_, ?_⟩) (by repeat' first | exact trivial | exact fun _ => rfl | refine ⟨?_, ?_⟩)).trans (dK (g := 8) rfl rfl))) ?_; refine bA (by first | exact .inl rfl | exact .inr rfl) (aZ rfl (aD rfl)) rfl ?_; rfl)
set_option maxHeartbeats 4000000 in
set_option maxRecDepth 10000 in
/-- A node without kids, that will have some. -/
theorem yX (k : Int) : ACalls Tryz.prog 31 [.imm (.lit (.int .i64 k)), .imm (.lit (.slice none 0 0))] [(600, .fut)] (.obj 600 0) [(600, .cells [.imm (.lit (.int .i64 k)), .imm (.lit (.int .i64 0)), .imm (.lit (.string ⟨#[]⟩)), .imm (.lit (.string ⟨#[]⟩)), .imm (.lit (.slice none 0 0))])] := by
  refine dH [600] Tryz.func31 rfl rfl (nb rfl) rfl rfl ?_
  repeat' (first | refine aE ?_ | (refine aH ?_;  first | refine aC tabOk rfl rfl rfl (nb rfl) rfl ?_ | refine dC tabOk rfl rfl rfl (nb rfl) rfl rfl rfl rfl rfl ?_ | refine gC 600 (d := 8) rfl rfl rfl (nb rfl) rfl rfl rfl rfl rfl ?_) | (refine aN ?_;  first | refine aG ?_ | refine aT ?_))
  all_goals (refine dN (tU (by first | exact .inl rfl | exact .inr rfl) (aZ rfl (aD rfl)) rfl (by repeat' first | exact trivial | refine ⟨rfl, ?_⟩) rfl ?_); rfl)
set_option maxHeartbeats 4000000 in
set_option maxRecDepth 10000 in
theorem oT : ACalls Tryz.prog 32 [] [] (.imm higherT.iv) [] := by
  have c0 := iI 100
  have c1 := eS 101 true 2 [conIV 100 0 [], conIV 100 0 []]
  unfold conIV at *
  refine aM Tryz.func32 rfl rfl (nb rfl) rfl ?_
  repeat' (first | refine aE ?_ | (refine aH ?_;  first | refine aC tabOk rfl rfl rfl (nb rfl) rfl ?_ | refine aI rfl rfl (nb rfl) rfl rfl rfl rfl (c0) ?_ | refine aI rfl rfl (nb rfl) rfl rfl rfl rfl (c1) ?_ | refine bV tabOk rfl rfl rfl (nb rfl) rfl rfl rfl rfl rfl rfl rfl rfl rfl ?_) | (refine aN ?_;  first | refine aG ?_ | refine aT ?_))
  all_goals (refine bA (by first | exact .inl rfl | exact .inr rfl) (aZ rfl (aD rfl)) rfl ?_; rfl)
end Go.Proofs.YtlbemgokilhdnaaGreatDoor.Ab
namespace Go.Proofs.YtlbemgokilhdnaaGreatDoor.Ab
set_option linter.unusedVariables false
set_option linter.unusedSimpArgs false
open Go.RowKit
attribute [local irreducible] AWP AOps AExit AThen ABlock ANoGoto FeetOk
theorem dX (kind : Int) (c : Tree) (hc : c.whole = true) : ∀ n : Nat, (aroundP kind n c).whole = true ∧ (aroundP kind n c).size = c.size + 2 * n
  | 0 => ⟨hc, by rw [aroundP]; omega⟩
  | n + 1 => by
    have h := dX kind c hc n
    rw [aroundP]
    unfold conT starT conT
    refine ⟨?_, ?_⟩
    · show Tree.wholes [_, _] = true
      rw [Tree.wholes, Tree.wholes, h.1]; rfl
    · simp only [Tree.size, Tree.sizes]; omega
theorem eX (c : Tree) (h : (tokP c).2 = 0) : (tokP c).1.whole = true ∧ (tokP c).1.size ≤ c.size + 2 := by
  unfold tokP at h ⊢
  by_cases h0 : (shiftP c 1 0).2 = 0
  · rw [if_neg (by simpa using h0)] at h ⊢
    have := iD c 1 0 h0
    unfold conT
    refine ⟨?_, ?_⟩
    · show Tree.wholes [_, _] = true
      rw [Tree.wholes, Tree.wholes, this.1]; rfl
    · simp only [Tree.size, Tree.sizes]; omega
  · rw [if_pos h0] at h; cases h
theorem kI (c : Tree) : (tokP c).2 = 0 ∨ ((tokP c).2 = 3 ∧ (tokP c).1 = .nil) := by
  unfold tokP
  by_cases h0 : (shiftP c 1 0).2 = 0
  · rw [if_neg (by simpa using h0)]; exact .inl rfl
  · rw [if_pos h0]; exact .inr ⟨rfl, rfl⟩
set_option maxHeartbeats 4000000 in
set_option maxRecDepth 10000 in
theorem rX (kind : Int) (m : Int) (c : Tree) (hc : c.whole = true) (h0 : 0 ≤ m) (hm : m ≤ 1000000) : ACalls Tryz.prog 54 [.imm (.lit (.int .i64 kind)), .imm (.lit (.int .i64 m)), .imm c.iv] [] (.imm (aroundP kind m.toNat c).iv) [] := by
  obtain ⟨n, rfl⟩ : ∃ n : Nat, m = n := ⟨m.toNat, by omega⟩
  rw [Int.toNat_natCast]
  have c0 := pX 100
  refine aM Tryz.func54 rfl rfl (nb rfl) rfl ?_
  repeat' (first | refine aE ?_ | (refine aH ?_;  first | refine aC tabOk rfl rfl rfl (nb rfl) rfl ?_) | (refine aN ?_;  first | refine aG ?_ | refine aQ ?_ | refine aX ?_))
  refine cD (ι := {j : Nat // j ≤ n}) (fun j => S.f ⟨[(8, .imm (.lit (.int .i64 (j.1 : Int)))), (7, .imm (.lit (.int .i64 (n : Int)))), (2, .imm (aroundP kind j.1 c).iv), (0, .imm (.lit (.int .i64 kind)))], []⟩) (fun j => n - j.1) ⟨0, Nat.zero_le _⟩ (cA (by repeat' first | exact trivial | refine ⟨rfl, ?_⟩) (by repeat' first | exact trivial | refine ⟨rfl, ?_⟩)) ?_
  rintro ⟨j, hj⟩
  dsimp only
  obtain ⟨px, hpx⟩ := dF (cR (dX kind c hc j).1)
  by_cases hlt : j < n
  · have hnx : (aroundP kind (j + 1) c).iv = conIV kind 2 [conIV 100 0 [], .ptr px 0] := by
      rw [aroundP, cU, Tree.ivs, Tree.ivs, hpx]; rfl
    rw [hpx]
    have c1 := kH kind true 2 [conIV 100 0 [], .ptr px 0]
    unfold conIV at c0 c1 hnx
    repeat' (first | refine aE ?_ | (refine aH ?_;  first | refine aC tabOk rfl rfl rfl (nb rfl) rfl ?_ | (refine aK rfl rfl rfl (nb rfl) rfl rfl rfl (fun hq => ?_) (fun hq => ?_) <;> (first | (simp only [sD, sE, sB, sC, sN, sM, sT, sF] at hq; try (exfalso; omega)) | skip)) | refine aI rfl rfl (nb rfl) rfl rfl rfl rfl (c0) ?_ | refine aI rfl rfl (nb rfl) rfl rfl rfl rfl (c1) ?_ | refine bK rfl rfl rfl (nb rfl) rfl rfl (by omega) ?_ | refine bV tabOk rfl rfl rfl (nb rfl) rfl rfl rfl rfl rfl rfl rfl rfl rfl ?_) | (refine aN ?_;  first | refine aG ?_ | refine aQ ?_ | refine bF ?_ | refine aX ?_ | refine aW ?_ | refine aA (b := true) rfl (fun _ => ?_) nTf) | (refine aJ ?_;  first | refine bB ?_) | (refine aY ?_;  first | refine bR ?_))
    all_goals first
      | (exfalso; omega)
      | (refine ⟨⟨j + 1, hlt⟩, (by show n - (j + 1) < n - j; omega), ?_⟩; dsimp only; rw [hnx]; exact (cA (by repeat' first | exact trivial | refine ⟨rfl, ?_⟩) (by repeat' first | exact trivial | refine ⟨rfl, ?_⟩)))
  · have ej : j = n := by omega
    subst ej
    rw [hpx]
    repeat' (first | refine aE ?_ | (refine aH ?_;  first | refine aC tabOk rfl rfl rfl (nb rfl) rfl ?_ | (refine aK rfl rfl rfl (nb rfl) rfl rfl rfl (fun hq => ?_) (fun hq => ?_) <;> (first | (simp only [sD, sE, sB, sC, sN, sM, sT, sF] at hq; try (exfalso; omega)) | skip))) | (refine aN ?_;  first | refine aG ?_ | refine aQ ?_ | refine aT ?_ | refine bS ?_ | refine aA (b := false) rfl nFt (fun _ => ?_)) | (refine aJ ?_;  first | refine bB ?_ | refine bJ ?_) | (refine aY ?_;  first | refine bH ?_))
    all_goals first
      | (exfalso; omega)
      | (refine bA (by first | exact .inl rfl | exact .inr rfl) (aZ rfl (aD rfl)) rfl ?_; rfl)
set_option maxHeartbeats 4000000 in
set_option maxRecDepth 10000 in
theorem vJ (c : Tree) (hs : c.size ≤ 1000000) : ACalls Tryz.prog 26 [.imm c.iv] [] (.imm (.tup [(tokP c).1.iv, .lit (.int .i64 (tokP c).2)])) [] := by
  have c1 := aAp c 1 0 hs
  have c0 := pX 110
  unfold tokP
  have hf := iD c 1 0
  generalize shiftP c 1 0 = S at *
  obtain ⟨S1, S2⟩ := S
  dsimp only at *
  by_cases h0 : S2 = 0
  · subst h0
    rw [if_neg (by simp)]
    obtain ⟨px, hpx⟩ := dF (cR (hf rfl).1)
    have c2 := kH 120 true 2 [conIV 110 0 [], .ptr px 0]
    have hnx : (conT 120 [conT 110 [], S1]).iv = conIV 120 2 [conIV 110 0 [], .ptr px 0] := by
      rw [cU, Tree.ivs, Tree.ivs, Tree.ivs, cU, hpx]; rfl
    rw [hnx]
    rw [hpx] at c1
    unfold conIV at *
    refine aM Tryz.func26 rfl rfl (nb rfl) rfl ?_
    repeat' (first | refine aE ?_ | (refine aH ?_;  first | refine aC tabOk rfl rfl rfl (nb rfl) rfl ?_ | (refine aK rfl rfl rfl (nb rfl) rfl rfl rfl (fun hq => ?_) (fun hq => ?_) <;> (first | (simp only [sD, sE, sB, sC, sN, sM, sT, sF] at hq; try (exfalso; omega)) | skip)) | refine aI rfl rfl (nb rfl) rfl rfl rfl rfl (c0) ?_ | refine aI rfl rfl (nb rfl) rfl rfl rfl rfl (c1) ?_ | refine aI rfl rfl (nb rfl) rfl rfl rfl rfl (c2) ?_ | refine bV tabOk rfl rfl rfl (nb rfl) rfl rfl rfl rfl rfl rfl rfl rfl rfl ?_) | (refine aN ?_;  first | refine aG ?_ | refine aQ ?_ | refine aT ?_ | refine aW ?_ | refine aA (b := false) rfl nFt (fun _ => ?_)) | (refine aJ ?_;  first | refine bB ?_))
    all_goals first
      | exact absurd rfl (by assumption)
      | (refine bA (by first | exact .inl rfl | exact .inr rfl) (bP rfl (aD rfl) (aD rfl)) rfl ?_; rfl)
  · rw [if_pos h0]
    refine aM Tryz.func26 rfl rfl (nb rfl) rfl ?_
    repeat' (first | refine aE ?_ | (refine aH ?_;  first | refine aC tabOk rfl rfl rfl (nb rfl) rfl ?_ | (refine aK rfl rfl rfl (nb rfl) rfl rfl rfl (fun hq => ?_) (fun hq => ?_) <;> (first | (simp only [sD, sE, sB, sC, sN, sM, sT, sF] at hq; try (exfalso; omega)) | skip)) | refine aI rfl rfl (nb rfl) rfl rfl rfl rfl (c1) ?_) | (refine aN ?_;  first | refine aG ?_ | refine aQ ?_ | refine aT ?_ | refine aA (b := true) rfl (fun _ => ?_) nTf) | (refine aJ ?_;  first | refine aR ?_))
    all_goals first
      | exact absurd (by assumption) h0
      | (refine bA (by first | exact .inl rfl | exact .inr rfl) (bP rfl (aD rfl) (aD rfl)) rfl ?_; rfl)
set_option maxHeartbeats 4000000 in
set_option maxRecDepth 10000 in
theorem oU (c : Tree) (hc : checkP isConP c = 0) : ACalls Tryz.prog 30 [.imm c.iv] [] (.imm (tokP c).1.iv) [] := by
  obtain ⟨cw, cz, cf⟩ := cT hc
  have c1 := yW 1 0 c 0 (jQ c cf) (uK c cf) cw (Int.le_refl _) (by omega)
  have c0 := iI 110
  have hsh := rV c hc 1
  unfold tokP
  have hf := iD c 1 0
  rw [hsh] at hf ⊢
  obtain ⟨W, hW⟩ : ∃ W, walkS (shiftV 1 0) c 0 true = W := ⟨_, rfl⟩
  rw [hW] at c1 hf ⊢
  obtain ⟨W1, W2⟩ := W
  cases W2 with
  | true =>
    rw [if_pos rfl] at hf
    have e1 : (if (W1, true).2 = true then ((W1, true).1, (0 : Int)) else (.nil, 2)) = (W1, 0) := if_pos rfl
    rw [e1, if_neg (by simp)]
    rw [kW] at c1
    obtain ⟨px, hpx⟩ := dF (cR (hf rfl).1)
    have c2 := eS 120 true 2 [conIV 110 0 [], .ptr px 0]
    have hnx : (conT 120 [conT 110 [], W1]).iv = conIV 120 2 [conIV 110 0 [], .ptr px 0] := by
      rw [cU, Tree.ivs, Tree.ivs, Tree.ivs, cU, hpx]; rfl
    dsimp only at *
    rw [hnx]
    rw [hpx] at c1
    unfold conIV at *
    refine aM Tryz.func30 rfl rfl (nb rfl) rfl ?_
    repeat' (first | refine aE ?_ | (refine aH ?_;  first | refine aC tabOk rfl rfl rfl (nb rfl) rfl ?_ | refine aI rfl rfl (nb rfl) rfl rfl rfl rfl (c0) ?_ | refine aI rfl rfl (nb rfl) rfl rfl rfl rfl (c1) ?_ | refine aI rfl rfl (nb rfl) rfl rfl rfl rfl (c2) ?_ | refine bV tabOk rfl rfl rfl (nb rfl) rfl rfl rfl rfl rfl rfl rfl rfl rfl ?_) | (refine aN ?_;  first | refine aG ?_ | refine aQ ?_ | refine aT ?_ | refine aW ?_ | refine aA (b := false) rfl nFt (fun _ => ?_)) | (refine aJ ?_;  first | refine bB ?_))
    all_goals first
      | exact absurd rfl (by assumption)
      | (refine bA (by first | exact .inl rfl | exact .inr rfl) (aZ rfl (aD rfl)) rfl ?_; rfl)
  | false =>
    have e1 : (if (W1, false).2 = true then ((W1, false).1, (0 : Int)) else (.nil, 2)) = (.nil, 2) := if_neg (by simp)
    rw [e1, if_pos (by simp)]
    rw [nI] at c1
    refine aM Tryz.func30 rfl rfl (nb rfl) rfl ?_
    repeat' (first | refine aE ?_ | (refine aH ?_;  first | refine aC tabOk rfl rfl rfl (nb rfl) rfl ?_ | refine aI rfl rfl (nb rfl) rfl rfl rfl rfl (c1) ?_) | (refine aN ?_;  first | refine aG ?_ | refine aQ ?_ | refine aT ?_ | refine aA (b := true) rfl (fun _ => ?_) nTf) | (refine aJ ?_;  first | refine aR ?_))
    all_goals first
      | exact absurd rfl (by assumption)
      | (refine bA (by first | exact .inl rfl | exact .inr rfl) (aZ rfl (aD rfl)) rfl ?_; rfl)
end Go.Proofs.YtlbemgokilhdnaaGreatDoor.Ab
namespace Go.Proofs.YtlbemgokilhdnaaGreatDoor.Ab
set_option linter.unusedVariables false
set_option linter.unusedSimpArgs false
def kidH : List Tree → Tree
  | [] => .nil
  | c :: _ => c
def allTok (c : Tree) : Tree × Int := if (tokP c).2 ≠ 0 then (.nil, (tokP c).2) else (conT 117 [higherT, conT 114 [(tokP c).1, (tokP c).1]], 0)
def fldOf (a : ByteArray) (R : Tree × Int) : Tree × Int := if R.2 ≠ 0 then (.nil, R.2) else (.node 116 0 a emptyB [R.1], 0)
/-- All of them, or the first error. -/
def seqP : List (Tree × Int) → List Tree × Int
  | [] => ([], 0)
  | r :: rs => if r.2 ≠ 0 then ([], r.2) else if (seqP rs).2 ≠ 0 then ([], (seqP rs).2) else (r.1 :: (seqP rs).1, 0)
def finP (k n : Int) (R : List Tree × Int) : Tree × Int :=
  if R.2 ≠ 0 then (.nil, R.2) else if k = 164 then (aroundP 118 n.toNat (kidH R.1), 0) else if k = 165 then (aroundP 117 n.toNat (conT 114 R.1), 0) else (conT 115 R.1, 0)
mutual
/-- The constructor of a signature, and the error. -/
def transP : Tree → Tree × Int
  | .nil => (.nil, 0)
  | .node k n _ _ kids => if k = 160 then (kidH kids, 0) else if k = 161 then allTok (kidH kids) else finP k n (seqP (if k = 162 then fldRs kids else plnRs kids))
def fldRs : List Tree → List (Tree × Int)
  | [] => []
  | t :: ts => fldR t :: fldRs ts
def fldR : Tree → Tree × Int
  | .nil => (.nil, 0)
  | .node _ _ a _ ks => one1 a ks
def one1 (a : ByteArray) : List Tree → Tree × Int
  | [c] => fldOf a (transP c)
  | _ => (.nil, 0)
def plnRs : List Tree → List (Tree × Int)
  | [] => []
  | t :: ts => transP t :: plnRs ts
end
theorem gD : ∀ l : List Tree, fldRs l = l.map fldR
  | [] => by rw [fldRs]; rfl
  | t :: ts => by rw [fldRs, gD ts]; rfl
theorem oV : ∀ l : List Tree, plnRs l = l.map transP
  | [] => by rw [plnRs]; rfl
  | t :: ts => by rw [plnRs, oV ts]; rfl
theorem fI : ∀ rs : List (Tree × Int), (∀ r ∈ rs, r.2 = 0) → seqP rs = (rs.map (·.1), 0)
  | [], _ => rfl
  | r :: rs, h => by
    have ih := fI rs fun r' hr => h r' (by simp [hr])
    rw [seqP, if_neg (by simpa using h r (by simp)), if_neg (by rw [ih]; simp), ih]
    rfl
theorem nJ : ∀ (rs : List (Tree × Int)) (j : Nat) (h : j < rs.length), (∀ i (hi : i < j), (rs[i]'(by omega)).2 = 0) → rs[j].2 ≠ 0 → seqP rs = ([], rs[j].2)
  | [], _, h, _, _ => by simp at h
  | r :: rs, 0, _, _, hb => by rw [List.getElem_cons_zero] at hb ⊢; rw [seqP, if_pos hb]
  | r :: rs, j + 1, h, hn, hb => by
    have h0 := hn 0 (by omega)
    rw [List.getElem_cons_zero] at h0
    rw [List.getElem_cons_succ] at hb ⊢
    have ih := nJ rs j (by simpa using h) (fun i hi => by have := hn (i + 1) (by omega); rwa [List.getElem_cons_succ] at this) hb
    rw [seqP, if_neg (by simpa using h0), if_pos (by rw [ih]; exact hb), ih]
theorem rY (rs : List (Tree × Int)) (h : (seqP rs).2 = 0) : ∀ r ∈ rs, r.2 = 0 := by
  induction rs with
  | nil => intro r hr; cases hr
  | cons x rs ih =>
    rw [seqP] at h
    split at h
    · rename_i h0; exact absurd h h0
    · rename_i h0
      split at h
      · rename_i h1; exact absurd h h1
      · rename_i h1
        intro r hr
        rcases List.mem_cons.1 hr with rfl | hr
        · simpa using h0
        · exact ih (by simpa using h1) r hr
/-- What is a signature, an abstract one, a functor's. -/
def tForm (t : Tree) : Prop := isSigP t = true ∨ isExP t = true ∨ isFunP t = true
theorem nK {t : Tree} (h : sformP t = true) : tForm t := by
  unfold sformP at h
  simp only [Bool.or_eq_true] at h
  exact h
theorem lY {t : Tree} (h : isExP t = true) : ∃ n a b c, t = .node 164 n a b [c] ∧ 0 ≤ n ∧ n ≤ 8192 ∧ isSigP c = true := by
  cases t with
  | nil => simp [isExP] at h
  | node k n a b kids =>
    by_cases h1 : kids.length = 1
    · obtain ⟨c, rfl⟩ := one_of h1
      have hk := wR h
      have hk : k = 164 := hk
      subst hk
      simp only [isExP, Bool.and_eq_true] at h
      have hn := oL h.1.2
      exact ⟨n, a, b, c, rfl, hn.1, hn.2, h.2⟩
    · rw [mU h1] at h; cases h
theorem nL {t : Tree} (h : isFunP t = true) : ∃ n a b c e, t = .node 165 n a b [c, e] ∧ 0 ≤ n ∧ n ≤ 8192 ∧ isSigP c = true ∧ isExP e = true := by
  cases t with
  | nil => simp [isFunP] at h
  | node k n a b kids =>
    by_cases h1 : kids.length = 2
    · obtain ⟨c, e, rfl⟩ := two h1
      have hk := uA h
      have hk : k = 165 := hk
      subst hk
      simp only [isFunP, Bool.and_eq_true] at h
      have hn := oL h.1.2
      exact ⟨n, a, b, c, e, rfl, hn.1, hn.2, h.2.1, h.2.2⟩
    · rw [kV h1] at h; cases h
end Go.Proofs.YtlbemgokilhdnaaGreatDoor.Ab
namespace Go.Proofs.YtlbemgokilhdnaaGreatDoor.Ab
set_option linter.unusedVariables false
set_option linter.unusedSimpArgs false
open Go.RowKit
attribute [local irreducible] AWP AOps AExit AThen ABlock ANoGoto FeetOk
theorem jT (t : Tree) : isSigP t = true → t.whole = true → (transP t).2 = 0 → (transP t).1.whole = true ∧ (transP t).1.size ≤ 9 * t.size := by
  induction t using Tree.sind with
  | h t ih =>
    intro hs hw he
    obtain ⟨k, n, a, b, kids, rfl⟩ := cN hw
    rw [transP] at he ⊢
    rcases fC hs with ⟨hk, c, rfl, hc⟩ | ⟨rfl, hf, _⟩
    · have hcw := (cT hc).1
      have hc1 := fZ hcw
      have hsz : (Tree.node k n a b [c]).size = c.size + 1 := by simp only [Tree.size, Tree.sizes]; omega
      rw [hsz]
      by_cases h160 : k = 160
      · rw [if_pos h160]
        exact ⟨hcw, by show c.size ≤ _; omega⟩
      · rw [if_neg h160, if_pos (by omega)] at he ⊢
        unfold allTok at he ⊢
        have e : kidH [c] = c := rfl
        rw [e] at he ⊢
        by_cases h0 : (tokP c).2 = 0
        · rw [if_neg (by simpa using h0)]
          have hf := eX c h0
          refine ⟨?_, ?_⟩
          · show Tree.wholes [higherT, conT 114 [_, _]] = true
            rw [Tree.wholes, Tree.wholes]
            have : (conT 114 [(tokP c).1, (tokP c).1]).whole = true := by
              show Tree.wholes [_, _] = true
              rw [Tree.wholes, Tree.wholes, hf.1]; rfl
            rw [this]; rfl
          · simp only [conT, higherT, Tree.size, Tree.sizes]
            omega
        · rw [if_pos h0] at he; exact absurd he h0
    · rw [if_neg (by decide), if_neg (by decide), if_pos rfl, gD] at he ⊢
      unfold finP at he ⊢
      have h0 : (seqP (kids.map fldR)).2 = 0 := by
        by_cases h : (seqP (kids.map fldR)).2 = 0
        · exact h
        · rw [if_pos h] at he; exact absurd he h
      have hall := rY _ h0
      rw [fI _ hall, if_neg (by simp), if_neg (by decide), if_neg (by decide)]
      have key : ∀ l : List Tree, (∀ t ∈ l, t ∈ kids) → Tree.wholes ((l.map fldR).map (·.1)) = true ∧ Tree.sizes ((l.map fldR).map (·.1)) ≤ 9 * Tree.sizes l := by
        intro l
        induction l with
        | nil => intro _; exact ⟨rfl, Nat.le_refl _⟩
        | cons t ts ih2 =>
          intro hm
          have hmt := hm t (by simp)
          obtain ⟨g1, g2⟩ := ih2 fun t' h' => hm t' (by simp [h'])
          have hz := cF (k := 162) (n := n) (a := a) (b := b) hmt
          have hwt := bN hw hmt
          have he1 := hall (fldR t) (List.mem_map_of_mem hmt)
          obtain ⟨n', a', b', c, rfl, hc⟩ := dY (hf t hmt)
          have hcs : (Tree.node 163 n' a' b' [c]).size = c.size + 1 := by simp only [Tree.size, Tree.sizes]; omega
          have e : fldR (.node 163 n' a' b' [c]) = fldOf a' (transP c) := by rw [fldR, one1]
          have hc0 : (transP c).2 = 0 := by
            rw [e] at he1
            unfold fldOf at he1
            by_cases h : (transP c).2 = 0
            · exact h
            · rw [if_pos h] at he1; exact absurd he1 h
          have h1 := ih c (by omega) hc (bN hwt (List.mem_singleton.2 rfl)) hc0
          have e2 : (fldR (.node 163 n' a' b' [c])).1 = .node 116 0 a' emptyB [(transP c).1] := by
            rw [e]; unfold fldOf; rw [if_neg (by simpa using hc0)]
          rw [List.map_cons, List.map_cons, e2]
          refine ⟨?_, ?_⟩
          · rw [Tree.wholes, g1]
            have : (Tree.node 116 0 a' emptyB [(transP c).1]).whole = true := by
              show Tree.wholes [_] = true
              rw [Tree.wholes, h1.1]; rfl
            rw [this]; rfl
          · simp only [Tree.sizes, Tree.size]
            omega
      have := key kids fun _ h => h
      refine ⟨this.1, ?_⟩
      simp only [conT, Tree.size]
      omega
theorem dD (t : Tree) (hf : tForm t) (hw : t.whole = true) (he : (transP t).2 = 0) : (transP t).1.whole = true ∧ (transP t).1.size ≤ 9 * t.size + 40000 := by
  have hex : ∀ t, isExP t = true → t.whole = true → (transP t).2 = 0 → (transP t).1.whole = true ∧ (transP t).1.size ≤ 9 * t.size + 17000 := by
    intro t hf hw he
    obtain ⟨n, a, b, c, rfl, h0, h1, hc⟩ := lY hf
    have hcw : c.whole = true := bN hw (List.mem_singleton.2 rfl)
    rw [transP, if_neg (by decide), if_neg (by decide), if_neg (by decide), plnRs, plnRs] at he ⊢
    have hc0 : (transP c).2 = 0 := by
      by_cases h : (transP c).2 = 0
      · exact h
      · exfalso
        have e : seqP [transP c] = ([], (transP c).2) := by rw [seqP, if_pos h]
        rw [e] at he
        unfold finP at he
        rw [if_pos h] at he
        exact h he
    have h2 := jT c hc hcw hc0
    have e : seqP [transP c] = ([(transP c).1], 0) := fI _ (by intro r hr; rw [List.mem_singleton.1 hr]; exact hc0)
    rw [e]
    unfold finP
    rw [if_neg (by simp), if_pos rfl]
    have h3 := dX 118 (transP c).1 h2.1 n.toNat
    refine ⟨h3.1, ?_⟩
    show (aroundP 118 n.toNat (transP c).1).size ≤ _
    simp only [Tree.size, Tree.sizes]
    omega
  rcases hf with h | h | h
  · have := jT t h hw he
    exact ⟨this.1, by omega⟩
  · have := hex t h hw he
    exact ⟨this.1, by omega⟩
  · obtain ⟨n, a, b, c, e, rfl, h0, h1, hc, hee⟩ := nL h
    have hcw : c.whole = true := bN hw (by simp)
    have hew : e.whole = true := bN hw (by simp)
    rw [transP, if_neg (by decide), if_neg (by decide), if_neg (by decide), plnRs, plnRs, plnRs] at he ⊢
    have hs0 : (seqP [transP c, transP e]).2 = 0 := by
      by_cases h : (seqP [transP c, transP e]).2 = 0
      · exact h
      · exfalso
        unfold finP at he
        rw [if_pos h] at he
        exact h he
    have hall := rY _ hs0
    have hc0 := hall _ (List.mem_cons_self)
    have he0 := hall (transP e) (by simp)
    rw [fI _ hall]
    unfold finP
    rw [if_neg (by simp), if_neg (by decide), if_pos rfl]
    have h2 := jT c hc hcw hc0
    have h3 := hex e hee hew he0
    have hw4 : (conT 114 [(transP c).1, (transP e).1]).whole = true := by
      show Tree.wholes [_, _] = true
      rw [Tree.wholes, Tree.wholes, h2.1, h3.1]; rfl
    have h4 := dX 117 _ hw4 n.toNat
    refine ⟨h4.1, ?_⟩
    show (aroundP 117 n.toNat (conT 114 [(transP c).1, (transP e).1])).size ≤ _
    have h5 : (conT 114 [(transP c).1, (transP e).1]).size = 1 + (transP c).1.size + (transP e).1.size := by simp only [conT, Tree.size, Tree.sizes]; omega
    simp only [Tree.size, Tree.sizes]
    omega
set_option maxHeartbeats 4000000 in
set_option maxRecDepth 10000 in
theorem wZ (n : Int) (a b : ByteArray) (c : Tree) (hc : c.whole = true) : ACalls Tryz.prog 53 [.imm (Tree.iv (.node 163 n a b [c]))] [] (.imm c.iv) [] := by
  refine aM Tryz.func53 rfl rfl (nb rfl) rfl ?_
  repeat' (first | refine aE ?_ | (refine aH ?_;  first | refine aC tabOk rfl rfl rfl (nb rfl) rfl ?_ | (refine aK rfl rfl rfl (nb rfl) rfl rfl rfl (fun hq => ?_) (fun hq => ?_) <;> (first | (simp only [sD, sE, sB, sC, sN, sM, sT, sF] at hq; try (exfalso; omega)) | skip)) | refine bG tabOk rfl rfl rfl (nb rfl) rfl rfl rfl rfl (by first | rfl | omega) (by first | omega | simp) ?_) | (refine aN ?_;  first | refine aG ?_ | refine aQ ?_ | refine aT ?_ | refine aA (b := true) rfl (fun _ => ?_) nTf) | (refine aJ ?_;  first | refine aR ?_))
  all_goals first
    | exact absurd rfl (by assumption)
    | (refine bA (by first | exact .inl rfl | exact .inr rfl) (aZ rfl (aD rfl)) rfl ?_; rfl)
set_option maxHeartbeats 4000000 in
set_option maxRecDepth 10000 in
theorem kX (k n : Int) (a b : ByteArray) (kids : List Tree) (hk : k ≠ 163) : ACalls Tryz.prog 53 [.imm (Tree.iv (.node k n a b kids))] [] (.imm (Tree.iv (.node k n a b kids))) [] := by
  refine aM Tryz.func53 rfl rfl (nb rfl) rfl ?_
  repeat' (first | refine aE ?_ | (refine aH ?_;  first | refine aC tabOk rfl rfl rfl (nb rfl) rfl ?_ | (refine aK rfl rfl rfl (nb rfl) rfl rfl rfl (fun hq => ?_) (fun hq => ?_) <;> (first | (simp only [sD, sE, sB, sC, sN, sM, sT, sF] at hq; try (exfalso; omega)) | skip))) | (refine aN ?_;  first | refine aG ?_ | refine aQ ?_ | refine aT ?_ | refine aW ?_ | refine aA (b := false) rfl nFt (fun _ => ?_)) | (refine aJ ?_;  first | refine bB ?_))
  all_goals first
    | exact absurd (by assumption) hk
    | (refine bA (by first | exact .inl rfl | exact .inr rfl) (aZ rfl (aD rfl)) rfl ?_; rfl)
end Go.Proofs.YtlbemgokilhdnaaGreatDoor.Ab
namespace Go.Proofs.YtlbemgokilhdnaaGreatDoor.Ab
set_option linter.unusedVariables false
set_option linter.unusedSimpArgs false
open Go.RowKit
attribute [local irreducible] AWP AOps AExit AThen ABlock ANoGoto FeetOk
theorem rZ (a : ByteArray) (R : Tree × Int) (pr : List IV) (h0 : R.2 = 0) (hp : R.1.iv = .ptr pr 0) : (fldOf a R).1.iv = .ptr [.lit (.int .i64 116), .lit (.int .i64 0), .lit (.string a), .lit (.string ⟨#[]⟩), .sl false 1 [.ptr pr 0]] 0 := by
  unfold fldOf
  rw [if_neg (by simpa using h0), Tree.iv, Tree.ivs, Tree.ivs, hp]
  rfl
theorem gE (a : ByteArray) (R : Tree × Int) : (fldOf a R).2 = R.2 := by
  unfold fldOf
  by_cases h : R.2 = 0
  · rw [if_neg (by simpa using h), h]
  · rw [if_pos h]
set_option maxHeartbeats 16000000 in
set_option maxRecDepth 10000 in
theorem iJ (k n : Int) (a b : ByteArray) (kids : List Tree) (rs : List (Tree × Int)) (hk3 : k = 162 ∨ k = 164 ∨ k = 165) (hn : k ≠ 162 → 0 ≤ n ∧ n ≤ 8192) (h1 : k = 164 → kids.length = 1) (hl : kids.length ≤ 1000000) (hlen : rs.length = kids.length)
    (hk : ∀ j (h : j < kids.length) (h' : j < rs.length), ∃ kk nn aa bb ks c, kids[j] = .node kk nn aa bb ks ∧ ACalls Tryz.prog 53 [.imm kids[j].iv] [] (.imm c.iv) [] ∧
      ACalls Tryz.prog 22 [.imm c.iv] [] (.imm (.tup [(transP c).1.iv, .lit (.int .i64 (transP c).2)])) [] ∧ ((transP c).2 = 0 → (transP c).1.whole = true) ∧ ((kk = 163 ∧ rs[j] = fldOf aa (transP c)) ∨ (kk ≠ 163 ∧ rs[j] = transP c))) :
    ACalls Tryz.prog 22 [.imm (Tree.iv (.node k n a b kids))] [] (.imm (.tup [(finP k n (seqP rs)).1.iv, .lit (.int .i64 (finP k n (seqP rs)).2)])) [] := by
  obtain ⟨Q, hQ⟩ : ∃ Q, finP k n (seqP rs) = Q := ⟨_, rfl⟩
  rw [hQ]
  refine aM Tryz.func22 rfl rfl (nb rfl) rfl ?_
  repeat' (first | refine aE ?_ | (refine aH ?_;  first | refine aC tabOk rfl rfl rfl (nb rfl) rfl ?_ | (refine aK rfl rfl rfl (nb rfl) rfl rfl rfl (fun hq => ?_) (fun hq => ?_) <;> (first | (simp only [sD, sE, sB, sC, sN, sM, sT, sF] at hq; try (exfalso; omega)) | skip)) | refine aU tabOk rfl rfl (nb rfl) rfl ?_) | (refine aN ?_;  first | refine aG ?_ | refine aQ ?_ | refine aX ?_ | refine aW ?_ | refine aA (b := false) rfl nFt (fun _ => ?_)) | (refine aJ ?_;  first | refine bB ?_) | (refine aY ?_;  first | refine bR ?_))
  all_goals first
    | (exfalso; omega)
    | skip
  refine dL (pF (t := 6) 500 26 1 rfl (by simp) rfl rfl) ?_
  refine cD (ι := {j : Nat // j ≤ kids.length ∧ ∀ i (hi : i < j) (hi2 : i < rs.length), (rs[i]).2 = 0 ∧ (rs[i]).1.whole = true}) (fun j => S.f ⟨[(50, .imm (.lit (.int .i64 (j.1 : Int)))), (49, .imm (.lit (.int .i64 (kids.length : Int)))), (48, .imm (.sl false kids.length (Tree.ivs kids))), (6, .ref 500 j.1), (0, .imm (Tree.iv (.node k n a b kids)))], [(500, .arr 26 1 j.1 (Tree.ivs ((rs.take j.1).map (·.1))))]⟩) (fun j => kids.length - j.1) ⟨0, Nat.zero_le _, fun i hi => absurd hi (by omega)⟩ (cA (by repeat' first | exact trivial | refine ⟨rfl, ?_⟩) (by repeat' first | exact trivial | refine ⟨rfl, ?_⟩)) ?_
  rintro ⟨j, hj, hok⟩
  dsimp only
  have hil := gR ((rs.take j).map (·.1))
  rw [List.length_map, List.length_take, hlen, Nat.min_eq_left hj] at hil
  by_cases hlt : j < kids.length
  · have hlt2 : j < rs.length := by omega
    have hget := bZ kids j hlt
    obtain ⟨kk, nn, aa, bb, ks, c, ek, ci, ct, cw, hr⟩ := hk j hlt hlt2
    have hnx : Tree.ivs ((rs.take (j + 1)).map (·.1)) = Tree.ivs ((rs.take j).map (·.1)) ++ [rs[j].1.iv] := by
      rw [List.take_succ_eq_append_getElem hlt2, List.map_append, dW, dW, List.map_append]; rfl
    rw [ek] at hget ci
    by_cases h0 : (transP c).2 = 0
    · have hw0 := cw h0
      obtain ⟨pr, hpr⟩ := dF (cR hw0)
      rw [h0, hpr] at ct
      have hr2 : rs[j].2 = 0 ∧ rs[j].1.whole = true := by
        rcases hr with ⟨_, e⟩ | ⟨_, e⟩
        · rw [e, gE]
          refine ⟨h0, ?_⟩
          unfold fldOf
          rw [if_neg (by simpa using h0)]
          show Tree.wholes [_] = true
          rw [Tree.wholes, hw0]; rfl
        · rw [e]; exact ⟨h0, hw0⟩
      have hok2 : ∀ i (hi : i < j + 1) (hi2 : i < rs.length), (rs[i]).2 = 0 ∧ (rs[i]).1.whole = true := fun i hi hi2 => by
        by_cases hij : i = j
        · subst hij; exact hr2
        · exact hok i (by omega) hi2
      rcases hr with ⟨hkk, e⟩ | ⟨hkk, e⟩
      · rw [e, rZ aa _ pr h0 hpr] at hnx
        clear hk hQ hr2 ek
        generalize Tree.ivs ((rs.take j).map (·.1)) = ZI at *
        repeat' (first | refine aE ?_ | (refine aH ?_;  first | refine aC tabOk rfl rfl rfl (nb rfl) rfl ?_ | (refine aK rfl rfl rfl (nb rfl) rfl rfl rfl (fun hq => ?_) (fun hq => ?_) <;> (first | (simp only [sD, sE, sB, sC, sN, sM, sT, sF] at hq; try (exfalso; omega)) | skip)) | refine aV tabOk rfl rfl rfl (nb rfl) rfl rfl rfl hget ?_ | refine aI rfl rfl (nb rfl) rfl rfl rfl rfl (ci) ?_ | refine aI rfl rfl (nb rfl) rfl rfl rfl rfl (ct) ?_ | refine dB tabOk rfl rfl rfl (nb rfl) rfl rfl rfl rfl rfl rfl rfl (by first | omega | decide) rfl (by first | omega | (dsimp only; omega)) (by first | omega | (dsimp only; omega)) ?_ | refine bK rfl rfl rfl (nb rfl) rfl rfl (by omega) ?_ | refine bV tabOk rfl rfl rfl (nb rfl) rfl rfl rfl rfl rfl rfl rfl rfl rfl ?_ | refine aU tabOk rfl rfl (nb rfl) rfl ?_ | refine bI tabOk rfl rfl rfl (nb rfl) rfl rfl rfl rfl (by first | assumption | omega) ?_) | (refine aN ?_;  first | refine aG ?_ | refine aQ ?_ | refine bF ?_ | refine aX ?_ | refine aW ?_ | refine aA (b := true) rfl (fun _ => ?_) nTf | refine aA (b := false) rfl nFt (fun _ => ?_)) | (refine aJ ?_;  first | refine bB ?_) | (refine aY ?_;  first | refine bR ?_))
        all_goals first
          | exact absurd rfl (by assumption)
          | exact absurd hkk (by assumption)
          | (exfalso; omega)
          | (refine ⟨⟨j + 1, hlt, hok2⟩, (by show kids.length - (j + 1) < kids.length - j; omega), ?_⟩; dsimp only; rw [hnx]; exact (cA (by repeat' first | exact trivial | refine ⟨rfl, ?_⟩) (by repeat' first | exact trivial | refine ⟨rfl, ?_⟩)))
      · rw [e, hpr] at hnx
        clear hk hQ hr2 ek
        generalize Tree.ivs ((rs.take j).map (·.1)) = ZI at *
        repeat' (first | refine aE ?_ | (refine aH ?_;  first | refine aC tabOk rfl rfl rfl (nb rfl) rfl ?_ | (refine aK rfl rfl rfl (nb rfl) rfl rfl rfl (fun hq => ?_) (fun hq => ?_) <;> (first | (simp only [sD, sE, sB, sC, sN, sM, sT, sF] at hq; try (exfalso; omega)) | skip)) | refine aV tabOk rfl rfl rfl (nb rfl) rfl rfl rfl hget ?_ | refine aI rfl rfl (nb rfl) rfl rfl rfl rfl (ci) ?_ | refine aI rfl rfl (nb rfl) rfl rfl rfl rfl (ct) ?_ | refine dB tabOk rfl rfl rfl (nb rfl) rfl rfl rfl rfl rfl rfl rfl (by first | omega | decide) rfl (by first | omega | (dsimp only; omega)) (by first | omega | (dsimp only; omega)) ?_ | refine bK rfl rfl rfl (nb rfl) rfl rfl (by omega) ?_ | refine bV tabOk rfl rfl rfl (nb rfl) rfl rfl rfl rfl rfl rfl rfl rfl rfl ?_ | refine bI tabOk rfl rfl rfl (nb rfl) rfl rfl rfl rfl (by first | assumption | omega) ?_) | (refine aN ?_;  first | refine aG ?_ | refine aQ ?_ | refine bF ?_ | refine aX ?_ | refine aW ?_ | refine aA (b := true) rfl (fun _ => ?_) nTf | refine aA (b := false) rfl nFt (fun _ => ?_)) | (refine aJ ?_;  first | refine bB ?_) | (refine aY ?_;  first | refine bR ?_))
        all_goals first
          | exact absurd rfl (by assumption)
          | exact absurd (by assumption) hkk
          | (exfalso; omega)
          | (refine ⟨⟨j + 1, hlt, hok2⟩, (by show kids.length - (j + 1) < kids.length - j; omega), ?_⟩; dsimp only; rw [hnx]; exact (cA (by repeat' first | exact trivial | refine ⟨rfl, ?_⟩) (by repeat' first | exact trivial | refine ⟨rfl, ?_⟩)))
    · have hr2 : rs[j].2 = (transP c).2 := by
        rcases hr with ⟨_, e⟩ | ⟨_, e⟩
        · rw [e, gE]
        · rw [e]
      have hbad := nJ rs j hlt2 (fun i hi => (hok i hi (by omega)).1) (by rw [hr2]; exact h0)
      have hQ2 : Q = (.nil, (transP c).2) := by
        rw [← hQ, hbad, hr2]; unfold finP; rw [if_pos h0]
      subst hQ2
      clear hk hQ hr hr2 hbad ek hnx
      generalize Tree.ivs ((rs.take j).map (·.1)) = ZI at *
      generalize (transP c).2 = E at *
      repeat' (first | refine aE ?_ | (refine aH ?_;  first | refine aC tabOk rfl rfl rfl (nb rfl) rfl ?_ | (refine aK rfl rfl rfl (nb rfl) rfl rfl rfl (fun hq => ?_) (fun hq => ?_) <;> (first | (simp only [sD, sE, sB, sC, sN, sM, sT, sF] at hq; try (exfalso; omega)) | skip)) | refine aV tabOk rfl rfl rfl (nb rfl) rfl rfl rfl hget ?_ | refine aI rfl rfl (nb rfl) rfl rfl rfl rfl (ci) ?_ | refine aI rfl rfl (nb rfl) rfl rfl rfl rfl (ct) ?_ | refine bI tabOk rfl rfl rfl (nb rfl) rfl rfl rfl rfl (by first | assumption | omega) ?_) | (refine aN ?_;  first | refine aG ?_ | refine aQ ?_ | refine aX ?_ | refine aT ?_ | refine aW ?_ | refine aA (b := true) rfl (fun _ => ?_) nTf) | (refine aJ ?_;  first | refine bB ?_ | refine aR ?_) | (refine aY ?_;  first | refine bE ?_))
      all_goals first
        | exact absurd (by assumption) h0
        | exact absurd rfl (by assumption)
        | (exfalso; omega)
        | (refine bA (by first | exact .inl rfl | exact .inr rfl) (bP rfl (aD rfl) (aD rfl)) rfl ?_; rfl)
  · have ej : j = kids.length := by omega
    subst ej
    have et : rs.take kids.length = rs := by rw [← hlen, List.take_length]
    rw [et] at hil ⊢
    have hall : ∀ r ∈ rs, r.2 = 0 := fun r hr => by
      obtain ⟨i, hi, rfl⟩ := List.getElem_of_mem hr
      exact (hok i (by omega) hi).1
    have hallw : ∀ r ∈ rs, r.1.whole = true := fun r hr => by
      obtain ⟨i, hi, rfl⟩ := List.getElem_of_mem hr
      exact (hok i (by omega) hi).2
    have hseq := fI rs hall
    rw [hseq] at hQ
    unfold finP at hQ
    rw [if_neg (by simp)] at hQ
    obtain ⟨L, hL⟩ : ∃ L, rs.map (·.1) = L := ⟨_, rfl⟩
    rw [hL] at hQ ⊢
    have hLl : L.length = kids.length := by rw [← hL, List.length_map, hlen]
    have hLw : ∀ t ∈ L, t.whole = true := fun t ht => by
      rw [← hL] at ht
      obtain ⟨r, hr, rfl⟩ := List.mem_map.1 ht
      exact hallw r hr
    rw [hL] at hil
    clear hk hok hall hallw hseq et
    refine dL ((Imp.of_le (σ' := S.f ⟨[(50, .imm (.lit (.int .i64 (kids.length : Int)))), (49, .imm (.lit (.int .i64 (kids.length : Int)))), (6, .ref 500 kids.length), (0, .imm (Tree.iv (.node k n a b kids)))], [(500, .arr 26 1 kids.length (Tree.ivs L))]⟩) (cA (by repeat' first | exact trivial | refine ⟨rfl, ?_⟩) (by repeat' first | exact trivial | refine ⟨rfl, ?_⟩))).trans (cW (g := 500) rfl (by repeat' first | exact trivial | exact fun _ => rfl | refine ⟨?_, ?_⟩) (by repeat' first | exact trivial | exact fun _ => rfl | refine ⟨?_, ?_⟩))) ?_
    by_cases k164 : k = 164
    · have hl1 := h1 k164
      obtain ⟨x, rfl⟩ := one_of (by rw [hLl, hl1] : L.length = 1)
      have hn1 := hn (by omega)
      have hxw := hLw x (by simp)
      rw [if_pos k164] at hQ
      have hQ2 : Q = (aroundP 118 n.toNat x, 0) := by rw [← hQ]; rfl
      subst hQ2
      have ca := rX 118 n x hxw hn1.1 (by omega)
      have h0 : (Tree.ivs [x])[0 * 1]? = some x.iv := rfl
      rw [hl1] at *
      obtain ⟨px, hpx⟩ := dF (cR hxw)
      rw [hpx] at ca h0
      generalize Tree.ivs [x] = ZI at *
      repeat' (first | refine aE ?_ | (refine aH ?_;  first | refine aC tabOk rfl rfl rfl (nb rfl) rfl ?_ | (refine aK rfl rfl rfl (nb rfl) rfl rfl rfl (fun hq => ?_) (fun hq => ?_) <;> (first | (simp only [sD, sE, sB, sC, sN, sM, sT, sF] at hq; try (exfalso; omega)) | skip)) | refine aV tabOk rfl rfl rfl (nb rfl) rfl rfl rfl h0 ?_ | refine aI rfl rfl (nb rfl) rfl rfl rfl rfl (ca) ?_ | refine bG tabOk rfl rfl rfl (nb rfl) rfl rfl rfl rfl (by first | rfl | omega) (by first | omega | simp) ?_) | (refine aN ?_;  first | refine aG ?_ | refine aQ ?_ | refine aX ?_ | refine aT ?_ | refine bS ?_ | refine aA (b := true) rfl (fun _ => ?_) nTf | refine aA (b := false) rfl nFt (fun _ => ?_) | refine bC mixed (by kernel_rfl) ?_) | (refine aJ ?_;  first | refine bB ?_ | refine bJ ?_ | refine aR ?_) | (refine aY ?_;  first | refine bH ?_ | refine bE ?_) | refine bU (bQ (by kernel_rfl)) ?_)
      all_goals first
        | exact absurd rfl (by assumption)
        | exact absurd k164 (by assumption)
        | (exfalso; omega)
        | (refine bA (by first | exact .inl rfl | exact .inr rfl) (bP rfl (aD rfl) (aD rfl)) rfl ?_; rfl)
    · rw [if_neg k164] at hQ
      by_cases k165 : k = 165
      · rw [if_pos k165] at hQ
        have hn1 := hn (by omega)
        have hw4 : (conT 114 L).whole = true := oJ hLw
        have ca := rX 117 n (conT 114 L) hw4 hn1.1 (by omega)
        have c1 := kH 114 false kids.length (Tree.ivs L)
        have e4 : (conT 114 L).iv = conIV 114 kids.length (Tree.ivs L) := by rw [cU, hLl]
        rw [e4] at ca
        subst hQ
        dsimp only
        generalize Tree.ivs L = ZI at *
        unfold conIV at *
        repeat' (first | refine aE ?_ | (refine aH ?_;  first | refine aC tabOk rfl rfl rfl (nb rfl) rfl ?_ | (refine aK rfl rfl rfl (nb rfl) rfl rfl rfl (fun hq => ?_) (fun hq => ?_) <;> (first | (simp only [sD, sE, sB, sC, sN, sM, sT, sF] at hq; try (exfalso; omega)) | skip)) | refine aI rfl rfl (nb rfl) rfl rfl rfl rfl (c1) ?_ | refine aI rfl rfl (nb rfl) rfl rfl rfl rfl (ca) ?_) | (refine aN ?_;  first | refine aG ?_ | refine aQ ?_ | refine aX ?_ | refine aT ?_ | refine bS ?_ | refine aA (b := true) rfl (fun _ => ?_) nTf | refine aA (b := false) rfl nFt (fun _ => ?_) | refine bC mixed (by kernel_rfl) ?_) | (refine aJ ?_;  first | refine bB ?_ | refine bJ ?_ | refine aR ?_) | (refine aY ?_;  first | refine bH ?_ | refine bE ?_) | refine bU (bQ (by kernel_rfl)) ?_)
        all_goals first
          | exact absurd rfl (by assumption)
          | exact absurd (by assumption) k164
          | exact absurd k165 (by assumption)
          | (exfalso; omega)
          | (refine bA (by first | exact .inl rfl | exact .inr rfl) (bP rfl (aD rfl) (aD rfl)) rfl ?_; rfl)
      · rw [if_neg k165] at hQ
        have c1 := kH 115 false kids.length (Tree.ivs L)
        have e4 : (conT 115 L).iv = conIV 115 kids.length (Tree.ivs L) := by rw [cU, hLl]
        subst hQ
        dsimp only
        rw [e4]
        generalize Tree.ivs L = ZI at *
        unfold conIV at *
        repeat' (first | refine aE ?_ | (refine aH ?_;  first | refine aC tabOk rfl rfl rfl (nb rfl) rfl ?_ | (refine aK rfl rfl rfl (nb rfl) rfl rfl rfl (fun hq => ?_) (fun hq => ?_) <;> (first | (simp only [sD, sE, sB, sC, sN, sM, sT, sF] at hq; try (exfalso; omega)) | skip)) | refine aI rfl rfl (nb rfl) rfl rfl rfl rfl (c1) ?_) | (refine aN ?_;  first | refine aG ?_ | refine aQ ?_ | refine aX ?_ | refine aT ?_ | refine bS ?_ | refine aW ?_ | refine aA (b := false) rfl nFt (fun _ => ?_)) | (refine aJ ?_;  first | refine bB ?_ | refine bJ ?_) | (refine aY ?_;  first | refine bR ?_ | refine bH ?_))
        all_goals first
          | exact absurd rfl (by assumption)
          | exact absurd (by assumption) k164
          | exact absurd (by assumption) k165
          | (exfalso; omega)
          | (refine bA (by first | exact .inl rfl | exact .inr rfl) (bP rfl (aD rfl) (aD rfl)) rfl ?_; rfl)
end Go.Proofs.YtlbemgokilhdnaaGreatDoor.Ab
namespace Go.Proofs.YtlbemgokilhdnaaGreatDoor.Ab
set_option linter.unusedVariables false
set_option linter.unusedSimpArgs false
open Go.RowKit
attribute [local irreducible] AWP AOps AExit AThen ABlock ANoGoto FeetOk
theorem kJ (k n : Int) (R : List Tree × Int) (h0 : (finP k n R).2 ≠ 0) : (finP k n R).1 = .nil := by
  unfold finP at h0 ⊢
  split
  · rfl
  · rename_i h1
    rw [if_neg h1] at h0
    exfalso
    revert h0
    split
    · simp
    · split <;> simp
theorem eL (t : Tree) (h0 : (transP t).2 ≠ 0) : (transP t).1 = .nil := by
  cases t with
  | nil => rw [transP] at h0; exact absurd rfl h0
  | node k n a b kids =>
    rw [transP] at h0 ⊢
    split
    · rename_i h1; rw [if_pos h1] at h0; exact absurd rfl h0
    · rename_i h1
      rw [if_neg h1] at h0
      split
      · rename_i h2
        rw [if_pos h2] at h0
        unfold allTok at h0 ⊢
        split
        · rfl
        · rename_i h3; rw [if_neg h3] at h0; exact absurd rfl h0
      · rename_i h2
        rw [if_neg h2] at h0
        exact kJ _ _ _ h0
theorem dV : higherT.iv = conIV 101 2 [conIV 100 0 [], conIV 100 0 []] := by
  unfold higherT
  rw [cU, Tree.ivs, Tree.ivs, Tree.ivs, cU, Tree.ivs]
  rfl
set_option maxHeartbeats 8000000 in
set_option maxRecDepth 10000 in
theorem uO (n : Int) (a b : ByteArray) (c : Tree) (hcs : c.size ≤ 1000000) : ACalls Tryz.prog 22 [.imm (Tree.iv (.node 161 n a b [c]))] [] (.imm (.tup [(allTok c).1.iv, .lit (.int .i64 (allTok c).2)])) [] := by
  have c1 := vJ c hcs
  have c0 := rW
  have hf := eX c
  rw [dV] at c0
  unfold allTok
  generalize tokP c = S at *
  obtain ⟨S1, S2⟩ := S
  dsimp only at *
  by_cases h0 : S2 = 0
  · subst h0
    rw [if_neg (by simp)]
    obtain ⟨px, hpx⟩ := dF (cR (hf rfl).1)
    have c2 := kH 114 true 2 [.ptr px 0, .ptr px 0]
    have c3 := kH 117 true 2 [conIV 101 2 [conIV 100 0 [], conIV 100 0 []], conIV 114 2 [.ptr px 0, .ptr px 0]]
    have hnx : (conT 117 [higherT, conT 114 [S1, S1]]).iv = conIV 117 2 [conIV 101 2 [conIV 100 0 [], conIV 100 0 []], conIV 114 2 [.ptr px 0, .ptr px 0]] := by
      rw [cU, Tree.ivs, Tree.ivs, Tree.ivs, dV, cU, Tree.ivs, Tree.ivs, Tree.ivs, hpx]; rfl
    rw [hnx]
    rw [hpx] at c1
    clear hf hnx
    unfold conIV at *
    refine aM Tryz.func22 rfl rfl (nb rfl) rfl ?_
    repeat' (first | refine aE ?_ | (refine aH ?_;  first | refine aC tabOk rfl rfl rfl (nb rfl) rfl ?_ | (refine aK rfl rfl rfl (nb rfl) rfl rfl rfl (fun hq => ?_) (fun hq => ?_) <;> (first | (simp only [sD, sE, sB, sC, sN, sM, sT, sF] at hq; try (exfalso; omega)) | skip)) | refine aI rfl rfl (nb rfl) rfl rfl rfl rfl (c0) ?_ | refine aI rfl rfl (nb rfl) rfl rfl rfl rfl (c1) ?_ | refine aI rfl rfl (nb rfl) rfl rfl rfl rfl (c2) ?_ | refine aI rfl rfl (nb rfl) rfl rfl rfl rfl (c3) ?_ | refine bV tabOk rfl rfl rfl (nb rfl) rfl rfl rfl rfl rfl rfl rfl rfl rfl ?_ | refine bG tabOk rfl rfl rfl (nb rfl) rfl rfl rfl rfl (by first | rfl | omega) (by first | omega | simp) ?_) | (refine aN ?_;  first | refine aG ?_ | refine aQ ?_ | refine aX ?_ | refine aT ?_ | refine aW ?_ | refine aA (b := true) rfl (fun _ => ?_) nTf | refine aA (b := false) rfl nFt (fun _ => ?_)) | (refine aJ ?_;  first | refine bB ?_ | refine aR ?_) | (refine aY ?_;  first | refine bE ?_))
    all_goals first
      | exact absurd rfl (by assumption)
      | (refine bA (by first | exact .inl rfl | exact .inr rfl) (bP rfl (aD rfl) (aD rfl)) rfl ?_; rfl)
  · rw [if_pos h0]
    refine aM Tryz.func22 rfl rfl (nb rfl) rfl ?_
    repeat' (first | refine aE ?_ | (refine aH ?_;  first | refine aC tabOk rfl rfl rfl (nb rfl) rfl ?_ | (refine aK rfl rfl rfl (nb rfl) rfl rfl rfl (fun hq => ?_) (fun hq => ?_) <;> (first | (simp only [sD, sE, sB, sC, sN, sM, sT, sF] at hq; try (exfalso; omega)) | skip)) | refine aI rfl rfl (nb rfl) rfl rfl rfl rfl (c1) ?_ | refine bG tabOk rfl rfl rfl (nb rfl) rfl rfl rfl rfl (by first | rfl | omega) (by first | omega | simp) ?_) | (refine aN ?_;  first | refine aG ?_ | refine aQ ?_ | refine aX ?_ | refine aT ?_ | refine aA (b := true) rfl (fun _ => ?_) nTf | refine aA (b := false) rfl nFt (fun _ => ?_)) | (refine aJ ?_;  first | refine aR ?_) | (refine aY ?_;  first | refine bE ?_))
    all_goals first
      | exact absurd (by assumption) h0
      | exact absurd rfl (by assumption)
      | (refine bA (by first | exact .inl rfl | exact .inr rfl) (bP rfl (aD rfl) (aD rfl)) rfl ?_; rfl)
set_option maxHeartbeats 8000000 in
set_option maxRecDepth 10000 in
theorem uP (n : Int) (a b : ByteArray) (c : Tree) : ACalls Tryz.prog 22 [.imm (Tree.iv (.node 160 n a b [c]))] [] (.imm (.tup [c.iv, .lit (.int .i64 0)])) [] := by
  refine aM Tryz.func22 rfl rfl (nb rfl) rfl ?_
  repeat' (first | refine aE ?_ | (refine aH ?_;  first | refine aC tabOk rfl rfl rfl (nb rfl) rfl ?_ | (refine aK rfl rfl rfl (nb rfl) rfl rfl rfl (fun hq => ?_) (fun hq => ?_) <;> (first | (simp only [sD, sE, sB, sC, sN, sM, sT, sF] at hq; try (exfalso; omega)) | skip)) | refine bG tabOk rfl rfl rfl (nb rfl) rfl rfl rfl rfl (by first | rfl | omega) (by first | omega | simp) ?_) | (refine aN ?_;  first | refine aG ?_ | refine aQ ?_ | refine aX ?_ | refine aT ?_ | refine aA (b := true) rfl (fun _ => ?_) nTf) | (refine aJ ?_;  first | refine aR ?_) | (refine aY ?_;  first | refine bE ?_))
  all_goals first
    | exact absurd rfl (by assumption)
    | (refine bA (by first | exact .inl rfl | exact .inr rfl) (bP rfl (aD rfl) (aD rfl)) rfl ?_; rfl)
theorem aAu (t : Tree) : tForm t → t.whole = true → t.size ≤ 1000000 → ACalls Tryz.prog 22 [.imm t.iv] [] (.imm (.tup [(transP t).1.iv, .lit (.int .i64 (transP t).2)])) [] := by
  induction t using Tree.sind with
  | h t ih =>
    intro hf hw hs
    have hfin := hf
    obtain ⟨k, n, a, b, kids, rfl⟩ := cN hw
    rcases hf with hf | hf | hf
    · rcases fC hf with ⟨hk, c, rfl, hc⟩ | ⟨rfl, hfl, _⟩
      · have hcw := (cT hc).1
        have hsz : (Tree.node k n a b [c]).size = c.size + 1 := by simp only [Tree.size, Tree.sizes]; omega
        rw [transP]
        rcases hk with rfl | rfl
        · rw [if_pos rfl]
          exact uP n a b c
        · rw [if_neg (by decide), if_pos rfl]
          exact uO n a b c (by omega)
      · rw [transP, if_neg (by decide), if_neg (by decide), if_pos rfl, gD]
        have hkl := cI kids hw
        have hsz : (Tree.node 162 n a b kids).size = 1 + Tree.sizes kids := by simp only [Tree.size]; try omega
        refine iJ 162 n a b kids (kids.map fldR) (.inl rfl) (fun e => absurd rfl e) (fun e => absurd e (by decide)) (by omega) (by rw [List.length_map]) ?_
        intro j hj hj'
        have hm := List.getElem_mem hj
        obtain ⟨n', a', b', c, e, hc⟩ := dY (hfl _ hm)
        have hz := cF (k := 162) (n := n) (a := a) (b := b) hm
        have hwm := bN hw hm
        rw [List.getElem_map, e]
        rw [e] at hz hwm
        have hcw : c.whole = true := bN hwm (List.mem_singleton.2 rfl)
        have hcs : (Tree.node 163 n' a' b' [c]).size = c.size + 1 := by simp only [Tree.size, Tree.sizes]; omega
        exact ⟨163, n', a', b', [c], c, rfl, wZ n' a' b' c hcw, ih c (by omega) (.inl hc) hcw (by omega), fun h0 => (dD c (.inl hc) hcw h0).1, .inl ⟨rfl, by rw [fldR, one1]⟩⟩
    · obtain ⟨n', a', b', c, e, g0, g1, hc⟩ := lY hf
      cases e
      have hcw : c.whole = true := bN hw (List.mem_singleton.2 rfl)
      have hsz : (Tree.node 164 n a b [c]).size = c.size + 1 := by simp only [Tree.size, Tree.sizes]; omega
      rw [transP, if_neg (by decide), if_neg (by decide), if_neg (by decide), plnRs, plnRs]
      refine iJ 164 n a b [c] [transP c] (.inr (.inl rfl)) (fun _ => ⟨g0, g1⟩) (fun _ => rfl) (by simp) rfl ?_
      intro j hj hj'
      obtain rfl : j = 0 := by simp only [List.length_cons, List.length_nil] at hj; omega
      obtain ⟨kk, nn, aa, bb, ks, rfl⟩ := cN hcw
      have hk : kk ≠ 163 := fun e => by subst e; rcases fC hc with ⟨h, _⟩ | ⟨h, _⟩ <;> omega
      exact ⟨kk, nn, aa, bb, ks, _, rfl, kX kk nn aa bb ks hk, ih _ (by omega) (.inl hc) hcw (by omega), fun h0 => (dD _ (.inl hc) hcw h0).1, .inr ⟨hk, rfl⟩⟩
    · obtain ⟨n', a', b', c, x, e, g0, g1, hc, hx⟩ := nL hf
      cases e
      have hcw : c.whole = true := bN hw (by simp)
      have hxw : x.whole = true := bN hw (by simp)
      have hsz : (Tree.node 165 n a b [c, x]).size = c.size + x.size + 1 := by simp only [Tree.size, Tree.sizes]; omega
      have hc1 := fZ hcw
      have hx1 := fZ hxw
      rw [transP, if_neg (by decide), if_neg (by decide), if_neg (by decide), plnRs, plnRs, plnRs]
      refine iJ 165 n a b [c, x] [transP c, transP x] (.inr (.inr rfl)) (fun _ => ⟨g0, g1⟩) (fun e => absurd e (by decide)) (by simp) rfl ?_
      intro j hj hj'
      simp only [List.length_cons, List.length_nil] at hj
      match j, hj with
      | 0, _ =>
        obtain ⟨kk, nn, aa, bb, ks, rfl⟩ := cN hcw
        have hk : kk ≠ 163 := fun e => by subst e; rcases fC hc with ⟨h, _⟩ | ⟨h, _⟩ <;> omega
        exact ⟨kk, nn, aa, bb, ks, _, rfl, kX kk nn aa bb ks hk, ih _ (by omega) (.inl hc) hcw (by omega), fun h0 => (dD _ (.inl hc) hcw h0).1, .inr ⟨hk, rfl⟩⟩
      | 1, _ =>
        obtain ⟨nn, aa, bb, c2, rfl, _⟩ := lY hx
        exact ⟨164, nn, aa, bb, [c2], _, rfl, kX 164 nn aa bb [c2] (by decide), ih _ (by omega) (.inr (.inl hx)) hxw (by omega), fun h0 => (dD _ (.inr (.inl hx)) hxw h0).1, .inr ⟨by decide, rfl⟩⟩
      | j + 2, h => omega
/-- What sem.Trans tells. -/
def sTransP (t : Tree) : Tree × Int := if checkP sformP t ≠ 0 then (.nil, checkP sformP t) else sizedP (transP t).1 (transP t).2
/-- What sem.Token tells. -/
def tokT (T : Tree) : Tree := conT 139 [higherT, conT 134 [T, conT 130 []]]
def sTokenP (c : Tree) : Tree × Int := if checkP isConP c ≠ 0 then (.nil, checkP isConP c) else if (tokP c).2 ≠ 0 then (.nil, (tokP c).2) else sizedP (tokT (tokP c).1) 0
set_option maxHeartbeats 4000000 in
set_option maxRecDepth 10000 in
theorem vK (t : Tree) (hs : t.size ≤ 100000) : ACalls Tryz.prog 6 [.imm t.iv] [] (.imm (.tup [(sTransP t).1.iv, .lit (.int .i64 (sTransP t).2)])) [] := by
  have c1 := mW t (by omega)
  obtain ⟨Q, hQ⟩ : ∃ Q, sTransP t = Q := ⟨_, rfl⟩
  rw [hQ]
  unfold sTransP at hQ
  by_cases hc : checkP sformP t = 0
  · rw [if_neg (by simpa using hc)] at hQ
    rw [hc] at c1
    obtain ⟨hw, hz, hf⟩ := cT hc
    have ht := nK hf
    have c2 := aAu t ht hw (by omega)
    have hsz : (transP t).1.size ≤ 1000000 := by
      by_cases h0 : (transP t).2 = 0
      · have := (dD t ht hw h0).2; omega
      · rw [eL t h0]; decide
    have c3 := vF (transP t).1 (transP t).2 hsz
    rw [hQ] at c3
    clear hQ hsz ht hf hw hz hc
    generalize transP t = W at *
    obtain ⟨W1, W2⟩ := W
    obtain ⟨Q1, Q2⟩ := Q
    dsimp only at *
    refine aM Tryz.func6 rfl rfl (nb rfl) rfl ?_
    repeat' (first | refine aE ?_ | (refine aH ?_;  first | refine aC tabOk rfl rfl rfl (nb rfl) rfl ?_ | (refine aK rfl rfl rfl (nb rfl) rfl rfl rfl (fun hq => ?_) (fun hq => ?_) <;> (first | (simp only [sD, sE, sB, sC, sN, sM, sT, sF] at hq; try (exfalso; omega)) | skip)) | refine aI rfl rfl (nb rfl) rfl rfl rfl rfl (c1) ?_ | refine aI rfl rfl (nb rfl) rfl rfl rfl rfl (c2) ?_ | refine aI rfl rfl (nb rfl) rfl rfl rfl rfl (c3) ?_) | (refine aN ?_;  first | refine aG ?_ | refine aQ ?_ | refine aT ?_ | refine aW ?_ | refine aA (b := false) rfl nFt (fun _ => ?_)) | (refine aJ ?_;  first | refine bB ?_))
    all_goals first
      | exact absurd rfl (by assumption)
      | (refine bA (by first | exact .inl rfl | exact .inr rfl) (bP rfl (aD rfl) (aD rfl)) rfl ?_; rfl)
  · rw [if_pos hc] at hQ
    subst hQ
    generalize checkP sformP t = C at *
    refine aM Tryz.func6 rfl rfl (nb rfl) rfl ?_
    repeat' (first | refine aE ?_ | (refine aH ?_;  first | refine aC tabOk rfl rfl rfl (nb rfl) rfl ?_ | (refine aK rfl rfl rfl (nb rfl) rfl rfl rfl (fun hq => ?_) (fun hq => ?_) <;> (first | (simp only [sD, sE, sB, sC, sN, sM, sT, sF] at hq; try (exfalso; omega)) | skip)) | refine aI rfl rfl (nb rfl) rfl rfl rfl rfl (c1) ?_) | (refine aN ?_;  first | refine aG ?_ | refine aQ ?_ | refine aT ?_ | refine aA (b := true) rfl (fun _ => ?_) nTf) | (refine aJ ?_;  first | refine aR ?_))
    all_goals first
      | exact absurd rfl (by assumption)
      | exact absurd (by assumption) hc
      | (refine bA (by first | exact .inl rfl | exact .inr rfl) (bP rfl (aD rfl) (aD rfl)) rfl ?_; rfl)
set_option maxHeartbeats 4000000 in
set_option maxRecDepth 10000 in
theorem aAv (c : Tree) (hs : c.size ≤ 100000) : ACalls Tryz.prog 8 [.imm c.iv] [] (.imm (.tup [(sTokenP c).1.iv, .lit (.int .i64 (sTokenP c).2)])) [] := by
  have c1 := iU c (by omega)
  have c2 := vJ c (by omega)
  have c0 := rW
  have c4 := pX 130
  have hf := eX c
  obtain ⟨Q, hQ⟩ : ∃ Q, sTokenP c = Q := ⟨_, rfl⟩
  rw [hQ]
  unfold sTokenP at hQ
  by_cases hc : checkP isConP c = 0
  · rw [if_neg (by simpa using hc)] at hQ
    rw [hc] at c1
    generalize tokP c = S at *
    obtain ⟨S1, S2⟩ := S
    dsimp only at *
    by_cases h0 : S2 = 0
    · subst h0
      rw [if_neg (by simp)] at hQ
      obtain ⟨g1, g2⟩ := hf rfl
      obtain ⟨px, hpx⟩ := dF (cR g1)
      have hsz : (tokT S1).size = S1.size + 6 := by simp only [tokT, conT, higherT, Tree.size, Tree.sizes]; omega
      have c3 := vF (tokT S1) 0 (by omega)
      rw [hQ] at c3
      have hnx : (tokT S1).iv = conIV 139 2 [conIV 101 2 [conIV 100 0 [], conIV 100 0 []], conIV 134 2 [.ptr px 0, conIV 130 0 []]] := by
        unfold tokT
        rw [cU, Tree.ivs, Tree.ivs, Tree.ivs, dV, cU, Tree.ivs, Tree.ivs, Tree.ivs, cU, hpx]; rfl
      have c5 := kH 134 true 2 [.ptr px 0, conIV 130 0 []]
      have c6 := kH 139 true 2 [conIV 101 2 [conIV 100 0 [], conIV 100 0 []], conIV 134 2 [.ptr px 0, conIV 130 0 []]]
      rw [hnx] at c3
      rw [hpx] at c2
      rw [dV] at c0
      clear hQ hsz hf hnx hc g1 g2
      obtain ⟨Q1, Q2⟩ := Q
      dsimp only at *
      unfold conIV at *
      refine aM Tryz.func8 rfl rfl (nb rfl) rfl ?_
      repeat' (first | refine aE ?_ | (refine aH ?_;  first | refine aC tabOk rfl rfl rfl (nb rfl) rfl ?_ | (refine aK rfl rfl rfl (nb rfl) rfl rfl rfl (fun hq => ?_) (fun hq => ?_) <;> (first | (simp only [sD, sE, sB, sC, sN, sM, sT, sF] at hq; try (exfalso; omega)) | skip)) | refine aI rfl rfl (nb rfl) rfl rfl rfl rfl (c1) ?_ | refine aI rfl rfl (nb rfl) rfl rfl rfl rfl (c2) ?_ | refine aI rfl rfl (nb rfl) rfl rfl rfl rfl (c0) ?_ | refine aI rfl rfl (nb rfl) rfl rfl rfl rfl (c4) ?_ | refine aI rfl rfl (nb rfl) rfl rfl rfl rfl (c5) ?_ | refine aI rfl rfl (nb rfl) rfl rfl rfl rfl (c6) ?_ | refine aI rfl rfl (nb rfl) rfl rfl rfl rfl (c3) ?_ | refine bV tabOk rfl rfl rfl (nb rfl) rfl rfl rfl rfl rfl rfl rfl rfl rfl ?_) | (refine aN ?_;  first | refine aG ?_ | refine aQ ?_ | refine aT ?_ | refine aW ?_ | refine aA (b := false) rfl nFt (fun _ => ?_)) | (refine aJ ?_;  first | refine bB ?_))
      all_goals first
        | exact absurd rfl (by assumption)
        | (refine bA (by first | exact .inl rfl | exact .inr rfl) (bP rfl (aD rfl) (aD rfl)) rfl ?_; rfl)
    · rw [if_pos h0] at hQ
      subst hQ
      refine aM Tryz.func8 rfl rfl (nb rfl) rfl ?_
      repeat' (first | refine aE ?_ | (refine aH ?_;  first | refine aC tabOk rfl rfl rfl (nb rfl) rfl ?_ | (refine aK rfl rfl rfl (nb rfl) rfl rfl rfl (fun hq => ?_) (fun hq => ?_) <;> (first | (simp only [sD, sE, sB, sC, sN, sM, sT, sF] at hq; try (exfalso; omega)) | skip)) | refine aI rfl rfl (nb rfl) rfl rfl rfl rfl (c1) ?_ | refine aI rfl rfl (nb rfl) rfl rfl rfl rfl (c2) ?_) | (refine aN ?_;  first | refine aG ?_ | refine aQ ?_ | refine aT ?_ | refine aW ?_ | refine aA (b := true) rfl (fun _ => ?_) nTf | refine aA (b := false) rfl nFt (fun _ => ?_)) | (refine aJ ?_;  first | refine bB ?_ | refine aR ?_))
      all_goals first
        | exact absurd (by assumption) h0
        | exact absurd rfl (by assumption)
        | (refine bA (by first | exact .inl rfl | exact .inr rfl) (bP rfl (aD rfl) (aD rfl)) rfl ?_; rfl)
  · rw [if_pos hc] at hQ
    subst hQ
    generalize checkP isConP c = C at *
    refine aM Tryz.func8 rfl rfl (nb rfl) rfl ?_
    repeat' (first | refine aE ?_ | (refine aH ?_;  first | refine aC tabOk rfl rfl rfl (nb rfl) rfl ?_ | (refine aK rfl rfl rfl (nb rfl) rfl rfl rfl (fun hq => ?_) (fun hq => ?_) <;> (first | (simp only [sD, sE, sB, sC, sN, sM, sT, sF] at hq; try (exfalso; omega)) | skip)) | refine aI rfl rfl (nb rfl) rfl rfl rfl rfl (c1) ?_) | (refine aN ?_;  first | refine aG ?_ | refine aQ ?_ | refine aT ?_ | refine aA (b := true) rfl (fun _ => ?_) nTf) | (refine aJ ?_;  first | refine aR ?_))
    all_goals first
      | exact absurd rfl (by assumption)
      | exact absurd (by assumption) hc
      | (refine bA (by first | exact .inl rfl | exact .inr rfl) (bP rfl (aD rfl) (aD rfl)) rfl ?_; rfl)
end Go.Proofs.YtlbemgokilhdnaaGreatDoor.Ab
namespace Go.Proofs.YtlbemgokilhdnaaGreatDoor.RP
set_option linter.unusedVariables false
set_option linter.unusedSimpArgs false
open Go.RowKit Go.Lib Go.Proofs.YtlbemgokilhdnaaGreatDoorW.PrintWords Go.Proofs.YtlbemgokilhdnaaGreatDoorW.PrintLast Go.Proofs.YtlbemgokilhdnaaGreatDoorW.PrintMore Go.Proofs.YtlbemgokilhdnaaGreatDoor.PAll
theorem w64 {x : Int} (h0 : -9223372036854775808 ≤ x) (h1 : x ≤ 9223372036854775807) : wrap64 x = x := by unfold wrap64; omega
theorem w32 {x : Int} (h0 : -2147483648 ≤ x) (h1 : x ≤ 2147483647) : wrap32 x = x := by unfold wrap32; omega
theorem w64s (a : Nat) (h : a ≤ 9000000) : wrap64 ((a : Int) + 1) = ((a + 1 : Nat) : Int) := by rw [w64] <;> omega
theorem yY (s : ByteArray) (i : Nat) (h : i < s.size) : bt s (i : Int) = ((s.get! i).toNat : Int) := by
  have e : s.get! i = s[i]'h := by simp [ByteArray.get!, getElem!_pos, h]; rfl
  rw [e]
  simp [bt, h]
/-- What the reference's 'next' tells at a place within the text. -/
def nx (s : ByteArray) (i : Nat) : Int × Int := if (Utf8.decode s i).1 = 65533 ∧ (Utf8.decode s i).2 = 1 then (0, 0) else ((Utf8.decode s i).1, (Utf8.decode s i).2)
def nn (d : Nat × Nat) : Int × Int := if d.1 = 65533 ∧ d.2 = 1 then (0, 0) else (d.1, d.2)
theorem pY (s : ByteArray) (i n x m : Int) (k : Nat) :
    marquetryref01_next.l0 (k + 1) s i n x m n = some (if x < m ∨ x > 1114111 ∨ (55296 ≤ x ∧ x ≤ 57343) then (0, 0) else (wrap32 x, n)) := by
  simp only [marquetryref01_next.l0]
  rw [if_neg (Int.lt_irrefl n)]
  by_cases h1 : x < m
  · rw [if_pos h1, if_pos (Or.inl h1)]
  · rw [if_neg h1]
    by_cases h2 : x > 1114111
    · rw [if_pos h2, if_pos (Or.inr (Or.inl h2))]
    · rw [if_neg h2]
      by_cases h3 : x ≥ 55296
      · rw [if_pos h3]
        by_cases h4 : x ≤ 57343
        · rw [if_pos h4, if_pos (Or.inr (Or.inr ⟨h3, h4⟩))]
        · rw [if_neg h4, if_neg (by omega)]
      · rw [if_neg h3, if_neg (by omega)]
theorem oW (s : ByteArray) (i j : Nat) (n x m : Int) (c : Nat) (k : Nat) (hj : (j : Int) < n) (hi : i + j < s.size) (hs : s.size ≤ 140737488351232) (hc : (s.get! (i + j)).toNat = c)
    (hx0 : 0 ≤ x) (hx1 : x ≤ 1000000) :
    marquetryref01_next.l0 (k + 1) s (i : Int) n x m (j : Int) = if c < 128 ∨ 191 < c then some (0, 0) else marquetryref01_next.l0 k s (i : Int) n (64 * x + c - 128) m ((j + 1 : Nat) : Int) := by
  have hlt : c < 256 := by rw [← hc]; exact UInt8.toNat_lt _
  have e1 : wrap64 ((i : Int) + (j : Int)) = ((i + j : Nat) : Int) := by rw [w64] <;> omega
  have e2 : wrap64 (bt s ((i + j : Nat) : Int)) = (c : Int) := by rw [yY s _ hi, hc, w64] <;> omega
  have e3 : wrap64 (64 * x) = 64 * x := by rw [w64] <;> omega
  have e4 : wrap64 (64 * x + (c : Int)) = 64 * x + (c : Int) := by clear e1 e2 e3; rw [w64] <;> omega
  have e5 : wrap64 (64 * x + (c : Int) - 128) = 64 * x + (c : Int) - 128 := by clear e1 e2 e3 e4; rw [w64] <;> omega
  have e6 : wrap64 ((j : Int) + 1) = ((j + 1 : Nat) : Int) := by clear e1 e2 e3 e4 e5; rw [w64] <;> omega
  simp only [marquetryref01_next.l0]
  rw [e1, e2, e3, e4, e5, e6]
  clear e1 e2 e3 e4 e5 e6 hc
  rw [if_pos hj, if_pos (by omega), if_pos (by omega)]
  by_cases h1 : c < 128
  · rw [if_pos (by omega), if_pos (Or.inl h1)]
  · rw [if_neg (by omega)]
    by_cases h2 : 191 < c
    · rw [if_pos (by omega), if_pos (Or.inr h2)]
    · rw [if_neg (by omega), if_neg (by omega)]
/-- 'next' behind the lead byte. -/
theorem vL (s : ByteArray) (i x m : Int) (k : Nat) : marquetryref01_next.j2 (k + 2) s i 0 x m = some (0, 0) := by
  simp only [marquetryref01_next.j2, marquetryref01_next.j3, if_true]
theorem nM (s : ByteArray) (i : Nat) (n x m : Int) (k : Nat) (hn : n ≠ 0) (hs : s.size ≤ 140737488351232) (hi : i < s.size) (h : (s.size : Int) - (i : Int) < n) :
    marquetryref01_next.j2 (k + 2) s (i : Int) n x m = some (0, 0) := by
  have e : wrap64 ((s.size : Int) - (i : Int)) = (s.size : Int) - (i : Int) := by rw [w64] <;> omega
  simp only [marquetryref01_next.j2, marquetryref01_next.j3]
  rw [if_neg hn, e, decide_eq_true h]
  simp
theorem pZ (s : ByteArray) (i : Nat) (n x m : Int) (k : Nat) (hn : n ≠ 0) (hs : s.size ≤ 140737488351232) (hi : i < s.size) (h : ¬ (s.size : Int) - (i : Int) < n) :
    marquetryref01_next.j2 (k + 2) s (i : Int) n x m = marquetryref01_next.l0 k s (i : Int) n x m 1 := by
  have e : wrap64 ((s.size : Int) - (i : Int)) = (s.size : Int) - (i : Int) := by rw [w64] <;> omega
  simp only [marquetryref01_next.j2, marquetryref01_next.j3]
  rw [if_neg hn, e, decide_eq_false h]
  simp
theorem two (s : ByteArray) (i : Nat) (b0 b1 b2 b3 : Nat) (k : Nat) (hi : i < s.size) (hs : s.size ≤ 140737488351232) (h1 : (s.get! (i + 1)).toNat = b1) (ha : 194 ≤ b0) (hb : b0 < 224) :
    marquetryref01_next.j2 (k + 4) s (i : Int) 2 ((b0 : Int) - 192) 128 = some (nn (decodeN (s.size - i) b0 b1 b2 b3)) := by
  have hd : decodeN (s.size - i) b0 b1 b2 b3 = if 1 < s.size - i ∧ b1 / 64 = 2 then (b0 % 32 * 64 + b1 % 64, 2) else (65533, 1) := by
    unfold decodeN
    rw [if_neg (by omega)]
    by_cases hc : 1 < s.size - i ∧ b1 / 64 = 2
    · rw [if_pos ⟨by omega, hc⟩, if_pos (by omega), if_pos hc]
    · rw [if_neg (fun h => hc h.2), if_neg (by omega), if_neg (by omega), if_neg hc]
  rw [hd]
  have l1 : b1 < 256 := by rw [← h1]; exact UInt8.toNat_lt _
  by_cases hl : (s.size : Int) - (i : Int) < 2
  · rw [nM s i 2 _ _ (k + 2) (by omega) hs hi hl, if_neg (by omega)]
    rfl
  · rw [pZ s i 2 _ _ (k + 2) (by omega) hs hi hl]
    have g := oW s i 1 2 ((b0 : Int) - 192) 128 b1 (k + 1) (by omega) (by omega) hs h1 (by omega) (by omega)
    have g' : marquetryref01_next.l0 (k + 2) s (i : Int) 2 ((b0 : Int) - 192) 128 1 = _ := g
    rw [g']
    by_cases hc : b1 < 128 ∨ 191 < b1
    · rw [if_pos hc, if_neg (by omega)]
      rfl
    · rw [if_neg hc, if_pos (by omega)]
      have g2 := pY s (i : Int) 2 (64 * ((b0 : Int) - 192) + b1 - 128) 128 k
      have g2' : marquetryref01_next.l0 (k + 1) s (i : Int) 2 (64 * ((b0 : Int) - 192) + b1 - 128) 128 ((1 + 1 : Nat) : Int) = _ := g2
      rw [g2', if_neg (by omega), w32 (by omega) (by omega)]
      unfold nn
      rw [if_neg (by simp only; omega)]
      simp only [Option.some.injEq, Prod.mk.injEq]
      omega
theorem three (s : ByteArray) (i : Nat) (b0 b1 b2 b3 : Nat) (k : Nat) (hi : i < s.size) (hs : s.size ≤ 140737488351232) (h1 : (s.get! (i + 1)).toNat = b1) (h2 : (s.get! (i + 2)).toNat = b2) (ha : 224 ≤ b0) (hb : b0 < 240) :
    marquetryref01_next.j2 (k + 5) s (i : Int) 3 ((b0 : Int) - 224) 2048 = some (nn (decodeN (s.size - i) b0 b1 b2 b3)) := by
  have hd : decodeN (s.size - i) b0 b1 b2 b3 = if (1 < s.size - i ∧ b1 / 64 = 2) ∧ (2 < s.size - i ∧ b2 / 64 = 2) then
      (if b0 % 16 * 4096 + b1 % 64 * 64 + b2 % 64 ≥ 2048 ∧ (b0 % 16 * 4096 + b1 % 64 * 64 + b2 % 64 < 55296 ∨ (57344 ≤ b0 % 16 * 4096 + b1 % 64 * 64 + b2 % 64 ∧ b0 % 16 * 4096 + b1 % 64 * 64 + b2 % 64 ≤ 1114111)) then (b0 % 16 * 4096 + b1 % 64 * 64 + b2 % 64, 3) else (65533, 1)) else (65533, 1) := by
    unfold decodeN
    rw [if_neg (by omega), if_neg (by omega)]
    by_cases hc : (1 < s.size - i ∧ b1 / 64 = 2) ∧ (2 < s.size - i ∧ b2 / 64 = 2)
    · rw [if_pos ⟨by omega, hc⟩, if_pos hc]
    · rw [if_neg (fun h => hc h.2), if_neg (by omega), if_neg hc]
  rw [hd]
  clear hd
  have l1 : b1 < 256 := by rw [← h1]; exact UInt8.toNat_lt _
  have l2 : b2 < 256 := by rw [← h2]; exact UInt8.toNat_lt _
  by_cases hl : (s.size : Int) - (i : Int) < 3
  · rw [nM s i 3 _ _ (k + 3) (by omega) hs hi hl, if_neg (by omega)]
    rfl
  · rw [pZ s i 3 _ _ (k + 3) (by omega) hs hi hl]
    have g' : marquetryref01_next.l0 (k + 3) s (i : Int) 3 ((b0 : Int) - 224) 2048 1 = _ := oW s i 1 3 ((b0 : Int) - 224) 2048 b1 (k + 2) (by omega) (by omega) hs h1 (by omega) (by omega)
    rw [g']
    by_cases hc : b1 < 128 ∨ 191 < b1
    · rw [if_pos hc, if_neg (by omega)]
      rfl
    · rw [if_neg hc]
      have g2' := oW s i 2 3 (64 * ((b0 : Int) - 224) + b1 - 128) 2048 b2 (k + 1) (by omega) (by omega) hs h2 (by omega) (by omega)
      have g2 : marquetryref01_next.l0 (k + 2) s (i : Int) 3 (64 * ((b0 : Int) - 224) + b1 - 128) 2048 ((1 + 1 : Nat) : Int) = _ := g2'
      rw [g2]
      by_cases hc2 : b2 < 128 ∨ 191 < b2
      · rw [if_pos hc2, if_neg (by omega)]
        rfl
      · rw [if_neg hc2, if_pos (by omega)]
        have g3 : marquetryref01_next.l0 (k + 1) s (i : Int) 3 (64 * (64 * ((b0 : Int) - 224) + b1 - 128) + b2 - 128) 2048 ((2 + 1 : Nat) : Int) = _ := pY s (i : Int) 3 (64 * (64 * ((b0 : Int) - 224) + b1 - 128) + b2 - 128) 2048 k
        rw [g3]
        clear g' g2 g2' g3
        by_cases hv : b0 % 16 * 4096 + b1 % 64 * 64 + b2 % 64 ≥ 2048 ∧ (b0 % 16 * 4096 + b1 % 64 * 64 + b2 % 64 < 55296 ∨ (57344 ≤ b0 % 16 * 4096 + b1 % 64 * 64 + b2 % 64 ∧ b0 % 16 * 4096 + b1 % 64 * 64 + b2 % 64 ≤ 1114111))
        · rw [if_pos hv, if_neg (by omega), w32 (by omega) (by omega)]
          unfold nn
          rw [if_neg (by simp only; omega)]
          simp only [Option.some.injEq, Prod.mk.injEq]
          omega
        · rw [if_neg hv, if_pos (by omega)]
          rfl
theorem four (s : ByteArray) (i : Nat) (b0 b1 b2 b3 : Nat) (k : Nat) (hi : i < s.size) (hs : s.size ≤ 140737488351232) (h1 : (s.get! (i + 1)).toNat = b1) (h2 : (s.get! (i + 2)).toNat = b2) (h3 : (s.get! (i + 3)).toNat = b3)
    (ha : 240 ≤ b0) (hb : b0 < 245) :
    marquetryref01_next.j2 (k + 6) s (i : Int) 4 ((b0 : Int) - 240) 65536 = some (nn (decodeN (s.size - i) b0 b1 b2 b3)) := by
  have hd : decodeN (s.size - i) b0 b1 b2 b3 = if (1 < s.size - i ∧ b1 / 64 = 2) ∧ (2 < s.size - i ∧ b2 / 64 = 2) ∧ (3 < s.size - i ∧ b3 / 64 = 2) then
      (if b0 % 8 * 262144 + b1 % 64 * 4096 + b2 % 64 * 64 + b3 % 64 ≥ 65536 ∧ (b0 % 8 * 262144 + b1 % 64 * 4096 + b2 % 64 * 64 + b3 % 64 < 55296 ∨ (57344 ≤ b0 % 8 * 262144 + b1 % 64 * 4096 + b2 % 64 * 64 + b3 % 64 ∧ b0 % 8 * 262144 + b1 % 64 * 4096 + b2 % 64 * 64 + b3 % 64 ≤ 1114111)) then (b0 % 8 * 262144 + b1 % 64 * 4096 + b2 % 64 * 64 + b3 % 64, 4) else (65533, 1)) else (65533, 1) := by
    unfold decodeN
    rw [if_neg (by omega), if_neg (by omega), if_neg (by omega)]
    by_cases hc : (1 < s.size - i ∧ b1 / 64 = 2) ∧ (2 < s.size - i ∧ b2 / 64 = 2) ∧ (3 < s.size - i ∧ b3 / 64 = 2)
    · rw [if_pos ⟨by omega, hc⟩, if_pos hc]
    · rw [if_neg (fun h => hc h.2), if_neg hc]
  rw [hd]
  clear hd
  have l1 : b1 < 256 := by rw [← h1]; exact UInt8.toNat_lt _
  have l2 : b2 < 256 := by rw [← h2]; exact UInt8.toNat_lt _
  have l3 : b3 < 256 := by rw [← h3]; exact UInt8.toNat_lt _
  by_cases hl : (s.size : Int) - (i : Int) < 4
  · rw [nM s i 4 _ _ (k + 4) (by omega) hs hi hl, if_neg (by omega)]
    rfl
  · rw [pZ s i 4 _ _ (k + 4) (by omega) hs hi hl]
    have g' : marquetryref01_next.l0 (k + 4) s (i : Int) 4 ((b0 : Int) - 240) 65536 1 = _ := oW s i 1 4 ((b0 : Int) - 240) 65536 b1 (k + 3) (by omega) (by omega) hs h1 (by omega) (by omega)
    rw [g']
    by_cases hc : b1 < 128 ∨ 191 < b1
    · rw [if_pos hc, if_neg (by omega)]
      rfl
    · rw [if_neg hc]
      have g2 : marquetryref01_next.l0 (k + 3) s (i : Int) 4 (64 * ((b0 : Int) - 240) + b1 - 128) 65536 ((1 + 1 : Nat) : Int) = _ := oW s i 2 4 (64 * ((b0 : Int) - 240) + b1 - 128) 65536 b2 (k + 2) (by omega) (by omega) hs h2 (by omega) (by omega)
      rw [g2]
      by_cases hc2 : b2 < 128 ∨ 191 < b2
      · rw [if_pos hc2, if_neg (by omega)]
        rfl
      · rw [if_neg hc2]
        have g3 : marquetryref01_next.l0 (k + 2) s (i : Int) 4 (64 * (64 * ((b0 : Int) - 240) + b1 - 128) + b2 - 128) 65536 ((2 + 1 : Nat) : Int) = _ := oW s i 3 4 (64 * (64 * ((b0 : Int) - 240) + b1 - 128) + b2 - 128) 65536 b3 (k + 1) (by omega) (by omega) hs h3 (by omega) (by omega)
        rw [g3]
        by_cases hc3 : b3 < 128 ∨ 191 < b3
        · rw [if_pos hc3, if_neg (by omega)]
          rfl
        · rw [if_neg hc3, if_pos (by omega)]
          have g4 : marquetryref01_next.l0 (k + 1) s (i : Int) 4 (64 * (64 * (64 * ((b0 : Int) - 240) + b1 - 128) + b2 - 128) + b3 - 128) 65536 ((3 + 1 : Nat) : Int) = _ := pY s (i : Int) 4 (64 * (64 * (64 * ((b0 : Int) - 240) + b1 - 128) + b2 - 128) + b3 - 128) 65536 k
          rw [g4]
          clear g' g2 g3 g4
          by_cases hv : b0 % 8 * 262144 + b1 % 64 * 4096 + b2 % 64 * 64 + b3 % 64 ≥ 65536 ∧ (b0 % 8 * 262144 + b1 % 64 * 4096 + b2 % 64 * 64 + b3 % 64 < 55296 ∨ (57344 ≤ b0 % 8 * 262144 + b1 % 64 * 4096 + b2 % 64 * 64 + b3 % 64 ∧ b0 % 8 * 262144 + b1 % 64 * 4096 + b2 % 64 * 64 + b3 % 64 ≤ 1114111))
          · rw [if_pos hv, if_neg (by omega), w32 (by omega) (by omega)]
            unfold nn
            rw [if_neg (by simp only; omega)]
            simp only [Option.some.injEq, Prod.mk.injEq]
            omega
          · rw [if_neg hv, if_pos (by omega)]
            rfl
theorem none_ (n b0 b1 b2 b3 : Nat) (h : 128 ≤ b0 ∧ b0 < 194 ∨ 245 ≤ b0) : decodeN n b0 b1 b2 b3 = (65533, 1) := by
  unfold decodeN
  repeat' split
  all_goals first | rfl | (exfalso; omega)
theorem aAw (s : ByteArray) (i : Nat) (hi : i < s.size) (hs : s.size ≤ 140737488351232) (k : Nat) : marquetryref01_next.f (k + 9) s (i : Int) = some (nx s i) := by
  have hb0 := yY s i hi
  have l0 := UInt8.toNat_lt (s.get! i)
  have l1 := UInt8.toNat_lt (s.get! (i + 1))
  have l2 := UInt8.toNat_lt (s.get! (i + 2))
  have l3 := UInt8.toNat_lt (s.get! (i + 3))
  show _ = some (nn (Utf8.decode s i))
  rw [decode_at]
  have g1 := two s i (s.get! i).toNat (s.get! (i + 1)).toNat (s.get! (i + 2)).toNat (s.get! (i + 3)).toNat (k + 4) hi hs rfl
  have g2 := three s i (s.get! i).toNat (s.get! (i + 1)).toNat (s.get! (i + 2)).toNat (s.get! (i + 3)).toNat (k + 2) hi hs rfl rfl
  have g3 := four s i (s.get! i).toNat (s.get! (i + 1)).toNat (s.get! (i + 2)).toNat (s.get! (i + 3)).toNat (k + 1) hi hs rfl rfl rfl
  have g4 := none_ (s.size - i) (s.get! i).toNat (s.get! (i + 1)).toNat (s.get! (i + 2)).toNat (s.get! (i + 3)).toNat
  unfold marquetryref01_next.f
  rw [hb0]
  clear hb0
  generalize (s.get! i).toNat = b0 at *
  generalize (s.get! (i + 1)).toNat = b1 at *
  generalize (s.get! (i + 2)).toNat = b2 at *
  generalize (s.get! (i + 3)).toNat = b3 at *
  have eb : wrap64 (b0 : Int) = (b0 : Int) := w64 (by omega) (by omega)
  rw [eb, if_pos (by omega), if_pos (by omega)]
  clear eb
  by_cases h1 : b0 < 128
  · rw [if_pos (by omega)]
    have : decodeN (s.size - i) b0 b1 b2 b3 = (b0, 1) := by unfold decodeN; rw [if_pos h1]
    rw [this, w32 (by omega) (by omega)]
    unfold nn
    rw [if_neg (by simp only; omega)]
    rfl
  · rw [if_neg (by omega)]
    by_cases h2 : b0 < 194
    · rw [if_neg (by omega), g4 (by omega)]
      simp only [marquetryref01_next.j0, Bool.false_eq_true, if_false]
      rw [if_neg (by omega)]
      simp only [marquetryref01_next.j1, Bool.false_eq_true, if_false]
      rw [if_neg (by omega)]
      exact vL s (i : Int) _ _ (k + 5)
    · rw [if_pos (by omega)]
      by_cases h3 : b0 < 224
      · rw [decide_eq_true (by omega)]
        have e : wrap64 ((b0 : Int) - 192) = (b0 : Int) - 192 := w64 (by omega) (by omega)
        simp only [marquetryref01_next.j0, if_true]
        rw [e]
        exact g1 (by omega) h3
      · rw [decide_eq_false (by omega)]
        simp only [marquetryref01_next.j0, Bool.false_eq_true, if_false]
        rw [if_pos (by omega)]
        by_cases h4 : b0 < 240
        · rw [decide_eq_true (by omega)]
          have e : wrap64 ((b0 : Int) - 224) = (b0 : Int) - 224 := w64 (by omega) (by omega)
          simp only [marquetryref01_next.j1, if_true]
          rw [e]
          exact g2 (by omega) h4
        · rw [decide_eq_false (by omega)]
          simp only [marquetryref01_next.j1, Bool.false_eq_true, if_false]
          rw [if_pos (by omega)]
          by_cases h5 : b0 < 245
          · have e : wrap64 ((b0 : Int) - 240) = (b0 : Int) - 240 := w64 (by omega) (by omega)
            rw [if_pos (by omega), e]
            exact g3 (by omega) h5
          · rw [if_neg (by omega), g4 (by omega)]
            exact vL s (i : Int) _ _ (k + 5)
/-- Is the text valid from a place on? -/
def vf (s : ByteArray) (pos : Nat) : Bool := validD (s.data.toList.drop pos)
/-- The runes from a place on, at most so many. -/
def rl (s : ByteArray) : Nat → Nat → List Int
  | 0, _ => []
  | f + 1, pos => if pos < s.size then ((Utf8.decode s pos).1 : Int) :: rl s f (pos + (Utf8.decode s pos).2) else []
theorem vM (s : ByteArray) (pos : Nat) (h : pos < s.size) : s.data.toList.drop pos ≠ [] := by
  intro e
  have := congrArg List.length e
  rw [List.length_drop] at this
  have h2 : s.data.toList.length = s.size := Array.length_toList
  simp only [List.length_nil] at this
  omega
theorem aAx (s : ByteArray) (pos : Nat) (h : pos < s.size) : vf s pos = if (Utf8.decode s pos).1 = 65533 ∧ (Utf8.decode s pos).2 = 1 then false else vf s (pos + (Utf8.decode s pos).2) := by
  unfold vf
  rw [validD_step _ (vM s pos h), decodeL_drop, List.drop_drop]
theorem yZ (s : ByteArray) (pos : Nat) (h : ¬ pos < s.size) : vf s pos = true := by
  unfold vf
  rw [List.drop_eq_nil_of_le (by have h2 : s.data.toList.length = s.size := Array.length_toList
                                 omega)]
  rfl
theorem aAy (s : ByteArray) : vf s 0 = validD s.data.toList := by unfold vf; rw [List.drop_zero]
theorem w_le (s : ByteArray) (pos : Nat) (h : pos < s.size) : pos + (Utf8.decode s pos).2 ≤ s.size := by
  have := decodeL_le (s.data.toList.drop pos) (vM s pos h)
  rw [decodeL_drop, List.length_drop] at this
  have h2 : s.data.toList.length = s.size := Array.length_toList
  omega
theorem aAW {s : ByteArray} {pos : Nat} (h : (Utf8.decode s pos).1 = 65533 ∧ (Utf8.decode s pos).2 = 1) : nx s pos = (0, 0) := by unfold nx; rw [if_pos h]
theorem aAz {s : ByteArray} {pos : Nat} (h : ¬ ((Utf8.decode s pos).1 = 65533 ∧ (Utf8.decode s pos).2 = 1)) : nx s pos = (((Utf8.decode s pos).1 : Int), ((Utf8.decode s pos).2 : Int)) := by unfold nx; rw [if_neg h]
theorem aAA (s : ByteArray) (i : Nat) (hi : i < s.size) (hs : s.size ≤ 1000000) (k : Nat) (hk : 9 ≤ k) : marquetryref01_next.f k s (i : Int) = some (nx s i) := by
  obtain ⟨j, rfl⟩ : ∃ j, k = j + 9 := ⟨k - 9, by omega⟩
  exact aAw s i hi (by omega) j
theorem xA (s : ByteArray) (hs : s.size ≤ 1000000) : ∀ (d pos : Nat) (acc : List Int) (k : Nat), pos ≤ s.size → s.size - pos ≤ d → acc.length ≤ pos → d + 10 ≤ k →
    marquetryref01_Decode.l0 k s acc (pos : Int) = some (if vf s pos = true then (acc ++ rl s d pos, 0) else ([], 4)) := by
  intro d
  induction d with
  | zero =>
    intro pos acc k h1 h2 h3 hk
    obtain ⟨k, rfl⟩ : ∃ m, k = m + 1 := ⟨k - 1, by omega⟩
    simp only [marquetryref01_Decode.l0]
    rw [if_neg (by omega), yZ s pos (by omega), if_pos rfl]
    simp [rl]
  | succ d ih =>
    intro pos acc k h1 h2 h3 hk
    obtain ⟨k, rfl⟩ : ∃ m, k = m + 1 := ⟨k - 1, by omega⟩
    simp only [marquetryref01_Decode.l0]
    by_cases hp : pos < s.size
    · have hw := w_le s pos hp
      have hw1 := width_pos s pos
      rw [if_pos (by omega), aAA s pos hp hs k (by omega), aAx s pos hp]
      simp only [Option.bind_some]
      by_cases hc : (Utf8.decode s pos).1 = 65533 ∧ (Utf8.decode s pos).2 = 1
      · rw [aAW hc, if_pos hc]
        simp
      · rw [aAz hc, if_neg hc]
        simp only
        rw [if_neg (by omega), if_pos (by omega)]
        have e : wrap64 ((pos : Int) + ((Utf8.decode s pos).2 : Int)) = ((pos + (Utf8.decode s pos).2 : Nat) : Int) := by rw [w64] <;> omega
        rw [e, ih (pos + (Utf8.decode s pos).2) (acc ++ [((Utf8.decode s pos).1 : Int)]) k hw (by omega) (by simp; omega) (by omega)]
        simp [rl, hp]
    · rw [if_neg (by omega), yZ s pos hp, if_pos rfl]
      simp [rl, hp]
theorem xB (s : ByteArray) (hs : s.size ≤ 1000000) (k : Nat) (hk : s.size + 10 ≤ k) : marquetryref01_Decode.f k s = some (if vf s 0 = true then (rl s s.size 0, 0) else ([], 4)) := by
  unfold marquetryref01_Decode.f
  have := xA s hs s.size 0 [] k (by omega) (by omega) (by simp) hk
  simpa using this
def high (r : Int) : Int := if 128 ≤ r ∧ r ≤ 1114111 ∧ r ≠ 65533 ∧ (r < 55296 ∨ 57343 < r) then 1 else 0
def blank (r : Int) : Int := if r = 32 ∨ r = 9 ∨ r = 10 then 3 else high r
def digit (r : Int) : Int := if 48 ≤ r ∧ r ≤ 57 then 2 else blank r
/-- A rune's class. -/
def classP (r : Int) : Int := if (65 ≤ r ∧ r ≤ 90) ∨ (97 ≤ r ∧ r ≤ 122) ∨ r = 95 then 1 else digit r
theorem aBm (k : Nat) (r : Int) : utf8_ValidRune.f (k + 1) r = some (decide ((0 ≤ r ∧ r < 55296) ∨ (57343 < r ∧ r ≤ 1114111))) := by
  unfold utf8_ValidRune.f
  by_cases h : 0 ≤ r
  · rw [if_pos h]
    by_cases h2 : r < 55296
    · rw [decide_eq_true h2, decide_eq_true (Or.inl ⟨h, h2⟩)]
      simp only [utf8_ValidRune.j0, if_true]
    · rw [decide_eq_false h2]
      simp only [utf8_ValidRune.j0, Bool.false_eq_true, if_false]
      by_cases h3 : 57343 < r
      · rw [if_pos h3]
        by_cases h4 : r ≤ 1114111
        · rw [if_pos h4, decide_eq_true (Or.inr ⟨h3, h4⟩)]
        · rw [if_neg h4, decide_eq_false (by omega)]
      · rw [if_neg h3, decide_eq_false (by omega)]
  · rw [if_neg h, decide_eq_false (by omega)]
    simp only [utf8_ValidRune.j0, Bool.false_eq_true, if_false]
    rw [if_neg (by omega)]
theorem c_j3 (k : Nat) (r : Int) (b : Bool) : runes_Class.j3 (k + 2) r b = some (if b = true then 3 else high r) := by
  cases b with
  | true => simp only [runes_Class.j3, if_true]
  | false =>
    simp only [runes_Class.j3, Bool.false_eq_true, if_false]
    unfold high
    by_cases h : 128 ≤ r
    · rw [if_pos h]
      by_cases h2 : r = 65533
      · rw [if_pos h2, if_neg (by omega)]
      · rw [if_neg h2, aBm]
        simp only [Option.bind_some]
        by_cases h3 : (0 ≤ r ∧ r < 55296) ∨ (57343 < r ∧ r ≤ 1114111)
        · rw [decide_eq_true h3, if_pos rfl, if_pos (by omega)]
        · rw [decide_eq_false h3, if_neg (by decide), if_neg (by omega)]
    · rw [if_neg h, if_neg (by omega)]
theorem c_j2 (k : Nat) (r : Int) (b : Bool) : runes_Class.j2 (k + 3) r b = some (if b = true then 2 else blank r) := by
  cases b with
  | true => simp only [runes_Class.j2, if_true]
  | false =>
    simp only [runes_Class.j2, Bool.false_eq_true, if_false, c_j3]
    unfold blank
    by_cases h : r = 32
    · rw [if_pos h, if_pos (by simpa using h), if_pos (by omega)]
    · rw [if_neg h]
      by_cases h2 : r = 9
      · rw [if_pos h2, if_pos (by simpa using h2), if_pos (by omega)]
      · rw [if_neg h2]
        by_cases h3 : r = 10
        · rw [if_pos (by simpa using h3), if_pos (by omega)]
        · rw [if_neg (by simpa using h3), if_neg (by omega)]
theorem c_j1 (k : Nat) (r : Int) (b : Bool) : runes_Class.j1 (k + 4) r b = some (if b = true then 1 else digit r) := by
  cases b with
  | true => simp only [runes_Class.j1, if_true]
  | false =>
    simp only [runes_Class.j1, Bool.false_eq_true, if_false, c_j2]
    unfold digit
    by_cases h : 48 ≤ r
    · rw [if_pos h]
      by_cases h2 : r ≤ 57
      · rw [if_pos (by simpa using h2), if_pos ⟨h, h2⟩]
      · rw [if_neg (by simpa using h2), if_neg (by omega)]
    · rw [if_neg h, if_neg (by omega)]
theorem c_j0 (k : Nat) (r : Int) (b : Bool) : runes_Class.j0 (k + 5) r b = some (if b = true then 1 else if (97 ≤ r ∧ r ≤ 122) ∨ r = 95 then 1 else digit r) := by
  cases b with
  | true => simp only [runes_Class.j0, if_true, c_j1]
  | false =>
    simp only [runes_Class.j0, Bool.false_eq_true, if_false, c_j1]
    by_cases h : 97 ≤ r
    · rw [if_pos h]
      by_cases h2 : r ≤ 122
      · rw [if_pos h2, if_pos (by simpa using h2), if_pos (by omega)]
      · rw [if_neg h2, if_neg (by simp; omega), if_neg (by omega)]
    · rw [if_neg h]
      by_cases h3 : r = 95
      · rw [if_pos (by simpa using h3), if_pos (by omega)]
      · rw [if_neg (by simpa using h3), if_neg (by omega)]
theorem zA (k : Nat) (r : Int) : runes_Class.f (k + 5) r = some (classP r) := by
  unfold runes_Class.f classP
  rw [c_j0, c_j0]
  by_cases h : 65 ≤ r
  · rw [if_pos h]
    by_cases h2 : r ≤ 90
    · rw [if_pos (by simpa using h2), if_pos (by omega)]
    · rw [if_neg (by simpa using h2)]
      by_cases h3 : (97 ≤ r ∧ r ≤ 122) ∨ r = 95
      · rw [if_pos h3, if_pos (by omega)]
      · rw [if_neg h3, if_neg (by omega)]
  · rw [if_neg h, if_neg (by decide)]
    by_cases h3 : (97 ≤ r ∧ r ≤ 122) ∨ r = 95
    · rw [if_pos h3, if_pos (by omega)]
    · rw [if_neg h3, if_neg (by omega)]
theorem r_j2 (k : Nat) (r : Int) (b : Bool) : marquetryref01_Class.j2 (k + 1) r b = some (if b = true then 3 else high r) := by
  cases b with
  | true => simp only [marquetryref01_Class.j2, if_true]
  | false =>
    simp only [marquetryref01_Class.j2, Bool.false_eq_true, if_false]
    unfold high
    by_cases h : 128 ≤ r
    · rw [if_pos h]
      by_cases h1 : r ≤ 1114111
      · rw [if_pos h1]
        by_cases h2 : r = 65533
        · rw [if_pos h2, if_neg (by omega)]
        · rw [if_neg h2]
          by_cases h3 : r < 55296
          · rw [if_pos h3, if_pos (by omega)]
          · rw [if_neg h3]
            by_cases h4 : 57343 < r
            · rw [if_pos h4, if_pos (by omega)]
            · rw [if_neg (by omega), if_neg (by omega)]
      · rw [if_neg h1, if_neg (by omega)]
    · rw [if_neg h, if_neg (by omega)]
theorem r_j1 (k : Nat) (r : Int) (b : Bool) : marquetryref01_Class.j1 (k + 2) r b = some (if b = true then 2 else blank r) := by
  cases b with
  | true => simp only [marquetryref01_Class.j1, if_true]
  | false =>
    simp only [marquetryref01_Class.j1, Bool.false_eq_true, if_false, r_j2, if_true]
    unfold blank
    by_cases h : r = 32
    · rw [if_pos h, if_pos (by omega)]
    · rw [if_neg h]
      by_cases h2 : r = 9
      · rw [if_pos h2, if_pos (by omega)]
      · rw [if_neg h2]
        by_cases h3 : r = 10
        · rw [if_pos (by simpa using h3), if_pos (by omega)]
        · rw [if_neg (by simpa using h3), if_neg (by omega)]
theorem r_j0 (k : Nat) (r : Int) (b : Bool) : marquetryref01_Class.j0 (k + 3) r b = some (if b = true then 1 else digit r) := by
  cases b with
  | true => simp only [marquetryref01_Class.j0, if_true]
  | false =>
    simp only [marquetryref01_Class.j0, Bool.false_eq_true, if_false, r_j1]
    unfold digit
    by_cases h : 48 ≤ r
    · rw [if_pos h]
      by_cases h2 : r ≤ 57
      · rw [if_pos (by simpa using h2), if_pos ⟨h, h2⟩]
      · rw [if_neg (by simpa using h2), if_neg (by omega)]
    · rw [if_neg h, if_neg (by omega)]
theorem sA (k : Nat) (r : Int) : marquetryref01_Class.f (k + 3) r = some (classP r) := by
  unfold marquetryref01_Class.f classP
  simp only [r_j0, if_true, beq_iff_eq]
  by_cases h : (65 ≤ r ∧ r ≤ 90) ∨ (97 ≤ r ∧ r ≤ 122) ∨ r = 95
  · rw [if_pos h]
    by_cases h1 : 65 ≤ r
    · rw [if_pos h1]
      by_cases h2 : r ≤ 90
      · rw [if_pos h2]
      · rw [if_neg h2]
        by_cases h3 : 97 ≤ r
        · rw [if_pos h3, if_pos (by omega)]
        · rw [if_neg h3, if_pos (by omega)]
    · omega
  · rw [if_neg h]
    by_cases h1 : 65 ≤ r
    · rw [if_pos h1, if_neg (by omega)]
      by_cases h3 : 97 ≤ r
      · rw [if_pos h3, if_neg (by omega), if_neg (by omega)]
      · rw [if_neg h3, if_neg (by omega)]
    · rw [if_neg h1, if_neg (by omega), if_neg (by omega)]
/-- May a rune not stand in a text? -/
def badR (r : Int) : Prop := r = 65533 ∨ (r < 32 ∧ ¬ classP r = 3) ∨ r = 127
instance (r : Int) : Decidable (badR r) := by unfold badR; infer_instance
/-- runes.Decode, as a function. -/
def decodeP (s : ByteArray) : List Int × Int := if validD s.data.toList = true then (rl s s.size 0, 0) else ([], 4)
theorem uQ (s : ByteArray) (hs : s.size ≤ 1000000) (k : Nat) (hk : s.size + 10 ≤ k) : marquetryref01_Decode.f k s = some (decodeP s) := by
  rw [xB s hs k hk, aAy]
  rfl
theorem uR (s : ByteArray) : ∀ (d pos : Nat), (rl s d pos).length ≤ d
  | 0, _ => Nat.le_refl _
  | d + 1, pos => by
    unfold rl
    split
    · have := uR s d (pos + (Utf8.decode s pos).2)
      rw [List.length_cons]
      omega
    · simp
/-- Is a rune right within a name (first: at its begin)? -/
def okR (first : Bool) (r : Int) : Bool := decide (classP r = 1) || (!first && (decide (classP r = 2) || decide (r = 39)))
/-- runes.Name's loop. -/
def nm (s : ByteArray) : Nat → Nat → Bool
  | 0, _ => true
  | f + 1, pos => if pos < s.size then (if okR (decide (pos = 0)) (Utf8.decode s pos).1 = true then nm s f (pos + (Utf8.decode s pos).2) else false) else true
def nameP (s : ByteArray) : Bool := decide (1 ≤ s.size ∧ s.size ≤ 32) && validD s.data.toList && nm s s.size 0
theorem aBn {s : ByteArray} {f pos : Nat} (hp : pos < s.size) (h : okR (decide (pos = 0)) (Utf8.decode s pos).1 = true) : nm s (f + 1) pos = nm s f (pos + (Utf8.decode s pos).2) := by simp [nm, hp, h]
theorem aAX {s : ByteArray} {f pos : Nat} (hp : pos < s.size) (h : okR (decide (pos = 0)) (Utf8.decode s pos).1 = false) : nm s (f + 1) pos = false := by simp [nm, hp, h]
theorem aAY {s : ByteArray} {f pos : Nat} (hp : ¬ pos < s.size) : nm s f pos = true := by cases f <;> simp [nm, hp]
/-- The reference's loop over a list of runes. -/
def nl : Bool → List Int → Bool
  | _, [] => true
  | b, r :: t => if okR b r = true then nl false t else false
theorem aAB (b : Bool) (r : Int) (t : List Int) : nl b (r :: t) = if okR b r = true then nl false t else false := rfl
theorem aAS (s : ByteArray) : ∀ (d pos : Nat), nl (decide (pos = 0)) (rl s d pos) = nm s d pos
  | 0, _ => rfl
  | d + 1, pos => by
    unfold rl nm
    by_cases hp : pos < s.size
    · rw [if_pos hp, if_pos hp]
      unfold nl
      have hw := width_pos s pos
      have e : (false : Bool) = decide (pos + (Utf8.decode s pos).2 = 0) := by rw [decide_eq_false (by omega)]
      rw [e, aAS s d (pos + (Utf8.decode s pos).2)]
    · rw [if_neg hp, if_neg hp]
      unfold nl
      rfl
theorem sG (k : Nat) (r : Int) (hk : 3 ≤ k) : marquetryref01_Class.f k r = some (classP r) := by
  obtain ⟨j, rfl⟩ : ∃ j, k = j + 3 := ⟨k - 3, by omega⟩
  exact sA j r
theorem aAC (l : List Int) (hl : l.length ≤ 1000000) : ∀ (d i k : Nat), i ≤ l.length → l.length - i ≤ d → d + 5 ≤ k → marquetryref01_Name.l0 k l (i : Int) = some (nl (decide (i = 0)) (l.drop i)) := by
  intro d
  induction d with
  | zero =>
    intro i k h1 h2 hk
    obtain ⟨k, rfl⟩ : ∃ m, k = m + 1 := ⟨k - 1, by omega⟩
    simp only [marquetryref01_Name.l0]
    rw [if_neg (by omega), List.drop_eq_nil_of_le (by omega)]
    simp [nl]
  | succ d ih =>
    intro i k h1 h2 hk
    obtain ⟨k, rfl⟩ : ∃ m, k = m + 1 := ⟨k - 1, by omega⟩
    simp only [marquetryref01_Name.l0]
    by_cases hi : i < l.length
    · have hd : l.drop i = rd l (i : Int) :: l.drop (i + 1) := by
        rw [List.drop_eq_getElem_cons hi]
        simp [rd, List.getD, hi]
      rw [if_pos (by omega), if_pos (by omega), sG k _ (by omega), hd]
      simp only [Option.bind_some]
      rw [w64s i (by omega), ih (i + 1) k (by omega) (by omega) (by omega)]
      clear ih hd
      generalize rd l (i : Int) = r
      rw [aAB, decide_eq_false (show ¬ (i + 1 = 0) by omega)]
      unfold okR
      by_cases c1 : classP r = 1
      · simp [c1]
      · by_cases h0 : i = 0
        · subst h0
          simp [c1]
        · by_cases c2 : classP r = 2
          · have : ¬ (i : Int) = 0 := by omega
            simp [c1, c2, h0]
          · have : ¬ (i : Int) = 0 := by omega
            by_cases c3 : r = 39
            · simp [c1, c2, c3, h0]
            · simp [c1, c2, c3, h0]
    · rw [if_neg (by omega), List.drop_eq_nil_of_le (by omega)]
      simp [nl]
theorem aAD (s : ByteArray) (hs : s.size ≤ 1000000) : marquetryref01_Name.f (s.size + 12) s = some (nameP s) := by
  unfold marquetryref01_Name.f nameP
  rw [uQ s hs _ (by omega)]
  simp only [Option.bind_some]
  cases hv : validD s.data.toList with
  | false =>
    have h2 : (decodeP s).2 = 4 := by unfold decodeP; rw [hv]; rfl
    rw [h2, if_neg (by decide)]
    simp [marquetryref01_Name.j0]
  | true =>
    have h1 : (decodeP s).1 = rl s s.size 0 := by unfold decodeP; rw [hv]; rfl
    have h2 : (decodeP s).2 = 0 := by unfold decodeP; rw [hv]; rfl
    rw [h1, h2, if_pos rfl]
    by_cases h0 : (s.size : Int) < 1
    · rw [if_pos h0, decide_eq_false (by omega)]
      simp [marquetryref01_Name.j0]
    · rw [if_neg h0]
      by_cases h3 : (s.size : Int) > 32
      · rw [decide_eq_true h3, decide_eq_false (by omega)]
        simp [marquetryref01_Name.j0]
      · rw [decide_eq_false h3, decide_eq_true (by omega)]
        simp only [marquetryref01_Name.j0, Bool.false_eq_true, if_false, Bool.true_and]
        have hn := aAC (rl s s.size 0) (by have := uR s s.size 0; omega) s.size 0 (s.size + 11) (by omega) (by have := uR s s.size 0; omega) (by omega)
        have e : ((0 : Nat) : Int) = 0 := rfl
        rw [e] at hn
        rw [hn, List.drop_zero, aAS s s.size 0]
theorem ext_list (s : ByteArray) (a b : Nat) : (s.extract a b).data.toList = (s.data.toList.drop a).take (b - a) := by
  simp [ByteArray.data_extract, Array.toList_extract, List.extract_eq_take_drop]
theorem xC (s : ByteArray) (P : Nat) : (s.extract P s.size).data.toList = s.data.toList.drop P := by
  rw [ext_list]
  have h2 : s.data.toList.length = s.size := Array.length_toList
  rw [List.take_of_length_le (by rw [List.length_drop]; omega)]
end Go.Proofs.YtlbemgokilhdnaaGreatDoor.RP
namespace Go.Proofs.YtlbemgokilhdnaaGreatDoor.RW
set_option linter.unusedVariables false
set_option linter.unusedSimpArgs false
open Go.RowKit Go.Lib Go.Proofs.YtlbemgokilhdnaaGreatDoorW.PrintWords Go.Proofs.YtlbemgokilhdnaaGreatDoorW.PrintLast Go.Proofs.YtlbemgokilhdnaaGreatDoorW.PrintMore Go.Proofs.YtlbemgokilhdnaaGreatDoor.RP Go.Proofs.YtlbemgokilhdnaaGreatDoor.PAll
def Tabs (w : World) : Prop := Lib.Utf8Tabs (Tryz.laysValid_ren.g 3) (Tryz.laysValid_ren.g 4) w
theorem sH {a b : Bool} (h : a = b) : Ending.returned (.bool a) = .returned (.bool b) := by rw [h]
theorem ext_all (s : ByteArray) : s.extract 0 s.size = s := by
  apply ByteArray.ext
  simp
theorem uS {w w1 : World} (hb : Below w.heap.size w w1) (s : ByteArray) (p : Nat) : Below w.heap.size w (w1.iter s p) := hb.alloc hb.size _
/-- One step of the iterator in block k: a world that is as it was, but for that block. -/
theorem xD {P : Program} {w wr : World} {k : Nat} {s : ByteArray} {pos : Nat} (hk : wr.heap[k]? = some (.stringIter s pos)) (hp : pos < s.size) (hw : w.heap.size ≤ k) (hb : Below w.heap.size w wr) :
    ∃ W2 : World, (∀ ty, (Instr.next (.pointer (some ⟨k, 0, none⟩)) true ty).run P wr = .ok (.tuple #[.bool true, .int .i64 pos, .int .i32 (Utf8.decode s pos).1]) W2) ∧
      (∀ j, j ≠ k → W2.heap[j]? = wr.heap[j]?) ∧ W2.heap[k]? = some (.stringIter s (pos + (Utf8.decode s pos).2)) ∧ W2.heap.size = wr.heap.size ∧ Below w.heap.size w W2 :=
  ⟨wr.iterAt k s (pos + (Utf8.decode s pos).2), fun ty => run_next_any_at wr k s pos ty hk hp, fun j hj => iterAt_other wr k j s _ hj, iterAt_heap wr k s pos _ hk, iterAt_size wr k s _, below_iterAt hb hw s _⟩
theorem zB {w1 : World} (s : ByteArray) (p : Nat) : (w1.iter s p).heap[w1.heap.size]? = some (.stringIter s p) := by simp [World.iter_heap]
theorem xE (r : Int) (w : World) : Calls Tryz.prog 97 #[.int .i32 r] w fun e w' => e = .returned (.int .i64 (classP r)) ∧ Drawn0 w w' :=
  runes_Class.calls 5 r _ w (zA 0 r)
theorem uT (s : ByteArray) (w : World) (h : s.toList = []) :
    Calls Tryz.prog 86 #[.string s] w fun e w' => e = .returned (.bool false) ∧ Below w.heap.size w w' := by
  have h2 : s.toList.isEmpty = true := by rw [h]; rfl
  go_enter Tryz.func86, Tryz.ntmps86
  go_wp2
  go_ret
  exact ⟨rfl, Below.refl _ _⟩
theorem xF (s : ByteArray) (w : World) (hs : s.size ≤ 1000000) (h : s.toList.isEmpty = false) (h2 : 32 < (s.size : Int)) :
    Calls Tryz.prog 86 #[.string s] w fun e w' => e = .returned (.bool false) ∧ Below w.heap.size w w' := by
  go_enter Tryz.func86, Tryz.ntmps86
  go_wp2
  go_ret
  exact ⟨rfl, Below.refl _ _⟩
theorem xG (s : ByteArray) (w : World) (hs : s.size ≤ 1000000) (hT : Tabs w) (h : s.toList.isEmpty = false) (h2 : (s.size : Int) ≤ 32) (hv : validD s.data.toList = false) :
    Calls Tryz.prog 86 #[.string s] w fun e w' => e = .returned (.bool false) ∧ Below w.heap.size w w' := by
  have cV := Any.utf8_ValidString Tryz.laysValid s w (by omega) hT
  rw [hv] at cV
  clear hv hT
  go_enter Tryz.func86, Tryz.ntmps86
  go_wp2_with (go_at_call 96; refine cV.mono ?_; rintro e w1 ⟨rfl, hb⟩)
  go_ret
  exact ⟨rfl, hb⟩
theorem ok1 {r : Int} {b : Bool} (h : (classP r == 1) = true) : okR b r = true := by
  unfold okR; simp only [beq_iff_eq] at h; simp [h]
theorem ok2 {r : Int} {pos : Nat} (h : (classP r == 2) = true) (h0 : ((pos : Int) == 0) = false) : okR (decide (pos = 0)) r = true := by
  have : ¬ pos = 0 := by simp only [beq_eq_false_iff_ne] at h0; omega
  unfold okR; simp only [beq_iff_eq] at h; simp [h, this]
theorem ok3 {r : Int} {pos : Nat} (h : ((pos : Int) == 0) = false ∧ (r != 39) = false) : okR (decide (pos = 0)) r = true := by
  have : ¬ pos = 0 := by have h0 := h.1; simp only [beq_eq_false_iff_ne] at h0; omega
  have h2 := h.2
  simp only [bne_eq_false_iff_eq] at h2
  unfold okR; simp [h2, this]
theorem no1 {r : Int} {pos : Nat} (c1 : (classP r == 1) = false) (c2 : (classP r == 2) = true) (h0 : ((pos : Int) == 0) = true) : okR (decide (pos = 0)) r = false := by
  have : pos = 0 := by simp only [beq_iff_eq] at h0; omega
  simp only [beq_eq_false_iff_ne] at c1
  unfold okR; simp [c1, this]
theorem no2 {r : Int} {pos : Nat} (c1 : (classP r == 1) = false) (c2 : (classP r == 2) = false) (h0 : pos = 0) : okR (decide (pos = 0)) r = false := by
  simp only [beq_eq_false_iff_ne] at c1
  unfold okR; simp [c1, h0]
theorem no3 {r : Int} {pos : Nat} (c1 : (classP r == 1) = false) (c2 : (classP r == 2) = false) (h : ((pos : Int) == 0) = true ∨ (r != 39) = true) : okR (decide (pos = 0)) r = false := by
  simp only [beq_eq_false_iff_ne] at c1 c2
  rcases h with h | h
  · have : pos = 0 := by simp only [beq_iff_eq] at h; omega
    unfold okR; simp [c1, this]
  · simp only [bne_iff_ne] at h
    unfold okR; simp [c1, c2, h]
theorem toList_eq (s : ByteArray) : s.toList = s.data.toList := by
  have h := ByteArray.toList_mk s.data.toList
  have e : (ByteArray.mk s.data.toList.toArray) = s := by cases s; simp
  rw [e] at h
  exact h
theorem sI (s : ByteArray) : s.toList.length = s.size := by
  rw [toList_eq]
  exact Array.length_toList
theorem aAE (s : ByteArray) (w : World) (hs : s.size ≤ 1000000) (hT : Tabs w) (h : s.toList.isEmpty = false) (h2 : (s.size : Int) ≤ 32) (hv : validD s.data.toList = true) :
    Calls Tryz.prog 86 #[.string s] w fun e w' => e = .returned (.bool (nm s s.size 0)) ∧ Below w.heap.size w w' := by
  have cV := Any.utf8_ValidString Tryz.laysValid s w (by omega) hT
  rw [hv] at cV
  clear hv hT
  go_enter Tryz.func86, Tryz.ntmps86
  go_wp2_with (go_at_call 96; refine cV.mono ?_; rintro e w1 ⟨rfl, hb⟩)
  have HBs := Aside0.mk hb.size
  go_loopg [3] (s.size + 1) (fun gk v3 wr => ∃ (f pos : Nat), gk = f + 1 ∧ Aside0 (Below w.heap.size w wr) ∧ Aside0 (wr.heap[w1.heap.size]? = some (.stringIter s pos)) ∧ Aside0 (nm s f pos = nm s s.size 0 ∧ s.size ≤ pos + f))
  case atStart => exact ⟨s.size, 0, rfl, ⟨uS hb _ _⟩, ⟨zB s 0⟩, ⟨rfl, by omega⟩⟩
  case round =>
    obtain ⟨f, pos, rfl, HB, HI, HA⟩ := hrel
    by_cases hp : pos < s.size
    · obtain ⟨W2, hnx, hm, hi, hz, hb2⟩ := xD (P := Tryz.prog) HI.out hp HBs.out HB.out
      have HB2 := Aside0.mk hb2
      have HI2 := Aside0.mk hi
      clear hm hi hz hb2 HI HB
      have hwd := width_pos s pos
      obtain ⟨f, rfl⟩ : ∃ f', f = f' + 1 := ⟨f - 1, by have := HA.out.2; omega⟩
      go_wp2_with (go_at_call 97; refine (xE _ _).mono ?_; rintro e w3 ⟨rfl, ⟨nd, rfl⟩⟩)
      all_goals first
        | (go_ret; exact ⟨sH ((aAX hp (by first | exact no1 ‹_› ‹_› ‹_› | exact no2 ‹_› ‹_› ‹_› | exact no3 ‹_› ‹_› ‹_›)).symm.trans HA.out.1), by repeat (first | exact HB2.out | apply bL)⟩)
        | (go_roundg (f + 1)
           case measure => omega
           case rel => exact ⟨f, pos + (Utf8.decode s pos).2, rfl, ⟨by repeat (first | exact HB2.out | apply bL)⟩, ⟨HI2.out⟩, ⟨(aBn hp (by first | exact ok1 ‹_› | exact ok2 ‹_› ‹_› | exact ok3 ‹_›)).symm.trans HA.out.1, by have := HA.out.2; omega⟩⟩)
    · have hnx : ∀ ty, (Instr.next (.pointer (some ⟨w1.heap.size, 0, none⟩)) true ty).run Tryz.prog wr = _ := fun ty => run_next_end_at wr _ s pos ty HI.out hp
      go_wp2
      go_ret
      exact ⟨sH ((aAY hp).symm.trans HA.out.1), HB.out⟩
theorem zC (s : ByteArray) (w : World) (hs : s.size ≤ 1000000) (hT : Tabs w) :
    Calls Tryz.prog 86 #[.string s] w fun e w' => e = .returned (.bool (nameP s)) ∧ Below w.heap.size w w' := by
  have hz := sI s
  unfold nameP
  by_cases h0 : s.toList = []
  · rw [h0] at hz
    simp only [List.length_nil] at hz
    rw [decide_eq_false (by omega), Bool.false_and, Bool.false_and]
    exact uT s w h0
  · have he : s.toList.isEmpty = false := by simpa using h0
    have h1 : 0 < s.toList.length := List.length_pos_iff.2 h0
    by_cases h2 : 32 < (s.size : Int)
    · rw [decide_eq_false (by omega), Bool.false_and, Bool.false_and]
      exact xF s w hs he h2
    · rw [decide_eq_true (by omega), Bool.true_and]
      cases hv : validD s.data.toList with
      | false => exact xG s w hs hT he (by omega) hv
      | true => exact aAE s w hs hT he (by omega) hv
end Go.Proofs.YtlbemgokilhdnaaGreatDoor.RW
namespace Go.Proofs.YtlbemgokilhdnaaGreatDoor.RP
set_option linter.unusedVariables false
set_option linter.unusedSimpArgs false
open Go.RowKit Go.Lib Go.Proofs.YtlbemgokilhdnaaGreatDoorW.PrintWords Go.Proofs.YtlbemgokilhdnaaGreatDoorW.PrintLast Go.Proofs.YtlbemgokilhdnaaGreatDoorW.PrintMore
/-- A rune that may be written. -/
def goodR (r : Int) : Prop := 0 ≤ r ∧ r ≤ 1114111 ∧ (r < 55296 ∨ 57343 < r)
def Good (l : List Int) : Prop := ∀ r, r ∈ l → goodR r
/-- Runes of a text that may be read. -/
def TextL (l : List Int) : Prop := ∀ r, r ∈ l → goodR r ∧ ¬ badR r
theorem TextL.drop {l : List Int} (h : TextL l) (n : Nat) : TextL (l.drop n) := fun x hx => h x (List.mem_of_mem_drop hx)
theorem TextL.take {l : List Int} (h : TextL l) (n : Nat) : TextL (l.take n) := fun x hx => h x (List.mem_of_mem_take hx)
theorem Good.drop {l : List Int} (h : Good l) (n : Nat) : Good (l.drop n) := fun x hx => h x (List.mem_of_mem_drop hx)
theorem Good.take {l : List Int} (h : Good l) (n : Nat) : Good (l.take n) := fun x hx => h x (List.mem_of_mem_take hx)
theorem TextL.append {a b : List Int} (h : TextL a) (k : TextL b) : TextL (a ++ b) := fun x hx => by
  rcases List.mem_append.1 hx with hx | hx
  · exact h x hx
  · exact k x hx
theorem qA {a b : ByteArray} (h : a.data.toList = b.data.toList) : a = b := by
  apply ByteArray.ext
  apply Array.ext'
  exact h
theorem eH (a : ByteArray) : a.data.toList.length = a.size := Array.length_toList
instance : DecidableEq ByteArray := fun a b => decidable_of_iff (a.data.toList = b.data.toList) ⟨qA, fun h => by rw [h]⟩
instance (a : ByteArray) (l : List ByteArray) : Decidable (a ∈ l) := decidable_of_iff (l.any (fun x => decide (x = a)) = true) (by
  rw [List.any_eq_true]
  exact ⟨fun ⟨x, h, e⟩ => by rw [← of_decide_eq_true e]; exact h, fun h => ⟨a, h, decide_eq_true rfl⟩⟩)
end Go.Proofs.YtlbemgokilhdnaaGreatDoor.RP
namespace Go.Proofs.YtlbemgokilhdnaaGreatDoor.RP
set_option linter.unusedVariables false
set_option linter.unusedSimpArgs false
open Go.RowKit Go.Lib Go.Proofs.YtlbemgokilhdnaaGreatDoorW.PrintWords Go.Proofs.YtlbemgokilhdnaaGreatDoorW.PrintLast Go.Proofs.YtlbemgokilhdnaaGreatDoorW.PrintMore Go.Proofs.YtlbemgokilhdnaaGreatDoor.PAll
theorem toListB (s : ByteArray) : s.toList = s.data.toList := by
  have h := ByteArray.toList_mk s.data.toList
  have e : (ByteArray.mk s.data.toList.toArray) = s := by cases s; simp
  rw [e] at h
  exact h
theorem fJ {a b : ByteArray} : a.toList = b.toList ↔ a = b := by
  rw [toListB, toListB]
  exact ⟨qA, fun h => by rw [h]⟩
def wordsL : List ByteArray := (lexer_words.f).getD []
theorem xH : lexer_words.f = some wordsL := rfl
def wordB (s : ByteArray) : Bool := decide (s ∈ wordsL)
theorem zD (l : List ByteArray) (a : ByteArray) (hl : l.length ≤ 1000000) : ∀ (d i k : Nat), i ≤ l.length → l.length - i ≤ d → d + 1 ≤ k →
    ∃ z, slices_Index_string_string.l0 k l a (l.length : Int) (i : Int) = some z ∧ (0 ≤ z ↔ a ∈ l.drop i) := by
  intro d
  induction d with
  | zero =>
    intro i k h1 h2 hk
    obtain ⟨k, rfl⟩ : ∃ m, k = m + 1 := ⟨k - 1, by omega⟩
    simp only [slices_Index_string_string.l0]
    rw [if_neg (by omega), List.drop_eq_nil_of_le (by omega)]
    exact ⟨-1, rfl, by simp⟩
  | succ d ih =>
    intro i k h1 h2 hk
    obtain ⟨k, rfl⟩ : ∃ m, k = m + 1 := ⟨k - 1, by omega⟩
    simp only [slices_Index_string_string.l0]
    by_cases hi : i < l.length
    · have hd : l.drop i = rdOf ByteArray.empty l (i : Int) :: l.drop (i + 1) := by
        rw [List.drop_eq_getElem_cons hi]
        simp [rdOf, List.getD, hi]
      rw [if_pos (by omega), if_pos (by omega), if_pos (by omega), hd]
      by_cases he : a = rdOf ByteArray.empty l (i : Int)
      · rw [if_pos (fJ.2 he)]
        exact ⟨_, rfl, ⟨fun _ => by rw [← he]; exact List.mem_cons_self, fun _ => by omega⟩⟩
      · rw [if_neg (fun h => he (fJ.1 h)), w64s i (by omega)]
        obtain ⟨z, hz, hm⟩ := ih (i + 1) k (by omega) (by omega) (by omega)
        exact ⟨z, hz, hm.trans ⟨fun h => List.mem_cons_of_mem _ h, fun h => (List.mem_cons.1 h).resolve_left he⟩⟩
    · rw [if_neg (by omega), List.drop_eq_nil_of_le (by omega)]
      exact ⟨-1, rfl, by simp⟩
theorem sJ (l : List ByteArray) (a : ByteArray) (hl : l.length ≤ 1000000) : slices_Contains_string_string.f (l.length + 1) l a = some (decide (a ∈ l)) := by
  unfold slices_Contains_string_string.f slices_Index_string_string.f
  obtain ⟨z, hz, hm⟩ := zD l a hl l.length 0 (l.length + 1) (by omega) (by omega) (by omega)
  have e : (((0 : Nat)) : Int) = 0 := rfl
  rw [e] at hz
  rw [hz]
  simp only [Option.bind_some, List.drop_zero] at hm ⊢
  rw [decide_eq_decide.2 hm]
theorem aAF (s : ByteArray) : lexer_Word.f (wordsL.length + 1) s = some (wordB s) := by
  unfold lexer_Word.f
  rw [xH]
  simp only [Option.bind_some]
  rw [sJ wordsL s (by decide)]
  rfl
theorem sK : marquetryref02_Words.f = some wordsL := rfl
theorem uU (l : List ByteArray) (a : ByteArray) (hl : l.length ≤ 1000000) : ∀ (d i k : Nat), i ≤ l.length → l.length - i ≤ d → d + 1 ≤ k →
    marquetryref02_Word.l0 k a l (i : Int) = some (decide (a ∈ l.drop i)) := by
  intro d
  induction d with
  | zero =>
    intro i k h1 h2 hk
    obtain ⟨k, rfl⟩ : ∃ m, k = m + 1 := ⟨k - 1, by omega⟩
    simp only [marquetryref02_Word.l0]
    rw [if_neg (by omega), List.drop_eq_nil_of_le (by omega)]
    simp
  | succ d ih =>
    intro i k h1 h2 hk
    obtain ⟨k, rfl⟩ : ∃ m, k = m + 1 := ⟨k - 1, by omega⟩
    simp only [marquetryref02_Word.l0]
    by_cases hi : i < l.length
    · have hd : l.drop i = rdOf ByteArray.empty l (i : Int) :: l.drop (i + 1) := by
        rw [List.drop_eq_getElem_cons hi]
        simp [rdOf, List.getD, hi]
      rw [if_pos (by omega), if_pos (by omega), hd]
      by_cases he : rdOf ByteArray.empty l (i : Int) = a
      · rw [if_pos (fJ.2 he), decide_eq_true (by rw [he]; exact List.mem_cons_self)]
      · rw [if_neg (fun h => he (fJ.1 h)), w64s i (by omega), ih (i + 1) k (by omega) (by omega) (by omega)]
        congr 1
        exact decide_eq_decide.2 ⟨fun h => List.mem_cons_of_mem _ h, fun h => (List.mem_cons.1 h).resolve_left (fun h => he h.symm)⟩
    · rw [if_neg (by omega), List.drop_eq_nil_of_le (by omega)]
      simp
theorem uV (s : ByteArray) : marquetryref02_Word.f (wordsL.length + 1) s = some (wordB s) := by
  unfold marquetryref02_Word.f
  rw [sK]
  simp only [Option.bind_some]
  have := uU wordsL s (by decide) wordsL.length 0 (wordsL.length + 1) (by omega) (by omega) (by omega)
  rw [List.drop_zero] at this
  exact this
def nameB (w : ByteArray) : Bool := nameP w && !wordB w
end Go.Proofs.YtlbemgokilhdnaaGreatDoor.RP
namespace Go.Proofs.YtlbemgokilhdnaaGreatDoor.RP
set_option linter.unusedVariables false
set_option linter.unusedSimpArgs false
open Go.RowKit Go.Lib Go.Proofs.YtlbemgokilhdnaaGreatDoorW.PrintWords Go.Proofs.YtlbemgokilhdnaaGreatDoorW.PrintLast Go.Proofs.YtlbemgokilhdnaaGreatDoorW.PrintMore Go.Proofs.YtlbemgokilhdnaaGreatDoor.RP Go.Proofs.YtlbemgokilhdnaaGreatDoor.RW Go.Proofs.YtlbemgokilhdnaaGreatDoor.PAll
def consHead (b : UInt8) : List (List UInt8) → List (List UInt8)
  | [] => [[b]]
  | p :: r => (b :: p) :: r
def pcs : List UInt8 → List (List UInt8)
  | [] => [[]]
  | b :: t => if b = 46 then [] :: pcs t else consHead b (pcs t)
theorem uW (l : List UInt8) : pcs l ≠ [] := by
  cases l with
  | nil => simp [pcs]
  | cons b t =>
    rw [pcs]
    split
    · simp
    · cases pcs t <;> simp [consHead]
theorem qB : ∀ (a c : List UInt8), pcs (a ++ 46 :: c) = pcs a ++ pcs c
  | [], c => rfl
  | b :: a, c => by
    rw [List.cons_append, pcs, pcs, qB a c]
    split
    · rfl
    · cases hp : pcs a with
      | nil => exact absurd hp (uW a)
      | cons x r => rfl
theorem gF : ∀ (a : List UInt8), (46 : UInt8) ∉ a → pcs a = [a]
  | [], _ => rfl
  | b :: a, h => by
    rw [pcs, if_neg (fun e => h (by rw [e]; exact List.mem_cons_self)), gF a (fun hm => h (List.mem_cons_of_mem _ hm))]
    rfl
def mkB (l : List UInt8) : ByteArray := ⟨l.toArray⟩
theorem kK (s : ByteArray) : mkB s.data.toList = s := by cases s; simp [mkB]
theorem zE (l : List UInt8) : (mkB l).size = l.length := by rw [← eH]; rfl
def pcsB (s : ByteArray) : List ByteArray := (pcs s.data.toList).map mkB
abbrev dotB : ByteArray := ⟨#[46]⟩
theorem kY (s : ByteArray) : indexB s dotB = indexByte s.data.toList 46 := by
  have := one s dotB rfl
  exact this
theorem sL : ∀ (n : Nat) (s : ByteArray), s.size ≤ n → Lib.splitB dotB 0 (Lib.countB s dotB) s = pcsB s := by
  intro n
  induction n with
  | zero =>
    intro s hs
    rcases indexB_cases s dotB with h | ⟨i, h1, h2⟩
    · rw [splitB_miss _ _ _ _ h]
      have hn : (46 : UInt8) ∉ s.data.toList := fun hm => by
        obtain ⟨k, hk⟩ := List.getElem?_of_mem hm
        exact indexByte_none (by rw [← kY]; exact h) k hk
      unfold pcsB
      rw [gF _ hn]; simp [kK]
    · exfalso
      have : dotB.size = 1 := rfl
      omega
  | succ n ih =>
    intro s hs
    rcases indexB_cases s dotB with h | ⟨i, h1, h2⟩
    · rw [splitB_miss _ _ _ _ h]
      have hn : (46 : UInt8) ∉ s.data.toList := fun hm => by
        obtain ⟨k, hk⟩ := List.getElem?_of_mem hm
        exact indexByte_none (by rw [← kY]; exact h) k hk
      unfold pcsB
      rw [gF _ hn]; simp [kK]
    · have hd : dotB.size = 1 := rfl
      rw [countB_hit s dotB i (by omega) h1, show 1 + Lib.countB (s.extract (i + dotB.size) s.size) dotB = Lib.countB (s.extract (i + dotB.size) s.size) dotB + 1 by omega, splitB_hit _ _ _ _ i h1, hd]
      rw [ih (s.extract (i + 1) s.size) (by rw [ByteArray.size_extract]; omega)]
      obtain ⟨g1, g2⟩ := indexByte_some (l := s.data.toList) (c := 46) (o := i) (by rw [← kY]; exact h1)
      have hlt : i < s.data.toList.length := (List.getElem?_eq_some_iff.1 g1).1
      have e : s.data.toList = s.data.toList.take i ++ 46 :: s.data.toList.drop (i + 1) := by
        conv => lhs; rw [← List.take_append_drop i s.data.toList]
        rw [List.drop_eq_getElem_cons hlt]
        have : s.data.toList[i] = 46 := by rw [List.getElem?_eq_getElem hlt] at g1; exact Option.some.inj g1
        rw [this]
      have hn : (46 : UInt8) ∉ s.data.toList.take i := fun hm => by
        obtain ⟨k, hk⟩ := List.getElem?_of_mem hm
        have hki : k < i := by have := (List.getElem?_eq_some_iff.1 hk).1; rw [List.length_take] at this; omega
        rw [List.getElem?_take_of_lt hki] at hk
        exact g2 k hki hk
      unfold pcsB
      conv => rhs; rw [e, qB, gF _ hn]
      rw [List.map_append, List.map_singleton, List.singleton_append, Nat.add_zero]
      congr 1
      · apply qA; rw [ext_list]; simp [mkB]
      · rw [xC]
def longP (s : ByteArray) : Bool := decide (s.size ≤ 128) && (pcsB s).all nameB
def splitP (s : ByteArray) : List ByteArray := if longP s = true then pcsB s else []
theorem oX (s : ByteArray) : longP s = true ↔ s.size ≤ 128 ∧ ∀ p ∈ pcsB s, nameB p = true := by
  unfold longP; simp [List.all_eq_true]
end Go.Proofs.YtlbemgokilhdnaaGreatDoor.RP
namespace Go.Proofs.YtlbemgokilhdnaaGreatDoor.Ab
set_option linter.unusedVariables false
set_option linter.unusedSimpArgs false
open Go.RowKit Go.Lib Go.Proofs.YtlbemgokilhdnaaGreatDoorW.PrintWords Go.Proofs.YtlbemgokilhdnaaGreatDoorW.PrintLast Go.Proofs.YtlbemgokilhdnaaGreatDoorW.PrintMore Go.Proofs.YtlbemgokilhdnaaGreatDoor.RP Go.Proofs.YtlbemgokilhdnaaGreatDoor.RW Go.Proofs.YtlbemgokilhdnaaGreatDoor.PAll
theorem fK {P : Program} {f : FuncId} {l : List Value} {r : Value} (he : Enters P f) (h1 : r.oneCell' = true)
    (h : ∀ w M, Amb w M → Calls P f l.toArray w fun e w' => e = .returned r ∧ Below w.heap.size w w') : ACalls P f (l.map fun v => .imm (.lit v)) [] (.imm (.lit r)) [] := by
  have := kR (P := P) (f := f) (args := l.map .lit) (r := .lit r) he (fun w M vs ha hv => by
    rw [gQ hv]
    exact (h w M ha).mono fun e w' ⟨h2, h3⟩ => ⟨r, h2, h3, gP h1⟩)
  rw [List.map_map] at this
  exact this
theorem zF {w : World} {M : Nat → Prop} (h : Amb w M) : Tabs w := h.tabs
theorem aAZ (s : ByteArray) : ACalls Tryz.prog 87 [.imm (.lit (.string s))] [] (.imm (.lit (.bool (wordB s)))) [] :=
  fK (l := [.string s]) ⟨_, Tryz.func87, rfl, rfl⟩ rfl (fun w M ha => lexer_Word.calls _ s _ w (aAF s))
theorem xI (s : ByteArray) : ACalls Tryz.prog 104 [.imm (.lit (.string s))] [] (.imm (.lit (.bool (wordB s)))) [] :=
  fK (l := [.string s]) ⟨_, Tryz.func104, rfl, rfl⟩ rfl (fun w M ha => marquetryref02_Word.calls _ s _ w (uV s))
end Go.Proofs.YtlbemgokilhdnaaGreatDoor.Ab
namespace Go.Proofs.YtlbemgokilhdnaaGreatDoor.Ab
set_option linter.unusedVariables false
set_option linter.unusedSimpArgs false
open Go.RowKit Go.Lib Go.Proofs.YtlbemgokilhdnaaGreatDoorW.PrintWords Go.Proofs.YtlbemgokilhdnaaGreatDoorW.PrintLast Go.Proofs.YtlbemgokilhdnaaGreatDoorW.PrintMore Go.Proofs.YtlbemgokilhdnaaGreatDoor.RP Go.Proofs.YtlbemgokilhdnaaGreatDoor.RW Go.Proofs.YtlbemgokilhdnaaGreatDoor.PAll
attribute [local irreducible] AWP AOps AExit AThen ABlock ANoGoto FeetOk
theorem gG (l : List ByteArray) (j : Nat) (h : j < l.length) : (strs l)[j * 1]? = some (.lit (.string l[j])) := by unfold strs; simp [h]
end Go.Proofs.YtlbemgokilhdnaaGreatDoor.Ab
namespace Go.Proofs.YtlbemgokilhdnaaGreatDoor.Ab
set_option linter.unusedVariables false
set_option linter.unusedSimpArgs false
open Go.RowKit Go.Lib Go.Proofs.YtlbemgokilhdnaaGreatDoorW.PrintWords Go.Proofs.YtlbemgokilhdnaaGreatDoorW.PrintLast Go.Proofs.YtlbemgokilhdnaaGreatDoorW.PrintMore Go.Proofs.YtlbemgokilhdnaaGreatDoor.RP Go.Proofs.YtlbemgokilhdnaaGreatDoor.RW Go.Proofs.YtlbemgokilhdnaaGreatDoor.PAll
theorem sO (s : ByteArray) (hs : s.size ≤ 1000000) : ACalls Tryz.prog 86 [.imm (.lit (.string s))] [] (.imm (.lit (.bool (nameP s)))) [] :=
  fK (l := [.string s]) ⟨_, Tryz.func86, rfl, rfl⟩ rfl (fun w M ha => zC s w hs (zF ha))
theorem xJ (s : ByteArray) (hs : s.size ≤ 1000000) : ACalls Tryz.prog 103 [.imm (.lit (.string s))] [] (.imm (.lit (.bool (nameP s)))) [] :=
  fK (l := [.string s]) ⟨_, Tryz.func103, rfl, rfl⟩ rfl (fun w M ha => marquetryref01_Name.calls _ s _ w (aAD s hs))
theorem vN : ∀ l : List UInt8, (pcs l).length ≤ l.length + 1
  | [] => Nat.le_refl _
  | b :: t => by
    have := vN t
    rw [pcs]
    split
    · simp only [List.length_cons]; omega
    · cases hp : pcs t with
      | nil => simp [consHead]
      | cons x r => rw [hp] at this; simp only [consHead, List.length_cons] at this ⊢; omega
theorem iK (s : ByteArray) : (pcsB s).length ≤ s.size + 1 := by
  unfold pcsB; rw [List.length_map, ← eH]; exact vN _
theorem vO (s : ByteArray) (hs : s.size ≤ 1000000) : ACalls Tryz.prog 66 [.imm (.lit (.string s)), .imm (.lit (.string dotB))] [] (.imm (.sl false (pcsB s).length (strs (pcsB s)))) [] :=
  kR (args := [.lit (.string s), .lit (.string dotB)]) (r := .sl false (pcsB s).length (strs (pcsB s))) ⟨_, Tryz.func66, rfl, rfl⟩ (fun w M vs ha hv => by
    obtain ⟨v, us, rfl, h1, h2⟩ := fY hv
    obtain ⟨v2, us, rfl, h3, h4⟩ := fY h2
    rw [lW h1, lW h3, mP h4]
    obtain ⟨m, hm⟩ := ha.most
    have hl := iK s
    have hc : Lib.countB s dotB + 1 = (pcsB s).length := by
      rw [← sL s.size s (Nat.le_refl _), splitB_all dotB (by decide) 0 _ s rfl]
    refine (Tryz.strings_Split s dotB m w (by omega) hm (by decide)).mono fun e w' ⟨he, hw⟩ => ⟨_, he, ?_, ?_⟩
    · rw [hw]; exact below_alloc _
    · rw [hc, sL s.size s (Nat.le_refl _)] at *
      subst hw
      exact pM (cells := ((pcsB s).map Value.string).toArray) (T := 9) (fz := (0, 0)) (by show (w.heap.push _)[w.heap.size]? = _; simp) (Nat.le_refl _) (by rw [List.take_of_length_le (by simp)]) (Nat.le_refl _) (by unfold slMax; omega))
end Go.Proofs.YtlbemgokilhdnaaGreatDoor.Ab
namespace Go.Proofs.YtlbemgokilhdnaaGreatDoor.Ab
set_option linter.unusedVariables false
set_option linter.unusedSimpArgs false
open Go.RowKit Go.Lib Go.Proofs.YtlbemgokilhdnaaGreatDoorW.PrintWords Go.Proofs.YtlbemgokilhdnaaGreatDoorW.PrintLast Go.Proofs.YtlbemgokilhdnaaGreatDoorW.PrintMore Go.Proofs.YtlbemgokilhdnaaGreatDoor.RP Go.Proofs.YtlbemgokilhdnaaGreatDoor.RW Go.Proofs.YtlbemgokilhdnaaGreatDoor.PAll
attribute [local irreducible] AWP AOps AExit AThen ABlock ANoGoto FeetOk
set_option maxHeartbeats 4000000 in
set_option maxRecDepth 10000 in
theorem zG (s : ByteArray) (hs : s.size ≤ 1000000) : ACalls Tryz.prog 64 [.imm (.lit (.string s))] [] (.imm (.lit (.bool (nameB s)))) [] := by
  have c1 := sO s hs
  have c2 := aAZ s
  unfold nameB
  refine aM Tryz.func64 rfl rfl (nb rfl) rfl ?_
  repeat' (first | refine aE ?_ | (refine aH ?_; first | refine aC tabOk rfl rfl rfl (nb rfl) rfl ?_ | refine bD rfl rfl (nb rfl) ?_ | (refine aK rfl rfl rfl (nb rfl) rfl rfl rfl (fun hq => ?_) (fun hq => ?_) <;> (first | (simp only [sD, sE, sB, sC, sN, sM, sT, sF] at hq; try (exfalso; omega)) | skip))| (refine bO rfl rfl rfl (nb rfl) rfl rfl rfl (c1) (fun hq => ?_) (fun hq => ?_)) | (refine bO rfl rfl rfl (nb rfl) rfl rfl rfl (c2) (fun hq => ?_) (fun hq => ?_)) | refine bK rfl rfl rfl (nb rfl) rfl rfl (by omega) ?_ | refine cG rfl rfl rfl (nb rfl) rfl rfl rfl (by omega) (by omega) ?_ | refine bY rfl rfl rfl (nb rfl) rfl rfl rfl (by omega) (by omega) ?_ | refine bV tabOk rfl rfl rfl (nb rfl) rfl rfl rfl rfl rfl rfl rfl rfl rfl ?_ | refine aU tabOk rfl rfl (nb rfl) rfl ?_ | refine cC tabOk rfl rfl rfl (nb rfl) rfl rfl rfl rfl rfl rfl ?_ | refine bT tabOk rfl rfl rfl (nb rfl) rfl rfl rfl rfl ?_ | refine bM tabOk rfl rfl rfl rfl rfl rfl rfl rfl rfl rfl rfl ?_ | refine bI tabOk rfl rfl rfl (nb rfl) rfl rfl rfl rfl (by first | assumption | omega) ?_ | refine bG tabOk rfl rfl rfl (nb rfl) rfl rfl rfl rfl (by first | rfl | omega) (by first | omega | simp) ?_ | refine aV tabOk rfl rfl rfl (nb rfl) rfl rfl rfl (by assumption) ?_ | refine aV tabOk rfl rfl rfl (nb rfl) rfl rfl rfl (bZ _ _ (by first | assumption | omega)) ?_ | refine bK rfl rfl rfl (nb rfl) rfl rfl (by omega) ?_ | ((fail_if_success (refine bW (b := true) rfl rfl rfl ?_)); (fail_if_success (refine bW (b := false) rfl rfl rfl ?_)); refine cE rfl rfl rfl (fun hq => ?_) (fun hq => ?_) <;> first | subst hq | (first | (simp only [sD, sE, sB, sC, sN, sM, sT, sF] at hq; try (exfalso; omega)) | skip)) | fail) | (refine aN ?_; first | refine aG ?_ | refine aQ ?_ | refine bF ?_ | refine aX ?_ | refine aT ?_ | refine bS ?_ | refine aW ?_ | refine aA (b := true) rfl (fun _ => ?_) nTf | refine aA (b := false) rfl nFt (fun _ => ?_) | refine cK ?_ | refine cJ ?_ | refine cL mixed (by kernel_rfl) ?_ | refine bC mixed (by kernel_rfl) ?_ | (refine aA rfl (fun hq => ?_) (fun hq => ?_) <;> first | subst hq | (first | (simp only [sD, sE, sB, sC, sN, sM, sT, sF] at hq; try (exfalso; omega)) | skip)) | fail) | (refine aJ ?_; first | refine bB ?_ | refine bJ ?_ | refine aR ?_ | fail) | (refine aY ?_; first | refine bR ?_ | refine bH ?_ | refine cB (by decide) ?_ | refine bE ?_ | fail) | refine bU (bQ (by kernel_rfl)) ?_ | fail)
  all_goals (refine bA (by first | exact .inl rfl | exact .inr rfl) (aZ rfl (aD rfl)) rfl ?_; refine cM ?_; simp_all)
set_option maxHeartbeats 4000000 in
set_option maxRecDepth 10000 in
theorem aBa (s : ByteArray) (hs : s.size ≤ 1000000) : ACalls Tryz.prog 63 [.imm (.lit (.string s))] [] (.imm (.lit (.bool (!nameB s)))) [] := by
  have c1 := zG s hs
  refine aM Tryz.func63 rfl rfl (nb rfl) rfl ?_
  repeat' (first | refine aE ?_ | (refine aH ?_; first | refine aC tabOk rfl rfl rfl (nb rfl) rfl ?_ | refine bD rfl rfl (nb rfl) ?_ | (refine aK rfl rfl rfl (nb rfl) rfl rfl rfl (fun hq => ?_) (fun hq => ?_) <;> (first | (simp only [sD, sE, sB, sC, sN, sM, sT, sF] at hq; try (exfalso; omega)) | skip))| (refine bO rfl rfl rfl (nb rfl) rfl rfl rfl (c1) (fun hq => ?_) (fun hq => ?_)) | refine bK rfl rfl rfl (nb rfl) rfl rfl (by omega) ?_ | refine cG rfl rfl rfl (nb rfl) rfl rfl rfl (by omega) (by omega) ?_ | refine bY rfl rfl rfl (nb rfl) rfl rfl rfl (by omega) (by omega) ?_ | refine bV tabOk rfl rfl rfl (nb rfl) rfl rfl rfl rfl rfl rfl rfl rfl rfl ?_ | refine aU tabOk rfl rfl (nb rfl) rfl ?_ | refine cC tabOk rfl rfl rfl (nb rfl) rfl rfl rfl rfl rfl rfl ?_ | refine bT tabOk rfl rfl rfl (nb rfl) rfl rfl rfl rfl ?_ | refine bM tabOk rfl rfl rfl rfl rfl rfl rfl rfl rfl rfl rfl ?_ | refine bI tabOk rfl rfl rfl (nb rfl) rfl rfl rfl rfl (by first | assumption | omega) ?_ | refine bG tabOk rfl rfl rfl (nb rfl) rfl rfl rfl rfl (by first | rfl | omega) (by first | omega | simp) ?_ | refine aV tabOk rfl rfl rfl (nb rfl) rfl rfl rfl (by assumption) ?_ | refine aV tabOk rfl rfl rfl (nb rfl) rfl rfl rfl (bZ _ _ (by first | assumption | omega)) ?_ | refine bK rfl rfl rfl (nb rfl) rfl rfl (by omega) ?_ | ((fail_if_success (refine bW (b := true) rfl rfl rfl ?_)); (fail_if_success (refine bW (b := false) rfl rfl rfl ?_)); refine cE rfl rfl rfl (fun hq => ?_) (fun hq => ?_) <;> first | subst hq | (first | (simp only [sD, sE, sB, sC, sN, sM, sT, sF] at hq; try (exfalso; omega)) | skip)) | fail) | (refine aN ?_; first | refine aG ?_ | refine aQ ?_ | refine bF ?_ | refine aX ?_ | refine aT ?_ | refine bS ?_ | refine aW ?_ | refine aA (b := true) rfl (fun _ => ?_) nTf | refine aA (b := false) rfl nFt (fun _ => ?_) | refine cK ?_ | refine cJ ?_ | refine cL mixed (by kernel_rfl) ?_ | refine bC mixed (by kernel_rfl) ?_ | (refine aA rfl (fun hq => ?_) (fun hq => ?_) <;> first | subst hq | (first | (simp only [sD, sE, sB, sC, sN, sM, sT, sF] at hq; try (exfalso; omega)) | skip)) | fail) | (refine aJ ?_; first | refine bB ?_ | refine bJ ?_ | refine aR ?_ | fail) | (refine aY ?_; first | refine bR ?_ | refine bH ?_ | refine cB (by decide) ?_ | refine bE ?_ | fail) | refine bU (bQ (by kernel_rfl)) ?_ | fail)
  all_goals (refine bA (by first | exact .inl rfl | exact .inr rfl) (aZ rfl (aD rfl)) rfl ?_; refine cM ?_; simp_all)
set_option maxHeartbeats 4000000 in
set_option maxRecDepth 10000 in
theorem sP (b : Bool) (l : List ByteArray) (f : FuncId) (R : ByteArray → Bool) (hl : l.length ≤ 1000000)
    (hf : ∀ i (hi : i < l.length), ACalls Tryz.prog f [.imm (.lit (.string l[i]))] [] (.imm (.lit (.bool (R l[i])))) []) :
    ∃ r : Int, (0 ≤ r ↔ l.any R = true) ∧ ACalls Tryz.prog 88 [.imm (.sl b l.length (strs l)), .imm (.func f [] [])] [] (.imm (.lit (.int .i64 r))) [] := by
  have hex : (∃ j, ∃ hj : j < l.length, R l[j] = true ∧ ∀ i (hi : i < l.length), i < j → R l[i] = false) ∨ (∀ i (hi : i < l.length), R l[i] = false) := by
    clear hf
    induction l with
    | nil => exact .inr (fun i hi => by simp at hi)
    | cons x l ih =>
      cases hx : R x with
      | true => exact .inl ⟨0, by simp, hx, fun i hi h => by omega⟩
      | false =>
        rcases ih (by simp at hl; omega) with ⟨j, hj, h1, h2⟩ | h
        · refine .inl ⟨j + 1, by simp; omega, by simpa using h1, fun i hi h => ?_⟩
          cases i with
          | zero => simpa using hx
          | succ i => simpa using h2 i (by simpa using hi) (by omega)
        · refine .inr fun i hi => ?_
          cases i with
          | zero => simpa using hx
          | succ i => simpa using h i (by simpa using hi)
  have walk : ∀ (z : Nat), z ≤ l.length → (∀ i (hi : i < l.length), i < z → R l[i] = false) → (∀ hz : z < l.length, R l[z] = true) →
      ACalls Tryz.prog 88 [.imm (.sl b l.length (strs l)), .imm (.func f [] [])] [] (.imm (.lit (.int .i64 (if z < l.length then (z : Int) else -1)))) [] := by
    intro z hz hno hyes
    refine aM Tryz.func88 rfl rfl (nb rfl) rfl ?_
    repeat' (first | refine aE ?_ | (refine aH ?_; first | refine aC tabOk rfl rfl rfl (nb rfl) rfl ?_ | refine bD rfl rfl (nb rfl) ?_ | (refine aK rfl rfl rfl (nb rfl) rfl rfl rfl (fun hq => ?_) (fun hq => ?_) <;> (first | (simp only [sD, sE, sB, sC, sN, sM, sT, sF] at hq; try (exfalso; omega)) | skip)) | refine bK rfl rfl rfl (nb rfl) rfl rfl (by omega) ?_ | refine cG rfl rfl rfl (nb rfl) rfl rfl rfl (by omega) (by omega) ?_ | refine bY rfl rfl rfl (nb rfl) rfl rfl rfl (by omega) (by omega) ?_ | refine bV tabOk rfl rfl rfl (nb rfl) rfl rfl rfl rfl rfl rfl rfl rfl rfl ?_ | refine aU tabOk rfl rfl (nb rfl) rfl ?_ | refine cC tabOk rfl rfl rfl (nb rfl) rfl rfl rfl rfl rfl rfl ?_ | refine bT tabOk rfl rfl rfl (nb rfl) rfl rfl rfl rfl ?_ | refine bM tabOk rfl rfl rfl rfl rfl rfl rfl rfl rfl rfl rfl ?_ | refine bI tabOk rfl rfl rfl (nb rfl) rfl rfl rfl rfl (by first | assumption | omega) ?_ | refine bG tabOk rfl rfl rfl (nb rfl) rfl rfl rfl rfl (by first | rfl | omega) (by first | omega | simp) ?_ | refine aV tabOk rfl rfl rfl (nb rfl) rfl rfl rfl (by assumption) ?_ | refine aV tabOk rfl rfl rfl (nb rfl) rfl rfl rfl (bZ _ _ (by first | assumption | omega)) ?_ | refine bK rfl rfl rfl (nb rfl) rfl rfl (by omega) ?_ | ((fail_if_success (refine bW (b := true) rfl rfl rfl ?_)); (fail_if_success (refine bW (b := false) rfl rfl rfl ?_)); refine cE rfl rfl rfl (fun hq => ?_) (fun hq => ?_) <;> first | subst hq | (first | (simp only [sD, sE, sB, sC, sN, sM, sT, sF] at hq; try (exfalso; omega)) | skip)) | fail) | (refine aN ?_; first | refine aG ?_ | refine aQ ?_ | refine bF ?_ | refine aX ?_ | refine aT ?_ | refine bS ?_ | refine aW ?_ | refine aA (b := true) rfl (fun _ => ?_) nTf | refine aA (b := false) rfl nFt (fun _ => ?_) | refine cK ?_ | refine cJ ?_ | refine cL mixed (by kernel_rfl) ?_ | refine bC mixed (by kernel_rfl) ?_ | (refine aA rfl (fun hq => ?_) (fun hq => ?_) <;> first | subst hq | (first | (simp only [sD, sE, sB, sC, sN, sM, sT, sF] at hq; try (exfalso; omega)) | skip)) | fail) | (refine aJ ?_; first | refine bB ?_ | refine bJ ?_ | refine aR ?_ | fail) | (refine aY ?_; first | refine bR ?_ | refine bH ?_ | refine cB (by decide) ?_ | refine bE ?_ | fail) | refine bU (bQ (by kernel_rfl)) ?_ | fail)
    refine cD (ι := {j : Nat // j ≤ z}) (fun j => S.f ⟨[(8, .imm (.lit (.int .i64 (j.1 : Int)))), (7, .imm (.lit (.int .i64 (l.length : Int)))), (0, .imm (.sl b l.length (strs l))), (1, .imm (.func f [] []))], []⟩) (fun j => l.length - j.1) ⟨0, Nat.zero_le _⟩ (cA (by repeat' first | exact trivial | refine ⟨rfl, ?_⟩) (by repeat' first | exact trivial | refine ⟨rfl, ?_⟩)) ?_
    rintro ⟨j, hj⟩
    dsimp only
    by_cases hlt : j < l.length
    · have c := hf j hlt
      by_cases hjz : j < z
      · rw [hno j hlt hjz] at c
        repeat' (first | refine aE ?_ | (refine aH ?_; first | refine aC tabOk rfl rfl rfl (nb rfl) rfl ?_ | refine bD rfl rfl (nb rfl) ?_ | (refine aK rfl rfl rfl (nb rfl) rfl rfl rfl (fun hq => ?_) (fun hq => ?_) <;> (first | (simp only [sD, sE, sB, sC, sN, sM, sT, sF] at hq; try (exfalso; omega)) | skip))| refine aV tabOk rfl rfl rfl (nb rfl) rfl rfl rfl (gG l j hlt) ?_ | refine aI rfl rfl (nb rfl) rfl rfl rfl rfl (c) ?_ | refine bK rfl rfl rfl (nb rfl) rfl rfl (by omega) ?_ | refine cG rfl rfl rfl (nb rfl) rfl rfl rfl (by omega) (by omega) ?_ | refine bY rfl rfl rfl (nb rfl) rfl rfl rfl (by omega) (by omega) ?_ | refine bV tabOk rfl rfl rfl (nb rfl) rfl rfl rfl rfl rfl rfl rfl rfl rfl ?_ | refine aU tabOk rfl rfl (nb rfl) rfl ?_ | refine cC tabOk rfl rfl rfl (nb rfl) rfl rfl rfl rfl rfl rfl ?_ | refine bT tabOk rfl rfl rfl (nb rfl) rfl rfl rfl rfl ?_ | refine bM tabOk rfl rfl rfl rfl rfl rfl rfl rfl rfl rfl rfl ?_ | refine bI tabOk rfl rfl rfl (nb rfl) rfl rfl rfl rfl (by first | assumption | omega) ?_ | refine bG tabOk rfl rfl rfl (nb rfl) rfl rfl rfl rfl (by first | rfl | omega) (by first | omega | simp) ?_ | refine aV tabOk rfl rfl rfl (nb rfl) rfl rfl rfl (by assumption) ?_ | refine aV tabOk rfl rfl rfl (nb rfl) rfl rfl rfl (bZ _ _ (by first | assumption | omega)) ?_ | refine bK rfl rfl rfl (nb rfl) rfl rfl (by omega) ?_ | ((fail_if_success (refine bW (b := true) rfl rfl rfl ?_)); (fail_if_success (refine bW (b := false) rfl rfl rfl ?_)); refine cE rfl rfl rfl (fun hq => ?_) (fun hq => ?_) <;> first | subst hq | (first | (simp only [sD, sE, sB, sC, sN, sM, sT, sF] at hq; try (exfalso; omega)) | skip)) | fail) | (refine aN ?_; first | refine aG ?_ | refine aQ ?_ | refine bF ?_ | refine aX ?_ | refine aT ?_ | refine bS ?_ | refine aW ?_ | refine aA (b := true) rfl (fun _ => ?_) nTf | refine aA (b := false) rfl nFt (fun _ => ?_) | refine cK ?_ | refine cJ ?_ | refine cL mixed (by kernel_rfl) ?_ | refine bC mixed (by kernel_rfl) ?_ | (refine aA rfl (fun hq => ?_) (fun hq => ?_) <;> first | subst hq | (first | (simp only [sD, sE, sB, sC, sN, sM, sT, sF] at hq; try (exfalso; omega)) | skip)) | fail) | (refine aJ ?_; first | refine bB ?_ | refine bJ ?_ | refine aR ?_ | fail) | (refine aY ?_; first | refine bR ?_ | refine bH ?_ | refine cB (by decide) ?_ | refine bE ?_ | fail) | refine bU (bQ (by kernel_rfl)) ?_ | fail)
        all_goals exact ⟨⟨j + 1, hjz⟩, (by show l.length - (j + 1) < l.length - j; omega), (cA (by repeat' first | exact trivial | refine ⟨rfl, ?_⟩) (by repeat' first | exact trivial | refine ⟨rfl, ?_⟩))⟩
      · have e : j = z := by omega
        subst e
        rw [hyes hlt] at c
        repeat' (first | refine aE ?_ | (refine aH ?_; first | refine aC tabOk rfl rfl rfl (nb rfl) rfl ?_ | refine bD rfl rfl (nb rfl) ?_ | (refine aK rfl rfl rfl (nb rfl) rfl rfl rfl (fun hq => ?_) (fun hq => ?_) <;> (first | (simp only [sD, sE, sB, sC, sN, sM, sT, sF] at hq; try (exfalso; omega)) | skip))| refine aV tabOk rfl rfl rfl (nb rfl) rfl rfl rfl (gG l j hlt) ?_ | refine aI rfl rfl (nb rfl) rfl rfl rfl rfl (c) ?_ | refine bK rfl rfl rfl (nb rfl) rfl rfl (by omega) ?_ | refine cG rfl rfl rfl (nb rfl) rfl rfl rfl (by omega) (by omega) ?_ | refine bY rfl rfl rfl (nb rfl) rfl rfl rfl (by omega) (by omega) ?_ | refine bV tabOk rfl rfl rfl (nb rfl) rfl rfl rfl rfl rfl rfl rfl rfl rfl ?_ | refine aU tabOk rfl rfl (nb rfl) rfl ?_ | refine cC tabOk rfl rfl rfl (nb rfl) rfl rfl rfl rfl rfl rfl ?_ | refine bT tabOk rfl rfl rfl (nb rfl) rfl rfl rfl rfl ?_ | refine bM tabOk rfl rfl rfl rfl rfl rfl rfl rfl rfl rfl rfl ?_ | refine bI tabOk rfl rfl rfl (nb rfl) rfl rfl rfl rfl (by first | assumption | omega) ?_ | refine bG tabOk rfl rfl rfl (nb rfl) rfl rfl rfl rfl (by first | rfl | omega) (by first | omega | simp) ?_ | refine aV tabOk rfl rfl rfl (nb rfl) rfl rfl rfl (by assumption) ?_ | refine aV tabOk rfl rfl rfl (nb rfl) rfl rfl rfl (bZ _ _ (by first | assumption | omega)) ?_ | refine bK rfl rfl rfl (nb rfl) rfl rfl (by omega) ?_ | ((fail_if_success (refine bW (b := true) rfl rfl rfl ?_)); (fail_if_success (refine bW (b := false) rfl rfl rfl ?_)); refine cE rfl rfl rfl (fun hq => ?_) (fun hq => ?_) <;> first | subst hq | (first | (simp only [sD, sE, sB, sC, sN, sM, sT, sF] at hq; try (exfalso; omega)) | skip)) | fail) | (refine aN ?_; first | refine aG ?_ | refine aQ ?_ | refine bF ?_ | refine aX ?_ | refine aT ?_ | refine bS ?_ | refine aW ?_ | refine aA (b := true) rfl (fun _ => ?_) nTf | refine aA (b := false) rfl nFt (fun _ => ?_) | refine cK ?_ | refine cJ ?_ | refine cL mixed (by kernel_rfl) ?_ | refine bC mixed (by kernel_rfl) ?_ | (refine aA rfl (fun hq => ?_) (fun hq => ?_) <;> first | subst hq | (first | (simp only [sD, sE, sB, sC, sN, sM, sT, sF] at hq; try (exfalso; omega)) | skip)) | fail) | (refine aJ ?_; first | refine bB ?_ | refine bJ ?_ | refine aR ?_ | fail) | (refine aY ?_; first | refine bR ?_ | refine bH ?_ | refine cB (by decide) ?_ | refine bE ?_ | fail) | refine bU (bQ (by kernel_rfl)) ?_ | fail)
        all_goals (refine bA (by first | exact .inl rfl | exact .inr rfl) (aZ rfl (aD rfl)) rfl ?_; exact fN (by rw [if_pos hlt]))
    · repeat' (first | refine aE ?_ | (refine aH ?_; first | refine aC tabOk rfl rfl rfl (nb rfl) rfl ?_ | refine bD rfl rfl (nb rfl) ?_ | (refine aK rfl rfl rfl (nb rfl) rfl rfl rfl (fun hq => ?_) (fun hq => ?_) <;> (first | (simp only [sD, sE, sB, sC, sN, sM, sT, sF] at hq; try (exfalso; omega)) | skip)) | refine bK rfl rfl rfl (nb rfl) rfl rfl (by omega) ?_ | refine cG rfl rfl rfl (nb rfl) rfl rfl rfl (by omega) (by omega) ?_ | refine bY rfl rfl rfl (nb rfl) rfl rfl rfl (by omega) (by omega) ?_ | refine bV tabOk rfl rfl rfl (nb rfl) rfl rfl rfl rfl rfl rfl rfl rfl rfl ?_ | refine aU tabOk rfl rfl (nb rfl) rfl ?_ | refine cC tabOk rfl rfl rfl (nb rfl) rfl rfl rfl rfl rfl rfl ?_ | refine bT tabOk rfl rfl rfl (nb rfl) rfl rfl rfl rfl ?_ | refine bM tabOk rfl rfl rfl rfl rfl rfl rfl rfl rfl rfl rfl ?_ | refine bI tabOk rfl rfl rfl (nb rfl) rfl rfl rfl rfl (by first | assumption | omega) ?_ | refine bG tabOk rfl rfl rfl (nb rfl) rfl rfl rfl rfl (by first | rfl | omega) (by first | omega | simp) ?_ | refine aV tabOk rfl rfl rfl (nb rfl) rfl rfl rfl (by assumption) ?_ | refine aV tabOk rfl rfl rfl (nb rfl) rfl rfl rfl (bZ _ _ (by first | assumption | omega)) ?_ | refine bK rfl rfl rfl (nb rfl) rfl rfl (by omega) ?_ | ((fail_if_success (refine bW (b := true) rfl rfl rfl ?_)); (fail_if_success (refine bW (b := false) rfl rfl rfl ?_)); refine cE rfl rfl rfl (fun hq => ?_) (fun hq => ?_) <;> first | subst hq | (first | (simp only [sD, sE, sB, sC, sN, sM, sT, sF] at hq; try (exfalso; omega)) | skip)) | fail) | (refine aN ?_; first | refine aG ?_ | refine aQ ?_ | refine bF ?_ | refine aX ?_ | refine aT ?_ | refine bS ?_ | refine aW ?_ | refine aA (b := true) rfl (fun _ => ?_) nTf | refine aA (b := false) rfl nFt (fun _ => ?_) | refine cK ?_ | refine cJ ?_ | refine cL mixed (by kernel_rfl) ?_ | refine bC mixed (by kernel_rfl) ?_ | (refine aA rfl (fun hq => ?_) (fun hq => ?_) <;> first | subst hq | (first | (simp only [sD, sE, sB, sC, sN, sM, sT, sF] at hq; try (exfalso; omega)) | skip)) | fail) | (refine aJ ?_; first | refine bB ?_ | refine bJ ?_ | refine aR ?_ | fail) | (refine aY ?_; first | refine bR ?_ | refine bH ?_ | refine cB (by decide) ?_ | refine bE ?_ | fail) | refine bU (bQ (by kernel_rfl)) ?_ | fail)
      all_goals (refine bA (by first | exact .inl rfl | exact .inr rfl) (aZ rfl (aD rfl)) rfl ?_; exact fN (by rw [if_neg (by omega)]))
  rcases hex with ⟨j, hj, h1, h2⟩ | h
  · refine ⟨_, ?_, walk j (by omega) (fun i hi h => h2 i hi h) (fun _ => h1)⟩
    rw [if_pos hj]
    exact ⟨fun _ => List.any_eq_true.2 ⟨l[j], List.getElem_mem hj, h1⟩, fun _ => by omega⟩
  · refine ⟨_, ?_, walk l.length (Nat.le_refl _) (fun i hi _ => h i hi) (fun hz => absurd hz (Nat.lt_irrefl _))⟩
    rw [if_neg (Nat.lt_irrefl _)]
    refine ⟨fun h => by omega, fun ha => ?_⟩
    obtain ⟨x, hx, hR⟩ := List.any_eq_true.1 ha
    obtain ⟨i, hi, rfl⟩ := List.mem_iff_getElem.1 hx
    rw [h i hi] at hR; cases hR
set_option maxHeartbeats 4000000 in
set_option maxRecDepth 10000 in
theorem nN (b : Bool) (l : List ByteArray) (f : FuncId) (R : ByteArray → Bool) (hl : l.length ≤ 1000000)
    (hf : ∀ i (hi : i < l.length), ACalls Tryz.prog f [.imm (.lit (.string l[i]))] [] (.imm (.lit (.bool (R l[i])))) []) :
    ACalls Tryz.prog 65 [.imm (.sl b l.length (strs l)), .imm (.func f [] [])] [] (.imm (.lit (.bool (l.any R)))) [] := by
  obtain ⟨r, hr, c⟩ := sP b l f R hl hf
  generalize l.any R = q at hr
  refine aM Tryz.func65 rfl rfl (nb rfl) rfl ?_
  repeat' (first | refine aE ?_ | (refine aH ?_; first | refine aC tabOk rfl rfl rfl (nb rfl) rfl ?_ | refine bD rfl rfl (nb rfl) ?_ | (refine aK rfl rfl rfl (nb rfl) rfl rfl rfl (fun hq => ?_) (fun hq => ?_) <;> (first | (simp only [sD, sE, sB, sC, sN, sM, sT, sF] at hq; try (exfalso; omega)) | skip))| refine aI rfl rfl (nb rfl) rfl rfl rfl rfl (c) ?_ | refine bK rfl rfl rfl (nb rfl) rfl rfl (by omega) ?_ | refine cG rfl rfl rfl (nb rfl) rfl rfl rfl (by omega) (by omega) ?_ | refine bY rfl rfl rfl (nb rfl) rfl rfl rfl (by omega) (by omega) ?_ | refine bV tabOk rfl rfl rfl (nb rfl) rfl rfl rfl rfl rfl rfl rfl rfl rfl ?_ | refine aU tabOk rfl rfl (nb rfl) rfl ?_ | refine cC tabOk rfl rfl rfl (nb rfl) rfl rfl rfl rfl rfl rfl ?_ | refine bT tabOk rfl rfl rfl (nb rfl) rfl rfl rfl rfl ?_ | refine bM tabOk rfl rfl rfl rfl rfl rfl rfl rfl rfl rfl rfl ?_ | refine bI tabOk rfl rfl rfl (nb rfl) rfl rfl rfl rfl (by first | assumption | omega) ?_ | refine bG tabOk rfl rfl rfl (nb rfl) rfl rfl rfl rfl (by first | rfl | omega) (by first | omega | simp) ?_ | refine aV tabOk rfl rfl rfl (nb rfl) rfl rfl rfl (by assumption) ?_ | refine aV tabOk rfl rfl rfl (nb rfl) rfl rfl rfl (bZ _ _ (by first | assumption | omega)) ?_ | refine bK rfl rfl rfl (nb rfl) rfl rfl (by omega) ?_ | ((fail_if_success (refine bW (b := true) rfl rfl rfl ?_)); (fail_if_success (refine bW (b := false) rfl rfl rfl ?_)); refine cE rfl rfl rfl (fun hq => ?_) (fun hq => ?_) <;> first | subst hq | (first | (simp only [sD, sE, sB, sC, sN, sM, sT, sF] at hq; try (exfalso; omega)) | skip)) | fail) | (refine aN ?_; first | refine aG ?_ | refine aQ ?_ | refine bF ?_ | refine aX ?_ | refine aT ?_ | refine bS ?_ | refine aW ?_ | refine aA (b := true) rfl (fun _ => ?_) nTf | refine aA (b := false) rfl nFt (fun _ => ?_) | refine cK ?_ | refine cJ ?_ | refine cL mixed (by kernel_rfl) ?_ | refine bC mixed (by kernel_rfl) ?_ | (refine aA rfl (fun hq => ?_) (fun hq => ?_) <;> first | subst hq | (first | (simp only [sD, sE, sB, sC, sN, sM, sT, sF] at hq; try (exfalso; omega)) | skip)) | fail) | (refine aJ ?_; first | refine bB ?_ | refine bJ ?_ | refine aR ?_ | fail) | (refine aY ?_; first | refine bR ?_ | refine bH ?_ | refine cB (by decide) ?_ | refine bE ?_ | fail) | refine bU (bQ (by kernel_rfl)) ?_ | fail)
  all_goals (refine bA (by first | exact .inl rfl | exact .inr rfl) (aZ rfl (aD rfl)) rfl ?_; refine cM ?_; cases q <;> first | rfl | (exfalso; simp at hr; omega))
theorem sQ (l : List ByteArray) (R : ByteArray → Bool) : (l.any fun x => !R x) = !(l.all R) := by
  induction l with
  | nil => rfl
  | cons x l ih => simp [ih, Bool.not_and]
theorem jU (s : ByteArray) : ∀ p ∈ pcsB s, p.size ≤ s.size := by
  have key : ∀ (l : List UInt8), ∀ p ∈ pcs l, p.length ≤ l.length := by
    intro l
    induction l with
    | nil => intro p hp; simp [pcs] at hp; simp [hp]
    | cons b t ih =>
      intro p hp
      rw [pcs] at hp
      split at hp
      · rcases List.mem_cons.1 hp with rfl | hp
        · simp
        · have := ih p hp; simp; omega
      · cases hq : pcs t with
        | nil => exact absurd hq (uW t)
        | cons x r =>
          rw [hq] at hp ih
          simp only [consHead] at hp
          rcases List.mem_cons.1 hp with rfl | hp
          · have := ih x List.mem_cons_self; simp; omega
          · have := ih p (List.mem_cons_of_mem _ hp); simp; omega
  intro p hp
  unfold pcsB at hp
  obtain ⟨q, hq, rfl⟩ := List.mem_map.1 hp
  rw [zE, ← eH s]
  exact key _ q hq
set_option maxHeartbeats 4000000 in
set_option maxRecDepth 10000 in
theorem vP (s : ByteArray) (hs : s.size ≤ 100000) : ACalls Tryz.prog 34 [.imm (.lit (.string s))] [] (.imm (.lit (.bool (longP s)))) [] := by
  have hl := iK s
  have c1 := vO s (by omega)
  have c2 := nN false (pcsB s) 63 (fun x => !nameB x) (by omega) (fun i hi => aBa _ (Nat.le_trans (jU s _ (List.getElem_mem hi)) (by omega)))
  rw [sQ] at c2
  unfold longP
  generalize (pcsB s).all nameB = q at c2
  refine aM Tryz.func34 rfl rfl (nb rfl) rfl ?_
  repeat' (first | refine aE ?_ | (refine aH ?_; first | refine aC tabOk rfl rfl rfl (nb rfl) rfl ?_ | refine bD rfl rfl (nb rfl) ?_ | (refine aK rfl rfl rfl (nb rfl) rfl rfl rfl (fun hq => ?_) (fun hq => ?_) <;> (first | (simp only [sD, sE, sB, sC, sN, sM, sT, sF] at hq; try (exfalso; omega)) | skip))| refine aI rfl rfl (nb rfl) rfl rfl rfl rfl (c1) ?_ | (refine bO rfl rfl rfl (nb rfl) rfl rfl rfl (c2) (fun hq => ?_) (fun hq => ?_)) | refine bK rfl rfl rfl (nb rfl) rfl rfl (by omega) ?_ | refine cG rfl rfl rfl (nb rfl) rfl rfl rfl (by omega) (by omega) ?_ | refine bY rfl rfl rfl (nb rfl) rfl rfl rfl (by omega) (by omega) ?_ | refine bV tabOk rfl rfl rfl (nb rfl) rfl rfl rfl rfl rfl rfl rfl rfl rfl ?_ | refine aU tabOk rfl rfl (nb rfl) rfl ?_ | refine cC tabOk rfl rfl rfl (nb rfl) rfl rfl rfl rfl rfl rfl ?_ | refine bT tabOk rfl rfl rfl (nb rfl) rfl rfl rfl rfl ?_ | refine bM tabOk rfl rfl rfl rfl rfl rfl rfl rfl rfl rfl rfl ?_ | refine bI tabOk rfl rfl rfl (nb rfl) rfl rfl rfl rfl (by first | assumption | omega) ?_ | refine bG tabOk rfl rfl rfl (nb rfl) rfl rfl rfl rfl (by first | rfl | omega) (by first | omega | simp) ?_ | refine aV tabOk rfl rfl rfl (nb rfl) rfl rfl rfl (by assumption) ?_ | refine aV tabOk rfl rfl rfl (nb rfl) rfl rfl rfl (bZ _ _ (by first | assumption | omega)) ?_ | refine bK rfl rfl rfl (nb rfl) rfl rfl (by omega) ?_ | ((fail_if_success (refine bW (b := true) rfl rfl rfl ?_)); (fail_if_success (refine bW (b := false) rfl rfl rfl ?_)); refine cE rfl rfl rfl (fun hq => ?_) (fun hq => ?_) <;> first | subst hq | (first | (simp only [sD, sE, sB, sC, sN, sM, sT, sF] at hq; try (exfalso; omega)) | skip)) | fail) | (refine aN ?_; first | refine aG ?_ | refine aQ ?_ | refine bF ?_ | refine aX ?_ | refine aT ?_ | refine bS ?_ | refine aW ?_ | refine aA (b := true) rfl (fun _ => ?_) nTf | refine aA (b := false) rfl nFt (fun _ => ?_) | refine cK ?_ | refine cJ ?_ | refine cL mixed (by kernel_rfl) ?_ | refine bC mixed (by kernel_rfl) ?_ | (refine aA rfl (fun hq => ?_) (fun hq => ?_) <;> first | subst hq | (first | (simp only [sD, sE, sB, sC, sN, sM, sT, sF] at hq; try (exfalso; omega)) | skip)) | fail) | (refine aJ ?_; first | refine bB ?_ | refine bJ ?_ | refine aR ?_ | fail) | (refine aY ?_; first | refine bR ?_ | refine bH ?_ | refine cB (by decide) ?_ | refine bE ?_ | fail) | refine bU (bQ (by kernel_rfl)) ?_ | fail)
  all_goals (refine bA (by first | exact .inl rfl | exact .inr rfl) (aZ rfl (aD rfl)) rfl ?_; refine cM ?_; cases q <;> simp_all <;> omega)
set_option maxHeartbeats 4000000 in
set_option maxRecDepth 10000 in
theorem zH (s : ByteArray) (hs : s.size ≤ 100000) : ACalls Tryz.prog 35 [.imm (.lit (.string s))] [] (.imm (.sl false (splitP s).length (strs (splitP s)))) [] := by
  have c1 := vP s hs
  have c2 := vO s (by omega)
  unfold splitP
  cases h : longP s with
  | true =>
    rw [h] at c1
    rw [if_pos rfl]
    refine aM Tryz.func35 rfl rfl (nb rfl) rfl ?_
    repeat' (first | refine aE ?_ | (refine aH ?_; first | refine aC tabOk rfl rfl rfl (nb rfl) rfl ?_ | refine bD rfl rfl (nb rfl) ?_ | (refine aK rfl rfl rfl (nb rfl) rfl rfl rfl (fun hq => ?_) (fun hq => ?_) <;> (first | (simp only [sD, sE, sB, sC, sN, sM, sT, sF] at hq; try (exfalso; omega)) | skip))| refine aI rfl rfl (nb rfl) rfl rfl rfl rfl (c1) ?_ | refine aI rfl rfl (nb rfl) rfl rfl rfl rfl (c2) ?_ | refine bK rfl rfl rfl (nb rfl) rfl rfl (by omega) ?_ | refine cG rfl rfl rfl (nb rfl) rfl rfl rfl (by omega) (by omega) ?_ | refine bY rfl rfl rfl (nb rfl) rfl rfl rfl (by omega) (by omega) ?_ | refine bV tabOk rfl rfl rfl (nb rfl) rfl rfl rfl rfl rfl rfl rfl rfl rfl ?_ | refine aU tabOk rfl rfl (nb rfl) rfl ?_ | refine cC tabOk rfl rfl rfl (nb rfl) rfl rfl rfl rfl rfl rfl ?_ | refine bT tabOk rfl rfl rfl (nb rfl) rfl rfl rfl rfl ?_ | refine bM tabOk rfl rfl rfl rfl rfl rfl rfl rfl rfl rfl rfl ?_ | refine bI tabOk rfl rfl rfl (nb rfl) rfl rfl rfl rfl (by first | assumption | omega) ?_ | refine bG tabOk rfl rfl rfl (nb rfl) rfl rfl rfl rfl (by first | rfl | omega) (by first | omega | simp) ?_ | refine aV tabOk rfl rfl rfl (nb rfl) rfl rfl rfl (by assumption) ?_ | refine aV tabOk rfl rfl rfl (nb rfl) rfl rfl rfl (bZ _ _ (by first | assumption | omega)) ?_ | refine bK rfl rfl rfl (nb rfl) rfl rfl (by omega) ?_ | ((fail_if_success (refine bW (b := true) rfl rfl rfl ?_)); (fail_if_success (refine bW (b := false) rfl rfl rfl ?_)); refine cE rfl rfl rfl (fun hq => ?_) (fun hq => ?_) <;> first | subst hq | (first | (simp only [sD, sE, sB, sC, sN, sM, sT, sF] at hq; try (exfalso; omega)) | skip)) | fail) | (refine aN ?_; first | refine aG ?_ | refine aQ ?_ | refine bF ?_ | refine aX ?_ | refine aT ?_ | refine bS ?_ | refine aW ?_ | refine aA (b := true) rfl (fun _ => ?_) nTf | refine aA (b := false) rfl nFt (fun _ => ?_) | refine cK ?_ | refine cJ ?_ | refine cL mixed (by kernel_rfl) ?_ | refine bC mixed (by kernel_rfl) ?_ | (refine aA rfl (fun hq => ?_) (fun hq => ?_) <;> first | subst hq | (first | (simp only [sD, sE, sB, sC, sN, sM, sT, sF] at hq; try (exfalso; omega)) | skip)) | fail) | (refine aJ ?_; first | refine bB ?_ | refine bJ ?_ | refine aR ?_ | fail) | (refine aY ?_; first | refine bR ?_ | refine bH ?_ | refine cB (by decide) ?_ | refine bE ?_ | fail) | refine bU (bQ (by kernel_rfl)) ?_ | fail)
    all_goals (refine bA (by first | exact .inl rfl | exact .inr rfl) (aZ rfl (aD rfl)) rfl ?_; rfl)
  | false =>
    rw [h] at c1
    rw [if_neg (by simp)]
    refine aM Tryz.func35 rfl rfl (nb rfl) rfl ?_
    repeat' (first | refine aE ?_ | (refine aH ?_; first | refine aC tabOk rfl rfl rfl (nb rfl) rfl ?_ | refine bD rfl rfl (nb rfl) ?_ | (refine aK rfl rfl rfl (nb rfl) rfl rfl rfl (fun hq => ?_) (fun hq => ?_) <;> (first | (simp only [sD, sE, sB, sC, sN, sM, sT, sF] at hq; try (exfalso; omega)) | skip))| refine aI rfl rfl (nb rfl) rfl rfl rfl rfl (c1) ?_ | refine aI rfl rfl (nb rfl) rfl rfl rfl rfl (c2) ?_ | refine bK rfl rfl rfl (nb rfl) rfl rfl (by omega) ?_ | refine cG rfl rfl rfl (nb rfl) rfl rfl rfl (by omega) (by omega) ?_ | refine bY rfl rfl rfl (nb rfl) rfl rfl rfl (by omega) (by omega) ?_ | refine bV tabOk rfl rfl rfl (nb rfl) rfl rfl rfl rfl rfl rfl rfl rfl rfl ?_ | refine aU tabOk rfl rfl (nb rfl) rfl ?_ | refine cC tabOk rfl rfl rfl (nb rfl) rfl rfl rfl rfl rfl rfl ?_ | refine bT tabOk rfl rfl rfl (nb rfl) rfl rfl rfl rfl ?_ | refine bM tabOk rfl rfl rfl rfl rfl rfl rfl rfl rfl rfl rfl ?_ | refine bI tabOk rfl rfl rfl (nb rfl) rfl rfl rfl rfl (by first | assumption | omega) ?_ | refine bG tabOk rfl rfl rfl (nb rfl) rfl rfl rfl rfl (by first | rfl | omega) (by first | omega | simp) ?_ | refine aV tabOk rfl rfl rfl (nb rfl) rfl rfl rfl (by assumption) ?_ | refine aV tabOk rfl rfl rfl (nb rfl) rfl rfl rfl (bZ _ _ (by first | assumption | omega)) ?_ | refine bK rfl rfl rfl (nb rfl) rfl rfl (by omega) ?_ | ((fail_if_success (refine bW (b := true) rfl rfl rfl ?_)); (fail_if_success (refine bW (b := false) rfl rfl rfl ?_)); refine cE rfl rfl rfl (fun hq => ?_) (fun hq => ?_) <;> first | subst hq | (first | (simp only [sD, sE, sB, sC, sN, sM, sT, sF] at hq; try (exfalso; omega)) | skip)) | fail) | (refine aN ?_; first | refine aG ?_ | refine aQ ?_ | refine bF ?_ | refine aX ?_ | refine aT ?_ | refine bS ?_ | refine aW ?_ | refine aA (b := true) rfl (fun _ => ?_) nTf | refine aA (b := false) rfl nFt (fun _ => ?_) | refine cK ?_ | refine cJ ?_ | refine cL mixed (by kernel_rfl) ?_ | refine bC mixed (by kernel_rfl) ?_ | (refine aA rfl (fun hq => ?_) (fun hq => ?_) <;> first | subst hq | (first | (simp only [sD, sE, sB, sC, sN, sM, sT, sF] at hq; try (exfalso; omega)) | skip)) | fail) | (refine aJ ?_; first | refine bB ?_ | refine bJ ?_ | refine aR ?_ | fail) | (refine aY ?_; first | refine bR ?_ | refine bH ?_ | refine cB (by decide) ?_ | refine bE ?_ | fail) | refine bU (bQ (by kernel_rfl)) ?_ | fail)
    all_goals (refine bA (by first | exact .inl rfl | exact .inr rfl) (aZ rfl (rA (aD rfl))) rfl ?_; rfl)
end Go.Proofs.YtlbemgokilhdnaaGreatDoor.Ab
namespace Go.Proofs.YtlbemgokilhdnaaGreatDoor.Ab
set_option linter.unusedVariables false
set_option linter.unusedSimpArgs false
open Go.RowKit Go.Proofs.YtlbemgokilhdnaaGreatDoor.RP
attribute [local irreducible] AWP AOps AExit AThen ABlock ANoGoto FeetOk
theorem cS (a b : ByteArray) : (a ++ b).size = a.size + b.size := by rw [← eH, ByteArray.data_append, Array.toList_append, List.length_append, eH, eH]
theorem nO (s : ByteArray) : (splitP s).length ≤ s.size + 1 ∧ ∀ p ∈ splitP s, p.size ≤ s.size := by
  unfold splitP
  split
  · exact ⟨iK s, jU s⟩
  · exact ⟨by simp, by simp⟩
theorem zI (s : ByteArray) (h : longP s = true) : splitP s ≠ [] := by
  unfold splitP pcsB
  rw [if_pos h]
  intro e
  exact uW _ (List.map_eq_nil_iff.1 e)
/-- The label that is asked for: the last name's of a space, the others' of modules. -/
def labS (space : ByteArray) (last : Bool) (s : ByteArray) : ByteArray := if last then (space ++ ⟨#[58]⟩) ++ s else ⟨#[109, 58]⟩ ++ s
def atS (space : ByteArray) : List ByteArray → Tree → Tree × Int
  | [], t => (t, 0)
  | s :: ss, t => if (fieldP (labS space ss.isEmpty s) t.kids).2 = true then atS space ss (fieldP (labS space ss.isEmpty s) t.kids).1 else (.nil, 8)
def spOk (space : ByteArray) : Bool := eqB space ⟨#[118]⟩ || eqB space ⟨#[116]⟩ || eqB space ⟨#[109]⟩
def sAtP (t : Tree) (space long : ByteArray) : Tree × Int :=
  if checkP sformP t ≠ 0 then (.nil, checkP sformP t) else if (isSigP t && spOk space) = false then (.nil, 16) else if longP long = false then (.nil, 2) else atS space (splitP long) t
theorem zJ (space s : ByteArray) : labS space true s = (space ++ ⟨#[58]⟩) ++ s := by unfold labS; rw [if_pos rfl]
theorem zK (space s : ByteArray) : labS space false s = ⟨#[109, 58]⟩ ++ s := by unfold labS; rw [if_neg (by simp)]
theorem nP (l : List ByteArray) (j : Nat) (h : j < l.length) : (l.drop (j + 1)).isEmpty = decide (j + 1 = l.length) := by
  by_cases e : j + 1 = l.length
  · rw [decide_eq_true e, e, List.drop_length]; rfl
  · rw [decide_eq_false e, List.isEmpty_eq_false_iff]
    intro h0
    have := congrArg List.length h0
    rw [List.length_drop, List.length_nil] at this
    omega
set_option maxHeartbeats 4000000 in
set_option maxRecDepth 10000 in
theorem xK (t : Tree) (label : ByteArray) (hw : t.whole = true) : ACalls Tryz.prog 37 [.imm t.iv, .obj 1001 0] [(1001, .cells [.imm (.lit (.string label))])] (.imm (.lit (.bool (isLab label t)))) [(1001, .cells [.imm (.lit (.string label))])] := by
  obtain ⟨k, n, a, b, kids, rfl⟩ := cN hw
  have e : isLab label (.node k n a b kids) = (decide (k = 163) && eqB a label) := rfl
  rw [e]
  refine dH [1001] Tryz.func37 rfl rfl (nb rfl) rfl rfl ?_
  repeat' (first | refine aE ?_ | (refine aH ?_;  first | refine aC tabOk rfl rfl rfl (nb rfl) rfl ?_ | refine bD rfl rfl (nb rfl) ?_ | (refine aK rfl rfl rfl (nb rfl) rfl rfl rfl (fun hq => ?_) (fun hq => ?_) <;> (first | (simp only [sD, sE, sB, sC, sN, sM, sT, sF] at hq; try (exfalso; omega)) | skip)) | refine bT tabOk rfl rfl rfl (nb rfl) rfl rfl rfl rfl ?_) | (refine aN ?_;  first | refine aG ?_ | refine aQ ?_ | refine aT ?_ | refine bC mixed (by kernel_rfl) ?_) | (refine aJ ?_;  first | refine bB ?_) | refine bU (bQ (by kernel_rfl)) ?_)
  all_goals (refine dN (dM (by first | exact .inl rfl | exact .inr rfl) (aZ rfl (aD rfl)) rfl (by repeat' first | exact trivial | refine ⟨rfl, ?_⟩) rfl ?_); refine cM ?_; simp_all [eqB])
set_option maxHeartbeats 16000000 in
set_option maxRecDepth 10000 in
theorem At_a (t : Tree) (space long : ByteArray) (hs : t.size ≤ 100000) (hp : space.size ≤ 100000) (hl : long.size ≤ 100000) : ACalls Tryz.prog 10 [.imm t.iv, .imm (.lit (.string space)), .imm (.lit (.string long))] [] (.imm (.tup [(sAtP t space long).1.iv, .lit (.int .i64 (sAtP t space long).2)])) [] := by
  have c1 := mW t (by omega)
  obtain ⟨Q, hQ⟩ : ∃ Q, sAtP t space long = Q := ⟨_, rfl⟩
  rw [hQ]
  unfold sAtP at hQ
  by_cases hc : checkP sformP t = 0
  · rw [if_neg (by simpa using hc)] at hQ
    rw [hc] at c1
    obtain ⟨hw, hz, _⟩ := cT hc
    have c2 := iW t hw (by omega)
    cases hsig : isSigP t with
    | false =>
      rw [hsig] at c2 hQ
      rw [Bool.false_and, if_pos rfl] at hQ
      subst hQ
      refine aM Tryz.func10 rfl rfl (nb rfl) rfl ?_
      repeat' (first | refine aE ?_ | (refine aH ?_;  first | refine aC tabOk rfl rfl rfl (nb rfl) rfl ?_ | refine bD rfl rfl (nb rfl) ?_ | (refine aK rfl rfl rfl (nb rfl) rfl rfl rfl (fun hq => ?_) (fun hq => ?_) <;> (first | (simp only [sD, sE, sB, sC, sN, sM, sT, sF] at hq; try (exfalso; omega)) | skip)) | refine aI rfl rfl (nb rfl) rfl rfl rfl rfl (c1) ?_ | refine aI rfl rfl (nb rfl) rfl rfl rfl rfl (c2) ?_) | (refine aN ?_;  first | refine aG ?_ | refine aQ ?_ | refine aX ?_ | refine aT ?_ | refine aW ?_ | refine aA (b := true) rfl (fun _ => ?_) nTf | refine aA (b := false) rfl nFt (fun _ => ?_)) | (refine aJ ?_;  first | refine bB ?_ | refine aR ?_) | (refine aY ?_;  first | refine bE ?_))
      all_goals first
        | exact absurd rfl (by assumption)
        | (refine bA (by first | exact .inl rfl | exact .inr rfl) (bP rfl (aD rfl) (aD rfl)) rfl ?_; rfl)
    | true =>
      rw [hsig] at c2 hQ
      rw [Bool.true_and] at hQ
      cases hsp : spOk space with
      | false =>
        rw [hsp] at hQ
        rw [if_pos rfl] at hQ
        subst hQ
        unfold spOk at hsp
        refine aM Tryz.func10 rfl rfl (nb rfl) rfl ?_
        repeat' (first | refine aE ?_ | (refine aH ?_;  first | refine aC tabOk rfl rfl rfl (nb rfl) rfl ?_ | refine bD rfl rfl (nb rfl) ?_ | (refine aK rfl rfl rfl (nb rfl) rfl rfl rfl (fun hq => ?_) (fun hq => ?_) <;> (first | (simp only [sD, sE, sB, sC, sN, sM, sT, sF] at hq; try (exfalso; omega)) | skip)) | refine aI rfl rfl (nb rfl) rfl rfl rfl rfl (c1) ?_ | refine aI rfl rfl (nb rfl) rfl rfl rfl rfl (c2) ?_) | (refine aN ?_;  first | refine aG ?_ | refine aQ ?_ | refine aX ?_ | refine aT ?_ | refine aW ?_ | refine aA (b := true) rfl (fun _ => ?_) nTf | refine aA (b := false) rfl nFt (fun _ => ?_)) | (refine aJ ?_;  first | refine bB ?_ | refine aR ?_) | (refine aY ?_;  first | refine bE ?_))
        all_goals first
          | exact absurd rfl (by assumption)
          | (refine bA (by first | exact .inl rfl | exact .inr rfl) (bP rfl (aD rfl) (aD rfl)) rfl ?_; rfl)
          | (exfalso; simp_all [eqB]; done)
      | true =>
        rw [hsp] at hQ
        rw [if_neg (by simp)] at hQ
        unfold spOk at hsp
        have c3 := vP long hl
        have c4 := zH long hl
        obtain ⟨hsl, hsz⟩ := nO long
        cases hlg : longP long with
        | false =>
          rw [hlg] at c3 hQ
          rw [if_pos rfl] at hQ
          subst hQ
          clear c4
          refine aM Tryz.func10 rfl rfl (nb rfl) rfl ?_
          repeat' (first | refine aE ?_ | (refine aH ?_;  first | refine aC tabOk rfl rfl rfl (nb rfl) rfl ?_ | refine bD rfl rfl (nb rfl) ?_ | (refine aK rfl rfl rfl (nb rfl) rfl rfl rfl (fun hq => ?_) (fun hq => ?_) <;> (first | (simp only [sD, sE, sB, sC, sN, sM, sT, sF] at hq; try (exfalso; omega)) | skip)) | refine aI rfl rfl (nb rfl) rfl rfl rfl rfl (c1) ?_ | refine aI rfl rfl (nb rfl) rfl rfl rfl rfl (c2) ?_ | refine aI rfl rfl (nb rfl) rfl rfl rfl rfl (c3) ?_) | (refine aN ?_;  first | refine aG ?_ | refine aQ ?_ | refine aX ?_ | refine aT ?_ | refine aW ?_ | refine aA (b := true) rfl (fun _ => ?_) nTf | refine aA (b := false) rfl nFt (fun _ => ?_)) | (refine aJ ?_;  first | refine bB ?_ | refine aR ?_) | (refine aY ?_;  first | refine bE ?_))
          all_goals first
            | exact absurd rfl (by assumption)
            | (exfalso; simp_all [eqB]; done)
            | (refine bA (by first | exact .inl rfl | exact .inr rfl) (bP rfl (aD rfl) (aD rfl)) rfl ?_; rfl)
        | true =>
          rw [hlg] at c3 hQ
          rw [if_neg (by simp)] at hQ
          generalize splitP long = l at *
          refine aM Tryz.func10 rfl rfl (nb rfl) rfl ?_
          repeat' (first | refine aE ?_ | (refine aH ?_;  first | refine aC tabOk rfl rfl rfl (nb rfl) rfl ?_ | refine bD rfl rfl (nb rfl) ?_ | (refine aK rfl rfl rfl (nb rfl) rfl rfl rfl (fun hq => ?_) (fun hq => ?_) <;> (first | (simp only [sD, sE, sB, sC, sN, sM, sT, sF] at hq; try (exfalso; omega)) | skip)) | refine aI rfl rfl (nb rfl) rfl rfl rfl rfl (c1) ?_ | refine aI rfl rfl (nb rfl) rfl rfl rfl rfl (c2) ?_ | refine aI rfl rfl (nb rfl) rfl rfl rfl rfl (c3) ?_ | refine aI rfl rfl (nb rfl) rfl rfl rfl rfl (c4) ?_ | refine aU tabOk rfl rfl (nb rfl) rfl ?_) | (refine aN ?_;  first | refine aG ?_ | refine aQ ?_ | refine aX ?_ | refine aT ?_ | refine aW ?_ | refine aA (b := true) rfl (fun _ => ?_) nTf | refine aA (b := false) rfl nFt (fun _ => ?_)) | (refine aJ ?_;  first | refine bB ?_ | refine aR ?_) | (refine aY ?_;  first | refine bR ?_ | refine bE ?_))
          all_goals first
            | exact absurd rfl (by assumption)
            | (exfalso; simp_all [eqB]; done)
            | skip
          all_goals (
            clear hsp
            refine cD (ι := {p : Nat × Tree // p.1 ≤ l.length ∧ isSigP p.2 = true ∧ p.2.whole = true ∧ p.2.size ≤ 100000 ∧ atS space (l.drop p.1) p.2 = Q}) (fun p => S.f ⟨[(43, .imm (.lit (.int .i64 (p.1.1 : Int)))), (42, .imm (.lit (.int .i64 (l.length : Int)))), (41, .imm (.sl false l.length (strs l))), (9, .imm (.sl false l.length (strs l))), (0, .imm p.1.2.iv), (1, .imm (.lit (.string space)))], []⟩) (fun p => l.length - p.1.1) ⟨(0, t), Nat.zero_le _, hsig, hw, hs, hQ⟩ (cA (by repeat' first | exact trivial | refine ⟨rfl, ?_⟩) (by repeat' first | exact trivial | refine ⟨rfl, ?_⟩)) ?_
            rintro ⟨⟨j, u⟩, hj, us, uw, uz, hu⟩
            dsimp only at hj us uw uz hu ⊢
            clear c1 c2 c3 c4 hw hz hsig hs hc hQ hlg
            by_cases hlt : j < l.length
            · rw [List.drop_eq_getElem_cons hlt, atS, nP l j hlt] at hu
              have hget := gG l j hlt
              have hsj := hsz _ (List.getElem_mem hlt)
              have s1 : (⟨#[109, 58]⟩ : ByteArray).size = 2 := rfl
              have s2 : (⟨#[58]⟩ : ByteArray).size = 1 := rfl
              have hf := jS us uw (labS space (decide (j + 1 = l.length)) l[j])
              have hkf := iE us
              generalize l[j] = s at *
              obtain ⟨k, n, a, b, kids, rfl⟩ := cN uw
              have hkl : kids.length < 1000000000 := by have := cI kids uw; simp only [Tree.size] at uz; omega
              change ∀ t ∈ kids, _ at hkf
              have ekk : (Tree.node k n a b kids).kids = kids := rfl
              rw [ekk] at hu hf
              have ci := fun label => pS kids 37 (.lit (.string label)) (isLab label) hkl (fun j h => xK _ label (bN uw (List.getElem_mem h)))
              by_cases hlast : j + 1 = l.length
              · rw [decide_eq_true hlast] at hu hf
                rw [zJ] at hu hf
                replace ci := ci ((space ++ ⟨#[58]⟩) ++ s)
                rcases eC ((space ++ ⟨#[58]⟩) ++ s) kids 0 with ⟨h1, h2⟩ | ⟨i, h1, h2, h3, h4⟩
                · rw [h2] at hu
                  rw [if_neg (by simp)] at hu
                  subst hu
                  generalize findP (isLab ((space ++ ⟨#[58]⟩) ++ s)) kids 0 = Z at *
                  repeat' (first | refine aE ?_ | (refine aH ?_;  first | refine aC tabOk rfl rfl rfl (nb rfl) rfl ?_ | (refine aK rfl rfl rfl (nb rfl) rfl rfl rfl (fun hq => ?_) (fun hq => ?_) <;> (first | (simp only [sD, sE, sB, sC, sN, sM, sT, sF] at hq; try (exfalso; omega)) | skip)) | refine aV tabOk rfl rfl rfl (nb rfl) rfl rfl rfl hget ?_ | refine dG rfl rfl rfl (nb rfl) rfl rfl (by first | omega | (simp only [cS]; omega)) ?_ | refine cX 1001 tabOk rfl rfl rfl (nb rfl) rfl rfl rfl rfl rfl rfl ?_ | refine cQ rfl rfl (nb rfl) rfl rfl rfl rfl ci (by repeat' first | exact trivial | refine ⟨rfl, ?_⟩) rfl (by show ([1001] : List Nat).Nodup; decide) ?_ | refine bY rfl rfl rfl (nb rfl) rfl rfl rfl (by omega) (by omega) ?_ | refine aU tabOk rfl rfl (nb rfl) rfl ?_ | refine bM tabOk rfl rfl rfl rfl rfl rfl rfl rfl rfl rfl rfl ?_ | refine bI tabOk rfl rfl rfl (nb rfl) rfl rfl rfl rfl (by first | assumption | omega) ?_) | (refine aN ?_;  first | refine aG ?_ | refine aQ ?_ | refine bF ?_ | refine aX ?_ | refine aT ?_ | refine aW ?_ | refine aA (b := true) rfl (fun _ => ?_) nTf) | (refine aJ ?_;  first | refine bB ?_ | refine aR ?_) | (refine aY ?_;  first | refine bE ?_))
                  all_goals first
                    | (exfalso; omega)
                    | (refine bA (by first | exact .inl rfl | exact .inr rfl) (bP rfl (aD rfl) (aD rfl)) rfl ?_; rfl)
                · rw [h3] at hu hf
                  rw [if_pos rfl] at hu
                  rw [h2, Nat.add_zero] at ci
                  obtain ⟨g1, g2, g3⟩ := hf rfl
                  dsimp only at hu g1 g2 g3
                  have hm := List.getElem_mem h1
                  unfold isLab at h4
                  rw [Bool.and_eq_true, decide_eq_true_eq] at h4
                  obtain ⟨n', a', b', c, e⟩ := hkf _ hm h4.1
                  have hget2 := bZ kids i h1
                  rw [e] at hget2 hu g1 g2 g3
                  dsimp only [kid0] at hu g1 g2 g3
                  clear h2 h3 h4 e hm hf hkf
                  repeat' (first | refine aE ?_ | (refine aH ?_;  first | refine aC tabOk rfl rfl rfl (nb rfl) rfl ?_ | (refine aK rfl rfl rfl (nb rfl) rfl rfl rfl (fun hq => ?_) (fun hq => ?_) <;> (first | (simp only [sD, sE, sB, sC, sN, sM, sT, sF] at hq; try (exfalso; omega)) | skip)) | refine aV tabOk rfl rfl rfl (nb rfl) rfl rfl rfl hget ?_ | refine dG rfl rfl rfl (nb rfl) rfl rfl (by first | omega | (simp only [cS]; omega)) ?_ | refine aV tabOk rfl rfl rfl (nb rfl) rfl rfl rfl hget2 ?_ | refine cX 1001 tabOk rfl rfl rfl (nb rfl) rfl rfl rfl rfl rfl rfl ?_ | refine cQ rfl rfl (nb rfl) rfl rfl rfl rfl ci (by repeat' first | exact trivial | refine ⟨rfl, ?_⟩) rfl (by show ([1001] : List Nat).Nodup; decide) ?_ | refine bK rfl rfl rfl (nb rfl) rfl rfl (by omega) ?_ | refine bY rfl rfl rfl (nb rfl) rfl rfl rfl (by omega) (by omega) ?_ | refine aU tabOk rfl rfl (nb rfl) rfl ?_ | refine bM tabOk rfl rfl rfl rfl rfl rfl rfl rfl rfl rfl rfl ?_ | refine bI tabOk rfl rfl rfl (nb rfl) rfl rfl rfl rfl (by first | assumption | omega) ?_ | refine bG tabOk rfl rfl rfl (nb rfl) rfl rfl rfl rfl (by first | rfl | omega) (by first | omega | simp) ?_) | (refine aN ?_;  first | refine aG ?_ | refine aQ ?_ | refine bF ?_ | refine aX ?_ | refine aW ?_ | refine aA (b := true) rfl (fun _ => ?_) nTf | refine aA (b := false) rfl nFt (fun _ => ?_)) | (refine aJ ?_;  first | refine bB ?_) | (refine aY ?_;  first | refine bR ?_))
                  all_goals first
                    | (exfalso; omega)
                    | exact ⟨⟨(j + 1, c), hlt, g1, g2, Nat.le_trans (Nat.le_of_lt g3) uz, hu⟩, (by show l.length - (j + 1) < l.length - j; omega), (cA (by repeat' first | exact trivial | refine ⟨rfl, ?_⟩) (by repeat' first | exact trivial | refine ⟨rfl, ?_⟩))⟩
              · rw [decide_eq_false hlast] at hu hf
                rw [zK] at hu hf
                replace ci := ci (⟨#[109, 58]⟩ ++ s)
                rcases eC (⟨#[109, 58]⟩ ++ s) kids 0 with ⟨h1, h2⟩ | ⟨i, h1, h2, h3, h4⟩
                · rw [h2] at hu
                  rw [if_neg (by simp)] at hu
                  subst hu
                  generalize findP (isLab (⟨#[109, 58]⟩ ++ s)) kids 0 = Z at *
                  repeat' (first | refine aE ?_ | (refine aH ?_;  first | refine aC tabOk rfl rfl rfl (nb rfl) rfl ?_ | (refine aK rfl rfl rfl (nb rfl) rfl rfl rfl (fun hq => ?_) (fun hq => ?_) <;> (first | (simp only [sD, sE, sB, sC, sN, sM, sT, sF] at hq; try (exfalso; omega)) | skip)) | refine aV tabOk rfl rfl rfl (nb rfl) rfl rfl rfl hget ?_ | refine dG rfl rfl rfl (nb rfl) rfl rfl (by first | omega | (simp only [cS]; omega)) ?_ | refine cX 1001 tabOk rfl rfl rfl (nb rfl) rfl rfl rfl rfl rfl rfl ?_ | refine cQ rfl rfl (nb rfl) rfl rfl rfl rfl ci (by repeat' first | exact trivial | refine ⟨rfl, ?_⟩) rfl (by show ([1001] : List Nat).Nodup; decide) ?_ | refine bY rfl rfl rfl (nb rfl) rfl rfl rfl (by omega) (by omega) ?_ | refine aU tabOk rfl rfl (nb rfl) rfl ?_ | refine bM tabOk rfl rfl rfl rfl rfl rfl rfl rfl rfl rfl rfl ?_ | refine bI tabOk rfl rfl rfl (nb rfl) rfl rfl rfl rfl (by first | assumption | omega) ?_) | (refine aN ?_;  first | refine aG ?_ | refine aQ ?_ | refine aX ?_ | refine aT ?_ | refine aW ?_ | refine aA (b := true) rfl (fun _ => ?_) nTf | refine aA (b := false) rfl nFt (fun _ => ?_)) | (refine aJ ?_;  first | refine bB ?_ | refine aR ?_) | (refine aY ?_;  first | refine bE ?_))
                  all_goals first
                    | (exfalso; omega)
                    | (refine bA (by first | exact .inl rfl | exact .inr rfl) (bP rfl (aD rfl) (aD rfl)) rfl ?_; rfl)
                · rw [h3] at hu hf
                  rw [if_pos rfl] at hu
                  rw [h2, Nat.add_zero] at ci
                  obtain ⟨g1, g2, g3⟩ := hf rfl
                  dsimp only at hu g1 g2 g3
                  have hm := List.getElem_mem h1
                  unfold isLab at h4
                  rw [Bool.and_eq_true, decide_eq_true_eq] at h4
                  obtain ⟨n', a', b', c, e⟩ := hkf _ hm h4.1
                  have hget2 := bZ kids i h1
                  rw [e] at hget2 hu g1 g2 g3
                  dsimp only [kid0] at hu g1 g2 g3
                  clear h2 h3 h4 e hm hf hkf
                  repeat' (first | refine aE ?_ | (refine aH ?_;  first | refine aC tabOk rfl rfl rfl (nb rfl) rfl ?_ | (refine aK rfl rfl rfl (nb rfl) rfl rfl rfl (fun hq => ?_) (fun hq => ?_) <;> (first | (simp only [sD, sE, sB, sC, sN, sM, sT, sF] at hq; try (exfalso; omega)) | skip)) | refine aV tabOk rfl rfl rfl (nb rfl) rfl rfl rfl hget ?_ | refine dG rfl rfl rfl (nb rfl) rfl rfl (by first | omega | (simp only [cS]; omega)) ?_ | refine aV tabOk rfl rfl rfl (nb rfl) rfl rfl rfl hget2 ?_ | refine cX 1001 tabOk rfl rfl rfl (nb rfl) rfl rfl rfl rfl rfl rfl ?_ | refine cQ rfl rfl (nb rfl) rfl rfl rfl rfl ci (by repeat' first | exact trivial | refine ⟨rfl, ?_⟩) rfl (by show ([1001] : List Nat).Nodup; decide) ?_ | refine bK rfl rfl rfl (nb rfl) rfl rfl (by omega) ?_ | refine bY rfl rfl rfl (nb rfl) rfl rfl rfl (by omega) (by omega) ?_ | refine aU tabOk rfl rfl (nb rfl) rfl ?_ | refine bM tabOk rfl rfl rfl rfl rfl rfl rfl rfl rfl rfl rfl ?_ | refine bI tabOk rfl rfl rfl (nb rfl) rfl rfl rfl rfl (by first | assumption | omega) ?_ | refine bG tabOk rfl rfl rfl (nb rfl) rfl rfl rfl rfl (by first | rfl | omega) (by first | omega | simp) ?_) | (refine aN ?_;  first | refine aG ?_ | refine aQ ?_ | refine bF ?_ | refine aX ?_ | refine aW ?_ | refine aA (b := true) rfl (fun _ => ?_) nTf | refine aA (b := false) rfl nFt (fun _ => ?_)) | (refine aJ ?_;  first | refine bB ?_) | (refine aY ?_;  first | refine bR ?_))
                  all_goals first
                    | (exfalso; omega)
                    | exact ⟨⟨(j + 1, c), hlt, g1, g2, Nat.le_trans (Nat.le_of_lt g3) uz, hu⟩, (by show l.length - (j + 1) < l.length - j; omega), (cA (by repeat' first | exact trivial | refine ⟨rfl, ?_⟩) (by repeat' first | exact trivial | refine ⟨rfl, ?_⟩))⟩
            · have ej : j = l.length := by omega
              subst ej
              rw [List.drop_length, atS] at hu
              subst hu
              obtain ⟨pu, hpu⟩ := dF (cR uw)
              dsimp only
              rw [hpu]
              repeat' (first | refine aE ?_ | (refine aH ?_;  first | refine aC tabOk rfl rfl rfl (nb rfl) rfl ?_ | (refine aK rfl rfl rfl (nb rfl) rfl rfl rfl (fun hq => ?_) (fun hq => ?_) <;> (first | (simp only [sD, sE, sB, sC, sN, sM, sT, sF] at hq; try (exfalso; omega)) | skip))) | (refine aN ?_;  first | refine aG ?_ | refine aQ ?_ | refine aT ?_ | refine bS ?_ | refine aA (b := false) rfl nFt (fun _ => ?_)) | (refine aJ ?_;  first | refine bB ?_ | refine bJ ?_) | (refine aY ?_;  first | refine bH ?_))
              all_goals first
                | (exfalso; omega)
                | (refine bA (by first | exact .inl rfl | exact .inr rfl) (bP rfl (aD rfl) (aD rfl)) rfl ?_; rfl))
  · rw [if_pos hc] at hQ
    subst hQ
    generalize checkP sformP t = C at *
    refine aM Tryz.func10 rfl rfl (nb rfl) rfl ?_
    repeat' (first | refine aE ?_ | (refine aH ?_;  first | refine aC tabOk rfl rfl rfl (nb rfl) rfl ?_ | (refine aK rfl rfl rfl (nb rfl) rfl rfl rfl (fun hq => ?_) (fun hq => ?_) <;> (first | (simp only [sD, sE, sB, sC, sN, sM, sT, sF] at hq; try (exfalso; omega)) | skip)) | refine aI rfl rfl (nb rfl) rfl rfl rfl rfl (c1) ?_) | (refine aN ?_;  first | refine aG ?_ | refine aQ ?_ | refine aT ?_ | refine aA (b := true) rfl (fun _ => ?_) nTf) | (refine aJ ?_;  first | refine aR ?_))
    all_goals first
      | exact absurd rfl (by assumption)
      | exact absurd (by assumption) hc
      | (refine bA (by first | exact .inl rfl | exact .inr rfl) (bP rfl (aD rfl) (aD rfl)) rfl ?_; rfl)
end Go.Proofs.YtlbemgokilhdnaaGreatDoor.Ab
namespace Go.Proofs.YtlbemgokilhdnaaGreatDoor.Ab
set_option linter.unusedVariables false
set_option linter.unusedSimpArgs false
open Go.RowKit Go.Lib Go.Proofs.YtlbemgokilhdnaaGreatDoorW.PrintWords Go.Proofs.YtlbemgokilhdnaaGreatDoorW.PrintLast Go.Proofs.YtlbemgokilhdnaaGreatDoorW.PrintMore Go.Proofs.YtlbemgokilhdnaaGreatDoor.RP Go.Proofs.YtlbemgokilhdnaaGreatDoor.RW Go.Proofs.YtlbemgokilhdnaaGreatDoor.PAll
/-- Texts, one behind the other, a separator between. -/
def joinS (sep : ByteArray) (l : List ByteArray) : ByteArray := ⟨(Lib.join (l.map (·.data.toList)) sep.data.toList).toArray⟩
theorem aAG (f : Bool) (l : List ByteArray) (sep : ByteArray) (hl : l.length ≤ 1000000) (hs : (joinS sep l).size ≤ 140737488355328) : ACalls Tryz.prog 93 [.imm (.sl f l.length (strs l)), .imm (.lit (.string sep))] [] (.imm (.lit (.string (joinS sep l)))) [] :=
  kR (args := [.sl f l.length (strs l), .lit (.string sep)]) (r := .lit (.string (joinS sep l))) ⟨_, Tryz.func93, rfl, rfl⟩ (fun w M vs ha hv => by
    obtain ⟨v, us, rfl, h1, h2⟩ := fY hv
    obtain ⟨v2, us, rfl, h3, h4⟩ := fY h2
    rw [lW h3, mP h4]
    obtain ⟨a, cap, rfl, hc, hn, h⟩ := yI h1
    have hj : (Lib.join (l.map (·.data.toList)) sep.data.toList).length ≤ 140737488355328 := by
      have e2 : (joinS sep l).size = (Lib.join (l.map (·.data.toList)) sep.data.toList).length := by rw [← eH]; rfl
      rw [← e2]; exact hs
    rcases h with rfl | ⟨b, o, rfl, hb, hcells⟩
    · refine (Tryz.strings_Join_none a cap sep w).mono fun e w' ⟨he, hw⟩ => ⟨_, he, ?_, ?_⟩
      · rw [hw]; exact Below.refl _ _
      · exact gP rfl
    · refine (Tryz.strings_Join b o cap l sep w hcells hb (by omega) hc hj).mono fun e w' ⟨he, hw⟩ => ⟨_, he, hw, ?_⟩
      exact gP rfl)
end Go.Proofs.YtlbemgokilhdnaaGreatDoor.Ab
