/- Words, walks and laws under the claim's statement: what it uses of them. No condition of its own. -/
import Derived.Test.YtlbemgokilhdnaaGreatGVL2
import Derived.Test.YtlbemgokilhdnaaGreatGVL1
import Derived.Test.YtlbemgokilhdnaaGreatGVP0
import Derived.Laws.BytesArg
import Derived.Test.YtlbemgokilhdnaaGreatGVS0
import Derived.Test.YtlbemgokilhdnaaGreatGVAb1
import Derived.Test.YtlbemgokilhdnaaGreatGVAb0
import Derived.Test.YtlbemgokilhdnaaGreatGVL0
namespace Go.Proofs.YtlbemgokilhdnaaGreat.Ab
set_option linter.unusedVariables false
set_option linter.unusedSimpArgs false
open Go.RowKit
attribute [local irreducible] AWP AOps AExit AThen ABlock ANoGoto FeetOk
/-- Types that are trees, not too large. -/
def okT (ts : List Tree) : Prop := ∀ T ∈ ts, T.whole = true ∧ T.size ≤ 100000000
section
variable (kl tl : Nat) (KI TI : List IV)
set_option maxHeartbeats 8000000 in
set_option maxRecDepth 10000 in
theorem aCu (n : Int) (a b : ByteArray) (kids : List Tree) (ts : List Tree) (hts : okT ts) (hn : 0 ≤ n) :
    ACalls Tryz.prog 45 [.imm (.agg [.sl false kl KI, .sl false ts.length (Tree.ivs ts)]), .imm (Tree.iv (.node 130 n a b kids))] [] (.imm (.tup [(if n ≥ (ts.length : Int) then (.nil, 8) else normalP 1000 (ts.getD n.toNat .nil)).1.iv, .lit (.int .i64 (if n ≥ (ts.length : Int) then (.nil, 8) else normalP 1000 (ts.getD n.toNat .nil)).2)])) [] := by
  obtain ⟨j, rfl⟩ := Int.eq_ofNat_of_zero_le hn
  rw [Tree.iv]
  generalize Tree.ivs kids = Z at *
  by_cases h : j < ts.length
  · rw [if_neg (show ¬ ((j : Int) ≥ (ts.length : Int)) by omega)]
    have e : ts.getD (j : Int).toNat .nil = ts[j] := by rw [Int.toNat_natCast, List.getD_eq_getElem?_getD, List.getElem?_eq_getElem h]; rfl
    rw [e]
    have hget := cQ ts j h
    have c1 := lW ts[j] (hts _ (List.getElem_mem h)).2
    generalize normalP 1000 ts[j] = Q at *
    obtain ⟨Q1, Q2⟩ := Q
    dsimp only at *
    generalize Q1.iv = qi at *
    generalize ts[j].iv = ti at *
    generalize Tree.ivs ts = TI at *
    clear hts e
    refine aJ Tryz.func45 rfl rfl (nb rfl) rfl ?_
    repeat' (first | refine aG ?_ | (refine aI ?_;  first | refine aC tabOk rfl rfl rfl (nb rfl) rfl ?_ | (refine aK rfl rfl rfl (nb rfl) rfl rfl rfl (fun hq => ?_) (fun hq => ?_) <;> (first | (simp only [sD, sE, sB, sC, sN, sM, sT, sF] at hq; try (exfalso; omega)) | skip)) | refine bN tabOk rfl rfl rfl (nb rfl) rfl rfl rfl hget ?_ | refine aE rfl rfl (nb rfl) rfl rfl rfl rfl (c1) ?_ | refine aZ tabOk rfl rfl (nb rfl) rfl ?_ | refine bI tabOk rfl rfl rfl (nb rfl) rfl rfl rfl rfl (by first | assumption | omega) ?_) | (refine aN ?_;  first | refine aH ?_ | refine aQ ?_ | refine aW ?_ | refine aR ?_ | refine aY ?_ | refine aD (b := true) rfl (fun _ => ?_) nTf | refine aD (b := false) rfl nFt (fun _ => ?_) | refine aX mixed (by kernel_rfl) ?_) | (refine aM ?_;  first | refine bA ?_ | refine aU ?_) | (refine aV ?_;  first | refine bD ?_) | refine bG (bF (by kernel_rfl)) ?_)
    all_goals first | (exfalso; omega) | exact absurd rfl (by assumption) | (refine aT (by first | exact .inl rfl | exact .inr rfl) (bB rfl (aA rfl) (aA rfl)) rfl ?_; rfl)
  · rw [if_pos (show (j : Int) ≥ (ts.length : Int) by omega)]
    generalize Tree.ivs ts = TI at *
    clear hts
    generalize ts.length = tl at *
    refine aJ Tryz.func45 rfl rfl (nb rfl) rfl ?_
    repeat' (first | refine aG ?_ | (refine aI ?_;  first | refine aC tabOk rfl rfl rfl (nb rfl) rfl ?_ | (refine aK rfl rfl rfl (nb rfl) rfl rfl rfl (fun hq => ?_) (fun hq => ?_) <;> (first | (simp only [sD, sE, sB, sC, sN, sM, sT, sF] at hq; try (exfalso; omega)) | skip)) | refine aZ tabOk rfl rfl (nb rfl) rfl ?_) | (refine aN ?_;  first | refine aH ?_ | refine aQ ?_ | refine aW ?_ | refine aR ?_ | refine aD (b := true) rfl (fun _ => ?_) nTf | refine aX mixed (by kernel_rfl) ?_) | (refine aM ?_;  first | refine bA ?_ | refine aU ?_) | (refine aV ?_;  first | refine bD ?_) | refine bG (bF (by kernel_rfl)) ?_)
    all_goals first | (exfalso; omega) | exact absurd rfl (by assumption) | (refine aT (by first | exact .inl rfl | exact .inr rfl) (bB rfl (aA rfl) (aA rfl)) rfl ?_; rfl)
set_option maxHeartbeats 8000000 in
set_option maxRecDepth 10000 in
theorem tT (k c : Int) (hk : k = 131 ∧ c = 111 ∨ k = 132 ∧ c = 112 ∨ k = 133 ∧ c = 113) (n : Int) (a b : ByteArray) (kids : List Tree) :
    ACalls Tryz.prog 45 [.imm (IV.agg [.sl false kl KI, .sl false tl TI]), .imm (Tree.iv (.node k n a b kids))] [] (.imm (.tup [(tyT c []).iv, .lit (.int .i64 0)])) [] := by
  have c1 := xX c
  rw [Tree.iv]
  generalize Tree.ivs kids = Z at *
  generalize (tyT c []).iv = ti at *
  rcases hk with ⟨rfl, rfl⟩ | ⟨rfl, rfl⟩ | ⟨rfl, rfl⟩
  · refine aJ Tryz.func45 rfl rfl (nb rfl) rfl ?_
    repeat' (first | refine aG ?_ | (refine aI ?_;  first | refine aC tabOk rfl rfl rfl (nb rfl) rfl ?_ | (refine aK rfl rfl rfl (nb rfl) rfl rfl rfl (fun hq => ?_) (fun hq => ?_) <;> (first | (simp only [sD, sE, sB, sC, sN, sM, sT, sF] at hq; try (exfalso; omega)) | skip)) | refine aE rfl rfl (nb rfl) rfl rfl rfl rfl (c1) ?_ | refine aZ tabOk rfl rfl (nb rfl) rfl ?_) | (refine aN ?_;  first | refine aH ?_ | refine aQ ?_ | refine aW ?_ | refine aR ?_ | refine aD (b := true) rfl (fun _ => ?_) nTf | refine aD (b := false) rfl nFt (fun _ => ?_)) | (refine aM ?_;  first | refine aU ?_) | (refine aV ?_;  first | refine bD ?_))
    all_goals first | (exfalso; omega) | exact absurd rfl (by assumption) | (refine aT (by first | exact .inl rfl | exact .inr rfl) (bB rfl (aA rfl) (aA rfl)) rfl ?_; rfl)
  · refine aJ Tryz.func45 rfl rfl (nb rfl) rfl ?_
    repeat' (first | refine aG ?_ | (refine aI ?_;  first | refine aC tabOk rfl rfl rfl (nb rfl) rfl ?_ | (refine aK rfl rfl rfl (nb rfl) rfl rfl rfl (fun hq => ?_) (fun hq => ?_) <;> (first | (simp only [sD, sE, sB, sC, sN, sM, sT, sF] at hq; try (exfalso; omega)) | skip)) | refine aE rfl rfl (nb rfl) rfl rfl rfl rfl (c1) ?_ | refine aZ tabOk rfl rfl (nb rfl) rfl ?_) | (refine aN ?_;  first | refine aH ?_ | refine aQ ?_ | refine aW ?_ | refine aR ?_ | refine aD (b := true) rfl (fun _ => ?_) nTf | refine aD (b := false) rfl nFt (fun _ => ?_)) | (refine aM ?_;  first | refine aU ?_) | (refine aV ?_;  first | refine bD ?_))
    all_goals first | (exfalso; omega) | exact absurd rfl (by assumption) | (refine aT (by first | exact .inl rfl | exact .inr rfl) (bB rfl (aA rfl) (aA rfl)) rfl ?_; rfl)
  · refine aJ Tryz.func45 rfl rfl (nb rfl) rfl ?_
    repeat' (first | refine aG ?_ | (refine aI ?_;  first | refine aC tabOk rfl rfl rfl (nb rfl) rfl ?_ | (refine aK rfl rfl rfl (nb rfl) rfl rfl rfl (fun hq => ?_) (fun hq => ?_) <;> (first | (simp only [sD, sE, sB, sC, sN, sM, sT, sF] at hq; try (exfalso; omega)) | skip)) | refine aE rfl rfl (nb rfl) rfl rfl rfl rfl (c1) ?_ | refine aZ tabOk rfl rfl (nb rfl) rfl ?_) | (refine aN ?_;  first | refine aH ?_ | refine aQ ?_ | refine aW ?_ | refine aR ?_ | refine aD (b := true) rfl (fun _ => ?_) nTf | refine aD (b := false) rfl nFt (fun _ => ?_)) | (refine aM ?_;  first | refine aU ?_) | (refine aV ?_;  first | refine bD ?_))
    all_goals first | (exfalso; omega) | exact absurd rfl (by assumption) | (refine aT (by first | exact .inl rfl | exact .inr rfl) (bB rfl (aA rfl) (aA rfl)) rfl ?_; rfl)
set_option maxHeartbeats 8000000 in
set_option maxRecDepth 10000 in
theorem aCv (C2 : IV) (n : Int) (a b : ByteArray) (x y : Tree) (hx : x.whole = true) (hy : y.whole = true) (A B : Tree × Int)
    (c1 : ACalls Tryz.prog 45 [.imm (IV.agg [.sl false kl KI, .sl false tl TI]), .imm x.iv] [] (.imm (.tup [(A).1.iv, .lit (.int .i64 (A).2)])) [])
    (c2 : A.2 = 0 → ACalls Tryz.prog 79 [.imm (IV.agg [.sl false kl KI, .sl false tl TI]), .imm A.1.iv] [] (.imm C2) [])
    (c3 : A.2 = 0 → ACalls Tryz.prog 45 [.imm C2, .imm y.iv] [] (.imm (.tup [(B).1.iv, .lit (.int .i64 (B).2)])) []) :
    ACalls Tryz.prog 45 [.imm (IV.agg [.sl false kl KI, .sl false tl TI]), .imm (Tree.iv (.node 143 n a b [x, y]))] [] (.imm (.tup [(let1 A B).1.iv, .lit (.int .i64 (let1 A B).2)])) [] := by
  obtain ⟨px, hpx⟩ := bT (bK hx)
  obtain ⟨py, hpy⟩ := bT (bK hy)
  rw [dK 143 n a b hpx hpy]
  rw [hpx] at c1
  rw [hpy] at c3
  unfold let1
  obtain ⟨A1, A2⟩ := A
  obtain ⟨B1, B2⟩ := B
  dsimp only at *
  by_cases h1 : A2 = 0
  · replace c2 := c2 h1
    replace c3 := c3 h1
    subst h1
    rw [if_neg (by simp)]
    dsimp only
    generalize A1.iv = ai at *
    generalize B1.iv = bi at *
    refine aJ Tryz.func45 rfl rfl (nb rfl) rfl ?_
    repeat' (first | refine aG ?_ | (refine aI ?_;  first | refine aC tabOk rfl rfl rfl (nb rfl) rfl ?_ | (refine aK rfl rfl rfl (nb rfl) rfl rfl rfl (fun hq => ?_) (fun hq => ?_) <;> (first | (simp only [sD, sE, sB, sC, sN, sM, sT, sF] at hq; try (exfalso; omega)) | skip)) | refine aE rfl rfl (nb rfl) rfl rfl rfl rfl (c1) ?_ | refine aE rfl rfl (nb rfl) rfl rfl rfl rfl (c2) ?_ | refine aE rfl rfl (nb rfl) rfl rfl rfl rfl (c3) ?_ | refine aZ tabOk rfl rfl (nb rfl) rfl ?_ | refine bE tabOk rfl rfl rfl (nb rfl) rfl rfl rfl rfl (by first | rfl | omega) (by first | omega | simp) ?_) | (refine aN ?_;  first | refine aH ?_ | refine aQ ?_ | refine aW ?_ | refine aR ?_ | refine aY ?_ | refine aD (b := true) rfl (fun _ => ?_) nTf | refine aD (b := false) rfl nFt (fun _ => ?_) | refine aX mixed (by kernel_rfl) ?_) | (refine aM ?_;  first | refine bA ?_ | refine aU ?_) | (refine aV ?_;  first | refine bD ?_) | refine bG (bF (by kernel_rfl)) ?_)
    all_goals first | (exfalso; omega) | exact absurd rfl (by assumption) | (refine aT (by first | exact .inl rfl | exact .inr rfl) (bB rfl (aA rfl) (aA rfl)) rfl ?_; rfl)
  · rw [if_pos h1]
    generalize A1.iv = ai at *
    clear c2 c3
    refine aJ Tryz.func45 rfl rfl (nb rfl) rfl ?_
    repeat' (first | refine aG ?_ | (refine aI ?_;  first | refine aC tabOk rfl rfl rfl (nb rfl) rfl ?_ | (refine aK rfl rfl rfl (nb rfl) rfl rfl rfl (fun hq => ?_) (fun hq => ?_) <;> (first | (simp only [sD, sE, sB, sC, sN, sM, sT, sF] at hq; try (exfalso; omega)) | skip)) | refine aE rfl rfl (nb rfl) rfl rfl rfl rfl (c1) ?_ | refine aZ tabOk rfl rfl (nb rfl) rfl ?_ | refine bE tabOk rfl rfl rfl (nb rfl) rfl rfl rfl rfl (by first | rfl | omega) (by first | omega | simp) ?_) | (refine aN ?_;  first | refine aH ?_ | refine aQ ?_ | refine aW ?_ | refine aR ?_ | refine aD (b := true) rfl (fun _ => ?_) nTf | refine aD (b := false) rfl nFt (fun _ => ?_) | refine aX mixed (by kernel_rfl) ?_) | (refine aM ?_;  first | refine bA ?_ | refine aU ?_) | (refine aV ?_;  first | refine bD ?_) | refine bG (bF (by kernel_rfl)) ?_)
    all_goals first | (exfalso; omega) | exact absurd rfl (by assumption) | (refine aT (by first | exact .inl rfl | exact .inr rfl) (bB rfl (aA rfl) (aA rfl)) rfl ?_; rfl)
set_option maxHeartbeats 8000000 in
set_option maxRecDepth 10000 in
theorem aBD (k n : Int) (a b : ByteArray) (kids : List Tree) (hk : k ≠ 130 ∧ k ≠ 131 ∧ k ≠ 132 ∧ k ≠ 133 ∧ k ≠ 139 ∧ k ≠ 143) (R : Tree × Int)
    (c2 : ACalls Tryz.prog (ruleF k) [.imm (IV.agg [.sl false kl KI, .sl false tl TI]), .imm (Tree.iv (.node k n a b kids))] [] (.imm (.tup [(R).1.iv, .lit (.int .i64 (R).2)])) []) :
    ACalls Tryz.prog 45 [.imm (IV.agg [.sl false kl KI, .sl false tl TI]), .imm (Tree.iv (.node k n a b kids))] [] (.imm (.tup [(R).1.iv, .lit (.int .i64 (R).2)])) [] := by
  have c1 := aCX k n a b kids
  generalize ruleF k = F at *
  generalize R.1.iv = ri at *
  rw [Tree.iv] at *
  generalize Tree.ivs kids = Z at *
  refine aJ Tryz.func45 rfl rfl (nb rfl) rfl ?_
  repeat' (first | refine aG ?_ | (refine aI ?_;  first | refine aC tabOk rfl rfl rfl (nb rfl) rfl ?_ | (refine aK rfl rfl rfl (nb rfl) rfl rfl rfl (fun hq => ?_) (fun hq => ?_) <;> (first | (simp only [sD, sE, sB, sC, sN, sM, sT, sF] at hq; try (exfalso; omega)) | skip)) | refine aE rfl rfl (nb rfl) rfl rfl rfl rfl (c1) ?_ | refine aE rfl rfl (nb rfl) rfl rfl rfl rfl (c2) ?_ | refine aZ tabOk rfl rfl (nb rfl) rfl ?_) | (refine aN ?_;  first | refine aH ?_ | refine aQ ?_ | refine aW ?_ | refine aR ?_ | refine aY ?_ | refine aD (b := false) rfl nFt (fun _ => ?_) | refine aX mixed (by kernel_rfl) ?_) | (refine aM ?_;  first | refine bA ?_) | (refine aV ?_;  first | refine bS ?_) | refine bG (bF (by kernel_rfl)) ?_)
  all_goals first | (exfalso; omega) | exact absurd rfl (by assumption) | (refine aT (by first | exact .inl rfl | exact .inr rfl) (bB rfl (aA rfl) (aA rfl)) rfl ?_; rfl)
set_option maxHeartbeats 8000000 in
set_option maxRecDepth 10000 in
theorem vQ (kl2 tl2 : Nat) (KI2 TI2 : List IV) (n : Int) (a b : ByteArray) (K x : Tree) (hK : K.whole = true) (hx : x.whole = true) (e : Int) (B : Tree × Int) (fB : fineW B)
    (c2 : ACalls Tryz.prog 78 [.imm (IV.agg [.sl false kl KI, .sl false tl TI]), .imm K.iv] [] (.imm (.tup [(IV.agg [.sl false kl2 KI2, .sl false tl2 TI2]), .lit (.int .i64 e)])) [])
    (c4 : e = 0 → ACalls Tryz.prog 45 [.imm (IV.agg [.sl false kl2 KI2, .sl false tl2 TI2]), .imm x.iv] [] (.imm (.tup [(B).1.iv, .lit (.int .i64 (B).2)])) []) :
    ACalls Tryz.prog 45 [.imm (IV.agg [.sl false kl KI, .sl false tl TI]), .imm (Tree.iv (.node 139 n a b [K, x]))] [] (.imm (.tup [(tlam1 K e B).1.iv, .lit (.int .i64 (tlam1 K e B).2)])) [] := by
  obtain ⟨px, hpx⟩ := bT (bK hx)
  obtain ⟨pK, hpK⟩ := bT (bK hK)
  rw [dK 139 n a b hpK hpx]
  rw [hpK] at c2
  rw [hpx] at c4
  unfold tlam1
  obtain ⟨B1, B2⟩ := B
  unfold fineW at fB
  dsimp only at *
  by_cases h2 : e = 0
  · replace c4 := c4 h2
    subst h2
    rw [if_neg (by simp)]
    by_cases h3 : B2 = 0
    · obtain ⟨b1, b2⟩ := fB h3
      obtain ⟨pb, hpb⟩ := bT (bK b1)
      have c5 := aBv 117 pK pb true
      subst h3
      rw [if_neg (by simp), yY 117 hpK hpb]
      rw [hpb] at c4
      clear fB b1 b2
      refine aJ Tryz.func45 rfl rfl (nb rfl) rfl ?_
      refine cU (eB 6 (by simp) rfl rfl) ?_
      repeat' (first | refine aG ?_ | (refine aI ?_;  first | refine aC tabOk rfl rfl rfl (nb rfl) rfl ?_ | (refine aK rfl rfl rfl (nb rfl) rfl rfl rfl (fun hq => ?_) (fun hq => ?_) <;> (first | (simp only [sD, sE, sB, sC, sN, sM, sT, sF] at hq; try (exfalso; omega)) | skip)) | refine dT 6 (d := 6) tabOk rfl rfl rfl (nb rfl) rfl rfl rfl rfl ?_ | refine aE rfl rfl (nb rfl) rfl rfl rfl rfl (c2) ?_ | refine aE rfl rfl (nb rfl) rfl rfl rfl rfl (c4) ?_ | refine aE rfl rfl (nb rfl) rfl rfl rfl rfl (c5) ?_ | refine cK tabOk rfl rfl rfl (nb rfl) rfl rfl rfl rfl rfl rfl rfl rfl rfl ?_ | refine aZ tabOk rfl rfl (nb rfl) rfl ?_ | refine bQ tabOk rfl rfl rfl (nb rfl) rfl rfl rfl rfl ?_ | refine bR tabOk rfl rfl rfl rfl rfl rfl rfl rfl rfl rfl rfl ?_ | refine bE tabOk rfl rfl rfl (nb rfl) rfl rfl rfl rfl (by first | rfl | omega) (by first | omega | simp) ?_) | (refine aN ?_;  first | refine aH ?_ | refine aQ ?_ | refine aW ?_ | refine aR ?_ | refine aY ?_ | refine aD (b := true) rfl (fun _ => ?_) nTf | refine aD (b := false) rfl nFt (fun _ => ?_) | refine aX mixed (by kernel_rfl) ?_) | (refine aM ?_;  first | refine bA ?_ | refine aU ?_) | (refine aV ?_;  first | refine bD ?_) | refine bG (bF (by kernel_rfl)) ?_)
      all_goals first | (exfalso; omega) | exact absurd rfl (by assumption) | (refine aT (by first | exact .inl rfl | exact .inr rfl) (bB rfl (aA rfl) (aA rfl)) rfl ?_; rfl)
    · rw [if_pos h3]
      generalize B1.iv = bi at *
      clear fB
      refine aJ Tryz.func45 rfl rfl (nb rfl) rfl ?_
      refine cU (eB 6 (by simp) rfl rfl) ?_
      repeat' (first | refine aG ?_ | (refine aI ?_;  first | refine aC tabOk rfl rfl rfl (nb rfl) rfl ?_ | (refine aK rfl rfl rfl (nb rfl) rfl rfl rfl (fun hq => ?_) (fun hq => ?_) <;> (first | (simp only [sD, sE, sB, sC, sN, sM, sT, sF] at hq; try (exfalso; omega)) | skip)) | refine dT 6 (d := 6) tabOk rfl rfl rfl (nb rfl) rfl rfl rfl rfl ?_ | refine aE rfl rfl (nb rfl) rfl rfl rfl rfl (c2) ?_ | refine aE rfl rfl (nb rfl) rfl rfl rfl rfl (c4) ?_ | refine aZ tabOk rfl rfl (nb rfl) rfl ?_ | refine bQ tabOk rfl rfl rfl (nb rfl) rfl rfl rfl rfl ?_ | refine bR tabOk rfl rfl rfl rfl rfl rfl rfl rfl rfl rfl rfl ?_ | refine bE tabOk rfl rfl rfl (nb rfl) rfl rfl rfl rfl (by first | rfl | omega) (by first | omega | simp) ?_) | (refine aN ?_;  first | refine aH ?_ | refine aQ ?_ | refine aW ?_ | refine aR ?_ | refine aY ?_ | refine aD (b := true) rfl (fun _ => ?_) nTf | refine aD (b := false) rfl nFt (fun _ => ?_) | refine aX mixed (by kernel_rfl) ?_) | (refine aM ?_;  first | refine bA ?_ | refine aU ?_) | (refine aV ?_;  first | refine bD ?_) | refine bG (bF (by kernel_rfl)) ?_)
      all_goals first | (exfalso; omega) | exact absurd rfl (by assumption) | (refine aT (by first | exact .inl rfl | exact .inr rfl) (bB rfl (aA rfl) (aA rfl)) rfl ?_; rfl)
  · rw [if_pos h2]
    clear c4 fB
    refine aJ Tryz.func45 rfl rfl (nb rfl) rfl ?_
    refine cU (eB 6 (by simp) rfl rfl) ?_
    repeat' (first | refine aG ?_ | (refine aI ?_;  first | refine aC tabOk rfl rfl rfl (nb rfl) rfl ?_ | (refine aK rfl rfl rfl (nb rfl) rfl rfl rfl (fun hq => ?_) (fun hq => ?_) <;> (first | (simp only [sD, sE, sB, sC, sN, sM, sT, sF] at hq; try (exfalso; omega)) | skip)) | refine dT 6 (d := 6) tabOk rfl rfl rfl (nb rfl) rfl rfl rfl rfl ?_ | refine aE rfl rfl (nb rfl) rfl rfl rfl rfl (c2) ?_ | refine aZ tabOk rfl rfl (nb rfl) rfl ?_ | refine bR tabOk rfl rfl rfl rfl rfl rfl rfl rfl rfl rfl rfl ?_ | refine bE tabOk rfl rfl rfl (nb rfl) rfl rfl rfl rfl (by first | rfl | omega) (by first | omega | simp) ?_) | (refine aN ?_;  first | refine aH ?_ | refine aQ ?_ | refine aW ?_ | refine aR ?_ | refine aD (b := true) rfl (fun _ => ?_) nTf | refine aD (b := false) rfl nFt (fun _ => ?_) | refine aX mixed (by kernel_rfl) ?_) | (refine aM ?_;  first | refine bA ?_ | refine aU ?_) | (refine aV ?_;  first | refine bD ?_) | refine bG (bF (by kernel_rfl)) ?_)
    all_goals first | (exfalso; omega) | exact absurd rfl (by assumption) | (refine aT (by first | exact .inl rfl | exact .inr rfl) (bB rfl (aA rfl) (aA rfl)) rfl ?_; rfl)
end
end Go.Proofs.YtlbemgokilhdnaaGreat.Ab
namespace Go.Proofs.YtlbemgokilhdnaaGreat.Ab
set_option linter.unusedVariables false
set_option linter.unusedSimpArgs false
open Go.RowKit
theorem mJ {T : Tree} {ts : List Tree} (h1 : T.whole = true) (h2 : T.size ≤ 100000000) (h : okT ts) : okT (T :: ts) := fun U hU => by
  rcases List.mem_cons.1 hU with rfl | hU
  · exact ⟨h1, h2⟩
  · exact h U hU
theorem vR {K : Tree} {ks : List Tree} (h1 : checkP isKindP K = 0) (h : okK ks) : okK (K :: ks) := fun U hU => by
  rcases List.mem_cons.1 hU with rfl | hU
  · exact h1
  · exact h U hU
theorem aAB {R : Tree × Int} (h : R.2 = 0 → checkP isConP R.1 = 0) : fineT R := fun h0 => by
  obtain ⟨h1, h2, h3⟩ := bO (h h0)
  exact ⟨h3, h1, by omega⟩
theorem mU (ks ts : List Tree) (self : Tree) : ∀ l cs : List Tree, (∀ t ∈ l, ∃ a' x, t = .node 149 0 a' emptyB [x] ∧ ∀ T : Tree, T.whole = true → T.size ≤ 100000000 → fineW (ofP x ks (T :: ts))) → (ofArms l cs self ks ts).2 = 0 → (ofArms l cs self ks ts).1.length = l.length ∧ ∀ s ∈ (ofArms l cs self ks ts).1, s.whole = true ∧ s.size ≤ 100000000
  | [], cs, _, _ => by rw [ofArms]; exact ⟨rfl, fun s hs => (List.not_mem_nil hs).elim⟩
  | t :: l, cs, h, h0 => by
    obtain ⟨a', x, rfl, hx⟩ := h t (by simp)
    rw [ofArms] at h0 ⊢
    unfold arm1 at h0 ⊢
    split at h0
    · rename_i h1; exact absurd h0 h1
    · rename_i h1
      rw [if_neg h1]
      obtain ⟨h2, h3, h4⟩ := eX h0
      rw [h4]
      obtain ⟨g1, g2⟩ := mU ks ts self l cs.tail (fun t ht => h t (by simp [ht])) h3
      obtain ⟨_, w1, w2⟩ := fM _ _ (show (filledP (kid0 (cs.headD .nil)) self).2 = 0 by simpa using h1)
      rw [ofArm, ofH] at h2 ⊢
      refine ⟨by rw [List.length_cons, List.length_cons, g1], fun s hs => ?_⟩
      rcases List.mem_cons.1 hs with rfl | hs
      · exact hx _ w1 w2 h2
      · exact g2 s hs
set_option maxHeartbeats 8000000 in
set_option maxRecDepth 10000 in
theorem aBE (t : Tree) : ∀ ks ts : List Tree, isTermP t = true → t.whole = true → t.size ≤ 1500 → okK ks → ks.length + t.size ≤ 90000 → ts.length + t.size ≤ 900000 → okT ts →
    ACalls Tryz.prog 45 [.imm (cIV ks ts), .imm t.iv] [] (.imm (.tup [(ofP t ks ts).1.iv, .lit (.int .i64 (ofP t ks ts).2)])) [] := by
  induction t using Tree.sind with
  | h t ih =>
    intro ks ts hf hw hs hk hkl htl ht
    obtain ⟨k, n, a, b, kids, rfl⟩ := cD hw
    obtain ⟨p0, p1, p2, p3, p4, p5, p6, p7, p8, p9, p10, pk⟩ := eS hf
    have hwk : ∀ t ∈ kids, t.whole = true := fun t h => bH hw h
    have hsz : (Tree.node k n a b kids).size = Tree.sizes kids + 1 := by simp only [Tree.size]; omega
    have hin : ∀ t ∈ kids, t.size ≤ Tree.sizes kids := fun t h => cR h
    have hfin : ∀ x : Tree, x.size ≤ Tree.sizes kids → x.whole = true → isTermP x = true → ∀ ks' ts', fineT (ofP x ks' ts') := fun x hx hw h ks' ts' h0 => by
      obtain ⟨h1, h2, h3⟩ := vL x ks' ts' h hw h0
      exact ⟨h1, h2, by omega⟩
    have hgo : ∀ x : Tree, x.size ≤ Tree.sizes kids → x.whole = true → isTermP x = true → ∀ ks' ts', okK ks' → ks'.length ≤ ks.length + 1 → ts'.length ≤ ts.length + 1 → okT ts' → ACalls Tryz.prog 45 [.imm (cIV ks' ts'), .imm x.iv] [] (.imm (.tup [(ofP x ks' ts').1.iv, .lit (.int .i64 (ofP x ks' ts').2)])) [] :=
      fun x hx hw h ks' ts' h1 h2 h3 h4 => ih x (by omega) ks' ts' h hw (by omega) h1 (by omega) (by omega) h4
    have h0 : ∀ x ∈ kids, isTermP x = true → ACalls Tryz.prog 45 [.imm (cIV ks ts), .imm x.iv] [] (.imm (.tup [(ofP x ks ts).1.iv, .lit (.int .i64 (ofP x ks ts).2)])) [] ∧ fineT (ofP x ks ts) := fun x hx h =>
      ⟨hgo x (hin x hx) (hwk x hx) h ks ts hk (by omega) (by omega) ht, hfin x (hin x hx) (hwk x hx) h ks ts⟩
    have hcs : ∀ C : Tree, checkP isConP C = 0 → C.whole = true ∧ C.size ≤ 100000000 := fun C h => by
      obtain ⟨h1, h2, h3⟩ := bO h
      exact ⟨h1, by omega⟩
    have hst : ∀ T : Tree, checkP isConP T = 0 → ACalls Tryz.prog 138 [.imm (cIV ks ts), .imm T.iv] [] (.imm (.tup [(starT ks T).1.iv, .lit (.int .i64 (starT ks T).2)])) [] ∧ fineT (starT ks T) := fun T h =>
      ⟨aCn ks ts hk (by omega) T (hcs T h).2, aAB (dR ks T)⟩
    have hkd : ∀ C : Tree, checkP isConP C = 0 → ACalls Tryz.prog 37 [.imm (.sl false ks.length (Tree.ivs ks)), .imm C.iv] [] (.imm (.tup [(KindP ks C).1.iv, .lit (.int .i64 (KindP ks C).2)])) [] ∧ fineK 100000000 (KindP ks C) := fun C h =>
      ⟨aBt (gX false ks) hk (by omega) C (hcs C h).2, fun h2 => by
        obtain ⟨g1, g2, g3⟩ := pY ks C hk h2
        exact ⟨g1, g2, by omega⟩⟩
    have hty : ∀ T : Tree, T.whole = true → ACalls Tryz.prog 79 [.imm (cIV ks ts), .imm T.iv] [] (.imm (cIV ks (T :: ts))) [] := fun T hT => aBw ks ts T hT (by omega)
    have hkl2 : kids.length ≤ Tree.sizes kids := cI kids hw
    by_cases e0 : k = 130
    · subst e0
      rw [show ofP (.node 130 n a b kids) ks ts = (if n ≥ (ts.length : Int) then (.nil, 8) else normalP 1000 (ts.getD n.toNat .nil)) by rw [ofP, if_pos rfl]]
      exact aCu ks.length (Tree.ivs ks) n a b kids ts ht (p0 rfl).1
    by_cases e1 : k = 131
    · subst e1
      rw [show ofP (.node 131 n a b kids) ks ts = (tyT 111 [], 0) by rw [ofP]; rfl]
      exact tT _ _ _ _ 131 111 (by decide) n a b kids
    by_cases e2 : k = 132
    · subst e2
      rw [show ofP (.node 132 n a b kids) ks ts = (tyT 112 [], 0) by rw [ofP]; rfl]
      exact tT _ _ _ _ 132 112 (by decide) n a b kids
    by_cases e3 : k = 133
    · subst e3
      rw [show ofP (.node 133 n a b kids) ks ts = (tyT 113 [], 0) by rw [ofP]; rfl]
      exact tT _ _ _ _ 133 113 (by decide) n a b kids
    by_cases e4 : k = 139
    · subst e4
      obtain ⟨K, x, rfl, hK, hx⟩ := iG (p1 rfl)
      have ck := yW ks ts K (bO hK).1 (by omega) (by omega) fun T hT => ⟨(ht T hT).1, (ht T hT).2⟩
      rw [show ofP (.node 139 n a b [K, x]) ks ts = tlam1 K (shiftsP ts).2 (ofP x (K :: ks) (shiftsP ts).1) by rw [ofP]; rfl]
      have hsf := fI ts
      by_cases he : (shiftsP ts).2 = 0
      · rw [if_neg (by simpa using he)] at ck
        obtain ⟨g1, g2⟩ := hsf he
        exact vQ _ _ _ _ _ _ _ _ n a b K x (bO hK).1 (hwk x (by simp)) _ _ (dH (hfin x (hin x (by simp)) (hwk x (by simp)) hx _ _)) ck fun _ =>
          hgo x (hin x (by simp)) (hwk x (by simp)) hx _ _ (vR hK hk) (by rw [List.length_cons]; omega) (by omega) fun T hT => ⟨(g2 T hT).1, by have := (g2 T hT).2; omega⟩
      · rw [if_pos he] at ck
        exact vQ _ _ _ _ _ _ _ _ n a b K x (bO hK).1 (hwk x (by simp)) _ _ (dH (hfin x (hin x (by simp)) (hwk x (by simp)) hx _ _)) ck fun h => absurd h he
    by_cases e5 : k = 143
    · subst e5
      obtain ⟨x, y, rfl, hx, hy⟩ := dC (p3 (by decide))
      obtain ⟨c1, f1⟩ := h0 x (by simp) hx
      rw [show ofP (.node 143 n a b [x, y]) ks ts = let1 (ofP x ks ts) (ofP y ks ((ofP x ks ts).1 :: ts)) by rw [ofP]; rfl]
      exact aCv _ _ _ _ (cIV ks ((ofP x ks ts).1 :: ts)) n a b x y (hwk x (by simp)) (hwk y (by simp)) _ _ c1 (fun h => hty _ (f1 h).2.1) fun h =>
        hgo y (hin y (by simp)) (hwk y (by simp)) hy ks _ hk (by omega) (by rw [List.length_cons]; omega) (mJ (f1 h).2.1 (f1 h).2.2 ht)
    refine aBD _ _ _ _ k n a b kids ⟨e0, e1, e2, e3, e4, e5⟩ _ ?_
    by_cases e6 : k = 134
    · subst e6
      obtain ⟨T, y, rfl, hT, hy⟩ := dM (p2 (by decide))
      obtain ⟨c1, f1⟩ := hst T hT
      rw [show ofP (.node 134 n a b [T, y]) ks ts = lamT1 (starT ks T) (ofP y ks ((starT ks T).1 :: ts)) by rw [ofP]; rfl]
      exact aDt _ _ _ _ (cIV ks ((starT ks T).1 :: ts)) 134 n a b T y (hwk T (by simp)) (hwk y (by simp)) _ _ (dH f1) (dH (hfin y (hin y (by simp)) (hwk y (by simp)) hy _ _)) c1 (fun h => hty _ (f1 h).2.1) fun h =>
        hgo y (hin y (by simp)) (hwk y (by simp)) hy ks _ hk (by omega) (by rw [List.length_cons]; omega) (mJ (f1 h).2.1 (f1 h).2.2 ht)
    by_cases e7 : k = 135
    · subst e7
      obtain ⟨x, y, rfl, hx, hy⟩ := dC (p3 (by decide))
      obtain ⟨c1, f1⟩ := h0 x (by simp) hx
      obtain ⟨c2, f2⟩ := h0 y (by simp) hy
      rw [show ofP (.node 135 n a b [x, y]) ks ts = appT1 (ofP x ks ts) (ofP y ks ts) by rw [ofP]; rfl]
      exact aDu _ _ _ _ 135 n a b x y (hwk x (by simp)) (hwk y (by simp)) _ _ f1 (dH f2) c1 c2
    by_cases e8 : k = 136
    · subst e8
      obtain ⟨q1, q2⟩ := p4 rfl
      rw [show ofP (.node 136 n a b kids) ks ts = rec1 (ofRec kids ks ts) by rw [ofP]; rfl]
      refine aDv _ _ _ _ 136 n a b kids ks ts (by omega) fun t hmt => ?_
      obtain ⟨a', x, rfl, hx, hl⟩ := q1 t hmt
      have sx := bM (k := 137) (n := 0) (a := a') (b := emptyB) (kids := [x]) (t := x) (by simp)
      have hz := hin _ hmt
      have hxw := bH (hwk _ hmt) (show x ∈ [x] by simp)
      exact ⟨a', x, rfl, hxw, dH (hfin x (by omega) hxw hx ks ts), hgo x (by omega) hxw hx ks ts hk (by omega) (by omega) ht⟩
    by_cases e9 : k = 138
    · subst e9
      obtain ⟨x, rfl, hx⟩ := kA (p5 rfl)
      obtain ⟨c1, f1⟩ := h0 x (by simp) hx
      rw [show ofP (.node 138 n a b [x]) ks ts = proj1 a (ofP x ks ts) by rw [ofP]; rfl]
      exact aCY _ _ _ _ 138 n a b x (hwk x (by simp)) _ f1 (as_a ks ts x _ 115 (fun h => (f1 h).2.1) c1)
    by_cases e10 : k = 140
    · subst e10
      obtain ⟨x, C, rfl, hx, hC⟩ := lF (p6 rfl)
      obtain ⟨c1, f1⟩ := h0 x (by simp) hx
      obtain ⟨c2, f2⟩ := hkd C hC
      rw [show ofP (.node 140 n a b [x, C]) ks ts = tapp1 (ofP x ks ts) (KindP ks C) C by rw [ofP]; rfl]
      exact aCZ _ _ _ _ 140 n a b x C (hwk x (by simp)) (hwk C (by simp)) (hcs C hC).2 _ _ f1 f2 c1 c2
    by_cases e11 : k = 141
    · subst e11
      obtain ⟨C, x, T, rfl, hC, hx, hT⟩ := eW (p7 rfl)
      obtain ⟨c1, f1⟩ := hst T hT
      obtain ⟨c2, f2⟩ := hkd C hC
      obtain ⟨c3, f3⟩ := h0 x (by simp) hx
      rw [show ofP (.node 141 n a b [C, x, T]) ks ts = pack1 (starT ks T) (KindP ks C) (ofP x ks ts) C by rw [ofP]; rfl]
      exact aDa _ _ _ _ 141 n a b C x T (hwk C (by simp)) (hwk x (by simp)) (hwk T (by simp)) (hcs C hC).2 _ _ _ f1 f2 (dH f3) c1 c2 c3
    by_cases e12 : k = 142
    · subst e12
      obtain ⟨x, y, rfl, hx, hy⟩ := dC (p3 (by decide))
      obtain ⟨c1, f1⟩ := h0 x (by simp) hx
      rw [show ofP (.node 142 n a b [x, y]) ks ts = unpack1 (ofP x ks ts) (shiftsP ts).2 (ofP y (kid0 (ofP x ks ts).1 :: ks) (kid1 (ofP x ks ts).1 :: (shiftsP ts).1)) by rw [ofP]; rfl]
      have hsf := fI ts
      have hex := aCt x ks ts hx (hwk x (by simp))
      have ca := as_a ks ts x (ofP x ks ts) 118 (fun h => (f1 h).2.1) c1
      have hfy := dH (hfin y (hin y (by simp)) (hwk y (by simp)) hy (kid0 (ofP x ks ts).1 :: ks) (kid1 (ofP x ks ts).1 :: (shiftsP ts).1))
      have hgy := hgo y (hin y (by simp)) (hwk y (by simp)) hy (kid0 (ofP x ks ts).1 :: ks) (kid1 (ofP x ks ts).1 :: (shiftsP ts).1)
      generalize ofP x ks ts = R at *
      have hparts : (asP R 118).2 = 0 → checkP isKindP (kid0 R.1) = 0 ∧ (kid1 R.1).whole = true ∧ (kid1 R.1).size ≤ 100000000 := fun h => by
        obtain ⟨h2, h3⟩ := iI h
        obtain ⟨s1, s2, s3⟩ := f1 h2
        have h4 := hex h2
        obtain ⟨n', a', b', u, v, e, hu, hv, wu, wv, su, sv⟩ := iH s1 s2 s3 (.inr h3)
        rw [h3] at e
        rw [e] at h4 ⊢
        rw [exS] at h4
        have h5 := h4.1 rfl
        have su2 := bM (k := 118) (n := n') (a := a') (b := b') (kids := [u, v]) (t := u) (by simp)
        refine ⟨?_, wv, sv⟩
        show checkP isKindP u = 0
        rw [rS isKindP u wu (by omega), if_pos hu]
      have hck := fun h : (asP R 118).2 = 0 => yW ks ts (kid0 R.1) (bO (hparts h).1).1 (by omega) (by omega) fun T hT => ⟨(ht T hT).1, (ht T hT).2⟩
      by_cases he : (shiftsP ts).2 = 0
      · obtain ⟨g1, g2⟩ := hsf he
        refine vP _ _ _ _ (kid0 R.1 :: ks).length (shiftsP ts).1.length (Tree.ivs (kid0 R.1 :: ks)) (Tree.ivs (shiftsP ts).1) (cIV (kid0 R.1 :: ks) (kid1 R.1 :: (shiftsP ts).1)) 142 n a b x y (hwk x (by simp)) (hwk y (by simp)) R _ (shiftsP ts).2 f1 hfy ca (fun h => ?_) (fun h _ => ?_) fun h _ => ?_
        · have := hck h
          rw [if_neg (by simpa using he)] at this
          exact this
        · exact aBw (kid0 R.1 :: ks) (shiftsP ts).1 (kid1 R.1) (hparts h).2.1 (by omega)
        · exact hgy (vR (hparts h).1 hk) (by rw [List.length_cons]; omega) (by rw [List.length_cons]; omega) (mJ (hparts h).2.1 (hparts h).2.2 fun T hT => ⟨(g2 T hT).1, by have := (g2 T hT).2; omega⟩)
      · refine vP _ _ _ _ ks.length ts.length (Tree.ivs ks) (Tree.ivs ts) (cIV [] []) 142 n a b x y (hwk x (by simp)) (hwk y (by simp)) R _ (shiftsP ts).2 f1 hfy ca (fun h => ?_) (fun h h2 => absurd h2 he) fun h h2 => absurd h2 he
        have := hck h
        rw [if_pos he] at this
        exact this
    by_cases e13 : k = 144
    · subst e13
      obtain ⟨x, y, z, rfl, hx, hy, hz⟩ := jJ (p8 rfl)
      obtain ⟨c1, f1⟩ := h0 x (by simp) hx
      obtain ⟨c2, f2⟩ := h0 y (by simp) hy
      obtain ⟨c3, f3⟩ := h0 z (by simp) hz
      rw [show ofP (.node 144 n a b [x, y, z]) ks ts = choice1 (ofP x ks ts) (ofP y ks ts) (ofP z ks ts) by rw [ofP]; rfl]
      exact aBz _ _ _ _ 144 n a b x y z (hwk x (by simp)) (hwk y (by simp)) (hwk z (by simp)) _ _ _ (dH f1) (dH f2) (dH f3) c1 c2 c3
    by_cases e14 : k = 145
    · subst e14
      obtain ⟨x, y, rfl, hx, hy⟩ := dC (p3 (by decide))
      obtain ⟨c1, f1⟩ := h0 x (by simp) hx
      obtain ⟨c2, f2⟩ := h0 y (by simp) hy
      rw [show ofP (.node 145 n a b [x, y]) ks ts = op1 n (ofP x ks ts) (ofP y ks ts) by rw [ofP]; rfl]
      exact op_a _ _ _ _ 145 n a b x y (hwk x (by simp)) (hwk y (by simp)) _ _ (dH f1) (dH f2) c1 c2
    by_cases e15 : k = 146
    · subst e15
      obtain ⟨T, x, rfl, hT, hx⟩ := dM (p2 (by decide))
      obtain ⟨c1, f1⟩ := hst T hT
      obtain ⟨c3, f3⟩ := h0 x (by simp) hx
      rw [show ofP (.node 146 n a b [T, x]) ks ts = in1 a (starT ks T) (ofP x ks ts) by rw [ofP]; rfl]
      exact in_a _ _ _ _ 146 n a b T x (hwk T (by simp)) (hwk x (by simp)) _ _ f1 (dH f3) c1 c3
    have harms : ∀ l : List Tree, (∀ t ∈ l, t ∈ kids ∧ armForm 149 t) → ∀ t ∈ l, ∃ a' x, t = .node 149 0 a' emptyB [x] ∧ x.whole = true ∧ ∀ T : Tree, T.whole = true → T.size ≤ 100000000 → fineW (ofP x ks (T :: ts)) ∧ ACalls Tryz.prog 45 [.imm (cIV ks (T :: ts)), .imm x.iv] [] (.imm (.tup [(ofP x ks (T :: ts)).1.iv, .lit (.int .i64 (ofP x ks (T :: ts)).2)])) [] := fun l h t hmt => by
      obtain ⟨hm, a', x, rfl, hx, _⟩ := h t hmt
      have sx := bM (k := 149) (n := 0) (a := a') (b := emptyB) (kids := [x]) (t := x) (by simp)
      have hz := hin _ hm
      have hxw := bH (hwk _ hm) (show x ∈ [x] by simp)
      exact ⟨a', x, rfl, hxw, fun T h1 h2 => ⟨dH (hfin x (by omega) hxw hx ks _), hgo x (by omega) hxw hx ks _ hk (by omega) (by rw [List.length_cons]; omega) (mJ h1 h2 ht)⟩⟩
    have hweak : ∀ l : List Tree, (∀ t ∈ l, ∃ a' x, t = .node 149 0 a' emptyB [x] ∧ x.whole = true ∧ ∀ T : Tree, T.whole = true → T.size ≤ 100000000 → fineW (ofP x ks (T :: ts)) ∧ ACalls Tryz.prog 45 [.imm (cIV ks (T :: ts)), .imm x.iv] [] (.imm (.tup [(ofP x ks (T :: ts)).1.iv, .lit (.int .i64 (ofP x ks (T :: ts)).2)])) []) → ∀ t ∈ l, ∃ a' x, t = .node 149 0 a' emptyB [x] ∧ ∀ T : Tree, T.whole = true → T.size ≤ 100000000 → fineW (ofP x ks (T :: ts)) := fun l h t hmt => by
      obtain ⟨a', x, e, _, h2⟩ := h t hmt
      exact ⟨a', x, e, fun T h3 h4 => (h2 T h3 h4).1⟩
    have hsum : ∀ R : Tree × Int, fineT R → (asP R 121).2 = 0 → ∃ n' a' b' cs, R.1 = .node 121 n' a' b' cs ∧ cs.length ≤ 100000000 ∧ ∀ c ∈ cs, ∃ k' n' a' b' y, c = .node k' n' a' b' [y] ∧ y.whole = true ∧ y.size ≤ 100000000 := fun R f h => by
      obtain ⟨h2, h3⟩ := iI h
      obtain ⟨s1, s2, s3⟩ := f h2
      obtain ⟨n', a', b', cs, e, hl, hc⟩ := fH s1 s2 s3 (.inr h3)
      rw [h3] at e
      refine ⟨n', a', b', cs, e, hl, fun c hm => ?_⟩
      obtain ⟨k', n', a', b', y, e, _, hy, hys⟩ := hc c hm
      exact ⟨k', n', a', b', y, e, hy, hys⟩
    have hlen : ∀ (S : Tree) (l : List Tree) (L : List Tree × Int), (arms1 S l L).2 = 0 → L.2 = 0 ∧ arms1 S l L = L := fun S l L h => by
      unfold arms1 at h ⊢
      split at h
      · cases h
      · rename_i h2; rw [if_neg h2]; exact ⟨h, rfl⟩
    by_cases e16 : k = 147
    · subst e16
      obtain ⟨x, arms, rfl, hne, hx, ha⟩ := lG (p9 rfl)
      obtain ⟨c1, f1⟩ := h0 x (by simp) hx
      have hA := harms arms fun t ht => ⟨by simp [ht], ha t ht⟩
      rw [List.length_cons] at hkl2
      rw [show ofP (.node 147 n a b (x :: arms)) ks ts = case1 (ofP x ks ts) (arms1 (ofP x ks ts).1 arms (ofArms arms (kidsOf (ofP x ks ts).1) (ofP x ks ts).1 ks ts)) by rw [ofP]; rfl]
      refine aCs _ _ _ _ 147 n a b x arms (hwk x (by simp)) (by omega) _ _ (dH f1) (fun h => ?_) (as_a ks ts x _ 121 (fun h => (f1 h).2.1) c1) fun h => ?_
      · obtain ⟨h2, h3⟩ := hlen _ _ _ h
        rw [h3]
        obtain ⟨g1, g2⟩ := mU ks ts _ arms _ (hweak arms hA) h2
        refine ⟨fun e => hne ?_, by omega, g2⟩
        rw [e] at g1
        exact List.length_eq_zero_iff.1 g1.symm
      · obtain ⟨n', a', b', cs, e, hl, hc⟩ := hsum _ f1 h
        have hR := f1 (iI h).1
        rw [e] at hR ⊢
        exact aBA n' a' b' cs arms ks ts _ hl (by omega) (by omega) hR.2.1 hR.2.2 hc hA
    · have e17 : k = 148 := by omega
      subst e17
      obtain ⟨x, T, arms, rfl, hne, hx, hT, ha⟩ := jL (p10 rfl)
      obtain ⟨c1, f1⟩ := h0 x (by simp) hx
      obtain ⟨c4, f4⟩ := hst T hT
      have hA := harms arms fun t ht => ⟨by simp [ht], ha t ht⟩
      rw [List.length_cons, List.length_cons] at hkl2
      rw [show ofP (.node 148 n a b (x :: T :: arms)) ks ts = fold1 (ofP x ks ts) (starT ks T) (arms1 (ofP x ks ts).1 arms (ofArms arms (kidsOf (ofP x ks ts).1) (starT ks T).1 ks ts)) by rw [ofP]; rfl]
      refine aDb _ _ _ _ 148 n a b x T arms (hwk x (by simp)) (hwk T (by simp)) (by omega) _ _ _ (dH f1) (dH f4) (fun h => ?_) (as_a ks ts x _ 121 (fun h => (f1 h).2.1) c1) c4 fun h h4 => ?_
      · obtain ⟨h2, h3⟩ := hlen _ _ _ h
        rw [h3]
        obtain ⟨g1, g2⟩ := mU ks ts _ arms _ (hweak arms hA) h2
        exact ⟨by omega, g2⟩
      · obtain ⟨n', a', b', cs, e, hl, hc⟩ := hsum _ f1 h
        have hR := f4 h4
        rw [e]
        exact aBA n' a' b' cs arms ks ts _ hl (by omega) (by omega) hR.2.1 hR.2.2 hc hA
end Go.Proofs.YtlbemgokilhdnaaGreat.Ab
namespace Go.Proofs.YtlbemgokilhdnaaGreat.Ab
set_option linter.unusedVariables false
set_option linter.unusedSimpArgs false
open Go.RowKit
attribute [local irreducible] AWP AOps AExit AThen ABlock ANoGoto FeetOk
/-- The type of a term in a context, and the error. -/
def TypeP (ks ts : List Tree) (n : Tree) : Tree × Int :=
  if tcheckP n ≠ 0 then (.nil, tcheckP n) else if (ks.any fun K => decide (checkP isKindP K ≠ 0)) = true ∨ (ts.any fun T => decide (starE ks T ≠ 0)) = true then (.nil, 2) else ofP n ks ts
set_option maxHeartbeats 4000000 in
set_option maxRecDepth 10000 in
theorem aDc (K : Tree) (hs : K.size ≤ 100000000) : ACalls Tryz.prog 41 [.imm K.iv] [] (.imm (.lit (.bool (decide (checkP isKindP K ≠ 0))))) [] := by
  have c1 := pE K hs
  generalize checkP isKindP K = e at *
  generalize K.iv = ki at *
  by_cases h : e = 0
  · subst h
    refine aJ Tryz.func41 rfl rfl (nb rfl) rfl ?_
    repeat' (first | refine aG ?_ | (refine aI ?_;  first | refine aC tabOk rfl rfl rfl (nb rfl) rfl ?_ | (refine aK rfl rfl rfl (nb rfl) rfl rfl rfl (fun hq => ?_) (fun hq => ?_) <;> (first | (simp only [sD, sE, sB, sC, sN, sM, sT, sF] at hq; try (exfalso; omega)) | skip)) | refine aE rfl rfl (nb rfl) rfl rfl rfl rfl (c1) ?_) | (refine aN ?_;  first | refine aH ?_ | refine aR ?_))
    all_goals first
      | exact absurd rfl (by assumption)
      | (refine aT (by first | exact .inl rfl | exact .inr rfl) (bC rfl (aA rfl)) rfl ?_; rfl)
  · rw [show decide (e ≠ 0) = true from decide_eq_true h]
    refine aJ Tryz.func41 rfl rfl (nb rfl) rfl ?_
    repeat' (first | refine aG ?_ | (refine aI ?_;  first | refine aC tabOk rfl rfl rfl (nb rfl) rfl ?_ | (refine aK rfl rfl rfl (nb rfl) rfl rfl rfl (fun hq => ?_) (fun hq => ?_) <;> (first | (simp only [sD, sE, sB, sC, sN, sM, sT, sF] at hq; try (exfalso; omega)) | skip)) | refine aE rfl rfl (nb rfl) rfl rfl rfl rfl (c1) ?_) | (refine aN ?_;  first | refine aH ?_ | refine aR ?_))
    all_goals first
      | exact absurd (by assumption) h
      | (refine aT (by first | exact .inl rfl | exact .inr rfl) (bC rfl (aA rfl)) rfl ?_; rfl)
set_option maxHeartbeats 4000000 in
set_option maxRecDepth 10000 in
theorem aBF (ks : List Tree) (hk : okK ks) (hl : ks.length ≤ 90000) (T : Tree) (hs : T.size ≤ 100000000) :
    ACalls Tryz.prog 43 [.imm T.iv, .obj 1001 0] [(1001, .cells [.imm (.sl false ks.length (Tree.ivs ks))])] (.imm (.lit (.bool (decide (starE ks T ≠ 0))))) [(1001, .cells [.imm (.sl false ks.length (Tree.ivs ks))])] := by
  have c1 := aBu (gX false ks) hk (by omega) T hs
  generalize starE ks T = e at *
  generalize T.iv = ti at *
  generalize Tree.ivs ks = KI at *
  generalize ks.length = kl at *
  by_cases h : e = 0
  · subst h
    refine bX [1001] Tryz.func43 rfl rfl (nb rfl) rfl rfl ?_
    repeat' (first | refine aG ?_ | (refine aI ?_;  first | refine aC tabOk rfl rfl rfl (nb rfl) rfl ?_ | (refine aK rfl rfl rfl (nb rfl) rfl rfl rfl (fun hq => ?_) (fun hq => ?_) <;> (first | (simp only [sD, sE, sB, sC, sN, sM, sT, sF] at hq; try (exfalso; omega)) | skip)) | refine aE rfl rfl (nb rfl) rfl rfl rfl rfl (c1) ?_ | refine bQ tabOk rfl rfl rfl (nb rfl) rfl rfl rfl rfl ?_) | (refine aN ?_;  first | refine aH ?_ | refine aR ?_))
    all_goals first
      | exact absurd rfl (by assumption)
      | (refine cF (cE (by first | exact .inl rfl | exact .inr rfl) (bC rfl (aA rfl)) rfl (by repeat' first | exact trivial | refine ⟨rfl, ?_⟩) rfl ?_); rfl)
  · rw [show decide (e ≠ 0) = true from decide_eq_true h]
    refine bX [1001] Tryz.func43 rfl rfl (nb rfl) rfl rfl ?_
    repeat' (first | refine aG ?_ | (refine aI ?_;  first | refine aC tabOk rfl rfl rfl (nb rfl) rfl ?_ | (refine aK rfl rfl rfl (nb rfl) rfl rfl rfl (fun hq => ?_) (fun hq => ?_) <;> (first | (simp only [sD, sE, sB, sC, sN, sM, sT, sF] at hq; try (exfalso; omega)) | skip)) | refine aE rfl rfl (nb rfl) rfl rfl rfl rfl (c1) ?_ | refine bQ tabOk rfl rfl rfl (nb rfl) rfl rfl rfl rfl ?_) | (refine aN ?_;  first | refine aH ?_ | refine aR ?_))
    all_goals first
      | exact absurd (by assumption) h
      | (refine cF (cE (by first | exact .inl rfl | exact .inr rfl) (bC rfl (aA rfl)) rfl (by repeat' first | exact trivial | refine ⟨rfl, ?_⟩) rfl ?_); rfl)
theorem qD {t : Tree} (h : tcheckP t = 0) : isTermP t = true ∧ t.whole = true ∧ t.size ≤ 65536 := by
  unfold tcheckP at h
  obtain ⟨h1, h2, h3⟩ := bO h
  exact ⟨h3, h1, h2⟩
theorem aAC {ks : List Tree} {c : Tree} (h : starE ks c = 0) : checkP isConP c = 0 := by
  by_cases h2 : checkP isConP c = 0
  · exact h2
  · have e : KindP ks c = (.nil, checkP isConP c) := by unfold KindP; rw [if_pos h2]
    unfold starE at h
    rw [e] at h
    dsimp only at h
    rw [if_neg fun h3 => h2 h3.1] at h
    exact absurd h h2
set_option maxHeartbeats 8000000 in
set_option maxRecDepth 10000 in
theorem aCw (ks ts : List Tree) (n : Tree) (hn : n.size ≤ 1500) (hkl : ks.length ≤ 80000) (htl : ts.length ≤ 800000) (hk : ∀ K ∈ ks, K.size ≤ 100000000) (ht : ∀ T ∈ ts, T.size ≤ 100000000) :
    ACalls Tryz.prog 18 [.imm (.sl false ks.length (Tree.ivs ks)), .imm (.sl false ts.length (Tree.ivs ts)), .imm n.iv] [] (.imm (.tup [(TypeP ks ts n).1.iv, .lit (.int .i64 (TypeP ks ts n).2)])) [] := by
  have c1 := lB n (by omega)
  unfold TypeP
  by_cases h1 : tcheckP n = 0
  · obtain ⟨w1, w2, _⟩ := qD h1
    have c2 := iM ks 41 (fun K => decide (checkP isKindP K ≠ 0)) (by omega) fun j h => aDc _ (hk _ (List.getElem_mem h))
    rw [h1] at c1
    rw [if_neg (by simpa using h1)]
    cases hb : (ks.any fun K => decide (checkP isKindP K ≠ 0)) with
    | true =>
      rw [hb] at c2
      rw [if_pos (.inl rfl)]
      generalize n.iv = ni at *
      generalize Tree.ivs ks = KI at *
      generalize Tree.ivs ts = TI at *
      clear hk ht
      refine cO Tryz.func18 rfl rfl (nb rfl) rfl ?_
      repeat' (first | refine aG ?_ | (refine aI ?_;  first | refine aC tabOk rfl rfl rfl (nb rfl) rfl ?_ | refine bU rfl rfl (nb rfl) ?_ | (refine aK rfl rfl rfl (nb rfl) rfl rfl rfl (fun hq => ?_) (fun hq => ?_) <;> (first | (simp only [sD, sE, sB, sC, sN, sM, sT, sF] at hq; try (exfalso; omega)) | skip)) | refine cJ 1001 (d := 3) rfl rfl rfl (nb rfl) rfl rfl rfl rfl rfl rfl rfl ?_ | refine aE rfl rfl (nb rfl) rfl rfl rfl rfl (c1) ?_ | refine aE rfl rfl (nb rfl) rfl rfl rfl rfl (c2) ?_ | refine bQ tabOk rfl rfl rfl (nb rfl) rfl rfl rfl rfl ?_) | (refine aN ?_;  first | refine aH ?_ | refine aQ ?_ | refine aR ?_ | refine aY ?_ | refine aD (b := true) rfl (fun _ => ?_) nTf | refine aD (b := false) rfl nFt (fun _ => ?_)) | (refine aM ?_;  first | refine bA ?_ | refine aU ?_))
      all_goals first | (exfalso; omega) | exact absurd rfl (by assumption) | (refine cL (aT (by first | exact .inl rfl | exact .inr rfl) (bB rfl (aA rfl) (aA rfl)) rfl ?_); rfl)
    | false =>
      rw [hb] at c2
      have hok : okK ks := fun K hK => by
        have h := List.any_eq_false.1 hb K hK
        simpa using h
      have c3 := eY ts 43 (.sl false ks.length (Tree.ivs ks)) (fun T => decide (starE ks T ≠ 0)) (by omega) fun j h => aBF ks hok (by omega) _ (ht _ (List.getElem_mem h))
      cases hl : (ts.any fun T => decide (starE ks T ≠ 0)) with
      | true =>
        rw [hl] at c3
        rw [if_pos (.inr rfl)]
        generalize n.iv = ni at *
        generalize Tree.ivs ks = KI at *
        generalize Tree.ivs ts = TI at *
        clear hk ht hok
        refine cO Tryz.func18 rfl rfl (nb rfl) rfl ?_
        repeat' (first | refine aG ?_ | (refine aI ?_;  first | refine aC tabOk rfl rfl rfl (nb rfl) rfl ?_ | (refine aK rfl rfl rfl (nb rfl) rfl rfl rfl (fun hq => ?_) (fun hq => ?_) <;> (first | (simp only [sD, sE, sB, sC, sN, sM, sT, sF] at hq; try (exfalso; omega)) | skip)) | refine cJ 1001 (d := 3) rfl rfl rfl (nb rfl) rfl rfl rfl rfl rfl rfl rfl ?_ | refine aE rfl rfl (nb rfl) rfl rfl rfl rfl (c1) ?_ | refine aE rfl rfl (nb rfl) rfl rfl rfl rfl (c2) ?_ | refine cC rfl rfl (nb rfl) rfl rfl rfl rfl c3 (by repeat' first | exact trivial | refine ⟨rfl, ?_⟩) rfl (by show ([1001] : List Nat).Nodup; decide) ?_ | refine bQ tabOk rfl rfl rfl (nb rfl) rfl rfl rfl rfl ?_) | (refine aN ?_;  first | refine aH ?_ | refine aQ ?_ | refine aR ?_ | refine aY ?_ | refine aD (b := true) rfl (fun _ => ?_) nTf | refine aD (b := false) rfl nFt (fun _ => ?_)) | (refine aM ?_;  first | refine bA ?_ | refine aU ?_))
        all_goals first | (exfalso; omega) | exact absurd rfl (by assumption) | (refine cL (aT (by first | exact .inl rfl | exact .inr rfl) (bB rfl (aA rfl) (aA rfl)) rfl ?_); rfl)
      | false =>
        rw [hl] at c3
        rw [if_neg (by simp)]
        have c4 := aBE n ks ts w1 w2 hn hok (by omega) (by omega) fun T hT => by
          have h := List.any_eq_false.1 hl T hT
          exact ⟨(bO (aAC (by simpa using h))).1, ht T hT⟩
        unfold cIV at c4
        generalize ofP n ks ts = Q at *
        obtain ⟨Q1, Q2⟩ := Q
        dsimp only at *
        generalize Q1.iv = qi at *
        generalize n.iv = ni at *
        generalize Tree.ivs ks = KI at *
        generalize Tree.ivs ts = TI at *
        clear hk ht hok
        refine cO Tryz.func18 rfl rfl (nb rfl) rfl ?_
        repeat' (first | refine aG ?_ | (refine aI ?_;  first | refine aC tabOk rfl rfl rfl (nb rfl) rfl ?_ | (refine aK rfl rfl rfl (nb rfl) rfl rfl rfl (fun hq => ?_) (fun hq => ?_) <;> (first | (simp only [sD, sE, sB, sC, sN, sM, sT, sF] at hq; try (exfalso; omega)) | skip)) | refine cJ 1001 (d := 3) rfl rfl rfl (nb rfl) rfl rfl rfl rfl rfl rfl rfl ?_ | refine aE rfl rfl (nb rfl) rfl rfl rfl rfl (c1) ?_ | refine aE rfl rfl (nb rfl) rfl rfl rfl rfl (c2) ?_ | refine cC rfl rfl (nb rfl) rfl rfl rfl rfl c3 (by repeat' first | exact trivial | refine ⟨rfl, ?_⟩) rfl (by show ([1001] : List Nat).Nodup; decide) ?_ | refine aE rfl rfl (nb rfl) rfl rfl rfl rfl (c4) ?_ | refine aZ tabOk rfl rfl (nb rfl) rfl ?_ | refine bQ tabOk rfl rfl rfl (nb rfl) rfl rfl rfl rfl ?_) | (refine aN ?_;  first | refine aH ?_ | refine aQ ?_ | refine aR ?_ | refine aY ?_ | refine aD (b := false) rfl nFt (fun _ => ?_)) | (refine aM ?_;  first | refine bA ?_))
        all_goals first | (exfalso; omega) | exact absurd rfl (by assumption) | (refine cL (aT (by first | exact .inl rfl | exact .inr rfl) (bB rfl (aA rfl) (aA rfl)) rfl ?_); rfl)
  · rw [if_pos h1]
    generalize tcheckP n = e at *
    generalize n.iv = ni at *
    generalize Tree.ivs ks = KI at *
    generalize Tree.ivs ts = TI at *
    clear hk ht
    refine cO Tryz.func18 rfl rfl (nb rfl) rfl ?_
    repeat' (first | refine aG ?_ | (refine aI ?_;  first | refine aC tabOk rfl rfl rfl (nb rfl) rfl ?_ | (refine aK rfl rfl rfl (nb rfl) rfl rfl rfl (fun hq => ?_) (fun hq => ?_) <;> (first | (simp only [sD, sE, sB, sC, sN, sM, sT, sF] at hq; try (exfalso; omega)) | skip)) | refine cJ 1001 (d := 3) rfl rfl rfl (nb rfl) rfl rfl rfl rfl rfl rfl rfl ?_ | refine aE rfl rfl (nb rfl) rfl rfl rfl rfl (c1) ?_) | (refine aN ?_;  first | refine aH ?_ | refine aQ ?_ | refine aR ?_ | refine aD (b := true) rfl (fun _ => ?_) nTf) | (refine aM ?_;  first | refine aU ?_))
    all_goals first | (exfalso; omega) | exact absurd rfl (by assumption) | (refine cL (aT (by first | exact .inl rfl | exact .inr rfl) (bB rfl (aA rfl) (aA rfl)) rfl ?_); rfl)
theorem aDw (t : Tree) : t.iv.nz = t.iv := by cases t <;> rw [Tree.iv] <;> rfl
theorem vS {X : IV} {l : List Tree} (h : rowIV X l) : X.nz = .sl false l.length (Tree.ivs l) := by
  rcases h with ⟨f, rfl⟩ | ⟨rfl, rfl⟩
  · cases f <;> rfl
  · rw [Tree.ivs]; rfl
theorem aBG {X Y : IV} {ks ts : List Tree} (hX : rowIV X ks) (hY : rowIV Y ts) (n : Tree) (hn : n.size ≤ 1500) (hkl : ks.length ≤ 80000) (htl : ts.length ≤ 800000) (hk : ∀ K ∈ ks, K.size ≤ 100000000) (ht : ∀ T ∈ ts, T.size ≤ 100000000) :
    ACalls Tryz.prog 18 [.imm X, .imm Y, .imm n.iv] [] (.imm (.tup [(TypeP ks ts n).1.iv, .lit (.int .i64 (TypeP ks ts n).2)])) [] := by
  refine aAg ?_
  show ACalls _ _ [.imm X.nz, .imm Y.nz, .imm n.iv.nz] _ _ _
  rw [vS hX, vS hY, aDw]
  exact aCw ks ts n hn hkl htl hk ht
set_option maxHeartbeats 4000000 in
set_option maxRecDepth 10000 in
theorem aBH (n : Tree) (hn : n.size ≤ 1500) : ACalls Tryz.prog 6 [.imm n.iv] [] (.imm (.tup [(TypeP [] [] n).1.iv, .lit (.int .i64 (TypeP [] [] n).2)])) [] := by
  have c1 := aBG rW rW n hn (by decide) (by decide) (fun K h => (List.not_mem_nil h).elim) fun K h => (List.not_mem_nil h).elim
  generalize TypeP [] [] n = Q at *
  obtain ⟨Q1, Q2⟩ := Q
  dsimp only at *
  generalize Q1.iv = qi at *
  generalize n.iv = ni at *
  refine aJ Tryz.func6 rfl rfl (nb rfl) rfl ?_
  repeat' (first | refine aG ?_ | (refine aI ?_;  first | refine aC tabOk rfl rfl rfl (nb rfl) rfl ?_ | refine aE rfl rfl (nb rfl) rfl rfl rfl rfl (c1) ?_) | (refine aN ?_;  first | refine aH ?_ | refine aR ?_))
  all_goals first | (exfalso; omega) | exact absurd rfl (by assumption) | (refine aT (by first | exact .inl rfl | exact .inr rfl) (bB rfl (aA rfl) (aA rfl)) rfl ?_; rfl)
end Go.Proofs.YtlbemgokilhdnaaGreat.Ab
namespace Go.Proofs.YtlbemgokilhdnaaGreat.RP
set_option linter.unusedVariables false
set_option linter.unusedSimpArgs false
open Go.RowKit Go.Lib Go.Proofs.YtlbemgokilhdnaaGreatW.PrintWords Go.Proofs.YtlbemgokilhdnaaGreatW.PrintLast Go.Proofs.YtlbemgokilhdnaaGreatW.PrintMore Go.Proofs.YtlbemgokilhdnaaGreat.PAll
theorem w64 {x : Int} (h0 : -9223372036854775808 ≤ x) (h1 : x ≤ 9223372036854775807) : wrap64 x = x := by unfold wrap64; omega
theorem w64s (a : Nat) (h : a ≤ 9000000) : wrap64 ((a : Int) + 1) = ((a + 1 : Nat) : Int) := by rw [w64] <;> omega
theorem aDd {a b : ByteArray} (h : a.data.toList = b.data.toList) : a = b := by
  cases a; cases b; congr 1; exact Array.ext' h
theorem aCx (a b : ByteArray) : (a ++ b).data.toList = a.data.toList ++ b.data.toList := by simp
theorem iJ (a : ByteArray) : a.data.toList.length = a.size := Array.length_toList
theorem cH (a b : ByteArray) : (a ++ b).size = a.size + b.size := by rw [← iJ, aCx, List.length_append, iJ, iJ]
theorem toListB (s : ByteArray) : s.toList = s.data.toList := by
  have h := ByteArray.toList_mk s.data.toList
  have e : (ByteArray.mk s.data.toList.toArray) = s := by cases s; simp
  rw [e] at h
  exact h
theorem vT {a b : ByteArray} : a.toList = b.toList ↔ a = b := by
  rw [toListB, toListB]
  exact ⟨aDd, fun h => by rw [h]⟩
theorem aBI (A M B : List Int) (a b : Int) :
    (((A ++ (a :: (M ++ [b])) ++ B).set A.length b).set (A.length + M.length + 1) a) = (A ++ [b]) ++ M ++ (a :: B) := by
  rw [List.append_assoc, List.set_append_right _ _ (Nat.le_refl _), Nat.sub_self]
  rw [List.set_append_right _ _ (by omega)]
  have e : A.length + M.length + 1 - A.length = M.length + 1 := by omega
  rw [e]
  simp only [List.cons_append, List.set_cons_zero, List.set_cons_succ, List.append_assoc, List.nil_append, List.singleton_append]
  rw [List.set_append_right _ _ (Nat.le_refl _), Nat.sub_self]
  simp
theorem aDe : ∀ (d : Nat) (A M B : List Int) (k : Nat), A.length = B.length → M.length ≤ d → d + 1 ≤ k → A.length + M.length ≤ 1000000 →
    slices_Reverse_byte_byte.l0 k (A ++ M ++ B) (A.length : Int) (((A.length : Int) + (M.length : Int)) - 1) = some (A ++ M.reverse ++ B) := by
  intro d
  induction d with
  | zero =>
    intro A M B k h h1 h2 h3
    obtain ⟨k, rfl⟩ : ∃ m, k = m + 1 := ⟨k - 1, by omega⟩
    have e : M = [] := List.eq_nil_of_length_eq_zero (by omega)
    subst e
    simp only [slices_Reverse_byte_byte.l0]
    rw [if_neg (by simp; omega)]
    rfl
  | succ d ih =>
    intro A M B k h h1 h2 h3
    obtain ⟨k, rfl⟩ : ∃ m, k = m + 1 := ⟨k - 1, by omega⟩
    simp only [slices_Reverse_byte_byte.l0]
    cases M with
    | nil => rw [if_neg (by simp; omega)]; rfl
    | cons a T =>
      rcases List.eq_nil_or_concat T with rfl | ⟨M, b, rfl⟩
      · rw [if_neg (by simp)]; rfl
      · simp only [List.length_cons, List.length_append, List.length_nil, List.concat_eq_append] at h1 h3 ⊢
        have e1 : ((A.length : Int) + ((M.length + (0 + 1) + 1 : Nat) : Int) - 1) = ((A.length + M.length + 1 : Nat) : Int) := by omega
        rw [e1, if_pos (by omega), if_pos (by omega), if_pos (by omega), if_pos (by omega), if_pos (by omega)]
        have r1 : rd (A ++ a :: (M ++ [b]) ++ B) ((A.length + M.length + 1 : Nat) : Int) = b := by
          unfold rd
          rw [Int.toNat_natCast, List.append_assoc, List.getD_eq_getElem?_getD, List.getElem?_append_right (by omega)]
          have e : A.length + M.length + 1 - A.length = M.length + 1 := by omega
          rw [e]
          simp
        have r2 : rd (A ++ a :: (M ++ [b]) ++ B) (A.length : Int) = a := by
          unfold rd
          rw [Int.toNat_natCast, List.append_assoc, List.getD_eq_getElem?_getD, List.getElem?_append_right (by omega), Nat.sub_self]
          simp
        rw [r1, r2, Int.toNat_natCast, Int.toNat_natCast, aBI, w64s _ (by omega)]
        have e2 : wrap64 (((A.length + M.length + 1 : Nat) : Int) - 1) = ((A ++ [b]).length : Int) + (M.length : Int) - 1 := by
          rw [w64 (by omega) (by omega), List.length_append]; simp; omega
        have e3 : ((A.length + 1 : Nat) : Int) = ((A ++ [b]).length : Int) := by rw [List.length_append]; simp
        rw [e2, e3, ih (A ++ [b]) M (a :: B) k (by simp [h]) (by omega) (by omega) (by simp; omega)]
        simp
theorem aDf (l : List Int) (k : Nat) (hk : l.length + 1 ≤ k) (hl : l.length ≤ 1000000) : slices_Reverse_byte_byte.f k l = some l.reverse := by
  unfold slices_Reverse_byte_byte.f
  have h := aDe l.length [] l [] k rfl (Nat.le_refl _) hk (by simpa using hl)
  rw [w64 (by omega) (by omega)]
  simp only [List.nil_append, List.append_nil, List.length_nil] at h
  have e : (((0 : Nat) : Int) + (l.length : Int) - 1) = (l.length : Int) - 1 := by omega
  rw [e] at h
  exact h
/-- The digits of a number, the last one first. -/
def digL : Nat → Nat → List Int
  | 0, _ => []
  | f + 1, m => (48 + ((m % 10 : Nat) : Int)) :: if m / 10 = 0 then [] else digL f (m / 10)
theorem vU : ∀ f m, (digL f m).length ≤ f
  | 0, _ => Nat.le_refl _
  | f + 1, m => by
    unfold digL
    by_cases h : m / 10 = 0
    · rw [if_pos h]; simp
    · rw [if_neg h]; have := vU f (m / 10); simp; omega
def signP (n : Int) : ByteArray := if n < 0 then ⟨#[126]⟩ else ⟨#[]⟩
def numP (n : Int) : ByteArray := signP n ++ strOfNums (digL 20 n.natAbs).reverse
theorem aBJ {n : Int} (h0 : 0 ≤ n) (h1 : n < 18446744073709551616) : IntKind.u64.wrap n = n := by rw [IntKind.wrap_u64]; omega
theorem sG (sg : ByteArray) (hsg : sg.size ≤ 1) : ∀ (f m : Nat) (acc : List Int) (k : Nat), m < 10 ^ f → 1 ≤ f → f ≤ 20 → acc.length + f ≤ 100 → f + 110 ≤ k → m < 18446744073709551616 →
    lexer_Number.l0 k (m : Int) sg acc true = some (sg ++ strOfNums (acc ++ digL f m).reverse) := by
  intro f
  induction f with
  | zero => intro m acc k _ h; omega
  | succ f ih =>
    intro m acc k h1 h2 h2' h3 hk hm
    obtain ⟨k, rfl⟩ : ∃ j, k = j + 1 := ⟨k - 1, by omega⟩
    have ed : Int.tdiv (m : Int) 10 = ((m / 10 : Nat) : Int) := by
      rw [Int.tdiv_eq_ediv_of_nonneg (by omega)]; omega
    have em : Int.tmod (m : Int) 10 = ((m % 10 : Nat) : Int) := by
      rw [Int.tmod_eq_emod_of_nonneg (by omega)]; omega
    simp only [lexer_Number.l0]
    rw [if_pos trivial, if_pos (by omega), ed, em, aBJ (by omega) (by omega), aBJ (by omega) (by omega)]
    have e2 : (48 + ((m % 10 : Nat) : Int)) % 256 = 48 + ((m % 10 : Nat) : Int) := by omega
    rw [e2]
    by_cases h : m / 10 = 0
    · rw [h]
      obtain ⟨k, rfl⟩ : ∃ j, k = j + 1 := ⟨k - 1, by omega⟩
      have e0 : decide (((0 : Nat) : Int) > 0) = false := rfl
      simp only [lexer_Number.l0, e0]
      rw [if_neg (by simp), aDf _ k (by simp; omega) (by simp; omega)]
      simp only [Option.bind_some]
      have e3 : digL (f + 1) m = [48 + ((m % 10 : Nat) : Int)] := by unfold digL; rw [if_pos h]
      rw [e3, if_pos]
      rw [strOfNums_size]
      simp
      omega
    · have e0 : decide (((m / 10 : Nat) : Int) > 0) = true := decide_eq_true (by omega)
      rw [e0]
      have hf : 1 ≤ f := by
        cases f with
        | zero => omega
        | succ f => omega
      rw [ih (m / 10) (acc ++ [48 + ((m % 10 : Nat) : Int)]) k (by rw [Nat.pow_succ] at h1; omega) hf (by omega) (by simp; omega) (by omega) (by omega)]
      have e3 : digL (f + 1) m = (48 + ((m % 10 : Nat) : Int)) :: digL f (m / 10) := by unfold digL; rw [if_neg h]; cases f <;> rfl
      rw [e3]
      simp
theorem aAD (n : Int) (h0 : -9223372036854775808 ≤ n) (h1 : n ≤ 9223372036854775807) : lexer_Number.f 200 n = some (numP n) := by
  unfold lexer_Number.f numP signP
  by_cases hn : n < 0
  · rw [if_pos hn, if_pos hn]
    have e : IntKind.u64.wrap (-(IntKind.u64.wrap n)) = ((n.natAbs : Nat) : Int) := by
      rw [IntKind.wrap_u64, IntKind.wrap_u64]; omega
    rw [e]
    simp only [lexer_Number.j0]
    rw [sG _ (by decide) 20 n.natAbs [] _ (Nat.lt_of_lt_of_le (show n.natAbs < 100000000000000000000 by omega) (by decide)) (by omega) (by omega) (by simp) (by omega) (by omega)]
    rfl
  · rw [if_neg hn, if_neg hn]
    have e : IntKind.u64.wrap n = ((n.natAbs : Nat) : Int) := by rw [IntKind.wrap_u64]; omega
    rw [e]
    simp only [lexer_Number.j0]
    rw [sG _ (by decide) 20 n.natAbs [] _ (Nat.lt_of_lt_of_le (show n.natAbs < 100000000000000000000 by omega) (by decide)) (by omega) (by omega) (by simp) (by omega) (by omega)]
    rfl
theorem aAE (n : Int) : (numP n).size ≤ 21 := by
  unfold numP signP
  rw [cH, strOfNums_size, List.length_reverse]
  have := vU 20 n.natAbs
  split
  · have e : (⟨#[126]⟩ : ByteArray).size = 1 := rfl
    omega
  · have e : (⟨#[]⟩ : ByteArray).size = 0 := rfl
    omega
end Go.Proofs.YtlbemgokilhdnaaGreat.RP
namespace Go.Proofs.YtlbemgokilhdnaaGreat.Ab
set_option linter.unusedVariables false
set_option linter.unusedSimpArgs false
open Go.RowKit Go.Lib Go.Proofs.YtlbemgokilhdnaaGreatW.PrintWords Go.Proofs.YtlbemgokilhdnaaGreatW.PrintLast Go.Proofs.YtlbemgokilhdnaaGreatW.PrintMore Go.Proofs.YtlbemgokilhdnaaGreat.RP Go.Proofs.YtlbemgokilhdnaaGreat.PAll
theorem vV {P : Program} {f : FuncId} {l : List Value} {r : Value} (he : Enters P f) (h1 : r.oneCell' = true)
    (h : ∀ w M, Amb w M → Calls P f l.toArray w fun e w' => e = .returned r ∧ Below w.heap.size w w') : ACalls P f (l.map fun v => .imm (.lit v)) [] (.imm (.lit r)) [] := by
  have := rH (P := P) (f := f) (args := l.map .lit) (r := .lit r) he (fun w M vs ha hv => by
    rw [hP hv]
    exact (h w M ha).mono fun e w' ⟨h2, h3⟩ => ⟨r, h2, h3, kY h1⟩)
  rw [List.map_map] at this
  exact this
theorem aBK (n : Int) (h0 : -9223372036854775808 ≤ n) (h1 : n ≤ 9223372036854775807) : ACalls Tryz.prog 53 [.imm (.lit (.int .i64 n))] [] (.imm (.lit (.string (numP n)))) [] :=
  vV (l := [.int .i64 n]) ⟨_, Tryz.func53, rfl, rfl⟩ rfl (fun w M ha => lexer_Number.calls 200 n _ w (aAD n h0 h1))
/-- Texts, one behind the other, a separator between. -/
def joinS (sep : ByteArray) (l : List ByteArray) : ByteArray := ⟨(Lib.join (l.map (·.data.toList)) sep.data.toList).toArray⟩
theorem xZ (sep : ByteArray) : ∀ (l : List ByteArray), (joinS sep l).size ≤ (l.map fun s => s.size + sep.size).sum := by
  have key : ∀ l : List (List UInt8), (Lib.join l sep.data.toList).length ≤ (l.map fun s => s.length + sep.size).sum := by
    intro l
    induction l with
    | nil => simp [Lib.join, List.intercalate]
    | cons x l ih =>
      cases l with
      | nil => simp [Lib.join, List.intercalate]
      | cons y l =>
        have h1 : Lib.join (x :: y :: l) sep.data.toList = x ++ (sep.data.toList ++ Lib.join (y :: l) sep.data.toList) := by
          simp [Lib.join, List.intercalate]
        rw [h1, List.length_append, List.length_append, iJ, List.map_cons, List.sum_cons]
        omega
  intro l
  have h := key (l.map (·.data.toList))
  rw [List.map_map] at h
  have e : ((fun s : List UInt8 => s.length + sep.size) ∘ fun s : ByteArray => s.data.toList) = fun s : ByteArray => s.size + sep.size := by
    funext s
    show s.data.toList.length + sep.size = _
    rw [iJ]
  rw [e] at h
  have e2 : (joinS sep l).size = (Lib.join (l.map (·.data.toList)) sep.data.toList).length := by rw [← iJ]; rfl
  rw [e2]
  exact h
theorem aCy (f : Bool) (l : List ByteArray) (sep : ByteArray) (hl : l.length ≤ 1000000) (hs : (joinS sep l).size ≤ 140737488355328) : ACalls Tryz.prog 54 [.imm (.sl f l.length (strs l)), .imm (.lit (.string sep))] [] (.imm (.lit (.string (joinS sep l)))) [] :=
  rH (args := [.sl f l.length (strs l), .lit (.string sep)]) (r := .lit (.string (joinS sep l))) ⟨_, Tryz.func54, rfl, rfl⟩ (fun w M vs ha hv => by
    obtain ⟨v, us, rfl, h1, h2⟩ := mN hv
    obtain ⟨v2, us, rfl, h3, h4⟩ := mN h2
    rw [oF h3, uU h4]
    obtain ⟨a, cap, rfl, hc, hn, h⟩ := aAX h1
    have hj : (Lib.join (l.map (·.data.toList)) sep.data.toList).length ≤ 140737488355328 := by
      have e2 : (joinS sep l).size = (Lib.join (l.map (·.data.toList)) sep.data.toList).length := by rw [← iJ]; rfl
      rw [← e2]; exact hs
    rcases h with rfl | ⟨b, o, rfl, hb, hcells⟩
    · refine (Tryz.strings_Join_none a cap sep w).mono fun e w' ⟨he, hw⟩ => ⟨_, he, ?_, ?_⟩
      · rw [hw]; exact Below.refl _ _
      · exact kY rfl
    · refine (Tryz.strings_Join b o cap l sep w hcells hb (by omega) hc hj).mono fun e w' ⟨he, hw⟩ => ⟨_, he, hw, ?_⟩
      exact kY rfl)
theorem aAF (l : List ByteArray) (x : ByteArray) : strs (l ++ [x]) = strs l ++ [.lit (.string x)] := by simp [strs]
end Go.Proofs.YtlbemgokilhdnaaGreat.Ab
namespace Go.Proofs.YtlbemgokilhdnaaGreat.Ab
set_option linter.unusedVariables false
set_option linter.unusedSimpArgs false
attribute [local irreducible] AWP AOps AExit AThen ABlock ANoGoto FeetOk
mutual
/-- A ground value, by its kinds and as many kids as are looked at. -/
def valP : Tree → Bool
  | .nil => false
  | .node k n a b kids => if k = 131 ∨ k = 132 ∨ k = 133 then kids.isEmpty else if k = 146 then val2 kids else if k = 136 then valKs kids else false
def val2 : List Tree → Bool
  | [x, y] => valP y
  | _ => false
def valKs : List Tree → Bool
  | [] => true
  | t :: ts => valK t && valKs ts
def valK : Tree → Bool
  | .nil => false
  | .node k n a b ks => val1 ks
def val1 : List Tree → Bool
  | [c] => valP c
  | _ => false
end
theorem sH (l : List Tree) : valKs l = l.all valK := by
  induction l with
  | nil => simp [valKs]
  | cons t ts ih => simp [valKs, ih]
theorem vW {l : List Tree} (h : val1 l = true) : ∃ c, l = [c] ∧ valP c = true := by
  match l, h with
  | [c], h => exact ⟨c, rfl, by simpa [val1] using h⟩
theorem vX {l : List Tree} (h : val2 l = true) : ∃ x y, l = [x, y] ∧ valP y = true := by
  match l, h with
  | [x, y], h => exact ⟨x, y, rfl, by simpa [val2] using h⟩
mutual
def likeP : Tree → Tree → Bool
  | .node k n a _ ks, .node k' n' a' _ ks' => (k == k' && n == n' && eqB a a') && (if k = 146 then like2 ks ks' else likeKs ks ks')
  | _, _ => false
def like2 : List Tree → List Tree → Bool
  | [_, y], [_, y'] => likeP y y'
  | _, _ => false
def likeKs : List Tree → List Tree → Bool
  | [], [] => true
  | t :: ts, u :: us => likeK t u && likeKs ts us
  | _, _ => false
def likeK : Tree → Tree → Bool
  | .node _ _ a _ ks, .node _ _ a' _ ks' => eqB a a' && like1 ks ks'
  | _, _ => false
def like1 : List Tree → List Tree → Bool
  | [c], [c'] => likeP c c'
  | _, _ => false
end
theorem qE : ∀ l l' : List Tree, likeKs l l' = zipP likeK l l'
  | [], [] => by simp [likeKs, zipP]
  | t :: ts, u :: us => by simp [likeKs, zipP, qE ts us]
  | [], _ :: _ => by simp [likeKs, zipP]
  | _ :: _, [] => by simp [likeKs, zipP]
set_option maxHeartbeats 4000000 in
set_option maxRecDepth 10000 in
theorem aAG (k n k' n' : Int) (a b a' b' : ByteArray) (c c' : Tree)
    (h : ACalls Tryz.prog 26 [.imm c.iv, .imm c'.iv] [] (.imm (.lit (.bool (likeP c c')))) []) :
    ACalls Tryz.prog 55 [.imm (Tree.iv (.node k n a b [c])), .imm (Tree.iv (.node k' n' a' b' [c']))] [] (.imm (.lit (.bool (likeK (.node k n a b [c]) (.node k' n' a' b' [c']))))) [] := by
  refine aJ Tryz.func55 rfl rfl (nb rfl) rfl ?_
  repeat' (first | refine aG ?_ | (refine aI ?_;  first | refine aC tabOk rfl rfl rfl (nb rfl) rfl ?_ | refine bU rfl rfl (nb rfl) ?_ | (refine aK rfl rfl rfl (nb rfl) rfl rfl rfl (fun hq => ?_) (fun hq => ?_) <;> (first | (simp only [sD, sE, sB, sC, sN, sM, sT, sF] at hq; try (exfalso; omega)) | skip)) | (refine cB rfl rfl rfl (nb rfl) rfl rfl rfl (h) (fun hq => ?_) (fun hq => ?_)) | refine bE tabOk rfl rfl rfl (nb rfl) rfl rfl rfl rfl (by first | rfl | omega) (by first | omega | simp) ?_) | (refine aN ?_;  first | refine aH ?_ | refine aQ ?_ | refine aR ?_ | refine aX mixed (by kernel_rfl) ?_) | (refine aM ?_;  first | refine bA ?_) | refine bG (bF (by kernel_rfl)) ?_)
  all_goals (refine aT (by first | exact .inl rfl | exact .inr rfl) (bC rfl (aA rfl)) rfl ?_; refine cM ?_; simp_all [likeK, like1, eqB])
set_option maxHeartbeats 4000000 in
set_option maxRecDepth 10000 in
theorem aBL (t : Tree) : ∀ u : Tree, valP t = true → valP u = true → t.whole = true → u.whole = true → t.size ≤ 100000000 → u.size ≤ 100000000 →
    ACalls Tryz.prog 26 [.imm t.iv, .imm u.iv] [] (.imm (.lit (.bool (likeP t u)))) [] := by
  induction t using Tree.sind with
  | h t ih =>
    intro u hvt hvu hwt hwu hst hsu
    obtain ⟨k, n, a, b, ks, rfl⟩ := cD hwt
    obtain ⟨k', n', a', b', ks', rfl⟩ := cD hwu
    have hl : ks.length < 1000000000 := by have := cI ks hwt; simp only [Tree.size] at hst; omega
    have hl' : ks'.length < 1000000000 := by have := cI ks' hwu; simp only [Tree.size] at hsu; omega
    by_cases h146 : k = 146 ∧ k' = 146
    · obtain ⟨rfl, rfl⟩ := h146
      have v1 : val2 ks = true := by simpa [valP] using hvt
      have v2 : val2 ks' = true := by simpa [valP] using hvu
      obtain ⟨x, y, rfl, hy⟩ := vX v1
      obtain ⟨x', y', rfl, hy'⟩ := vX v2
      have s1 := bM (k := 146) (n := n) (a := a) (b := b) (kids := [x, y]) (t := y) (by simp)
      have s2 := bM (k := 146) (n := n') (a := a') (b := b') (kids := [x', y']) (t := y') (by simp)
      have hr := ih y s1 y' hy hy' (bH hwt (by simp)) (bH hwu (by simp)) (by omega) (by omega)
      refine aJ Tryz.func26 rfl rfl (nb rfl) rfl ?_
      repeat' (first | refine aG ?_ | (refine aI ?_;  first | refine aC tabOk rfl rfl rfl (nb rfl) rfl ?_ | refine bU rfl rfl (nb rfl) ?_ | (refine aK rfl rfl rfl (nb rfl) rfl rfl rfl (fun hq => ?_) (fun hq => ?_) <;> (first | (simp only [sD, sE, sB, sC, sN, sM, sT, sF] at hq; try (exfalso; omega)) | skip)) | (refine cB rfl rfl rfl (nb rfl) rfl rfl rfl (hr) (fun hq => ?_) (fun hq => ?_)) | refine bE tabOk rfl rfl rfl (nb rfl) rfl rfl rfl rfl (by first | rfl | omega) (by first | omega | simp) ?_) | (refine aN ?_;  first | refine aH ?_ | refine aQ ?_ | refine aR ?_ | refine aY ?_ | refine aD (b := true) rfl (fun _ => ?_) nTf | refine aD (b := false) rfl nFt (fun _ => ?_) | refine aX mixed (by kernel_rfl) ?_) | (refine aM ?_;  first | refine bA ?_ | refine aU ?_) | refine bG (bF (by kernel_rfl)) ?_)
      all_goals (refine aT (by first | exact .inl rfl | exact .inr rfl) (bC rfl (aA rfl)) rfl ?_; refine cM ?_; simp_all [likeP, like2, eqB])
    · have hf : (k = k' ∧ k ≠ 146) → ∀ i (hi : i < ks.length) (hk : i < ks'.length), ACalls Tryz.prog 55 [.imm ks[i].iv, .imm ks'[i].iv] [] (.imm (.lit (.bool (likeK ks[i] ks'[i])))) [] := by
        rintro ⟨rfl, hk6⟩ i hi hi'
        obtain ⟨k1, n1, a1, b1, q1, e1, _, w1⟩ := kZ hwt hi
        obtain ⟨k2, n2, a2, b2, q2, e2, _, w2⟩ := kZ hwu hi'
        have hne : ¬ (k = 131 ∨ k = 132 ∨ k = 133) := fun hc => by
          simp only [valP, if_pos hc, List.isEmpty_iff] at hvt
          subst hvt
          simp at hi
        have h136 : k = 136 := by
          by_cases h : k = 136
          · exact h
          · simp [valP, hne, hk6, h] at hvt
        have v1 : valKs ks = true := by simpa [valP, h136] using hvt
        have v2 : valKs ks' = true := by simpa [valP, h136] using hvu
        rw [sH, List.all_eq_true] at v1 v2
        have u1 := v1 _ (List.getElem_mem hi)
        have u2 := v2 _ (List.getElem_mem hi')
        rw [e1] at u1
        rw [e2] at u2
        obtain ⟨c1, rfl, hc1⟩ := vW (by simpa [valK] using u1)
        obtain ⟨c2, rfl, hc2⟩ := vW (by simpa [valK] using u2)
        have s1 := bM (k := k) (n := n) (a := a) (b := b) (List.getElem_mem hi)
        have s2 := bM (k := k) (n := n') (a := a') (b := b') (List.getElem_mem hi')
        rw [e1] at s1
        rw [e2] at s2
        have s3 := bM (k := k1) (n := n1) (a := a1) (b := b1) (kids := [c1]) (t := c1) (by simp)
        have s4 := bM (k := k2) (n := n2) (a := a2) (b := b2) (kids := [c2]) (t := c2) (by simp)
        rw [e1, e2]
        exact aAG _ _ _ _ _ _ _ _ c1 c2 (ih c1 (by omega) c2 hc1 hc2 (bH w1 (by simp)) (bH w2 (by simp)) (by omega) (by omega))
      refine aJ Tryz.func26 rfl rfl (nb rfl) rfl ?_
      repeat' (first | refine aG ?_ | (refine aI ?_;  first | refine aC tabOk rfl rfl rfl (nb rfl) rfl ?_ | refine bU rfl rfl (nb rfl) ?_ | (refine aK rfl rfl rfl (nb rfl) rfl rfl rfl (fun hq => ?_) (fun hq => ?_) <;> (first | (simp only [sD, sE, sB, sC, sN, sM, sT, sF] at hq; try (exfalso; omega)) | skip)) | (refine cB rfl rfl rfl (nb rfl) rfl rfl rfl (gL ks ks' _ likeK hl hl' (hf ⟨by assumption, by assumption⟩)) (fun hq => ?_) (fun hq => ?_))) | (refine aN ?_;  first | refine aH ?_ | refine aQ ?_ | refine aR ?_ | refine aY ?_ | refine aD (b := true) rfl (fun _ => ?_) nTf | refine aD (b := false) rfl nFt (fun _ => ?_) | refine aX mixed (by kernel_rfl) ?_) | (refine aM ?_;  first | refine bA ?_ | refine aU ?_) | refine bG (bF (by kernel_rfl)) ?_)
      all_goals (refine aT (by first | exact .inl rfl | exact .inr rfl) (bC rfl (aA rfl)) rfl ?_; refine cM ?_; simp_all [likeP, qE, eqB])
end Go.Proofs.YtlbemgokilhdnaaGreat.Ab
namespace Go.Proofs.YtlbemgokilhdnaaGreat.Ab
set_option linter.unusedVariables false
set_option linter.unusedSimpArgs false
open Go.RowKit Go.Lib Go.Proofs.YtlbemgokilhdnaaGreat.RP
attribute [local irreducible] AWP AOps AExit AThen ABlock ANoGoto FeetOk
abbrev tOpen : ByteArray := ⟨#[32, 40, 32]⟩
abbrev tShut : ByteArray := ⟨#[32, 41]⟩
abbrev tIs : ByteArray := ⟨#[32, 61, 32]⟩
abbrev tSep : ByteArray := ⟨#[32, 44, 32]⟩
abbrev tTrue : ByteArray := ⟨#[116, 114, 117, 101]⟩
abbrev tFalse : ByteArray := ⟨#[102, 97, 108, 115, 101]⟩
abbrev tUnit : ByteArray := ⟨#[40, 32, 41]⟩
abbrev tRec0 : ByteArray := ⟨#[123, 32, 125]⟩
abbrev tRec1 : ByteArray := ⟨#[123, 32]⟩
abbrev tRec2 : ByteArray := ⟨#[32, 125]⟩
def txRec (r : List ByteArray × Bool) : ByteArray × Bool := if r.2 = true then (if r.1.length = 0 then tRec0 else tRec1 ++ joinS tSep r.1 ++ tRec2, true) else (⟨#[]⟩, false)
mutual
def txP : Tree → ByteArray × Bool
  | .nil => (⟨#[]⟩, false)
  | .node k n a b ks => if k = 131 then (numP n, true) else if k = 132 then (if n = 1 then tTrue else tFalse, true) else if k = 133 then (tUnit, true)
    else if k = 146 then tx2 a ks else if k = 136 then txRec (txKs ks) else (⟨#[]⟩, false)
def tx2 (a : ByteArray) : List Tree → ByteArray × Bool
  | [_, y] => (a ++ tOpen ++ (txP y).1 ++ tShut, (txP y).2)
  | _ => (⟨#[]⟩, false)
def txKs : List Tree → List ByteArray × Bool
  | [] => ([], true)
  | t :: ts => ((txK t).1 :: (txKs ts).1, (txK t).2 && (txKs ts).2)
def txK : Tree → ByteArray × Bool
  | .nil => (⟨#[]⟩, false)
  | .node _ _ a _ ks => tx1 a ks
def tx1 (a : ByteArray) : List Tree → ByteArray × Bool
  | [c] => (a ++ tIs ++ (txP c).1, (txP c).2)
  | _ => (⟨#[]⟩, false)
end
theorem dU : ∀ l : List Tree, (txKs l).1 = l.map (fun t => (txK t).1) ∧ (txKs l).2 = l.all (fun t => (txK t).2)
  | [] => by simp [txKs]
  | t :: ts => by simp [txKs, (dU ts).1, (dU ts).2]
/-- What a term's form gives for the kinds that have a text. -/
theorem qF {n : Int} {a b : ByteArray} {ks : List Tree} (h : isTermP (.node 146 n a b ks) = true) : ∃ x y, ks = [x, y] ∧ isTermP y = true := by
  rw [isTermP] at h
  simp only [Bool.and_eq_true] at h
  have h2 := h.2
  match ks, h2 with
  | [x, y], h2 =>
    have h3 : isT_ct [x, y] = true := by simpa using h2
    rw [isT_ct, Bool.and_eq_true] at h3
    exact ⟨x, y, rfl, h3.2⟩
  | [], h2 => simp [isT_ct] at h2
  | [x], h2 => simp [isT_ct] at h2
  | x :: y :: z :: r, h2 => simp [isT_ct] at h2
theorem qG {n : Int} {a b : ByteArray} {ks : List Tree} (h : isTermP (.node 136 n a b ks) = true) : ∀ t ∈ ks, ∃ k n a b c, t = .node k n a b [c] ∧ isTermP c = true := by
  rw [isTermP] at h
  simp only [Bool.and_eq_true] at h
  have h2 := h.2
  have h3 : fieldsP ks 137 = true := by
    simp at h2
    exact h2.1.1
  rw [gD, List.all_eq_true] at h3
  intro t ht
  have h4 := h3 t ht
  cases t with
  | nil => simp [okField] at h4
  | node k n a b q =>
    simp only [okField, Bool.and_eq_true] at h4
    have h5 := h4.2
    match q, h5 with
    | [c], h5 => exact ⟨k, n, a, b, c, rfl, by simpa [isT_t] using h5⟩
    | [], h5 => simp [isT_t] at h5
    | x :: y :: r, h5 => simp [isT_t] at h5
theorem aBM {n : Int} {k : Int} {a b : ByteArray} {ks : List Tree} (h : isTermP (.node k n a b ks) = true) : numberP k n = true := by
  rw [isTermP] at h
  simp only [Bool.and_eq_true, headP] at h
  exact h.1.2
/-- How long a text is. -/
theorem tU : ∀ t : Tree, isTermP t = true → (txP t).1.size ≤ 30 * t.wt := by
  intro t
  induction t using Tree.sind with
  | h t ih =>
    intro ht
    cases t with
    | nil => simp [isTermP] at ht
    | node k n a b ks =>
      rw [txP, Tree.wt]
      have e1 : tTrue.size = 4 := rfl
      have e2 : tFalse.size = 5 := rfl
      have e3 : tUnit.size = 3 := rfl
      have e4 : (⟨#[]⟩ : ByteArray).size = 0 := rfl
      have e5 : tOpen.size = 3 := rfl
      have e6 : tShut.size = 2 := rfl
      have e7 : tRec0.size = 3 := rfl
      have e8 : tRec1.size = 2 := rfl
      have e9 : tRec2.size = 2 := rfl
      have e10 : tIs.size = 3 := rfl
      have e11 : tSep.size = 3 := rfl
      split
      · have := aAE n
        dsimp only; omega
      · split
        · dsimp only; split <;> omega
        · split
          · dsimp only; omega
          · split
            · rename_i h146
              subst h146
              obtain ⟨x, y, rfl, hy⟩ := qF ht
              have hw := ih y (bM (by simp)) hy
              rw [tx2]
              dsimp only
              rw [cH, cH, cH]
              simp only [Tree.wts]
              omega
            · split
              · rename_i h136
                subst h136
                have hr := qG ht
                have hsum : ((txKs ks).1.map fun s => s.size + tSep.size).sum ≤ 30 * Tree.wts ks := by
                  rw [(dU ks).1, List.map_map]
                  have key : ∀ l : List Tree, (∀ t ∈ l, t ∈ ks) → (l.map ((fun s : ByteArray => s.size + tSep.size) ∘ fun t => (txK t).1)).sum ≤ 30 * Tree.wts l := by
                    intro l
                    induction l with
                    | nil => intro _; exact Nat.zero_le _
                    | cons u l ihl =>
                      intro hm
                      have h1 := ihl (fun t h => hm t (List.mem_cons_of_mem _ h))
                      have hu := hm u List.mem_cons_self
                      obtain ⟨k1, n1, a1, b1, c, rfl, hc⟩ := hr u hu
                      have s1 := bM (k := 136) (n := n) (a := a) (b := b) hu
                      have s2 := bM (k := k1) (n := n1) (a := a1) (b := b1) (kids := [c]) (t := c) (by simp)
                      have hw := ih c (by omega) hc
                      rw [List.map_cons, List.sum_cons, Tree.wts]
                      have e : ((fun s : ByteArray => s.size + tSep.size) ∘ fun t => (txK t).1) (.node k1 n1 a1 b1 [c]) = a1.size + 3 + (txP c).1.size + 3 := by
                        show (txK _).1.size + tSep.size = _
                        rw [txK, tx1]
                        dsimp only
                        rw [cH, cH, e10, e11]
                      rw [e]
                      simp only [Tree.wt, Tree.wts]
                      omega
                  exact key ks (fun t h => h)
                have hj := xZ tSep (txKs ks).1
                unfold txRec
                split
                · dsimp only
                  split
                  · omega
                  · rw [cH, cH]; omega
                · dsimp only; omega
              · dsimp only; omega
end Go.Proofs.YtlbemgokilhdnaaGreat.Ab
namespace Go.Proofs.YtlbemgokilhdnaaGreat.Ab
set_option linter.unusedVariables false
set_option linter.unusedSimpArgs false
open Go.RowKit Go.Lib Go.Proofs.YtlbemgokilhdnaaGreat.RP
attribute [local irreducible] AWP AOps AExit AThen ABlock ANoGoto FeetOk
theorem aAH (l : List Tree) (j : Nat) (h : j < l.length) : (txKs (l.take (j + 1))).1 = (txKs (l.take j)).1 ++ [(txK l[j]).1] := by
  rw [(dU _).1, (dU _).1, List.take_succ_eq_append_getElem h, List.map_append, List.map_singleton]
theorem tV {n : Int} (h : numberP 131 n = true) : -9223372036854775808 ≤ n ∧ n ≤ 9223372036854775807 := by
  unfold numberP at h
  simp at h
  omega
theorem tW {k n : Int} {a b : ByteArray} {kids : List Tree} {t : Tree} (h : t ∈ kids) : t.wt ≤ (Tree.node k n a b kids).wt := by
  have := yN h
  rw [Tree.wt]; omega
set_option maxHeartbeats 16000000 in
set_option maxRecDepth 10000 in
theorem aBN (t : Tree) : isTermP t = true → t.whole = true → t.size ≤ 1000000 → t.wt ≤ 1000000 →
    ACalls Tryz.prog 25 [.imm t.iv] [] (.imm (.tup [.lit (.string (txP t).1), .lit (.bool (txP t).2)])) [] := by
  induction t using Tree.sind with
  | h t ih =>
    intro ht hw hs hwt
    obtain ⟨k, n, a, b, ks, rfl⟩ := cD hw
    have hl : ks.length < 1000000 := by have := cI ks hw; simp only [Tree.size] at hs; omega
    have hsz := tU _ ht
    have haz : a.size ≤ 1000000 := by rw [Tree.wt] at hwt; omega
    rw [txP] at hsz ⊢
    by_cases h131 : k = 131
    · subst h131
      have hr := tV (aBM ht)
      have c1 := aBK n hr.1 hr.2
      rw [if_pos rfl]
      refine aJ Tryz.func25 rfl rfl (nb rfl) rfl ?_
      repeat' (first | refine aG ?_ | (refine aI ?_;  first | refine aC tabOk rfl rfl rfl (nb rfl) rfl ?_ | (refine aK rfl rfl rfl (nb rfl) rfl rfl rfl (fun hq => ?_) (fun hq => ?_) <;> (first | (simp only [sD, sE, sB, sC, sN, sM, sT, sF] at hq; try (exfalso; omega)) | skip)) | refine aE rfl rfl (nb rfl) rfl rfl rfl rfl (c1) ?_) | (refine aN ?_;  first | refine aH ?_ | refine aQ ?_ | refine aW ?_ | refine aR ?_ | refine aD (b := true) rfl (fun _ => ?_) nTf) | (refine aM ?_;  first | refine aU ?_) | (refine aV ?_;  first | refine bD ?_))
      all_goals first
        | (refine aT (by first | exact .inl rfl | exact .inr rfl) (bB rfl (aA rfl) (aA rfl)) rfl ?_; rfl)
        | exact absurd rfl (by assumption)
    · rw [if_neg h131] at hsz ⊢
      by_cases h132 : k = 132
      · subst h132
        rw [if_pos rfl]
        by_cases hn : n = 1
        · subst hn
          refine aJ Tryz.func25 rfl rfl (nb rfl) rfl ?_
          repeat' (first | refine aG ?_ | (refine aI ?_;  first | refine aC tabOk rfl rfl rfl (nb rfl) rfl ?_ | (refine aK rfl rfl rfl (nb rfl) rfl rfl rfl (fun hq => ?_) (fun hq => ?_) <;> (first | (simp only [sD, sE, sB, sC, sN, sM, sT, sF] at hq; try (exfalso; omega)) | skip))) | (refine aN ?_;  first | refine aH ?_ | refine aQ ?_ | refine aW ?_ | refine aR ?_ | refine aD (b := true) rfl (fun _ => ?_) nTf | refine aD (b := false) rfl nFt (fun _ => ?_)) | (refine aM ?_;  first | refine aU ?_) | (refine aV ?_;  first | refine bD ?_))
          all_goals first
            | (refine aT (by first | exact .inl rfl | exact .inr rfl) (bB rfl (aA rfl) (aA rfl)) rfl ?_; rfl)
            | exact absurd rfl (by assumption)
        · rw [if_neg hn]
          refine aJ Tryz.func25 rfl rfl (nb rfl) rfl ?_
          repeat' (first | refine aG ?_ | (refine aI ?_;  first | refine aC tabOk rfl rfl rfl (nb rfl) rfl ?_ | (refine aK rfl rfl rfl (nb rfl) rfl rfl rfl (fun hq => ?_) (fun hq => ?_) <;> (first | (simp only [sD, sE, sB, sC, sN, sM, sT, sF] at hq; try (exfalso; omega)) | skip))) | (refine aN ?_;  first | refine aH ?_ | refine aQ ?_ | refine aW ?_ | refine aR ?_ | refine aY ?_ | refine aD (b := true) rfl (fun _ => ?_) nTf | refine aD (b := false) rfl nFt (fun _ => ?_)) | (refine aM ?_;  first | refine bA ?_ | refine aU ?_) | (refine aV ?_;  first | refine bD ?_))
          all_goals first
            | (refine aT (by first | exact .inl rfl | exact .inr rfl) (bB rfl (aA rfl) (aA rfl)) rfl ?_; rfl)
            | exact absurd rfl (by assumption)
            | exact absurd (by assumption) hn
      · rw [if_neg h132] at hsz ⊢
        by_cases h133 : k = 133
        · subst h133
          rw [if_pos rfl]
          refine aJ Tryz.func25 rfl rfl (nb rfl) rfl ?_
          repeat' (first | refine aG ?_ | (refine aI ?_;  first | refine aC tabOk rfl rfl rfl (nb rfl) rfl ?_ | (refine aK rfl rfl rfl (nb rfl) rfl rfl rfl (fun hq => ?_) (fun hq => ?_) <;> (first | (simp only [sD, sE, sB, sC, sN, sM, sT, sF] at hq; try (exfalso; omega)) | skip))) | (refine aN ?_;  first | refine aH ?_ | refine aQ ?_ | refine aW ?_ | refine aR ?_ | refine aD (b := true) rfl (fun _ => ?_) nTf | refine aD (b := false) rfl nFt (fun _ => ?_)) | (refine aM ?_;  first | refine aU ?_) | (refine aV ?_;  first | refine bD ?_))
          all_goals first
            | (refine aT (by first | exact .inl rfl | exact .inr rfl) (bB rfl (aA rfl) (aA rfl)) rfl ?_; rfl)
            | exact absurd rfl (by assumption)
        · rw [if_neg h133] at hsz ⊢
          by_cases h146 : k = 146
          · subst h146
            rw [if_pos rfl] at hsz ⊢
            obtain ⟨x, y, rfl, hy⟩ := qF ht
            have c1 := ih y (bM (by simp)) hy (bH hw (by simp)) (by have := bM (k := 146) (n := n) (a := a) (b := b) (kids := [x, y]) (t := y) (by simp); omega) (Nat.le_trans (tW (by simp)) hwt)
            have hyz := tU y hy
            have hyw := tW (k := 146) (n := n) (a := a) (b := b) (kids := [x, y]) (t := y) (by simp)
            rw [tx2]
            dsimp only
            have e5 : (⟨#[32, 40, 32]⟩ : ByteArray).size = 3 := rfl
            have e6 : (⟨#[32, 41]⟩ : ByteArray).size = 2 := rfl
            generalize txP y = R at *
            obtain ⟨R1, R2⟩ := R
            dsimp only at *
            refine aJ Tryz.func25 rfl rfl (nb rfl) rfl ?_
            repeat' (first | refine aG ?_ | (refine aI ?_;  first | refine aC tabOk rfl rfl rfl (nb rfl) rfl ?_ | (refine aK rfl rfl rfl (nb rfl) rfl rfl rfl (fun hq => ?_) (fun hq => ?_) <;> (first | (simp only [sD, sE, sB, sC, sN, sM, sT, sF] at hq; try (exfalso; omega)) | skip)) | refine aE rfl rfl (nb rfl) rfl rfl rfl rfl (c1) ?_ | refine iX rfl rfl rfl (nb rfl) rfl rfl (by first | omega | (simp only [cH]; omega)) ?_ | refine bE tabOk rfl rfl rfl (nb rfl) rfl rfl rfl rfl (by first | rfl | omega) (by first | omega | simp) ?_) | (refine aN ?_;  first | refine aH ?_ | refine aQ ?_ | refine aW ?_ | refine aR ?_ | refine aD (b := true) rfl (fun _ => ?_) nTf | refine aD (b := false) rfl nFt (fun _ => ?_)) | (refine aM ?_;  first | refine aU ?_) | (refine aV ?_;  first | refine bD ?_))
            all_goals first
              | (refine aT (by first | exact .inl rfl | exact .inr rfl) (bB rfl (aA rfl) (aA rfl)) rfl ?_; rfl)
              | exact absurd rfl (by assumption)
          · rw [if_neg h146] at hsz ⊢
            by_cases h136 : k = 136
            · subst h136
              rw [if_pos rfl] at hsz ⊢
              have hr := qG ht
              refine cO Tryz.func25 rfl rfl (nb rfl) rfl ?_
              repeat' (first | refine aG ?_ | (refine aI ?_;  first | refine aC tabOk rfl rfl rfl (nb rfl) rfl ?_ | (refine aK rfl rfl rfl (nb rfl) rfl rfl rfl (fun hq => ?_) (fun hq => ?_) <;> (first | (simp only [sD, sE, sB, sC, sN, sM, sT, sF] at hq; try (exfalso; omega)) | skip)) | refine aZ tabOk rfl rfl (nb rfl) rfl ?_) | (refine aN ?_;  first | refine aH ?_ | refine aQ ?_ | refine aW ?_ | refine aD (b := true) rfl (fun _ => ?_) nTf | refine aD (b := false) rfl nFt (fun _ => ?_)))
              all_goals first | exact absurd rfl (by assumption) | skip
              have hwk : (Tree.node 136 n a b ks).wt = 1 + a.size + b.size + Tree.wts ks := by rw [Tree.wt]
              refine cU (oD (t := 6) 500 9 1 rfl (by simp) rfl rfl) ?_
              refine cG (ι := {j : Nat // j ≤ ks.length ∧ ∀ t ∈ ks.take j, (txK t).2 = true}) (fun j => S.f ⟨[(59, .imm (.lit (.int .i64 (j.1 : Int)))), (58, .imm (.lit (.int .i64 (ks.length : Int)))), (57, .imm (.sl false ks.length (Tree.ivs ks))), (6, .ref 500 j.1)], [(500, .arr 9 1 j.1 (strs (txKs (ks.take j.1)).1))]⟩) (fun j => ks.length - j.1) ⟨0, Nat.zero_le _, fun t h => by rw [List.take_zero] at h; cases h⟩ (bZ (by repeat' first | exact trivial | refine ⟨rfl, ?_⟩) (by repeat' first | exact trivial | refine ⟨rfl, ?_⟩)) ?_
              rintro ⟨j, hj, hall⟩
              dsimp only
              by_cases hlt : j < ks.length
              · have hmem := List.getElem_mem hlt
                have hiv := cQ ks j hlt
                obtain ⟨k1, n1, a1, b1, c, e1, hc⟩ := hr _ hmem
                have hsn := aAH ks j hlt
                have s1 := bM (k := 136) (n := n) (a := a) (b := b) hmem
                have w1 := tW (k := 136) (n := n) (a := a) (b := b) hmem
                have hwh := bH hw hmem
                have hall2 : (txK ks[j]).2 = true → ∀ t ∈ ks.take (j + 1), (txK t).2 = true := fun h t ht2 => by
                  rw [List.take_succ_eq_append_getElem hlt, List.mem_append] at ht2
                  rcases ht2 with ht2 | ht2
                  · exact hall t ht2
                  · rw [List.mem_singleton.1 ht2]; exact h
                have hbadk : (txK ks[j]).2 = false → txRec (txKs ks) = (⟨#[]⟩, false) := fun h => by
                  unfold txRec
                  rw [if_neg]
                  rw [(dU ks).2, List.all_eq_true]
                  intro hc2
                  have := hc2 _ hmem
                  rw [h] at this
                  cases this
                rw [e1] at hiv hsn s1 w1 hwh hall2 hbadk
                have s2 := bM (k := k1) (n := n1) (a := a1) (b := b1) (kids := [c]) (t := c) (by simp)
                have w2 := tW (k := k1) (n := n1) (a := a1) (b := b1) (kids := [c]) (t := c) (by simp)
                have c1 := ih c (by omega) hc (bH hwh (by simp)) (by omega) (by omega)
                have hcz := tU c hc
                have ha1 : a1.size ≤ (Tree.node k1 n1 a1 b1 [c]).wt := by rw [Tree.wt]; omega
                have e10 : (⟨#[32, 61, 32]⟩ : ByteArray).size = 3 := rfl
                rw [txK, tx1] at hsn hall2 hbadk
                dsimp only at hsn hall2 hbadk
                have hD := aAF (txKs (ks.take j)).1 (a1 ++ tIs ++ (txP c).1)
                rw [← hsn] at hD
                change (Tree.ivs ks)[j * 1]? = some (.ptr [.lit (.int .i64 k1), .lit (.int .i64 n1), .lit (.string a1), .lit (.string b1), .sl false 1 [c.iv]] 0) at hiv
                generalize txP c = R at *
                obtain ⟨R1, R2⟩ := R
                dsimp only at *
                cases R2 with
                | false =>
                  rw [hbadk rfl]
                  repeat' (first | refine aG ?_ | (refine aI ?_;  first | refine aC tabOk rfl rfl rfl (nb rfl) rfl ?_ | (refine aK rfl rfl rfl (nb rfl) rfl rfl rfl (fun hq => ?_) (fun hq => ?_) <;> (first | (simp only [sD, sE, sB, sC, sN, sM, sT, sF] at hq; try (exfalso; omega)) | skip)) | refine aE rfl rfl (nb rfl) rfl rfl rfl rfl (c1) ?_ | refine bN tabOk rfl rfl rfl (nb rfl) rfl rfl rfl hiv ?_ | refine bI tabOk rfl rfl rfl (nb rfl) rfl rfl rfl rfl (by first | assumption | omega) ?_ | refine bE tabOk rfl rfl rfl (nb rfl) rfl rfl rfl rfl (by first | rfl | omega) (by first | omega | simp) ?_) | (refine aN ?_;  first | refine aH ?_ | refine aQ ?_ | refine aW ?_ | refine aR ?_ | refine aY ?_ | refine aD (b := true) rfl (fun _ => ?_) nTf) | (refine aM ?_;  first | refine bA ?_ | refine aU ?_) | (refine aV ?_;  first | refine bD ?_))
                  all_goals first
                    | (refine cL ?_; refine aT (by first | exact .inl rfl | exact .inr rfl) (bB rfl (aA rfl) (aA rfl)) rfl ?_; rfl)
                    | (exfalso; omega)
                | true =>
                  repeat' (first | refine aG ?_ | (refine aI ?_;  first | refine aC tabOk rfl rfl rfl (nb rfl) rfl ?_ | (refine aK rfl rfl rfl (nb rfl) rfl rfl rfl (fun hq => ?_) (fun hq => ?_) <;> (first | (simp only [sD, sE, sB, sC, sN, sM, sT, sF] at hq; try (exfalso; omega)) | skip)) | refine aE rfl rfl (nb rfl) rfl rfl rfl rfl (c1) ?_ | refine bN tabOk rfl rfl rfl (nb rfl) rfl rfl rfl hiv ?_ | refine iX rfl rfl rfl (nb rfl) rfl rfl (by first | omega | (simp only [cH]; omega)) ?_ | refine cN tabOk rfl rfl rfl (nb rfl) rfl rfl rfl rfl rfl rfl rfl (by first | omega | decide) rfl (by first | omega | (dsimp only; omega)) (by first | omega | (dsimp only; omega)) ?_ | refine cA rfl rfl rfl (nb rfl) rfl rfl (by omega) ?_ | refine cK tabOk rfl rfl rfl (nb rfl) rfl rfl rfl rfl rfl rfl rfl rfl rfl ?_ | refine bI tabOk rfl rfl rfl (nb rfl) rfl rfl rfl rfl (by first | assumption | omega) ?_ | refine bE tabOk rfl rfl rfl (nb rfl) rfl rfl rfl rfl (by first | rfl | omega) (by first | omega | simp) ?_) | (refine aN ?_;  first | refine aH ?_ | refine aQ ?_ | refine bJ ?_ | refine aW ?_ | refine aY ?_ | refine aD (b := true) rfl (fun _ => ?_) nTf | refine aD (b := false) rfl nFt (fun _ => ?_)) | (refine aM ?_;  first | refine bA ?_) | (refine aV ?_;  first | refine bS ?_))
                  all_goals first
                    | (exfalso; omega)
                    | (refine ⟨⟨j + 1, hlt, hall2 rfl⟩, (by show ks.length - (j + 1) < ks.length - j; omega), ?_⟩; dsimp only; rw [hD]; exact (bZ (by repeat' first | exact trivial | refine ⟨rfl, ?_⟩) (by repeat' first | exact trivial | refine ⟨rfl, ?_⟩)))
              · have ej : j = ks.length := by omega
                subst ej
                rw [List.take_length] at hall ⊢
                have hok : (txKs ks).2 = true := by rw [(dU ks).2, List.all_eq_true]; exact hall
                have hpl : (txKs ks).1.length = ks.length := by rw [(dU ks).1, List.length_map]
                have hT : txRec (txKs ks) = (if (txKs ks).1.length = 0 then tRec0 else tRec1 ++ joinS tSep (txKs ks).1 ++ tRec2, true) := by
                  unfold txRec; rw [if_pos hok]
                rw [hT] at hsz ⊢
                dsimp only at hsz ⊢
                generalize (txKs ks).1 = L at *
                refine cU ((Imp.of_le (σ' := S.f ⟨[(6, .ref 500 ks.length), (59, .imm (.lit (.int .i64 (ks.length : Int)))), (58, .imm (.lit (.int .i64 (ks.length : Int))))], [(500, .arr 9 1 ks.length (strs L))]⟩) (bZ (by repeat' first | exact trivial | refine ⟨rfl, ?_⟩) (by repeat' first | exact trivial | refine ⟨rfl, ?_⟩))).trans (cV (g := 500) rfl (by repeat' first | exact trivial | exact fun _ => rfl | refine ⟨?_, ?_⟩) (by repeat' first | exact trivial | exact fun _ => rfl | refine ⟨?_, ?_⟩))) ?_
                rw [← hpl] at hl ⊢
                by_cases h0 : L.length = 0
                · rw [if_pos h0]
                  repeat' (first | refine aG ?_ | (refine aI ?_;  first | refine aC tabOk rfl rfl rfl (nb rfl) rfl ?_ | (refine aK rfl rfl rfl (nb rfl) rfl rfl rfl (fun hq => ?_) (fun hq => ?_) <;> (first | (simp only [sD, sE, sB, sC, sN, sM, sT, sF] at hq; try (exfalso; omega)) | skip)) | refine aZ tabOk rfl rfl (nb rfl) rfl ?_) | (refine aN ?_;  first | refine aH ?_ | refine aQ ?_ | refine aR ?_ | refine bY ?_ | refine aD (b := true) rfl (fun _ => ?_) nTf | refine aD (b := false) rfl nFt (fun _ => ?_)) | (refine aM ?_;  first | refine bA ?_ | refine bP ?_ | refine aU ?_) | (refine aV ?_;  first | refine bL ?_ | refine bD ?_))
                  all_goals first
                    | (exfalso; omega)
                    | (refine cL ?_; refine aT (by first | exact .inl rfl | exact .inr rfl) (bB rfl (aA rfl) (aA rfl)) rfl ?_; rfl)
                · rw [if_neg h0] at hsz ⊢
                  have e8 : tRec1.size = 2 := rfl
                  have e9 : tRec2.size = 2 := rfl
                  have e8' : (⟨#[123, 32]⟩ : ByteArray).size = 2 := rfl
                  have e9' : (⟨#[32, 125]⟩ : ByteArray).size = 2 := rfl
                  rw [cH, cH] at hsz
                  have c1 := aCy false L tSep (by omega) (by omega)
                  repeat' (first | refine aG ?_ | (refine aI ?_;  first | refine aC tabOk rfl rfl rfl (nb rfl) rfl ?_ | (refine aK rfl rfl rfl (nb rfl) rfl rfl rfl (fun hq => ?_) (fun hq => ?_) <;> (first | (simp only [sD, sE, sB, sC, sN, sM, sT, sF] at hq; try (exfalso; omega)) | skip)) | refine aE rfl rfl (nb rfl) rfl rfl rfl rfl (c1) ?_ | refine iX rfl rfl rfl (nb rfl) rfl rfl (by first | omega | (simp only [cH]; omega)) ?_ | refine aZ tabOk rfl rfl (nb rfl) rfl ?_) | (refine aN ?_;  first | refine aH ?_ | refine aQ ?_ | refine aR ?_ | refine bY ?_ | refine aY ?_ | refine aD (b := false) rfl nFt (fun _ => ?_)) | (refine aM ?_;  first | refine bA ?_ | refine bP ?_ | refine aU ?_) | (refine aV ?_;  first | refine bL ?_ | refine bD ?_))
                  all_goals first
                    | (exfalso; omega)
                    | (refine cL ?_; refine aT (by first | exact .inl rfl | exact .inr rfl) (bB rfl (aA rfl) (aA rfl)) rfl ?_; rfl)
            · rw [if_neg h136] at hsz ⊢
              refine aJ Tryz.func25 rfl rfl (nb rfl) rfl ?_
              repeat' (first | refine aG ?_ | (refine aI ?_;  first | refine aC tabOk rfl rfl rfl (nb rfl) rfl ?_ | (refine aK rfl rfl rfl (nb rfl) rfl rfl rfl (fun hq => ?_) (fun hq => ?_) <;> (first | (simp only [sD, sE, sB, sC, sN, sM, sT, sF] at hq; try (exfalso; omega)) | skip))) | (refine aN ?_;  first | refine aH ?_ | refine aQ ?_ | refine aW ?_ | refine aR ?_ | refine aY ?_ | refine aD (b := false) rfl nFt (fun _ => ?_)) | (refine aM ?_;  first | refine bA ?_) | (refine aV ?_;  first | refine bS ?_))
              all_goals first
                | (refine aT (by first | exact .inl rfl | exact .inr rfl) (bB rfl (aA rfl) (aA rfl)) rfl ?_; rfl)
                | exact absurd (by assumption) h131
                | exact absurd (by assumption) h132
                | exact absurd (by assumption) h133
                | exact absurd (by assumption) h146
                | exact absurd (by assumption) h136
end Go.Proofs.YtlbemgokilhdnaaGreat.Ab
namespace Go.Proofs.YtlbemgokilhdnaaGreat.Ab
set_option linter.unusedVariables false
set_option linter.unusedSimpArgs false
open Go.RowKit Go.Lib Go.Proofs.YtlbemgokilhdnaaGreat.RP
attribute [local irreducible] AWP AOps AExit AThen ABlock ANoGoto FeetOk
def gTextP (t : Tree) : ByteArray × Int := if tcheckP t = 0 then (if (txP t).2 = true then ((txP t).1, 0) else (⟨#[]⟩, 25)) else (⟨#[]⟩, tcheckP t)
theorem sI {t : Tree} (h : tcheckP t = 0) : isTermP t = true ∧ t.whole = true := by
  unfold tcheckP checkP at h
  by_cases hw : (wholeP t 65536).1 = 0
  · rw [if_pos hw] at h
    by_cases hf : isTermP t = true
    · exact ⟨hf, fG t _ hw⟩
    · rw [if_neg hf] at h
      exact absurd h (by decide)
  · rw [if_neg hw] at h
    exact absurd h hw
set_option maxHeartbeats 4000000 in
set_option maxRecDepth 10000 in
theorem oG (t : Tree) (hs : t.size ≤ 1000000) (hw : t.wt ≤ 1000000) : ACalls Tryz.prog 10 [.imm t.iv] [] (.imm (.tup [.lit (.string (gTextP t).1), .lit (.int .i64 (gTextP t).2)])) [] := by
  have c1 := lB t (by omega)
  unfold gTextP
  by_cases h : tcheckP t = 0
  · obtain ⟨ht, hwh⟩ := sI h
    have c2 := aBN t ht hwh hs hw
    rw [if_pos h]
    rw [h] at c1
    generalize txP t = R at *
    obtain ⟨R1, R2⟩ := R
    cases R2 <;>
    (refine aJ Tryz.func10 rfl rfl (nb rfl) rfl ?_
     repeat' (first | refine aG ?_ | (refine aI ?_;  first | refine aC tabOk rfl rfl rfl (nb rfl) rfl ?_ | (refine aK rfl rfl rfl (nb rfl) rfl rfl rfl (fun hq => ?_) (fun hq => ?_) <;> (first | (simp only [sD, sE, sB, sC, sN, sM, sT, sF] at hq; try (exfalso; omega)) | skip)) | refine aE rfl rfl (nb rfl) rfl rfl rfl rfl (c1) ?_ | refine aE rfl rfl (nb rfl) rfl rfl rfl rfl (c2) ?_) | (refine aN ?_;  first | refine aH ?_ | refine aQ ?_ | refine aR ?_ | refine aY ?_ | refine aD (b := true) rfl (fun _ => ?_) nTf | refine aD (b := false) rfl nFt (fun _ => ?_)) | (refine aM ?_;  first | refine bA ?_ | refine aU ?_))
     all_goals first
       | (refine aT (by first | exact .inl rfl | exact .inr rfl) (bB rfl (aA rfl) (aA rfl)) rfl ?_; rfl)
       | exact absurd rfl (by assumption))
  · rw [if_neg h]
    refine aJ Tryz.func10 rfl rfl (nb rfl) rfl ?_
    repeat' (first | refine aG ?_ | (refine aI ?_;  first | refine aC tabOk rfl rfl rfl (nb rfl) rfl ?_ | (refine aK rfl rfl rfl (nb rfl) rfl rfl rfl (fun hq => ?_) (fun hq => ?_) <;> (first | (simp only [sD, sE, sB, sC, sN, sM, sT, sF] at hq; try (exfalso; omega)) | skip)) | refine aE rfl rfl (nb rfl) rfl rfl rfl rfl (c1) ?_) | (refine aN ?_;  first | refine aH ?_ | refine aQ ?_ | refine aR ?_ | refine aD (b := true) rfl (fun _ => ?_) nTf) | (refine aM ?_;  first | refine aU ?_))
    all_goals first
      | (refine aT (by first | exact .inl rfl | exact .inr rfl) (bB rfl (aA rfl) (aA rfl)) rfl ?_; rfl)
      | exact absurd (by assumption) h
theorem nR : ∀ t : Tree, isTermP t = true → (txP t).2 = true → valP t = true := by
  intro t
  induction t using Tree.sind with
  | h t ih =>
    intro ht hx
    cases t with
    | nil => simp [isTermP] at ht
    | node k n a b ks =>
      rw [txP] at hx
      rw [valP]
      by_cases h1 : k = 131 ∨ k = 132 ∨ k = 133
      · rw [if_pos h1]
        rw [isTermP] at ht
        simp only [Bool.and_eq_true] at ht
        have h2 := ht.2
        rw [if_pos (by omega)] at h2
        exact h2
      · rw [if_neg h1]
        rw [if_neg (fun h => h1 (.inl h)), if_neg (fun h => h1 (.inr (.inl h))), if_neg (fun h => h1 (.inr (.inr h)))] at hx
        by_cases h146 : k = 146
        · rw [if_pos h146] at hx ⊢
          subst h146
          obtain ⟨x, y, rfl, hy⟩ := qF ht
          rw [tx2] at hx
          rw [val2]
          exact ih y (bM (by simp)) hy hx
        · rw [if_neg h146] at hx ⊢
          by_cases h136 : k = 136
          · rw [if_pos h136] at hx ⊢
            subst h136
            have hr := qG ht
            unfold txRec at hx
            split at hx
            · rename_i hok
              rw [(dU ks).2, List.all_eq_true] at hok
              rw [sH, List.all_eq_true]
              intro u hu
              have h3 := hok u hu
              obtain ⟨k1, n1, a1, b1, c, rfl, hc⟩ := hr u hu
              rw [txK, tx1] at h3
              rw [valK, val1]
              have s1 := bM (k := 136) (n := n) (a := a) (b := b) hu
              have s2 := bM (k := k1) (n := n1) (a := a1) (b := b1) (kids := [c]) (t := c) (by simp)
              exact ih c (by omega) hc h3
            · cases hx
          · rw [if_neg h136] at hx
            cases hx
theorem vY (a : ByteArray) : eqB a a = true := beq_iff_eq.2 rfl
def gLikeP (s t : Tree) : Bool := decide ((gTextP s).2 = 0) && (decide ((gTextP t).2 = 0) && likeP s t)
theorem vZ {t : Tree} (h : (gTextP t).2 = 0) : isTermP t = true ∧ t.whole = true ∧ valP t = true ∧ gTextP t = ((txP t).1, 0) := by
  unfold gTextP at h ⊢
  split at h
  · rename_i h0
    rw [if_pos h0]
    obtain ⟨h1, h2⟩ := sI h0
    split at h
    · rename_i h3
      rw [if_pos h3]
      exact ⟨h1, h2, nR t h1 h3, rfl⟩
    · cases h
  · rename_i h0; exact absurd h h0
set_option maxHeartbeats 4000000 in
set_option maxRecDepth 10000 in
theorem yZ (s t : Tree) (hs : s.size ≤ 1000000) (hw : s.wt ≤ 1000000) (ht : t.size ≤ 1000000) (hv : t.wt ≤ 1000000) : ACalls Tryz.prog 11 [.imm s.iv, .imm t.iv] [] (.imm (.lit (.bool (gLikeP s t)))) [] := by
  have c1 := oG s hs hw
  have c2 := oG t ht hv
  unfold gLikeP
  have c3 : (gTextP s).2 = 0 → (gTextP t).2 = 0 → ACalls Tryz.prog 26 [.imm s.iv, .imm t.iv] [] (.imm (.lit (.bool (likeP s t)))) [] := fun h1 h2 => by
    obtain ⟨_, w1, v1, _⟩ := vZ h1
    obtain ⟨_, w2, v2, _⟩ := vZ h2
    exact aBL s t v1 v2 w1 w2 (by omega) (by omega)
  generalize gTextP s = R at *
  generalize gTextP t = Q at *
  generalize likeP s t = b at *
  obtain ⟨R1, R2⟩ := R
  obtain ⟨Q1, Q2⟩ := Q
  dsimp only at *
  by_cases h1 : R2 = 0
  · by_cases h2 : Q2 = 0
    · have c4 := c3 h1 h2
      rw [decide_eq_true h1, decide_eq_true h2]
      subst h1
      subst h2
      cases b <;>
      (refine aJ Tryz.func11 rfl rfl (nb rfl) rfl ?_
       repeat' (first | refine aG ?_ | (refine aI ?_;  first | refine aC tabOk rfl rfl rfl (nb rfl) rfl ?_ | (refine aK rfl rfl rfl (nb rfl) rfl rfl rfl (fun hq => ?_) (fun hq => ?_) <;> (first | (simp only [sD, sE, sB, sC, sN, sM, sT, sF] at hq; try (exfalso; omega)) | skip)) | refine aE rfl rfl (nb rfl) rfl rfl rfl rfl (c1) ?_ | refine aE rfl rfl (nb rfl) rfl rfl rfl rfl (c2) ?_ | refine aE rfl rfl (nb rfl) rfl rfl rfl rfl (c4) ?_) | (refine aN ?_;  first | refine aH ?_ | refine aR ?_))
       all_goals first
         | (refine aT (by first | exact .inl rfl | exact .inr rfl) (bC rfl (aA rfl)) rfl ?_; rfl)
         | exact absurd rfl (by assumption))
    · rw [decide_eq_true h1, decide_eq_false h2]
      subst h1
      refine aJ Tryz.func11 rfl rfl (nb rfl) rfl ?_
      repeat' (first | refine aG ?_ | (refine aI ?_;  first | refine aC tabOk rfl rfl rfl (nb rfl) rfl ?_ | refine bU rfl rfl (nb rfl) ?_ | (refine aK rfl rfl rfl (nb rfl) rfl rfl rfl (fun hq => ?_) (fun hq => ?_) <;> (first | (simp only [sD, sE, sB, sC, sN, sM, sT, sF] at hq; try (exfalso; omega)) | skip)) | refine aE rfl rfl (nb rfl) rfl rfl rfl rfl (c1) ?_ | refine aE rfl rfl (nb rfl) rfl rfl rfl rfl (c2) ?_) | (refine aN ?_;  first | refine aH ?_ | refine aR ?_))
      all_goals first
        | (refine aT (by first | exact .inl rfl | exact .inr rfl) (bC rfl (aA rfl)) rfl ?_; rfl)
        | exact absurd rfl (by assumption)
        | exact absurd (by assumption) h2
  · rw [decide_eq_false h1]
    refine aJ Tryz.func11 rfl rfl (nb rfl) rfl ?_
    repeat' (first | refine aG ?_ | (refine aI ?_;  first | refine aC tabOk rfl rfl rfl (nb rfl) rfl ?_ | refine bU rfl rfl (nb rfl) ?_ | (refine aK rfl rfl rfl (nb rfl) rfl rfl rfl (fun hq => ?_) (fun hq => ?_) <;> (first | (simp only [sD, sE, sB, sC, sN, sM, sT, sF] at hq; try (exfalso; omega)) | skip)) | refine aE rfl rfl (nb rfl) rfl rfl rfl rfl (c1) ?_ | refine aE rfl rfl (nb rfl) rfl rfl rfl rfl (c2) ?_) | (refine aN ?_;  first | refine aH ?_ | refine aR ?_))
    all_goals first
      | (refine aT (by first | exact .inl rfl | exact .inr rfl) (bC rfl (aA rfl)) rfl ?_; rfl)
      | exact absurd (by assumption) h1
end Go.Proofs.YtlbemgokilhdnaaGreat.Ab
namespace Go.Proofs.YtlbemgokilhdnaaGreat.Ab
set_option linter.unusedVariables false
set_option linter.unusedSimpArgs false
open Go.RowKit Go.Lib Go.Proofs.YtlbemgokilhdnaaGreat.RP
attribute [local irreducible] AWP AOps AExit AThen ABlock ANoGoto FeetOk
def wT1 : Tree := .node 121 0 ⟨#[]⟩ ⟨#[]⟩ [.node 122 0 ⟨#[67]⟩ ⟨#[]⟩ [.node 111 0 ⟨#[]⟩ ⟨#[]⟩ []]]
def wT2 : Tree := .node 136 0 ⟨#[]⟩ ⟨#[]⟩ [.node 137 0 ⟨#[49]⟩ ⟨#[]⟩ [.node 131 2 ⟨#[]⟩ ⟨#[]⟩ []]]
def wT : Tree := .node 146 0 ⟨#[67]⟩ ⟨#[]⟩ [wT1, wT2]
theorem aCz : gTextP wT = (⟨#[67, 32, 40, 32, 123, 32, 49, 32, 61, 32, 50, 32, 125, 32, 41]⟩, 0) := by decide +kernel
theorem aCA : gLikeP wT2 wT2 = true := by decide +kernel
set_option maxHeartbeats 4000000 in
set_option maxRecDepth 10000 in
theorem kD : ACalls Tryz.prog 9 [] [] (.imm (.lit (.bool true))) [] := by
  have c1 := oG wT (by decide) (by decide)
  have c2 := yZ wT2 wT2 (by decide) (by decide) (by decide) (by decide)
  rw [aCz] at c1
  rw [aCA] at c2
  refine aJ Tryz.func9 rfl rfl (nb rfl) rfl ?_
  repeat' (first | refine aG ?_ | (refine aI ?_;  first | refine aC tabOk rfl rfl rfl (nb rfl) rfl ?_ | refine bU rfl rfl (nb rfl) ?_ | (refine aK rfl rfl rfl (nb rfl) rfl rfl rfl (fun hq => ?_) (fun hq => ?_) <;> (first | (simp only [sD, sE, sB, sC, sN, sM, sT, sF] at hq; try (exfalso; omega)) | skip)) | refine aE rfl rfl (nb rfl) rfl rfl rfl rfl (c1) ?_ | refine aE rfl rfl (nb rfl) rfl rfl rfl rfl (c2) ?_ | refine cK tabOk rfl rfl rfl (nb rfl) rfl rfl rfl rfl rfl rfl rfl rfl rfl ?_ | refine aZ tabOk rfl rfl (nb rfl) rfl ?_) | (refine aN ?_;  first | refine aH ?_ | refine aR ?_))
  all_goals first
    | exact dD (by first | exact .inl rfl | exact .inr rfl) (bC rfl (aA rfl)) rfl
    | exact absurd rfl (by assumption)
theorem wB (l : List CellD) (hff : ∀ c ∈ l, c.f = false) : ∃ t : Tree, t.size ≤ 80 ∧ t.wt ≤ 14880 ∧ (t = .nil ∨ t.whole = true) ∧ ACalls Tryz.prog 5 [.imm (.agg [.sl false l.length (cellIVs l)])] [] (.imm t.iv) [] := by
  obtain ⟨t, h, c⟩ := xT l hff
  rcases h with rfl | ⟨h1, h2, h3⟩
  · exact ⟨_, by simp [Tree.size], by simp [Tree.wt], .inl rfl, c⟩
  · exact ⟨t, h2, h3, .inr h1, c⟩
end Go.Proofs.YtlbemgokilhdnaaGreat.Ab
namespace Go.Proofs.YtlbemgokilhdnaaGreat.Ab
set_option linter.unusedVariables false
set_option linter.unusedSimpArgs false
open Go.RowKit Go.Lib Go.Proofs.YtlbemgokilhdnaaGreat.RP
attribute [local irreducible] AWP AOps AExit AThen ABlock ANoGoto FeetOk
/-- What Type tells. -/
def typeP (t : Tree) : Int := if (normalP 1000 t).2 = 0 then (if groundP (normalP 1000 t).1 0 = true then 0 else 25) else (normalP 1000 t).2
theorem yA {t : Tree} (h : (normalP 1000 t).2 = 0) : (normalP 1000 t).1.whole = true ∧ (normalP 1000 t).1.size ≤ 65536 ∧ isConP (normalP 1000 t).1 = true ∧ (StepP (normalP 1000 t).1).2 = (false, 0) := by
  have h1 := (iD 1000 1000 t h).1
  have h2 := bO (vC h1)
  exact ⟨h2.1, h2.2.1, h2.2.2, h1⟩
set_option maxHeartbeats 4000000 in
set_option maxRecDepth 10000 in
theorem aDg (t : Tree) (hs : t.size ≤ 100000000) : ACalls Tryz.prog 8 [.imm t.iv] [] (.imm (.lit (.int .i64 (typeP t)))) [] := by
  have c1 := lW t hs
  unfold typeP
  have hn := @yA t
  generalize normalP 1000 t = N at *
  obtain ⟨m, e⟩ := N
  dsimp only at *
  by_cases he : e = 0
  · subst he
    obtain ⟨h1, h2, h3, _⟩ := hn rfl
    have c2 := aBb m h3 h1 0 (Int.le_refl _) (by omega)
    rw [if_pos rfl]
    cases hg : groundP m 0 with
    | true =>
      rw [hg] at c2
      refine aJ Tryz.func8 rfl rfl (nb rfl) rfl ?_
      repeat' (first | refine aG ?_ | (refine aI ?_;  first | refine aC tabOk rfl rfl rfl (nb rfl) rfl ?_ | (refine aK rfl rfl rfl (nb rfl) rfl rfl rfl (fun hq => ?_) (fun hq => ?_) <;> (first | (simp only [sD, sE, sB, sC, sN, sM, sT, sF] at hq; try (exfalso; omega)) | skip)) | refine aE rfl rfl (nb rfl) rfl rfl rfl rfl (c1) ?_ | refine aE rfl rfl (nb rfl) rfl rfl rfl rfl (c2) ?_) | (refine aN ?_;  first | refine aH ?_ | refine aQ ?_ | refine aR ?_ | refine aY ?_ | refine aD (b := false) rfl nFt (fun _ => ?_)) | (refine aM ?_;  first | refine bA ?_))
      all_goals first
        | exact absurd rfl (by assumption)
        | (refine aT (by first | exact .inl rfl | exact .inr rfl) (bC rfl (aA rfl)) rfl ?_; rfl)
    | false =>
      rw [hg] at c2
      refine aJ Tryz.func8 rfl rfl (nb rfl) rfl ?_
      repeat' (first | refine aG ?_ | (refine aI ?_;  first | refine aC tabOk rfl rfl rfl (nb rfl) rfl ?_ | (refine aK rfl rfl rfl (nb rfl) rfl rfl rfl (fun hq => ?_) (fun hq => ?_) <;> (first | (simp only [sD, sE, sB, sC, sN, sM, sT, sF] at hq; try (exfalso; omega)) | skip)) | refine aE rfl rfl (nb rfl) rfl rfl rfl rfl (c1) ?_ | refine aE rfl rfl (nb rfl) rfl rfl rfl rfl (c2) ?_) | (refine aN ?_;  first | refine aH ?_ | refine aQ ?_ | refine aR ?_ | refine aD (b := true) rfl (fun _ => ?_) nTf) | (refine aM ?_;  first | refine aU ?_))
      all_goals first
        | exact absurd rfl (by assumption)
        | (refine aT (by first | exact .inl rfl | exact .inr rfl) (bC rfl (aA rfl)) rfl ?_; rfl)
  · rw [if_neg he]
    refine aJ Tryz.func8 rfl rfl (nb rfl) rfl ?_
    repeat' (first | refine aG ?_ | (refine aI ?_;  first | refine aC tabOk rfl rfl rfl (nb rfl) rfl ?_ | refine bU rfl rfl (nb rfl) ?_ | (refine aK rfl rfl rfl (nb rfl) rfl rfl rfl (fun hq => ?_) (fun hq => ?_) <;> (first | (simp only [sD, sE, sB, sC, sN, sM, sT, sF] at hq; try (exfalso; omega)) | skip)) | refine aE rfl rfl (nb rfl) rfl rfl rfl rfl (c1) ?_) | (refine aN ?_;  first | refine aH ?_ | refine aQ ?_ | refine aR ?_ | refine aY ?_ | refine aD (b := false) rfl nFt (fun _ => ?_)) | (refine aM ?_;  first | refine bA ?_))
    all_goals first
      | exact absurd (by assumption) he
      | exact absurd rfl (by assumption)
      | (refine aT (by first | exact .inl rfl | exact .inr rfl) (bC rfl (aA rfl)) rfl ?_; rfl)
end Go.Proofs.YtlbemgokilhdnaaGreat.Ab
namespace Go.Proofs.YtlbemgokilhdnaaGreat.Ab
set_option linter.unusedVariables false
set_option linter.unusedSimpArgs false
open Go.RowKit Go.Lib Go.Proofs.YtlbemgokilhdnaaGreat.RP
theorem eL : ∀ (l : List Tree) (s : Int), groundKs l s = true ↔ ∀ t ∈ l, groundK t s = true
  | [], s => by simp [groundKs]
  | t :: l, s => by simp [groundKs, eL l s]
/-- The forms of what is ground. -/
theorem fY {k n s : Int} {a b : ByteArray} {kids : List Tree} (hf : isConP (.node k n a b kids) = true) (hg : groundP (.node k n a b kids) s = true) :
    ((k = 111 ∨ k = 112 ∨ k = 113) ∧ kids = []) ∨ (k = 110 ∧ kids = [] ∧ n < s) ∨
    (∃ kd, (k = 115 ∧ kd = 116 ∧ bindsP k = 0 ∨ k = 121 ∧ kd = 122 ∧ bindsP k = 1) ∧ ∀ t ∈ kids, ∃ n' a' b' c, t = .node kd n' a' b' [c] ∧ isConP c = true ∧ groundP c (s + bindsP k) = true) := by
  have hp := dQ hf
  rw [groundP] at hg
  by_cases e1 : k = 111 ∨ k = 112 ∨ k = 113
  · refine .inl ⟨e1, ?_⟩
    rw [isConP, Bool.and_eq_true] at hf
    have h := hf.2
    rw [if_neg (by omega), if_pos e1] at h
    simpa using h
  · rw [if_neg e1] at hg
    by_cases e2 : k = 110
    · rw [if_pos e2] at hg
      exact .inr (.inl ⟨e2, (hp.1 e2).2.2, by simpa using hg⟩)
    · rw [if_neg e2] at hg
      refine .inr (.inr ?_)
      by_cases e3 : k = 115
      · subst e3
        rw [if_pos rfl, eL] at hg
        refine ⟨116, .inl ⟨rfl, rfl, rfl⟩, fun t ht => ?_⟩
        obtain ⟨n', a', b', c, e, hc⟩ := hp.2.2.1 rfl t ht
        have h := hg t ht
        rw [e, groundK, ground1] at h
        exact ⟨n', a', b', c, e, hc, by rw [show bindsP 115 = 0 from rfl, Int.add_zero]; exact h⟩
      · rw [if_neg e3] at hg
        by_cases e4 : k = 121
        · subst e4
          rw [if_pos rfl, eL] at hg
          refine ⟨122, .inr ⟨rfl, rfl, rfl⟩, fun t ht => ?_⟩
          obtain ⟨n', a', b', c, e, hc⟩ := hp.2.2.2.2 rfl t ht
          have h := hg t ht
          rw [e, groundK, ground1] at h
          exact ⟨n', a', b', c, e, hc, h⟩
        · rw [if_neg e4] at hg; cases hg
theorem nS {k n s : Int} {a b : ByteArray} {kids : List Tree} (hk : k = 115 ∧ bindsP k = 0 ∨ k = 121 ∧ bindsP k = 1) (h : ∀ t ∈ kids, groundK t (s + bindsP k) = true) : groundP (.node k n a b kids) s = true := by
  rcases hk with ⟨rfl, e⟩ | ⟨rfl, e⟩
  · rw [e, Int.add_zero] at h
    rw [groundP, if_neg (by decide), if_neg (by decide), if_pos rfl]
    exact (eL _ _).2 h
  · rw [e] at h
    rw [groundP, if_neg (by decide), if_neg (by decide), if_neg (by decide), if_pos rfl]
    exact (eL _ _).2 h
theorem sJ : ∀ l : List Tree, (∀ t ∈ l, (stepP t).2 = (false, 0)) → (stepPs l).2.2 = (false, 0)
  | [], _ => by rw [stepPs]
  | t :: l, h => by
    have h1 := h t (by simp)
    rw [stepPs, if_neg (by rw [h1]; simp), if_neg (by rw [h1]; simp)]
    exact sJ l fun t ht => h t (by simp [ht])
theorem mK {k n : Int} {a b : ByteArray} {kids : List Tree} (hk : k ≠ 120) (h : ∀ t ∈ kids, (stepP t).2 = (false, 0)) : (stepP (.node k n a b kids)).2 = (false, 0) := by
  have h1 := sJ kids h
  rw [jP hk, if_neg (by rw [h1]; simp), if_neg (by rw [h1]; simp)]
theorem tX (t : Tree) : ∀ s, isConP t = true → groundP t s = true → (stepP t).2 = (false, 0) := by
  induction t using Tree.sind with
  | h t ih =>
    intro s hf hg
    cases t with
    | nil => rw [isConP] at hf; cases hf
    | node k n a b kids =>
      rcases fY hf hg with ⟨h1, rfl⟩ | ⟨h1, rfl, _⟩ | ⟨kd, h1, h2⟩
      · exact mK (by omega) fun t ht => (List.not_mem_nil ht).elim
      · exact mK (by omega) fun t ht => (List.not_mem_nil ht).elim
      · refine mK (by omega) fun t ht => ?_
        have hz := bM (k := k) (n := n) (a := a) (b := b) ht
        obtain ⟨n', a', b', c, rfl, hc, hgc⟩ := h2 t ht
        have hz2 := bM (k := kd) (n := n') (a := a') (b := b') (kids := [c]) (t := c) (by simp)
        refine mK (by omega) fun u hu => ?_
        rw [List.mem_singleton.1 hu]
        exact ih c (by omega) _ hc hgc
theorem wC (t : Tree) : ∀ s s' : Int, s ≤ s' → isConP t = true → groundP t s = true → groundP t s' = true := by
  induction t using Tree.sind with
  | h t ih =>
    intro s s' hs hf hg
    cases t with
    | nil => rw [isConP] at hf; cases hf
    | node k n a b kids =>
      rcases fY hf hg with ⟨h1, rfl⟩ | ⟨h1, rfl, h2⟩ | ⟨kd, h1, h2⟩
      · rw [groundP, if_pos h1]
      · subst h1
        rw [groundP, if_neg (by decide), if_pos rfl]
        exact decide_eq_true (by omega)
      · refine nS (by omega) fun t ht => ?_
        have hz := bM (k := k) (n := n) (a := a) (b := b) ht
        obtain ⟨n', a', b', c, rfl, hc, hgc⟩ := h2 t ht
        have hz2 := bM (k := kd) (n := n') (a := a') (b := b') (kids := [c]) (t := c) (by simp)
        rw [groundK, ground1]
        exact ih c (by omega) _ _ (by omega) hc hgc
theorem wD (t : Tree) : ∀ s : Int, isConP t = true → groundP t s = true → allV (fun n d => decide (n < d)) t s = true := by
  induction t using Tree.sind with
  | h t ih =>
    intro s hf hg
    cases t with
    | nil => rw [isConP] at hf; cases hf
    | node k n a b kids =>
      rcases fY hf hg with ⟨h1, rfl⟩ | ⟨h1, rfl, h2⟩ | ⟨kd, h1, h2⟩
      · rw [eK _ _ (by omega)]; rfl
      · subst h1
        rw [jI]
        exact decide_eq_true h2
      · rw [eK _ _ (by omega), List.all_eq_true]
        intro t ht
        have hz := bM (k := k) (n := n) (a := a) (b := b) ht
        obtain ⟨n', a', b', c, rfl, hc, hgc⟩ := h2 t ht
        have hz2 := bM (k := kd) (n := n') (a := a') (b := b') (kids := [c]) (t := c) (by simp)
        have hb : bindsP kd = 0 := by rcases h1 with ⟨_, rfl, _⟩ | ⟨_, rfl, _⟩ <;> rfl
        rw [eK _ _ (by omega), hb, Int.add_zero, List.all_cons, List.all_nil, Bool.and_true]
        exact ih c (by omega) _ hc hgc
theorem tY {S : Tree} (hc : checkP isConP S = 0) (hg : groundP S 0 = true) (d : Int) (h : (shiftP S d 0).2 = 0) : (shiftP S d 0).1 = S := by
  have hf := (bO hc).2.2
  have hv := dP S hf
  rw [rV S hc d 0 (Int.le_refl _)] at h ⊢
  split at h
  · rename_i h1
    rw [if_pos h1]
    dsimp only
    rw [xU (fun n d => decide (n < d)) (shG d 0) (fun n _ => n) S 0 hv (wD S 0 hf hg) fun n x _ _ _ hp => by
      unfold shG
      rw [if_pos (.inl (by simpa using hp))]]
    exact aCh S 0 hv
  · cases h
theorem tZ {S : Tree} (own : Int) (hcS : checkP isConP S = 0) (hgS : groundP S 0 = true) (t : Tree) : ∀ (d : Int) (st : Int × Int), 0 ≤ d → isConP t = true → groundP t (d + 1) = true → (walkS (substV 0 own S) t d st).2.2 = 0 → st.2 = 0 ∧ groundP (walkS (substV 0 own S) t d st).1 d = true := by
  have hfS := (bO hcS).2.2
  induction t using Tree.sind with
  | h t ih =>
    intro d st hd hf hg h0
    cases t with
    | nil => rw [isConP] at hf; cases hf
    | node k n a b kids =>
      rcases fY hf hg with ⟨h1, rfl⟩ | ⟨h1, rfl, h2⟩ | ⟨kd, h1, h2⟩
      · rw [eR _ _ _ _ (by omega)] at h0 ⊢
        exact ⟨h0, by rw [groundP, if_pos h1]⟩
      · subst h1
        rw [eQ] at h0 ⊢
        unfold substV at h0 ⊢
        have hvar : n < d → groundP (varT n) d = true := fun h => by
          show groundP (.node 110 n emptyB emptyB []) d = true
          rw [groundP, if_neg (by decide), if_pos rfl]
          exact decide_eq_true h
        split at h0
        · rename_i h3
          rw [if_pos h3]
          have h0 : st.2 = 0 := h0
          exact ⟨h0, hvar (by omega)⟩
        · rename_i h3
          rw [if_neg h3, if_neg (by omega)] 
          rw [if_neg (by omega)] at h0
          split at h0
          · cases h0
          · rename_i h4
            rw [if_neg h4]
            have h5 : (shiftP S d 0).2 = 0 := by omega
            refine ⟨h0, ?_⟩
            dsimp only
            rw [tY hcS hgS d h5]
            exact wC S 0 d hd hfS hgS
      · rw [jZ _ _ _ _ kids (by omega)] at h0 ⊢
        dsimp only at h0 ⊢
        have hb := eP k
        have key : ∀ l : List Tree, (∀ t ∈ l, t ∈ kids) → ∀ st : Int × Int, (walkSs (substV 0 own S) l (d + bindsP k) st).2.2 = 0 → st.2 = 0 ∧ ∀ u ∈ (walkSs (substV 0 own S) l (d + bindsP k) st).1, groundK u (d + bindsP k) = true := by
          intro l
          induction l with
          | nil => intro _ st h; rw [walkSs] at h ⊢; exact ⟨h, fun u hu => (List.not_mem_nil hu).elim⟩
          | cons t l ih2 =>
            intro hm st h
            rw [walkSs] at h ⊢
            dsimp only at h ⊢
            obtain ⟨g1, g2⟩ := ih2 (fun t ht => hm t (by simp [ht])) _ h
            have hmt := hm t (by simp)
            have hz := bM (k := k) (n := n) (a := a) (b := b) hmt
            obtain ⟨n', a', b', c, rfl, hc, hgc⟩ := h2 t hmt
            have hz2 := bM (k := kd) (n := n') (a := a') (b := b') (kids := [c]) (t := c) (by simp)
            have hbk : bindsP kd = 0 := by rcases h1 with ⟨_, rfl, _⟩ | ⟨_, rfl, _⟩ <;> rfl
            rw [jZ _ _ _ _ [c] (by omega), hbk, Int.add_zero] at g1 g2 ⊢
            rw [walkSs, walkSs] at g1 g2 ⊢
            dsimp only at g1 g2 ⊢
            obtain ⟨q1, q2⟩ := ih c (by omega) (d + bindsP k) st (by omega) hc (by rw [show d + bindsP k + 1 = d + 1 + bindsP k by omega]; exact hgc) g1
            refine ⟨q1, fun u hu => ?_⟩
            rcases List.mem_cons.1 hu with rfl | hu
            · rw [groundK, ground1]; exact q2
            · exact g2 u hu
        obtain ⟨g1, g2⟩ := key kids (fun _ h => h) st h0
        exact ⟨g1, nS (by omega) g2⟩
/-- A ground case of a ground sum, filled with the sum, is ground. -/
theorem qU {p S : Tree} (hf : isConP p = true) (hg : groundP p 1 = true) (hgS : groundP S 0 = true) (h : (filledP p S).2 = 0) : groundP (filledP p S).1 0 = true ∧ normalP 1000 (filledP p S).1 = ((filledP p S).1, 0) := by
  unfold filledP at h ⊢
  split at h
  · rename_i h1; exact absurd h h1
  · rename_i h1
    rw [if_neg h1]
    have h1' : (substP p 0 S).2 = 0 := by simpa using h1
    have hcS := (jB p 0 S h1').2.2.2
    obtain ⟨hc, _⟩ := dN _ _ h
    have hgr : groundP (substP p 0 S).1 0 = true := by
      unfold substP at h1' ⊢
      split at h1'
      · rename_i h2; exact absurd h1' h2
      · rename_i h2
        rw [if_neg h2]
        split at h1'
        · rename_i h3; exact absurd h1' h3
        · rename_i h3
          rw [if_neg h3]
          split at h1'
          · cases h1'
          · rename_i h4
            rw [if_neg h4]
            split at h1'
            · cases h1'
            · rename_i h5
              rw [if_neg h5]
              exact (tZ S.size hcS hgS p 0 (0, 0) (Int.le_refl _) hf hg (by omega)).2
    have hst := tX _ 0 (bO hc).2.2 hgr
    rw [dZ hc hst]
    exact ⟨hgr, dZ hc hst 1000⟩
theorem aAI : ∀ (f : Nat) (k n : Int) (a b : ByteArray) (kids : List Tree), k ≠ 120 → (normalP f (.node k n a b kids)).2 = 0 → (normalP f (.node k n a b kids)).1.kind = k := by
  intro f
  induction f with
  | zero =>
    intro k n a b kids hk h
    obtain ⟨hc, h1 | ⟨f', e, _⟩⟩ := dN _ _ h
    · rw [h1.2]; rfl
    · cases e
  | succ f ih =>
    intro k n a b kids hk h
    obtain ⟨hc, h1 | ⟨f', e, h2, h3⟩⟩ := dN _ _ h
    · rw [h1.2]; rfl
    · cases e
      rw [jP hk] at h2 h3
      split at h2
      · cases h2
      · rename_i h4
        rw [if_neg h4] at h3
        split at h2
        · rename_i h5
          rw [if_pos h5] at h3
          rw [h3] at h ⊢
          exact ih k n a b _ hk h
        · cases h2
theorem wE {t : Tree} {s : Int} (h : groundP t s = true) : t.kind = 111 ∨ t.kind = 112 ∨ t.kind = 113 ∨ t.kind = 110 ∨ t.kind = 115 ∨ t.kind = 121 := by
  cases t with
  | nil => rw [groundP] at h; cases h
  | node k n a b kids =>
    rw [Tree.kind]
    by_cases e : k = 111 ∨ k = 112 ∨ k = 113 ∨ k = 110 ∨ k = 115 ∨ k = 121
    · exact e
    · rw [groundP, if_neg (by omega), if_neg (by omega), if_neg (by omega), if_neg (by omega)] at h
      cases h
/-- Is a told type ground? -/
def grT (R : Tree × Int) : Prop := R.2 = 0 ∧ (normalP 1000 R.1).2 = 0 ∧ groundP (normalP 1000 R.1).1 0 = true
theorem qH {R : Tree × Int} (h : grT R) : R.1.kind = 111 ∨ R.1.kind = 112 ∨ R.1.kind = 113 ∨ R.1.kind = 110 ∨ R.1.kind = 115 ∨ R.1.kind = 121 ∨ R.1.kind = 120 := by
  obtain ⟨h1, h2, h3⟩ := h
  generalize R.1 = T at *
  cases T with
  | nil => exact absurd (dN _ _ h2).1 (by decide +kernel)
  | node k n a b kids =>
    rw [Tree.kind]
    by_cases e : k = 120
    · omega
    · have := wE h3
      rw [aAI 1000 k n a b kids e h2] at this
      omega
theorem qI : ∀ l L' : List Tree, (∀ t ∈ l, armForm 137 t) → (ofRec l [] []).2 = 0 → L'.length = l.length → (∀ j (h : j < (ofRec l [] []).1.length) (h' : j < L'.length), fieldN 1000 (ofRec l [] []).1[j] L'[j]) → groundKs L' 0 = true →
    ∀ t ∈ l, ∃ a x, t = .node 137 0 a emptyB [x] ∧ isTermP x = true ∧ grT (ofP x [] [])
  | [], _, _, _, _, _, _, t, ht => (List.not_mem_nil ht).elim
  | u :: l, [], _, _, hl, _, _, t, ht => by cases hl
  | u :: l, u' :: L', hf, h0, hl, hn, hg, t, ht => by
    obtain ⟨a, x, rfl, hx, _⟩ := hf u (by simp)
    rw [ofRec] at h0
    obtain ⟨h1, h2, h3⟩ := eX h0
    have e : ofField (.node 137 0 a emptyB [x]) [] [] = field1 a (ofP x [] []) := by rw [ofField, ofH]
    rw [e] at h1 h3
    have hrec : (ofRec (.node 137 0 a emptyB [x] :: l) [] []).1 = (field1 a (ofP x [] [])).1 :: (ofRec l [] []).1 := by rw [ofRec, e]; exact h3
    unfold field1 at h1 hrec
    by_cases hx0 : (ofP x [] []).2 = 0
    · rw [if_neg (show ¬ (ofP x [] []).2 ≠ 0 by simpa using hx0)] at hrec
      rw [groundKs, Bool.and_eq_true] at hg
      rcases List.mem_cons.1 ht with rfl | ht
      · have hh := hn 0 (by rw [hrec]; exact Nat.zero_lt_succ _) (Nat.zero_lt_succ _)
        have e0 : ∀ (L : List Tree) (h : 0 < L.length) (t0 : Tree) (r : List Tree), L = t0 :: r → L[0] = t0 := fun L h t0 r e => by subst e; rfl
        rw [e0 _ _ _ _ hrec] at hh
        obtain ⟨n', a', b', c, c', g1, g2, g3⟩ := hh
        cases g1
        have g2 : u' = _ := g2
        rw [g2, groundK, ground1] at hg
        exact ⟨a, x, rfl, hx, hx0, by rw [g3], by rw [g3]; exact hg.1⟩
      · refine qI l L' (fun t ht => hf t (by simp [ht])) h2 (by simpa using hl) (fun j h h' => ?_) hg.2 t ht
        have hh := hn (j + 1) (by rw [hrec]; exact Nat.succ_lt_succ h) (Nat.succ_lt_succ h')
        have e0 : ∀ (L : List Tree) (h : j + 1 < L.length) (t0 : Tree) (r : List Tree) (h2 : j < r.length), L = t0 :: r → L[j + 1] = r[j] := fun L h t0 r h2 e => by subst e; rfl
        rw [e0 _ _ _ _ h hrec] at hh
        exact hh
    · rw [if_pos hx0] at h1
      exact absurd h1 hx0
theorem yB (t : Tree) : isTermP t = true → t.whole = true → valueP t = true → grT (ofP t [] []) → (txP t).2 = true := by
  induction t using Tree.sind with
  | h t ih =>
    intro hf hw hv hg
    obtain ⟨k, n, a, b, kids, rfl⟩ := cD hw
    obtain ⟨p0, p1, p2, p3, p4, p5, p6, p7, p8, p9, p10, pk⟩ := eS hf
    have hwk : ∀ t ∈ kids, t.whole = true := fun t h => bH hw h
    rw [valueP] at hv
    by_cases e1 : k = 131
    · subst e1; rw [txP]; rfl
    by_cases e2 : k = 132
    · subst e2; rw [txP]; rfl
    by_cases e3 : k = 133
    · subst e3; rw [txP]; rfl
    by_cases e4 : k = 134
    · subst e4
      obtain ⟨T, y, rfl, hT, hy⟩ := dM (p2 (by decide))
      rw [show ofP (.node 134 n a b [T, y]) [] [] = lamT1 (starT [] T) (ofP y [] ((starT [] T).1 :: [])) by rw [ofP]; rfl] at hg
      exfalso
      have hk := qH hg
      have h0 := hg.1
      unfold lamT1 at hk h0
      split at h0
      · rename_i h; exact absurd h0 h
      · rename_i h
        split at h0
        · rename_i h; exact absurd h0 h
        · rename_i h2
          rw [if_neg h, if_neg h2, show (tyT 114 [(starT [] T).1, (ofP y [] [(starT [] T).1]).1], (0 : Int)).1.kind = 114 from rfl] at hk
          omega
    by_cases e5 : k = 139
    · subst e5
      obtain ⟨K, x, rfl, hK, hx⟩ := iG (p1 rfl)
      rw [show ofP (.node 139 n a b [K, x]) [] [] = tlam1 K (shiftsP []).2 (ofP x (K :: []) (shiftsP []).1) by rw [ofP]; rfl] at hg
      exfalso
      have hk := qH hg
      have h0 := hg.1
      unfold tlam1 at hk h0
      split at h0
      · rename_i h; exact absurd h0 h
      · rename_i h
        split at h0
        · rename_i h; exact absurd h0 h
        · rename_i h2
          rw [if_neg h, if_neg h2, show (tyT 117 [K, (ofP x [K] (shiftsP []).1).1], (0 : Int)).1.kind = 117 from rfl] at hk
          omega
    rw [if_neg (by omega)] at hv
    by_cases e6 : k = 141
    · subst e6
      obtain ⟨C, x, T, rfl, hC, hx, hT⟩ := eW (p7 rfl)
      rw [show ofP (.node 141 n a b [C, x, T]) [] [] = pack1 (starT [] T) (KindP [] C) (ofP x [] []) C by rw [ofP]; rfl] at hg
      exfalso
      have hk := qH hg
      have h0 := hg.1
      unfold pack1 at hk h0
      split at h0
      · rename_i h; exact absurd h0 h
      · rename_i h
        split at h0
        · rename_i h; exact absurd h0 h
        · rename_i h2
          split at h0
          · rename_i h; exact absurd h0 h
          · rename_i h3
            split at h0
            · cases h0
            · rename_i h4
              rw [if_neg h, if_neg h2, if_neg h3, if_neg h4] at hk
              have hk2 : (starT [] T).1.kind = 118 := by
                by_cases q : (starT [] T).1.kind = 118
                · exact q
                · exact absurd (.inl q) h4
              unfold alike1 at hk h0
              split at h0
              · rename_i h; exact absurd h0 h
              · rename_i h5
                split at h0
                · cases h0
                · rename_i h6
                  rw [if_neg h5, if_neg h6] at hk
                  dsimp only at hk
                  omega
    by_cases e7 : k = 146
    · subst e7
      rw [if_pos (by decide)] at hv
      obtain ⟨T, x, rfl, hT, hx⟩ := dM (p2 (by decide))
      rw [value2, value1] at hv
      rw [show ofP (.node 146 n a b [T, x]) [] [] = in1 a (starT [] T) (ofP x [] []) by rw [ofP]; rfl] at hg
      obtain ⟨h0, g1, g2⟩ := hg
      have hsn : (starT [] T).2 = 0 → normalP 1000 (starT [] T).1 = ((starT [] T).1, 0) ∧ checkP isConP (starT [] T).1 = 0 := fun h => by
        refine ⟨?_, dR [] T h⟩
        unfold starT at h ⊢
        split at h
        · rename_i h1; exact absurd h h1
        · rename_i h1
          rw [if_neg h1]
          exact (iD 1000 1000 T h).2
      unfold in1 at h0 g1 g2
      split at h0
      · rename_i h; exact absurd h0 h
      · rename_i h
        split at h0
        · rename_i h; exact absurd h0 h
        · rename_i h2
          split at h0
          · cases h0
          · rename_i h3
            rw [if_neg h, if_neg h2, if_neg h3] at g1 g2
            obtain ⟨hn, hck⟩ := hsn (by simpa using h)
            generalize (starT [] T).1 = S at *
            cases hp : partP (kidsOf S) a with
            | none => rw [hp, in2] at h0; cases h0
            | some p =>
              rw [hp, in2] at h0 g1 g2
              unfold alike1 at h0 g1 g2
              split at h0
              · rename_i h; exact absurd h0 h
              · rename_i h4
                split at h0
                · cases h0
                · rename_i h5
                  rw [if_neg h4, if_neg h5] at g1 g2
                  dsimp only at g1 g2
                  rw [hn] at g2
                  have hfS := (bO hck).2.2
                  have hS121 : S.kind = 121 := by simpa using h3
                  have hpg : isConP p = true ∧ groundP p 1 = true := by
                    obtain ⟨t, ht, rfl⟩ := kB hp
                    cases S with
                    | nil => cases hS121
                    | node k n a b kids =>
                      have hS121 : k = 121 := hS121
                      subst hS121
                      rw [kidsOf] at ht
                      rcases fY hfS g2 with ⟨q1, _⟩ | ⟨q1, _⟩ | ⟨kd, q1, q2⟩
                      · omega
                      · omega
                      · obtain ⟨n', a', b', c, rfl, hc, hgc⟩ := q2 t ht
                        exact ⟨hc, hgc⟩
                  obtain ⟨f1, f2⟩ := qU hpg.1 hpg.2 g2 (by simpa using h4)
                  have he : (ofP x [] []).1 = (filledP p S).1 := (rN _ _).1 (by simpa using h5)
                  have hz := bM (k := 146) (n := n) (a := a) (b := b) (kids := [T, x]) (t := x) (by simp)
                  have := ih x hz hx (hwk x (by simp)) hv ⟨by simpa using h2, by rw [he, f2], by rw [he, f2]; exact f1⟩
                  rw [txP]
                  show (tx2 a [T, x]).2 = true
                  rw [tx2]
                  exact this
    rw [if_neg (by omega)] at hv
    by_cases e8 : k = 136
    · subst e8
      obtain ⟨q1, q2⟩ := p4 rfl
      rw [if_pos rfl] at hv
      rw [show ofP (.node 136 n a b kids) [] [] = rec1 (ofRec kids [] []) by rw [ofP]; rfl] at hg
      obtain ⟨h0, g1, g2⟩ := hg
      unfold rec1 at h0 g1 g2
      split at h0
      · rename_i h; exact absurd h0 h
      · rename_i h
        rw [if_neg h] at g1 g2
        have hr0 : (ofRec kids [] []).2 = 0 := by simpa using h
        dsimp only at g1 g2
        obtain ⟨kids', r1, r2, r3⟩ := aBs 1000 0 emptyB emptyB (ofRec kids [] []).1 g1
        have r1 : (normalP 1000 (tyT 115 (ofRec kids [] []).1)).1 = _ := r1
        rw [r1, groundP, if_neg (by decide), if_neg (by decide), if_pos rfl] at g2
        have hnames := congrArg List.length (jO [] [] kids q1 hr0)
        rw [List.length_map, List.length_map] at hnames
        have hall := qI kids kids' q1 hr0 (by rw [r2, hnames]) r3 g2
        have hvs : ∀ l : List Tree, (∀ t ∈ l, t ∈ kids) → valueKs l = true → ∀ t ∈ l, (txK t).2 = true := by
          intro l
          induction l with
          | nil => intro _ _ t ht; exact (List.not_mem_nil ht).elim
          | cons u l ih2 =>
            intro hm hv t ht
            rw [valueKs, Bool.and_eq_true] at hv
            rcases List.mem_cons.1 ht with rfl | ht
            · have hmt := hm t (by simp)
              have hz := bM (k := 136) (n := n) (a := a) (b := b) hmt
              have hw2 := hwk t hmt
              obtain ⟨a', x, rfl, hx, hgx⟩ := hall t hmt
              have hz2 := bM (k := 137) (n := 0) (a := a') (b := emptyB) (kids := [x]) (t := x) (by simp)
              rw [valueK, value1] at hv
              have := ih x (by omega) hx (bH hw2 (by simp)) hv.1 hgx
              rw [txK, tx1]
              exact this
            · exact ih2 (fun t ht => hm t (by simp [ht])) hv.2 t ht
        rw [txP]
        show (txRec (txKs kids)).2 = true
        unfold txRec
        rw [if_pos]
        rw [(dU kids).2, List.all_eq_true]
        exact hvs kids (fun _ h => h) hv
    · rw [if_neg e8] at hv; cases hv
end Go.Proofs.YtlbemgokilhdnaaGreat.Ab
namespace Go.Proofs.YtlbemgokilhdnaaGreat.Ab
set_option linter.unusedVariables false
set_option linter.unusedSimpArgs false
open Go.RowKit Go.Lib Go.Proofs.YtlbemgokilhdnaaGreat.RP
attribute [local irreducible] AWP AOps AExit AThen ABlock ANoGoto FeetOk
theorem aBO (n : Int) : 0 < (numP n).size := by
  unfold numP
  rw [cH, strOfNums_size, List.length_reverse, digL, List.length_cons]
  omega
theorem aCB (t : Tree) (h : (txP t).2 = true) : 0 < (txP t).1.size := by
  cases t with
  | nil => rw [txP] at h; cases h
  | node k n a b ks =>
    rw [txP] at h ⊢
    split
    · exact aBO n
    · split
      · split <;> decide
      · split
        · decide
        · split
          · rename_i h1 h2 h3 h4
            rw [if_neg h1, if_neg h2, if_neg h3, if_pos h4] at h
            match ks, h with
            | [x, y], h =>
              rw [tx2]
              dsimp only
              rw [cH, cH, cH]
              have : tShut.size = 2 := rfl
              omega
            | [], h => rw [tx2] at h; cases h; all_goals simp
            | [x], h => rw [tx2] at h; cases h; all_goals simp
            | x :: y :: z :: r, h => rw [tx2] at h; cases h; all_goals simp
          · split
            · rename_i h1 h2 h3 h4 h5
              rw [if_neg h1, if_neg h2, if_neg h3, if_neg h4, if_pos h5] at h
              unfold txRec at h ⊢
              split
              · split
                · decide
                · dsimp only
                  rw [cH, cH]
                  have : tRec1.size = 2 := rfl
                  omega
              · rename_i h6; rw [if_neg h6] at h; cases h
            · rename_i h1 h2 h3 h4 h5
              rw [if_neg h1, if_neg h2, if_neg h3, if_neg h4, if_neg h5] at h
              cases h
theorem aAJ (t : Tree) : isTermP t = true → t.whole = true → (txP t).2 = true → likeP t t = true := by
  induction t using Tree.sind with
  | h t ih =>
    intro hf hw ht
    obtain ⟨k, n, a, b, kids, rfl⟩ := cD hw
    have hwk : ∀ t ∈ kids, t.whole = true := fun t h => bH hw h
    have hv := nR _ hf ht
    obtain ⟨p0, p1, p2, p3, p4, p5, p6, p7, p8, p9, p10, pk⟩ := eS hf
    rw [likeP, beq_self_eq_true, beq_self_eq_true, vY, Bool.true_and, Bool.true_and, Bool.true_and]
    rw [txP] at ht
    rw [valP] at hv
    by_cases e1 : k = 131 ∨ k = 132 ∨ k = 133
    · rw [if_pos e1] at hv
      have : kids = [] := by simpa using hv
      subst this
      rw [if_neg (by omega), likeKs]
    · rw [if_neg (by omega), if_neg (by omega), if_neg (by omega)] at ht
      by_cases e2 : k = 146
      · rw [if_pos e2] at ht ⊢
        subst e2
        obtain ⟨T, x, rfl, hT, hx⟩ := dM (p2 (.inr rfl))
        rw [tx2] at ht
        rw [like2]
        exact ih x (bM (by simp)) hx (hwk x (by simp)) ht
      · rw [if_neg e2] at ht ⊢
        by_cases e3 : k = 136
        · rw [if_pos e3] at ht
          subst e3
          obtain ⟨q1, q2⟩ := p4 rfl
          have h2 : (txKs kids).2 = true := by
            unfold txRec at ht
            split at ht
            · assumption
            · cases ht
          rw [(dU kids).2, List.all_eq_true] at h2
          have key : ∀ l : List Tree, (∀ t ∈ l, t ∈ kids) → likeKs l l = true := by
            intro l
            induction l with
            | nil => intro _; rw [likeKs]
            | cons t l ih2 =>
              intro hm
              have hmt := hm t (by simp)
              have hz := bM (k := 136) (n := n) (a := a) (b := b) hmt
              have hw2 := hwk t hmt
              have h3 := h2 t hmt
              obtain ⟨a', x, rfl, hx, _⟩ := q1 t hmt
              have hz2 := bM (k := 137) (n := 0) (a := a') (b := emptyB) (kids := [x]) (t := x) (by simp)
              rw [txK, tx1] at h3
              rw [likeKs, likeK, vY, Bool.true_and, like1, ih2 fun t ht => hm t (by simp [ht]), Bool.and_true]
              exact ih x (by omega) hx (bH hw2 (by simp)) h3
          exact key kids fun _ h => h
        · rw [if_neg e3] at ht; cases ht
theorem aCC {s : ByteArray} (h : 0 < s.size) : s.toList ≠ (⟨#[]⟩ : ByteArray).toList := fun e => by
  have e2 := vT.1 e
  subst e2
  exact absurd h (by decide)
set_option maxHeartbeats 8000000 in
set_option maxRecDepth 10000 in
theorem qJ (l : List CellD) (hl : ∀ c ∈ l, c.f = false) : ACalls Tryz.prog 3 [.imm (.agg [.sl false l.length (cellIVs l)])] [] (.imm (.lit (.bool true))) [] := by
  obtain ⟨n, s1, s2, _, d1⟩ := wB l hl
  have c1 := aBH n (by omega)
  have c2 := aCr n (by omega)
  have c4 := oG n (by omega) (by omega)
  have c5 := yZ n n (by omega) (by omega) (by omega) (by omega)
  have hfine : (TypeP [] [] n).2 = 0 → isTermP n = true ∧ n.whole = true ∧ TypeP [] [] n = ofP n [] [] ∧ (TypeP [] [] n).1.size ≤ 100000000 ∧ tcheckP n = 0 := fun h => by
    unfold TypeP at h ⊢
    split at h
    · rename_i h1; exact absurd h h1
    · rename_i h1
      rw [if_neg h1]
      rw [if_neg (by simp)] at h ⊢
      have h1' : tcheckP n = 0 := by simpa using h1
      obtain ⟨w1, w2, _⟩ := qD h1'
      have := (vL n [] [] w1 w2 h).2.2
      exact ⟨w1, w2, rfl, by omega, h1'⟩
  by_cases h1 : (TypeP [] [] n).2 = 0
  · obtain ⟨w1, w2, e, hs, htc⟩ := hfine h1
    have c3 := aDg (TypeP [] [] n).1 (by omega)
    have hval := fun (h2 : ValueP n = true) (h3 : typeP (TypeP [] [] n).1 = 0) => by
      rw [e] at h1 h3
      unfold ValueP at h2
      unfold typeP at h3
      rw [Bool.and_eq_true] at h2
      split at h3
      · rename_i h4
        split at h3
        · rename_i h5
          exact yB n w1 w2 h2.2 ⟨h1, h4, h5⟩
        · cases h3
      · rename_i h4; exact absurd h3 h4
    generalize TypeP [] [] n = Q at *
    obtain ⟨Q1, Q2⟩ := Q
    dsimp only at *
    clear hfine hs
    subst h1
    cases hv : ValueP n with
    | true =>
      rw [hv] at c2
      by_cases h3 : typeP Q1 = 0
      · have ht := hval hv h3
        have hp := aCB n ht
        have hlk := aAJ n w1 w2 ht
        have eg : gTextP n = ((txP n).1, 0) := by unfold gTextP; rw [if_pos htc, if_pos ht]
        have el : gLikeP n n = true := by unfold gLikeP; rw [eg, hlk]; rfl
        rw [el] at c5
        rw [eg] at c4
        rw [h3] at c3
        have hne := aCC hp
        dsimp only at c4
        generalize (txP n).1 = tx at *
        generalize Q1.iv = qi at *
        generalize n.iv = ni at *
        clear hval e
        refine aJ Tryz.func3 rfl rfl (nb rfl) rfl ?_
        repeat' (first | refine aG ?_ | (refine aI ?_;  first | refine aC tabOk rfl rfl rfl (nb rfl) rfl ?_ | refine bU rfl rfl (nb rfl) ?_ | (refine aK rfl rfl rfl (nb rfl) rfl rfl rfl (fun hq => ?_) (fun hq => ?_) <;> (first | (simp only [sD, sE, sB, sC, sN, sM, sT, sF] at hq; try (exfalso; omega)) | skip)) | refine aE rfl rfl (nb rfl) rfl rfl rfl rfl (d1) ?_ | refine aE rfl rfl (nb rfl) rfl rfl rfl rfl (c1) ?_ | refine aE rfl rfl (nb rfl) rfl rfl rfl rfl (c2) ?_ | refine aE rfl rfl (nb rfl) rfl rfl rfl rfl (c3) ?_ | refine aE rfl rfl (nb rfl) rfl rfl rfl rfl (c4) ?_ | refine aE rfl rfl (nb rfl) rfl rfl rfl rfl (c5) ?_ | refine aE rfl rfl (nb rfl) rfl rfl rfl rfl (kD) ?_ | refine aZ tabOk rfl rfl (nb rfl) rfl ?_) | (refine aN ?_;  first | refine aH ?_ | refine aQ ?_ | refine aR ?_ | refine aY ?_ | refine aD (b := false) rfl nFt (fun _ => ?_)) | (refine aM ?_;  first | refine bA ?_))
        all_goals first
          | exact absurd rfl (by assumption)
          | exact dD (by first | exact .inl rfl | exact .inr rfl) (bC rfl (aA rfl)) rfl
          | exact absurd (by assumption) hne
      · generalize typeP Q1 = ty at *
        generalize Q1.iv = qi at *
        generalize n.iv = ni at *
        clear hval e c4 c5
        refine aJ Tryz.func3 rfl rfl (nb rfl) rfl ?_
        repeat' (first | refine aG ?_ | (refine aI ?_;  first | refine aC tabOk rfl rfl rfl (nb rfl) rfl ?_ | (refine aK rfl rfl rfl (nb rfl) rfl rfl rfl (fun hq => ?_) (fun hq => ?_) <;> (first | (simp only [sD, sE, sB, sC, sN, sM, sT, sF] at hq; try (exfalso; omega)) | skip)) | refine aE rfl rfl (nb rfl) rfl rfl rfl rfl (d1) ?_ | refine aE rfl rfl (nb rfl) rfl rfl rfl rfl (c1) ?_ | refine aE rfl rfl (nb rfl) rfl rfl rfl rfl (c2) ?_ | refine aE rfl rfl (nb rfl) rfl rfl rfl rfl (c3) ?_ | refine aE rfl rfl (nb rfl) rfl rfl rfl rfl (kD) ?_ | refine aZ tabOk rfl rfl (nb rfl) rfl ?_) | (refine aN ?_;  first | refine aH ?_ | refine aQ ?_ | refine aR ?_ | refine aD (b := true) rfl (fun _ => ?_) nTf) | (refine aM ?_;  first | refine aU ?_))
        all_goals first
          | exact absurd (by assumption) h3
          | exact dD (by first | exact .inl rfl | exact .inr rfl) (bC rfl (aA rfl)) rfl
    | false =>
      rw [hv] at c2
      generalize Q1.iv = qi at *
      generalize n.iv = ni at *
      clear hval e c4 c5 c3
      refine aJ Tryz.func3 rfl rfl (nb rfl) rfl ?_
      repeat' (first | refine aG ?_ | (refine aI ?_;  first | refine aC tabOk rfl rfl rfl (nb rfl) rfl ?_ | refine bU rfl rfl (nb rfl) ?_ | (refine aK rfl rfl rfl (nb rfl) rfl rfl rfl (fun hq => ?_) (fun hq => ?_) <;> (first | (simp only [sD, sE, sB, sC, sN, sM, sT, sF] at hq; try (exfalso; omega)) | skip)) | refine aE rfl rfl (nb rfl) rfl rfl rfl rfl (d1) ?_ | refine aE rfl rfl (nb rfl) rfl rfl rfl rfl (c1) ?_ | refine aE rfl rfl (nb rfl) rfl rfl rfl rfl (c2) ?_ | refine aE rfl rfl (nb rfl) rfl rfl rfl rfl (kD) ?_ | refine aZ tabOk rfl rfl (nb rfl) rfl ?_) | (refine aN ?_;  first | refine aH ?_ | refine aQ ?_ | refine aR ?_ | refine aD (b := true) rfl (fun _ => ?_) nTf) | (refine aM ?_;  first | refine aU ?_))
      all_goals first
        | exact absurd rfl (by assumption)
        | exact dD (by first | exact .inl rfl | exact .inr rfl) (bC rfl (aA rfl)) rfl
  · clear hfine c2 c4 c5
    generalize TypeP [] [] n = Q at *
    obtain ⟨Q1, Q2⟩ := Q
    dsimp only at *
    generalize Q1.iv = qi at *
    generalize n.iv = ni at *
    refine aJ Tryz.func3 rfl rfl (nb rfl) rfl ?_
    repeat' (first | refine aG ?_ | (refine aI ?_;  first | refine aC tabOk rfl rfl rfl (nb rfl) rfl ?_ | refine bU rfl rfl (nb rfl) ?_ | (refine aK rfl rfl rfl (nb rfl) rfl rfl rfl (fun hq => ?_) (fun hq => ?_) <;> (first | (simp only [sD, sE, sB, sC, sN, sM, sT, sF] at hq; try (exfalso; omega)) | skip)) | refine aE rfl rfl (nb rfl) rfl rfl rfl rfl (d1) ?_ | refine aE rfl rfl (nb rfl) rfl rfl rfl rfl (c1) ?_ | refine aE rfl rfl (nb rfl) rfl rfl rfl rfl (kD) ?_ | refine aZ tabOk rfl rfl (nb rfl) rfl ?_) | (refine aN ?_;  first | refine aH ?_ | refine aQ ?_ | refine aR ?_ | refine aD (b := true) rfl (fun _ => ?_) nTf) | (refine aM ?_;  first | refine aU ?_))
    all_goals first
      | exact absurd rfl (by assumption)
      | exact absurd (by assumption) h1
      | exact dD (by first | exact .inl rfl | exact .inr rfl) (bC rfl (aA rfl)) rfl
theorem GroundValues_law (xs : List IV) (h : FitsAll [tyTree] xs) : ACalls Tryz.prog 3 (xs.map .imm) [] (.imm (.lit (.bool true))) [] := by
  cases h with
  | cons h1 h =>
    cases h
    obtain ⟨l, rfl, hl⟩ := aAm h1
    exact qJ l hl
end Go.Proofs.YtlbemgokilhdnaaGreat.Ab
