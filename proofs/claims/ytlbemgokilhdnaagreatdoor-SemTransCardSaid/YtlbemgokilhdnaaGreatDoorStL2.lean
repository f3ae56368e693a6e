/- Words, walks and laws under the claim's statement: what it uses of them. No condition of its own. -/
import Derived.Test.YtlbemgokilhdnaaGreatDoorStL1
import Derived.Test.YtlbemgokilhdnaaGreatDoorStAb1
import Derived.Test.YtlbemgokilhdnaaGreatDoorStL0
namespace Go.Proofs.YtlbemgokilhdnaaGreatDoor.Ab
set_option linter.unusedVariables false
set_option linter.unusedSimpArgs false
open Go.RowKit Go.Proofs.YtlbemgokilhdnaaGreatDoor.RP
attribute [local irreducible] AWP AOps AExit AThen ABlock ANoGoto FeetOk
abbrev strVX : ByteArray := ⟨#[118, 58, 120]⟩
/-- v:x = int -/
abbrev strVXI : ByteArray := ⟨#[118, 58, 120, 32, 61, 32, 105, 110, 116]⟩
def exV : Tree := .node 160 0 emptyB emptyB [.node 111 0 emptyB emptyB []]
def exN : Tree := .node 162 0 emptyB emptyB [.node 163 0 strVX emptyB [exV]]
def exC : Tree := .node 115 0 emptyB emptyB [.node 116 0 strVX emptyB [.node 111 0 emptyB emptyB []]]
set_option maxHeartbeats 4000000 in
set_option maxRecDepth 10000 in
theorem xL : ACalls Tryz.prog 70 [.imm (Tree.iv (.node 111 0 emptyB emptyB []))] [] (.imm (.lit (.string ⟨#[105, 110, 116]⟩))) [] := by
  refine aM Tryz.func70 rfl rfl (nb rfl) rfl ?_
  repeat' (first | refine aE ?_ | (refine aH ?_;  first | refine aC tabOk rfl rfl rfl (nb rfl) rfl ?_ | (refine aK rfl rfl rfl (nb rfl) rfl rfl rfl (fun hq => ?_) (fun hq => ?_) <;> (first | (simp only [sD, sE, sB, sC, sN, sM, sT, sF] at hq; try (exfalso; omega)) | skip)) | refine aU tabOk rfl rfl (nb rfl) rfl ?_) | (refine aN ?_;  first | refine aG ?_ | refine aQ ?_ | refine bF ?_ | refine aX ?_ | refine aT ?_ | refine aA (b := true) rfl (fun _ => ?_) nTf | refine aA (b := false) rfl nFt (fun _ => ?_)) | (refine aJ ?_;  first | refine bB ?_ | refine aR ?_) | (refine aY ?_;  first | refine bE ?_))
  all_goals first
    | exact absurd rfl (by assumption)
    | (exfalso; omega)
    | (refine bA (by first | exact .inl rfl | exact .inr rfl) (aZ rfl (aD rfl)) rfl ?_; rfl)
theorem sR : joinS ⟨#[32, 44, 32]⟩ [strVXI] = strVXI := rfl
set_option maxHeartbeats 8000000 in
set_option maxRecDepth 10000 in
theorem zL : ACalls Tryz.prog 70 [.imm exC.iv] [] (.imm (.lit (.string ⟨#[123, 32, 118, 58, 120, 32, 61, 32, 105, 110, 116, 32, 125]⟩))) [] := by
  have c1 := xL
  have c2 := aAG false [strVXI] ⟨#[32, 44, 32]⟩ (by decide) (by rw [sR]; decide)
  rw [sR] at c2
  unfold exC
  refine aM Tryz.func70 rfl rfl (nb rfl) rfl ?_
  repeat' (first | refine aE ?_ | (refine aH ?_;  first | refine aC tabOk rfl rfl rfl (nb rfl) rfl ?_ | (refine aK rfl rfl rfl (nb rfl) rfl rfl rfl (fun hq => ?_) (fun hq => ?_) <;> (first | (simp only [sD, sE, sB, sC, sN, sM, sT, sF] at hq; try (exfalso; omega)) | skip)) | refine aU tabOk rfl rfl (nb rfl) rfl ?_) | (refine aN ?_;  first | refine aG ?_ | refine aQ ?_ | refine bF ?_ | refine aX ?_ | refine aW ?_ | refine aA (b := false) rfl nFt (fun _ => ?_)) | (refine aJ ?_;  first | refine bB ?_) | (refine aY ?_;  first | refine bR ?_))
  all_goals first
    | exact absurd rfl (by assumption)
    | (exfalso; omega)
    | skip
  refine dL (pF (t := 7) 500 9 1 rfl (by simp) rfl rfl) ?_
  refine cD (ι := {j : Nat // j ≤ 1}) (fun j => S.f ⟨[(72, .imm (.lit (.int .i64 (j.1 : Int)))), (71, .imm (.lit (.int .i64 1))), (70, .imm (.sl false 1 (Tree.ivs [.node 116 0 strVX emptyB [.node 111 0 emptyB emptyB []]]))), (4, .imm (.lit (.string ⟨#[32, 44, 32]⟩))), (5, .imm (.lit (.string ⟨#[32, 61, 32]⟩))), (6, .imm (.lit (.string ⟨#[]⟩))), (7, .ref 500 j.1)], [(500, .arr 9 1 j.1 (strs ([strVXI].take j.1)))]⟩) (fun j => 1 - j.1) ⟨0, Nat.zero_le _⟩ (cA (by repeat' first | exact trivial | refine ⟨rfl, ?_⟩) (by repeat' first | exact trivial | refine ⟨rfl, ?_⟩)) ?_
  rintro ⟨j, hj⟩
  dsimp only
  by_cases hlt : j < 1
  · obtain rfl : j = 0 := by omega
    have s1 : strVX.size = 3 := rfl
    have s2 : (⟨#[32, 61, 32]⟩ : ByteArray).size = 3 := rfl
    have s3 : (⟨#[105, 110, 116]⟩ : ByteArray).size = 3 := rfl
    repeat' (first | refine aE ?_ | (refine aH ?_;  first | refine aC tabOk rfl rfl rfl (nb rfl) rfl ?_ | (refine aK rfl rfl rfl (nb rfl) rfl rfl rfl (fun hq => ?_) (fun hq => ?_) <;> (first | (simp only [sD, sE, sB, sC, sN, sM, sT, sF] at hq; try (exfalso; omega)) | skip)) | refine dG rfl rfl rfl (nb rfl) rfl rfl (by first | omega | (simp only [cS]; omega)) ?_ | refine aI rfl rfl (nb rfl) rfl rfl rfl rfl (c1) ?_ | refine dB tabOk rfl rfl rfl (nb rfl) rfl rfl rfl rfl rfl rfl rfl (by first | omega | decide) rfl (by first | omega | (dsimp only; omega)) (by first | omega | (dsimp only; omega)) ?_ | refine bK rfl rfl rfl (nb rfl) rfl rfl (by omega) ?_ | refine bV tabOk rfl rfl rfl (nb rfl) rfl rfl rfl rfl rfl rfl rfl rfl rfl ?_ | refine bI tabOk rfl rfl rfl (nb rfl) rfl rfl rfl rfl (by first | assumption | omega) ?_) | (refine aN ?_;  first | refine aG ?_ | refine aQ ?_ | refine bF ?_ | refine aX ?_ | refine aW ?_ | refine aA (b := true) rfl (fun _ => ?_) nTf | refine bC mixed (by kernel_rfl) ?_) | (refine aJ ?_;  first | refine bB ?_) | (refine aY ?_;  first | refine bR ?_) | refine bU (bQ (by kernel_rfl)) ?_)
    all_goals first
      | (exfalso; omega)
      | exact ⟨⟨1, Nat.le_refl _⟩, (by show 1 - 1 < 1 - 0; omega), (cA (by repeat' first | exact trivial | refine ⟨rfl, ?_⟩) (by repeat' first | exact trivial | refine ⟨rfl, ?_⟩))⟩
  · obtain rfl : j = 1 := by omega
    refine dL ((Imp.of_le (σ' := S.f ⟨[(72, .imm (.lit (.int .i64 1))), (71, .imm (.lit (.int .i64 1))), (4, .imm (.lit (.string ⟨#[32, 44, 32]⟩))), (6, .imm (.lit (.string ⟨#[]⟩))), (7, .ref 500 1)], [(500, .arr 9 1 1 (strs [strVXI]))]⟩) (cA (by repeat' first | exact trivial | refine ⟨rfl, ?_⟩) (by repeat' first | exact trivial | refine ⟨rfl, ?_⟩))).trans (cW (g := 500) rfl (by repeat' first | exact trivial | exact fun _ => rfl | refine ⟨?_, ?_⟩) (by repeat' first | exact trivial | exact fun _ => rfl | refine ⟨?_, ?_⟩))) ?_
    have s1 : (⟨#[]⟩ : ByteArray).size = 0 := rfl
    have s2 : (⟨#[123, 32]⟩ : ByteArray).size = 2 := rfl
    have s3 : strVXI.size = 9 := rfl
    have s4 : (⟨#[32, 125]⟩ : ByteArray).size = 2 := rfl
    repeat' (first | refine aE ?_ | (refine aH ?_;  first | refine aC tabOk rfl rfl rfl (nb rfl) rfl ?_ | (refine aK rfl rfl rfl (nb rfl) rfl rfl rfl (fun hq => ?_) (fun hq => ?_) <;> (first | (simp only [sD, sE, sB, sC, sN, sM, sT, sF] at hq; try (exfalso; omega)) | skip)) | refine dG rfl rfl rfl (nb rfl) rfl rfl (by first | omega | (simp only [cS]; omega)) ?_ | refine aI rfl rfl (nb rfl) rfl rfl rfl rfl (c2) ?_ | refine aU tabOk rfl rfl (nb rfl) rfl ?_) | (refine aN ?_;  first | refine aG ?_ | refine aQ ?_ | refine aT ?_ | refine bS ?_ | refine aW ?_ | refine aA (b := false) rfl nFt (fun _ => ?_)) | (refine aJ ?_;  first | refine bB ?_ | refine bJ ?_) | (refine aY ?_;  first | refine bH ?_))
    all_goals first
      | exact absurd rfl (by assumption)
      | (exfalso; omega)
      | (refine bA (by first | exact .inl rfl | exact .inr rfl) (aZ rfl (aD rfl)) rfl ?_; rfl)
set_option maxRecDepth 100000 in
theorem xM : sTransP exN = (exC, 0) := by decide +kernel
set_option maxRecDepth 100000 in
theorem aBb : sAtP exN ⟨#[118]⟩ ⟨#[120]⟩ = (exV, 0) := by decide +kernel
theorem xN : checkP isConP exC = 0 := by decide +kernel
set_option maxHeartbeats 4000000 in
set_option maxRecDepth 10000 in
theorem aAH : ACalls Tryz.prog 41 [.imm exC.iv] [] (.imm (.lit (.string ⟨#[123, 32, 118, 58, 120, 32, 61, 32, 105, 110, 116, 32, 125]⟩))) [] := by
  have c1 := iU exC (by decide)
  rw [xN] at c1
  have c2 := zL
  generalize exC.iv = X at *
  refine aM Tryz.func41 rfl rfl (nb rfl) rfl ?_
  repeat' (first | refine aE ?_ | (refine aH ?_; first | refine aC tabOk rfl rfl rfl (nb rfl) rfl ?_ | refine bD rfl rfl (nb rfl) ?_ | (refine aK rfl rfl rfl (nb rfl) rfl rfl rfl (fun hq => ?_) (fun hq => ?_) <;> (first | (simp only [sD, sE, sB, sC, sN, sM, sT, sF] at hq; try (exfalso; omega)) | skip))| refine aI rfl rfl (nb rfl) rfl rfl rfl rfl (c1) ?_ | refine aI rfl rfl (nb rfl) rfl rfl rfl rfl (c2) ?_ | refine bK rfl rfl rfl (nb rfl) rfl rfl (by omega) ?_ | refine cG rfl rfl rfl (nb rfl) rfl rfl rfl (by omega) (by omega) ?_ | refine bY rfl rfl rfl (nb rfl) rfl rfl rfl (by omega) (by omega) ?_ | refine bV tabOk rfl rfl rfl (nb rfl) rfl rfl rfl rfl rfl rfl rfl rfl rfl ?_ | refine aU tabOk rfl rfl (nb rfl) rfl ?_ | refine cC tabOk rfl rfl rfl (nb rfl) rfl rfl rfl rfl rfl rfl ?_ | refine bT tabOk rfl rfl rfl (nb rfl) rfl rfl rfl rfl ?_ | refine bM tabOk rfl rfl rfl rfl rfl rfl rfl rfl rfl rfl rfl ?_ | refine bI tabOk rfl rfl rfl (nb rfl) rfl rfl rfl rfl (by first | assumption | omega) ?_ | refine bG tabOk rfl rfl rfl (nb rfl) rfl rfl rfl rfl (by first | rfl | omega) (by first | omega | simp) ?_ | refine aV tabOk rfl rfl rfl (nb rfl) rfl rfl rfl (by assumption) ?_ | refine aV tabOk rfl rfl rfl (nb rfl) rfl rfl rfl (bZ _ _ (by first | assumption | omega)) ?_ | refine bK rfl rfl rfl (nb rfl) rfl rfl (by omega) ?_ | ((fail_if_success (refine bW (b := true) rfl rfl rfl ?_)); (fail_if_success (refine bW (b := false) rfl rfl rfl ?_)); refine cE rfl rfl rfl (fun hq => ?_) (fun hq => ?_) <;> first | subst hq | (first | (simp only [sD, sE, sB, sC, sN, sM, sT, sF] at hq; try (exfalso; omega)) | skip)) | fail) | (refine aN ?_; first | refine aG ?_ | refine aQ ?_ | refine bF ?_ | refine aX ?_ | refine aT ?_ | refine bS ?_ | refine aW ?_ | refine aA (b := true) rfl (fun _ => ?_) nTf | refine aA (b := false) rfl nFt (fun _ => ?_) | refine cK ?_ | refine cJ ?_ | refine cL mixed (by kernel_rfl) ?_ | refine bC mixed (by kernel_rfl) ?_ | (refine aA rfl (fun hq => ?_) (fun hq => ?_) <;> first | subst hq | (first | (simp only [sD, sE, sB, sC, sN, sM, sT, sF] at hq; try (exfalso; omega)) | skip)) | fail) | (refine aJ ?_; first | refine bB ?_ | refine bJ ?_ | refine aR ?_ | fail) | (refine aY ?_; first | refine bR ?_ | refine bH ?_ | refine cB (by decide) ?_ | refine bE ?_ | fail) | refine bU (bQ (by kernel_rfl)) ?_ | fail)
  all_goals first
    | exact absurd rfl (by assumption)
    | (refine bA (by first | exact .inl rfl | exact .inr rfl) (aZ rfl (aD rfl)) rfl ?_; rfl)
set_option maxHeartbeats 8000000 in
set_option maxRecDepth 10000 in
theorem xO : ACalls Tryz.prog 13 [] [] (.imm (.lit (.bool true))) [] := by
  have c1 := vK exN (by decide)
  rw [xM] at c1
  have c2 := At_a exN ⟨#[118]⟩ ⟨#[120]⟩ (by decide) (by decide) (by decide)
  rw [aBb] at c2
  have c3 := aAH
  dsimp only at c1 c2
  generalize exC.iv = X at *
  refine aM Tryz.func13 rfl rfl (nb rfl) rfl ?_
  repeat' (first | refine aE ?_ | (refine aH ?_; first | refine aC tabOk rfl rfl rfl (nb rfl) rfl ?_ | refine bD rfl rfl (nb rfl) ?_ | (refine aK rfl rfl rfl (nb rfl) rfl rfl rfl (fun hq => ?_) (fun hq => ?_) <;> (first | (simp only [sD, sE, sB, sC, sN, sM, sT, sF] at hq; try (exfalso; omega)) | skip))| refine aI rfl rfl (nb rfl) rfl rfl rfl rfl (c1) ?_ | refine aI rfl rfl (nb rfl) rfl rfl rfl rfl (c2) ?_ | refine aI rfl rfl (nb rfl) rfl rfl rfl rfl (c3) ?_ | refine bK rfl rfl rfl (nb rfl) rfl rfl (by omega) ?_ | refine cG rfl rfl rfl (nb rfl) rfl rfl rfl (by omega) (by omega) ?_ | refine bY rfl rfl rfl (nb rfl) rfl rfl rfl (by omega) (by omega) ?_ | refine bV tabOk rfl rfl rfl (nb rfl) rfl rfl rfl rfl rfl rfl rfl rfl rfl ?_ | refine aU tabOk rfl rfl (nb rfl) rfl ?_ | refine cC tabOk rfl rfl rfl (nb rfl) rfl rfl rfl rfl rfl rfl ?_ | refine bT tabOk rfl rfl rfl (nb rfl) rfl rfl rfl rfl ?_ | refine bM tabOk rfl rfl rfl rfl rfl rfl rfl rfl rfl rfl rfl ?_ | refine bI tabOk rfl rfl rfl (nb rfl) rfl rfl rfl rfl (by first | assumption | omega) ?_ | refine bG tabOk rfl rfl rfl (nb rfl) rfl rfl rfl rfl (by first | rfl | omega) (by first | omega | simp) ?_ | refine aV tabOk rfl rfl rfl (nb rfl) rfl rfl rfl (by assumption) ?_ | refine aV tabOk rfl rfl rfl (nb rfl) rfl rfl rfl (bZ _ _ (by first | assumption | omega)) ?_ | refine bK rfl rfl rfl (nb rfl) rfl rfl (by omega) ?_ | ((fail_if_success (refine bW (b := true) rfl rfl rfl ?_)); (fail_if_success (refine bW (b := false) rfl rfl rfl ?_)); refine cE rfl rfl rfl (fun hq => ?_) (fun hq => ?_) <;> first | subst hq | (first | (simp only [sD, sE, sB, sC, sN, sM, sT, sF] at hq; try (exfalso; omega)) | skip)) | fail) | (refine aN ?_; first | refine aG ?_ | refine aQ ?_ | refine bF ?_ | refine aX ?_ | refine aT ?_ | refine bS ?_ | refine aW ?_ | refine aA (b := true) rfl (fun _ => ?_) nTf | refine aA (b := false) rfl nFt (fun _ => ?_) | refine cK ?_ | refine cJ ?_ | refine cL mixed (by kernel_rfl) ?_ | refine bC mixed (by kernel_rfl) ?_ | (refine aA rfl (fun hq => ?_) (fun hq => ?_) <;> first | subst hq | (first | (simp only [sD, sE, sB, sC, sN, sM, sT, sF] at hq; try (exfalso; omega)) | skip)) | fail) | (refine aJ ?_; first | refine bB ?_ | refine bJ ?_ | refine aR ?_ | fail) | (refine aY ?_; first | refine bR ?_ | refine bH ?_ | refine cB (by decide) ?_ | refine bE ?_ | fail) | refine bU (bQ (by kernel_rfl)) ?_ | fail)
  all_goals first
    | exact cH (by first | exact .inl rfl | exact .inr rfl) (aZ rfl (aD rfl)) rfl
    | exact absurd rfl (by assumption)
    | (exfalso; omega)
end Go.Proofs.YtlbemgokilhdnaaGreatDoor.Ab
namespace Go.Proofs.YtlbemgokilhdnaaGreatDoor.Ab
set_option linter.unusedVariables false
set_option linter.unusedSimpArgs false
theorem xP (t : Tree) : t.whole = true → ∀ l : Int, (wholeP t l).1 = 0 ∨ (wholeP t l).1 = 3 := by
  induction t using Tree.ind with
  | h1 => intro h; simp [Tree.whole] at h
  | h2 k n a b kids ih =>
    intro hw l
    rw [wholeP]
    split
    · exact .inr rfl
    · have key : ∀ ls : List Tree, (∀ t ∈ ls, t ∈ kids) → ∀ l : Int, (wholePs ls l).1 = 0 ∨ (wholePs ls l).1 = 3 := by
        intro ls
        induction ls with
        | nil => intro _ l; rw [wholePs]; exact .inl rfl
        | cons t ts ih2 =>
          intro hm l
          rw [wholePs]
          split
          · exact ih2 (fun t' h' => hm t' (by simp [h'])) _
          · exact ih t (hm t (by simp)) (bN hw (hm t (by simp))) l
      exact key kids (fun _ h => h) _
theorem sS (t : Tree) (hw : t.whole = true) (l : Int) (hl : 0 ≤ l) (hs : l < t.size) : (wholeP t l).1 = 3 := by
  rcases xP t hw l with h | h
  · have h1 := iC t l hl h
    have h2 := eE t l hl h
    omega
  · exact h
theorem sU (t : Tree) (hw : t.whole = true) : sizedP t 0 = if (t.size : Int) > 65536 then (.nil, 3) else (t, 0) := by
  unfold sizedP
  rw [if_neg (by simp)]
  by_cases h : (t.size : Int) > 65536
  · rw [if_pos h, if_pos (by rw [sS t hw 65536 (by omega) h]; decide), sS t hw 65536 (by omega) h]
  · rw [if_neg h, if_neg (by rw [oQ t hw 65536 (by omega)]; simp)]
theorem vQ : ∀ rs : List (Tree × Int), (∀ r ∈ rs, r.2 = 0 ∨ r.2 = 3) → (seqP rs).2 = 0 ∨ (seqP rs).2 = 3
  | [], _ => .inl rfl
  | r :: rs, h => by
    have ih := vQ rs fun r' hr => h r' (by simp [hr])
    rw [seqP]
    split
    · exact h r (by simp)
    · split
      · exact ih
      · exact .inl rfl
theorem xQ (t : Tree) : (transP t).2 = 0 ∨ (transP t).2 = 3 := by
  induction t using Tree.sind with
  | h t ih =>
    cases t with
    | nil => rw [transP]; exact .inl rfl
    | node k n a b kids =>
      rw [transP]
      split
      · exact .inl rfl
      · split
        · unfold allTok
          split
          · rcases kI (kidH kids) with h | h
            · exact .inl h
            · exact .inr h.1
          · exact .inl rfl
        · have hfin : ∀ R : List Tree × Int, R.2 = 0 ∨ R.2 = 3 → (finP k n R).2 = 0 ∨ (finP k n R).2 = 3 := by
            intro R hR
            unfold finP
            split
            · exact hR
            · refine .inl ?_
              split
              · rfl
              · split <;> rfl
          refine hfin _ (vQ _ ?_)
          intro r hr
          split at hr
          · rw [gD] at hr
            obtain ⟨t, ht, rfl⟩ := List.mem_map.1 hr
            have hz := cF (k := k) (n := n) (a := a) (b := b) ht
            cases t with
            | nil => rw [fldR]; exact .inl rfl
            | node k' n' a' b' ks =>
              rw [fldR]
              match ks with
              | [] => exact .inl rfl
              | [c] =>
                have hz2 := cF (k := k') (n := n') (a := a') (b := b') (kids := [c]) (t := c) (by simp)
                rw [one1, gE]
                exact ih c (by omega)
              | _ :: _ :: _ => exact .inl rfl
          · rw [oV] at hr
            obtain ⟨t, ht, rfl⟩ := List.mem_map.1 hr
            have hz := cF (k := k) (n := n) (a := a) (b := b) ht
            exact ih t hz
theorem sV (t : Tree) (hc : checkP sformP t = 0) (h0 : (transP t).2 ≠ 0) : sTransP t = (.nil, 3) := by
  unfold sTransP
  rw [if_neg (by simpa using hc)]
  unfold sizedP
  rw [if_pos h0]
  rcases xQ t with h | h
  · exact absurd h h0
  · rw [h]
theorem qC (t : Tree) (hc : checkP sformP t = 0) (h0 : (transP t).2 = 0) : sTransP t = if ((transP t).1.size : Int) > 65536 then (.nil, 3) else ((transP t).1, 0) := by
  obtain ⟨hw, hz, hf⟩ := cT hc
  unfold sTransP
  rw [if_neg (by simpa using hc), h0, sU _ (dD t (nK hf) hw h0).1]
theorem sW (c : Tree) (hc : checkP isConP c = 0) (h0 : (tokP c).2 ≠ 0) : sTokenP c = (.nil, 3) := by
  unfold sTokenP
  rw [if_neg (by simpa using hc), if_pos h0]
  rcases kI c with h | h
  · exact absurd h h0
  · rw [h.1]
theorem qD (c : Tree) (hc : checkP isConP c = 0) (h0 : (tokP c).2 = 0) : sTokenP c = if ((tokP c).1.size : Int) + 6 > 65536 then (.nil, 3) else (tokT (tokP c).1, 0) := by
  have hg := (eX c h0).1
  have hsz : (tokT (tokP c).1).size = (tokP c).1.size + 6 := by simp only [tokT, conT, higherT, Tree.size, Tree.sizes]; omega
  have hwt : (tokT (tokP c).1).whole = true := by
    show Tree.wholes [higherT, conT 134 [(tokP c).1, conT 130 []]] = true
    rw [Tree.wholes, Tree.wholes]
    have : (conT 134 [(tokP c).1, conT 130 []]).whole = true := by
      show Tree.wholes [_, _] = true
      rw [Tree.wholes, hg]; rfl
    rw [this]; rfl
  unfold sTokenP
  rw [if_neg (by simpa using hc), if_neg (by simpa using h0), sU _ hwt, hsz]
  by_cases h : ((tokP c).1.size : Int) + 6 > 65536
  · rw [if_pos h, if_pos (by omega)]
  · rw [if_neg h, if_neg (by omega)]
end Go.Proofs.YtlbemgokilhdnaaGreatDoor.Ab
namespace Go.Proofs.YtlbemgokilhdnaaGreatDoor.Ab
set_option linter.unusedVariables false
set_option linter.unusedSimpArgs false
open Go.RowKit
attribute [local irreducible] AWP AOps AExit AThen ABlock ANoGoto FeetOk
set_option maxHeartbeats 4000000 in
set_option maxRecDepth 10000 in
theorem zM (n : Int) (a b : ByteArray) (c : Tree) : ACalls Tryz.prog 23 [.imm (Tree.iv (.node 160 n a b [c]))] [] (.imm c.iv) [] := by
  refine aM Tryz.func23 rfl rfl (nb rfl) rfl ?_
  repeat' (first | refine aE ?_ | (refine aH ?_;  first | refine aC tabOk rfl rfl rfl (nb rfl) rfl ?_ | (refine aK rfl rfl rfl (nb rfl) rfl rfl rfl (fun hq => ?_) (fun hq => ?_) <;> (first | (simp only [sD, sE, sB, sC, sN, sM, sT, sF] at hq; try (exfalso; omega)) | skip)) | refine bG tabOk rfl rfl rfl (nb rfl) rfl rfl rfl rfl (by first | rfl | omega) (by first | omega | simp) ?_) | (refine aN ?_;  first | refine aG ?_ | refine aQ ?_ | refine aT ?_ | refine aA (b := true) rfl (fun _ => ?_) nTf) | (refine aJ ?_;  first | refine aR ?_))
  all_goals first
    | exact absurd rfl (by assumption)
    | (refine bA (by first | exact .inl rfl | exact .inr rfl) (aZ rfl (aD rfl)) rfl ?_; rfl)
set_option maxHeartbeats 8000000 in
set_option maxRecDepth 10000 in
theorem zN (n : Int) (a b : ByteArray) (c : Tree) (hc : checkP isConP c = 0) : ACalls Tryz.prog 23 [.imm (Tree.iv (.node 161 n a b [c]))] [] (.imm (allTok c).1.iv) [] := by
  have c1 := oU c hc
  have c0 := oT
  have hf := eX c
  have he := kI c
  rw [dV] at c0
  unfold allTok
  generalize tokP c = S at *
  obtain ⟨S1, S2⟩ := S
  dsimp only at *
  by_cases h0 : S2 = 0
  · subst h0
    rw [if_neg (by simp)]
    obtain ⟨px, hpx⟩ := dF (cR (hf rfl).1)
    have c2 := eS 114 true 2 [.ptr px 0, .ptr px 0]
    have c3 := eS 117 true 2 [conIV 101 2 [conIV 100 0 [], conIV 100 0 []], conIV 114 2 [.ptr px 0, .ptr px 0]]
    have hnx : (conT 117 [higherT, conT 114 [S1, S1]]).iv = conIV 117 2 [conIV 101 2 [conIV 100 0 [], conIV 100 0 []], conIV 114 2 [.ptr px 0, .ptr px 0]] := by
      rw [cU, Tree.ivs, Tree.ivs, Tree.ivs, dV, cU, Tree.ivs, Tree.ivs, Tree.ivs, hpx]; rfl
    rw [hnx]
    rw [hpx] at c1
    clear hf hnx he
    unfold conIV at *
    refine aM Tryz.func23 rfl rfl (nb rfl) rfl ?_
    repeat' (first | refine aE ?_ | (refine aH ?_;  first | refine aC tabOk rfl rfl rfl (nb rfl) rfl ?_ | (refine aK rfl rfl rfl (nb rfl) rfl rfl rfl (fun hq => ?_) (fun hq => ?_) <;> (first | (simp only [sD, sE, sB, sC, sN, sM, sT, sF] at hq; try (exfalso; omega)) | skip)) | refine aI rfl rfl (nb rfl) rfl rfl rfl rfl (c0) ?_ | refine aI rfl rfl (nb rfl) rfl rfl rfl rfl (c1) ?_ | refine aI rfl rfl (nb rfl) rfl rfl rfl rfl (c2) ?_ | refine aI rfl rfl (nb rfl) rfl rfl rfl rfl (c3) ?_ | refine bV tabOk rfl rfl rfl (nb rfl) rfl rfl rfl rfl rfl rfl rfl rfl rfl ?_ | refine aU tabOk rfl rfl (nb rfl) rfl ?_ | refine bG tabOk rfl rfl rfl (nb rfl) rfl rfl rfl rfl (by first | rfl | omega) (by first | omega | simp) ?_) | (refine aN ?_;  first | refine aG ?_ | refine aQ ?_ | refine aT ?_ | refine aW ?_ | refine aA (b := true) rfl (fun _ => ?_) nTf | refine aA (b := false) rfl nFt (fun _ => ?_)) | (refine aJ ?_;  first | refine bB ?_ | refine aR ?_))
    all_goals first
      | exact absurd rfl (by assumption)
      | (refine bA (by first | exact .inl rfl | exact .inr rfl) (aZ rfl (aD rfl)) rfl ?_; rfl)
  · rw [if_pos h0]
    obtain ⟨_, rfl⟩ := he.resolve_left h0
    refine aM Tryz.func23 rfl rfl (nb rfl) rfl ?_
    repeat' (first | refine aE ?_ | (refine aH ?_;  first | refine aC tabOk rfl rfl rfl (nb rfl) rfl ?_ | (refine aK rfl rfl rfl (nb rfl) rfl rfl rfl (fun hq => ?_) (fun hq => ?_) <;> (first | (simp only [sD, sE, sB, sC, sN, sM, sT, sF] at hq; try (exfalso; omega)) | skip)) | refine aI rfl rfl (nb rfl) rfl rfl rfl rfl (c1) ?_ | refine aU tabOk rfl rfl (nb rfl) rfl ?_ | refine bG tabOk rfl rfl rfl (nb rfl) rfl rfl rfl rfl (by first | rfl | omega) (by first | omega | simp) ?_) | (refine aN ?_;  first | refine aG ?_ | refine aQ ?_ | refine aT ?_ | refine aW ?_ | refine aA (b := true) rfl (fun _ => ?_) nTf | refine aA (b := false) rfl nFt (fun _ => ?_)) | (refine aJ ?_;  first | refine bB ?_ | refine aR ?_))
    all_goals first
      | exact absurd rfl (by assumption)
      | (refine bA (by first | exact .inl rfl | exact .inr rfl) (aZ rfl (aD rfl)) rfl ?_; rfl)
set_option maxHeartbeats 16000000 in
set_option maxRecDepth 10000 in
theorem zO (n : Int) (a b : ByteArray) (kids : List Tree) (hl : kids.length ≤ 1000000)
    (hk : ∀ j (h : j < kids.length), ∃ nn aa bb c, kids[j] = .node 163 nn aa bb [c] ∧ ACalls Tryz.prog 23 [.imm c.iv] [] (.imm (transP c).1.iv) [] ∧ ((transP c).2 = 0 → (transP c).1.whole = true)) :
    ACalls Tryz.prog 23 [.imm (Tree.iv (.node 162 n a b kids))] [] (.imm (finP 162 n (seqP (kids.map fldR))).1.iv) [] := by
  obtain ⟨rs, hrs⟩ : ∃ rs, kids.map fldR = rs := ⟨_, rfl⟩
  have hlen : rs.length = kids.length := by rw [← hrs, List.length_map]
  rw [hrs]
  obtain ⟨Q, hQ⟩ : ∃ Q, (finP 162 n (seqP rs)).1 = Q := ⟨_, rfl⟩
  rw [hQ]
  refine cY Tryz.func23 rfl rfl (nb rfl) rfl ?_
  refine dL (kF 600 (by simp) rfl rfl) ?_
  repeat' (first | refine aE ?_ | (refine aH ?_;  first | refine aC tabOk rfl rfl rfl (nb rfl) rfl ?_ | (refine aK rfl rfl rfl (nb rfl) rfl rfl rfl (fun hq => ?_) (fun hq => ?_) <;> (first | (simp only [sD, sE, sB, sC, sN, sM, sT, sF] at hq; try (exfalso; omega)) | skip)) | refine cQ rfl rfl (nb rfl) rfl rfl rfl rfl (yX 115) (by repeat' first | exact trivial | refine ⟨rfl, ?_⟩) rfl (by show ([600] : List Nat).Nodup; decide) ?_) | (refine aN ?_;  first | refine aG ?_ | refine aQ ?_ | refine aX ?_ | refine aW ?_ | refine aA (b := true) rfl (fun _ => ?_) nTf | refine aA (b := false) rfl nFt (fun _ => ?_)) | (refine aJ ?_;  first | refine bB ?_))
  all_goals first
    | exact absurd rfl (by assumption)
    | (exfalso; omega)
    | skip
  refine dL (eD (h0 := 600) (k0 := 4) 500 26 1 rfl rfl (by simp) rfl rfl) ?_
  refine cD (ι := {j : Nat // j ≤ kids.length ∧ ∀ i (hi : i < j) (hi2 : i < rs.length), (rs[i]).2 = 0 ∧ (rs[i]).1.whole = true}) (fun j => S.f ⟨[(5, .imm (.lit (.int .i64 (j.1 : Int)))), (4, .obj 600 0), (0, .imm (Tree.iv (.node 162 n a b kids)))], [(500, .arr 26 1 j.1 (Tree.ivs ((rs.take j.1).map (·.1)))), (600, .cells [.imm (.lit (.int .i64 115)), .imm (.lit (.int .i64 0)), .imm (.lit (.string ⟨#[]⟩)), .imm (.lit (.string ⟨#[]⟩)), .ref 500 j.1])]⟩) (fun j => kids.length - j.1) ⟨0, Nat.zero_le _, fun i hi => absurd hi (by omega)⟩ (cA (by repeat' first | exact trivial | refine ⟨rfl, ?_⟩) (by repeat' first | exact trivial | refine ⟨rfl, ?_⟩)) ?_
  rintro ⟨j, hj, hok⟩
  dsimp only
  have hil := gR ((rs.take j).map (·.1))
  rw [List.length_map, List.length_take, hlen, Nat.min_eq_left hj] at hil
  by_cases hlt : j < kids.length
  · have hlt2 : j < rs.length := by omega
    have hget := bZ kids j hlt
    obtain ⟨nn, aa, bb, c, ek, ct, cw⟩ := hk j hlt
    have hr : rs[j] = fldOf aa (transP c) := by
      have : rs[j] = fldR kids[j] := by simp only [← hrs, List.getElem_map]
      rw [this, ek, fldR, one1]
    have hnx : Tree.ivs ((rs.take (j + 1)).map (·.1)) = Tree.ivs ((rs.take j).map (·.1)) ++ [rs[j].1.iv] := by
      rw [List.take_succ_eq_append_getElem hlt2, List.map_append, dW, dW, List.map_append]; rfl
    rw [ek] at hget
    by_cases h0 : (transP c).2 = 0
    · have hw0 := cw h0
      obtain ⟨pr, hpr⟩ := dF (cR hw0)
      have hr2 : rs[j].2 = 0 ∧ rs[j].1.whole = true := by
        rw [hr, gE]
        refine ⟨h0, ?_⟩
        unfold fldOf
        rw [if_neg (by simpa using h0)]
        show Tree.wholes [_] = true
        rw [Tree.wholes, hw0]; rfl
      have hok2 : ∀ i (hi : i < j + 1) (hi2 : i < rs.length), (rs[i]).2 = 0 ∧ (rs[i]).1.whole = true := fun i hi hi2 => by
        by_cases hij : i = j
        · subst hij; exact hr2
        · exact hok i (by omega) hi2
      rw [hr, rZ aa _ pr h0 hpr] at hnx
      rw [hpr] at ct
      clear hk hQ hr2 ek hr hrs
      generalize Tree.ivs ((rs.take j).map (·.1)) = ZI at *
      repeat' (first | refine aE ?_ | (refine aH ?_;  first | refine aC tabOk rfl rfl rfl (nb rfl) rfl ?_ | (refine aK rfl rfl rfl (nb rfl) rfl rfl rfl (fun hq => ?_) (fun hq => ?_) <;> (first | (simp only [sD, sE, sB, sC, sN, sM, sT, sF] at hq; try (exfalso; omega)) | skip)) | refine aV tabOk rfl rfl rfl (nb rfl) rfl rfl rfl hget ?_ | refine aI rfl rfl (nb rfl) rfl rfl rfl rfl (ct) ?_ | refine dB tabOk rfl rfl rfl (nb rfl) rfl rfl rfl rfl rfl rfl rfl (by first | omega | decide) rfl (by first | omega | (dsimp only; omega)) (by first | omega | (dsimp only; omega)) ?_ | refine bK rfl rfl rfl (nb rfl) rfl rfl (by omega) ?_ | refine bV tabOk rfl rfl rfl (nb rfl) rfl rfl rfl rfl rfl rfl rfl rfl rfl ?_ | refine aU tabOk rfl rfl (nb rfl) rfl ?_ | refine bT tabOk rfl rfl rfl (nb rfl) rfl rfl rfl rfl ?_ | refine bM tabOk rfl rfl rfl rfl rfl rfl rfl rfl rfl rfl rfl ?_ | refine bI tabOk rfl rfl rfl (nb rfl) rfl rfl rfl rfl (by first | assumption | omega) ?_ | refine bG tabOk rfl rfl rfl (nb rfl) rfl rfl rfl rfl (by first | rfl | omega) (by first | omega | simp) ?_) | (refine aN ?_;  first | refine aG ?_ | refine aQ ?_ | refine bF ?_ | refine aX ?_ | refine aW ?_ | refine aA (b := true) rfl (fun _ => ?_) nTf | refine aA (b := false) rfl nFt (fun _ => ?_) | refine bC mixed (by kernel_rfl) ?_) | (refine aJ ?_;  first | refine bB ?_) | (refine aY ?_;  first | refine bR ?_) | refine bU (bQ (by kernel_rfl)) ?_)
      all_goals first
        | exact absurd rfl (by assumption)
        | (exfalso; omega)
        | (refine ⟨⟨j + 1, hlt, hok2⟩, (by show kids.length - (j + 1) < kids.length - j; omega), ?_⟩; dsimp only; rw [hnx]; exact (cA (by repeat' first | exact trivial | refine ⟨rfl, ?_⟩) (by repeat' first | exact trivial | refine ⟨rfl, ?_⟩)))
    · have hr2 : rs[j].2 = (transP c).2 := by rw [hr, gE]
      have hbad := nJ rs j hlt2 (fun i hi => (hok i hi (by omega)).1) (by rw [hr2]; exact h0)
      have hQ2 : Q = .nil := by
        rw [← hQ, hbad, hr2]; unfold finP; rw [if_pos h0]
      rw [eL c h0] at ct
      subst hQ2
      clear hk hQ hr hr2 hbad ek hnx hrs
      generalize Tree.ivs ((rs.take j).map (·.1)) = ZI at *
      repeat' (first | refine aE ?_ | (refine aH ?_;  first | refine aC tabOk rfl rfl rfl (nb rfl) rfl ?_ | (refine aK rfl rfl rfl (nb rfl) rfl rfl rfl (fun hq => ?_) (fun hq => ?_) <;> (first | (simp only [sD, sE, sB, sC, sN, sM, sT, sF] at hq; try (exfalso; omega)) | skip)) | refine aV tabOk rfl rfl rfl (nb rfl) rfl rfl rfl hget ?_ | refine aI rfl rfl (nb rfl) rfl rfl rfl rfl (ct) ?_ | refine aU tabOk rfl rfl (nb rfl) rfl ?_ | refine bI tabOk rfl rfl rfl (nb rfl) rfl rfl rfl rfl (by first | assumption | omega) ?_ | refine bG tabOk rfl rfl rfl (nb rfl) rfl rfl rfl rfl (by first | rfl | omega) (by first | omega | simp) ?_) | (refine aN ?_;  first | refine aG ?_ | refine aQ ?_ | refine aX ?_ | refine aT ?_ | refine aW ?_ | refine aA (b := true) rfl (fun _ => ?_) nTf) | (refine aJ ?_;  first | refine bB ?_ | refine aR ?_) | (refine aY ?_;  first | refine bE ?_))
      all_goals first
        | exact absurd rfl (by assumption)
        | (exfalso; omega)
        | (refine jM ?_; refine bA (by first | exact .inl rfl | exact .inr rfl) (aZ rfl (aD rfl)) rfl ?_; rfl)
  · have ej : j = kids.length := by omega
    subst ej
    have et : rs.take kids.length = rs := by rw [← hlen, List.take_length]
    rw [et] at hil ⊢
    have hall : ∀ r ∈ rs, r.2 = 0 := fun r hr => by
      obtain ⟨i, hi, rfl⟩ := List.getElem_of_mem hr
      exact (hok i (by omega) hi).1
    have hseq := fI rs hall
    rw [hseq] at hQ
    unfold finP at hQ
    rw [if_neg (by simp), if_neg (by decide), if_neg (by decide)] at hQ
    dsimp only at hQ
    obtain ⟨L, hL⟩ : ∃ L, rs.map (·.1) = L := ⟨_, rfl⟩
    rw [hL] at hQ ⊢
    have hLl : L.length = kids.length := by rw [← hL, List.length_map, hlen]
    have e4 : (conT 115 L).iv = conIV 115 kids.length (Tree.ivs L) := by rw [cU, hLl]
    rw [hL] at hil
    subst hQ
    rw [e4]
    clear hk hok hall hseq et hrs
    generalize Tree.ivs L = ZI at *
    unfold conIV
    repeat' (first | refine aE ?_ | (refine aH ?_;  first | refine aC tabOk rfl rfl rfl (nb rfl) rfl ?_ | (refine aK rfl rfl rfl (nb rfl) rfl rfl rfl (fun hq => ?_) (fun hq => ?_) <;> (first | (simp only [sD, sE, sB, sC, sN, sM, sT, sF] at hq; try (exfalso; omega)) | skip)) | refine aU tabOk rfl rfl (nb rfl) rfl ?_) | (refine aN ?_;  first | refine aG ?_ | refine aQ ?_ | refine aT ?_ | refine bS ?_ | refine aA (b := false) rfl nFt (fun _ => ?_)) | (refine aJ ?_;  first | refine bB ?_ | refine bJ ?_ | refine aR ?_) | (refine aY ?_;  first | refine bH ?_))
    all_goals first
      | (exfalso; omega)
      | (refine dR ((Imp.of_le (σ' := S.f ⟨[(2, .obj 600 0)], [(500, .arr 26 1 kids.length ZI), (600, .cells [.imm (.lit (.int .i64 115)), .imm (.lit (.int .i64 0)), .imm (.lit (.string ⟨#[]⟩)), .imm (.lit (.string ⟨#[]⟩)), .ref 500 kids.length])]⟩) (cA (by repeat' first | exact trivial | refine ⟨rfl, ?_⟩) (by repeat' first | exact trivial | refine ⟨rfl, ?_⟩))).trans ((cW (g := 500) rfl (by repeat' first | exact trivial | exact fun _ => rfl | refine ⟨?_, ?_⟩) (by repeat' first | exact trivial | exact fun _ => rfl | refine ⟨?_, ?_⟩)).trans (dK (g := 600) rfl rfl))) ?_
         refine bA (by first | exact .inl rfl | exact .inr rfl) (aZ rfl (aD rfl)) rfl ?_; rfl)
end Go.Proofs.YtlbemgokilhdnaaGreatDoor.Ab
namespace Go.Proofs.YtlbemgokilhdnaaGreatDoor.Ab
set_option linter.unusedVariables false
set_option linter.unusedSimpArgs false
open Go.RowKit
attribute [local irreducible] AWP AOps AExit AThen ABlock ANoGoto FeetOk
set_option maxHeartbeats 8000000 in
set_option maxRecDepth 10000 in
theorem aAI (n : Int) (a b : ByteArray) (c : Tree) (g0 : 0 ≤ n) (g1 : n ≤ 8192) (ct : ACalls Tryz.prog 23 [.imm c.iv] [] (.imm (transP c).1.iv) []) (cw : (transP c).2 = 0 → (transP c).1.whole = true) :
    ACalls Tryz.prog 23 [.imm (Tree.iv (.node 164 n a b [c]))] [] (.imm (finP 164 n (seqP [transP c])).1.iv) [] := by
  obtain ⟨Q, hQ⟩ : ∃ Q, (finP 164 n (seqP [transP c])).1 = Q := ⟨_, rfl⟩
  rw [hQ]
  by_cases h0 : (transP c).2 = 0
  · have hw := cw h0
    rw [fI _ (by intro r hr; rw [List.mem_singleton.1 hr]; exact h0)] at hQ
    unfold finP at hQ
    rw [if_neg (by simp), if_pos rfl] at hQ
    change aroundP 118 n.toNat (transP c).1 = Q at hQ
    obtain ⟨N, rfl⟩ : ∃ N : Nat, n = N := ⟨n.toNat, by omega⟩
    rw [Int.toNat_natCast] at hQ
    generalize (transP c).1 = X at *
    obtain ⟨px0, hpx0⟩ := dF (cR hw)
    have hpx1 := hpx0
    rw [hpx0] at ct
    have c0 := iI 100
    refine aM Tryz.func23 rfl rfl (nb rfl) rfl ?_
    repeat' (first | refine aE ?_ | (refine aH ?_;  first | refine aC tabOk rfl rfl rfl (nb rfl) rfl ?_ | (refine aK rfl rfl rfl (nb rfl) rfl rfl rfl (fun hq => ?_) (fun hq => ?_) <;> (first | (simp only [sD, sE, sB, sC, sN, sM, sT, sF] at hq; try (exfalso; omega)) | skip)) | refine aI rfl rfl (nb rfl) rfl rfl rfl rfl (ct) ?_ | refine aU tabOk rfl rfl (nb rfl) rfl ?_ | refine bG tabOk rfl rfl rfl (nb rfl) rfl rfl rfl rfl (by first | rfl | omega) (by first | omega | simp) ?_) | (refine aN ?_;  first | refine aG ?_ | refine aQ ?_ | refine aX ?_ | refine aW ?_ | refine aA (b := false) rfl nFt (fun _ => ?_)) | (refine aJ ?_;  first | refine bB ?_))
    all_goals first
      | exact absurd rfl (by assumption)
      | (exfalso; omega)
      | skip
    refine cD (ι := {j : Nat // j ≤ N}) (fun j => S.f ⟨[(10, .imm (.lit (.int .i64 (j.1 : Int)))), (7, .imm (aroundP 118 j.1 X).iv), (8, .imm (.lit (.int .i64 118))), (0, .imm (Tree.iv (.node 164 (N : Int) a b [c])))], []⟩) (fun j => N - j.1) ⟨0, Nat.zero_le _⟩ (by dsimp only [aroundP]; rw [hpx1]; exact (cA (by repeat' first | exact trivial | refine ⟨rfl, ?_⟩) (by repeat' first | exact trivial | refine ⟨rfl, ?_⟩))) ?_
    rintro ⟨j, hj⟩
    dsimp only
    clear hpx0 hpx1
    obtain ⟨px, hpx⟩ := dF (cR (dX 118 X hw j).1)
    by_cases hlt : j < N
    · have hnx : (aroundP 118 (j + 1) X).iv = conIV 118 2 [conIV 100 0 [], .ptr px 0] := by
        rw [aroundP, cU, Tree.ivs, Tree.ivs, hpx]; rfl
      rw [hpx]
      have c1 := eS 118 true 2 [conIV 100 0 [], .ptr px 0]
      unfold conIV at c0 c1 hnx
      repeat' (first | refine aE ?_ | (refine aH ?_;  first | refine aC tabOk rfl rfl rfl (nb rfl) rfl ?_ | (refine aK rfl rfl rfl (nb rfl) rfl rfl rfl (fun hq => ?_) (fun hq => ?_) <;> (first | (simp only [sD, sE, sB, sC, sN, sM, sT, sF] at hq; try (exfalso; omega)) | skip)) | refine aI rfl rfl (nb rfl) rfl rfl rfl rfl (c0) ?_ | refine aI rfl rfl (nb rfl) rfl rfl rfl rfl (c1) ?_ | refine bK rfl rfl rfl (nb rfl) rfl rfl (by omega) ?_ | refine bV tabOk rfl rfl rfl (nb rfl) rfl rfl rfl rfl rfl rfl rfl rfl rfl ?_) | (refine aN ?_;  first | refine aG ?_ | refine aQ ?_ | refine bF ?_ | refine aX ?_ | refine aW ?_ | refine aA (b := true) rfl (fun _ => ?_) nTf) | (refine aJ ?_;  first | refine bB ?_) | (refine aY ?_;  first | refine bR ?_))
      all_goals first
        | (exfalso; omega)
        | (refine ⟨⟨j + 1, hlt⟩, (by show N - (j + 1) < N - j; omega), ?_⟩; dsimp only; rw [hnx]; exact (cA (by repeat' first | exact trivial | refine ⟨rfl, ?_⟩) (by repeat' first | exact trivial | refine ⟨rfl, ?_⟩)))
    · have ej : j = N := by omega
      subst ej
      subst hQ
      rw [hpx]
      repeat' (first | refine aE ?_ | (refine aH ?_;  first | refine aC tabOk rfl rfl rfl (nb rfl) rfl ?_ | (refine aK rfl rfl rfl (nb rfl) rfl rfl rfl (fun hq => ?_) (fun hq => ?_) <;> (first | (simp only [sD, sE, sB, sC, sN, sM, sT, sF] at hq; try (exfalso; omega)) | skip))) | (refine aN ?_;  first | refine aG ?_ | refine aQ ?_ | refine aT ?_ | refine bS ?_ | refine aA (b := false) rfl nFt (fun _ => ?_)) | (refine aJ ?_;  first | refine bB ?_ | refine bJ ?_) | (refine aY ?_;  first | refine bH ?_))
      all_goals first
        | (exfalso; omega)
        | (refine bA (by first | exact .inl rfl | exact .inr rfl) (aZ rfl (aD rfl)) rfl ?_; rfl)
  · have hQ2 : Q = .nil := by
      rw [← hQ]
      refine kJ _ _ _ ?_
      have e : seqP [transP c] = ([], (transP c).2) := by rw [seqP, if_pos h0]
      rw [e]
      unfold finP
      rw [if_pos h0]
      exact h0
    subst hQ2
    rw [eL c h0] at ct
    refine aM Tryz.func23 rfl rfl (nb rfl) rfl ?_
    repeat' (first | refine aE ?_ | (refine aH ?_;  first | refine aC tabOk rfl rfl rfl (nb rfl) rfl ?_ | (refine aK rfl rfl rfl (nb rfl) rfl rfl rfl (fun hq => ?_) (fun hq => ?_) <;> (first | (simp only [sD, sE, sB, sC, sN, sM, sT, sF] at hq; try (exfalso; omega)) | skip)) | refine aI rfl rfl (nb rfl) rfl rfl rfl rfl (ct) ?_ | refine aU tabOk rfl rfl (nb rfl) rfl ?_ | refine bG tabOk rfl rfl rfl (nb rfl) rfl rfl rfl rfl (by first | rfl | omega) (by first | omega | simp) ?_) | (refine aN ?_;  first | refine aG ?_ | refine aQ ?_ | refine aT ?_ | refine aW ?_ | refine aA (b := true) rfl (fun _ => ?_) nTf | refine aA (b := false) rfl nFt (fun _ => ?_)) | (refine aJ ?_;  first | refine bB ?_ | refine aR ?_))
    all_goals first
      | exact absurd rfl (by assumption)
      | (exfalso; omega)
      | (refine bA (by first | exact .inl rfl | exact .inr rfl) (aZ rfl (aD rfl)) rfl ?_; rfl)
set_option maxHeartbeats 8000000 in
set_option maxRecDepth 10000 in
theorem zP (n : Int) (a b : ByteArray) (c x : Tree) (g0 : 0 ≤ n) (g1 : n ≤ 8192) (ct : ACalls Tryz.prog 23 [.imm c.iv] [] (.imm (transP c).1.iv) []) (cw : (transP c).2 = 0 → (transP c).1.whole = true)
    (cx : ACalls Tryz.prog 23 [.imm x.iv] [] (.imm (transP x).1.iv) []) (cxw : (transP x).2 = 0 → (transP x).1.whole = true) :
    ACalls Tryz.prog 23 [.imm (Tree.iv (.node 165 n a b [c, x]))] [] (.imm (finP 165 n (seqP [transP c, transP x])).1.iv) [] := by
  obtain ⟨Q, hQ⟩ : ∃ Q, (finP 165 n (seqP [transP c, transP x])).1 = Q := ⟨_, rfl⟩
  rw [hQ]
  by_cases h0 : (transP c).2 = 0
  · have hw := cw h0
    by_cases h1 : (transP x).2 = 0
    · have hwx := cxw h1
      rw [fI _ (by intro r hr; simp only [List.mem_cons, List.not_mem_nil, or_false] at hr; rcases hr with rfl | rfl; exact h0; exact h1)] at hQ
      unfold finP at hQ
      rw [if_neg (by simp), if_neg (by decide), if_pos rfl] at hQ
      change aroundP 117 n.toNat (conT 114 [(transP c).1, (transP x).1]) = Q at hQ
      obtain ⟨N, rfl⟩ : ∃ N : Nat, n = N := ⟨n.toNat, by omega⟩
      rw [Int.toNat_natCast] at hQ
      generalize (transP c).1 = X at *
      generalize (transP x).1 = Y at *
      obtain ⟨px0, hpx0⟩ := dF (cR hw)
      obtain ⟨py0, hpy0⟩ := dF (cR hwx)
      rw [hpx0] at ct
      rw [hpy0] at cx
      have hww : (conT 114 [X, Y]).whole = true := by
        show Tree.wholes [_, _] = true
        rw [Tree.wholes, Tree.wholes, hw, hwx]; rfl
      have hpz : (conT 114 [X, Y]).iv = conIV 114 2 [.ptr px0 0, .ptr py0 0] := by
        rw [cU, Tree.ivs, Tree.ivs, Tree.ivs, hpx0, hpy0]; rfl
      have cz := eS 114 true 2 [.ptr px0 0, .ptr py0 0]
      have c0 := iI 100
      unfold conIV at hpz cz c0
      refine aM Tryz.func23 rfl rfl (nb rfl) rfl ?_
      repeat' (first | refine aE ?_ | (refine aH ?_;  first | refine aC tabOk rfl rfl rfl (nb rfl) rfl ?_ | (refine aK rfl rfl rfl (nb rfl) rfl rfl rfl (fun hq => ?_) (fun hq => ?_) <;> (first | (simp only [sD, sE, sB, sC, sN, sM, sT, sF] at hq; try (exfalso; omega)) | skip)) | refine aI rfl rfl (nb rfl) rfl rfl rfl rfl (ct) ?_ | refine aI rfl rfl (nb rfl) rfl rfl rfl rfl (cx) ?_ | refine aI rfl rfl (nb rfl) rfl rfl rfl rfl (cz) ?_ | refine bV tabOk rfl rfl rfl (nb rfl) rfl rfl rfl rfl rfl rfl rfl rfl rfl ?_ | refine aU tabOk rfl rfl (nb rfl) rfl ?_ | refine bG tabOk rfl rfl rfl (nb rfl) rfl rfl rfl rfl (by first | rfl | omega) (by first | omega | simp) ?_) | (refine aN ?_;  first | refine aG ?_ | refine aQ ?_ | refine bF ?_ | refine aX ?_ | refine aW ?_ | refine aA (b := true) rfl (fun _ => ?_) nTf | refine aA (b := false) rfl nFt (fun _ => ?_)) | (refine aJ ?_;  first | refine bB ?_))
      all_goals first
        | exact absurd rfl (by assumption)
        | (exfalso; omega)
        | skip
      refine cD (ι := {j : Nat // j ≤ N}) (fun j => S.f ⟨[(10, .imm (.lit (.int .i64 (j.1 : Int)))), (7, .imm (aroundP 117 j.1 (conT 114 [X, Y])).iv), (8, .imm (.lit (.int .i64 117))), (0, .imm (Tree.iv (.node 165 (N : Int) a b [c, x])))], []⟩) (fun j => N - j.1) ⟨0, Nat.zero_le _⟩ (by dsimp only [aroundP]; rw [hpz]; exact (cA (by repeat' first | exact trivial | refine ⟨rfl, ?_⟩) (by repeat' first | exact trivial | refine ⟨rfl, ?_⟩))) ?_
      rintro ⟨j, hj⟩
      dsimp only
      clear hpx0 hpy0 hpz
      generalize conT 114 [X, Y] = Z at *
      obtain ⟨px, hpx⟩ := dF (cR (dX 117 Z hww j).1)
      by_cases hlt : j < N
      · have hnx : (aroundP 117 (j + 1) Z).iv = conIV 117 2 [conIV 100 0 [], .ptr px 0] := by
          rw [aroundP, cU, Tree.ivs, Tree.ivs, hpx]; rfl
        rw [hpx]
        have c1 := eS 117 true 2 [conIV 100 0 [], .ptr px 0]
        unfold conIV at c1 hnx
        repeat' (first | refine aE ?_ | (refine aH ?_;  first | refine aC tabOk rfl rfl rfl (nb rfl) rfl ?_ | (refine aK rfl rfl rfl (nb rfl) rfl rfl rfl (fun hq => ?_) (fun hq => ?_) <;> (first | (simp only [sD, sE, sB, sC, sN, sM, sT, sF] at hq; try (exfalso; omega)) | skip)) | refine aI rfl rfl (nb rfl) rfl rfl rfl rfl (c0) ?_ | refine aI rfl rfl (nb rfl) rfl rfl rfl rfl (c1) ?_ | refine bK rfl rfl rfl (nb rfl) rfl rfl (by omega) ?_ | refine bV tabOk rfl rfl rfl (nb rfl) rfl rfl rfl rfl rfl rfl rfl rfl rfl ?_) | (refine aN ?_;  first | refine aG ?_ | refine aQ ?_ | refine bF ?_ | refine aX ?_ | refine aW ?_ | refine aA (b := true) rfl (fun _ => ?_) nTf) | (refine aJ ?_;  first | refine bB ?_) | (refine aY ?_;  first | refine bR ?_))
        all_goals first
          | (exfalso; omega)
          | (refine ⟨⟨j + 1, hlt⟩, (by show N - (j + 1) < N - j; omega), ?_⟩; dsimp only; rw [hnx]; exact (cA (by repeat' first | exact trivial | refine ⟨rfl, ?_⟩) (by repeat' first | exact trivial | refine ⟨rfl, ?_⟩)))
      · have ej : j = N := by omega
        subst ej
        subst hQ
        rw [hpx]
        repeat' (first | refine aE ?_ | (refine aH ?_;  first | refine aC tabOk rfl rfl rfl (nb rfl) rfl ?_ | (refine aK rfl rfl rfl (nb rfl) rfl rfl rfl (fun hq => ?_) (fun hq => ?_) <;> (first | (simp only [sD, sE, sB, sC, sN, sM, sT, sF] at hq; try (exfalso; omega)) | skip))) | (refine aN ?_;  first | refine aG ?_ | refine aQ ?_ | refine aT ?_ | refine bS ?_ | refine aA (b := false) rfl nFt (fun _ => ?_)) | (refine aJ ?_;  first | refine bB ?_ | refine bJ ?_) | (refine aY ?_;  first | refine bH ?_))
        all_goals first
          | (exfalso; omega)
          | (refine bA (by first | exact .inl rfl | exact .inr rfl) (aZ rfl (aD rfl)) rfl ?_; rfl)
    · have hQ2 : Q = .nil := by
        rw [← hQ]
        refine kJ _ _ _ ?_
        have e : seqP [transP c, transP x] = ([], (transP x).2) := by rw [seqP, if_neg (by simpa using h0), seqP, if_pos h1, if_pos h1]
        rw [e]
        unfold finP
        rw [if_pos h1]
        exact h1
      subst hQ2
      rw [eL x h1] at cx
      obtain ⟨px0, hpx0⟩ := dF (cR hw)
      rw [hpx0] at ct
      refine aM Tryz.func23 rfl rfl (nb rfl) rfl ?_
      repeat' (first | refine aE ?_ | (refine aH ?_;  first | refine aC tabOk rfl rfl rfl (nb rfl) rfl ?_ | (refine aK rfl rfl rfl (nb rfl) rfl rfl rfl (fun hq => ?_) (fun hq => ?_) <;> (first | (simp only [sD, sE, sB, sC, sN, sM, sT, sF] at hq; try (exfalso; omega)) | skip)) | refine aI rfl rfl (nb rfl) rfl rfl rfl rfl (ct) ?_ | refine aI rfl rfl (nb rfl) rfl rfl rfl rfl (cx) ?_ | refine aU tabOk rfl rfl (nb rfl) rfl ?_ | refine bG tabOk rfl rfl rfl (nb rfl) rfl rfl rfl rfl (by first | rfl | omega) (by first | omega | simp) ?_) | (refine aN ?_;  first | refine aG ?_ | refine aQ ?_ | refine aT ?_ | refine aW ?_ | refine aA (b := true) rfl (fun _ => ?_) nTf | refine aA (b := false) rfl nFt (fun _ => ?_)) | (refine aJ ?_;  first | refine bB ?_ | refine aR ?_))
      all_goals first
        | exact absurd rfl (by assumption)
        | (exfalso; omega)
        | (refine bA (by first | exact .inl rfl | exact .inr rfl) (aZ rfl (aD rfl)) rfl ?_; rfl)
  · have hQ2 : Q = .nil := by
      rw [← hQ]
      refine kJ _ _ _ ?_
      have e : seqP [transP c, transP x] = ([], (transP c).2) := by rw [seqP, if_pos h0]
      rw [e]
      unfold finP
      rw [if_pos h0]
      exact h0
    subst hQ2
    rw [eL c h0] at ct
    refine aM Tryz.func23 rfl rfl (nb rfl) rfl ?_
    repeat' (first | refine aE ?_ | (refine aH ?_;  first | refine aC tabOk rfl rfl rfl (nb rfl) rfl ?_ | refine bD rfl rfl (nb rfl) ?_ | (refine aK rfl rfl rfl (nb rfl) rfl rfl rfl (fun hq => ?_) (fun hq => ?_) <;> (first | (simp only [sD, sE, sB, sC, sN, sM, sT, sF] at hq; try (exfalso; omega)) | skip)) | refine aI rfl rfl (nb rfl) rfl rfl rfl rfl (ct) ?_ | refine aI rfl rfl (nb rfl) rfl rfl rfl rfl (cx) ?_ | refine aU tabOk rfl rfl (nb rfl) rfl ?_ | refine bG tabOk rfl rfl rfl (nb rfl) rfl rfl rfl rfl (by first | rfl | omega) (by first | omega | simp) ?_) | (refine aN ?_;  first | refine aG ?_ | refine aQ ?_ | refine aT ?_ | refine aW ?_ | refine aA (b := true) rfl (fun _ => ?_) nTf | refine aA (b := false) rfl nFt (fun _ => ?_)) | (refine aJ ?_;  first | refine bB ?_ | refine aR ?_))
    all_goals first
      | exact absurd rfl (by assumption)
      | (exfalso; omega)
      | (refine bA (by first | exact .inl rfl | exact .inr rfl) (aZ rfl (aD rfl)) rfl ?_; rfl)
theorem aBo (t : Tree) : tForm t → t.whole = true → t.size ≤ 1000000 → ACalls Tryz.prog 23 [.imm t.iv] [] (.imm (transP t).1.iv) [] := by
  induction t using Tree.sind with
  | h t ih =>
    intro hf hw hs
    obtain ⟨k, n, a, b, kids, rfl⟩ := cN hw
    rcases hf with hf | hf | hf
    · rcases fC hf with ⟨hk, c, rfl, hc⟩ | ⟨rfl, hfl, _⟩
      · rw [transP]
        rcases hk with rfl | rfl
        · rw [if_pos rfl]
          exact zM n a b c
        · rw [if_neg (by decide), if_pos rfl]
          exact zN n a b c hc
      · rw [transP, if_neg (by decide), if_neg (by decide), if_pos rfl, gD]
        have hkl := cI kids hw
        have hsz : (Tree.node 162 n a b kids).size = 1 + Tree.sizes kids := by simp only [Tree.size]; try omega
        refine zO n a b kids (by omega) ?_
        intro j hj
        have hm := List.getElem_mem hj
        obtain ⟨n', a', b', c, e, hc⟩ := dY (hfl _ hm)
        have hz := cF (k := 162) (n := n) (a := a) (b := b) hm
        have hwm := bN hw hm
        rw [e] at hz hwm
        have hcw : c.whole = true := bN hwm (List.mem_singleton.2 rfl)
        have hcs : (Tree.node 163 n' a' b' [c]).size = c.size + 1 := by simp only [Tree.size, Tree.sizes]; omega
        exact ⟨n', a', b', c, e, ih c (by omega) (.inl hc) hcw (by omega), fun h0 => (dD c (.inl hc) hcw h0).1⟩
    · obtain ⟨n', a', b', c, e, g0, g1, hc⟩ := lY hf
      cases e
      have hcw : c.whole = true := bN hw (List.mem_singleton.2 rfl)
      have hsz : (Tree.node 164 n a b [c]).size = c.size + 1 := by simp only [Tree.size, Tree.sizes]; omega
      rw [transP, if_neg (by decide), if_neg (by decide), if_neg (by decide), plnRs, plnRs]
      exact aAI n a b c g0 g1 (ih _ (by omega) (.inl hc) hcw (by omega)) fun h0 => (dD _ (.inl hc) hcw h0).1
    · obtain ⟨n', a', b', c, x, e, g0, g1, hc, hx⟩ := nL hf
      cases e
      have hcw : c.whole = true := bN hw (by simp)
      have hxw : x.whole = true := bN hw (by simp)
      have hsz : (Tree.node 165 n a b [c, x]).size = c.size + x.size + 1 := by simp only [Tree.size, Tree.sizes]; omega
      have hc1 := fZ hcw
      have hx1 := fZ hxw
      rw [transP, if_neg (by decide), if_neg (by decide), if_neg (by decide), plnRs, plnRs, plnRs]
      exact zP n a b c x g0 g1 (ih _ (by omega) (.inl hc) hcw (by omega)) (fun h0 => (dD _ (.inl hc) hcw h0).1) (ih _ (by omega) (.inr (.inl hx)) hxw (by omega)) fun h0 => (dD _ (.inr (.inl hx)) hxw h0).1
set_option maxHeartbeats 4000000 in
set_option maxRecDepth 10000 in
theorem zQ (t : Tree) (hw : t = .nil ∨ t.whole = true) (hs : t.size ≤ 65536) : ACalls Tryz.prog 7 [.imm t.iv] [] (.imm (.tup [(sTransP t).1.iv, .lit (.int .i64 (sTransP t).2)])) [] := by
  have c1 := nE t hw hs
  obtain ⟨Q, hQ⟩ : ∃ Q, sTransP t = Q := ⟨_, rfl⟩
  rw [hQ]
  by_cases hc : checkP sformP t = 0
  · obtain ⟨hw, hz, hf⟩ := cT hc
    have ht := nK hf
    have c2 := aBo t ht hw (by omega)
    rw [hc] at c1
    by_cases h0 : (transP t).2 = 0
    · rw [qC t hc h0] at hQ
      obtain ⟨g1, g2⟩ := dD t ht hw h0
      have c3 := vI (transP t).1 g1 (by omega)
      obtain ⟨px, hpx⟩ := dF (cR g1)
      rw [hpx] at c2 c3
      clear hc ht hf
      by_cases hb : ((transP t).1.size : Int) > 65536
      · rw [if_pos hb] at hQ
        subst hQ
        generalize ((transP t).1.size : Int) = Z at *
        refine aM Tryz.func7 rfl rfl (nb rfl) rfl ?_
        repeat' (first | refine aE ?_ | (refine aH ?_;  first | refine aC tabOk rfl rfl rfl (nb rfl) rfl ?_ | (refine aK rfl rfl rfl (nb rfl) rfl rfl rfl (fun hq => ?_) (fun hq => ?_) <;> (first | (simp only [sD, sE, sB, sC, sN, sM, sT, sF] at hq; try (exfalso; omega)) | skip)) | refine aI rfl rfl (nb rfl) rfl rfl rfl rfl (c1) ?_ | refine aI rfl rfl (nb rfl) rfl rfl rfl rfl (c2) ?_ | refine aI rfl rfl (nb rfl) rfl rfl rfl rfl (c3) ?_ | refine aU tabOk rfl rfl (nb rfl) rfl ?_) | (refine aN ?_;  first | refine aG ?_ | refine aQ ?_ | refine aT ?_ | refine aW ?_ | refine aA (b := true) rfl (fun _ => ?_) nTf | refine aA (b := false) rfl nFt (fun _ => ?_)) | (refine aJ ?_;  first | refine bB ?_ | refine aR ?_))
        all_goals first
          | exact absurd rfl (by assumption)
          | (exfalso; omega)
          | (refine bA (by first | exact .inl rfl | exact .inr rfl) (bP rfl (aD rfl) (aD rfl)) rfl ?_; rfl)
      · rw [if_neg hb] at hQ
        subst hQ
        dsimp only
        rw [hpx]
        generalize ((transP t).1.size : Int) = Z at *
        refine aM Tryz.func7 rfl rfl (nb rfl) rfl ?_
        repeat' (first | refine aE ?_ | (refine aH ?_;  first | refine aC tabOk rfl rfl rfl (nb rfl) rfl ?_ | (refine aK rfl rfl rfl (nb rfl) rfl rfl rfl (fun hq => ?_) (fun hq => ?_) <;> (first | (simp only [sD, sE, sB, sC, sN, sM, sT, sF] at hq; try (exfalso; omega)) | skip)) | refine aI rfl rfl (nb rfl) rfl rfl rfl rfl (c1) ?_ | refine aI rfl rfl (nb rfl) rfl rfl rfl rfl (c2) ?_ | refine aI rfl rfl (nb rfl) rfl rfl rfl rfl (c3) ?_ | refine aU tabOk rfl rfl (nb rfl) rfl ?_) | (refine aN ?_;  first | refine aG ?_ | refine aQ ?_ | refine aT ?_ | refine aW ?_ | refine aA (b := false) rfl nFt (fun _ => ?_)) | (refine aJ ?_;  first | refine bB ?_))
        all_goals first
          | exact absurd rfl (by assumption)
          | (exfalso; omega)
          | (refine bA (by first | exact .inl rfl | exact .inr rfl) (bP rfl (aD rfl) (aD rfl)) rfl ?_; rfl)
    · rw [sV t hc h0] at hQ
      subst hQ
      rw [eL t h0] at c2
      refine aM Tryz.func7 rfl rfl (nb rfl) rfl ?_
      repeat' (first | refine aE ?_ | (refine aH ?_;  first | refine aC tabOk rfl rfl rfl (nb rfl) rfl ?_ | refine bD rfl rfl (nb rfl) ?_ | (refine aK rfl rfl rfl (nb rfl) rfl rfl rfl (fun hq => ?_) (fun hq => ?_) <;> (first | (simp only [sD, sE, sB, sC, sN, sM, sT, sF] at hq; try (exfalso; omega)) | skip)) | refine aI rfl rfl (nb rfl) rfl rfl rfl rfl (c1) ?_ | refine aI rfl rfl (nb rfl) rfl rfl rfl rfl (c2) ?_ | refine aU tabOk rfl rfl (nb rfl) rfl ?_) | (refine aN ?_;  first | refine aG ?_ | refine aQ ?_ | refine aT ?_ | refine aW ?_ | refine aA (b := true) rfl (fun _ => ?_) nTf | refine aA (b := false) rfl nFt (fun _ => ?_)) | (refine aJ ?_;  first | refine bB ?_ | refine aR ?_))
      all_goals first
        | exact absurd rfl (by assumption)
        | (refine bA (by first | exact .inl rfl | exact .inr rfl) (bP rfl (aD rfl) (aD rfl)) rfl ?_; rfl)
  · unfold sTransP at hQ
    rw [if_pos hc] at hQ
    subst hQ
    generalize checkP sformP t = C at *
    refine aM Tryz.func7 rfl rfl (nb rfl) rfl ?_
    repeat' (first | refine aE ?_ | (refine aH ?_;  first | refine aC tabOk rfl rfl rfl (nb rfl) rfl ?_ | (refine aK rfl rfl rfl (nb rfl) rfl rfl rfl (fun hq => ?_) (fun hq => ?_) <;> (first | (simp only [sD, sE, sB, sC, sN, sM, sT, sF] at hq; try (exfalso; omega)) | skip)) | refine aI rfl rfl (nb rfl) rfl rfl rfl rfl (c1) ?_) | (refine aN ?_;  first | refine aG ?_ | refine aQ ?_ | refine aT ?_ | refine aA (b := true) rfl (fun _ => ?_) nTf) | (refine aJ ?_;  first | refine aR ?_))
    all_goals first
      | exact absurd rfl (by assumption)
      | exact absurd (by assumption) hc
      | (refine bA (by first | exact .inl rfl | exact .inr rfl) (bP rfl (aD rfl) (aD rfl)) rfl ?_; rfl)
set_option maxHeartbeats 4000000 in
set_option maxRecDepth 10000 in
theorem zR (c : Tree) (hs : c.size ≤ 100000) : ACalls Tryz.prog 9 [.imm c.iv] [] (.imm (.tup [(sTokenP c).1.iv, .lit (.int .i64 (sTokenP c).2)])) [] := by
  have c1 := pW c (by omega)
  obtain ⟨Q, hQ⟩ : ∃ Q, sTokenP c = Q := ⟨_, rfl⟩
  rw [hQ]
  by_cases hc : checkP isConP c = 0
  · have c2 := oU c hc
    have c0 := oT
    have c4 := iI 130
    rw [hc] at c1
    by_cases h0 : (tokP c).2 = 0
    · rw [qD c hc h0] at hQ
      obtain ⟨g1, g2⟩ := eX c h0
      obtain ⟨px, hpx⟩ := dF (cR g1)
      have c3 := vI (tokP c).1 g1 (by omega)
      have hnx : (tokT (tokP c).1).iv = conIV 139 2 [conIV 101 2 [conIV 100 0 [], conIV 100 0 []], conIV 134 2 [.ptr px 0, conIV 130 0 []]] := by
        unfold tokT
        rw [cU, Tree.ivs, Tree.ivs, Tree.ivs, dV, cU, Tree.ivs, Tree.ivs, Tree.ivs, cU, hpx]; rfl
      have c5 := eS 134 true 2 [.ptr px 0, conIV 130 0 []]
      have c6 := eS 139 true 2 [conIV 101 2 [conIV 100 0 [], conIV 100 0 []], conIV 134 2 [.ptr px 0, conIV 130 0 []]]
      rw [hpx] at c2 c3
      rw [dV] at c0
      by_cases hb : ((tokP c).1.size : Int) + 6 > 65536
      · rw [if_pos hb] at hQ
        subst hQ
        clear hnx
        generalize (tokP c).1.size = Z at *
        refine aM Tryz.func9 rfl rfl (nb rfl) rfl ?_
        repeat' (first | refine aE ?_ | (refine aH ?_;  first | refine aC tabOk rfl rfl rfl (nb rfl) rfl ?_ | (refine aK rfl rfl rfl (nb rfl) rfl rfl rfl (fun hq => ?_) (fun hq => ?_) <;> (first | (simp only [sD, sE, sB, sC, sN, sM, sT, sF] at hq; try (exfalso; omega)) | skip)) | refine aI rfl rfl (nb rfl) rfl rfl rfl rfl (c1) ?_ | refine aI rfl rfl (nb rfl) rfl rfl rfl rfl (c2) ?_ | refine aI rfl rfl (nb rfl) rfl rfl rfl rfl (c3) ?_ | refine cG (z := (Z : Int) + 6) rfl rfl rfl (nb rfl) rfl rfl rfl (by omega) (by omega) ?_ | refine aU tabOk rfl rfl (nb rfl) rfl ?_) | (refine aN ?_;  first | refine aG ?_ | refine aQ ?_ | refine aT ?_ | refine aW ?_ | refine aA (b := true) rfl (fun _ => ?_) nTf | refine aA (b := false) rfl nFt (fun _ => ?_)) | (refine aJ ?_;  first | refine bB ?_ | refine aR ?_))
        all_goals first
          | exact absurd rfl (by assumption)
          | (exfalso; omega)
          | (refine bA (by first | exact .inl rfl | exact .inr rfl) (bP rfl (aD rfl) (aD rfl)) rfl ?_; rfl)
      · rw [if_neg hb] at hQ
        subst hQ
        dsimp only
        rw [hnx]
        generalize (tokP c).1.size = Z at *
        unfold conIV at *
        refine aM Tryz.func9 rfl rfl (nb rfl) rfl ?_
        repeat' (first | refine aE ?_ | (refine aH ?_;  first | refine aC tabOk rfl rfl rfl (nb rfl) rfl ?_ | (refine aK rfl rfl rfl (nb rfl) rfl rfl rfl (fun hq => ?_) (fun hq => ?_) <;> (first | (simp only [sD, sE, sB, sC, sN, sM, sT, sF] at hq; try (exfalso; omega)) | skip)) | refine aI rfl rfl (nb rfl) rfl rfl rfl rfl (c1) ?_ | refine aI rfl rfl (nb rfl) rfl rfl rfl rfl (c2) ?_ | refine aI rfl rfl (nb rfl) rfl rfl rfl rfl (c3) ?_ | refine aI rfl rfl (nb rfl) rfl rfl rfl rfl (c0) ?_ | refine aI rfl rfl (nb rfl) rfl rfl rfl rfl (c4) ?_ | refine aI rfl rfl (nb rfl) rfl rfl rfl rfl (c5) ?_ | refine aI rfl rfl (nb rfl) rfl rfl rfl rfl (c6) ?_ | refine cG (z := (Z : Int) + 6) rfl rfl rfl (nb rfl) rfl rfl rfl (by omega) (by omega) ?_ | refine bV tabOk rfl rfl rfl (nb rfl) rfl rfl rfl rfl rfl rfl rfl rfl rfl ?_ | refine aU tabOk rfl rfl (nb rfl) rfl ?_) | (refine aN ?_;  first | refine aG ?_ | refine aQ ?_ | refine aT ?_ | refine aW ?_ | refine aA (b := false) rfl nFt (fun _ => ?_)) | (refine aJ ?_;  first | refine bB ?_))
        all_goals first
          | exact absurd rfl (by assumption)
          | (exfalso; omega)
          | (refine bA (by first | exact .inl rfl | exact .inr rfl) (bP rfl (aD rfl) (aD rfl)) rfl ?_; rfl)
    · rw [sW c hc h0] at hQ
      subst hQ
      rw [((kI c).resolve_left h0).2] at c2
      refine aM Tryz.func9 rfl rfl (nb rfl) rfl ?_
      repeat' (first | refine aE ?_ | (refine aH ?_;  first | refine aC tabOk rfl rfl rfl (nb rfl) rfl ?_ | refine bD rfl rfl (nb rfl) ?_ | (refine aK rfl rfl rfl (nb rfl) rfl rfl rfl (fun hq => ?_) (fun hq => ?_) <;> (first | (simp only [sD, sE, sB, sC, sN, sM, sT, sF] at hq; try (exfalso; omega)) | skip)) | refine aI rfl rfl (nb rfl) rfl rfl rfl rfl (c1) ?_ | refine aI rfl rfl (nb rfl) rfl rfl rfl rfl (c2) ?_ | refine aU tabOk rfl rfl (nb rfl) rfl ?_) | (refine aN ?_;  first | refine aG ?_ | refine aQ ?_ | refine aT ?_ | refine aW ?_ | refine aA (b := true) rfl (fun _ => ?_) nTf | refine aA (b := false) rfl nFt (fun _ => ?_)) | (refine aJ ?_;  first | refine bB ?_ | refine aR ?_))
      all_goals first
        | exact absurd rfl (by assumption)
        | (refine bA (by first | exact .inl rfl | exact .inr rfl) (bP rfl (aD rfl) (aD rfl)) rfl ?_; rfl)
  · unfold sTokenP at hQ
    rw [if_pos hc] at hQ
    subst hQ
    generalize checkP isConP c = C at *
    refine aM Tryz.func9 rfl rfl (nb rfl) rfl ?_
    repeat' (first | refine aE ?_ | (refine aH ?_;  first | refine aC tabOk rfl rfl rfl (nb rfl) rfl ?_ | (refine aK rfl rfl rfl (nb rfl) rfl rfl rfl (fun hq => ?_) (fun hq => ?_) <;> (first | (simp only [sD, sE, sB, sC, sN, sM, sT, sF] at hq; try (exfalso; omega)) | skip)) | refine aI rfl rfl (nb rfl) rfl rfl rfl rfl (c1) ?_) | (refine aN ?_;  first | refine aG ?_ | refine aQ ?_ | refine aT ?_ | refine aA (b := true) rfl (fun _ => ?_) nTf) | (refine aJ ?_;  first | refine aR ?_))
    all_goals first
      | exact absurd rfl (by assumption)
      | exact absurd (by assumption) hc
      | (refine bA (by first | exact .inl rfl | exact .inr rfl) (bP rfl (aD rfl) (aD rfl)) rfl ?_; rfl)
end Go.Proofs.YtlbemgokilhdnaaGreatDoor.Ab
namespace Go.Proofs.YtlbemgokilhdnaaGreatDoor.Ab
set_option linter.unusedVariables false
set_option linter.unusedSimpArgs false
open Go.RowKit
attribute [local irreducible] AWP AOps AExit AThen ABlock ANoGoto FeetOk
set_option maxHeartbeats 8000000 in
set_option maxRecDepth 10000 in
theorem zS (k n : Int) (a b : ByteArray) (kids : List Tree) (label : ByteArray) (hw : Tree.wholes kids = true) (hl : kids.length < 1000000000) (hk : ∀ t ∈ kids, t.kind = 163 → ∃ n' a' b' c, t = .node 163 n' a' b' [c]) :
    ACalls Tryz.prog 40 [.imm (Tree.iv (.node k n a b kids)), .imm (.lit (.string label))] [] (.imm (fieldP label kids).1.iv) [] := by
  obtain ⟨Q, hQ⟩ : ∃ Q, fieldP label kids = Q := ⟨_, rfl⟩
  rw [hQ]
  refine aM Tryz.func40 rfl rfl (nb rfl) rfl ?_
  repeat' (first | refine aE ?_ | (refine aH ?_;  first | refine aC tabOk rfl rfl rfl (nb rfl) rfl ?_) | (refine aN ?_;  first | refine aG ?_ | refine aQ ?_ | refine aX ?_))
  refine cD (ι := {j : Nat // j ≤ kids.length ∧ fieldP label (kids.drop j) = Q}) (fun j => S.f ⟨[(5, .imm (.lit (.int .i64 (j.1 : Int)))), (0, .imm (Tree.iv (.node k n a b kids))), (1, .imm (.lit (.string label)))], []⟩) (fun j => kids.length - j.1) ⟨0, Nat.zero_le _, hQ⟩ (cA (by repeat' first | exact trivial | refine ⟨rfl, ?_⟩) (by repeat' first | exact trivial | refine ⟨rfl, ?_⟩)) ?_
  rintro ⟨j, hj, hR⟩
  clear hQ
  dsimp only at hj hR ⊢
  by_cases hlt : j < kids.length
  · have hget := bZ kids j hlt
    have hm := List.getElem_mem hlt
    have hwm := bN hw hm
    rw [List.drop_eq_getElem_cons hlt, fieldP] at hR
    have hkm := hk _ hm
    clear hk hw
    generalize kids[j] = t at *
    by_cases h163 : t.kind = 163
    · obtain ⟨n', a', b', c, rfl⟩ := hkm h163
      have e : isLab label (.node 163 n' a' b' [c]) = eqB a' label := by
        show (decide ((163 : Int) = 163) && eqB a' label) = _
        simp
      rw [e] at hR
      cases he : eqB a' label with
      | true =>
        rw [he, if_pos rfl] at hR
        subst hR
        dsimp only [kid0]
        unfold eqB at he
        rw [beq_iff_eq] at he
        clear hkm
        repeat' (first | refine aE ?_ | (refine aH ?_;  first | refine aC tabOk rfl rfl rfl (nb rfl) rfl ?_ | (refine aK rfl rfl rfl (nb rfl) rfl rfl rfl (fun hq => ?_) (fun hq => ?_) <;> (first | (simp only [sD, sE, sB, sC, sN, sM, sT, sF] at hq; try (exfalso; omega)) | skip)) | refine aV tabOk rfl rfl rfl (nb rfl) rfl rfl rfl hget ?_ | refine bK rfl rfl rfl (nb rfl) rfl rfl (by omega) ?_ | refine aU tabOk rfl rfl (nb rfl) rfl ?_ | refine bI tabOk rfl rfl rfl (nb rfl) rfl rfl rfl rfl (by first | assumption | omega) ?_ | refine bG tabOk rfl rfl rfl (nb rfl) rfl rfl rfl rfl (by first | rfl | omega) (by first | omega | simp) ?_) | (refine aN ?_;  first | refine aG ?_ | refine aQ ?_ | refine bF ?_ | refine aX ?_ | refine aT ?_ | refine aW ?_ | refine aA (b := true) rfl (fun _ => ?_) nTf | refine aA (b := false) rfl nFt (fun _ => ?_)) | (refine aJ ?_;  first | refine bB ?_ | refine aR ?_) | (refine aY ?_;  first | refine bR ?_ | refine bE ?_))
        all_goals first
          | exact absurd rfl (by assumption)
          | exact absurd he (by assumption)
          | (exfalso; omega)
          | (refine bA (by first | exact .inl rfl | exact .inr rfl) (aZ rfl (aD rfl)) rfl ?_; rfl)
      | false =>
        rw [he, if_neg (by simp)] at hR
        unfold eqB at he
        rw [beq_eq_false_iff_ne] at he
        clear hkm
        repeat' (first | refine aE ?_ | (refine aH ?_;  first | refine aC tabOk rfl rfl rfl (nb rfl) rfl ?_ | (refine aK rfl rfl rfl (nb rfl) rfl rfl rfl (fun hq => ?_) (fun hq => ?_) <;> (first | (simp only [sD, sE, sB, sC, sN, sM, sT, sF] at hq; try (exfalso; omega)) | skip)) | refine aV tabOk rfl rfl rfl (nb rfl) rfl rfl rfl hget ?_ | refine bK rfl rfl rfl (nb rfl) rfl rfl (by omega) ?_ | refine aU tabOk rfl rfl (nb rfl) rfl ?_ | refine bI tabOk rfl rfl rfl (nb rfl) rfl rfl rfl rfl (by first | assumption | omega) ?_ | refine bG tabOk rfl rfl rfl (nb rfl) rfl rfl rfl rfl (by first | rfl | omega) (by first | omega | simp) ?_) | (refine aN ?_;  first | refine aG ?_ | refine aQ ?_ | refine bF ?_ | refine aX ?_ | refine aT ?_ | refine aW ?_ | refine aA (b := true) rfl (fun _ => ?_) nTf | refine aA (b := false) rfl nFt (fun _ => ?_)) | (refine aJ ?_;  first | refine bB ?_ | refine aR ?_) | (refine aY ?_;  first | refine bR ?_ | refine bE ?_))
        all_goals first
          | exact absurd rfl (by assumption)
          | exact absurd (by assumption) he
          | (exfalso; omega)
          | exact ⟨⟨j + 1, hlt, hR⟩, (by show kids.length - (j + 1) < kids.length - j; omega), (cA (by repeat' first | exact trivial | refine ⟨rfl, ?_⟩) (by repeat' first | exact trivial | refine ⟨rfl, ?_⟩))⟩
    · obtain ⟨kk, n', a', b', ks, rfl⟩ := cN hwm
      change kk ≠ 163 at h163
      have e : isLab label (.node kk n' a' b' ks) = false := by
        show (decide (kk = 163) && eqB a' label) = false
        simp [h163]
      rw [e, if_neg (by simp)] at hR
      clear hkm
      repeat' (first | refine aE ?_ | (refine aH ?_;  first | refine aC tabOk rfl rfl rfl (nb rfl) rfl ?_ | refine bD rfl rfl (nb rfl) ?_ | (refine aK rfl rfl rfl (nb rfl) rfl rfl rfl (fun hq => ?_) (fun hq => ?_) <;> (first | (simp only [sD, sE, sB, sC, sN, sM, sT, sF] at hq; try (exfalso; omega)) | skip)) | refine aV tabOk rfl rfl rfl (nb rfl) rfl rfl rfl hget ?_ | refine bK rfl rfl rfl (nb rfl) rfl rfl (by omega) ?_ | refine aU tabOk rfl rfl (nb rfl) rfl ?_ | refine bI tabOk rfl rfl rfl (nb rfl) rfl rfl rfl rfl (by first | assumption | omega) ?_) | (refine aN ?_;  first | refine aG ?_ | refine aQ ?_ | refine bF ?_ | refine aX ?_ | refine aW ?_ | refine aA (b := true) rfl (fun _ => ?_) nTf | refine aA (b := false) rfl nFt (fun _ => ?_)) | (refine aJ ?_;  first | refine bB ?_) | (refine aY ?_;  first | refine bR ?_))
      all_goals first
        | exact absurd (by assumption) h163
        | (exfalso; omega)
        | exact ⟨⟨j + 1, hlt, hR⟩, (by show kids.length - (j + 1) < kids.length - j; omega), (cA (by repeat' first | exact trivial | refine ⟨rfl, ?_⟩) (by repeat' first | exact trivial | refine ⟨rfl, ?_⟩))⟩
  · have ej : j = kids.length := by omega
    subst ej
    rw [List.drop_length, fieldP] at hR
    subst hR
    repeat' (first | refine aE ?_ | (refine aH ?_;  first | refine aC tabOk rfl rfl rfl (nb rfl) rfl ?_ | (refine aK rfl rfl rfl (nb rfl) rfl rfl rfl (fun hq => ?_) (fun hq => ?_) <;> (first | (simp only [sD, sE, sB, sC, sN, sM, sT, sF] at hq; try (exfalso; omega)) | skip)) | refine aU tabOk rfl rfl (nb rfl) rfl ?_) | (refine aN ?_;  first | refine aG ?_ | refine aQ ?_ | refine aT ?_ | refine bS ?_ | refine aA (b := false) rfl nFt (fun _ => ?_)) | (refine aJ ?_;  first | refine bB ?_ | refine bJ ?_) | (refine aY ?_;  first | refine bH ?_))
    all_goals first
      | (exfalso; omega)
      | (refine bA (by first | exact .inl rfl | exact .inr rfl) (aZ rfl (aD rfl)) rfl ?_; rfl)
end Go.Proofs.YtlbemgokilhdnaaGreatDoor.Ab
namespace Go.Proofs.YtlbemgokilhdnaaGreatDoor.Ab
set_option linter.unusedVariables false
set_option linter.unusedSimpArgs false
open Go.RowKit Go.Proofs.YtlbemgokilhdnaaGreatDoor.RP
attribute [local irreducible] AWP AOps AExit AThen ABlock ANoGoto FeetOk
end Go.Proofs.YtlbemgokilhdnaaGreatDoor.Ab
namespace Go.Proofs.YtlbemgokilhdnaaGreatDoor.Ab
set_option linter.unusedVariables false
set_option linter.unusedSimpArgs false
open Go.RowKit Go.Lib Go.Proofs.YtlbemgokilhdnaaGreatDoorW.PrintWords Go.Proofs.YtlbemgokilhdnaaGreatDoorW.PrintLast Go.Proofs.YtlbemgokilhdnaaGreatDoorW.PrintMore Go.Proofs.YtlbemgokilhdnaaGreatDoor.RP Go.Proofs.YtlbemgokilhdnaaGreatDoor.RW Go.Proofs.YtlbemgokilhdnaaGreatDoor.PAll
attribute [local irreducible] AWP AOps AExit AThen ABlock ANoGoto FeetOk
theorem oY (l : List ByteArray) (x : ByteArray) : strs (l ++ [x]) = strs l ++ [.lit (.string x)] := by simp [strs]
end Go.Proofs.YtlbemgokilhdnaaGreatDoor.Ab
namespace Go.Proofs.YtlbemgokilhdnaaGreatDoor.Ab
set_option linter.unusedVariables false
set_option linter.unusedSimpArgs false
open Go.RowKit Go.Lib Go.Proofs.YtlbemgokilhdnaaGreatDoorW.PrintWords Go.Proofs.YtlbemgokilhdnaaGreatDoorW.PrintLast Go.Proofs.YtlbemgokilhdnaaGreatDoorW.PrintMore Go.Proofs.YtlbemgokilhdnaaGreatDoor.RP Go.Proofs.YtlbemgokilhdnaaGreatDoor.RW Go.Proofs.YtlbemgokilhdnaaGreatDoor.PAll
attribute [local irreducible] AWP AOps AExit AThen ABlock ANoGoto FeetOk
set_option maxHeartbeats 4000000 in
set_option maxRecDepth 10000 in
theorem zT (s : ByteArray) (hs : s.size ≤ 1000000) : ACalls Tryz.prog 90 [.imm (.lit (.string s))] [] (.imm (.lit (.bool (nameB s)))) [] := by
  have c1 := xJ s hs
  have c2 := xI s
  unfold nameB
  refine aM Tryz.func90 rfl rfl (nb rfl) rfl ?_
  repeat' (first | refine aE ?_ | (refine aH ?_; first | refine aC tabOk rfl rfl rfl (nb rfl) rfl ?_ | refine bD rfl rfl (nb rfl) ?_ | (refine aK rfl rfl rfl (nb rfl) rfl rfl rfl (fun hq => ?_) (fun hq => ?_) <;> (first | (simp only [sD, sE, sB, sC, sN, sM, sT, sF] at hq; try (exfalso; omega)) | skip))| (refine bO rfl rfl rfl (nb rfl) rfl rfl rfl (c1) (fun hq => ?_) (fun hq => ?_)) | (refine bO rfl rfl rfl (nb rfl) rfl rfl rfl (c2) (fun hq => ?_) (fun hq => ?_)) | refine bK rfl rfl rfl (nb rfl) rfl rfl (by omega) ?_ | refine cG rfl rfl rfl (nb rfl) rfl rfl rfl (by omega) (by omega) ?_ | refine bY rfl rfl rfl (nb rfl) rfl rfl rfl (by omega) (by omega) ?_ | refine bV tabOk rfl rfl rfl (nb rfl) rfl rfl rfl rfl rfl rfl rfl rfl rfl ?_ | refine aU tabOk rfl rfl (nb rfl) rfl ?_ | refine cC tabOk rfl rfl rfl (nb rfl) rfl rfl rfl rfl rfl rfl ?_ | refine bT tabOk rfl rfl rfl (nb rfl) rfl rfl rfl rfl ?_ | refine bM tabOk rfl rfl rfl rfl rfl rfl rfl rfl rfl rfl rfl ?_ | refine bI tabOk rfl rfl rfl (nb rfl) rfl rfl rfl rfl (by first | assumption | omega) ?_ | refine bG tabOk rfl rfl rfl (nb rfl) rfl rfl rfl rfl (by first | rfl | omega) (by first | omega | simp) ?_ | refine aV tabOk rfl rfl rfl (nb rfl) rfl rfl rfl (by assumption) ?_ | refine aV tabOk rfl rfl rfl (nb rfl) rfl rfl rfl (bZ _ _ (by first | assumption | omega)) ?_ | refine bK rfl rfl rfl (nb rfl) rfl rfl (by omega) ?_ | ((fail_if_success (refine bW (b := true) rfl rfl rfl ?_)); (fail_if_success (refine bW (b := false) rfl rfl rfl ?_)); refine cE rfl rfl rfl (fun hq => ?_) (fun hq => ?_) <;> first | subst hq | (first | (simp only [sD, sE, sB, sC, sN, sM, sT, sF] at hq; try (exfalso; omega)) | skip)) | fail) | (refine aN ?_; first | refine aG ?_ | refine aQ ?_ | refine bF ?_ | refine aX ?_ | refine aT ?_ | refine bS ?_ | refine aW ?_ | refine aA (b := true) rfl (fun _ => ?_) nTf | refine aA (b := false) rfl nFt (fun _ => ?_) | refine cK ?_ | refine cJ ?_ | refine cL mixed (by kernel_rfl) ?_ | refine bC mixed (by kernel_rfl) ?_ | (refine aA rfl (fun hq => ?_) (fun hq => ?_) <;> first | subst hq | (first | (simp only [sD, sE, sB, sC, sN, sM, sT, sF] at hq; try (exfalso; omega)) | skip)) | fail) | (refine aJ ?_; first | refine bB ?_ | refine bJ ?_ | refine aR ?_ | fail) | (refine aY ?_; first | refine bR ?_ | refine bH ?_ | refine cB (by decide) ?_ | refine bE ?_ | fail) | refine bU (bQ (by kernel_rfl)) ?_ | fail)
  all_goals (refine bA (by first | exact .inl rfl | exact .inr rfl) (aZ rfl (aD rfl)) rfl ?_; refine cM ?_; simp_all)
theorem ext_list (s : ByteArray) (i j : Nat) : (s.extract i j).data.toList = (s.data.toList.take j).drop i := by
  rw [ByteArray.data_extract, Array.toList_extract, List.extract_eq_take_drop, List.drop_take]
theorem sX (s : ByteArray) (i : Nat) (h : i < s.size) : s.data.toList[i]? = some s[i] := by
  rw [List.getElem?_eq_getElem (by rw [eH]; exact h)]
  rfl
theorem zU (s : ByteArray) (a i : Nat) (ha : a ≤ i) (hi : i < s.size) (hb : s[i] = 46) (hn : (46 : UInt8) ∉ (s.extract a i).data.toList) :
    pcsB (s.extract a s.size) = s.extract a i :: pcsB (s.extract (i + 1) s.size) := by
  have hl : (s.extract a s.size).data.toList = (s.extract a i).data.toList ++ 46 :: (s.extract (i + 1) s.size).data.toList := by
    rw [ext_list, ext_list, ext_list, ← eH, List.take_length]
    have hb' := sX s i hi
    rw [hb] at hb'
    generalize s.data.toList = l at *
    have h1 : l = l.take i ++ 46 :: l.drop (i + 1) := by
      conv => lhs; rw [← List.take_append_drop i l]
      congr 1
      rw [List.drop_eq_getElem?_toList_append, hb']
      rfl
    have h2 : (l.take i).length = i := by
      rw [List.length_take]
      have : i < l.length := by
        rcases Nat.lt_or_ge i l.length with h | h
        · exact h
        · rw [List.getElem?_eq_none h] at hb'; cases hb'
      omega
    conv => lhs; rw [h1]
    rw [List.drop_append, h2, Nat.sub_eq_zero_of_le ha]
    rfl
  unfold pcsB
  rw [hl, qB, gF _ hn]
  show mkB _ :: (pcs _).map mkB = _
  rw [kK]
theorem aAJ (s : ByteArray) (h : (46 : UInt8) ∉ s.data.toList) : pcsB s = [s] := by
  unfold pcsB
  rw [gF _ h]
  show [mkB _] = _
  rw [kK]
theorem sY (s : ByteArray) (a i : Nat) (ha : a ≤ i) (hi : i < s.size) (hb : s[i] ≠ 46) (hn : (46 : UInt8) ∉ (s.extract a i).data.toList) : (46 : UInt8) ∉ (s.extract a (i + 1)).data.toList := by
  have hb' := sX s i hi
  rw [ext_list] at hn ⊢
  have h2 : (s.data.toList.take i).length = i := by rw [List.length_take, eH]; omega
  rw [List.take_add_one, hb', List.drop_append, h2, Nat.sub_eq_zero_of_le ha, List.mem_append]
  rintro (h | h)
  · exact hn h
  · exact hb (List.mem_singleton.1 h).symm
theorem lK (s : ByteArray) (i : Nat) : (46 : UInt8) ∉ (s.extract i i).data.toList := by
  rw [ext_list, List.drop_eq_nil_of_le (by rw [List.length_take]; omega)]
  exact List.not_mem_nil
structure PcI (s : ByteArray) (i a : Nat) (D : List ByteArray) : Prop where
  le : i ≤ s.size
  ge : a ≤ i
  p : pcsB s = D ++ pcsB (s.extract a s.size)
  n : (46 : UInt8) ∉ (s.extract a i).data.toList
theorem ext_all (s : ByteArray) : s.extract 0 s.size = s := by
  apply qA
  rw [ext_list, ← eH, List.take_length]
  rfl
theorem aBp {b : UInt8} (h : (b.toNat : Int) = 46) : b = 46 := by
  apply UInt8.toNat_inj.1
  have : b.toNat = 46 := by omega
  rw [this]; rfl
set_option maxHeartbeats 8000000 in
set_option maxRecDepth 10000 in
theorem sZ (s : ByteArray) (hs : s.size ≤ 100000) : ACalls Tryz.prog 68 [.imm (.lit (.string s))] [] (.imm (.sl false (pcsB s).length (strs (pcsB s)))) [] := by
  have hpl := iK s
  refine cY Tryz.func68 rfl rfl (nb rfl) rfl ?_
  repeat' (first | refine aE ?_ | (refine aH ?_; first | refine aC tabOk rfl rfl rfl (nb rfl) rfl ?_ | refine bD rfl rfl (nb rfl) ?_ | (refine aK rfl rfl rfl (nb rfl) rfl rfl rfl (fun hq => ?_) (fun hq => ?_) <;> (first | (simp only [sD, sE, sB, sC, sN, sM, sT, sF] at hq; try (exfalso; omega)) | skip)) | refine bK rfl rfl rfl (nb rfl) rfl rfl (by omega) ?_ | refine cG rfl rfl rfl (nb rfl) rfl rfl rfl (by omega) (by omega) ?_ | refine bY rfl rfl rfl (nb rfl) rfl rfl rfl (by omega) (by omega) ?_ | refine bV tabOk rfl rfl rfl (nb rfl) rfl rfl rfl rfl rfl rfl rfl rfl rfl ?_ | refine aU tabOk rfl rfl (nb rfl) rfl ?_ | refine cC tabOk rfl rfl rfl (nb rfl) rfl rfl rfl rfl rfl rfl ?_ | refine bT tabOk rfl rfl rfl (nb rfl) rfl rfl rfl rfl ?_ | refine bM tabOk rfl rfl rfl rfl rfl rfl rfl rfl rfl rfl rfl ?_ | refine bI tabOk rfl rfl rfl (nb rfl) rfl rfl rfl rfl (by first | assumption | omega) ?_ | refine bG tabOk rfl rfl rfl (nb rfl) rfl rfl rfl rfl (by first | rfl | omega) (by first | omega | simp) ?_ | refine aV tabOk rfl rfl rfl (nb rfl) rfl rfl rfl (by assumption) ?_ | refine aV tabOk rfl rfl rfl (nb rfl) rfl rfl rfl (bZ _ _ (by first | assumption | omega)) ?_ | refine bK rfl rfl rfl (nb rfl) rfl rfl (by omega) ?_ | ((fail_if_success (refine bW (b := true) rfl rfl rfl ?_)); (fail_if_success (refine bW (b := false) rfl rfl rfl ?_)); refine cE rfl rfl rfl (fun hq => ?_) (fun hq => ?_) <;> first | subst hq | (first | (simp only [sD, sE, sB, sC, sN, sM, sT, sF] at hq; try (exfalso; omega)) | skip)) | fail) | (refine aN ?_; first | refine aG ?_ | refine aQ ?_ | refine bF ?_ | refine aX ?_ | refine aT ?_ | refine bS ?_ | refine aW ?_ | refine aA (b := true) rfl (fun _ => ?_) nTf | refine aA (b := false) rfl nFt (fun _ => ?_) | refine cK ?_ | refine cJ ?_ | refine cL mixed (by kernel_rfl) ?_ | refine bC mixed (by kernel_rfl) ?_ | (refine aA rfl (fun hq => ?_) (fun hq => ?_) <;> first | subst hq | (first | (simp only [sD, sE, sB, sC, sN, sM, sT, sF] at hq; try (exfalso; omega)) | skip)) | fail) | (refine aJ ?_; first | refine bB ?_ | refine bJ ?_ | refine aR ?_ | fail) | (refine aY ?_; first | refine bR ?_ | refine bH ?_ | refine cB (by decide) ?_ | refine bE ?_ | fail) | refine bU (bQ (by kernel_rfl)) ?_ | fail)
  refine dL (pF (t := 3) 500 9 1 rfl (by simp) rfl rfl) ?_
  refine cD (ι := {x : Nat × Nat × List ByteArray // PcI s x.1 x.2.1 x.2.2}) (fun x => S.f ⟨[(5, .imm (.lit (.int .i64 (x.1.1 : Int)))), (4, .imm (.lit (.int .i64 (x.1.2.1 : Int)))), (3, .ref 500 x.1.2.2.length), (0, .imm (.lit (.string s)))], [(500, .arr 9 1 x.1.2.2.length (strs x.1.2.2))]⟩) (fun x => s.size - x.1.1) ⟨(0, 0, []), ⟨Nat.zero_le _, Nat.le_refl _, by rw [ext_all]; rfl, lK s 0⟩⟩ (cA (by repeat' first | exact trivial | refine ⟨rfl, ?_⟩) (by repeat' first | exact trivial | refine ⟨rfl, ?_⟩)) ?_
  rintro ⟨⟨i, a, D⟩, hI⟩
  have hI : PcI s i a D := hI
  obtain ⟨hi, ha, hp, hn⟩ := hI
  dsimp only
  have hDl : D.length ≤ s.size + 1 := by rw [hp, List.length_append] at hpl; omega
  by_cases hlt : i < s.size
  · have hg : s[i]? = some s[i] := getElem?_pos s i hlt
    by_cases hb : s[i] = 46
    · have hst := zU s a i ha hlt hb hn
      have hD : strs (D ++ [s.extract a i]) = strs D ++ [.lit (.string (s.extract a i))] := oY D _
      rw [hb] at hg
      repeat' (first | refine aE ?_ | (refine aH ?_; first | refine aC tabOk rfl rfl rfl (nb rfl) rfl ?_ | refine bD rfl rfl (nb rfl) ?_ | (refine aK rfl rfl rfl (nb rfl) rfl rfl rfl (fun hq => ?_) (fun hq => ?_) <;> (first | (simp only [sD, sE, sB, sC, sN, sM, sT, sF] at hq; try (exfalso; omega)) | skip))| refine oG tabOk rfl rfl rfl (nb rfl) rfl rfl rfl rfl hg ?_ | refine eO tabOk rfl rfl rfl (nb rfl) rfl rfl rfl rfl (by omega) (by omega) rfl ?_ | refine dB tabOk rfl rfl rfl (nb rfl) rfl rfl rfl rfl rfl rfl rfl (by first | omega | decide) rfl (by first | omega | (dsimp only; omega)) (by first | omega | (dsimp only; omega)) ?_ | refine bK rfl rfl rfl (nb rfl) rfl rfl (by omega) ?_ | refine cG rfl rfl rfl (nb rfl) rfl rfl rfl (by omega) (by omega) ?_ | refine bY rfl rfl rfl (nb rfl) rfl rfl rfl (by omega) (by omega) ?_ | refine bV tabOk rfl rfl rfl (nb rfl) rfl rfl rfl rfl rfl rfl rfl rfl rfl ?_ | refine aU tabOk rfl rfl (nb rfl) rfl ?_ | refine cC tabOk rfl rfl rfl (nb rfl) rfl rfl rfl rfl rfl rfl ?_ | refine bT tabOk rfl rfl rfl (nb rfl) rfl rfl rfl rfl ?_ | refine bM tabOk rfl rfl rfl rfl rfl rfl rfl rfl rfl rfl rfl ?_ | refine bI tabOk rfl rfl rfl (nb rfl) rfl rfl rfl rfl (by first | assumption | omega) ?_ | refine bG tabOk rfl rfl rfl (nb rfl) rfl rfl rfl rfl (by first | rfl | omega) (by first | omega | simp) ?_ | refine aV tabOk rfl rfl rfl (nb rfl) rfl rfl rfl (by assumption) ?_ | refine aV tabOk rfl rfl rfl (nb rfl) rfl rfl rfl (bZ _ _ (by first | assumption | omega)) ?_ | refine bK rfl rfl rfl (nb rfl) rfl rfl (by omega) ?_ | ((fail_if_success (refine bW (b := true) rfl rfl rfl ?_)); (fail_if_success (refine bW (b := false) rfl rfl rfl ?_)); refine cE rfl rfl rfl (fun hq => ?_) (fun hq => ?_) <;> first | subst hq | (first | (simp only [sD, sE, sB, sC, sN, sM, sT, sF] at hq; try (exfalso; omega)) | skip)) | fail) | (refine aN ?_; first | refine aG ?_ | refine aQ ?_ | refine bF ?_ | refine aX ?_ | refine aT ?_ | refine bS ?_ | refine aW ?_ | refine aA (b := true) rfl (fun _ => ?_) nTf | refine aA (b := false) rfl nFt (fun _ => ?_) | refine cK ?_ | refine cJ ?_ | refine cL mixed (by kernel_rfl) ?_ | refine bC mixed (by kernel_rfl) ?_ | (refine aA rfl (fun hq => ?_) (fun hq => ?_) <;> first | subst hq | (first | (simp only [sD, sE, sB, sC, sN, sM, sT, sF] at hq; try (exfalso; omega)) | skip)) | fail) | (refine aJ ?_; first | refine bB ?_ | refine bJ ?_ | refine aR ?_ | fail) | (refine aY ?_; first | refine bR ?_ | refine bH ?_ | refine cB (by decide) ?_ | refine bE ?_ | fail) | refine bU (bQ (by kernel_rfl)) ?_ | fail)
      all_goals first | (rename_i hq _; exact absurd rfl hq) | (refine ⟨⟨(i + 1, i + 1, D ++ [s.extract a i]), ⟨hlt, Nat.le_refl _, by rw [hp, hst, List.append_assoc]; rfl, lK s _⟩⟩, (by show s.size - (i + 1) < s.size - i; omega), ?_⟩; dsimp only; rw [List.length_append, hD]; exact (cA (by repeat' first | exact trivial | refine ⟨rfl, ?_⟩) (by repeat' first | exact trivial | refine ⟨rfl, ?_⟩)))
    · repeat' (first | refine aE ?_ | (refine aH ?_; first | refine aC tabOk rfl rfl rfl (nb rfl) rfl ?_ | refine bD rfl rfl (nb rfl) ?_ | (refine aK rfl rfl rfl (nb rfl) rfl rfl rfl (fun hq => ?_) (fun hq => ?_) <;> (first | (simp only [sD, sE, sB, sC, sN, sM, sT, sF] at hq; try (exfalso; omega)) | skip))| refine oG tabOk rfl rfl rfl (nb rfl) rfl rfl rfl rfl hg ?_ | refine bK rfl rfl rfl (nb rfl) rfl rfl (by omega) ?_ | refine cG rfl rfl rfl (nb rfl) rfl rfl rfl (by omega) (by omega) ?_ | refine bY rfl rfl rfl (nb rfl) rfl rfl rfl (by omega) (by omega) ?_ | refine bV tabOk rfl rfl rfl (nb rfl) rfl rfl rfl rfl rfl rfl rfl rfl rfl ?_ | refine aU tabOk rfl rfl (nb rfl) rfl ?_ | refine cC tabOk rfl rfl rfl (nb rfl) rfl rfl rfl rfl rfl rfl ?_ | refine bT tabOk rfl rfl rfl (nb rfl) rfl rfl rfl rfl ?_ | refine bM tabOk rfl rfl rfl rfl rfl rfl rfl rfl rfl rfl rfl ?_ | refine bI tabOk rfl rfl rfl (nb rfl) rfl rfl rfl rfl (by first | assumption | omega) ?_ | refine bG tabOk rfl rfl rfl (nb rfl) rfl rfl rfl rfl (by first | rfl | omega) (by first | omega | simp) ?_ | refine aV tabOk rfl rfl rfl (nb rfl) rfl rfl rfl (by assumption) ?_ | refine aV tabOk rfl rfl rfl (nb rfl) rfl rfl rfl (bZ _ _ (by first | assumption | omega)) ?_ | refine bK rfl rfl rfl (nb rfl) rfl rfl (by omega) ?_ | ((fail_if_success (refine bW (b := true) rfl rfl rfl ?_)); (fail_if_success (refine bW (b := false) rfl rfl rfl ?_)); refine cE rfl rfl rfl (fun hq => ?_) (fun hq => ?_) <;> first | subst hq | (first | (simp only [sD, sE, sB, sC, sN, sM, sT, sF] at hq; try (exfalso; omega)) | skip)) | fail) | (refine aN ?_; first | refine aG ?_ | refine aQ ?_ | refine bF ?_ | refine aX ?_ | refine aT ?_ | refine bS ?_ | refine aW ?_ | refine aA (b := true) rfl (fun _ => ?_) nTf | refine aA (b := false) rfl nFt (fun _ => ?_) | refine cK ?_ | refine cJ ?_ | refine cL mixed (by kernel_rfl) ?_ | refine bC mixed (by kernel_rfl) ?_ | (refine aA rfl (fun hq => ?_) (fun hq => ?_) <;> first | subst hq | (first | (simp only [sD, sE, sB, sC, sN, sM, sT, sF] at hq; try (exfalso; omega)) | skip)) | fail) | (refine aJ ?_; first | refine bB ?_ | refine bJ ?_ | refine aR ?_ | fail) | (refine aY ?_; first | refine bR ?_ | refine bH ?_ | refine cB (by decide) ?_ | refine bE ?_ | fail) | refine bU (bQ (by kernel_rfl)) ?_ | fail)
      · rename_i hq _
        exact absurd (aBp hq) hb
      · exact ⟨⟨(i + 1, a, D), ⟨hlt, (by show a ≤ i + 1; omega), hp, sY s a i ha hlt hb hn⟩⟩, (by show s.size - (i + 1) < s.size - i; omega), (cA (by repeat' first | exact trivial | refine ⟨rfl, ?_⟩) (by repeat' first | exact trivial | refine ⟨rfl, ?_⟩))⟩
  · have ei : i = s.size := by omega
    subst ei
    have hst := aAJ _ hn
    have hD : strs (D ++ [s.extract a s.size]) = strs D ++ [.lit (.string (s.extract a s.size))] := oY D _
    rw [hst] at hp
    rw [hp, hD]
    repeat' (first | refine aE ?_ | (refine aH ?_; first | refine aC tabOk rfl rfl rfl (nb rfl) rfl ?_ | refine bD rfl rfl (nb rfl) ?_ | (refine aK rfl rfl rfl (nb rfl) rfl rfl rfl (fun hq => ?_) (fun hq => ?_) <;> (first | (simp only [sD, sE, sB, sC, sN, sM, sT, sF] at hq; try (exfalso; omega)) | skip))| refine eO tabOk rfl rfl rfl (nb rfl) rfl rfl rfl rfl (by omega) (by omega) rfl ?_ | refine dB tabOk rfl rfl rfl (nb rfl) rfl rfl rfl rfl rfl rfl rfl (by first | omega | decide) rfl (by first | omega | (dsimp only; omega)) (by first | omega | (dsimp only; omega)) ?_ | refine bK rfl rfl rfl (nb rfl) rfl rfl (by omega) ?_ | refine cG rfl rfl rfl (nb rfl) rfl rfl rfl (by omega) (by omega) ?_ | refine bY rfl rfl rfl (nb rfl) rfl rfl rfl (by omega) (by omega) ?_ | refine bV tabOk rfl rfl rfl (nb rfl) rfl rfl rfl rfl rfl rfl rfl rfl rfl ?_ | refine aU tabOk rfl rfl (nb rfl) rfl ?_ | refine cC tabOk rfl rfl rfl (nb rfl) rfl rfl rfl rfl rfl rfl ?_ | refine bT tabOk rfl rfl rfl (nb rfl) rfl rfl rfl rfl ?_ | refine bM tabOk rfl rfl rfl rfl rfl rfl rfl rfl rfl rfl rfl ?_ | refine bI tabOk rfl rfl rfl (nb rfl) rfl rfl rfl rfl (by first | assumption | omega) ?_ | refine bG tabOk rfl rfl rfl (nb rfl) rfl rfl rfl rfl (by first | rfl | omega) (by first | omega | simp) ?_ | refine aV tabOk rfl rfl rfl (nb rfl) rfl rfl rfl (by assumption) ?_ | refine aV tabOk rfl rfl rfl (nb rfl) rfl rfl rfl (bZ _ _ (by first | assumption | omega)) ?_ | refine bK rfl rfl rfl (nb rfl) rfl rfl (by omega) ?_ | ((fail_if_success (refine bW (b := true) rfl rfl rfl ?_)); (fail_if_success (refine bW (b := false) rfl rfl rfl ?_)); refine cE rfl rfl rfl (fun hq => ?_) (fun hq => ?_) <;> first | subst hq | (first | (simp only [sD, sE, sB, sC, sN, sM, sT, sF] at hq; try (exfalso; omega)) | skip)) | fail) | (refine aN ?_; first | refine aG ?_ | refine aQ ?_ | refine bF ?_ | refine aX ?_ | refine aT ?_ | refine bS ?_ | refine aW ?_ | refine aA (b := true) rfl (fun _ => ?_) nTf | refine aA (b := false) rfl nFt (fun _ => ?_) | refine cK ?_ | refine cJ ?_ | refine cL mixed (by kernel_rfl) ?_ | refine bC mixed (by kernel_rfl) ?_ | (refine aA rfl (fun hq => ?_) (fun hq => ?_) <;> first | subst hq | (first | (simp only [sD, sE, sB, sC, sN, sM, sT, sF] at hq; try (exfalso; omega)) | skip)) | fail) | (refine aJ ?_; first | refine bB ?_ | refine bJ ?_ | refine aR ?_ | fail) | (refine aY ?_; first | refine bR ?_ | refine bH ?_ | refine cB (by decide) ?_ | refine bE ?_ | fail) | refine bU (bQ (by kernel_rfl)) ?_ | fail)
    all_goals (refine wF 500 (s' := [(2, .ref 500 (D.length + 1))]) (m' := [(500, .arr 9 1 (D.length + 1) (strs D ++ [.lit (.string (s.extract a s.size))]))]) (cA (by repeat' first | exact trivial | refine ⟨rfl, ?_⟩) (by repeat' first | exact trivial | refine ⟨rfl, ?_⟩)) rfl (by repeat' first | exact trivial | exact fun _ => rfl | refine ⟨?_, ?_⟩) (by repeat' first | exact trivial | exact fun _ => rfl | refine ⟨?_, ?_⟩) ?_
               refine bA (by first | exact .inl rfl | exact .inr rfl) (aZ rfl (aD rfl)) rfl ?_
               rw [List.length_append]; rfl)
end Go.Proofs.YtlbemgokilhdnaaGreatDoor.Ab
namespace Go.Proofs.YtlbemgokilhdnaaGreatDoor.Ab
set_option linter.unusedVariables false
set_option linter.unusedSimpArgs false
open Go.RowKit Go.Lib Go.Proofs.YtlbemgokilhdnaaGreatDoorW.PrintWords Go.Proofs.YtlbemgokilhdnaaGreatDoorW.PrintLast Go.Proofs.YtlbemgokilhdnaaGreatDoorW.PrintMore Go.Proofs.YtlbemgokilhdnaaGreatDoor.RP Go.Proofs.YtlbemgokilhdnaaGreatDoor.RW Go.Proofs.YtlbemgokilhdnaaGreatDoor.PAll
attribute [local irreducible] AWP AOps AExit AThen ABlock ANoGoto FeetOk
theorem nY {l : List ByteArray} {j : Nat} (h : j < l.length) (h1 : ∀ p ∈ l.take j, nameB p = true) (h2 : nameB l[j] = true) : ∀ p ∈ l.take (j + 1), nameB p = true := by
  intro p hp
  rw [List.take_succ_eq_append_getElem h, List.mem_append] at hp
  rcases hp with hp | hp
  · exact h1 p hp
  · rw [List.mem_singleton.1 hp]; exact h2
theorem zV {s : ByteArray} {l : List ByteArray} {j : Nat} (hl : pcsB s = l) (h : j < l.length) (hn : nameB l[j] = false) : longP s = false := by
  rw [Bool.eq_false_iff]
  intro hc
  have := ((oX s).1 hc).2 l[j] (by rw [hl]; exact List.getElem_mem h)
  rw [hn] at this
  cases this
set_option maxHeartbeats 4000000 in
set_option maxRecDepth 10000 in
theorem aAK (s : ByteArray) (hs : s.size ≤ 100000) : ACalls Tryz.prog 67 [.imm (.lit (.string s))] [] (.imm (.lit (.bool (longP s)))) [] := by
  have hl := iK s
  have c1 := sZ s hs
  have hps := jU s
  by_cases hz : s.size ≤ 128
  · have hlg := fun (j : Nat) (h : j < (pcsB s).length) (hn : nameB (pcsB s)[j] = false) => zV (s := s) rfl h hn
    have hgood : (∀ p ∈ pcsB s, nameB p = true) → longP s = true := fun h => (oX s).2 ⟨hz, h⟩
    generalize pcsB s = l at *
    refine aM Tryz.func67 rfl rfl (nb rfl) rfl ?_
    repeat' (first | refine aE ?_ | (refine aH ?_; first | refine aC tabOk rfl rfl rfl (nb rfl) rfl ?_ | refine bD rfl rfl (nb rfl) ?_ | (refine aK rfl rfl rfl (nb rfl) rfl rfl rfl (fun hq => ?_) (fun hq => ?_) <;> (first | (simp only [sD, sE, sB, sC, sN, sM, sT, sF] at hq; try (exfalso; omega)) | skip))| refine aI rfl rfl (nb rfl) rfl rfl rfl rfl (c1) ?_ | refine bK rfl rfl rfl (nb rfl) rfl rfl (by omega) ?_ | refine cG rfl rfl rfl (nb rfl) rfl rfl rfl (by omega) (by omega) ?_ | refine bY rfl rfl rfl (nb rfl) rfl rfl rfl (by omega) (by omega) ?_ | refine bV tabOk rfl rfl rfl (nb rfl) rfl rfl rfl rfl rfl rfl rfl rfl rfl ?_ | refine aU tabOk rfl rfl (nb rfl) rfl ?_ | refine cC tabOk rfl rfl rfl (nb rfl) rfl rfl rfl rfl rfl rfl ?_ | refine bT tabOk rfl rfl rfl (nb rfl) rfl rfl rfl rfl ?_ | refine bM tabOk rfl rfl rfl rfl rfl rfl rfl rfl rfl rfl rfl ?_ | refine bI tabOk rfl rfl rfl (nb rfl) rfl rfl rfl rfl (by first | assumption | omega) ?_ | refine bG tabOk rfl rfl rfl (nb rfl) rfl rfl rfl rfl (by first | rfl | omega) (by first | omega | simp) ?_ | refine aV tabOk rfl rfl rfl (nb rfl) rfl rfl rfl (by assumption) ?_ | refine aV tabOk rfl rfl rfl (nb rfl) rfl rfl rfl (bZ _ _ (by first | assumption | omega)) ?_ | refine bK rfl rfl rfl (nb rfl) rfl rfl (by omega) ?_ | ((fail_if_success (refine bW (b := true) rfl rfl rfl ?_)); (fail_if_success (refine bW (b := false) rfl rfl rfl ?_)); refine cE rfl rfl rfl (fun hq => ?_) (fun hq => ?_) <;> first | subst hq | (first | (simp only [sD, sE, sB, sC, sN, sM, sT, sF] at hq; try (exfalso; omega)) | skip)) | fail) | (refine aN ?_; first | refine aG ?_ | refine aQ ?_ | refine bF ?_ | refine aX ?_ | refine aT ?_ | refine bS ?_ | refine aW ?_ | refine aA (b := true) rfl (fun _ => ?_) nTf | refine aA (b := false) rfl nFt (fun _ => ?_) | refine cK ?_ | refine cJ ?_ | refine cL mixed (by kernel_rfl) ?_ | refine bC mixed (by kernel_rfl) ?_ | (refine aA rfl (fun hq => ?_) (fun hq => ?_) <;> first | subst hq | (first | (simp only [sD, sE, sB, sC, sN, sM, sT, sF] at hq; try (exfalso; omega)) | skip)) | fail) | (refine aJ ?_; first | refine bB ?_ | refine bJ ?_ | refine aR ?_ | fail) | (refine aY ?_; first | refine bR ?_ | refine bH ?_ | refine cB (by decide) ?_ | refine bE ?_ | fail) | refine bU (bQ (by kernel_rfl)) ?_ | fail)
    all_goals first | (exfalso; omega) | skip
    refine cD (ι := {j : Nat // j ≤ l.length ∧ ∀ p ∈ l.take j, nameB p = true}) (fun j => S.f ⟨[(4, .imm (.lit (.int .i64 (j.1 : Int)))), (3, .imm (.sl false l.length (strs l)))], []⟩) (fun j => l.length - j.1) ⟨0, Nat.zero_le _, by simp⟩ (cA (by repeat' first | exact trivial | refine ⟨rfl, ?_⟩) (by repeat' first | exact trivial | refine ⟨rfl, ?_⟩)) ?_
    rintro ⟨j, hj, hall⟩
    dsimp only
    by_cases hlt : j < l.length
    · have c2 := zT l[j] (Nat.le_trans (hps _ (List.getElem_mem hlt)) (by omega))
      cases hn : nameB l[j] with
      | true =>
        rw [hn] at c2
        repeat' (first | refine aE ?_ | (refine aH ?_; first | refine aC tabOk rfl rfl rfl (nb rfl) rfl ?_ | refine bD rfl rfl (nb rfl) ?_ | (refine aK rfl rfl rfl (nb rfl) rfl rfl rfl (fun hq => ?_) (fun hq => ?_) <;> (first | (simp only [sD, sE, sB, sC, sN, sM, sT, sF] at hq; try (exfalso; omega)) | skip))| refine aV tabOk rfl rfl rfl (nb rfl) rfl rfl rfl (gG l j hlt) ?_ | refine aI rfl rfl (nb rfl) rfl rfl rfl rfl (c2) ?_ | refine bK rfl rfl rfl (nb rfl) rfl rfl (by omega) ?_ | refine cG rfl rfl rfl (nb rfl) rfl rfl rfl (by omega) (by omega) ?_ | refine bY rfl rfl rfl (nb rfl) rfl rfl rfl (by omega) (by omega) ?_ | refine bV tabOk rfl rfl rfl (nb rfl) rfl rfl rfl rfl rfl rfl rfl rfl rfl ?_ | refine aU tabOk rfl rfl (nb rfl) rfl ?_ | refine cC tabOk rfl rfl rfl (nb rfl) rfl rfl rfl rfl rfl rfl ?_ | refine bT tabOk rfl rfl rfl (nb rfl) rfl rfl rfl rfl ?_ | refine bM tabOk rfl rfl rfl rfl rfl rfl rfl rfl rfl rfl rfl ?_ | refine bI tabOk rfl rfl rfl (nb rfl) rfl rfl rfl rfl (by first | assumption | omega) ?_ | refine bG tabOk rfl rfl rfl (nb rfl) rfl rfl rfl rfl (by first | rfl | omega) (by first | omega | simp) ?_ | refine aV tabOk rfl rfl rfl (nb rfl) rfl rfl rfl (by assumption) ?_ | refine aV tabOk rfl rfl rfl (nb rfl) rfl rfl rfl (bZ _ _ (by first | assumption | omega)) ?_ | refine bK rfl rfl rfl (nb rfl) rfl rfl (by omega) ?_ | ((fail_if_success (refine bW (b := true) rfl rfl rfl ?_)); (fail_if_success (refine bW (b := false) rfl rfl rfl ?_)); refine cE rfl rfl rfl (fun hq => ?_) (fun hq => ?_) <;> first | subst hq | (first | (simp only [sD, sE, sB, sC, sN, sM, sT, sF] at hq; try (exfalso; omega)) | skip)) | fail) | (refine aN ?_; first | refine aG ?_ | refine aQ ?_ | refine bF ?_ | refine aX ?_ | refine aT ?_ | refine bS ?_ | refine aW ?_ | refine aA (b := true) rfl (fun _ => ?_) nTf | refine aA (b := false) rfl nFt (fun _ => ?_) | refine cK ?_ | refine cJ ?_ | refine cL mixed (by kernel_rfl) ?_ | refine bC mixed (by kernel_rfl) ?_ | (refine aA rfl (fun hq => ?_) (fun hq => ?_) <;> first | subst hq | (first | (simp only [sD, sE, sB, sC, sN, sM, sT, sF] at hq; try (exfalso; omega)) | skip)) | fail) | (refine aJ ?_; first | refine bB ?_ | refine bJ ?_ | refine aR ?_ | fail) | (refine aY ?_; first | refine bR ?_ | refine bH ?_ | refine cB (by decide) ?_ | refine bE ?_ | fail) | refine bU (bQ (by kernel_rfl)) ?_ | fail)
        exact ⟨⟨j + 1, hlt, nY hlt hall hn⟩, (by show l.length - (j + 1) < l.length - j; omega), (cA (by repeat' first | exact trivial | refine ⟨rfl, ?_⟩) (by repeat' first | exact trivial | refine ⟨rfl, ?_⟩))⟩
      | false =>
        rw [hn] at c2
        rw [hlg j hlt hn]
        repeat' (first | refine aE ?_ | (refine aH ?_; first | refine aC tabOk rfl rfl rfl (nb rfl) rfl ?_ | refine bD rfl rfl (nb rfl) ?_ | (refine aK rfl rfl rfl (nb rfl) rfl rfl rfl (fun hq => ?_) (fun hq => ?_) <;> (first | (simp only [sD, sE, sB, sC, sN, sM, sT, sF] at hq; try (exfalso; omega)) | skip))| refine aV tabOk rfl rfl rfl (nb rfl) rfl rfl rfl (gG l j hlt) ?_ | refine aI rfl rfl (nb rfl) rfl rfl rfl rfl (c2) ?_ | refine bK rfl rfl rfl (nb rfl) rfl rfl (by omega) ?_ | refine cG rfl rfl rfl (nb rfl) rfl rfl rfl (by omega) (by omega) ?_ | refine bY rfl rfl rfl (nb rfl) rfl rfl rfl (by omega) (by omega) ?_ | refine bV tabOk rfl rfl rfl (nb rfl) rfl rfl rfl rfl rfl rfl rfl rfl rfl ?_ | refine aU tabOk rfl rfl (nb rfl) rfl ?_ | refine cC tabOk rfl rfl rfl (nb rfl) rfl rfl rfl rfl rfl rfl ?_ | refine bT tabOk rfl rfl rfl (nb rfl) rfl rfl rfl rfl ?_ | refine bM tabOk rfl rfl rfl rfl rfl rfl rfl rfl rfl rfl rfl ?_ | refine bI tabOk rfl rfl rfl (nb rfl) rfl rfl rfl rfl (by first | assumption | omega) ?_ | refine bG tabOk rfl rfl rfl (nb rfl) rfl rfl rfl rfl (by first | rfl | omega) (by first | omega | simp) ?_ | refine aV tabOk rfl rfl rfl (nb rfl) rfl rfl rfl (by assumption) ?_ | refine aV tabOk rfl rfl rfl (nb rfl) rfl rfl rfl (bZ _ _ (by first | assumption | omega)) ?_ | refine bK rfl rfl rfl (nb rfl) rfl rfl (by omega) ?_ | ((fail_if_success (refine bW (b := true) rfl rfl rfl ?_)); (fail_if_success (refine bW (b := false) rfl rfl rfl ?_)); refine cE rfl rfl rfl (fun hq => ?_) (fun hq => ?_) <;> first | subst hq | (first | (simp only [sD, sE, sB, sC, sN, sM, sT, sF] at hq; try (exfalso; omega)) | skip)) | fail) | (refine aN ?_; first | refine aG ?_ | refine aQ ?_ | refine bF ?_ | refine aX ?_ | refine aT ?_ | refine bS ?_ | refine aW ?_ | refine aA (b := true) rfl (fun _ => ?_) nTf | refine aA (b := false) rfl nFt (fun _ => ?_) | refine cK ?_ | refine cJ ?_ | refine cL mixed (by kernel_rfl) ?_ | refine bC mixed (by kernel_rfl) ?_ | (refine aA rfl (fun hq => ?_) (fun hq => ?_) <;> first | subst hq | (first | (simp only [sD, sE, sB, sC, sN, sM, sT, sF] at hq; try (exfalso; omega)) | skip)) | fail) | (refine aJ ?_; first | refine bB ?_ | refine bJ ?_ | refine aR ?_ | fail) | (refine aY ?_; first | refine bR ?_ | refine bH ?_ | refine cB (by decide) ?_ | refine bE ?_ | fail) | refine bU (bQ (by kernel_rfl)) ?_ | fail)
        exact cH (by first | exact .inl rfl | exact .inr rfl) (aZ rfl (aD rfl)) rfl
    · rw [hgood (by rw [List.take_of_length_le (by omega)] at hall; exact hall)]
      repeat' (first | refine aE ?_ | (refine aH ?_; first | refine aC tabOk rfl rfl rfl (nb rfl) rfl ?_ | refine bD rfl rfl (nb rfl) ?_ | (refine aK rfl rfl rfl (nb rfl) rfl rfl rfl (fun hq => ?_) (fun hq => ?_) <;> (first | (simp only [sD, sE, sB, sC, sN, sM, sT, sF] at hq; try (exfalso; omega)) | skip)) | refine bK rfl rfl rfl (nb rfl) rfl rfl (by omega) ?_ | refine cG rfl rfl rfl (nb rfl) rfl rfl rfl (by omega) (by omega) ?_ | refine bY rfl rfl rfl (nb rfl) rfl rfl rfl (by omega) (by omega) ?_ | refine bV tabOk rfl rfl rfl (nb rfl) rfl rfl rfl rfl rfl rfl rfl rfl rfl ?_ | refine aU tabOk rfl rfl (nb rfl) rfl ?_ | refine cC tabOk rfl rfl rfl (nb rfl) rfl rfl rfl rfl rfl rfl ?_ | refine bT tabOk rfl rfl rfl (nb rfl) rfl rfl rfl rfl ?_ | refine bM tabOk rfl rfl rfl rfl rfl rfl rfl rfl rfl rfl rfl ?_ | refine bI tabOk rfl rfl rfl (nb rfl) rfl rfl rfl rfl (by first | assumption | omega) ?_ | refine bG tabOk rfl rfl rfl (nb rfl) rfl rfl rfl rfl (by first | rfl | omega) (by first | omega | simp) ?_ | refine aV tabOk rfl rfl rfl (nb rfl) rfl rfl rfl (by assumption) ?_ | refine aV tabOk rfl rfl rfl (nb rfl) rfl rfl rfl (bZ _ _ (by first | assumption | omega)) ?_ | refine bK rfl rfl rfl (nb rfl) rfl rfl (by omega) ?_ | ((fail_if_success (refine bW (b := true) rfl rfl rfl ?_)); (fail_if_success (refine bW (b := false) rfl rfl rfl ?_)); refine cE rfl rfl rfl (fun hq => ?_) (fun hq => ?_) <;> first | subst hq | (first | (simp only [sD, sE, sB, sC, sN, sM, sT, sF] at hq; try (exfalso; omega)) | skip)) | fail) | (refine aN ?_; first | refine aG ?_ | refine aQ ?_ | refine bF ?_ | refine aX ?_ | refine aT ?_ | refine bS ?_ | refine aW ?_ | refine aA (b := true) rfl (fun _ => ?_) nTf | refine aA (b := false) rfl nFt (fun _ => ?_) | refine cK ?_ | refine cJ ?_ | refine cL mixed (by kernel_rfl) ?_ | refine bC mixed (by kernel_rfl) ?_ | (refine aA rfl (fun hq => ?_) (fun hq => ?_) <;> first | subst hq | (first | (simp only [sD, sE, sB, sC, sN, sM, sT, sF] at hq; try (exfalso; omega)) | skip)) | fail) | (refine aJ ?_; first | refine bB ?_ | refine bJ ?_ | refine aR ?_ | fail) | (refine aY ?_; first | refine bR ?_ | refine bH ?_ | refine cB (by decide) ?_ | refine bE ?_ | fail) | refine bU (bQ (by kernel_rfl)) ?_ | fail)
      exact cH (by first | exact .inl rfl | exact .inr rfl) (aZ rfl (aD rfl)) rfl
  · have e : longP s = false := by
      unfold longP; rw [decide_eq_false hz]; rfl
    rw [e]
    refine aM Tryz.func67 rfl rfl (nb rfl) rfl ?_
    repeat' (first | refine aE ?_ | (refine aH ?_; first | refine aC tabOk rfl rfl rfl (nb rfl) rfl ?_ | refine bD rfl rfl (nb rfl) ?_ | (refine aK rfl rfl rfl (nb rfl) rfl rfl rfl (fun hq => ?_) (fun hq => ?_) <;> (first | (simp only [sD, sE, sB, sC, sN, sM, sT, sF] at hq; try (exfalso; omega)) | skip))| refine aI rfl rfl (nb rfl) rfl rfl rfl rfl (c1) ?_ | refine bK rfl rfl rfl (nb rfl) rfl rfl (by omega) ?_ | refine cG rfl rfl rfl (nb rfl) rfl rfl rfl (by omega) (by omega) ?_ | refine bY rfl rfl rfl (nb rfl) rfl rfl rfl (by omega) (by omega) ?_ | refine bV tabOk rfl rfl rfl (nb rfl) rfl rfl rfl rfl rfl rfl rfl rfl rfl ?_ | refine aU tabOk rfl rfl (nb rfl) rfl ?_ | refine cC tabOk rfl rfl rfl (nb rfl) rfl rfl rfl rfl rfl rfl ?_ | refine bT tabOk rfl rfl rfl (nb rfl) rfl rfl rfl rfl ?_ | refine bM tabOk rfl rfl rfl rfl rfl rfl rfl rfl rfl rfl rfl ?_ | refine bI tabOk rfl rfl rfl (nb rfl) rfl rfl rfl rfl (by first | assumption | omega) ?_ | refine bG tabOk rfl rfl rfl (nb rfl) rfl rfl rfl rfl (by first | rfl | omega) (by first | omega | simp) ?_ | refine aV tabOk rfl rfl rfl (nb rfl) rfl rfl rfl (by assumption) ?_ | refine aV tabOk rfl rfl rfl (nb rfl) rfl rfl rfl (bZ _ _ (by first | assumption | omega)) ?_ | refine bK rfl rfl rfl (nb rfl) rfl rfl (by omega) ?_ | ((fail_if_success (refine bW (b := true) rfl rfl rfl ?_)); (fail_if_success (refine bW (b := false) rfl rfl rfl ?_)); refine cE rfl rfl rfl (fun hq => ?_) (fun hq => ?_) <;> first | subst hq | (first | (simp only [sD, sE, sB, sC, sN, sM, sT, sF] at hq; try (exfalso; omega)) | skip)) | fail) | (refine aN ?_; first | refine aG ?_ | refine aQ ?_ | refine bF ?_ | refine aX ?_ | refine aT ?_ | refine bS ?_ | refine aW ?_ | refine aA (b := true) rfl (fun _ => ?_) nTf | refine aA (b := false) rfl nFt (fun _ => ?_) | refine cK ?_ | refine cJ ?_ | refine cL mixed (by kernel_rfl) ?_ | refine bC mixed (by kernel_rfl) ?_ | (refine aA rfl (fun hq => ?_) (fun hq => ?_) <;> first | subst hq | (first | (simp only [sD, sE, sB, sC, sN, sM, sT, sF] at hq; try (exfalso; omega)) | skip)) | fail) | (refine aJ ?_; first | refine bB ?_ | refine bJ ?_ | refine aR ?_ | fail) | (refine aY ?_; first | refine bR ?_ | refine bH ?_ | refine cB (by decide) ?_ | refine bE ?_ | fail) | refine bU (bQ (by kernel_rfl)) ?_ | fail)
    all_goals first
      | exact cH (by first | exact .inl rfl | exact .inr rfl) (aZ rfl (aD rfl)) rfl
      | (exfalso; omega)
set_option maxHeartbeats 4000000 in
set_option maxRecDepth 10000 in
theorem zW (s : ByteArray) (hs : s.size ≤ 100000) : ACalls Tryz.prog 39 [.imm (.lit (.string s))] [] (.imm (.sl false (splitP s).length (strs (splitP s)))) [] := by
  have c1 := aAK s hs
  have c2 := sZ s hs
  unfold splitP
  cases h : longP s with
  | true =>
    rw [h] at c1
    rw [if_pos rfl]
    refine aM Tryz.func39 rfl rfl (nb rfl) rfl ?_
    repeat' (first | refine aE ?_ | (refine aH ?_; first | refine aC tabOk rfl rfl rfl (nb rfl) rfl ?_ | refine bD rfl rfl (nb rfl) ?_ | (refine aK rfl rfl rfl (nb rfl) rfl rfl rfl (fun hq => ?_) (fun hq => ?_) <;> (first | (simp only [sD, sE, sB, sC, sN, sM, sT, sF] at hq; try (exfalso; omega)) | skip))| refine aI rfl rfl (nb rfl) rfl rfl rfl rfl (c1) ?_ | refine aI rfl rfl (nb rfl) rfl rfl rfl rfl (c2) ?_ | refine bK rfl rfl rfl (nb rfl) rfl rfl (by omega) ?_ | refine cG rfl rfl rfl (nb rfl) rfl rfl rfl (by omega) (by omega) ?_ | refine bY rfl rfl rfl (nb rfl) rfl rfl rfl (by omega) (by omega) ?_ | refine bV tabOk rfl rfl rfl (nb rfl) rfl rfl rfl rfl rfl rfl rfl rfl rfl ?_ | refine aU tabOk rfl rfl (nb rfl) rfl ?_ | refine cC tabOk rfl rfl rfl (nb rfl) rfl rfl rfl rfl rfl rfl ?_ | refine bT tabOk rfl rfl rfl (nb rfl) rfl rfl rfl rfl ?_ | refine bM tabOk rfl rfl rfl rfl rfl rfl rfl rfl rfl rfl rfl ?_ | refine bI tabOk rfl rfl rfl (nb rfl) rfl rfl rfl rfl (by first | assumption | omega) ?_ | refine bG tabOk rfl rfl rfl (nb rfl) rfl rfl rfl rfl (by first | rfl | omega) (by first | omega | simp) ?_ | refine aV tabOk rfl rfl rfl (nb rfl) rfl rfl rfl (by assumption) ?_ | refine aV tabOk rfl rfl rfl (nb rfl) rfl rfl rfl (bZ _ _ (by first | assumption | omega)) ?_ | refine bK rfl rfl rfl (nb rfl) rfl rfl (by omega) ?_ | ((fail_if_success (refine bW (b := true) rfl rfl rfl ?_)); (fail_if_success (refine bW (b := false) rfl rfl rfl ?_)); refine cE rfl rfl rfl (fun hq => ?_) (fun hq => ?_) <;> first | subst hq | (first | (simp only [sD, sE, sB, sC, sN, sM, sT, sF] at hq; try (exfalso; omega)) | skip)) | fail) | (refine aN ?_; first | refine aG ?_ | refine aQ ?_ | refine bF ?_ | refine aX ?_ | refine aT ?_ | refine bS ?_ | refine aW ?_ | refine aA (b := true) rfl (fun _ => ?_) nTf | refine aA (b := false) rfl nFt (fun _ => ?_) | refine cK ?_ | refine cJ ?_ | refine cL mixed (by kernel_rfl) ?_ | refine bC mixed (by kernel_rfl) ?_ | (refine aA rfl (fun hq => ?_) (fun hq => ?_) <;> first | subst hq | (first | (simp only [sD, sE, sB, sC, sN, sM, sT, sF] at hq; try (exfalso; omega)) | skip)) | fail) | (refine aJ ?_; first | refine bB ?_ | refine bJ ?_ | refine aR ?_ | fail) | (refine aY ?_; first | refine bR ?_ | refine bH ?_ | refine cB (by decide) ?_ | refine bE ?_ | fail) | refine bU (bQ (by kernel_rfl)) ?_ | fail)
    all_goals (refine bA (by first | exact .inl rfl | exact .inr rfl) (aZ rfl (aD rfl)) rfl ?_; rfl)
  | false =>
    rw [h] at c1
    rw [if_neg (by simp)]
    refine aM Tryz.func39 rfl rfl (nb rfl) rfl ?_
    repeat' (first | refine aE ?_ | (refine aH ?_; first | refine aC tabOk rfl rfl rfl (nb rfl) rfl ?_ | refine bD rfl rfl (nb rfl) ?_ | (refine aK rfl rfl rfl (nb rfl) rfl rfl rfl (fun hq => ?_) (fun hq => ?_) <;> (first | (simp only [sD, sE, sB, sC, sN, sM, sT, sF] at hq; try (exfalso; omega)) | skip))| refine aI rfl rfl (nb rfl) rfl rfl rfl rfl (c1) ?_ | refine aI rfl rfl (nb rfl) rfl rfl rfl rfl (c2) ?_ | refine bK rfl rfl rfl (nb rfl) rfl rfl (by omega) ?_ | refine cG rfl rfl rfl (nb rfl) rfl rfl rfl (by omega) (by omega) ?_ | refine bY rfl rfl rfl (nb rfl) rfl rfl rfl (by omega) (by omega) ?_ | refine bV tabOk rfl rfl rfl (nb rfl) rfl rfl rfl rfl rfl rfl rfl rfl rfl ?_ | refine aU tabOk rfl rfl (nb rfl) rfl ?_ | refine cC tabOk rfl rfl rfl (nb rfl) rfl rfl rfl rfl rfl rfl ?_ | refine bT tabOk rfl rfl rfl (nb rfl) rfl rfl rfl rfl ?_ | refine bM tabOk rfl rfl rfl rfl rfl rfl rfl rfl rfl rfl rfl ?_ | refine bI tabOk rfl rfl rfl (nb rfl) rfl rfl rfl rfl (by first | assumption | omega) ?_ | refine bG tabOk rfl rfl rfl (nb rfl) rfl rfl rfl rfl (by first | rfl | omega) (by first | omega | simp) ?_ | refine aV tabOk rfl rfl rfl (nb rfl) rfl rfl rfl (by assumption) ?_ | refine aV tabOk rfl rfl rfl (nb rfl) rfl rfl rfl (bZ _ _ (by first | assumption | omega)) ?_ | refine bK rfl rfl rfl (nb rfl) rfl rfl (by omega) ?_ | ((fail_if_success (refine bW (b := true) rfl rfl rfl ?_)); (fail_if_success (refine bW (b := false) rfl rfl rfl ?_)); refine cE rfl rfl rfl (fun hq => ?_) (fun hq => ?_) <;> first | subst hq | (first | (simp only [sD, sE, sB, sC, sN, sM, sT, sF] at hq; try (exfalso; omega)) | skip)) | fail) | (refine aN ?_; first | refine aG ?_ | refine aQ ?_ | refine bF ?_ | refine aX ?_ | refine aT ?_ | refine bS ?_ | refine aW ?_ | refine aA (b := true) rfl (fun _ => ?_) nTf | refine aA (b := false) rfl nFt (fun _ => ?_) | refine cK ?_ | refine cJ ?_ | refine cL mixed (by kernel_rfl) ?_ | refine bC mixed (by kernel_rfl) ?_ | (refine aA rfl (fun hq => ?_) (fun hq => ?_) <;> first | subst hq | (first | (simp only [sD, sE, sB, sC, sN, sM, sT, sF] at hq; try (exfalso; omega)) | skip)) | fail) | (refine aJ ?_; first | refine bB ?_ | refine bJ ?_ | refine aR ?_ | fail) | (refine aY ?_; first | refine bR ?_ | refine bH ?_ | refine cB (by decide) ?_ | refine bE ?_ | fail) | refine bU (bQ (by kernel_rfl)) ?_ | fail)
    all_goals (refine bA (by first | exact .inl rfl | exact .inr rfl) (aZ rfl (rA (aD rfl))) rfl ?_; rfl)
end Go.Proofs.YtlbemgokilhdnaaGreatDoor.Ab
namespace Go.Proofs.YtlbemgokilhdnaaGreatDoor.Ab
set_option linter.unusedVariables false
set_option linter.unusedSimpArgs false
open Go.RowKit Go.Proofs.YtlbemgokilhdnaaGreatDoor.RP
attribute [local irreducible] AWP AOps AExit AThen ABlock ANoGoto FeetOk
theorem zX (s : ByteArray) (h : longP s = false) : splitP s = [] := by unfold splitP; rw [if_neg (by rw [h]; simp)]
theorem aBc (space s : ByteArray) : labS space false s = ((⟨#[109]⟩ : ByteArray) ++ ⟨#[58]⟩) ++ s := by
  rw [zK]
  rfl
set_option maxHeartbeats 16000000 in
set_option maxRecDepth 10000 in
theorem aAL (t : Tree) (space long : ByteArray) (hwn : t = .nil ∨ t.whole = true) (hs : t.size ≤ 65536) (hp : space.size ≤ 100000) (hl : long.size ≤ 100000) : ACalls Tryz.prog 11 [.imm t.iv, .imm (.lit (.string space)), .imm (.lit (.string long))] [] (.imm (.tup [(sAtP t space long).1.iv, .lit (.int .i64 (sAtP t space long).2)])) [] := by
  have c1 := nE t hwn hs
  obtain ⟨Q, hQ⟩ : ∃ Q, sAtP t space long = Q := ⟨_, rfl⟩
  rw [hQ]
  unfold sAtP at hQ
  by_cases hc : checkP sformP t = 0
  · rw [if_neg (by simpa using hc)] at hQ
    rw [hc] at c1
    obtain ⟨hw, hz, _⟩ := cT hc
    have c2 := pV t hw (by omega)
    cases hsig : isSigP t with
    | false =>
      rw [hsig] at c2 hQ
      rw [Bool.false_and, if_pos rfl] at hQ
      subst hQ
      refine aM Tryz.func11 rfl rfl (nb rfl) rfl ?_
      repeat' (first | refine aE ?_ | (refine aH ?_;  first | refine aC tabOk rfl rfl rfl (nb rfl) rfl ?_ | refine bD rfl rfl (nb rfl) ?_ | (refine aK rfl rfl rfl (nb rfl) rfl rfl rfl (fun hq => ?_) (fun hq => ?_) <;> (first | (simp only [sD, sE, sB, sC, sN, sM, sT, sF] at hq; try (exfalso; omega)) | skip)) | refine aI rfl rfl (nb rfl) rfl rfl rfl rfl (c1) ?_ | refine aI rfl rfl (nb rfl) rfl rfl rfl rfl (c2) ?_) | (refine aN ?_;  first | refine aG ?_ | refine aQ ?_ | refine aT ?_ | refine aW ?_ | refine aA (b := true) rfl (fun _ => ?_) nTf | refine aA (b := false) rfl nFt (fun _ => ?_)) | (refine aJ ?_;  first | refine bB ?_ | refine aR ?_))
      all_goals first
        | exact absurd rfl (by assumption)
        | (refine bA (by first | exact .inl rfl | exact .inr rfl) (bP rfl (aD rfl) (aD rfl)) rfl ?_; rfl)
    | true =>
      rw [hsig] at c2 hQ
      rw [Bool.true_and] at hQ
      cases hsp : spOk space with
      | false =>
        rw [hsp] at hQ
        rw [if_pos rfl] at hQ
        subst hQ
        unfold spOk at hsp
        refine aM Tryz.func11 rfl rfl (nb rfl) rfl ?_
        repeat' (first | refine aE ?_ | (refine aH ?_;  first | refine aC tabOk rfl rfl rfl (nb rfl) rfl ?_ | refine bD rfl rfl (nb rfl) ?_ | (refine aK rfl rfl rfl (nb rfl) rfl rfl rfl (fun hq => ?_) (fun hq => ?_) <;> (first | (simp only [sD, sE, sB, sC, sN, sM, sT, sF] at hq; try (exfalso; omega)) | skip)) | refine aI rfl rfl (nb rfl) rfl rfl rfl rfl (c1) ?_ | refine aI rfl rfl (nb rfl) rfl rfl rfl rfl (c2) ?_) | (refine aN ?_;  first | refine aG ?_ | refine aQ ?_ | refine aT ?_ | refine aW ?_ | refine aA (b := true) rfl (fun _ => ?_) nTf | refine aA (b := false) rfl nFt (fun _ => ?_)) | (refine aJ ?_;  first | refine bB ?_ | refine aR ?_))
        all_goals first
          | exact absurd rfl (by assumption)
          | (refine bA (by first | exact .inl rfl | exact .inr rfl) (bP rfl (aD rfl) (aD rfl)) rfl ?_; rfl)
          | (exfalso; simp_all [eqB]; done)
      | true =>
        rw [hsp] at hQ
        rw [if_neg (by simp)] at hQ
        unfold spOk at hsp
        have c4 := zW long hl
        obtain ⟨hsl, hsz⟩ := nO long
        cases hlg : longP long with
        | false =>
          rw [hlg] at hQ
          rw [if_pos rfl] at hQ
          rw [zX long hlg] at c4
          subst hQ
          refine aM Tryz.func11 rfl rfl (nb rfl) rfl ?_
          repeat' (first | refine aE ?_ | (refine aH ?_;  first | refine aC tabOk rfl rfl rfl (nb rfl) rfl ?_ | refine bD rfl rfl (nb rfl) ?_ | (refine aK rfl rfl rfl (nb rfl) rfl rfl rfl (fun hq => ?_) (fun hq => ?_) <;> (first | (simp only [sD, sE, sB, sC, sN, sM, sT, sF] at hq; try (exfalso; omega)) | skip)) | refine aI rfl rfl (nb rfl) rfl rfl rfl rfl (c1) ?_ | refine aI rfl rfl (nb rfl) rfl rfl rfl rfl (c2) ?_ | refine aI rfl rfl (nb rfl) rfl rfl rfl rfl (c4) ?_ | refine aU tabOk rfl rfl (nb rfl) rfl ?_) | (refine aN ?_;  first | refine aG ?_ | refine aQ ?_ | refine aX ?_ | refine aT ?_ | refine aW ?_ | refine aA (b := true) rfl (fun _ => ?_) nTf | refine aA (b := false) rfl nFt (fun _ => ?_)) | (refine aJ ?_;  first | refine bB ?_ | refine aR ?_))
          all_goals first
            | exact absurd rfl (by assumption)
            | (exfalso; simp_all [eqB]; done)
            | (refine bA (by first | exact .inl rfl | exact .inr rfl) (bP rfl (aD rfl) (aD rfl)) rfl ?_; rfl)
        | true =>
          rw [hlg] at hQ
          rw [if_neg (by simp)] at hQ
          have hne := zI long hlg
          generalize splitP long = l at *
          have hpos : 0 < l.length := List.length_pos_iff.2 hne
          refine aM Tryz.func11 rfl rfl (nb rfl) rfl ?_
          repeat' (first | refine aE ?_ | (refine aH ?_;  first | refine aC tabOk rfl rfl rfl (nb rfl) rfl ?_ | refine bD rfl rfl (nb rfl) ?_ | (refine aK rfl rfl rfl (nb rfl) rfl rfl rfl (fun hq => ?_) (fun hq => ?_) <;> (first | (simp only [sD, sE, sB, sC, sN, sM, sT, sF] at hq; try (exfalso; omega)) | skip)) | refine aI rfl rfl (nb rfl) rfl rfl rfl rfl (c1) ?_ | refine aI rfl rfl (nb rfl) rfl rfl rfl rfl (c2) ?_ | refine aI rfl rfl (nb rfl) rfl rfl rfl rfl (c4) ?_ | refine aU tabOk rfl rfl (nb rfl) rfl ?_) | (refine aN ?_;  first | refine aG ?_ | refine aQ ?_ | refine aX ?_ | refine aT ?_ | refine aW ?_ | refine aA (b := true) rfl (fun _ => ?_) nTf | refine aA (b := false) rfl nFt (fun _ => ?_)) | (refine aJ ?_;  first | refine bB ?_ | refine aR ?_))
          all_goals first
            | exact absurd rfl (by assumption)
            | (exfalso; simp_all [eqB]; done)
            | (exfalso; omega)
            | skip
          all_goals (
            clear hsp
            refine cD (ι := {p : Nat × Tree // p.1 ≤ l.length ∧ isSigP p.2 = true ∧ p.2.whole = true ∧ p.2.size ≤ 65536 ∧ atS space (l.drop p.1) p.2 = Q}) (fun p => S.f ⟨[(10, .imm (.lit (.int .i64 (p.1.1 : Int)))), (9, .imm (.sl false l.length (strs l))), (0, .imm p.1.2.iv), (1, .imm (.lit (.string space)))], []⟩) (fun p => l.length - p.1.1) ⟨(0, t), Nat.zero_le _, hsig, hw, hs, hQ⟩ (cA (by repeat' first | exact trivial | refine ⟨rfl, ?_⟩) (by repeat' first | exact trivial | refine ⟨rfl, ?_⟩)) ?_
            rintro ⟨⟨j, u⟩, hj, us, uw, uz, hu⟩
            dsimp only at hj us uw uz hu ⊢
            clear c1 c2 c4 hw hz hsig hs hc hQ hlg hne hpos hwn
            by_cases hlt : j < l.length
            · rw [List.drop_eq_getElem_cons hlt, atS, nP l j hlt] at hu
              have hget := gG l j hlt
              have hsj := hsz _ (List.getElem_mem hlt)
              have s1 : (⟨#[109]⟩ : ByteArray).size = 1 := rfl
              have s2 : (⟨#[58]⟩ : ByteArray).size = 1 := rfl
              have hf := jS us uw (labS space (decide (j + 1 = l.length)) l[j])
              have hkf := iE us
              generalize l[j] = s at *
              obtain ⟨k, n, a, b, kids, rfl⟩ := cN uw
              have hkl : kids.length < 1000000000 := by have := cI kids uw; simp only [Tree.size] at uz; omega
              change ∀ t ∈ kids, _ at hkf
              have ekk : (Tree.node k n a b kids).kids = kids := rfl
              rw [ekk] at hu hf
              have cf := fun label => zS k n a b kids label uw hkl hkf
              clear hkf
              by_cases hlast : j + 1 = l.length
              · rw [decide_eq_true hlast] at hu hf
                rw [zJ] at hu hf
                replace cf := cf ((space ++ ⟨#[58]⟩) ++ s)
                rcases eC ((space ++ ⟨#[58]⟩) ++ s) kids 0 with ⟨h1, h2⟩ | ⟨i, h1, h2, h3, h4⟩
                · rw [h2] at hu cf
                  rw [if_neg (by simp)] at hu
                  subst hu
                  clear hf h1 h2
                  repeat' (first | refine aE ?_ | (refine aH ?_;  first | refine aC tabOk rfl rfl rfl (nb rfl) rfl ?_ | (refine aK rfl rfl rfl (nb rfl) rfl rfl rfl (fun hq => ?_) (fun hq => ?_) <;> (first | (simp only [sD, sE, sB, sC, sN, sM, sT, sF] at hq; try (exfalso; omega)) | skip)) | refine aV tabOk rfl rfl rfl (nb rfl) rfl rfl rfl hget ?_ | refine dG rfl rfl rfl (nb rfl) rfl rfl (by first | omega | (simp only [cS]; omega)) ?_ | refine aI rfl rfl (nb rfl) rfl rfl rfl rfl (cf) ?_ | refine bY rfl rfl rfl (nb rfl) rfl rfl rfl (by omega) (by omega) ?_ | refine aU tabOk rfl rfl (nb rfl) rfl ?_ | refine bI tabOk rfl rfl rfl (nb rfl) rfl rfl rfl rfl (by first | assumption | omega) ?_) | (refine aN ?_;  first | refine aG ?_ | refine aQ ?_ | refine bF ?_ | refine aX ?_ | refine aT ?_ | refine aW ?_ | refine aA (b := true) rfl (fun _ => ?_) nTf) | (refine aJ ?_;  first | refine bB ?_ | refine aR ?_) | (refine aY ?_;  first | refine bE ?_))
                  all_goals first
                    | exact absurd rfl (by assumption)
                    | (exfalso; omega)
                    | (refine bA (by first | exact .inl rfl | exact .inr rfl) (bP rfl (aD rfl) (aD rfl)) rfl ?_; rfl)
                · rw [h3] at hu hf cf
                  rw [if_pos rfl] at hu
                  obtain ⟨g1, g2, g3⟩ := hf rfl
                  dsimp only at hu g1 g2 g3 cf
                  clear h2 h3 h4 hf
                  generalize kid0 kids[i] = c at *
                  obtain ⟨pc, hpc⟩ := dF (cR g2)
                  rw [hpc] at cf
                  repeat' (first | refine aE ?_ | (refine aH ?_;  first | refine aC tabOk rfl rfl rfl (nb rfl) rfl ?_ | (refine aK rfl rfl rfl (nb rfl) rfl rfl rfl (fun hq => ?_) (fun hq => ?_) <;> (first | (simp only [sD, sE, sB, sC, sN, sM, sT, sF] at hq; try (exfalso; omega)) | skip)) | refine aV tabOk rfl rfl rfl (nb rfl) rfl rfl rfl hget ?_ | refine dG rfl rfl rfl (nb rfl) rfl rfl (by first | omega | (simp only [cS]; omega)) ?_ | refine aI rfl rfl (nb rfl) rfl rfl rfl rfl (cf) ?_ | refine bK rfl rfl rfl (nb rfl) rfl rfl (by omega) ?_ | refine bY rfl rfl rfl (nb rfl) rfl rfl rfl (by omega) (by omega) ?_ | refine aU tabOk rfl rfl (nb rfl) rfl ?_ | refine bI tabOk rfl rfl rfl (nb rfl) rfl rfl rfl rfl (by first | assumption | omega) ?_) | (refine aN ?_;  first | refine aG ?_ | refine aQ ?_ | refine bF ?_ | refine aX ?_ | refine aW ?_ | refine aA (b := true) rfl (fun _ => ?_) nTf | refine aA (b := false) rfl nFt (fun _ => ?_)) | (refine aJ ?_;  first | refine bB ?_) | (refine aY ?_;  first | refine bR ?_))
                  all_goals first
                    | exact absurd rfl (by assumption)
                    | (exfalso; omega)
                    | (refine ⟨⟨(j + 1, c), hlt, g1, g2, Nat.le_trans (Nat.le_of_lt g3) uz, hu⟩, (by show l.length - (j + 1) < l.length - j; omega), ?_⟩; dsimp only; rw [hpc]; exact (cA (by repeat' first | exact trivial | refine ⟨rfl, ?_⟩) (by repeat' first | exact trivial | refine ⟨rfl, ?_⟩)))
              · rw [decide_eq_false hlast] at hu hf
                rw [aBc] at hu hf
                replace cf := cf (((⟨#[109]⟩ : ByteArray) ++ ⟨#[58]⟩) ++ s)
                rcases eC (((⟨#[109]⟩ : ByteArray) ++ ⟨#[58]⟩) ++ s) kids 0 with ⟨h1, h2⟩ | ⟨i, h1, h2, h3, h4⟩
                · rw [h2] at hu cf
                  rw [if_neg (by simp)] at hu
                  subst hu
                  clear hf h1 h2
                  repeat' (first | refine aE ?_ | (refine aH ?_;  first | refine aC tabOk rfl rfl rfl (nb rfl) rfl ?_ | (refine aK rfl rfl rfl (nb rfl) rfl rfl rfl (fun hq => ?_) (fun hq => ?_) <;> (first | (simp only [sD, sE, sB, sC, sN, sM, sT, sF] at hq; try (exfalso; omega)) | skip)) | refine aV tabOk rfl rfl rfl (nb rfl) rfl rfl rfl hget ?_ | refine dG rfl rfl rfl (nb rfl) rfl rfl (by first | omega | (simp only [cS]; omega)) ?_ | refine aI rfl rfl (nb rfl) rfl rfl rfl rfl (cf) ?_ | refine bY rfl rfl rfl (nb rfl) rfl rfl rfl (by omega) (by omega) ?_ | refine aU tabOk rfl rfl (nb rfl) rfl ?_ | refine bI tabOk rfl rfl rfl (nb rfl) rfl rfl rfl rfl (by first | assumption | omega) ?_) | (refine aN ?_;  first | refine aG ?_ | refine aQ ?_ | refine aX ?_ | refine aT ?_ | refine aW ?_ | refine aA (b := true) rfl (fun _ => ?_) nTf | refine aA (b := false) rfl nFt (fun _ => ?_)) | (refine aJ ?_;  first | refine bB ?_ | refine aR ?_) | (refine aY ?_;  first | refine bE ?_))
                  all_goals first
                    | exact absurd rfl (by assumption)
                    | (exfalso; omega)
                    | (refine bA (by first | exact .inl rfl | exact .inr rfl) (bP rfl (aD rfl) (aD rfl)) rfl ?_; rfl)
                · rw [h3] at hu hf cf
                  rw [if_pos rfl] at hu
                  obtain ⟨g1, g2, g3⟩ := hf rfl
                  dsimp only at hu g1 g2 g3 cf
                  clear h2 h3 h4 hf
                  generalize kid0 kids[i] = c at *
                  obtain ⟨pc, hpc⟩ := dF (cR g2)
                  rw [hpc] at cf
                  repeat' (first | refine aE ?_ | (refine aH ?_;  first | refine aC tabOk rfl rfl rfl (nb rfl) rfl ?_ | (refine aK rfl rfl rfl (nb rfl) rfl rfl rfl (fun hq => ?_) (fun hq => ?_) <;> (first | (simp only [sD, sE, sB, sC, sN, sM, sT, sF] at hq; try (exfalso; omega)) | skip)) | refine aV tabOk rfl rfl rfl (nb rfl) rfl rfl rfl hget ?_ | refine dG rfl rfl rfl (nb rfl) rfl rfl (by first | omega | (simp only [cS]; omega)) ?_ | refine aI rfl rfl (nb rfl) rfl rfl rfl rfl (cf) ?_ | refine bK rfl rfl rfl (nb rfl) rfl rfl (by omega) ?_ | refine bY rfl rfl rfl (nb rfl) rfl rfl rfl (by omega) (by omega) ?_ | refine aU tabOk rfl rfl (nb rfl) rfl ?_ | refine bI tabOk rfl rfl rfl (nb rfl) rfl rfl rfl rfl (by first | assumption | omega) ?_) | (refine aN ?_;  first | refine aG ?_ | refine aQ ?_ | refine bF ?_ | refine aX ?_ | refine aW ?_ | refine aA (b := true) rfl (fun _ => ?_) nTf | refine aA (b := false) rfl nFt (fun _ => ?_)) | (refine aJ ?_;  first | refine bB ?_) | (refine aY ?_;  first | refine bR ?_))
                  all_goals first
                    | exact absurd rfl (by assumption)
                    | (exfalso; omega)
                    | (refine ⟨⟨(j + 1, c), hlt, g1, g2, Nat.le_trans (Nat.le_of_lt g3) uz, hu⟩, (by show l.length - (j + 1) < l.length - j; omega), ?_⟩; dsimp only; rw [hpc]; exact (cA (by repeat' first | exact trivial | refine ⟨rfl, ?_⟩) (by repeat' first | exact trivial | refine ⟨rfl, ?_⟩)))
            · have ej : j = l.length := by omega
              subst ej
              rw [List.drop_length, atS] at hu
              subst hu
              obtain ⟨pu, hpu⟩ := dF (cR uw)
              dsimp only
              rw [hpu]
              repeat' (first | refine aE ?_ | (refine aH ?_;  first | refine aC tabOk rfl rfl rfl (nb rfl) rfl ?_ | (refine aK rfl rfl rfl (nb rfl) rfl rfl rfl (fun hq => ?_) (fun hq => ?_) <;> (first | (simp only [sD, sE, sB, sC, sN, sM, sT, sF] at hq; try (exfalso; omega)) | skip)) | refine aU tabOk rfl rfl (nb rfl) rfl ?_) | (refine aN ?_;  first | refine aG ?_ | refine aQ ?_ | refine aT ?_ | refine bS ?_ | refine aA (b := false) rfl nFt (fun _ => ?_)) | (refine aJ ?_;  first | refine bB ?_ | refine bJ ?_) | (refine aY ?_;  first | refine bH ?_))
              all_goals first
                | (exfalso; omega)
                | (refine bA (by first | exact .inl rfl | exact .inr rfl) (bP rfl (aD rfl) (aD rfl)) rfl ?_; rfl))
  · rw [if_pos hc] at hQ
    subst hQ
    generalize checkP sformP t = C at *
    refine aM Tryz.func11 rfl rfl (nb rfl) rfl ?_
    repeat' (first | refine aE ?_ | (refine aH ?_;  first | refine aC tabOk rfl rfl rfl (nb rfl) rfl ?_ | (refine aK rfl rfl rfl (nb rfl) rfl rfl rfl (fun hq => ?_) (fun hq => ?_) <;> (first | (simp only [sD, sE, sB, sC, sN, sM, sT, sF] at hq; try (exfalso; omega)) | skip)) | refine aI rfl rfl (nb rfl) rfl rfl rfl rfl (c1) ?_) | (refine aN ?_;  first | refine aG ?_ | refine aQ ?_ | refine aT ?_ | refine aA (b := true) rfl (fun _ => ?_) nTf) | (refine aJ ?_;  first | refine aR ?_))
    all_goals first
      | exact absurd rfl (by assumption)
      | exact absurd (by assumption) hc
      | (refine bA (by first | exact .inl rfl | exact .inr rfl) (bP rfl (aD rfl) (aD rfl)) rfl ?_; rfl)
end Go.Proofs.YtlbemgokilhdnaaGreatDoor.Ab
namespace Go.Proofs.YtlbemgokilhdnaaGreatDoor.Ab
set_option linter.unusedVariables false
set_option linter.unusedSimpArgs false
open Go.RowKit Go.Proofs.YtlbemgokilhdnaaGreatDoor.RP
attribute [local irreducible] AWP AOps AExit AThen ABlock ANoGoto FeetOk
theorem lL (t : Tree) (e : Int) : ((sizedP t e).1 = .nil ∨ (sizedP t e).1.whole = true) ∧ (sizedP t e).1.size ≤ 65536 := by
  unfold sizedP
  split
  · exact ⟨.inl rfl, by simp [Tree.size]⟩
  · split
    · exact ⟨.inl rfl, by simp [Tree.size]⟩
    · rename_i h1 h2
      have h2 : (wholeP t 65536).1 = 0 := by simpa using h2
      have h3 := iC t 65536 (by omega) h2
      have h4 := eE t 65536 (by omega) h2
      exact ⟨.inr (eF t _ h2), by dsimp only; omega⟩
theorem qE (t : Tree) : ((sTransP t).1 = .nil ∨ (sTransP t).1.whole = true) ∧ (sTransP t).1.size ≤ 65536 := by
  unfold sTransP
  split
  · exact ⟨.inl rfl, by simp [Tree.size]⟩
  · exact lL _ _
theorem qF (t : Tree) : ((sTokenP t).1 = .nil ∨ (sTokenP t).1.whole = true) ∧ (sTokenP t).1.size ≤ 65536 := by
  unfold sTokenP
  split
  · exact ⟨.inl rfl, by simp [Tree.size]⟩
  · split
    · exact ⟨.inl rfl, by simp [Tree.size]⟩
    · exact lL _ _
theorem tA (space : ByteArray) : ∀ (l : List ByteArray) (t : Tree), isSigP t = true → t.whole = true → ((atS space l t).1 = .nil ∨ (isSigP (atS space l t).1 = true ∧ (atS space l t).1.whole = true)) ∧ (atS space l t).1.size ≤ t.size
  | [], t, hs, hw => ⟨.inr ⟨hs, hw⟩, Nat.le_refl _⟩
  | s :: ss, t, hs, hw => by
    rw [atS]
    split
    · rename_i h
      obtain ⟨g1, g2, g3⟩ := jS hs hw _ h
      have := tA space ss _ g1 g2
      exact ⟨this.1, by omega⟩
    · exact ⟨.inl rfl, by simp [Tree.size]⟩
theorem xR (t : Tree) (space long : ByteArray) : ((sAtP t space long).1 = .nil ∨ (sAtP t space long).1.whole = true) ∧ (sAtP t space long).1.size ≤ 65536 := by
  unfold sAtP
  split
  · exact ⟨.inl rfl, by simp [Tree.size]⟩
  · rename_i hc
    have hc : checkP sformP t = 0 := by simpa using hc
    obtain ⟨hw, hz, _⟩ := cT hc
    split
    · exact ⟨.inl rfl, by simp [Tree.size]⟩
    · rename_i hs
      split
      · exact ⟨.inl rfl, by simp [Tree.size]⟩
      · have hs : isSigP t = true := by
          cases h : isSigP t with
          | true => rfl
          | false => rw [h] at hs; simp at hs
        have := tA space (splitP long) t hs hw
        exact ⟨this.1.imp_right And.right, by omega⟩
theorem tB (n K : Nat) : (if (K : Int) < (n : Int) then (K : Int) else (n : Int)) = ((min n K : Nat) : Int) := by split <;> omega
set_option maxHeartbeats 8000000 in
set_option maxRecDepth 10000 in
theorem uX (l : List CellD) (hl : ∀ c ∈ l, c.f = false) (a b : ByteArray) : ACalls Tryz.prog 3 [.imm (.agg [.sl false l.length (cellIVs l)]), .imm (.agg [.lit (.string a), .lit (.string b)])] [] (.imm (.lit (.bool true))) [] := by
  obtain ⟨x, x1, _, x3, d1⟩ := aAt l hl
  have ha : (a.extract 0 (min a.size 9)).size ≤ 100000 := by rw [ByteArray.size_extract]; omega
  have hb : (b.extract 0 (min b.size 140)).size ≤ 100000 := by rw [ByteArray.size_extract]; omega
  have c1 := vK x (by omega)
  have c2 := zQ x x3 (by omega)
  have c3 := aAv x (by omega)
  have c4 := zR x (by omega)
  have c5 := At_a x _ _ (by omega) ha hb
  have c6 := aAL x _ _ x3 (by omega) ha hb
  obtain ⟨f1, f2⟩ := qE x
  obtain ⟨f3, f4⟩ := qF x
  obtain ⟨f5, f6⟩ := xR x (a.extract 0 (min a.size 9)) (b.extract 0 (min b.size 140))
  generalize sTransP x = T at *
  generalize sTokenP x = K at *
  generalize sAtP x (a.extract 0 (min a.size 9)) (b.extract 0 (min b.size 140)) = G at *
  have s1 := pU T.1 T.1 f1 f1 (by omega) (by omega)
  have s2 := pU K.1 K.1 f3 f3 (by omega) (by omega)
  have s3 := pU G.1 G.1 f5 f5 (by omega) (by omega)
  rw [(oK _ _).2 rfl] at s1 s2 s3
  clear f1 f2 f3 f4 f5 f6
  obtain ⟨T1, T2⟩ := T
  obtain ⟨K1, K2⟩ := K
  obtain ⟨G1, G2⟩ := G
  dsimp only at *
  refine aM Tryz.func3 rfl rfl (nb rfl) rfl ?_
  repeat' (first | refine aE ?_ | (refine aH ?_;  first | refine aC tabOk rfl rfl rfl (nb rfl) rfl ?_ | (refine aK rfl rfl rfl (nb rfl) rfl rfl rfl (fun hq => ?_) (fun hq => ?_) <;> (first | (simp only [sD, sE, sB, sC, sN, sM, sT, sF] at hq; try (exfalso; omega)) | skip)) | refine nW tabOk rfl rfl rfl (nb rfl) rfl rfl rfl rfl rfl (by decide) ?_ | refine eP rfl rfl rfl (nb rfl) rfl rfl (tB a.size 9) ?_ | refine eP rfl rfl rfl (nb rfl) rfl rfl (tB b.size 140) ?_ | refine eO (l := 0) (h := min a.size 9) tabOk rfl rfl rfl (nb rfl) rfl rfl rfl rfl (by omega) (by omega) rfl ?_ | refine eO (l := 0) (h := min b.size 140) tabOk rfl rfl rfl (nb rfl) rfl rfl rfl rfl (by omega) (by omega) rfl ?_ | refine aI rfl rfl (nb rfl) rfl rfl rfl rfl (d1) ?_ | refine aI rfl rfl (nb rfl) rfl rfl rfl rfl (c1) ?_ | refine aI rfl rfl (nb rfl) rfl rfl rfl rfl (c2) ?_ | refine aI rfl rfl (nb rfl) rfl rfl rfl rfl (c3) ?_ | refine aI rfl rfl (nb rfl) rfl rfl rfl rfl (c4) ?_ | refine aI rfl rfl (nb rfl) rfl rfl rfl rfl (c5) ?_ | refine aI rfl rfl (nb rfl) rfl rfl rfl rfl (c6) ?_ | refine aI rfl rfl (nb rfl) rfl rfl rfl rfl (s1) ?_ | refine aI rfl rfl (nb rfl) rfl rfl rfl rfl (s2) ?_ | refine aI rfl rfl (nb rfl) rfl rfl rfl rfl (s3) ?_ | refine aI rfl rfl (nb rfl) rfl rfl rfl rfl (xO) ?_ | refine aU tabOk rfl rfl (nb rfl) rfl ?_) | (refine aN ?_;  first | refine aG ?_ | refine aQ ?_ | refine aT ?_ | refine bC mixed (by kernel_rfl) ?_) | (refine aJ ?_;  first | refine bB ?_) | refine bU (bQ (by kernel_rfl)) ?_)
  all_goals first
    | exact cH (by first | exact .inl rfl | exact .inr rfl) (aZ rfl (aD rfl)) rfl
    | exact absurd rfl (by assumption)
    | (exfalso; omega)
theorem zY {x : IV} (h : FitsV (.array 2 .string) x) : ∃ a b : ByteArray, x = .agg [.lit (.string a), .lit (.string b)] := by
  obtain ⟨xs, rfl, h⟩ := h
  cases h with
  | array n e ys hn hy =>
    match ys, hn, hy with
    | [y, z], _, hy =>
      have h1 := hy y (by simp)
      have h2 := hy z (by simp)
      cases h1 with
      | string a ha =>
        cases h2 with
        | string b hb => exact ⟨a, b, rfl⟩
theorem SemTrans_law (xs : List IV) (h : FitsAll [tyTree, .array 2 .string] xs) : ACalls Tryz.prog 3 (xs.map .imm) [] (.imm (.lit (.bool true))) [] := by
  cases h with
  | cons h1 h =>
    cases h with
    | cons h2 h =>
      cases h
      obtain ⟨l, rfl, hl⟩ := wX h1
      obtain ⟨a, b, rfl⟩ := zY h2
      exact uX l hl a b
end Go.Proofs.YtlbemgokilhdnaaGreatDoor.Ab
