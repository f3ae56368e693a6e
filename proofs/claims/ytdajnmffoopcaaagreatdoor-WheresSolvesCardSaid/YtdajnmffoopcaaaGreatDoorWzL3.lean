/- Words, walks and laws under the claim's statement: what it uses of them. No condition of its own. -/
import Derived.Test.YtdajnmffoopcaaaGreatDoorWzL2
import Derived.Test.YtdajnmffoopcaaaGreatDoorWzL1
import Derived.Test.YtdajnmffoopcaaaGreatDoorWzAb1
namespace Go.Proofs.YtdajnmffoopcaaaGreatDoor.Ab
set_option linter.unusedVariables false
set_option linter.unusedSimpArgs false
open Go.RowKit Go.Proofs.YtdajnmffoopcaaaGreatDoor.RP
attribute [local irreducible] AWP AOps AExit AThen ABlock ANoGoto FeetOk
theorem aBr (s : ByteArray) (h : longP s = false) : splitP s = [] := by unfold splitP; rw [if_neg (by rw [h]; simp)]
theorem aCE (space s : ByteArray) : labS space false s = ((⟨#[109]⟩ : ByteArray) ++ ⟨#[58]⟩) ++ s := by
  rw [aBf]
  rfl
set_option maxHeartbeats 16000000 in
set_option maxRecDepth 10000 in
theorem aCl (t : Tree) (space long : ByteArray) (hwn : t = .nil ∨ t.whole = true) (hs : t.size ≤ 65536) (hp : space.size ≤ 100000) (hl : long.size ≤ 100000) : ACalls Tryz.prog 65 [.imm t.iv, .imm (.lit (.string space)), .imm (.lit (.string long))] [] (.imm (.tup [(sAtP t space long).1.iv, .lit (.int .i64 (sAtP t space long).2)])) [] := by
  have c1 := fB t hwn hs
  obtain ⟨Q, hQ⟩ : ∃ Q, sAtP t space long = Q := ⟨_, rfl⟩
  rw [hQ]
  unfold sAtP at hQ
  by_cases hc : checkP sformP t = 0
  · rw [if_neg (by simpa using hc)] at hQ
    rw [hc] at c1
    obtain ⟨hw, hz, _⟩ := bK hc
    have c2 := rT t hw (by omega)
    cases hsig : isSigP t with
    | false =>
      rw [hsig] at c2 hQ
      rw [Bool.false_and, if_pos rfl] at hQ
      subst hQ
      refine aJ Tryz.func65 rfl rfl (nb rfl) rfl ?_
      repeat' (first | refine aG ?_ | (refine aI ?_;  first | refine aD tabOk rfl rfl rfl (nb rfl) rfl ?_ | refine bE rfl rfl (nb rfl) ?_ | (refine aM rfl rfl rfl (nb rfl) rfl rfl rfl (fun hq => ?_) (fun hq => ?_) <;> (first | (simp only [sD, sE, sB, sC, sN, sM, sT, sF] at hq; try (exfalso; omega)) | skip)) | refine aE rfl rfl (nb rfl) rfl rfl rfl rfl (c1) ?_ | refine aE rfl rfl (nb rfl) rfl rfl rfl rfl (c2) ?_) | (refine aN ?_;  first | refine aH ?_ | refine aQ ?_ | refine aT ?_ | refine aU ?_ | refine aA (b := true) rfl (fun _ => ?_) nTf | refine aA (b := false) rfl nFt (fun _ => ?_)) | (refine aK ?_;  first | refine aX ?_ | refine aR ?_))
      all_goals first
        | exact absurd rfl (by assumption)
        | (refine aV (by first | exact .inl rfl | exact .inr rfl) (bD rfl (aC rfl) (aC rfl)) rfl ?_; rfl)
    | true =>
      rw [hsig] at c2 hQ
      rw [Bool.true_and] at hQ
      cases hsp : spOk space with
      | false =>
        rw [hsp] at hQ
        rw [if_pos rfl] at hQ
        subst hQ
        unfold spOk at hsp
        refine aJ Tryz.func65 rfl rfl (nb rfl) rfl ?_
        repeat' (first | refine aG ?_ | (refine aI ?_;  first | refine aD tabOk rfl rfl rfl (nb rfl) rfl ?_ | refine bE rfl rfl (nb rfl) ?_ | (refine aM rfl rfl rfl (nb rfl) rfl rfl rfl (fun hq => ?_) (fun hq => ?_) <;> (first | (simp only [sD, sE, sB, sC, sN, sM, sT, sF] at hq; try (exfalso; omega)) | skip)) | refine aE rfl rfl (nb rfl) rfl rfl rfl rfl (c1) ?_ | refine aE rfl rfl (nb rfl) rfl rfl rfl rfl (c2) ?_) | (refine aN ?_;  first | refine aH ?_ | refine aQ ?_ | refine aT ?_ | refine aU ?_ | refine aA (b := true) rfl (fun _ => ?_) nTf | refine aA (b := false) rfl nFt (fun _ => ?_)) | (refine aK ?_;  first | refine aX ?_ | refine aR ?_))
        all_goals first
          | exact absurd rfl (by assumption)
          | (refine aV (by first | exact .inl rfl | exact .inr rfl) (bD rfl (aC rfl) (aC rfl)) rfl ?_; rfl)
          | (exfalso; simp_all [eqB]; done)
      | true =>
        rw [hsp] at hQ
        rw [if_neg (by simp)] at hQ
        unfold spOk at hsp
        have c4 := aBq long hl
        obtain ⟨hsl, hsz⟩ := pG long
        cases hlg : longP long with
        | false =>
          rw [hlg] at hQ
          rw [if_pos rfl] at hQ
          rw [aBr long hlg] at c4
          subst hQ
          refine aJ Tryz.func65 rfl rfl (nb rfl) rfl ?_
          repeat' (first | refine aG ?_ | (refine aI ?_;  first | refine aD tabOk rfl rfl rfl (nb rfl) rfl ?_ | refine bE rfl rfl (nb rfl) ?_ | (refine aM rfl rfl rfl (nb rfl) rfl rfl rfl (fun hq => ?_) (fun hq => ?_) <;> (first | (simp only [sD, sE, sB, sC, sN, sM, sT, sF] at hq; try (exfalso; omega)) | skip)) | refine aE rfl rfl (nb rfl) rfl rfl rfl rfl (c1) ?_ | refine aE rfl rfl (nb rfl) rfl rfl rfl rfl (c2) ?_ | refine aE rfl rfl (nb rfl) rfl rfl rfl rfl (c4) ?_ | refine bB tabOk rfl rfl (nb rfl) rfl ?_) | (refine aN ?_;  first | refine aH ?_ | refine aQ ?_ | refine aY ?_ | refine aT ?_ | refine aU ?_ | refine aA (b := true) rfl (fun _ => ?_) nTf | refine aA (b := false) rfl nFt (fun _ => ?_)) | (refine aK ?_;  first | refine aX ?_ | refine aR ?_))
          all_goals first
            | exact absurd rfl (by assumption)
            | (exfalso; simp_all [eqB]; done)
            | (refine aV (by first | exact .inl rfl | exact .inr rfl) (bD rfl (aC rfl) (aC rfl)) rfl ?_; rfl)
        | true =>
          rw [hlg] at hQ
          rw [if_neg (by simp)] at hQ
          have hne := aBd long hlg
          generalize splitP long = l at *
          have hpos : 0 < l.length := List.length_pos_iff.2 hne
          refine aJ Tryz.func65 rfl rfl (nb rfl) rfl ?_
          repeat' (first | refine aG ?_ | (refine aI ?_;  first | refine aD tabOk rfl rfl rfl (nb rfl) rfl ?_ | refine bE rfl rfl (nb rfl) ?_ | (refine aM rfl rfl rfl (nb rfl) rfl rfl rfl (fun hq => ?_) (fun hq => ?_) <;> (first | (simp only [sD, sE, sB, sC, sN, sM, sT, sF] at hq; try (exfalso; omega)) | skip)) | refine aE rfl rfl (nb rfl) rfl rfl rfl rfl (c1) ?_ | refine aE rfl rfl (nb rfl) rfl rfl rfl rfl (c2) ?_ | refine aE rfl rfl (nb rfl) rfl rfl rfl rfl (c4) ?_ | refine bB tabOk rfl rfl (nb rfl) rfl ?_) | (refine aN ?_;  first | refine aH ?_ | refine aQ ?_ | refine aY ?_ | refine aT ?_ | refine aU ?_ | refine aA (b := true) rfl (fun _ => ?_) nTf | refine aA (b := false) rfl nFt (fun _ => ?_)) | (refine aK ?_;  first | refine aX ?_ | refine aR ?_))
          all_goals first
            | exact absurd rfl (by assumption)
            | (exfalso; simp_all [eqB]; done)
            | (exfalso; omega)
            | skip
          all_goals (
            clear hsp
            refine cI (ι := {p : Nat × Tree // p.1 ≤ l.length ∧ isSigP p.2 = true ∧ p.2.whole = true ∧ p.2.size ≤ 65536 ∧ atS space (l.drop p.1) p.2 = Q}) (fun p => S.f ⟨[(10, .imm (.lit (.int .i64 (p.1.1 : Int)))), (9, .imm (.sl false l.length (strs l))), (0, .imm p.1.2.iv), (1, .imm (.lit (.string space)))], []⟩) (fun p => l.length - p.1.1) ⟨(0, t), Nat.zero_le _, hsig, hw, hs, hQ⟩ (cA (by repeat' first | exact trivial | refine ⟨rfl, ?_⟩) (by repeat' first | exact trivial | refine ⟨rfl, ?_⟩)) ?_
            rintro ⟨⟨j, u⟩, hj, us, uw, uz, hu⟩
            dsimp only at hj us uw uz hu ⊢
            clear c1 c2 c4 hw hz hsig hs hc hQ hlg hne hpos hwn
            by_cases hlt : j < l.length
            · rw [List.drop_eq_getElem_cons hlt, atS, pH l j hlt] at hu
              have hget := hG l j hlt
              have hsj := hsz _ (List.getElem_mem hlt)
              have s1 : (⟨#[109]⟩ : ByteArray).size = 1 := rfl
              have s2 : (⟨#[58]⟩ : ByteArray).size = 1 := rfl
              have hf := kN us uw (labS space (decide (j + 1 = l.length)) l[j])
              have hkf := jA us
              generalize l[j] = s at *
              obtain ⟨k, n, a, b, kids, rfl⟩ := cF uw
              have hkl : kids.length < 1000000000 := by have := cC kids uw; simp only [Tree.size] at uz; omega
              change ∀ t ∈ kids, _ at hkf
              have ekk : (Tree.node k n a b kids).kids = kids := rfl
              rw [ekk] at hu hf
              have cf := fun label => aBk k n a b kids label uw hkl hkf
              clear hkf
              by_cases hlast : j + 1 = l.length
              · rw [decide_eq_true hlast] at hu hf
                rw [aBe] at hu hf
                replace cf := cf ((space ++ ⟨#[58]⟩) ++ s)
                rcases eO ((space ++ ⟨#[58]⟩) ++ s) kids 0 with ⟨h1, h2⟩ | ⟨i, h1, h2, h3, h4⟩
                · rw [h2] at hu cf
                  rw [if_neg (by simp)] at hu
                  subst hu
                  clear hf h1 h2
                  repeat' (first | refine aG ?_ | (refine aI ?_;  first | refine aD tabOk rfl rfl rfl (nb rfl) rfl ?_ | (refine aM rfl rfl rfl (nb rfl) rfl rfl rfl (fun hq => ?_) (fun hq => ?_) <;> (first | (simp only [sD, sE, sB, sC, sN, sM, sT, sF] at hq; try (exfalso; omega)) | skip)) | refine bC tabOk rfl rfl rfl (nb rfl) rfl rfl rfl hget ?_ | refine dY rfl rfl rfl (nb rfl) rfl rfl (by first | omega | (simp only [dN]; omega)) ?_ | refine aE rfl rfl (nb rfl) rfl rfl rfl rfl (cf) ?_ | refine bV rfl rfl rfl (nb rfl) rfl rfl rfl (by omega) (by omega) ?_ | refine bB tabOk rfl rfl (nb rfl) rfl ?_ | refine bG tabOk rfl rfl rfl (nb rfl) rfl rfl rfl rfl (by first | assumption | omega) ?_) | (refine aN ?_;  first | refine aH ?_ | refine aQ ?_ | refine bH ?_ | refine aY ?_ | refine aT ?_ | refine aU ?_ | refine aA (b := true) rfl (fun _ => ?_) nTf) | (refine aK ?_;  first | refine aX ?_ | refine aR ?_) | (refine bA ?_;  first | refine bF ?_))
                  all_goals first
                    | exact absurd rfl (by assumption)
                    | (exfalso; omega)
                    | (refine aV (by first | exact .inl rfl | exact .inr rfl) (bD rfl (aC rfl) (aC rfl)) rfl ?_; rfl)
                · rw [h3] at hu hf cf
                  rw [if_pos rfl] at hu
                  obtain ⟨g1, g2, g3⟩ := hf rfl
                  dsimp only at hu g1 g2 g3 cf
                  clear h2 h3 h4 hf
                  generalize kid0 kids[i] = c at *
                  obtain ⟨pc, hpc⟩ := dT (dG g2)
                  rw [hpc] at cf
                  repeat' (first | refine aG ?_ | (refine aI ?_;  first | refine aD tabOk rfl rfl rfl (nb rfl) rfl ?_ | (refine aM rfl rfl rfl (nb rfl) rfl rfl rfl (fun hq => ?_) (fun hq => ?_) <;> (first | (simp only [sD, sE, sB, sC, sN, sM, sT, sF] at hq; try (exfalso; omega)) | skip)) | refine bC tabOk rfl rfl rfl (nb rfl) rfl rfl rfl hget ?_ | refine dY rfl rfl rfl (nb rfl) rfl rfl (by first | omega | (simp only [dN]; omega)) ?_ | refine aE rfl rfl (nb rfl) rfl rfl rfl rfl (cf) ?_ | refine bP rfl rfl rfl (nb rfl) rfl rfl (by omega) ?_ | refine bV rfl rfl rfl (nb rfl) rfl rfl rfl (by omega) (by omega) ?_ | refine bB tabOk rfl rfl (nb rfl) rfl ?_ | refine bG tabOk rfl rfl rfl (nb rfl) rfl rfl rfl rfl (by first | assumption | omega) ?_) | (refine aN ?_;  first | refine aH ?_ | refine aQ ?_ | refine bH ?_ | refine aY ?_ | refine aU ?_ | refine aA (b := true) rfl (fun _ => ?_) nTf | refine aA (b := false) rfl nFt (fun _ => ?_)) | (refine aK ?_;  first | refine aX ?_) | (refine bA ?_;  first | refine bU ?_))
                  all_goals first
                    | exact absurd rfl (by assumption)
                    | (exfalso; omega)
                    | (refine ⟨⟨(j + 1, c), hlt, g1, g2, Nat.le_trans (Nat.le_of_lt g3) uz, hu⟩, (by show l.length - (j + 1) < l.length - j; omega), ?_⟩; dsimp only; rw [hpc]; exact (cA (by repeat' first | exact trivial | refine ⟨rfl, ?_⟩) (by repeat' first | exact trivial | refine ⟨rfl, ?_⟩)))
              · rw [decide_eq_false hlast] at hu hf
                rw [aCE] at hu hf
                replace cf := cf (((⟨#[109]⟩ : ByteArray) ++ ⟨#[58]⟩) ++ s)
                rcases eO (((⟨#[109]⟩ : ByteArray) ++ ⟨#[58]⟩) ++ s) kids 0 with ⟨h1, h2⟩ | ⟨i, h1, h2, h3, h4⟩
                · rw [h2] at hu cf
                  rw [if_neg (by simp)] at hu
                  subst hu
                  clear hf h1 h2
                  repeat' (first | refine aG ?_ | (refine aI ?_;  first | refine aD tabOk rfl rfl rfl (nb rfl) rfl ?_ | (refine aM rfl rfl rfl (nb rfl) rfl rfl rfl (fun hq => ?_) (fun hq => ?_) <;> (first | (simp only [sD, sE, sB, sC, sN, sM, sT, sF] at hq; try (exfalso; omega)) | skip)) | refine bC tabOk rfl rfl rfl (nb rfl) rfl rfl rfl hget ?_ | refine dY rfl rfl rfl (nb rfl) rfl rfl (by first | omega | (simp only [dN]; omega)) ?_ | refine aE rfl rfl (nb rfl) rfl rfl rfl rfl (cf) ?_ | refine bV rfl rfl rfl (nb rfl) rfl rfl rfl (by omega) (by omega) ?_ | refine bB tabOk rfl rfl (nb rfl) rfl ?_ | refine bG tabOk rfl rfl rfl (nb rfl) rfl rfl rfl rfl (by first | assumption | omega) ?_) | (refine aN ?_;  first | refine aH ?_ | refine aQ ?_ | refine aY ?_ | refine aT ?_ | refine aU ?_ | refine aA (b := true) rfl (fun _ => ?_) nTf | refine aA (b := false) rfl nFt (fun _ => ?_)) | (refine aK ?_;  first | refine aX ?_ | refine aR ?_) | (refine bA ?_;  first | refine bF ?_))
                  all_goals first
                    | exact absurd rfl (by assumption)
                    | (exfalso; omega)
                    | (refine aV (by first | exact .inl rfl | exact .inr rfl) (bD rfl (aC rfl) (aC rfl)) rfl ?_; rfl)
                · rw [h3] at hu hf cf
                  rw [if_pos rfl] at hu
                  obtain ⟨g1, g2, g3⟩ := hf rfl
                  dsimp only at hu g1 g2 g3 cf
                  clear h2 h3 h4 hf
                  generalize kid0 kids[i] = c at *
                  obtain ⟨pc, hpc⟩ := dT (dG g2)
                  rw [hpc] at cf
                  repeat' (first | refine aG ?_ | (refine aI ?_;  first | refine aD tabOk rfl rfl rfl (nb rfl) rfl ?_ | (refine aM rfl rfl rfl (nb rfl) rfl rfl rfl (fun hq => ?_) (fun hq => ?_) <;> (first | (simp only [sD, sE, sB, sC, sN, sM, sT, sF] at hq; try (exfalso; omega)) | skip)) | refine bC tabOk rfl rfl rfl (nb rfl) rfl rfl rfl hget ?_ | refine dY rfl rfl rfl (nb rfl) rfl rfl (by first | omega | (simp only [dN]; omega)) ?_ | refine aE rfl rfl (nb rfl) rfl rfl rfl rfl (cf) ?_ | refine bP rfl rfl rfl (nb rfl) rfl rfl (by omega) ?_ | refine bV rfl rfl rfl (nb rfl) rfl rfl rfl (by omega) (by omega) ?_ | refine bB tabOk rfl rfl (nb rfl) rfl ?_ | refine bG tabOk rfl rfl rfl (nb rfl) rfl rfl rfl rfl (by first | assumption | omega) ?_) | (refine aN ?_;  first | refine aH ?_ | refine aQ ?_ | refine bH ?_ | refine aY ?_ | refine aU ?_ | refine aA (b := true) rfl (fun _ => ?_) nTf | refine aA (b := false) rfl nFt (fun _ => ?_)) | (refine aK ?_;  first | refine aX ?_) | (refine bA ?_;  first | refine bU ?_))
                  all_goals first
                    | exact absurd rfl (by assumption)
                    | (exfalso; omega)
                    | (refine ⟨⟨(j + 1, c), hlt, g1, g2, Nat.le_trans (Nat.le_of_lt g3) uz, hu⟩, (by show l.length - (j + 1) < l.length - j; omega), ?_⟩; dsimp only; rw [hpc]; exact (cA (by repeat' first | exact trivial | refine ⟨rfl, ?_⟩) (by repeat' first | exact trivial | refine ⟨rfl, ?_⟩)))
            · have ej : j = l.length := by omega
              subst ej
              rw [List.drop_length, atS] at hu
              subst hu
              obtain ⟨pu, hpu⟩ := dT (dG uw)
              dsimp only
              rw [hpu]
              repeat' (first | refine aG ?_ | (refine aI ?_;  first | refine aD tabOk rfl rfl rfl (nb rfl) rfl ?_ | (refine aM rfl rfl rfl (nb rfl) rfl rfl rfl (fun hq => ?_) (fun hq => ?_) <;> (first | (simp only [sD, sE, sB, sC, sN, sM, sT, sF] at hq; try (exfalso; omega)) | skip)) | refine bB tabOk rfl rfl (nb rfl) rfl ?_) | (refine aN ?_;  first | refine aH ?_ | refine aQ ?_ | refine aT ?_ | refine bW ?_ | refine aA (b := false) rfl nFt (fun _ => ?_)) | (refine aK ?_;  first | refine aX ?_ | refine bM ?_) | (refine bA ?_;  first | refine bI ?_))
              all_goals first
                | (exfalso; omega)
                | (refine aV (by first | exact .inl rfl | exact .inr rfl) (bD rfl (aC rfl) (aC rfl)) rfl ?_; rfl))
  · rw [if_pos hc] at hQ
    subst hQ
    generalize checkP sformP t = C at *
    refine aJ Tryz.func65 rfl rfl (nb rfl) rfl ?_
    repeat' (first | refine aG ?_ | (refine aI ?_;  first | refine aD tabOk rfl rfl rfl (nb rfl) rfl ?_ | (refine aM rfl rfl rfl (nb rfl) rfl rfl rfl (fun hq => ?_) (fun hq => ?_) <;> (first | (simp only [sD, sE, sB, sC, sN, sM, sT, sF] at hq; try (exfalso; omega)) | skip)) | refine aE rfl rfl (nb rfl) rfl rfl rfl rfl (c1) ?_) | (refine aN ?_;  first | refine aH ?_ | refine aQ ?_ | refine aT ?_ | refine aA (b := true) rfl (fun _ => ?_) nTf) | (refine aK ?_;  first | refine aR ?_))
    all_goals first
      | exact absurd rfl (by assumption)
      | exact absurd (by assumption) hc
      | (refine aV (by first | exact .inl rfl | exact .inr rfl) (bD rfl (aC rfl) (aC rfl)) rfl ?_; rfl)
end Go.Proofs.YtdajnmffoopcaaaGreatDoor.Ab
namespace Go.Proofs.YtdajnmffoopcaaaGreatDoor.Ab
set_option linter.unusedVariables false
set_option linter.unusedSimpArgs false
open Go.RowKit Go.Proofs.YtdajnmffoopcaaaGreatDoor.RP
attribute [local irreducible] AWP AOps AExit AThen ABlock ANoGoto FeetOk
set_option maxHeartbeats 8000000 in
set_option maxRecDepth 10000 in
theorem aCF (i n d : Int) (s : Bool) (hn0 : 0 ≤ n) (hn : n ≤ 65536) (hd0 : 0 ≤ d) (hd : d ≤ 1000000) :
    ACalls Tryz.prog 44 [.imm (varT n).iv, .imm (.lit (.int .i64 d)), .obj 1000 0, .obj 1001 0] [(1000, .cells [.imm (.lit (.bool s))]), (1001, .cells [.imm (.lit (.int .i64 i))])]
      (.imm (occV i n d s).1.iv) [(1000, .cells [.imm (.lit (.bool (occV i n d s).2))]), (1001, .cells [.imm (.lit (.int .i64 i))])] := by
  cases s with
  | true =>
    have e : occV i n d true = (varT n, true) := rfl
    rw [e]
    unfold varT
    refine cD [1000, 1001] Tryz.func44 rfl rfl (nb rfl) rfl rfl ?_
    repeat' (first | refine aG ?_ | (refine aI ?_;  first | refine aD tabOk rfl rfl rfl (nb rfl) rfl ?_ | refine bE rfl rfl (nb rfl) ?_ | refine bO tabOk rfl rfl rfl (nb rfl) rfl rfl rfl rfl ?_ | refine bJ tabOk rfl rfl rfl rfl rfl rfl rfl rfl rfl rfl rfl ?_) | (refine aN ?_;  first | refine aH ?_ | refine aQ ?_ | refine aT ?_ | refine aW mixed (by kernel_rfl) ?_) | (refine aK ?_;  first | refine aX ?_) | refine bQ (bL (by kernel_rfl)) ?_)
    all_goals first
      | exact absurd rfl (by assumption)
      | (exfalso; omega)
      | (refine cN (cE (by first | exact .inl rfl | exact .inr rfl) (aZ rfl (aC rfl)) rfl (by repeat' first | exact trivial | refine ⟨rfl, ?_⟩) rfl ?_); rfl)
  | false =>
    by_cases h : 0 ≤ i ∧ d ≤ n ∧ n - d = i
    · have e : occV i n d false = (varT n, true) := by unfold occV; rw [decide_eq_true h]; rfl
      rw [e]
      unfold varT
      obtain ⟨h1, h2, h3⟩ := h
      refine cD [1000, 1001] Tryz.func44 rfl rfl (nb rfl) rfl rfl ?_
      repeat' (first | refine aG ?_ | (refine aI ?_;  first | refine aD tabOk rfl rfl rfl (nb rfl) rfl ?_ | (refine aM rfl rfl rfl (nb rfl) rfl rfl rfl (fun hq => ?_) (fun hq => ?_) <;> (first | (simp only [sD, sE, sB, sC, sN, sM, sT, sF] at hq; try (exfalso; omega)) | skip)) | refine bV rfl rfl rfl (nb rfl) rfl rfl rfl (by omega) (by omega) ?_ | refine bO tabOk rfl rfl rfl (nb rfl) rfl rfl rfl rfl ?_ | refine bJ tabOk rfl rfl rfl rfl rfl rfl rfl rfl rfl rfl rfl ?_) | (refine aN ?_;  first | refine aH ?_ | refine aQ ?_ | refine aT ?_ | refine aW mixed (by kernel_rfl) ?_) | (refine aK ?_;  first | refine aX ?_) | refine bQ (bL (by kernel_rfl)) ?_)
      all_goals first
        | exact absurd rfl (by assumption)
        | (exfalso; omega)
        | (refine cN (cE (by first | exact .inl rfl | exact .inr rfl) (aZ rfl (aC rfl)) rfl (by repeat' first | exact trivial | refine ⟨rfl, ?_⟩) rfl ?_); rfl)
    · have e : occV i n d false = (varT n, false) := by unfold occV; rw [decide_eq_false h]; rfl
      rw [e]
      unfold varT
      refine cD [1000, 1001] Tryz.func44 rfl rfl (nb rfl) rfl rfl ?_
      repeat' (first | refine aG ?_ | (refine aI ?_;  first | refine aD tabOk rfl rfl rfl (nb rfl) rfl ?_ | refine bE rfl rfl (nb rfl) ?_ | (refine aM rfl rfl rfl (nb rfl) rfl rfl rfl (fun hq => ?_) (fun hq => ?_) <;> (first | (simp only [sD, sE, sB, sC, sN, sM, sT, sF] at hq; try (exfalso; omega)) | skip)) | refine bV rfl rfl rfl (nb rfl) rfl rfl rfl (by omega) (by omega) ?_ | refine bO tabOk rfl rfl rfl (nb rfl) rfl rfl rfl rfl ?_ | refine bJ tabOk rfl rfl rfl rfl rfl rfl rfl rfl rfl rfl rfl ?_) | (refine aN ?_;  first | refine aH ?_ | refine aQ ?_ | refine aT ?_ | refine aW mixed (by kernel_rfl) ?_) | (refine aK ?_;  first | refine aX ?_) | refine bQ (bL (by kernel_rfl)) ?_)
      all_goals first
        | exact absurd rfl (by assumption)
        | (exfalso; omega)
        | (refine cN (cE (by first | exact .inl rfl | exact .inr rfl) (aZ rfl (aC rfl)) rfl (by repeat' first | exact trivial | refine ⟨rfl, ?_⟩) rfl ?_); rfl)
set_option maxHeartbeats 8000000 in
set_option maxRecDepth 10000 in
theorem aBs (t : Tree) (i : Int) (hs : t.size ≤ 1000000) : ACalls Tryz.prog 18 [.imm t.iv, .imm (.lit (.int .i64 i))] [] (.imm (.lit (.bool (occP t i)))) [] := by
  have c1 := eM t hs
  unfold occP
  by_cases hc : checkP isConP t = 0
  · rw [decide_eq_true hc, Bool.true_and]
    obtain ⟨hw, hz, hf⟩ := bK hc
    have hv := cY t hf
    have cw := (aCh (σ := Bool) (occV i) 44 (fun s => .lit (.bool s)) (fun _ => .lit (.int .i64 i)) (fun _ => True)
      (fun n d s _ h1 h2 h3 h4 => ⟨aCF i n d s h1 h2 h3 h4, trivial, by unfold occV varT; simp⟩) t 0 false hv hw (Int.le_refl _) (by omega) trivial).1
    rw [aCi i t 0 false hv, Bool.false_or] at cw
    rw [hc] at c1
    generalize decide (0 ≤ i ∧ 0 < cntP i t 0) = Q at *
    generalize (walkS (occV i) t 0 false).1 = W at *
    clear hc hw hz hf hv
    refine aJ Tryz.func18 rfl rfl (nb rfl) rfl ?_
    repeat' (first | refine aG ?_ | (refine aI ?_;  first | refine aD tabOk rfl rfl rfl (nb rfl) rfl ?_ | (refine aM rfl rfl rfl (nb rfl) rfl rfl rfl (fun hq => ?_) (fun hq => ?_) <;> (first | (simp only [sD, sE, sB, sC, sN, sM, sT, sF] at hq; try (exfalso; omega)) | skip)) | refine aE rfl rfl (nb rfl) rfl rfl rfl rfl (c1) ?_ | refine cQ 1001 (d := 3) rfl rfl rfl (nb rfl) rfl rfl rfl rfl rfl rfl rfl ?_ | refine cP 1000 tabOk rfl rfl rfl (nb rfl) rfl rfl rfl rfl rfl rfl ?_ | refine cG rfl rfl (nb rfl) rfl rfl rfl rfl cw (by repeat' first | exact trivial | refine ⟨rfl, ?_⟩) rfl (by show ([1000, 1001] : List Nat).Nodup; decide) ?_ | refine bO tabOk rfl rfl rfl (nb rfl) rfl rfl rfl rfl ?_ | refine bJ tabOk rfl rfl rfl rfl rfl rfl rfl rfl rfl rfl rfl ?_) | (refine aN ?_;  first | refine aH ?_ | refine aQ ?_ | refine bH ?_ | refine aT ?_ | refine aA (b := true) rfl (fun _ => ?_) nTf) | (refine aK ?_;  first | refine aX ?_))
    all_goals first
      | exact absurd rfl (by assumption)
      | (exfalso; omega)
      | (refine aV (by first | exact .inl rfl | exact .inr rfl) (aZ rfl (aC rfl)) rfl ?_; rfl)
  · rw [decide_eq_false hc, Bool.false_and]
    generalize checkP isConP t = C at *
    refine aJ Tryz.func18 rfl rfl (nb rfl) rfl ?_
    repeat' (first | refine aG ?_ | (refine aI ?_;  first | refine aD tabOk rfl rfl rfl (nb rfl) rfl ?_ | (refine aM rfl rfl rfl (nb rfl) rfl rfl rfl (fun hq => ?_) (fun hq => ?_) <;> (first | (simp only [sD, sE, sB, sC, sN, sM, sT, sF] at hq; try (exfalso; omega)) | skip)) | refine aE rfl rfl (nb rfl) rfl rfl rfl rfl (c1) ?_ | refine cQ 1001 (d := 3) rfl rfl rfl (nb rfl) rfl rfl rfl rfl rfl rfl rfl ?_ | refine cP 1000 tabOk rfl rfl rfl (nb rfl) rfl rfl rfl rfl rfl rfl ?_ | refine bO tabOk rfl rfl rfl (nb rfl) rfl rfl rfl rfl ?_ | refine bJ tabOk rfl rfl rfl rfl rfl rfl rfl rfl rfl rfl rfl ?_) | (refine aN ?_;  first | refine aH ?_ | refine aQ ?_ | refine aT ?_ | refine aU ?_ | refine aA (b := false) rfl nFt (fun _ => ?_)) | (refine aK ?_;  first | refine aX ?_))
    all_goals first
      | exact absurd (by assumption) hc
      | (exfalso; omega)
      | (refine aV (by first | exact .inl rfl | exact .inr rfl) (aZ rfl (aC rfl)) rfl ?_; rfl)
set_option maxHeartbeats 4000000 in
set_option maxRecDepth 10000 in
theorem aCS (N : Int) (pc : List IV) : ACalls Tryz.prog 22 [.imm (.lit (.int .i64 N)), .imm (.ptr pc 0)] [] (.imm (.ptr [.lit (.int .i64 164), .lit (.int .i64 N), .lit (.string ⟨#[]⟩), .lit (.string ⟨#[]⟩), .sl false 1 [.ptr pc 0]] 0)) [] := by
  refine aJ Tryz.func22 rfl rfl (nb rfl) rfl ?_
  repeat' (first | refine aG ?_ | (refine aI ?_;  first | refine aD tabOk rfl rfl rfl (nb rfl) rfl ?_ | refine cH tabOk rfl rfl rfl (nb rfl) rfl rfl rfl rfl rfl rfl rfl rfl rfl ?_ | refine bB tabOk rfl rfl (nb rfl) rfl ?_) | (refine aN ?_;  first | refine aH ?_ | refine aT ?_))
  all_goals (refine aV (by first | exact .inl rfl | exact .inr rfl) (aZ rfl (aC rfl)) rfl ?_; rfl)
theorem rZ (N : Int) {s : Tree} {pc : List IV} (h : s.iv = .ptr pc 0) : (exT N s).iv = .ptr [.lit (.int .i64 164), .lit (.int .i64 N), .lit (.string ⟨#[]⟩), .lit (.string ⟨#[]⟩), .sl false 1 [.ptr pc 0]] 0 := by
  unfold exT
  rw [Tree.iv, Tree.ivs, Tree.ivs, h]; rfl
def abstractP (n : Tree) : Int := if checkP sformP n ≠ 0 then checkP sformP n else if n.kind ≠ 164 then 16 else 0
set_option maxHeartbeats 4000000 in
set_option maxRecDepth 10000 in
theorem pK (n : Tree) (hs : n.size ≤ 1000000) : ACalls Tryz.prog 31 [.imm n.iv] [] (.imm (.lit (.int .i64 (abstractP n)))) [] := by
  have c1 := fA n hs
  unfold abstractP
  by_cases hc : checkP sformP n = 0
  · rw [if_neg (by simpa using hc)]
    rw [hc] at c1
    obtain ⟨k, m, a, b, kids, rfl⟩ := cF (bK hc).1
    by_cases hk : k = 164
    · subst hk
      rw [if_neg (by show ¬ ((164 : Int) ≠ 164); simp)]
      refine aJ Tryz.func31 rfl rfl (nb rfl) rfl ?_
      repeat' (first | refine aG ?_ | (refine aI ?_;  first | refine aD tabOk rfl rfl rfl (nb rfl) rfl ?_ | (refine aM rfl rfl rfl (nb rfl) rfl rfl rfl (fun hq => ?_) (fun hq => ?_) <;> (first | (simp only [sD, sE, sB, sC, sN, sM, sT, sF] at hq; try (exfalso; omega)) | skip)) | refine aE rfl rfl (nb rfl) rfl rfl rfl rfl (c1) ?_) | (refine aN ?_;  first | refine aH ?_ | refine aQ ?_ | refine aT ?_ | refine aU ?_ | refine aA (b := false) rfl nFt (fun _ => ?_)) | (refine aK ?_;  first | refine aX ?_))
      all_goals first
        | exact absurd rfl (by assumption)
        | (refine aV (by first | exact .inl rfl | exact .inr rfl) (aZ rfl (aC rfl)) rfl ?_; rfl)
    · rw [if_pos (by show k ≠ 164; exact hk)]
      refine aJ Tryz.func31 rfl rfl (nb rfl) rfl ?_
      repeat' (first | refine aG ?_ | (refine aI ?_;  first | refine aD tabOk rfl rfl rfl (nb rfl) rfl ?_ | (refine aM rfl rfl rfl (nb rfl) rfl rfl rfl (fun hq => ?_) (fun hq => ?_) <;> (first | (simp only [sD, sE, sB, sC, sN, sM, sT, sF] at hq; try (exfalso; omega)) | skip)) | refine aE rfl rfl (nb rfl) rfl rfl rfl rfl (c1) ?_) | (refine aN ?_;  first | refine aH ?_ | refine aQ ?_ | refine aT ?_ | refine aU ?_ | refine aA (b := true) rfl (fun _ => ?_) nTf | refine aA (b := false) rfl nFt (fun _ => ?_)) | (refine aK ?_;  first | refine aX ?_ | refine aR ?_))
      all_goals first
        | exact absurd rfl (by assumption)
        | exact absurd (by assumption) hk
        | (refine aV (by first | exact .inl rfl | exact .inr rfl) (aZ rfl (aC rfl)) rfl ?_; rfl)
  · rw [if_pos hc]
    generalize checkP sformP n = C at *
    refine aJ Tryz.func31 rfl rfl (nb rfl) rfl ?_
    repeat' (first | refine aG ?_ | (refine aI ?_;  first | refine aD tabOk rfl rfl rfl (nb rfl) rfl ?_ | (refine aM rfl rfl rfl (nb rfl) rfl rfl rfl (fun hq => ?_) (fun hq => ?_) <;> (first | (simp only [sD, sE, sB, sC, sN, sM, sT, sF] at hq; try (exfalso; omega)) | skip)) | refine aE rfl rfl (nb rfl) rfl rfl rfl rfl (c1) ?_) | (refine aN ?_;  first | refine aH ?_ | refine aQ ?_ | refine aT ?_ | refine aA (b := true) rfl (fun _ => ?_) nTf) | (refine aK ?_;  first | refine aR ?_))
    all_goals first
      | exact absurd rfl (by assumption)
      | exact absurd (by assumption) hc
      | (refine aV (by first | exact .inl rfl | exact .inr rfl) (aZ rfl (aC rfl)) rfl ?_; rfl)
set_option maxHeartbeats 16000000 in
set_option maxRecDepth 10000 in
theorem nM (n : Tree) (i : Int) (c : Tree) (hn : n.size ≤ 1000000) (hcs : c.size ≤ 1000000) (hm : n.size * c.size ≤ 1000000) :
    ACalls Tryz.prog 6 [.imm n.iv, .imm (.lit (.int .i64 i)), .imm c.iv] [] (.imm (.tup [(solveP n i c).1.iv, .lit (.int .i64 (solveP n i c).2)])) [] := by
  have c1 := fA n hn
  have c2 := eM c hcs
  obtain ⟨Q, hQ⟩ : ∃ Q, solveP n i c = Q := ⟨_, rfl⟩
  rw [hQ]
  unfold solveP at hQ
  by_cases h1 : checkP sformP n = 0
  · rw [if_neg (by simpa using h1)] at hQ
    rw [h1] at c1
    by_cases h2 : checkP isConP c = 0
    · rw [if_neg (by simpa using h2)] at hQ
      rw [h2] at c2
      by_cases h3 : n.kind = 164
      · rw [if_neg (by simpa using h3)] at hQ
        obtain ⟨N, s, rfl, n0, n1, hs, hw, hz⟩ := mT h1 h3
        have ek : kid0 (exT N s) = s := rfl
        have en : (exT N s).num = N := rfl
        rw [ek, en] at hQ
        unfold solve1 at hQ
        have hzn := (bK h1).2.1
        have hsc : checkP sformP s = 0 := by rw [fM sformP s hw (by omega), if_pos (by unfold sformP; rw [hs]; rfl)]
        by_cases h4 : i < 0 ∨ N ≤ i
        · rw [if_pos h4] at hQ
          subst hQ
          unfold exT at *
          refine aJ Tryz.func6 rfl rfl (nb rfl) rfl ?_
          repeat' (first | refine aG ?_ | (refine aI ?_;  first | refine aD tabOk rfl rfl rfl (nb rfl) rfl ?_ | refine bE rfl rfl (nb rfl) ?_ | (refine aM rfl rfl rfl (nb rfl) rfl rfl rfl (fun hq => ?_) (fun hq => ?_) <;> (first | (simp only [sD, sE, sB, sC, sN, sM, sT, sF] at hq; try (exfalso; omega)) | skip)) | refine aE rfl rfl (nb rfl) rfl rfl rfl rfl (c1) ?_ | refine aE rfl rfl (nb rfl) rfl rfl rfl rfl (c2) ?_) | (refine aN ?_;  first | refine aH ?_ | refine aQ ?_ | refine aY ?_ | refine aT ?_ | refine aU ?_ | refine aA (b := true) rfl (fun _ => ?_) nTf | refine aA (b := false) rfl nFt (fun _ => ?_)) | (refine aK ?_;  first | refine aX ?_ | refine aR ?_) | (refine bA ?_;  first | refine bF ?_))
          all_goals first
            | exact absurd rfl (by assumption)
            | (exfalso; omega)
            | (refine aV (by first | exact .inl rfl | exact .inr rfl) (bD rfl (aC rfl) (aC rfl)) rfl ?_; rfl)
        · rw [if_neg h4] at hQ
          have c3 := aBs c i hcs
          by_cases h5 : occP c i = true
          · rw [if_pos h5] at hQ
            subst hQ
            rw [h5] at c3
            unfold exT at *
            refine aJ Tryz.func6 rfl rfl (nb rfl) rfl ?_
            repeat' (first | refine aG ?_ | (refine aI ?_;  first | refine aD tabOk rfl rfl rfl (nb rfl) rfl ?_ | (refine aM rfl rfl rfl (nb rfl) rfl rfl rfl (fun hq => ?_) (fun hq => ?_) <;> (first | (simp only [sD, sE, sB, sC, sN, sM, sT, sF] at hq; try (exfalso; omega)) | skip)) | refine aE rfl rfl (nb rfl) rfl rfl rfl rfl (c1) ?_ | refine aE rfl rfl (nb rfl) rfl rfl rfl rfl (c2) ?_ | refine aE rfl rfl (nb rfl) rfl rfl rfl rfl (c3) ?_) | (refine aN ?_;  first | refine aH ?_ | refine aQ ?_ | refine aY ?_ | refine aT ?_ | refine aU ?_ | refine aA (b := true) rfl (fun _ => ?_) nTf | refine aA (b := false) rfl nFt (fun _ => ?_)) | (refine aK ?_;  first | refine aX ?_ | refine aR ?_) | (refine bA ?_;  first | refine bF ?_))
            all_goals first
              | exact absurd rfl (by assumption)
              | (exfalso; omega)
              | (refine aV (by first | exact .inl rfl | exact .inr rfl) (bD rfl (aC rfl) (aC rfl)) rfl ?_; rfl)
          · rw [if_neg h5] at hQ
            have h5 : occP c i = false := by simpa using h5
            rw [h5] at c3
            have c4 := nG c (-1) i hcs
            unfold solve2 at hQ
            by_cases h6 : (shiftP c (-1) i).2 = 0
            · rw [if_neg (by simpa using h6)] at hQ
              obtain ⟨s1, s2, s3, s4⟩ := lM h2 (by omega : 0 ≤ i) h6
              have hle : (shiftP c (-1) i).1.size ≤ c.size := by rw [s2]; dsimp only; omega
              have hcB : checkP isConP (shiftP c (-1) i).1 = 0 := by rw [s2]; exact s3
              rw [h6] at c4
              generalize (shiftP c (-1) i).1 = B at *
              have hsm : (swalkP (ssubC i B) s 0).1.size ≤ 1000000 := by
                have q1 := xR i B s hsc hcB
                have q2 : s.size * B.size ≤ (exT N s).size * c.size := Nat.mul_le_mul (by omega) hle
                omega
              have c5 := aAC s i B (by omega) (by omega) hsm
              unfold solve3 at hQ
              by_cases h7 : (ssubstP s i B).2 = 0
              · rw [if_neg (by simpa using h7)] at hQ
                obtain ⟨_, _, _, _, _, g6, g7⟩ := kQ h7
                have c6 := aBR (ssubstP s i B).1 (by omega)
                rw [h7] at c5
                obtain ⟨px, hpx⟩ := dT (dG g6)
                generalize (ssubstP s i B).1 = S at *
                have c7 := aCS (N - 1) px
                have hex := rZ (N - 1) hpx
                clear hle hcB hsm s1 s2 s3 s4 h6 h7 hsc hz hzn hs hw
                by_cases h8 : ssmallP S = 0
                · rw [if_neg (by simpa using h8)] at hQ
                  subst hQ
                  dsimp only
                  rw [hex]
                  rw [h8] at c6
                  rw [hpx] at c5 c6
                  unfold exT at *
                  refine aJ Tryz.func6 rfl rfl (nb rfl) rfl ?_
                  repeat' (first | refine aG ?_ | (refine aI ?_;  first | refine aD tabOk rfl rfl rfl (nb rfl) rfl ?_ | (refine aM rfl rfl rfl (nb rfl) rfl rfl rfl (fun hq => ?_) (fun hq => ?_) <;> (first | (simp only [sD, sE, sB, sC, sN, sM, sT, sF] at hq; try (exfalso; omega)) | skip)) | refine aE rfl rfl (nb rfl) rfl rfl rfl rfl (c1) ?_ | refine aE rfl rfl (nb rfl) rfl rfl rfl rfl (c2) ?_ | refine aE rfl rfl (nb rfl) rfl rfl rfl rfl (c3) ?_ | refine aE rfl rfl (nb rfl) rfl rfl rfl rfl (c4) ?_ | refine aE rfl rfl (nb rfl) rfl rfl rfl rfl (c5) ?_ | refine aE rfl rfl (nb rfl) rfl rfl rfl rfl (c6) ?_ | refine aE rfl rfl (nb rfl) rfl rfl rfl rfl (c7) ?_ | refine bV rfl rfl rfl (nb rfl) rfl rfl rfl (by omega) (by omega) ?_ | refine bN tabOk rfl rfl rfl (nb rfl) rfl rfl rfl rfl (by first | rfl | omega) (by first | omega | simp) ?_) | (refine aN ?_;  first | refine aH ?_ | refine aQ ?_ | refine aY ?_ | refine aT ?_ | refine aU ?_ | refine aA (b := false) rfl nFt (fun _ => ?_)) | (refine aK ?_;  first | refine aX ?_) | (refine bA ?_;  first | refine bU ?_))
                  all_goals first
                    | exact absurd rfl (by assumption)
                    | (exfalso; omega)
                    | (refine aV (by first | exact .inl rfl | exact .inr rfl) (bD rfl (aC rfl) (aC rfl)) rfl ?_; rfl)
                · rw [if_pos h8] at hQ
                  subst hQ
                  generalize ssmallP S = D at *
                  unfold exT at *
                  refine aJ Tryz.func6 rfl rfl (nb rfl) rfl ?_
                  repeat' (first | refine aG ?_ | (refine aI ?_;  first | refine aD tabOk rfl rfl rfl (nb rfl) rfl ?_ | (refine aM rfl rfl rfl (nb rfl) rfl rfl rfl (fun hq => ?_) (fun hq => ?_) <;> (first | (simp only [sD, sE, sB, sC, sN, sM, sT, sF] at hq; try (exfalso; omega)) | skip)) | refine aE rfl rfl (nb rfl) rfl rfl rfl rfl (c1) ?_ | refine aE rfl rfl (nb rfl) rfl rfl rfl rfl (c2) ?_ | refine aE rfl rfl (nb rfl) rfl rfl rfl rfl (c3) ?_ | refine aE rfl rfl (nb rfl) rfl rfl rfl rfl (c4) ?_ | refine aE rfl rfl (nb rfl) rfl rfl rfl rfl (c5) ?_ | refine aE rfl rfl (nb rfl) rfl rfl rfl rfl (c6) ?_ | refine bN tabOk rfl rfl rfl (nb rfl) rfl rfl rfl rfl (by first | rfl | omega) (by first | omega | simp) ?_) | (refine aN ?_;  first | refine aH ?_ | refine aQ ?_ | refine aY ?_ | refine aT ?_ | refine aU ?_ | refine aA (b := true) rfl (fun _ => ?_) nTf | refine aA (b := false) rfl nFt (fun _ => ?_)) | (refine aK ?_;  first | refine aX ?_ | refine aR ?_) | (refine bA ?_;  first | refine bU ?_))
                  all_goals first
                    | exact absurd rfl (by assumption)
                    | exact absurd (by assumption) h8
                    | (exfalso; omega)
                    | (refine aV (by first | exact .inl rfl | exact .inr rfl) (bD rfl (aC rfl) (aC rfl)) rfl ?_; rfl)
              · rw [if_pos h7] at hQ
                subst hQ
                generalize ssubstP s i B = S at *
                unfold exT at *
                refine aJ Tryz.func6 rfl rfl (nb rfl) rfl ?_
                repeat' (first | refine aG ?_ | (refine aI ?_;  first | refine aD tabOk rfl rfl rfl (nb rfl) rfl ?_ | (refine aM rfl rfl rfl (nb rfl) rfl rfl rfl (fun hq => ?_) (fun hq => ?_) <;> (first | (simp only [sD, sE, sB, sC, sN, sM, sT, sF] at hq; try (exfalso; omega)) | skip)) | refine aE rfl rfl (nb rfl) rfl rfl rfl rfl (c1) ?_ | refine aE rfl rfl (nb rfl) rfl rfl rfl rfl (c2) ?_ | refine aE rfl rfl (nb rfl) rfl rfl rfl rfl (c3) ?_ | refine aE rfl rfl (nb rfl) rfl rfl rfl rfl (c4) ?_ | refine aE rfl rfl (nb rfl) rfl rfl rfl rfl (c5) ?_ | refine bN tabOk rfl rfl rfl (nb rfl) rfl rfl rfl rfl (by first | rfl | omega) (by first | omega | simp) ?_) | (refine aN ?_;  first | refine aH ?_ | refine aQ ?_ | refine aY ?_ | refine aT ?_ | refine aU ?_ | refine aA (b := true) rfl (fun _ => ?_) nTf | refine aA (b := false) rfl nFt (fun _ => ?_)) | (refine aK ?_;  first | refine aX ?_ | refine aR ?_) | (refine bA ?_;  first | refine bU ?_))
                all_goals first
                  | exact absurd rfl (by assumption)
                  | exact absurd (by assumption) h7
                  | (exfalso; omega)
                  | (refine aV (by first | exact .inl rfl | exact .inr rfl) (bD rfl (aC rfl) (aC rfl)) rfl ?_; rfl)
            · rw [if_pos h6] at hQ
              subst hQ
              generalize shiftP c (-1) i = B at *
              unfold exT at *
              refine aJ Tryz.func6 rfl rfl (nb rfl) rfl ?_
              repeat' (first | refine aG ?_ | (refine aI ?_;  first | refine aD tabOk rfl rfl rfl (nb rfl) rfl ?_ | (refine aM rfl rfl rfl (nb rfl) rfl rfl rfl (fun hq => ?_) (fun hq => ?_) <;> (first | (simp only [sD, sE, sB, sC, sN, sM, sT, sF] at hq; try (exfalso; omega)) | skip)) | refine aE rfl rfl (nb rfl) rfl rfl rfl rfl (c1) ?_ | refine aE rfl rfl (nb rfl) rfl rfl rfl rfl (c2) ?_ | refine aE rfl rfl (nb rfl) rfl rfl rfl rfl (c3) ?_ | refine aE rfl rfl (nb rfl) rfl rfl rfl rfl (c4) ?_) | (refine aN ?_;  first | refine aH ?_ | refine aQ ?_ | refine aY ?_ | refine aT ?_ | refine aU ?_ | refine aA (b := true) rfl (fun _ => ?_) nTf | refine aA (b := false) rfl nFt (fun _ => ?_)) | (refine aK ?_;  first | refine aX ?_ | refine aR ?_) | (refine bA ?_;  first | refine bU ?_))
              all_goals first
                | exact absurd rfl (by assumption)
                | exact absurd (by assumption) h6
                | (exfalso; omega)
                | (refine aV (by first | exact .inl rfl | exact .inr rfl) (bD rfl (aC rfl) (aC rfl)) rfl ?_; rfl)
      · rw [if_pos h3] at hQ
        subst hQ
        obtain ⟨k, m, a, b, kids, rfl⟩ := cF (bK h1).1
        have h3 : ¬ k = 164 := h3
        refine aJ Tryz.func6 rfl rfl (nb rfl) rfl ?_
        repeat' (first | refine aG ?_ | (refine aI ?_;  first | refine aD tabOk rfl rfl rfl (nb rfl) rfl ?_ | (refine aM rfl rfl rfl (nb rfl) rfl rfl rfl (fun hq => ?_) (fun hq => ?_) <;> (first | (simp only [sD, sE, sB, sC, sN, sM, sT, sF] at hq; try (exfalso; omega)) | skip)) | refine aE rfl rfl (nb rfl) rfl rfl rfl rfl (c1) ?_ | refine aE rfl rfl (nb rfl) rfl rfl rfl rfl (c2) ?_) | (refine aN ?_;  first | refine aH ?_ | refine aQ ?_ | refine aY ?_ | refine aT ?_ | refine aU ?_ | refine aA (b := true) rfl (fun _ => ?_) nTf | refine aA (b := false) rfl nFt (fun _ => ?_)) | (refine aK ?_;  first | refine aX ?_ | refine aR ?_) | (refine bA ?_;  first | refine bF ?_))
        all_goals first
          | exact absurd rfl (by assumption)
          | exact absurd (by assumption) h3
          | (refine aV (by first | exact .inl rfl | exact .inr rfl) (bD rfl (aC rfl) (aC rfl)) rfl ?_; rfl)
    · rw [if_pos h2] at hQ
      subst hQ
      generalize checkP isConP c = C at *
      refine aJ Tryz.func6 rfl rfl (nb rfl) rfl ?_
      repeat' (first | refine aG ?_ | (refine aI ?_;  first | refine aD tabOk rfl rfl rfl (nb rfl) rfl ?_ | (refine aM rfl rfl rfl (nb rfl) rfl rfl rfl (fun hq => ?_) (fun hq => ?_) <;> (first | (simp only [sD, sE, sB, sC, sN, sM, sT, sF] at hq; try (exfalso; omega)) | skip)) | refine aE rfl rfl (nb rfl) rfl rfl rfl rfl (c1) ?_ | refine aE rfl rfl (nb rfl) rfl rfl rfl rfl (c2) ?_) | (refine aN ?_;  first | refine aH ?_ | refine aQ ?_ | refine aT ?_ | refine aU ?_ | refine aA (b := true) rfl (fun _ => ?_) nTf | refine aA (b := false) rfl nFt (fun _ => ?_)) | (refine aK ?_;  first | refine aX ?_ | refine aR ?_))
      all_goals first
        | exact absurd rfl (by assumption)
        | exact absurd (by assumption) h2
        | (refine aV (by first | exact .inl rfl | exact .inr rfl) (bD rfl (aC rfl) (aC rfl)) rfl ?_; rfl)
  · rw [if_pos h1] at hQ
    subst hQ
    generalize checkP sformP n = C at *
    refine aJ Tryz.func6 rfl rfl (nb rfl) rfl ?_
    repeat' (first | refine aG ?_ | (refine aI ?_;  first | refine aD tabOk rfl rfl rfl (nb rfl) rfl ?_ | (refine aM rfl rfl rfl (nb rfl) rfl rfl rfl (fun hq => ?_) (fun hq => ?_) <;> (first | (simp only [sD, sE, sB, sC, sN, sM, sT, sF] at hq; try (exfalso; omega)) | skip)) | refine aE rfl rfl (nb rfl) rfl rfl rfl rfl (c1) ?_) | (refine aN ?_;  first | refine aH ?_ | refine aQ ?_ | refine aT ?_ | refine aA (b := true) rfl (fun _ => ?_) nTf) | (refine aK ?_;  first | refine aR ?_))
    all_goals first
      | exact absurd rfl (by assumption)
      | exact absurd (by assumption) h1
      | (refine aV (by first | exact .inl rfl | exact .inr rfl) (bD rfl (aC rfl) (aC rfl)) rfl ?_; rfl)
set_option maxHeartbeats 8000000 in
set_option maxRecDepth 10000 in
theorem at_a (N : Int) (s : Tree) (long : ByteArray) (hs : s.size ≤ 100000) (hw : s.whole = true) (hl : long.size ≤ 100000) :
    ACalls Tryz.prog 32 [.imm (exT N s).iv, .imm (.lit (.string long))] [] (.imm (.tup [(atE s long).1.iv, .lit (.int .i64 (atE s long).2)])) [] := by
  have c1 := At_a s ⟨#[116]⟩ long hs (by decide) hl
  obtain ⟨ps, hps⟩ := dT (dG hw)
  have hex := rZ N hps
  rw [hps] at c1
  unfold atE atK
  by_cases h1 : (sAtP s ⟨#[116]⟩ long).2 = 0
  · rw [if_neg (by simpa using h1)]
    obtain ⟨g1, g2, _, _⟩ := rY h1
    rw [h1] at c1
    generalize (sAtP s ⟨#[116]⟩ long).1 = R at *
    obtain ⟨k, m, a, b, kids, rfl⟩ := cF g2
    by_cases h2 : k = 161
    · subst h2
      rw [if_neg (by show ¬ ((161 : Int) ≠ 161); simp)]
      rcases eV g1 with ⟨_, x, rfl, hc⟩ | ⟨h3, _⟩
      · show ACalls _ _ _ _ (.imm (.tup [x.iv, .lit (.int .i64 0)])) _
        rw [hex]
        clear hex hps g1 g2 h1
        refine aJ Tryz.func32 rfl rfl (nb rfl) rfl ?_
        repeat' (first | refine aG ?_ | (refine aI ?_;  first | refine aD tabOk rfl rfl rfl (nb rfl) rfl ?_ | (refine aM rfl rfl rfl (nb rfl) rfl rfl rfl (fun hq => ?_) (fun hq => ?_) <;> (first | (simp only [sD, sE, sB, sC, sN, sM, sT, sF] at hq; try (exfalso; omega)) | skip)) | refine aE rfl rfl (nb rfl) rfl rfl rfl rfl (c1) ?_ | refine bN tabOk rfl rfl rfl (nb rfl) rfl rfl rfl rfl (by first | rfl | omega) (by first | omega | simp) ?_) | (refine aN ?_;  first | refine aH ?_ | refine aQ ?_ | refine aY ?_ | refine aT ?_ | refine aU ?_ | refine aA (b := false) rfl nFt (fun _ => ?_)) | (refine aK ?_;  first | refine aX ?_) | (refine bA ?_;  first | refine bU ?_))
        all_goals first
          | exact absurd rfl (by assumption)
          | (refine aV (by first | exact .inl rfl | exact .inr rfl) (bD rfl (aC rfl) (aC rfl)) rfl ?_; rfl)
      · omega
    · rw [if_pos (by show k ≠ 161; exact h2), hex]
      clear hex hps g1 g2 h1
      refine aJ Tryz.func32 rfl rfl (nb rfl) rfl ?_
      repeat' (first | refine aG ?_ | (refine aI ?_;  first | refine aD tabOk rfl rfl rfl (nb rfl) rfl ?_ | (refine aM rfl rfl rfl (nb rfl) rfl rfl rfl (fun hq => ?_) (fun hq => ?_) <;> (first | (simp only [sD, sE, sB, sC, sN, sM, sT, sF] at hq; try (exfalso; omega)) | skip)) | refine aE rfl rfl (nb rfl) rfl rfl rfl rfl (c1) ?_ | refine bN tabOk rfl rfl rfl (nb rfl) rfl rfl rfl rfl (by first | rfl | omega) (by first | omega | simp) ?_) | (refine aN ?_;  first | refine aH ?_ | refine aQ ?_ | refine aY ?_ | refine aT ?_ | refine aA (b := true) rfl (fun _ => ?_) nTf | refine aA (b := false) rfl nFt (fun _ => ?_)) | (refine aK ?_;  first | refine aR ?_) | (refine bA ?_;  first | refine bF ?_))
      all_goals first
        | exact absurd rfl (by assumption)
        | exact absurd (by assumption) h2
        | (refine aV (by first | exact .inl rfl | exact .inr rfl) (bD rfl (aC rfl) (aC rfl)) rfl ?_; rfl)
  · rw [if_pos h1, hex]
    generalize sAtP s ⟨#[116]⟩ long = R at *
    refine aJ Tryz.func32 rfl rfl (nb rfl) rfl ?_
    repeat' (first | refine aG ?_ | (refine aI ?_;  first | refine aD tabOk rfl rfl rfl (nb rfl) rfl ?_ | (refine aM rfl rfl rfl (nb rfl) rfl rfl rfl (fun hq => ?_) (fun hq => ?_) <;> (first | (simp only [sD, sE, sB, sC, sN, sM, sT, sF] at hq; try (exfalso; omega)) | skip)) | refine aE rfl rfl (nb rfl) rfl rfl rfl rfl (c1) ?_ | refine bN tabOk rfl rfl rfl (nb rfl) rfl rfl rfl rfl (by first | rfl | omega) (by first | omega | simp) ?_) | (refine aN ?_;  first | refine aH ?_ | refine aQ ?_ | refine aY ?_ | refine aT ?_ | refine aA (b := true) rfl (fun _ => ?_) nTf) | (refine aK ?_;  first | refine aR ?_) | (refine bA ?_;  first | refine bF ?_))
    all_goals first
      | exact absurd rfl (by assumption)
      | exact absurd (by assumption) h1
      | (refine aV (by first | exact .inl rfl | exact .inr rfl) (bD rfl (aC rfl) (aC rfl)) rfl ?_; rfl)
set_option maxHeartbeats 4000000 in
set_option maxRecDepth 10000 in
theorem sA (n x : Tree) (hn : n.whole = true) (hx : x.whole = true) : ACalls Tryz.prog 33 [.imm n.iv, .imm x.iv] [] (.imm (.lit (.bool (boundP n.num x)))) [] := by
  obtain ⟨k, m, a, b, kids, rfl⟩ := cF hn
  obtain ⟨k', m', a', b', kids', rfl⟩ := cF hx
  have e : boundP (Tree.node k m a b kids).num (.node k' m' a' b' kids') = (decide (k' = 110) && decide (m' < m)) := rfl
  rw [e]
  refine aJ Tryz.func33 rfl rfl (nb rfl) rfl ?_
  repeat' (first | refine aG ?_ | (refine aI ?_;  first | refine aD tabOk rfl rfl rfl (nb rfl) rfl ?_ | refine bE rfl rfl (nb rfl) ?_ | (refine aM rfl rfl rfl (nb rfl) rfl rfl rfl (fun hq => ?_) (fun hq => ?_) <;> (first | (simp only [sD, sE, sB, sC, sN, sM, sT, sF] at hq; try (exfalso; omega)) | skip))) | (refine aN ?_;  first | refine aH ?_ | refine aQ ?_ | refine aT ?_ | refine aW mixed (by kernel_rfl) ?_) | (refine aK ?_;  first | refine aX ?_) | refine bQ (bL (by kernel_rfl)) ?_)
  all_goals (refine aV (by first | exact .inl rfl | exact .inr rfl) (aZ rfl (aC rfl)) rfl ?_; refine cO ?_; simp_all <;> omega)
end Go.Proofs.YtdajnmffoopcaaaGreatDoor.Ab
namespace Go.Proofs.YtdajnmffoopcaaaGreatDoor.Ab
set_option linter.unusedVariables false
set_option linter.unusedSimpArgs false
open Go.RowKit Go.Proofs.YtdajnmffoopcaaaGreatDoor.RP
attribute [local irreducible] AWP AOps AExit AThen ABlock ANoGoto FeetOk
theorem uT {N : Int} {s : Tree} (h : checkP sformP (exT N s) = 0) : abstractP (exT N s) = 0 := by
  unfold abstractP
  rw [if_neg (by simpa using h), if_neg (by show ¬ ((164 : Int) ≠ 164); simp)]
set_option maxHeartbeats 16000000 in
set_option maxRecDepth 10000 in
theorem xS (n : Tree) (long : ByteArray) (c : Tree) (hn : n.size ≤ 100000) (hl : long.size ≤ 100000) (hcs : c.size ≤ 100000) (hm : n.size * c.size ≤ 1000000) :
    ACalls Tryz.prog 11 [.imm n.iv, .imm (.lit (.string long)), .imm c.iv] [] (.imm (.tup [(whereP n long c).1.iv, .lit (.int .i64 (whereP n long c).2)])) [] := by
  have c1 := fA n (by omega)
  have c2 := eM c (by omega)
  have c3 := pK n (by omega)
  obtain ⟨Q, hQ⟩ : ∃ Q, whereP n long c = Q := ⟨_, rfl⟩
  rw [hQ]
  unfold whereP at hQ
  by_cases h1 : checkP sformP n = 0
  · rw [if_neg (by simpa using h1)] at hQ
    rw [h1] at c1
    by_cases h2 : checkP isConP c = 0
    · rw [if_neg (by simpa using h2)] at hQ
      rw [h2] at c2
      by_cases h3 : n.kind = 164
      · rw [if_neg (by simpa using h3)] at hQ
        obtain ⟨N, s, rfl, n0, n1, hs, hw, hz⟩ := mT h1 h3
        have hwn := (bK h1).1
        have ek : kid0 (exT N s) = s := rfl
        have en : (exT N s).num = N := rfl
        rw [ek, en] at hQ
        rw [uT h1] at c3
        have c4 := at_a N s long (by omega) hw hl
        have c5 := nG c N 0 (by omega)
        have hXok := @mA s long
        unfold where1 at hQ
        rw [en] at hQ
        generalize atE s long = X at *
        obtain ⟨X1, X2⟩ := X
        dsimp only at hQ c4 hXok
        by_cases hX : X2 = 0
        · subst hX
          rw [if_neg (by simp)] at hQ
          obtain ⟨x0, _, _, _⟩ := hXok rfl
          have hxw := (bK x0).1
          have hxz := (bK x0).2.1
          by_cases hY : (shiftP c N 0).2 = 0
          · rw [if_neg (by simpa using hY)] at hQ
            obtain ⟨y1, y2, y3, y4⟩ := lM h2 (Int.le_refl 0) hY
            rw [hY] at c5
            have hyz : (shiftP c N 0).1.size = c.size := by rw [y2]; exact y4
            have hyw : (shiftP c N 0).1.whole = true := by rw [y2]; exact (bK y3).1
            generalize (shiftP c N 0).1 = Y at *
            have c6 := sA (exT N s) X1 hwn hxw
            rw [en] at c6
            by_cases hb : boundP N X1 = true
            · rw [if_pos hb] at hQ
              rw [hb] at c6
              obtain ⟨i, rfl, i0, i1, i2⟩ := fP x0 hb
              have enum : (varT i).num = i := rfl
              rw [enum] at hQ
              have c7 := nM (exT N s) i Y (by omega) (by omega) (by rw [hyz]; exact hm)
              rw [hQ] at c7
              clear hQ hXok x0 hxw hxz hY y1 y2 y3 y4 hyz hyw h1 h2 h3 ek en hwn hb hm hz hn
              unfold exT varT at *
              obtain ⟨Q1, Q2⟩ := Q
              dsimp only at *
              refine aJ Tryz.func11 rfl rfl (nb rfl) rfl ?_
              repeat' (first | refine aG ?_ | (refine aI ?_;  first | refine aD tabOk rfl rfl rfl (nb rfl) rfl ?_ | (refine aM rfl rfl rfl (nb rfl) rfl rfl rfl (fun hq => ?_) (fun hq => ?_) <;> (first | (simp only [sD, sE, sB, sC, sN, sM, sT, sF] at hq; try (exfalso; omega)) | skip)) | refine aE rfl rfl (nb rfl) rfl rfl rfl rfl (c1) ?_ | refine aE rfl rfl (nb rfl) rfl rfl rfl rfl (c2) ?_ | refine aE rfl rfl (nb rfl) rfl rfl rfl rfl (c3) ?_ | refine aE rfl rfl (nb rfl) rfl rfl rfl rfl (c4) ?_ | refine aE rfl rfl (nb rfl) rfl rfl rfl rfl (c5) ?_ | refine aE rfl rfl (nb rfl) rfl rfl rfl rfl (c6) ?_ | refine aE rfl rfl (nb rfl) rfl rfl rfl rfl (c7) ?_) | (refine aN ?_;  first | refine aH ?_ | refine aQ ?_ | refine aY ?_ | refine aT ?_ | refine aU ?_ | refine aA (b := true) rfl (fun _ => ?_) nTf | refine aA (b := false) rfl nFt (fun _ => ?_)) | (refine aK ?_;  first | refine aX ?_ | refine aR ?_) | (refine bA ?_;  first | refine bF ?_))
              all_goals first
                | exact absurd rfl (by assumption)
                | (exfalso; omega)
                | (refine aV (by first | exact .inl rfl | exact .inr rfl) (bD rfl (aC rfl) (aC rfl)) rfl ?_; rfl)
            · rw [if_neg hb] at hQ
              have hb : boundP N X1 = false := by simpa using hb
              rw [hb] at c6
              have c7 := aAx X1 Y (.inr hxw) (.inr hyw) (by omega) (by omega)
              by_cases hsm : sameP X1 Y = true
              · rw [if_pos hsm] at hQ
                rw [hsm] at c7
                subst hQ
                obtain ⟨ps, hps⟩ := dT (dG hw)
                clear hXok x0 hxw hxz hY y1 y2 y3 y4 hyz hyw h1 h2 h3 ek en hwn hb hm hz hn hsm
                unfold exT at *
                dsimp only at *
                refine aJ Tryz.func11 rfl rfl (nb rfl) rfl ?_
                repeat' (first | refine aG ?_ | (refine aI ?_;  first | refine aD tabOk rfl rfl rfl (nb rfl) rfl ?_ | (refine aM rfl rfl rfl (nb rfl) rfl rfl rfl (fun hq => ?_) (fun hq => ?_) <;> (first | (simp only [sD, sE, sB, sC, sN, sM, sT, sF] at hq; try (exfalso; omega)) | skip)) | refine aE rfl rfl (nb rfl) rfl rfl rfl rfl (c1) ?_ | refine aE rfl rfl (nb rfl) rfl rfl rfl rfl (c2) ?_ | refine aE rfl rfl (nb rfl) rfl rfl rfl rfl (c3) ?_ | refine aE rfl rfl (nb rfl) rfl rfl rfl rfl (c4) ?_ | refine aE rfl rfl (nb rfl) rfl rfl rfl rfl (c5) ?_ | refine aE rfl rfl (nb rfl) rfl rfl rfl rfl (c6) ?_ | refine aE rfl rfl (nb rfl) rfl rfl rfl rfl (c7) ?_) | (refine aN ?_;  first | refine aH ?_ | refine aQ ?_ | refine aY ?_ | refine aT ?_ | refine aU ?_ | refine aA (b := false) rfl nFt (fun _ => ?_)) | (refine aK ?_;  first | refine aX ?_) | (refine bA ?_;  first | refine bU ?_))
                all_goals first
                  | exact absurd rfl (by assumption)
                  | (exfalso; omega)
                  | (refine aV (by first | exact .inl rfl | exact .inr rfl) (bD rfl (aC rfl) (aC rfl)) rfl ?_; rfl)
              · rw [if_neg hsm] at hQ
                have hsm : sameP X1 Y = false := by simpa using hsm
                rw [hsm] at c7
                subst hQ
                clear hXok x0 hxw hxz hY y1 y2 y3 y4 hyz hyw h1 h2 h3 ek en hwn hb hm hz hn hsm
                unfold exT at *
                dsimp only at *
                refine aJ Tryz.func11 rfl rfl (nb rfl) rfl ?_
                repeat' (first | refine aG ?_ | (refine aI ?_;  first | refine aD tabOk rfl rfl rfl (nb rfl) rfl ?_ | (refine aM rfl rfl rfl (nb rfl) rfl rfl rfl (fun hq => ?_) (fun hq => ?_) <;> (first | (simp only [sD, sE, sB, sC, sN, sM, sT, sF] at hq; try (exfalso; omega)) | skip)) | refine aE rfl rfl (nb rfl) rfl rfl rfl rfl (c1) ?_ | refine aE rfl rfl (nb rfl) rfl rfl rfl rfl (c2) ?_ | refine aE rfl rfl (nb rfl) rfl rfl rfl rfl (c3) ?_ | refine aE rfl rfl (nb rfl) rfl rfl rfl rfl (c4) ?_ | refine aE rfl rfl (nb rfl) rfl rfl rfl rfl (c5) ?_ | refine aE rfl rfl (nb rfl) rfl rfl rfl rfl (c6) ?_ | refine aE rfl rfl (nb rfl) rfl rfl rfl rfl (c7) ?_) | (refine aN ?_;  first | refine aH ?_ | refine aQ ?_ | refine aY ?_ | refine aT ?_ | refine aU ?_ | refine aA (b := true) rfl (fun _ => ?_) nTf | refine aA (b := false) rfl nFt (fun _ => ?_)) | (refine aK ?_;  first | refine aX ?_ | refine aR ?_) | (refine bA ?_;  first | refine bF ?_))
                all_goals first
                  | exact absurd rfl (by assumption)
                  | (exfalso; omega)
                  | (refine aV (by first | exact .inl rfl | exact .inr rfl) (bD rfl (aC rfl) (aC rfl)) rfl ?_; rfl)
          · rw [if_pos hY] at hQ
            subst hQ
            generalize shiftP c N 0 = Y at *
            clear hXok x0 hxw hxz h1 h2 h3 ek en hwn hm hz hn
            unfold exT at *
            refine aJ Tryz.func11 rfl rfl (nb rfl) rfl ?_
            repeat' (first | refine aG ?_ | (refine aI ?_;  first | refine aD tabOk rfl rfl rfl (nb rfl) rfl ?_ | (refine aM rfl rfl rfl (nb rfl) rfl rfl rfl (fun hq => ?_) (fun hq => ?_) <;> (first | (simp only [sD, sE, sB, sC, sN, sM, sT, sF] at hq; try (exfalso; omega)) | skip)) | refine aE rfl rfl (nb rfl) rfl rfl rfl rfl (c1) ?_ | refine aE rfl rfl (nb rfl) rfl rfl rfl rfl (c2) ?_ | refine aE rfl rfl (nb rfl) rfl rfl rfl rfl (c3) ?_ | refine aE rfl rfl (nb rfl) rfl rfl rfl rfl (c4) ?_ | refine aE rfl rfl (nb rfl) rfl rfl rfl rfl (c5) ?_) | (refine aN ?_;  first | refine aH ?_ | refine aQ ?_ | refine aY ?_ | refine aT ?_ | refine aU ?_ | refine aA (b := true) rfl (fun _ => ?_) nTf | refine aA (b := false) rfl nFt (fun _ => ?_)) | (refine aK ?_;  first | refine aX ?_ | refine aR ?_) | (refine bA ?_;  first | refine bF ?_))
            all_goals first
              | exact absurd rfl (by assumption)
              | exact absurd (by assumption) hY
              | (exfalso; omega)
              | (refine aV (by first | exact .inl rfl | exact .inr rfl) (bD rfl (aC rfl) (aC rfl)) rfl ?_; rfl)
        · rw [if_pos hX] at hQ
          subst hQ
          clear hXok h1 h2 h3 ek en hwn hm hz hn
          unfold exT at *
          refine aJ Tryz.func11 rfl rfl (nb rfl) rfl ?_
          repeat' (first | refine aG ?_ | (refine aI ?_;  first | refine aD tabOk rfl rfl rfl (nb rfl) rfl ?_ | (refine aM rfl rfl rfl (nb rfl) rfl rfl rfl (fun hq => ?_) (fun hq => ?_) <;> (first | (simp only [sD, sE, sB, sC, sN, sM, sT, sF] at hq; try (exfalso; omega)) | skip)) | refine aE rfl rfl (nb rfl) rfl rfl rfl rfl (c1) ?_ | refine aE rfl rfl (nb rfl) rfl rfl rfl rfl (c2) ?_ | refine aE rfl rfl (nb rfl) rfl rfl rfl rfl (c3) ?_ | refine aE rfl rfl (nb rfl) rfl rfl rfl rfl (c4) ?_) | (refine aN ?_;  first | refine aH ?_ | refine aQ ?_ | refine aT ?_ | refine aU ?_ | refine aA (b := true) rfl (fun _ => ?_) nTf | refine aA (b := false) rfl nFt (fun _ => ?_)) | (refine aK ?_;  first | refine aX ?_ | refine aR ?_))
          all_goals first
            | exact absurd rfl (by assumption)
            | exact absurd (by assumption) hX
            | (exfalso; omega)
            | (refine aV (by first | exact .inl rfl | exact .inr rfl) (bD rfl (aC rfl) (aC rfl)) rfl ?_; rfl)
      · rw [if_pos h3] at hQ
        subst hQ
        have ha : abstractP n = 16 := by unfold abstractP; rw [if_neg (by simpa using h1), if_pos h3]
        rw [ha] at c3
        clear hm
        refine aJ Tryz.func11 rfl rfl (nb rfl) rfl ?_
        repeat' (first | refine aG ?_ | (refine aI ?_;  first | refine aD tabOk rfl rfl rfl (nb rfl) rfl ?_ | (refine aM rfl rfl rfl (nb rfl) rfl rfl rfl (fun hq => ?_) (fun hq => ?_) <;> (first | (simp only [sD, sE, sB, sC, sN, sM, sT, sF] at hq; try (exfalso; omega)) | skip)) | refine aE rfl rfl (nb rfl) rfl rfl rfl rfl (c1) ?_ | refine aE rfl rfl (nb rfl) rfl rfl rfl rfl (c2) ?_ | refine aE rfl rfl (nb rfl) rfl rfl rfl rfl (c3) ?_) | (refine aN ?_;  first | refine aH ?_ | refine aQ ?_ | refine aT ?_ | refine aU ?_ | refine aA (b := true) rfl (fun _ => ?_) nTf | refine aA (b := false) rfl nFt (fun _ => ?_)) | (refine aK ?_;  first | refine aX ?_ | refine aR ?_))
        all_goals first
          | exact absurd rfl (by assumption)
          | (refine aV (by first | exact .inl rfl | exact .inr rfl) (bD rfl (aC rfl) (aC rfl)) rfl ?_; rfl)
    · rw [if_pos h2] at hQ
      subst hQ
      clear hm c3
      generalize checkP isConP c = C at *
      refine aJ Tryz.func11 rfl rfl (nb rfl) rfl ?_
      repeat' (first | refine aG ?_ | (refine aI ?_;  first | refine aD tabOk rfl rfl rfl (nb rfl) rfl ?_ | (refine aM rfl rfl rfl (nb rfl) rfl rfl rfl (fun hq => ?_) (fun hq => ?_) <;> (first | (simp only [sD, sE, sB, sC, sN, sM, sT, sF] at hq; try (exfalso; omega)) | skip)) | refine aE rfl rfl (nb rfl) rfl rfl rfl rfl (c1) ?_ | refine aE rfl rfl (nb rfl) rfl rfl rfl rfl (c2) ?_) | (refine aN ?_;  first | refine aH ?_ | refine aQ ?_ | refine aT ?_ | refine aU ?_ | refine aA (b := true) rfl (fun _ => ?_) nTf | refine aA (b := false) rfl nFt (fun _ => ?_)) | (refine aK ?_;  first | refine aX ?_ | refine aR ?_))
      all_goals first
        | exact absurd rfl (by assumption)
        | exact absurd (by assumption) h2
        | (refine aV (by first | exact .inl rfl | exact .inr rfl) (bD rfl (aC rfl) (aC rfl)) rfl ?_; rfl)
  · rw [if_pos h1] at hQ
    subst hQ
    clear hm c3
    generalize checkP sformP n = C at *
    refine aJ Tryz.func11 rfl rfl (nb rfl) rfl ?_
    repeat' (first | refine aG ?_ | (refine aI ?_;  first | refine aD tabOk rfl rfl rfl (nb rfl) rfl ?_ | (refine aM rfl rfl rfl (nb rfl) rfl rfl rfl (fun hq => ?_) (fun hq => ?_) <;> (first | (simp only [sD, sE, sB, sC, sN, sM, sT, sF] at hq; try (exfalso; omega)) | skip)) | refine aE rfl rfl (nb rfl) rfl rfl rfl rfl (c1) ?_) | (refine aN ?_;  first | refine aH ?_ | refine aQ ?_ | refine aT ?_ | refine aA (b := true) rfl (fun _ => ?_) nTf) | (refine aK ?_;  first | refine aR ?_))
    all_goals first
      | exact absurd rfl (by assumption)
      | exact absurd (by assumption) h1
      | (refine aV (by first | exact .inl rfl | exact .inr rfl) (bD rfl (aC rfl) (aC rfl)) rfl ?_; rfl)
def knownT (N : Int) (c : Tree) : Tree := exT N (.node 162 0 emptyB emptyB [.node 163 0 ⟨#[116, 58, 116]⟩ emptyB [.node 161 0 emptyB emptyB [c]]])
set_option maxHeartbeats 4000000 in
set_option maxRecDepth 10000 in
theorem xT (N : Int) (pc : List IV) : ACalls Tryz.prog 29 [.imm (.lit (.int .i64 N)), .imm (.ptr pc 0)] [] (.imm (.ptr [.lit (.int .i64 164), .lit (.int .i64 N), .lit (.string ⟨#[]⟩), .lit (.string ⟨#[]⟩), .sl false 1 [.ptr pc 0]] 0)) [] := by
  refine aJ Tryz.func29 rfl rfl (nb rfl) rfl ?_
  repeat' (first | refine aG ?_ | (refine aI ?_;  first | refine aD tabOk rfl rfl rfl (nb rfl) rfl ?_ | refine cH tabOk rfl rfl rfl (nb rfl) rfl rfl rfl rfl rfl rfl rfl rfl rfl ?_ | refine bB tabOk rfl rfl (nb rfl) rfl ?_) | (refine aN ?_;  first | refine aH ?_ | refine aT ?_))
  all_goals (refine aV (by first | exact .inl rfl | exact .inr rfl) (aZ rfl (aC rfl)) rfl ?_; rfl)
set_option maxHeartbeats 4000000 in
set_option maxRecDepth 10000 in
theorem xU (N : Int) (c : Tree) (hc : c.whole = true) : ACalls Tryz.prog 30 [.imm (.lit (.int .i64 N)), .imm c.iv] [] (.imm (knownT N c).iv) [] := by
  obtain ⟨pc, hpc⟩ := dT (dG hc)
  have e : (knownT N c).iv = .ptr [.lit (.int .i64 164), .lit (.int .i64 N), .lit (.string ⟨#[]⟩), .lit (.string ⟨#[]⟩), .sl false 1 [.ptr [.lit (.int .i64 162), .lit (.int .i64 0), .lit (.string ⟨#[]⟩), .lit (.string ⟨#[]⟩), .sl false 1 [.ptr [.lit (.int .i64 163), .lit (.int .i64 0), .lit (.string ⟨#[116, 58, 116]⟩), .lit (.string ⟨#[]⟩), .sl false 1 [.ptr [.lit (.int .i64 161), .lit (.int .i64 0), .lit (.string ⟨#[]⟩), .lit (.string ⟨#[]⟩), .sl false 1 [.ptr pc 0]] 0]] 0]] 0]] 0 := by
    unfold knownT exT
    simp only [Tree.iv, Tree.ivs, hpc]
    rfl
  rw [e, hpc]
  refine aJ Tryz.func30 rfl rfl (nb rfl) rfl ?_
  repeat' (first | refine aG ?_ | (refine aI ?_;  first | refine aD tabOk rfl rfl rfl (nb rfl) rfl ?_ | refine aE rfl rfl (nb rfl) rfl rfl rfl rfl ((xT _ _)) ?_ | refine cH tabOk rfl rfl rfl (nb rfl) rfl rfl rfl rfl rfl rfl rfl rfl rfl ?_ | refine bB tabOk rfl rfl (nb rfl) rfl ?_) | (refine aN ?_;  first | refine aH ?_ | refine aT ?_))
  all_goals (refine aV (by first | exact .inl rfl | exact .inr rfl) (aZ rfl (aC rfl)) rfl ?_; rfl)
def intT : Tree := .node 111 0 emptyB emptyB []
theorem wV : whereP (knownT 1 (varT 0)) ⟨#[116]⟩ intT = (knownT 0 intT, 0) := by decide +kernel
set_option maxHeartbeats 4000000 in
set_option maxRecDepth 10000 in
theorem qT : ACalls Tryz.prog 9 [] [] (.imm (.lit (.bool true))) [] := by
  have c1 := xU 1 (varT 0) rfl
  have c2 := xU 0 intT rfl
  have c3 := xS (knownT 1 (varT 0)) ⟨#[116]⟩ intT (by decide) (by decide) (by decide) (by decide)
  rw [wV] at c3
  have c4 := iJ (knownT 0 intT) (knownT 0 intT) (.inr rfl) (.inr rfl) (by decide) (by decide)
  rw [(gZ _ _).2 rfl] at c4
  dsimp only at c3
  generalize (knownT 1 (varT 0)).iv = K1 at *
  generalize (knownT 0 intT).iv = K0 at *
  unfold varT intT at *
  refine aJ Tryz.func9 rfl rfl (nb rfl) rfl ?_
  repeat' (first | refine aG ?_ | (refine aI ?_;  first | refine aD tabOk rfl rfl rfl (nb rfl) rfl ?_ | (refine aM rfl rfl rfl (nb rfl) rfl rfl rfl (fun hq => ?_) (fun hq => ?_) <;> (first | (simp only [sD, sE, sB, sC, sN, sM, sT, sF] at hq; try (exfalso; omega)) | skip)) | refine aE rfl rfl (nb rfl) rfl rfl rfl rfl (c1) ?_ | refine aE rfl rfl (nb rfl) rfl rfl rfl rfl (c2) ?_ | refine aE rfl rfl (nb rfl) rfl rfl rfl rfl (c3) ?_ | refine aE rfl rfl (nb rfl) rfl rfl rfl rfl (c4) ?_ | refine bB tabOk rfl rfl (nb rfl) rfl ?_) | (refine aN ?_;  first | refine aH ?_ | refine aT ?_))
  all_goals first
    | exact cL (by first | exact .inl rfl | exact .inr rfl) (aZ rfl (aC rfl)) rfl
    | exact absurd rfl (by assumption)
    | (exfalso; omega)
theorem aBt (n K : Nat) : (if (K : Int) < (n : Int) then (K : Int) else (n : Int)) = ((min n K : Nat) : Int) := by split <;> omega
def few20 (s : ByteArray) : ByteArray := s.extract 0 (min s.size 140)
theorem pL (s : ByteArray) : (few20 s).size ≤ 140 := by unfold few20; rw [ByteArray.size_extract]; omega
set_option maxHeartbeats 4000000 in
set_option maxRecDepth 10000 in
theorem xV (s : ByteArray) : ACalls Tryz.prog 10 [.imm (.lit (.string s))] [] (.imm (.lit (.string (few20 s)))) [] := by
  refine aJ Tryz.func10 rfl rfl (nb rfl) rfl ?_
  repeat' (first | refine aG ?_ | (refine aI ?_;  first | refine aD tabOk rfl rfl rfl (nb rfl) rfl ?_ | refine fW rfl rfl rfl (nb rfl) rfl rfl (aBt s.size 140) ?_ | refine fV tabOk rfl rfl rfl (nb rfl) rfl rfl rfl rfl (by omega) (by omega) rfl ?_ | refine bB tabOk rfl rfl (nb rfl) rfl ?_) | (refine aN ?_;  first | refine aH ?_ | refine aT ?_))
  exact cL (by first | exact .inl rfl | exact .inr rfl) (aZ rfl (aC rfl)) rfl
theorem iO {n : Tree} {i : Int} {c : Tree} (h : (solveP n i c).2 ≠ 0) : (solveP n i c).1 = .nil := by
  unfold solveP at h ⊢
  split
  · rfl
  · rename_i h1
    rw [if_neg h1] at h
    split
    · rfl
    · rename_i h2
      rw [if_neg h2] at h
      split
      · rfl
      · rename_i h3
        rw [if_neg h3] at h
        unfold solve1 at h ⊢
        split
        · rfl
        · rename_i h4
          rw [if_neg h4] at h
          split
          · rfl
          · rename_i h5
            rw [if_neg h5] at h
            unfold solve2 at h ⊢
            split
            · rfl
            · rename_i h6
              rw [if_neg h6] at h
              unfold solve3 at h ⊢
              split
              · rfl
              · rename_i h7
                rw [if_neg h7] at h
                split
                · rfl
                · rename_i h8; rw [if_neg h8] at h; exact absurd rfl h
theorem wW {n : Tree} {long : ByteArray} {c : Tree} (h : (whereP n long c).2 ≠ 0) : (whereP n long c).1 = .nil := by
  unfold whereP at h ⊢
  split
  · rfl
  · rename_i h1
    rw [if_neg h1] at h
    split
    · rfl
    · rename_i h2
      rw [if_neg h2] at h
      split
      · rfl
      · rename_i h3
        rw [if_neg h3] at h
        unfold where1 at h ⊢
        split
        · rfl
        · rename_i h4
          rw [if_neg h4] at h
          split
          · rfl
          · rename_i h5
            rw [if_neg h5] at h
            split
            · rename_i h6; rw [if_pos h6] at h; exact iO h
            · rename_i h6
              rw [if_neg h6] at h
              split
              · rename_i h7; rw [if_pos h7] at h; exact absurd rfl h
              · rfl
end Go.Proofs.YtdajnmffoopcaaaGreatDoor.Ab
namespace Go.Proofs.YtdajnmffoopcaaaGreatDoor.Ab
set_option linter.unusedVariables false
set_option linter.unusedSimpArgs false
open Go.RowKit Go.Proofs.YtdajnmffoopcaaaGreatDoor.RP
attribute [local irreducible] AWP AOps AExit AThen ABlock ANoGoto FeetOk
set_option maxHeartbeats 16000000 in
set_option maxRecDepth 10000 in
theorem iP (n : Tree) (i : Int) (c : Tree) (hwn : n = .nil ∨ n.whole = true) (hn : n.size ≤ 65536) (hcs : c.size ≤ 100000) (hm : n.size * c.size ≤ 1000000) :
    ACalls Tryz.prog 7 [.imm n.iv, .imm (.lit (.int .i64 i)), .imm c.iv] [] (.imm (.tup [(solveP n i c).1.iv, .lit (.int .i64 (solveP n i c).2)])) [] := by
  have c1 := fB n hwn hn
  have c2 := eB c (by omega)
  obtain ⟨Q, hQ⟩ : ∃ Q, solveP n i c = Q := ⟨_, rfl⟩
  rw [hQ]
  unfold solveP at hQ
  by_cases h1 : checkP sformP n = 0
  · rw [if_neg (by simpa using h1)] at hQ
    rw [h1] at c1
    by_cases h2 : checkP isConP c = 0
    · rw [if_neg (by simpa using h2)] at hQ
      rw [h2] at c2
      by_cases h3 : n.kind = 164
      · rw [if_neg (by simpa using h3)] at hQ
        obtain ⟨N, s, rfl, n0, n1, hs, hw, hz⟩ := mT h1 h3
        have ek : kid0 (exT N s) = s := rfl
        have en : (exT N s).num = N := rfl
        rw [ek, en] at hQ
        unfold solve1 at hQ
        have hsc : checkP sformP s = 0 := by rw [fM sformP s hw (by omega), if_pos (by unfold sformP; rw [hs]; rfl)]
        by_cases h4 : i < 0 ∨ N ≤ i
        · rw [if_pos h4] at hQ
          subst hQ
          unfold exT at *
          refine aJ Tryz.func7 rfl rfl (nb rfl) rfl ?_
          repeat' (first | refine aG ?_ | (refine aI ?_;  first | refine aD tabOk rfl rfl rfl (nb rfl) rfl ?_ | refine bE rfl rfl (nb rfl) ?_ | (refine aM rfl rfl rfl (nb rfl) rfl rfl rfl (fun hq => ?_) (fun hq => ?_) <;> (first | (simp only [sD, sE, sB, sC, sN, sM, sT, sF] at hq; try (exfalso; omega)) | skip)) | refine aE rfl rfl (nb rfl) rfl rfl rfl rfl (c1) ?_ | refine aE rfl rfl (nb rfl) rfl rfl rfl rfl (c2) ?_) | (refine aN ?_;  first | refine aH ?_ | refine aQ ?_ | refine aT ?_ | refine aU ?_ | refine aA (b := true) rfl (fun _ => ?_) nTf | refine aA (b := false) rfl nFt (fun _ => ?_)) | (refine aK ?_;  first | refine aX ?_ | refine aR ?_))
          all_goals first
            | exact absurd rfl (by assumption)
            | (exfalso; omega)
            | (refine aV (by first | exact .inl rfl | exact .inr rfl) (bD rfl (aC rfl) (aC rfl)) rfl ?_; rfl)
        · rw [if_neg h4] at hQ
          have c3 := aAa c i (by omega)
          by_cases h5 : occP c i = true
          · rw [if_pos h5] at hQ
            subst hQ
            rw [h5] at c3
            unfold exT at *
            refine aJ Tryz.func7 rfl rfl (nb rfl) rfl ?_
            repeat' (first | refine aG ?_ | (refine aI ?_;  first | refine aD tabOk rfl rfl rfl (nb rfl) rfl ?_ | (refine aM rfl rfl rfl (nb rfl) rfl rfl rfl (fun hq => ?_) (fun hq => ?_) <;> (first | (simp only [sD, sE, sB, sC, sN, sM, sT, sF] at hq; try (exfalso; omega)) | skip)) | refine aE rfl rfl (nb rfl) rfl rfl rfl rfl (c1) ?_ | refine aE rfl rfl (nb rfl) rfl rfl rfl rfl (c2) ?_ | refine aE rfl rfl (nb rfl) rfl rfl rfl rfl (c3) ?_) | (refine aN ?_;  first | refine aH ?_ | refine aQ ?_ | refine aT ?_ | refine aU ?_ | refine aA (b := true) rfl (fun _ => ?_) nTf | refine aA (b := false) rfl nFt (fun _ => ?_)) | (refine aK ?_;  first | refine aX ?_ | refine aR ?_))
            all_goals first
              | exact absurd rfl (by assumption)
              | (exfalso; omega)
              | (refine aV (by first | exact .inl rfl | exact .inr rfl) (bD rfl (aC rfl) (aC rfl)) rfl ?_; rfl)
          · rw [if_neg h5] at hQ
            have h5 : occP c i = false := by simpa using h5
            rw [h5] at c3
            have c4 := pI c (-1) i (by omega)
            unfold solve2 at hQ
            by_cases h6 : (shiftP c (-1) i).2 = 0
            · rw [if_neg (by simpa using h6)] at hQ
              obtain ⟨s1, s2, s3, s4⟩ := lM h2 (by omega : 0 ≤ i) h6
              have hle : (shiftP c (-1) i).1.size ≤ c.size := by rw [s2]; dsimp only; omega
              have hcB : checkP isConP (shiftP c (-1) i).1 = 0 := by rw [s2]; exact s3
              rw [h6] at c4
              generalize (shiftP c (-1) i).1 = B at *
              have hsm : (swalkP (ssubC i B) s 0).1.size ≤ 1000000 := by
                have q1 := xR i B s hsc hcB
                have q2 : s.size * B.size ≤ (exT N s).size * c.size := Nat.mul_le_mul (by omega) hle
                omega
              have c5 := wU s i B hs hw (by omega) hcB (by omega) hsm
              unfold solve3 at hQ
              by_cases h7 : (ssubstP s i B).2 = 0
              · rw [if_neg (by simpa using h7)] at hQ
                obtain ⟨_, _, _, _, _, g6, g7⟩ := kQ h7
                have c6 := aBm (ssubstP s i B).1 (.inr g6) g7
                rw [h7] at c5
                obtain ⟨px, hpx⟩ := dT (dG g6)
                generalize (ssubstP s i B).1 = S at *
                have c7 := xT (N - 1) px
                have hex := rZ (N - 1) hpx
                clear hle hcB hsm s1 s2 s3 s4 h6 h7 hsc hz hs hw hwn
                by_cases h8 : ssmallP S = 0
                · rw [if_neg (by simpa using h8)] at hQ
                  subst hQ
                  dsimp only
                  rw [hex]
                  rw [h8] at c6
                  rw [hpx] at c5 c6
                  unfold exT at *
                  refine aJ Tryz.func7 rfl rfl (nb rfl) rfl ?_
                  repeat' (first | refine aG ?_ | (refine aI ?_;  first | refine aD tabOk rfl rfl rfl (nb rfl) rfl ?_ | (refine aM rfl rfl rfl (nb rfl) rfl rfl rfl (fun hq => ?_) (fun hq => ?_) <;> (first | (simp only [sD, sE, sB, sC, sN, sM, sT, sF] at hq; try (exfalso; omega)) | skip)) | refine aE rfl rfl (nb rfl) rfl rfl rfl rfl (c1) ?_ | refine aE rfl rfl (nb rfl) rfl rfl rfl rfl (c2) ?_ | refine aE rfl rfl (nb rfl) rfl rfl rfl rfl (c3) ?_ | refine aE rfl rfl (nb rfl) rfl rfl rfl rfl (c4) ?_ | refine aE rfl rfl (nb rfl) rfl rfl rfl rfl (c5) ?_ | refine aE rfl rfl (nb rfl) rfl rfl rfl rfl (c6) ?_ | refine aE rfl rfl (nb rfl) rfl rfl rfl rfl (c7) ?_ | refine bV rfl rfl rfl (nb rfl) rfl rfl rfl (by omega) (by omega) ?_ | refine bN tabOk rfl rfl rfl (nb rfl) rfl rfl rfl rfl (by first | rfl | omega) (by first | omega | simp) ?_) | (refine aN ?_;  first | refine aH ?_ | refine aQ ?_ | refine aT ?_ | refine aU ?_ | refine aA (b := false) rfl nFt (fun _ => ?_)) | (refine aK ?_;  first | refine aX ?_))
                  all_goals first
                    | exact absurd rfl (by assumption)
                    | (exfalso; omega)
                    | (refine aV (by first | exact .inl rfl | exact .inr rfl) (bD rfl (aC rfl) (aC rfl)) rfl ?_; rfl)
                · rw [if_pos h8] at hQ
                  subst hQ
                  generalize ssmallP S = D at *
                  unfold exT at *
                  refine aJ Tryz.func7 rfl rfl (nb rfl) rfl ?_
                  repeat' (first | refine aG ?_ | (refine aI ?_;  first | refine aD tabOk rfl rfl rfl (nb rfl) rfl ?_ | (refine aM rfl rfl rfl (nb rfl) rfl rfl rfl (fun hq => ?_) (fun hq => ?_) <;> (first | (simp only [sD, sE, sB, sC, sN, sM, sT, sF] at hq; try (exfalso; omega)) | skip)) | refine aE rfl rfl (nb rfl) rfl rfl rfl rfl (c1) ?_ | refine aE rfl rfl (nb rfl) rfl rfl rfl rfl (c2) ?_ | refine aE rfl rfl (nb rfl) rfl rfl rfl rfl (c3) ?_ | refine aE rfl rfl (nb rfl) rfl rfl rfl rfl (c4) ?_ | refine aE rfl rfl (nb rfl) rfl rfl rfl rfl (c5) ?_ | refine aE rfl rfl (nb rfl) rfl rfl rfl rfl (c6) ?_ | refine bN tabOk rfl rfl rfl (nb rfl) rfl rfl rfl rfl (by first | rfl | omega) (by first | omega | simp) ?_) | (refine aN ?_;  first | refine aH ?_ | refine aQ ?_ | refine aT ?_ | refine aU ?_ | refine aA (b := true) rfl (fun _ => ?_) nTf | refine aA (b := false) rfl nFt (fun _ => ?_)) | (refine aK ?_;  first | refine aX ?_ | refine aR ?_))
                  all_goals first
                    | exact absurd rfl (by assumption)
                    | exact absurd (by assumption) h8
                    | (exfalso; omega)
                    | (refine aV (by first | exact .inl rfl | exact .inr rfl) (bD rfl (aC rfl) (aC rfl)) rfl ?_; rfl)
              · rw [if_pos h7] at hQ
                subst hQ
                generalize ssubstP s i B = S at *
                unfold exT at *
                refine aJ Tryz.func7 rfl rfl (nb rfl) rfl ?_
                repeat' (first | refine aG ?_ | (refine aI ?_;  first | refine aD tabOk rfl rfl rfl (nb rfl) rfl ?_ | (refine aM rfl rfl rfl (nb rfl) rfl rfl rfl (fun hq => ?_) (fun hq => ?_) <;> (first | (simp only [sD, sE, sB, sC, sN, sM, sT, sF] at hq; try (exfalso; omega)) | skip)) | refine aE rfl rfl (nb rfl) rfl rfl rfl rfl (c1) ?_ | refine aE rfl rfl (nb rfl) rfl rfl rfl rfl (c2) ?_ | refine aE rfl rfl (nb rfl) rfl rfl rfl rfl (c3) ?_ | refine aE rfl rfl (nb rfl) rfl rfl rfl rfl (c4) ?_ | refine aE rfl rfl (nb rfl) rfl rfl rfl rfl (c5) ?_ | refine bN tabOk rfl rfl rfl (nb rfl) rfl rfl rfl rfl (by first | rfl | omega) (by first | omega | simp) ?_) | (refine aN ?_;  first | refine aH ?_ | refine aQ ?_ | refine aT ?_ | refine aU ?_ | refine aA (b := true) rfl (fun _ => ?_) nTf | refine aA (b := false) rfl nFt (fun _ => ?_)) | (refine aK ?_;  first | refine aX ?_ | refine aR ?_))
                all_goals first
                  | exact absurd rfl (by assumption)
                  | exact absurd (by assumption) h7
                  | (exfalso; omega)
                  | (refine aV (by first | exact .inl rfl | exact .inr rfl) (bD rfl (aC rfl) (aC rfl)) rfl ?_; rfl)
            · rw [if_pos h6] at hQ
              subst hQ
              generalize shiftP c (-1) i = B at *
              unfold exT at *
              refine aJ Tryz.func7 rfl rfl (nb rfl) rfl ?_
              repeat' (first | refine aG ?_ | (refine aI ?_;  first | refine aD tabOk rfl rfl rfl (nb rfl) rfl ?_ | (refine aM rfl rfl rfl (nb rfl) rfl rfl rfl (fun hq => ?_) (fun hq => ?_) <;> (first | (simp only [sD, sE, sB, sC, sN, sM, sT, sF] at hq; try (exfalso; omega)) | skip)) | refine aE rfl rfl (nb rfl) rfl rfl rfl rfl (c1) ?_ | refine aE rfl rfl (nb rfl) rfl rfl rfl rfl (c2) ?_ | refine aE rfl rfl (nb rfl) rfl rfl rfl rfl (c3) ?_ | refine aE rfl rfl (nb rfl) rfl rfl rfl rfl (c4) ?_) | (refine aN ?_;  first | refine aH ?_ | refine aQ ?_ | refine aT ?_ | refine aU ?_ | refine aA (b := true) rfl (fun _ => ?_) nTf | refine aA (b := false) rfl nFt (fun _ => ?_)) | (refine aK ?_;  first | refine aX ?_ | refine aR ?_))
              all_goals first
                | exact absurd rfl (by assumption)
                | exact absurd (by assumption) h6
                | (exfalso; omega)
                | (refine aV (by first | exact .inl rfl | exact .inr rfl) (bD rfl (aC rfl) (aC rfl)) rfl ?_; rfl)
      · rw [if_pos h3] at hQ
        subst hQ
        obtain ⟨k, m, a, b, kids, rfl⟩ := cF (bK h1).1
        have h3 : ¬ k = 164 := h3
        refine aJ Tryz.func7 rfl rfl (nb rfl) rfl ?_
        repeat' (first | refine aG ?_ | (refine aI ?_;  first | refine aD tabOk rfl rfl rfl (nb rfl) rfl ?_ | (refine aM rfl rfl rfl (nb rfl) rfl rfl rfl (fun hq => ?_) (fun hq => ?_) <;> (first | (simp only [sD, sE, sB, sC, sN, sM, sT, sF] at hq; try (exfalso; omega)) | skip)) | refine aE rfl rfl (nb rfl) rfl rfl rfl rfl (c1) ?_ | refine aE rfl rfl (nb rfl) rfl rfl rfl rfl (c2) ?_) | (refine aN ?_;  first | refine aH ?_ | refine aQ ?_ | refine aT ?_ | refine aU ?_ | refine aA (b := true) rfl (fun _ => ?_) nTf | refine aA (b := false) rfl nFt (fun _ => ?_)) | (refine aK ?_;  first | refine aX ?_ | refine aR ?_))
        all_goals first
          | exact absurd rfl (by assumption)
          | exact absurd (by assumption) h3
          | (refine aV (by first | exact .inl rfl | exact .inr rfl) (bD rfl (aC rfl) (aC rfl)) rfl ?_; rfl)
    · rw [if_pos h2] at hQ
      subst hQ
      generalize checkP isConP c = C at *
      refine aJ Tryz.func7 rfl rfl (nb rfl) rfl ?_
      repeat' (first | refine aG ?_ | (refine aI ?_;  first | refine aD tabOk rfl rfl rfl (nb rfl) rfl ?_ | (refine aM rfl rfl rfl (nb rfl) rfl rfl rfl (fun hq => ?_) (fun hq => ?_) <;> (first | (simp only [sD, sE, sB, sC, sN, sM, sT, sF] at hq; try (exfalso; omega)) | skip)) | refine aE rfl rfl (nb rfl) rfl rfl rfl rfl (c1) ?_ | refine aE rfl rfl (nb rfl) rfl rfl rfl rfl (c2) ?_) | (refine aN ?_;  first | refine aH ?_ | refine aQ ?_ | refine aT ?_ | refine aU ?_ | refine aA (b := true) rfl (fun _ => ?_) nTf | refine aA (b := false) rfl nFt (fun _ => ?_)) | (refine aK ?_;  first | refine aX ?_ | refine aR ?_))
      all_goals first
        | exact absurd rfl (by assumption)
        | exact absurd (by assumption) h2
        | (refine aV (by first | exact .inl rfl | exact .inr rfl) (bD rfl (aC rfl) (aC rfl)) rfl ?_; rfl)
  · rw [if_pos h1] at hQ
    subst hQ
    generalize checkP sformP n = C at *
    refine aJ Tryz.func7 rfl rfl (nb rfl) rfl ?_
    repeat' (first | refine aG ?_ | (refine aI ?_;  first | refine aD tabOk rfl rfl rfl (nb rfl) rfl ?_ | (refine aM rfl rfl rfl (nb rfl) rfl rfl rfl (fun hq => ?_) (fun hq => ?_) <;> (first | (simp only [sD, sE, sB, sC, sN, sM, sT, sF] at hq; try (exfalso; omega)) | skip)) | refine aE rfl rfl (nb rfl) rfl rfl rfl rfl (c1) ?_) | (refine aN ?_;  first | refine aH ?_ | refine aQ ?_ | refine aT ?_ | refine aA (b := true) rfl (fun _ => ?_) nTf) | (refine aK ?_;  first | refine aR ?_))
    all_goals first
      | exact absurd rfl (by assumption)
      | exact absurd (by assumption) h1
      | (refine aV (by first | exact .inl rfl | exact .inr rfl) (bD rfl (aC rfl) (aC rfl)) rfl ?_; rfl)
set_option maxHeartbeats 8000000 in
set_option maxRecDepth 10000 in
theorem wX (N : Int) (s : Tree) (long : ByteArray) (hs : s.size ≤ 65536) (hw : s.whole = true) (hl : long.size ≤ 100000) :
    ACalls Tryz.prog 35 [.imm (exT N s).iv, .imm (.lit (.string long))] [] (.imm (.tup [(atE s long).1.iv, .lit (.int .i64 (atE s long).2)])) [] := by
  have c1 := aCl s ⟨#[116]⟩ long (.inr hw) hs (by decide) hl
  obtain ⟨ps, hps⟩ := dT (dG hw)
  have hex := rZ N hps
  rw [hps] at c1
  unfold atE atK
  by_cases h1 : (sAtP s ⟨#[116]⟩ long).2 = 0
  · rw [if_neg (by simpa using h1)]
    obtain ⟨g1, g2, _, _⟩ := rY h1
    rw [h1] at c1
    generalize (sAtP s ⟨#[116]⟩ long).1 = R at *
    obtain ⟨k, m, a, b, kids, rfl⟩ := cF g2
    by_cases h2 : k = 161
    · subst h2
      rw [if_neg (by show ¬ ((161 : Int) ≠ 161); simp)]
      rcases eV g1 with ⟨_, x, rfl, hc⟩ | ⟨h3, _⟩
      · show ACalls _ _ _ _ (.imm (.tup [x.iv, .lit (.int .i64 0)])) _
        rw [hex]
        clear hex hps g1 g2 h1
        refine aJ Tryz.func35 rfl rfl (nb rfl) rfl ?_
        repeat' (first | refine aG ?_ | (refine aI ?_;  first | refine aD tabOk rfl rfl rfl (nb rfl) rfl ?_ | (refine aM rfl rfl rfl (nb rfl) rfl rfl rfl (fun hq => ?_) (fun hq => ?_) <;> (first | (simp only [sD, sE, sB, sC, sN, sM, sT, sF] at hq; try (exfalso; omega)) | skip)) | refine aE rfl rfl (nb rfl) rfl rfl rfl rfl (c1) ?_ | refine bN tabOk rfl rfl rfl (nb rfl) rfl rfl rfl rfl (by first | rfl | omega) (by first | omega | simp) ?_) | (refine aN ?_;  first | refine aH ?_ | refine aQ ?_ | refine aT ?_ | refine aU ?_ | refine aA (b := false) rfl nFt (fun _ => ?_)) | (refine aK ?_;  first | refine aX ?_))
        all_goals first
          | exact absurd rfl (by assumption)
          | (refine aV (by first | exact .inl rfl | exact .inr rfl) (bD rfl (aC rfl) (aC rfl)) rfl ?_; rfl)
      · omega
    · rw [if_pos (by show k ≠ 161; exact h2), hex]
      clear hex hps g1 g2 h1
      refine aJ Tryz.func35 rfl rfl (nb rfl) rfl ?_
      repeat' (first | refine aG ?_ | (refine aI ?_;  first | refine aD tabOk rfl rfl rfl (nb rfl) rfl ?_ | (refine aM rfl rfl rfl (nb rfl) rfl rfl rfl (fun hq => ?_) (fun hq => ?_) <;> (first | (simp only [sD, sE, sB, sC, sN, sM, sT, sF] at hq; try (exfalso; omega)) | skip)) | refine aE rfl rfl (nb rfl) rfl rfl rfl rfl (c1) ?_ | refine bN tabOk rfl rfl rfl (nb rfl) rfl rfl rfl rfl (by first | rfl | omega) (by first | omega | simp) ?_) | (refine aN ?_;  first | refine aH ?_ | refine aQ ?_ | refine aT ?_ | refine aU ?_ | refine aA (b := true) rfl (fun _ => ?_) nTf | refine aA (b := false) rfl nFt (fun _ => ?_)) | (refine aK ?_;  first | refine aX ?_ | refine aR ?_))
      all_goals first
        | exact absurd rfl (by assumption)
        | exact absurd (by assumption) h2
        | (refine aV (by first | exact .inl rfl | exact .inr rfl) (bD rfl (aC rfl) (aC rfl)) rfl ?_; rfl)
  · rw [if_pos h1, hex]
    generalize sAtP s ⟨#[116]⟩ long = R at *
    refine aJ Tryz.func35 rfl rfl (nb rfl) rfl ?_
    repeat' (first | refine aG ?_ | (refine aI ?_;  first | refine aD tabOk rfl rfl rfl (nb rfl) rfl ?_ | (refine aM rfl rfl rfl (nb rfl) rfl rfl rfl (fun hq => ?_) (fun hq => ?_) <;> (first | (simp only [sD, sE, sB, sC, sN, sM, sT, sF] at hq; try (exfalso; omega)) | skip)) | refine aE rfl rfl (nb rfl) rfl rfl rfl rfl (c1) ?_ | refine bN tabOk rfl rfl rfl (nb rfl) rfl rfl rfl rfl (by first | rfl | omega) (by first | omega | simp) ?_) | (refine aN ?_;  first | refine aH ?_ | refine aQ ?_ | refine aT ?_ | refine aA (b := true) rfl (fun _ => ?_) nTf) | (refine aK ?_;  first | refine aR ?_))
    all_goals first
      | exact absurd rfl (by assumption)
      | exact absurd (by assumption) h1
      | (refine aV (by first | exact .inl rfl | exact .inr rfl) (bD rfl (aC rfl) (aC rfl)) rfl ?_; rfl)
end Go.Proofs.YtdajnmffoopcaaaGreatDoor.Ab
namespace Go.Proofs.YtdajnmffoopcaaaGreatDoor.Ab
set_option linter.unusedVariables false
set_option linter.unusedSimpArgs false
open Go.Proofs.YtdajnmffoopcaaaGreatDoor.RP
theorem aBu {n : Tree} {a b : ByteArray} (h : (shareP n a b).2 = 0) : ∃ N s, n = exT N s ∧ checkP sformP (exT N s) = 0 ∧ 0 ≤ N ∧ N ≤ 8192 ∧ isSigP s = true ∧ s.whole = true ∧ s.size + 1 = n.size ∧ (atE s a).2 = 0 ∧ (atE s b).2 = 0 ∧
    ((sameP (atE s a).1 (atE s b).1 = true ∧ shareP n a b = (exT N s, 0)) ∨ (sameP (atE s a).1 (atE s b).1 = false ∧ boundP N (atE s a).1 = true ∧ shareP n a b = solveP (exT N s) (atE s a).1.num (atE s b).1) ∨
      (sameP (atE s a).1 (atE s b).1 = false ∧ boundP N (atE s a).1 = false ∧ boundP N (atE s b).1 = true ∧ shareP n a b = solveP (exT N s) (atE s b).1.num (atE s a).1)) := by
  by_cases h1 : checkP sformP n = 0
  · by_cases h3 : n.kind = 164
    · obtain ⟨N, s, rfl, n0, n1, hs, hw, hz⟩ := mT h1 h3
      have E : shareP (exT N s) a b = share1 (exT N s) (atE s a) (atE s b) := by
        unfold shareP
        rw [if_neg (by simpa using h1), if_neg (by simpa using h3)]
        rfl
      rw [E] at h
      unfold share1 at E h
      have en : (exT N s).num = N := rfl
      rw [en] at E h
      by_cases hX : (atE s a).2 = 0
      · rw [if_neg (by simpa using hX)] at E h
        by_cases hY : (atE s b).2 = 0
        · rw [if_neg (by simpa using hY)] at E h
          refine ⟨N, s, rfl, h1, n0, n1, hs, hw, hz, hX, hY, ?_⟩
          by_cases hsm : sameP (atE s a).1 (atE s b).1 = true
          · rw [if_pos hsm] at E
            exact .inl ⟨hsm, E⟩
          · rw [if_neg hsm] at E h
            have hsm : sameP (atE s a).1 (atE s b).1 = false := by simpa using hsm
            by_cases hb : boundP N (atE s a).1 = true
            · rw [if_pos hb] at E
              exact .inr (.inl ⟨hsm, hb, E⟩)
            · rw [if_neg hb] at E h
              by_cases hb2 : boundP N (atE s b).1 = true
              · rw [if_pos hb2] at E
                exact .inr (.inr ⟨hsm, by simpa using hb, hb2, E⟩)
              · rw [if_neg hb2] at h; cases h
        · rw [if_pos hY] at h; exact absurd h hY
      · rw [if_pos hX] at h; exact absurd h hX
    · unfold shareP at h
      rw [if_neg (by simpa using h1), if_pos h3] at h; cases h
  · unfold shareP at h
    rw [if_pos h1] at h; exact absurd h h1
end Go.Proofs.YtdajnmffoopcaaaGreatDoor.Ab
namespace Go.Proofs.YtdajnmffoopcaaaGreatDoor.Ab
set_option linter.unusedVariables false
set_option linter.unusedSimpArgs false
open Go.RowKit Go.Proofs.YtdajnmffoopcaaaGreatDoor.RP
attribute [local irreducible] AWP AOps AExit AThen ABlock ANoGoto FeetOk
set_option maxHeartbeats 16000000 in
set_option maxRecDepth 10000 in
theorem aCm (n : Tree) (a b : ByteArray) (hn : n.size ≤ 100000) (ha : a.size ≤ 100000) (hb : b.size ≤ 100000) (hm : sameP (atE (kid0 n) a).1 (atE (kid0 n) b).1 = true ∨ n.size * n.size ≤ 1000000) :
    ACalls Tryz.prog 13 [.imm n.iv, .imm (.lit (.string a)), .imm (.lit (.string b))] [] (.imm (.tup [(shareP n a b).1.iv, .lit (.int .i64 (shareP n a b).2)])) [] := by
  have c3 := pK n (by omega)
  obtain ⟨Q, hQ⟩ : ∃ Q, shareP n a b = Q := ⟨_, rfl⟩
  rw [hQ]
  unfold shareP at hQ
  unfold abstractP at c3
  by_cases h1 : checkP sformP n = 0
  · rw [if_neg (by simpa using h1)] at hQ c3
    by_cases h3 : n.kind = 164
    · rw [if_neg (by simpa using h3)] at hQ c3
      obtain ⟨N, s, rfl, n0, n1, hs, hw, hz⟩ := mT h1 h3
      have hwn := (bK h1).1
      have ek : kid0 (exT N s) = s := rfl
      have en : (exT N s).num = N := rfl
      rw [ek] at hQ hm
      have c4 := at_a N s a (by omega) hw ha
      have c5 := at_a N s b (by omega) hw hb
      have hXok := @mA s a
      have hYok := @mA s b
      unfold share1 at hQ
      rw [en] at hQ
      generalize atE s a = X at *
      generalize atE s b = Y at *
      obtain ⟨X1, X2⟩ := X
      obtain ⟨Y1, Y2⟩ := Y
      dsimp only at hQ c4 c5 hXok hYok hm
      by_cases hX : X2 = 0
      · subst hX
        rw [if_neg (by simp)] at hQ
        obtain ⟨x0, xs, _, _⟩ := hXok rfl
        have hxw := (bK x0).1
        by_cases hY : Y2 = 0
        · subst hY
          rw [if_neg (by simp)] at hQ
          obtain ⟨y0, ys, _, _⟩ := hYok rfl
          have hyw := (bK y0).1
          have c6 := aAx X1 Y1 (.inr hxw) (.inr hyw) (by omega) (by omega)
          by_cases hsm : sameP X1 Y1 = true
          · rw [if_pos hsm] at hQ
            rw [hsm] at c6
            subst hQ
            clear hXok hYok x0 y0 hxw hyw h1 h3 ek en hwn hsm hm hz hn xs ys
            unfold exT at *
            dsimp only at *
            refine aJ Tryz.func13 rfl rfl (nb rfl) rfl ?_
            repeat' (first | refine aG ?_ | (refine aI ?_;  first | refine aD tabOk rfl rfl rfl (nb rfl) rfl ?_ | (refine aM rfl rfl rfl (nb rfl) rfl rfl rfl (fun hq => ?_) (fun hq => ?_) <;> (first | (simp only [sD, sE, sB, sC, sN, sM, sT, sF] at hq; try (exfalso; omega)) | skip)) | refine aE rfl rfl (nb rfl) rfl rfl rfl rfl (c3) ?_ | refine aE rfl rfl (nb rfl) rfl rfl rfl rfl (c4) ?_ | refine aE rfl rfl (nb rfl) rfl rfl rfl rfl (c5) ?_ | refine aE rfl rfl (nb rfl) rfl rfl rfl rfl (c6) ?_) | (refine aN ?_;  first | refine aH ?_ | refine aQ ?_ | refine aY ?_ | refine aT ?_ | refine aU ?_ | refine aA (b := true) rfl (fun _ => ?_) nTf | refine aA (b := false) rfl nFt (fun _ => ?_)) | (refine aK ?_;  first | refine aX ?_ | refine aR ?_) | (refine bA ?_;  first | refine bF ?_))
            all_goals first
              | exact absurd rfl (by assumption)
              | (exfalso; omega)
              | (refine aV (by first | exact .inl rfl | exact .inr rfl) (bD rfl (aC rfl) (aC rfl)) rfl ?_; rfl)
          · rw [if_neg hsm] at hQ
            have hsm : sameP X1 Y1 = false := by simpa using hsm
            rw [hsm] at c6
            have hm : (exT N s).size * (exT N s).size ≤ 1000000 := hm.resolve_left (by rw [hsm]; simp)
            have c7 := sA (exT N s) X1 hwn hxw
            rw [en] at c7
            have c8 := sA (exT N s) Y1 hwn hyw
            rw [en] at c8
            by_cases hbx : boundP N X1 = true
            · rw [if_pos hbx] at hQ
              rw [hbx] at c7
              obtain ⟨i, rfl, i0, i1, i2⟩ := fP x0 hbx
              have enum : (varT i).num = i := rfl
              rw [enum] at hQ
              have hmm : (exT N s).size * Y1.size ≤ (exT N s).size * (exT N s).size := Nat.mul_le_mul_left _ (by omega)
              have c9 := nM (exT N s) i Y1 (by omega) (by omega) (by omega)
              rw [hQ] at c9
              clear hQ hXok hYok x0 y0 hxw hyw h1 h3 ek en hwn hsm hm hz hn xs ys hmm hbx c8
              unfold exT varT at *
              obtain ⟨Q1, Q2⟩ := Q
              dsimp only at *
              refine aJ Tryz.func13 rfl rfl (nb rfl) rfl ?_
              repeat' (first | refine aG ?_ | (refine aI ?_;  first | refine aD tabOk rfl rfl rfl (nb rfl) rfl ?_ | (refine aM rfl rfl rfl (nb rfl) rfl rfl rfl (fun hq => ?_) (fun hq => ?_) <;> (first | (simp only [sD, sE, sB, sC, sN, sM, sT, sF] at hq; try (exfalso; omega)) | skip)) | refine aE rfl rfl (nb rfl) rfl rfl rfl rfl (c3) ?_ | refine aE rfl rfl (nb rfl) rfl rfl rfl rfl (c4) ?_ | refine aE rfl rfl (nb rfl) rfl rfl rfl rfl (c5) ?_ | refine aE rfl rfl (nb rfl) rfl rfl rfl rfl (c6) ?_ | refine aE rfl rfl (nb rfl) rfl rfl rfl rfl (c7) ?_ | refine aE rfl rfl (nb rfl) rfl rfl rfl rfl (c9) ?_) | (refine aN ?_;  first | refine aH ?_ | refine aQ ?_ | refine aY ?_ | refine aT ?_ | refine aU ?_ | refine aA (b := true) rfl (fun _ => ?_) nTf | refine aA (b := false) rfl nFt (fun _ => ?_)) | (refine aK ?_;  first | refine aX ?_ | refine aR ?_) | (refine bA ?_;  first | refine bF ?_))
              all_goals first
                | exact absurd rfl (by assumption)
                | (exfalso; omega)
                | (refine aV (by first | exact .inl rfl | exact .inr rfl) (bD rfl (aC rfl) (aC rfl)) rfl ?_; rfl)
            · rw [if_neg hbx] at hQ
              have hbx : boundP N X1 = false := by simpa using hbx
              rw [hbx] at c7
              by_cases hby : boundP N Y1 = true
              · rw [if_pos hby] at hQ
                rw [hby] at c8
                obtain ⟨i, rfl, i0, i1, i2⟩ := fP y0 hby
                have enum : (varT i).num = i := rfl
                rw [enum] at hQ
                have hmm : (exT N s).size * X1.size ≤ (exT N s).size * (exT N s).size := Nat.mul_le_mul_left _ (by omega)
                have c9 := nM (exT N s) i X1 (by omega) (by omega) (by omega)
                rw [hQ] at c9
                clear hQ hXok hYok x0 y0 hxw hyw h1 h3 ek en hwn hsm hm hz hn xs ys hmm hbx hby
                unfold exT varT at *
                obtain ⟨Q1, Q2⟩ := Q
                dsimp only at *
                refine aJ Tryz.func13 rfl rfl (nb rfl) rfl ?_
                repeat' (first | refine aG ?_ | (refine aI ?_;  first | refine aD tabOk rfl rfl rfl (nb rfl) rfl ?_ | (refine aM rfl rfl rfl (nb rfl) rfl rfl rfl (fun hq => ?_) (fun hq => ?_) <;> (first | (simp only [sD, sE, sB, sC, sN, sM, sT, sF] at hq; try (exfalso; omega)) | skip)) | refine aE rfl rfl (nb rfl) rfl rfl rfl rfl (c3) ?_ | refine aE rfl rfl (nb rfl) rfl rfl rfl rfl (c4) ?_ | refine aE rfl rfl (nb rfl) rfl rfl rfl rfl (c5) ?_ | refine aE rfl rfl (nb rfl) rfl rfl rfl rfl (c6) ?_ | refine aE rfl rfl (nb rfl) rfl rfl rfl rfl (c7) ?_ | refine aE rfl rfl (nb rfl) rfl rfl rfl rfl (c8) ?_ | refine aE rfl rfl (nb rfl) rfl rfl rfl rfl (c9) ?_) | (refine aN ?_;  first | refine aH ?_ | refine aQ ?_ | refine aY ?_ | refine aT ?_ | refine aU ?_ | refine aA (b := true) rfl (fun _ => ?_) nTf | refine aA (b := false) rfl nFt (fun _ => ?_)) | (refine aK ?_;  first | refine aX ?_ | refine aR ?_) | (refine bA ?_;  first | refine bF ?_))
                all_goals first
                  | exact absurd rfl (by assumption)
                  | (exfalso; omega)
                  | (refine aV (by first | exact .inl rfl | exact .inr rfl) (bD rfl (aC rfl) (aC rfl)) rfl ?_; rfl)
              · rw [if_neg hby] at hQ
                have hby : boundP N Y1 = false := by simpa using hby
                rw [hby] at c8
                subst hQ
                clear hXok hYok x0 y0 hxw hyw h1 h3 ek en hwn hsm hm hz hn xs ys hbx hby
                unfold exT at *
                dsimp only at *
                refine aJ Tryz.func13 rfl rfl (nb rfl) rfl ?_
                repeat' (first | refine aG ?_ | (refine aI ?_;  first | refine aD tabOk rfl rfl rfl (nb rfl) rfl ?_ | (refine aM rfl rfl rfl (nb rfl) rfl rfl rfl (fun hq => ?_) (fun hq => ?_) <;> (first | (simp only [sD, sE, sB, sC, sN, sM, sT, sF] at hq; try (exfalso; omega)) | skip)) | refine aE rfl rfl (nb rfl) rfl rfl rfl rfl (c3) ?_ | refine aE rfl rfl (nb rfl) rfl rfl rfl rfl (c4) ?_ | refine aE rfl rfl (nb rfl) rfl rfl rfl rfl (c5) ?_ | refine aE rfl rfl (nb rfl) rfl rfl rfl rfl (c6) ?_ | refine aE rfl rfl (nb rfl) rfl rfl rfl rfl (c7) ?_ | refine aE rfl rfl (nb rfl) rfl rfl rfl rfl (c8) ?_) | (refine aN ?_;  first | refine aH ?_ | refine aQ ?_ | refine aY ?_ | refine aT ?_ | refine aU ?_ | refine aA (b := false) rfl nFt (fun _ => ?_)) | (refine aK ?_;  first | refine aX ?_) | (refine bA ?_;  first | refine bU ?_))
                all_goals first
                  | exact absurd rfl (by assumption)
                  | (exfalso; omega)
                  | (refine aV (by first | exact .inl rfl | exact .inr rfl) (bD rfl (aC rfl) (aC rfl)) rfl ?_; rfl)
        · rw [if_pos hY] at hQ
          subst hQ
          clear hXok hYok x0 hxw h1 h3 ek en hwn hm hz hn xs
          unfold exT at *
          refine aJ Tryz.func13 rfl rfl (nb rfl) rfl ?_
          repeat' (first | refine aG ?_ | (refine aI ?_;  first | refine aD tabOk rfl rfl rfl (nb rfl) rfl ?_ | (refine aM rfl rfl rfl (nb rfl) rfl rfl rfl (fun hq => ?_) (fun hq => ?_) <;> (first | (simp only [sD, sE, sB, sC, sN, sM, sT, sF] at hq; try (exfalso; omega)) | skip)) | refine aE rfl rfl (nb rfl) rfl rfl rfl rfl (c3) ?_ | refine aE rfl rfl (nb rfl) rfl rfl rfl rfl (c4) ?_ | refine aE rfl rfl (nb rfl) rfl rfl rfl rfl (c5) ?_) | (refine aN ?_;  first | refine aH ?_ | refine aQ ?_ | refine aY ?_ | refine aT ?_ | refine aU ?_ | refine aA (b := true) rfl (fun _ => ?_) nTf | refine aA (b := false) rfl nFt (fun _ => ?_)) | (refine aK ?_;  first | refine aX ?_ | refine aR ?_) | (refine bA ?_;  first | refine bF ?_))
          all_goals first
            | exact absurd rfl (by assumption)
            | exact absurd (by assumption) hY
            | (exfalso; omega)
            | (refine aV (by first | exact .inl rfl | exact .inr rfl) (bD rfl (aC rfl) (aC rfl)) rfl ?_; rfl)
      · rw [if_pos hX] at hQ
        subst hQ
        clear hXok hYok h1 h3 ek en hwn hm hz hn
        unfold exT at *
        refine aJ Tryz.func13 rfl rfl (nb rfl) rfl ?_
        repeat' (first | refine aG ?_ | (refine aI ?_;  first | refine aD tabOk rfl rfl rfl (nb rfl) rfl ?_ | (refine aM rfl rfl rfl (nb rfl) rfl rfl rfl (fun hq => ?_) (fun hq => ?_) <;> (first | (simp only [sD, sE, sB, sC, sN, sM, sT, sF] at hq; try (exfalso; omega)) | skip)) | refine aE rfl rfl (nb rfl) rfl rfl rfl rfl (c3) ?_ | refine aE rfl rfl (nb rfl) rfl rfl rfl rfl (c4) ?_) | (refine aN ?_;  first | refine aH ?_ | refine aQ ?_ | refine aT ?_ | refine aU ?_ | refine aA (b := true) rfl (fun _ => ?_) nTf | refine aA (b := false) rfl nFt (fun _ => ?_)) | (refine aK ?_;  first | refine aX ?_ | refine aR ?_))
        all_goals first
          | exact absurd rfl (by assumption)
          | exact absurd (by assumption) hX
          | (exfalso; omega)
          | (refine aV (by first | exact .inl rfl | exact .inr rfl) (bD rfl (aC rfl) (aC rfl)) rfl ?_; rfl)
    · rw [if_pos h3] at hQ c3
      subst hQ
      clear hm
      refine aJ Tryz.func13 rfl rfl (nb rfl) rfl ?_
      repeat' (first | refine aG ?_ | (refine aI ?_;  first | refine aD tabOk rfl rfl rfl (nb rfl) rfl ?_ | (refine aM rfl rfl rfl (nb rfl) rfl rfl rfl (fun hq => ?_) (fun hq => ?_) <;> (first | (simp only [sD, sE, sB, sC, sN, sM, sT, sF] at hq; try (exfalso; omega)) | skip)) | refine aE rfl rfl (nb rfl) rfl rfl rfl rfl (c3) ?_) | (refine aN ?_;  first | refine aH ?_ | refine aQ ?_ | refine aT ?_ | refine aA (b := true) rfl (fun _ => ?_) nTf) | (refine aK ?_;  first | refine aR ?_))
      all_goals first
        | exact absurd rfl (by assumption)
        | (refine aV (by first | exact .inl rfl | exact .inr rfl) (bD rfl (aC rfl) (aC rfl)) rfl ?_; rfl)
  · rw [if_pos h1] at hQ c3
    subst hQ
    clear hm
    generalize checkP sformP n = C at *
    refine aJ Tryz.func13 rfl rfl (nb rfl) rfl ?_
    repeat' (first | refine aG ?_ | (refine aI ?_;  first | refine aD tabOk rfl rfl rfl (nb rfl) rfl ?_ | (refine aM rfl rfl rfl (nb rfl) rfl rfl rfl (fun hq => ?_) (fun hq => ?_) <;> (first | (simp only [sD, sE, sB, sC, sN, sM, sT, sF] at hq; try (exfalso; omega)) | skip)) | refine aE rfl rfl (nb rfl) rfl rfl rfl rfl (c3) ?_) | (refine aN ?_;  first | refine aH ?_ | refine aQ ?_ | refine aT ?_ | refine aA (b := true) rfl (fun _ => ?_) nTf) | (refine aK ?_;  first | refine aR ?_))
    all_goals first
      | exact absurd rfl (by assumption)
      | exact absurd (by assumption) h1
      | (refine aV (by first | exact .inl rfl | exact .inr rfl) (bD rfl (aC rfl) (aC rfl)) rfl ?_; rfl)
theorem wY {n : Tree} {a b : ByteArray} (h : (shareP n a b).2 ≠ 0) : (shareP n a b).1 = .nil := by
  unfold shareP at h ⊢
  split
  · rfl
  · rename_i h1
    rw [if_neg h1] at h
    split
    · rfl
    · rename_i h3
      rw [if_neg h3] at h
      unfold share1 at h ⊢
      split
      · rfl
      · rename_i h4
        rw [if_neg h4] at h
        split
        · rfl
        · rename_i h5
          rw [if_neg h5] at h
          split
          · rename_i h6; rw [if_pos h6] at h; exact absurd rfl h
          · rename_i h6
            rw [if_neg h6] at h
            split
            · rename_i h7; rw [if_pos h7] at h; exact iO h
            · rename_i h7
              rw [if_neg h7] at h
              split
              · rename_i h8; rw [if_pos h8] at h; exact iO h
              · rfl
end Go.Proofs.YtdajnmffoopcaaaGreatDoor.Ab
namespace Go.Proofs.YtdajnmffoopcaaaGreatDoor.Ab
set_option linter.unusedVariables false
set_option linter.unusedSimpArgs false
open Go.RowKit Go.Proofs.YtdajnmffoopcaaaGreatDoor.RP
attribute [local irreducible] AWP AOps AExit AThen ABlock ANoGoto FeetOk
set_option maxHeartbeats 16000000 in
set_option maxRecDepth 10000 in
theorem wZ (n : Tree) (long : ByteArray) (c : Tree) (hwn : n = .nil ∨ n.whole = true) (hn : n.size ≤ 65536) (hl : long.size ≤ 100000) (hcs : c.size ≤ 100000) (hm : n.size * c.size ≤ 1000000) :
    ACalls Tryz.prog 12 [.imm n.iv, .imm (.lit (.string long)), .imm c.iv] [] (.imm (.tup [(whereP n long c).1.iv, .lit (.int .i64 (whereP n long c).2)])) [] := by
  have c1 := fB n hwn hn
  have c2 := eB c (by omega)
  obtain ⟨Q, hQ⟩ : ∃ Q, whereP n long c = Q := ⟨_, rfl⟩
  rw [hQ]
  unfold whereP at hQ
  by_cases h1 : checkP sformP n = 0
  · rw [if_neg (by simpa using h1)] at hQ
    rw [h1] at c1
    by_cases h2 : checkP isConP c = 0
    · rw [if_neg (by simpa using h2)] at hQ
      rw [h2] at c2
      by_cases h3 : n.kind = 164
      · rw [if_neg (by simpa using h3)] at hQ
        obtain ⟨N, s, rfl, n0, n1, hs, hw, hz⟩ := mT h1 h3
        have ek : kid0 (exT N s) = s := rfl
        have en : (exT N s).num = N := rfl
        rw [ek, en] at hQ
        have c4 := wX N s long (by omega) hw hl
        have c5 := pI c N 0 (by omega)
        have hXok := @mA s long
        unfold where1 at hQ
        rw [en] at hQ
        generalize atE s long = X at *
        obtain ⟨X1, X2⟩ := X
        dsimp only at hQ c4 hXok
        by_cases hX : X2 = 0
        · subst hX
          rw [if_neg (by simp)] at hQ
          obtain ⟨x0, _, _, _⟩ := hXok rfl
          have hxw := (bK x0).1
          have hxz := (bK x0).2.1
          by_cases hY : (shiftP c N 0).2 = 0
          · rw [if_neg (by simpa using hY)] at hQ
            obtain ⟨y1, y2, y3, y4⟩ := lM h2 (Int.le_refl 0) hY
            rw [hY] at c5
            have hyz : (shiftP c N 0).1.size = c.size := by rw [y2]; exact y4
            have hyw : (shiftP c N 0).1.whole = true := by rw [y2]; exact (bK y3).1
            generalize (shiftP c N 0).1 = Y at *
            by_cases hb : boundP N X1 = true
            · rw [if_pos hb] at hQ
              obtain ⟨i, rfl, i0, i1, i2⟩ := fP x0 hb
              have enum : (varT i).num = i := rfl
              rw [enum] at hQ
              have c7 := iP (exT N s) i Y hwn (by omega) (by omega) (by rw [hyz]; exact hm)
              rw [hQ] at c7
              clear hQ hXok x0 hxw hxz hY y1 y2 y3 y4 hyz hyw h1 h2 h3 ek en hwn hb hm hz hn
              unfold exT varT at *
              obtain ⟨Q1, Q2⟩ := Q
              dsimp only at *
              refine aJ Tryz.func12 rfl rfl (nb rfl) rfl ?_
              repeat' (first | refine aG ?_ | (refine aI ?_;  first | refine aD tabOk rfl rfl rfl (nb rfl) rfl ?_ | (refine aM rfl rfl rfl (nb rfl) rfl rfl rfl (fun hq => ?_) (fun hq => ?_) <;> (first | (simp only [sD, sE, sB, sC, sN, sM, sT, sF] at hq; try (exfalso; omega)) | skip)) | refine aE rfl rfl (nb rfl) rfl rfl rfl rfl (c1) ?_ | refine aE rfl rfl (nb rfl) rfl rfl rfl rfl (c2) ?_ | refine aE rfl rfl (nb rfl) rfl rfl rfl rfl (c4) ?_ | refine aE rfl rfl (nb rfl) rfl rfl rfl rfl (c5) ?_ | refine aE rfl rfl (nb rfl) rfl rfl rfl rfl (c7) ?_) | (refine aN ?_;  first | refine aH ?_ | refine aQ ?_ | refine aT ?_ | refine aU ?_ | refine aA (b := true) rfl (fun _ => ?_) nTf | refine aA (b := false) rfl nFt (fun _ => ?_) | refine aW mixed (by kernel_rfl) ?_) | (refine aK ?_;  first | refine aX ?_ | refine aR ?_) | refine bQ (bL (by kernel_rfl)) ?_)
              all_goals first
                | exact absurd rfl (by assumption)
                | (exfalso; omega)
                | (refine aV (by first | exact .inl rfl | exact .inr rfl) (bD rfl (aC rfl) (aC rfl)) rfl ?_; rfl)
            · rw [if_neg hb] at hQ
              have c7 := iJ X1 Y (.inr hxw) (.inr hyw) (by omega) (by omega)
              obtain ⟨k, m, a', b', kids, rfl⟩ := cF hxw
              have hb : ¬ (k = 110 ∧ m < N) := fun h => hb (by show (decide (k = 110) && decide (m < N)) = true; rw [decide_eq_true h.1, decide_eq_true h.2]; rfl)
              by_cases hsm : sameP (.node k m a' b' kids) Y = true
              · rw [if_pos hsm] at hQ
                rw [hsm] at c7
                subst hQ
                clear hXok x0 hxw hxz hY y1 y2 y3 y4 hyz hyw h1 h2 h3 ek en hwn hm hz hn hsm
                unfold exT at *
                dsimp only at *
                refine aJ Tryz.func12 rfl rfl (nb rfl) rfl ?_
                repeat' (first | refine aG ?_ | (refine aI ?_;  first | refine aD tabOk rfl rfl rfl (nb rfl) rfl ?_ | refine bE rfl rfl (nb rfl) ?_ | (refine aM rfl rfl rfl (nb rfl) rfl rfl rfl (fun hq => ?_) (fun hq => ?_) <;> (first | (simp only [sD, sE, sB, sC, sN, sM, sT, sF] at hq; try (exfalso; omega)) | skip)) | refine aE rfl rfl (nb rfl) rfl rfl rfl rfl (c1) ?_ | refine aE rfl rfl (nb rfl) rfl rfl rfl rfl (c2) ?_ | refine aE rfl rfl (nb rfl) rfl rfl rfl rfl (c4) ?_ | refine aE rfl rfl (nb rfl) rfl rfl rfl rfl (c5) ?_ | refine aE rfl rfl (nb rfl) rfl rfl rfl rfl (c7) ?_) | (refine aN ?_;  first | refine aH ?_ | refine aQ ?_ | refine aT ?_ | refine aU ?_ | refine aA (b := false) rfl nFt (fun _ => ?_) | refine aW mixed (by kernel_rfl) ?_) | (refine aK ?_;  first | refine aX ?_) | refine bQ (bL (by kernel_rfl)) ?_)
                all_goals first
                  | exact absurd rfl (by assumption)
                  | exact absurd ⟨by assumption, by assumption⟩ hb
                  | (exfalso; omega)
                  | (refine aV (by first | exact .inl rfl | exact .inr rfl) (bD rfl (aC rfl) (aC rfl)) rfl ?_; rfl)
              · rw [if_neg hsm] at hQ
                have hsm : sameP (.node k m a' b' kids) Y = false := by simpa using hsm
                rw [hsm] at c7
                subst hQ
                clear hXok x0 hxw hxz hY y1 y2 y3 y4 hyz hyw h1 h2 h3 ek en hwn hm hz hn hsm
                unfold exT at *
                dsimp only at *
                refine aJ Tryz.func12 rfl rfl (nb rfl) rfl ?_
                repeat' (first | refine aG ?_ | (refine aI ?_;  first | refine aD tabOk rfl rfl rfl (nb rfl) rfl ?_ | refine bE rfl rfl (nb rfl) ?_ | (refine aM rfl rfl rfl (nb rfl) rfl rfl rfl (fun hq => ?_) (fun hq => ?_) <;> (first | (simp only [sD, sE, sB, sC, sN, sM, sT, sF] at hq; try (exfalso; omega)) | skip)) | refine aE rfl rfl (nb rfl) rfl rfl rfl rfl (c1) ?_ | refine aE rfl rfl (nb rfl) rfl rfl rfl rfl (c2) ?_ | refine aE rfl rfl (nb rfl) rfl rfl rfl rfl (c4) ?_ | refine aE rfl rfl (nb rfl) rfl rfl rfl rfl (c5) ?_ | refine aE rfl rfl (nb rfl) rfl rfl rfl rfl (c7) ?_) | (refine aN ?_;  first | refine aH ?_ | refine aQ ?_ | refine aT ?_ | refine aU ?_ | refine aA (b := true) rfl (fun _ => ?_) nTf | refine aA (b := false) rfl nFt (fun _ => ?_) | refine aW mixed (by kernel_rfl) ?_) | (refine aK ?_;  first | refine aX ?_ | refine aR ?_) | refine bQ (bL (by kernel_rfl)) ?_)
                all_goals first
                  | exact absurd rfl (by assumption)
                  | exact absurd ⟨by assumption, by assumption⟩ hb
                  | (exfalso; omega)
                  | (refine aV (by first | exact .inl rfl | exact .inr rfl) (bD rfl (aC rfl) (aC rfl)) rfl ?_; rfl)
          · rw [if_pos hY] at hQ
            subst hQ
            generalize shiftP c N 0 = Y at *
            clear hXok x0 hxw hxz h1 h2 h3 ek en hwn hm hz hn
            unfold exT at *
            refine aJ Tryz.func12 rfl rfl (nb rfl) rfl ?_
            repeat' (first | refine aG ?_ | (refine aI ?_;  first | refine aD tabOk rfl rfl rfl (nb rfl) rfl ?_ | (refine aM rfl rfl rfl (nb rfl) rfl rfl rfl (fun hq => ?_) (fun hq => ?_) <;> (first | (simp only [sD, sE, sB, sC, sN, sM, sT, sF] at hq; try (exfalso; omega)) | skip)) | refine aE rfl rfl (nb rfl) rfl rfl rfl rfl (c1) ?_ | refine aE rfl rfl (nb rfl) rfl rfl rfl rfl (c2) ?_ | refine aE rfl rfl (nb rfl) rfl rfl rfl rfl (c4) ?_ | refine aE rfl rfl (nb rfl) rfl rfl rfl rfl (c5) ?_) | (refine aN ?_;  first | refine aH ?_ | refine aQ ?_ | refine aT ?_ | refine aU ?_ | refine aA (b := true) rfl (fun _ => ?_) nTf | refine aA (b := false) rfl nFt (fun _ => ?_)) | (refine aK ?_;  first | refine aX ?_ | refine aR ?_))
            all_goals first
              | exact absurd rfl (by assumption)
              | exact absurd (by assumption) hY
              | (exfalso; omega)
              | (refine aV (by first | exact .inl rfl | exact .inr rfl) (bD rfl (aC rfl) (aC rfl)) rfl ?_; rfl)
        · rw [if_pos hX] at hQ
          subst hQ
          clear hXok h1 h2 h3 ek en hwn hm hz hn
          unfold exT at *
          refine aJ Tryz.func12 rfl rfl (nb rfl) rfl ?_
          repeat' (first | refine aG ?_ | (refine aI ?_;  first | refine aD tabOk rfl rfl rfl (nb rfl) rfl ?_ | (refine aM rfl rfl rfl (nb rfl) rfl rfl rfl (fun hq => ?_) (fun hq => ?_) <;> (first | (simp only [sD, sE, sB, sC, sN, sM, sT, sF] at hq; try (exfalso; omega)) | skip)) | refine aE rfl rfl (nb rfl) rfl rfl rfl rfl (c1) ?_ | refine aE rfl rfl (nb rfl) rfl rfl rfl rfl (c2) ?_ | refine aE rfl rfl (nb rfl) rfl rfl rfl rfl (c4) ?_) | (refine aN ?_;  first | refine aH ?_ | refine aQ ?_ | refine aT ?_ | refine aU ?_ | refine aA (b := true) rfl (fun _ => ?_) nTf | refine aA (b := false) rfl nFt (fun _ => ?_)) | (refine aK ?_;  first | refine aX ?_ | refine aR ?_))
          all_goals first
            | exact absurd rfl (by assumption)
            | exact absurd (by assumption) hX
            | (exfalso; omega)
            | (refine aV (by first | exact .inl rfl | exact .inr rfl) (bD rfl (aC rfl) (aC rfl)) rfl ?_; rfl)
      · rw [if_pos h3] at hQ
        subst hQ
        clear hm
        obtain ⟨k, m, a, b, kids, rfl⟩ := cF (bK h1).1
        have h3 : ¬ k = 164 := h3
        refine aJ Tryz.func12 rfl rfl (nb rfl) rfl ?_
        repeat' (first | refine aG ?_ | (refine aI ?_;  first | refine aD tabOk rfl rfl rfl (nb rfl) rfl ?_ | (refine aM rfl rfl rfl (nb rfl) rfl rfl rfl (fun hq => ?_) (fun hq => ?_) <;> (first | (simp only [sD, sE, sB, sC, sN, sM, sT, sF] at hq; try (exfalso; omega)) | skip)) | refine aE rfl rfl (nb rfl) rfl rfl rfl rfl (c1) ?_ | refine aE rfl rfl (nb rfl) rfl rfl rfl rfl (c2) ?_) | (refine aN ?_;  first | refine aH ?_ | refine aQ ?_ | refine aT ?_ | refine aU ?_ | refine aA (b := true) rfl (fun _ => ?_) nTf | refine aA (b := false) rfl nFt (fun _ => ?_)) | (refine aK ?_;  first | refine aX ?_ | refine aR ?_))
        all_goals first
          | exact absurd rfl (by assumption)
          | exact absurd (by assumption) h3
          | (refine aV (by first | exact .inl rfl | exact .inr rfl) (bD rfl (aC rfl) (aC rfl)) rfl ?_; rfl)
    · rw [if_pos h2] at hQ
      subst hQ
      clear hm
      generalize checkP isConP c = C at *
      refine aJ Tryz.func12 rfl rfl (nb rfl) rfl ?_
      repeat' (first | refine aG ?_ | (refine aI ?_;  first | refine aD tabOk rfl rfl rfl (nb rfl) rfl ?_ | (refine aM rfl rfl rfl (nb rfl) rfl rfl rfl (fun hq => ?_) (fun hq => ?_) <;> (first | (simp only [sD, sE, sB, sC, sN, sM, sT, sF] at hq; try (exfalso; omega)) | skip)) | refine aE rfl rfl (nb rfl) rfl rfl rfl rfl (c1) ?_ | refine aE rfl rfl (nb rfl) rfl rfl rfl rfl (c2) ?_) | (refine aN ?_;  first | refine aH ?_ | refine aQ ?_ | refine aT ?_ | refine aU ?_ | refine aA (b := true) rfl (fun _ => ?_) nTf | refine aA (b := false) rfl nFt (fun _ => ?_)) | (refine aK ?_;  first | refine aX ?_ | refine aR ?_))
      all_goals first
        | exact absurd rfl (by assumption)
        | exact absurd (by assumption) h2
        | (refine aV (by first | exact .inl rfl | exact .inr rfl) (bD rfl (aC rfl) (aC rfl)) rfl ?_; rfl)
  · rw [if_pos h1] at hQ
    subst hQ
    clear hm
    generalize checkP sformP n = C at *
    refine aJ Tryz.func12 rfl rfl (nb rfl) rfl ?_
    repeat' (first | refine aG ?_ | (refine aI ?_;  first | refine aD tabOk rfl rfl rfl (nb rfl) rfl ?_ | (refine aM rfl rfl rfl (nb rfl) rfl rfl rfl (fun hq => ?_) (fun hq => ?_) <;> (first | (simp only [sD, sE, sB, sC, sN, sM, sT, sF] at hq; try (exfalso; omega)) | skip)) | refine aE rfl rfl (nb rfl) rfl rfl rfl rfl (c1) ?_) | (refine aN ?_;  first | refine aH ?_ | refine aQ ?_ | refine aT ?_ | refine aA (b := true) rfl (fun _ => ?_) nTf) | (refine aK ?_;  first | refine aR ?_))
    all_goals first
      | exact absurd rfl (by assumption)
      | exact absurd (by assumption) h1
      | (refine aV (by first | exact .inl rfl | exact .inr rfl) (bD rfl (aC rfl) (aC rfl)) rfl ?_; rfl)
set_option maxHeartbeats 16000000 in
set_option maxRecDepth 10000 in
theorem xA (n : Tree) (a b : ByteArray) (hwn : n = .nil ∨ n.whole = true) (hn : n.size ≤ 65536) (ha : a.size ≤ 100000) (hb : b.size ≤ 100000) (hm : n.size * n.size ≤ 1000000) :
    ACalls Tryz.prog 14 [.imm n.iv, .imm (.lit (.string a)), .imm (.lit (.string b))] [] (.imm (.tup [(shareP n a b).1.iv, .lit (.int .i64 (shareP n a b).2)])) [] := by
  have c3 := fB n hwn hn
  obtain ⟨Q, hQ⟩ : ∃ Q, shareP n a b = Q := ⟨_, rfl⟩
  rw [hQ]
  unfold shareP at hQ
  by_cases h1 : checkP sformP n = 0
  · rw [if_neg (by simpa using h1)] at hQ
    rw [h1] at c3
    by_cases h3 : n.kind = 164
    · rw [if_neg (by simpa using h3)] at hQ
      obtain ⟨N, s, rfl, n0, n1, hs, hw, hz⟩ := mT h1 h3
      have ek : kid0 (exT N s) = s := rfl
      have en : (exT N s).num = N := rfl
      rw [ek] at hQ
      have c4 := wX N s a (by omega) hw ha
      have c5 := wX N s b (by omega) hw hb
      have hXok := @mA s a
      have hYok := @mA s b
      unfold share1 at hQ
      rw [en] at hQ
      generalize atE s a = X at *
      generalize atE s b = Y at *
      obtain ⟨X1, X2⟩ := X
      obtain ⟨Y1, Y2⟩ := Y
      dsimp only at hQ c4 c5 hXok hYok
      by_cases hX : X2 = 0
      · subst hX
        rw [if_neg (by simp)] at hQ
        obtain ⟨x0, xs, _, _⟩ := hXok rfl
        have hxw := (bK x0).1
        by_cases hY : Y2 = 0
        · subst hY
          rw [if_neg (by simp)] at hQ
          obtain ⟨y0, ys, _, _⟩ := hYok rfl
          have hyw := (bK y0).1
          have c6 := iJ X1 Y1 (.inr hxw) (.inr hyw) (by omega) (by omega)
          by_cases hsm : sameP X1 Y1 = true
          · rw [if_pos hsm] at hQ
            rw [hsm] at c6
            subst hQ
            clear hXok hYok x0 y0 hxw hyw h1 h3 ek en hwn hsm hm hz hn xs ys
            unfold exT at *
            dsimp only at *
            refine aJ Tryz.func14 rfl rfl (nb rfl) rfl ?_
            repeat' (first | refine aG ?_ | (refine aI ?_;  first | refine aD tabOk rfl rfl rfl (nb rfl) rfl ?_ | (refine aM rfl rfl rfl (nb rfl) rfl rfl rfl (fun hq => ?_) (fun hq => ?_) <;> (first | (simp only [sD, sE, sB, sC, sN, sM, sT, sF] at hq; try (exfalso; omega)) | skip)) | refine aE rfl rfl (nb rfl) rfl rfl rfl rfl (c3) ?_ | refine aE rfl rfl (nb rfl) rfl rfl rfl rfl (c4) ?_ | refine aE rfl rfl (nb rfl) rfl rfl rfl rfl (c5) ?_ | refine aE rfl rfl (nb rfl) rfl rfl rfl rfl (c6) ?_) | (refine aN ?_;  first | refine aH ?_ | refine aQ ?_ | refine aT ?_ | refine aU ?_ | refine aA (b := true) rfl (fun _ => ?_) nTf | refine aA (b := false) rfl nFt (fun _ => ?_)) | (refine aK ?_;  first | refine aX ?_ | refine aR ?_))
            all_goals first
              | exact absurd rfl (by assumption)
              | (exfalso; omega)
              | (refine aV (by first | exact .inl rfl | exact .inr rfl) (bD rfl (aC rfl) (aC rfl)) rfl ?_; rfl)
          · rw [if_neg hsm] at hQ
            have hsm : sameP X1 Y1 = false := by simpa using hsm
            rw [hsm] at c6
            by_cases hbx : boundP N X1 = true
            · rw [if_pos hbx] at hQ
              obtain ⟨i, rfl, i0, i1, i2⟩ := fP x0 hbx
              have enum : (varT i).num = i := rfl
              rw [enum] at hQ
              have hmm : (exT N s).size * Y1.size ≤ (exT N s).size * (exT N s).size := Nat.mul_le_mul_left _ (by omega)
              have c9 := iP (exT N s) i Y1 hwn (by omega) (by omega) (by omega)
              rw [hQ] at c9
              clear hQ hXok hYok x0 y0 hxw hyw h1 h3 ek en hwn hsm hm hz hn xs ys hmm hbx
              unfold exT varT at *
              obtain ⟨Q1, Q2⟩ := Q
              dsimp only at *
              refine aJ Tryz.func14 rfl rfl (nb rfl) rfl ?_
              repeat' (first | refine aG ?_ | (refine aI ?_;  first | refine aD tabOk rfl rfl rfl (nb rfl) rfl ?_ | (refine aM rfl rfl rfl (nb rfl) rfl rfl rfl (fun hq => ?_) (fun hq => ?_) <;> (first | (simp only [sD, sE, sB, sC, sN, sM, sT, sF] at hq; try (exfalso; omega)) | skip)) | refine aE rfl rfl (nb rfl) rfl rfl rfl rfl (c3) ?_ | refine aE rfl rfl (nb rfl) rfl rfl rfl rfl (c4) ?_ | refine aE rfl rfl (nb rfl) rfl rfl rfl rfl (c5) ?_ | refine aE rfl rfl (nb rfl) rfl rfl rfl rfl (c6) ?_ | refine aE rfl rfl (nb rfl) rfl rfl rfl rfl (c9) ?_) | (refine aN ?_;  first | refine aH ?_ | refine aQ ?_ | refine aT ?_ | refine aU ?_ | refine aA (b := true) rfl (fun _ => ?_) nTf | refine aA (b := false) rfl nFt (fun _ => ?_) | refine aW mixed (by kernel_rfl) ?_) | (refine aK ?_;  first | refine aX ?_ | refine aR ?_) | refine bQ (bL (by kernel_rfl)) ?_)
              all_goals first
                | exact absurd rfl (by assumption)
                | (exfalso; omega)
                | (refine aV (by first | exact .inl rfl | exact .inr rfl) (bD rfl (aC rfl) (aC rfl)) rfl ?_; rfl)
            · rw [if_neg hbx] at hQ
              by_cases hby : boundP N Y1 = true
              · rw [if_pos hby] at hQ
                obtain ⟨i, rfl, i0, i1, i2⟩ := fP y0 hby
                have enum : (varT i).num = i := rfl
                rw [enum] at hQ
                have hmm : (exT N s).size * X1.size ≤ (exT N s).size * (exT N s).size := Nat.mul_le_mul_left _ (by omega)
                have c9 := iP (exT N s) i X1 hwn (by omega) (by omega) (by omega)
                rw [hQ] at c9
                obtain ⟨k, m, a', b', kids, rfl⟩ := cF hxw
                have hbx : ¬ (k = 110 ∧ m < N) := fun h => hbx (by show (decide (k = 110) && decide (m < N)) = true; rw [decide_eq_true h.1, decide_eq_true h.2]; rfl)
                clear hQ hXok hYok x0 y0 hxw hyw h1 h3 ek en hwn hsm hm hz hn xs ys hmm hby
                unfold exT varT at *
                obtain ⟨Q1, Q2⟩ := Q
                dsimp only at *
                refine aJ Tryz.func14 rfl rfl (nb rfl) rfl ?_
                repeat' (first | refine aG ?_ | (refine aI ?_;  first | refine aD tabOk rfl rfl rfl (nb rfl) rfl ?_ | refine bE rfl rfl (nb rfl) ?_ | (refine aM rfl rfl rfl (nb rfl) rfl rfl rfl (fun hq => ?_) (fun hq => ?_) <;> (first | (simp only [sD, sE, sB, sC, sN, sM, sT, sF] at hq; try (exfalso; omega)) | skip)) | refine aE rfl rfl (nb rfl) rfl rfl rfl rfl (c3) ?_ | refine aE rfl rfl (nb rfl) rfl rfl rfl rfl (c4) ?_ | refine aE rfl rfl (nb rfl) rfl rfl rfl rfl (c5) ?_ | refine aE rfl rfl (nb rfl) rfl rfl rfl rfl (c6) ?_ | refine aE rfl rfl (nb rfl) rfl rfl rfl rfl (c9) ?_) | (refine aN ?_;  first | refine aH ?_ | refine aQ ?_ | refine aT ?_ | refine aU ?_ | refine aA (b := true) rfl (fun _ => ?_) nTf | refine aA (b := false) rfl nFt (fun _ => ?_) | refine aW mixed (by kernel_rfl) ?_) | (refine aK ?_;  first | refine aX ?_ | refine aR ?_) | refine bQ (bL (by kernel_rfl)) ?_)
                all_goals first
                  | exact absurd rfl (by assumption)
                  | exact absurd ⟨by assumption, by assumption⟩ hbx
                  | (exfalso; omega)
                  | (refine aV (by first | exact .inl rfl | exact .inr rfl) (bD rfl (aC rfl) (aC rfl)) rfl ?_; rfl)
              · rw [if_neg hby] at hQ
                subst hQ
                obtain ⟨k, m, a', b', kids, rfl⟩ := cF hxw
                obtain ⟨k2, m2, a2, b2, kids2, rfl⟩ := cF hyw
                have hbx : ¬ (k = 110 ∧ m < N) := fun h => hbx (by show (decide (k = 110) && decide (m < N)) = true; rw [decide_eq_true h.1, decide_eq_true h.2]; rfl)
                have hby : ¬ (k2 = 110 ∧ m2 < N) := fun h => hby (by show (decide (k2 = 110) && decide (m2 < N)) = true; rw [decide_eq_true h.1, decide_eq_true h.2]; rfl)
                clear hXok hYok x0 y0 hxw hyw h1 h3 ek en hwn hsm hm hz hn xs ys
                unfold exT at *
                dsimp only at *
                refine aJ Tryz.func14 rfl rfl (nb rfl) rfl ?_
                repeat' (first | refine aG ?_ | (refine aI ?_;  first | refine aD tabOk rfl rfl rfl (nb rfl) rfl ?_ | refine bE rfl rfl (nb rfl) ?_ | (refine aM rfl rfl rfl (nb rfl) rfl rfl rfl (fun hq => ?_) (fun hq => ?_) <;> (first | (simp only [sD, sE, sB, sC, sN, sM, sT, sF] at hq; try (exfalso; omega)) | skip)) | refine aE rfl rfl (nb rfl) rfl rfl rfl rfl (c3) ?_ | refine aE rfl rfl (nb rfl) rfl rfl rfl rfl (c4) ?_ | refine aE rfl rfl (nb rfl) rfl rfl rfl rfl (c5) ?_ | refine aE rfl rfl (nb rfl) rfl rfl rfl rfl (c6) ?_) | (refine aN ?_;  first | refine aH ?_ | refine aQ ?_ | refine aT ?_ | refine aU ?_ | refine aA (b := false) rfl nFt (fun _ => ?_) | refine aW mixed (by kernel_rfl) ?_) | (refine aK ?_;  first | refine aX ?_) | refine bQ (bL (by kernel_rfl)) ?_)
                all_goals first
                  | exact absurd rfl (by assumption)
                  | exact absurd ⟨by assumption, by assumption⟩ hbx
                  | exact absurd ⟨by assumption, by assumption⟩ hby
                  | (exfalso; omega)
                  | (refine aV (by first | exact .inl rfl | exact .inr rfl) (bD rfl (aC rfl) (aC rfl)) rfl ?_; rfl)
        · rw [if_pos hY] at hQ
          subst hQ
          clear hXok hYok x0 hxw h1 h3 ek en hwn hm hz hn xs
          unfold exT at *
          refine aJ Tryz.func14 rfl rfl (nb rfl) rfl ?_
          repeat' (first | refine aG ?_ | (refine aI ?_;  first | refine aD tabOk rfl rfl rfl (nb rfl) rfl ?_ | (refine aM rfl rfl rfl (nb rfl) rfl rfl rfl (fun hq => ?_) (fun hq => ?_) <;> (first | (simp only [sD, sE, sB, sC, sN, sM, sT, sF] at hq; try (exfalso; omega)) | skip)) | refine aE rfl rfl (nb rfl) rfl rfl rfl rfl (c3) ?_ | refine aE rfl rfl (nb rfl) rfl rfl rfl rfl (c4) ?_ | refine aE rfl rfl (nb rfl) rfl rfl rfl rfl (c5) ?_) | (refine aN ?_;  first | refine aH ?_ | refine aQ ?_ | refine aT ?_ | refine aU ?_ | refine aA (b := true) rfl (fun _ => ?_) nTf | refine aA (b := false) rfl nFt (fun _ => ?_)) | (refine aK ?_;  first | refine aX ?_ | refine aR ?_))
          all_goals first
            | exact absurd rfl (by assumption)
            | exact absurd (by assumption) hY
            | (exfalso; omega)
            | (refine aV (by first | exact .inl rfl | exact .inr rfl) (bD rfl (aC rfl) (aC rfl)) rfl ?_; rfl)
      · rw [if_pos hX] at hQ
        subst hQ
        clear hXok hYok h1 h3 ek en hwn hm hz hn
        unfold exT at *
        refine aJ Tryz.func14 rfl rfl (nb rfl) rfl ?_
        repeat' (first | refine aG ?_ | (refine aI ?_;  first | refine aD tabOk rfl rfl rfl (nb rfl) rfl ?_ | (refine aM rfl rfl rfl (nb rfl) rfl rfl rfl (fun hq => ?_) (fun hq => ?_) <;> (first | (simp only [sD, sE, sB, sC, sN, sM, sT, sF] at hq; try (exfalso; omega)) | skip)) | refine aE rfl rfl (nb rfl) rfl rfl rfl rfl (c3) ?_ | refine aE rfl rfl (nb rfl) rfl rfl rfl rfl (c4) ?_) | (refine aN ?_;  first | refine aH ?_ | refine aQ ?_ | refine aT ?_ | refine aU ?_ | refine aA (b := true) rfl (fun _ => ?_) nTf | refine aA (b := false) rfl nFt (fun _ => ?_)) | (refine aK ?_;  first | refine aX ?_ | refine aR ?_))
        all_goals first
          | exact absurd rfl (by assumption)
          | exact absurd (by assumption) hX
          | (exfalso; omega)
          | (refine aV (by first | exact .inl rfl | exact .inr rfl) (bD rfl (aC rfl) (aC rfl)) rfl ?_; rfl)
    · rw [if_pos h3] at hQ
      subst hQ
      clear hm
      obtain ⟨k, m, a', b', kids, rfl⟩ := cF (bK h1).1
      have h3 : ¬ k = 164 := h3
      refine aJ Tryz.func14 rfl rfl (nb rfl) rfl ?_
      repeat' (first | refine aG ?_ | (refine aI ?_;  first | refine aD tabOk rfl rfl rfl (nb rfl) rfl ?_ | (refine aM rfl rfl rfl (nb rfl) rfl rfl rfl (fun hq => ?_) (fun hq => ?_) <;> (first | (simp only [sD, sE, sB, sC, sN, sM, sT, sF] at hq; try (exfalso; omega)) | skip)) | refine aE rfl rfl (nb rfl) rfl rfl rfl rfl (c3) ?_) | (refine aN ?_;  first | refine aH ?_ | refine aQ ?_ | refine aT ?_ | refine aU ?_ | refine aA (b := true) rfl (fun _ => ?_) nTf | refine aA (b := false) rfl nFt (fun _ => ?_)) | (refine aK ?_;  first | refine aX ?_ | refine aR ?_))
      all_goals first
        | exact absurd rfl (by assumption)
        | exact absurd (by assumption) h3
        | (refine aV (by first | exact .inl rfl | exact .inr rfl) (bD rfl (aC rfl) (aC rfl)) rfl ?_; rfl)
  · rw [if_pos h1] at hQ
    subst hQ
    clear hm
    generalize checkP sformP n = C at *
    refine aJ Tryz.func14 rfl rfl (nb rfl) rfl ?_
    repeat' (first | refine aG ?_ | (refine aI ?_;  first | refine aD tabOk rfl rfl rfl (nb rfl) rfl ?_ | (refine aM rfl rfl rfl (nb rfl) rfl rfl rfl (fun hq => ?_) (fun hq => ?_) <;> (first | (simp only [sD, sE, sB, sC, sN, sM, sT, sF] at hq; try (exfalso; omega)) | skip)) | refine aE rfl rfl (nb rfl) rfl rfl rfl rfl (c3) ?_) | (refine aN ?_;  first | refine aH ?_ | refine aQ ?_ | refine aT ?_ | refine aA (b := true) rfl (fun _ => ?_) nTf) | (refine aK ?_;  first | refine aR ?_))
    all_goals first
      | exact absurd rfl (by assumption)
      | exact absurd (by assumption) h1
      | (refine aV (by first | exact .inl rfl | exact .inr rfl) (bD rfl (aC rfl) (aC rfl)) rfl ?_; rfl)
def okT (t : Tree) : Prop := (t = .nil ∨ t.whole = true) ∧ t.size ≤ 1000000
theorem jW : okT .nil := ⟨.inl rfl, by rw [lL]; omega⟩
theorem gI (n : Tree) (i : Int) (c : Tree) : okT (solveP n i c).1 := by
  by_cases h : (solveP n i c).2 = 0
  · unfold solveP at h ⊢
    by_cases h1 : checkP sformP n = 0
    · rw [if_neg (by simpa using h1)] at h ⊢
      by_cases h2 : checkP isConP c = 0
      · rw [if_neg (by simpa using h2)] at h ⊢
        by_cases h3 : n.kind = 164
        · rw [if_neg (by simpa using h3)] at h ⊢
          obtain ⟨_, _, _, _, s2, _, s4⟩ := zX h
          rw [s4]
          obtain ⟨_, _, _, _, _, g6, g7⟩ := kQ s2
          refine ⟨.inr ?_, ?_⟩
          · show Tree.wholes [_] = true
            rw [Tree.wholes, g6]; rfl
          · unfold exT; simp only [Tree.size, Tree.sizes]; omega
        · rw [if_pos h3]; exact jW
      · rw [if_pos h2]; exact jW
    · rw [if_pos h1]; exact jW
  · rw [iO h]; exact jW
theorem uU (n : Tree) (long : ByteArray) (c : Tree) : okT (whereP n long c).1 := by
  by_cases h : (whereP n long c).2 = 0
  · obtain ⟨N, s, rfl, h1, _, _, _, _, _, _, _, _, hcase⟩ := zY h
    rcases hcase with ⟨_, E⟩ | ⟨_, _, E⟩
    · rw [E]; exact gI _ _ _
    · rw [E]
      obtain ⟨hw, hz, _⟩ := bK h1
      exact ⟨.inr hw, by dsimp only; omega⟩
  · rw [wW h]; exact jW
theorem uV (n : Tree) (a b : ByteArray) : okT (shareP n a b).1 := by
  by_cases h : (shareP n a b).2 = 0
  · obtain ⟨N, s, rfl, h1, _, _, _, _, _, _, _, hcase⟩ := aBu h
    rcases hcase with ⟨_, E⟩ | ⟨_, _, E⟩ | ⟨_, _, _, E⟩
    · rw [E]
      obtain ⟨hw, hz, _⟩ := bK h1
      exact ⟨.inr hw, by dsimp only; omega⟩
    · rw [E]; exact gI _ _ _
    · rw [E]; exact gI _ _ _
  · rw [wY h]; exact jW
end Go.Proofs.YtdajnmffoopcaaaGreatDoor.Ab
namespace Go.Proofs.YtdajnmffoopcaaaGreatDoor.Ab
set_option linter.unusedVariables false
set_option linter.unusedSimpArgs false
open Go.RowKit Go.Proofs.YtdajnmffoopcaaaGreatDoor.RP
attribute [local irreducible] AWP AOps AExit AThen ABlock ANoGoto FeetOk
set_option maxHeartbeats 8000000 in
set_option maxRecDepth 10000 in
theorem pM (l m : List CellD) (hl : ∀ c ∈ l, c.f = false) (hm : ∀ c ∈ m, c.f = false) (i : Int) : ACalls Tryz.prog 3 [.imm (.agg [.sl false l.length (cellIVs l)]), .imm (.lit (.int .i64 i)), .imm (.agg [.sl false m.length (cellIVs m)])] [] (.imm (.lit (.bool true))) [] := by
  obtain ⟨x, x1, _, x3, d1⟩ := nI l hl
  obtain ⟨y, y1, _, y3, d2⟩ := nI m hm
  have hxy : x.size * y.size ≤ 60 * 60 := Nat.mul_le_mul x1 y1
  have c1 := nM x i y (by omega) (by omega) (by omega)
  have c2 := iP x i y x3 (by omega) (by omega) (by omega)
  obtain ⟨f1, f2⟩ := gI x i y
  generalize solveP x i y = Q at *
  have s1 := iJ Q.1 Q.1 f1 f1 f2 f2
  rw [(gZ _ _).2 rfl] at s1
  obtain ⟨Q1, Q2⟩ := Q
  dsimp only at *
  clear f1 f2 hxy
  refine aJ Tryz.func3 rfl rfl (nb rfl) rfl ?_
  repeat' (first | refine aG ?_ | (refine aI ?_;  first | refine aD tabOk rfl rfl rfl (nb rfl) rfl ?_ | (refine aM rfl rfl rfl (nb rfl) rfl rfl rfl (fun hq => ?_) (fun hq => ?_) <;> (first | (simp only [sD, sE, sB, sC, sN, sM, sT, sF] at hq; try (exfalso; omega)) | skip)) | refine aE rfl rfl (nb rfl) rfl rfl rfl rfl (d1) ?_ | refine aE rfl rfl (nb rfl) rfl rfl rfl rfl (d2) ?_ | refine aE rfl rfl (nb rfl) rfl rfl rfl rfl (c1) ?_ | refine aE rfl rfl (nb rfl) rfl rfl rfl rfl (c2) ?_ | refine aE rfl rfl (nb rfl) rfl rfl rfl rfl (s1) ?_ | refine aE rfl rfl (nb rfl) rfl rfl rfl rfl (qT) ?_ | refine bB tabOk rfl rfl (nb rfl) rfl ?_) | (refine aN ?_;  first | refine aH ?_ | refine aQ ?_ | refine aT ?_ | refine aW mixed (by kernel_rfl) ?_) | (refine aK ?_;  first | refine aX ?_) | refine bQ (bL (by kernel_rfl)) ?_)
  all_goals first
    | exact cL (by first | exact .inl rfl | exact .inr rfl) (aZ rfl (aC rfl)) rfl
    | exact absurd rfl (by assumption)
    | (exfalso; omega)
theorem WheresSolves_law (xs : List IV) (h : FitsAll [tyTree, .int .i64, tyTree] xs) : ACalls Tryz.prog 3 (xs.map .imm) [] (.imm (.lit (.bool true))) [] := by
  cases h with
  | cons h1 h =>
    cases h with
    | cons h2 h =>
      cases h with
      | cons h3 h =>
        cases h
        obtain ⟨l, rfl, hl⟩ := jT h1
        obtain ⟨m, rfl, hm⟩ := jT h3
        cases h2 with
        | int k n hn => exact pM l m hl hm n
set_option maxHeartbeats 8000000 in
set_option maxRecDepth 10000 in
theorem pX (l m : List CellD) (hl : ∀ c ∈ l, c.f = false) (hm : ∀ c ∈ m, c.f = false) (a b : ByteArray) : ACalls Tryz.prog 4 [.imm (.agg [.sl false l.length (cellIVs l)]), .imm (.agg [.lit (.string a), .lit (.string b)]), .imm (.agg [.sl false m.length (cellIVs m)])] [] (.imm (.lit (.bool true))) [] := by
  obtain ⟨x, x1, _, x3, d1⟩ := nI l hl
  obtain ⟨y, y1, _, y3, d2⟩ := nI m hm
  have k1 := xV a
  have k2 := xV b
  have hA := pL a
  have hB := pL b
  generalize few20 a = A at *
  generalize few20 b = B at *
  have hxy : x.size * y.size ≤ 60 * 60 := Nat.mul_le_mul x1 y1
  have hxx : x.size * x.size ≤ 60 * 60 := Nat.mul_le_mul x1 x1
  have c1 := xS x A y (by omega) (by omega) (by omega) (by omega)
  have c2 := wZ x A y x3 (by omega) (by omega) (by omega) (by omega)
  have c3 := aCm x A B (by omega) (by omega) (by omega) (.inr (by omega))
  have c4 := xA x A B x3 (by omega) (by omega) (by omega) (by omega)
  obtain ⟨f1, f2⟩ := uU x A y
  obtain ⟨f3, f4⟩ := uV x A B
  generalize whereP x A y = Q at *
  generalize shareP x A B = R at *
  have s1 := iJ Q.1 Q.1 f1 f1 f2 f2
  have s2 := iJ R.1 R.1 f3 f3 f4 f4
  have s3 := iJ x x x3 x3 (by omega) (by omega)
  rw [(gZ _ _).2 rfl] at s1 s2 s3
  obtain ⟨Q1, Q2⟩ := Q
  obtain ⟨R1, R2⟩ := R
  dsimp only at *
  clear f1 f2 f3 f4 hxy hxx
  refine aJ Tryz.func4 rfl rfl (nb rfl) rfl ?_
  repeat' (first | refine aG ?_ | (refine aI ?_;  first | refine aD tabOk rfl rfl rfl (nb rfl) rfl ?_ | (refine aM rfl rfl rfl (nb rfl) rfl rfl rfl (fun hq => ?_) (fun hq => ?_) <;> (first | (simp only [sD, sE, sB, sC, sN, sM, sT, sF] at hq; try (exfalso; omega)) | skip)) | refine pT tabOk rfl rfl rfl (nb rfl) rfl rfl rfl rfl rfl (by decide) ?_ | refine aE rfl rfl (nb rfl) rfl rfl rfl rfl (d1) ?_ | refine aE rfl rfl (nb rfl) rfl rfl rfl rfl (d2) ?_ | refine aE rfl rfl (nb rfl) rfl rfl rfl rfl (k1) ?_ | refine aE rfl rfl (nb rfl) rfl rfl rfl rfl (k2) ?_ | refine aE rfl rfl (nb rfl) rfl rfl rfl rfl (c1) ?_ | refine aE rfl rfl (nb rfl) rfl rfl rfl rfl (c2) ?_ | refine aE rfl rfl (nb rfl) rfl rfl rfl rfl (c3) ?_ | refine aE rfl rfl (nb rfl) rfl rfl rfl rfl (c4) ?_ | refine aE rfl rfl (nb rfl) rfl rfl rfl rfl (s1) ?_ | refine aE rfl rfl (nb rfl) rfl rfl rfl rfl (s2) ?_ | refine aE rfl rfl (nb rfl) rfl rfl rfl rfl (s3) ?_ | refine aE rfl rfl (nb rfl) rfl rfl rfl rfl (qT) ?_ | refine bB tabOk rfl rfl (nb rfl) rfl ?_) | (refine aN ?_;  first | refine aH ?_ | refine aQ ?_ | refine aT ?_ | refine aW mixed (by kernel_rfl) ?_) | (refine aK ?_;  first | refine aX ?_) | refine bQ (bL (by kernel_rfl)) ?_)
  all_goals first
    | exact cL (by first | exact .inl rfl | exact .inr rfl) (aZ rfl (aC rfl)) rfl
    | exact absurd rfl (by assumption)
    | (exfalso; omega)
theorem aBv {x : IV} (h : FitsV (.array 2 .string) x) : ∃ a b : ByteArray, x = .agg [.lit (.string a), .lit (.string b)] := by
  obtain ⟨xs, rfl, h⟩ := h
  cases h with
  | array n e ys hn hy =>
    match ys, hn, hy with
    | [y, z], _, hy =>
      have h1 := hy y (by simp)
      have h2 := hy z (by simp)
      cases h1 with
      | string a ha =>
        cases h2 with
        | string b hb => exact ⟨a, b, rfl⟩
theorem WheresKnows_law (xs : List IV) (h : FitsAll [tyTree, .array 2 .string, tyTree] xs) : ACalls Tryz.prog 4 (xs.map .imm) [] (.imm (.lit (.bool true))) [] := by
  cases h with
  | cons h1 h =>
    cases h with
    | cons h2 h =>
      cases h with
      | cons h3 h =>
        cases h
        obtain ⟨l, rfl, hl⟩ := jT h1
        obtain ⟨a, b, rfl⟩ := aBv h2
        obtain ⟨m, rfl, hm⟩ := jT h3
        exact pX l m hl hm a b
end Go.Proofs.YtdajnmffoopcaaaGreatDoor.Ab
