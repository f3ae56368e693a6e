/- Words, walks and laws under the claim's statement: what it uses of them. No condition of its own. -/
import Derived.Test.YtocaohipfiapkaaGreatDoorTKL1
import Derived.Test.YtocaohipfiapkaaGreatDoorTKL3
import Derived.Test.YtocaohipfiapkaaGreatDoorTKS0
import Derived.Test.YtocaohipfiapkaaGreatDoorTKAb1
namespace Go.Proofs.YtocaohipfiapkaaGreatDoor.Ab
set_option linter.unusedVariables false
set_option linter.unusedSimpArgs false
open Go.RowKit Go.Proofs.YtocaohipfiapkaaGreatDoor.RP
attribute [local irreducible] AWP AOps AExit AThen ABlock ANoGoto FeetOk
theorem dT (a b : ByteArray) : (a ++ b).size = a.size + b.size := by rw [← iZ, ByteArray.data_append, Array.toList_append, List.length_append, iZ, iZ]
theorem zY (s : ByteArray) : (splitP s).length ≤ s.size + 1 ∧ ∀ p ∈ splitP s, p.size ≤ s.size := by
  unfold splitP
  split
  · exact ⟨rY s, sG s⟩
  · exact ⟨by simp, by simp⟩
/-- The label that is asked for: the last name's of a space, the others' of modules. -/
def labS (space : ByteArray) (last : Bool) (s : ByteArray) : ByteArray := if last then (space ++ ⟨#[58]⟩) ++ s else ⟨#[109, 58]⟩ ++ s
def atS (space : ByteArray) : List ByteArray → Tree → Tree × Int
  | [], t => (t, 0)
  | s :: ss, t => if (fieldP (labS space ss.isEmpty s) t.kids).2 = true then atS space ss (fieldP (labS space ss.isEmpty s) t.kids).1 else (.nil, 8)
def spOk (space : ByteArray) : Bool := eqB space ⟨#[118]⟩ || eqB space ⟨#[116]⟩ || eqB space ⟨#[109]⟩
def sAtP (t : Tree) (space long : ByteArray) : Tree × Int :=
  if checkP sformP t ≠ 0 then (.nil, checkP sformP t) else if (isSigP t && spOk space) = false then (.nil, 16) else if longP long = false then (.nil, 2) else atS space (splitP long) t
theorem aEs (space s : ByteArray) : labS space true s = (space ++ ⟨#[58]⟩) ++ s := by unfold labS; rw [if_pos rfl]
theorem aEt (space s : ByteArray) : labS space false s = ⟨#[109, 58]⟩ ++ s := by unfold labS; rw [if_neg (by simp)]
theorem zZ (l : List ByteArray) (j : Nat) (h : j < l.length) : (l.drop (j + 1)).isEmpty = decide (j + 1 = l.length) := by
  by_cases e : j + 1 = l.length
  · rw [decide_eq_true e, e, List.drop_length]; rfl
  · rw [decide_eq_false e, List.isEmpty_eq_false_iff]
    intro h0
    have := congrArg List.length h0
    rw [List.length_drop, List.length_nil] at this
    omega
set_option maxHeartbeats 4000000 in
set_option maxRecDepth 10000 in
theorem aBR (t : Tree) (label : ByteArray) (hw : t.whole = true) : ACalls Tryz.prog 31 [.imm t.iv, .obj 1001 0] [(1001, .cells [.imm (.lit (.string label))])] (.imm (.lit (.bool (isLab label t)))) [(1001, .cells [.imm (.lit (.string label))])] := by
  obtain ⟨k, n, a, b, kids, rfl⟩ := bY hw
  have e : isLab label (.node k n a b kids) = (decide (k = 163) && eqB a label) := rfl
  rw [e]
  refine bX [1001] Tryz.func31 rfl rfl (nb rfl) rfl rfl ?_
  repeat' (first | refine aE ?_ | (refine aG ?_;  first | refine aB tabOk rfl rfl rfl (nb rfl) rfl ?_ | refine bL rfl rfl (nb rfl) ?_ | (refine aI rfl rfl rfl (nb rfl) rfl rfl rfl (fun hq => ?_) (fun hq => ?_) <;> (first | (simp only [sD, sE, sB, sC, sN, sM, sT, sF] at hq; try (exfalso; omega)) | skip)) | refine bK tabOk rfl rfl rfl (nb rfl) rfl rfl rfl rfl ?_) | (refine aK ?_;  first | refine aF ?_ | refine aL ?_ | refine aM ?_ | refine aQ mixed (by kernel_rfl) ?_) | (refine aJ ?_;  first | refine aU ?_) | refine bC (aZ (by kernel_rfl)) ?_)
  all_goals (refine cB (cA (by first | exact .inl rfl | exact .inr rfl) (aW rfl (aA rfl)) rfl (by repeat' first | exact trivial | refine ⟨rfl, ?_⟩) rfl ?_); refine cE ?_; simp_all [eqB])
set_option maxHeartbeats 16000000 in
set_option maxRecDepth 10000 in
theorem At_a (t : Tree) (space long : ByteArray) (hs : t.size ≤ 100000) (hp : space.size ≤ 100000) (hl : long.size ≤ 100000) : ACalls Tryz.prog 13 [.imm t.iv, .imm (.lit (.string space)), .imm (.lit (.string long))] [] (.imm (.tup [(sAtP t space long).1.iv, .lit (.int .i64 (sAtP t space long).2)])) [] := by
  have c1 := qY t (by omega)
  obtain ⟨Q, hQ⟩ : ∃ Q, sAtP t space long = Q := ⟨_, rfl⟩
  rw [hQ]
  unfold sAtP at hQ
  by_cases hc : checkP sformP t = 0
  · rw [if_neg (by simpa using hc)] at hQ
    rw [hc] at c1
    obtain ⟨hw, hz, _⟩ := bI hc
    have c2 := kV t hw (by omega)
    cases hsig : isSigP t with
    | false =>
      rw [hsig] at c2 hQ
      rw [Bool.false_and, if_pos rfl] at hQ
      subst hQ
      refine aH Tryz.func13 rfl rfl (nb rfl) rfl ?_
      repeat' (first | refine aE ?_ | (refine aG ?_;  first | refine aB tabOk rfl rfl rfl (nb rfl) rfl ?_ | refine bL rfl rfl (nb rfl) ?_ | (refine aI rfl rfl rfl (nb rfl) rfl rfl rfl (fun hq => ?_) (fun hq => ?_) <;> (first | (simp only [sD, sE, sB, sC, sN, sM, sT, sF] at hq; try (exfalso; omega)) | skip)) | refine aD rfl rfl (nb rfl) rfl rfl rfl rfl (c1) ?_ | refine aD rfl rfl (nb rfl) rfl rfl rfl rfl (c2) ?_) | (refine aK ?_;  first | refine aF ?_ | refine aL ?_ | refine aR ?_ | refine aM ?_ | refine aS ?_ | refine aC (b := true) rfl (fun _ => ?_) nTf | refine aC (b := false) rfl nFt (fun _ => ?_)) | (refine aJ ?_;  first | refine aU ?_ | refine aN ?_) | (refine aP ?_;  first | refine aX ?_))
      all_goals first
        | exact absurd rfl (by assumption)
        | (refine aO (by first | exact .inl rfl | exact .inr rfl) (aV rfl (aA rfl) (aA rfl)) rfl ?_; rfl)
    | true =>
      rw [hsig] at c2 hQ
      rw [Bool.true_and] at hQ
      cases hsp : spOk space with
      | false =>
        rw [hsp] at hQ
        rw [if_pos rfl] at hQ
        subst hQ
        unfold spOk at hsp
        refine aH Tryz.func13 rfl rfl (nb rfl) rfl ?_
        repeat' (first | refine aE ?_ | (refine aG ?_;  first | refine aB tabOk rfl rfl rfl (nb rfl) rfl ?_ | refine bL rfl rfl (nb rfl) ?_ | (refine aI rfl rfl rfl (nb rfl) rfl rfl rfl (fun hq => ?_) (fun hq => ?_) <;> (first | (simp only [sD, sE, sB, sC, sN, sM, sT, sF] at hq; try (exfalso; omega)) | skip)) | refine aD rfl rfl (nb rfl) rfl rfl rfl rfl (c1) ?_ | refine aD rfl rfl (nb rfl) rfl rfl rfl rfl (c2) ?_) | (refine aK ?_;  first | refine aF ?_ | refine aL ?_ | refine aR ?_ | refine aM ?_ | refine aS ?_ | refine aC (b := true) rfl (fun _ => ?_) nTf | refine aC (b := false) rfl nFt (fun _ => ?_)) | (refine aJ ?_;  first | refine aU ?_ | refine aN ?_) | (refine aP ?_;  first | refine aX ?_))
        all_goals first
          | exact absurd rfl (by assumption)
          | (refine aO (by first | exact .inl rfl | exact .inr rfl) (aV rfl (aA rfl) (aA rfl)) rfl ?_; rfl)
          | (exfalso; simp_all [eqB]; done)
      | true =>
        rw [hsp] at hQ
        rw [if_neg (by simp)] at hQ
        unfold spOk at hsp
        have c3 := aAC long hl
        have c4 := aDg long hl
        obtain ⟨hsl, hsz⟩ := zY long
        cases hlg : longP long with
        | false =>
          rw [hlg] at c3 hQ
          rw [if_pos rfl] at hQ
          subst hQ
          clear c4
          refine aH Tryz.func13 rfl rfl (nb rfl) rfl ?_
          repeat' (first | refine aE ?_ | (refine aG ?_;  first | refine aB tabOk rfl rfl rfl (nb rfl) rfl ?_ | refine bL rfl rfl (nb rfl) ?_ | (refine aI rfl rfl rfl (nb rfl) rfl rfl rfl (fun hq => ?_) (fun hq => ?_) <;> (first | (simp only [sD, sE, sB, sC, sN, sM, sT, sF] at hq; try (exfalso; omega)) | skip)) | refine aD rfl rfl (nb rfl) rfl rfl rfl rfl (c1) ?_ | refine aD rfl rfl (nb rfl) rfl rfl rfl rfl (c2) ?_ | refine aD rfl rfl (nb rfl) rfl rfl rfl rfl (c3) ?_) | (refine aK ?_;  first | refine aF ?_ | refine aL ?_ | refine aR ?_ | refine aM ?_ | refine aS ?_ | refine aC (b := true) rfl (fun _ => ?_) nTf | refine aC (b := false) rfl nFt (fun _ => ?_)) | (refine aJ ?_;  first | refine aU ?_ | refine aN ?_) | (refine aP ?_;  first | refine aX ?_))
          all_goals first
            | exact absurd rfl (by assumption)
            | (exfalso; simp_all [eqB]; done)
            | (refine aO (by first | exact .inl rfl | exact .inr rfl) (aV rfl (aA rfl) (aA rfl)) rfl ?_; rfl)
        | true =>
          rw [hlg] at c3 hQ
          rw [if_neg (by simp)] at hQ
          generalize splitP long = l at *
          refine aH Tryz.func13 rfl rfl (nb rfl) rfl ?_
          repeat' (first | refine aE ?_ | (refine aG ?_;  first | refine aB tabOk rfl rfl rfl (nb rfl) rfl ?_ | refine bL rfl rfl (nb rfl) ?_ | (refine aI rfl rfl rfl (nb rfl) rfl rfl rfl (fun hq => ?_) (fun hq => ?_) <;> (first | (simp only [sD, sE, sB, sC, sN, sM, sT, sF] at hq; try (exfalso; omega)) | skip)) | refine aD rfl rfl (nb rfl) rfl rfl rfl rfl (c1) ?_ | refine aD rfl rfl (nb rfl) rfl rfl rfl rfl (c2) ?_ | refine aD rfl rfl (nb rfl) rfl rfl rfl rfl (c3) ?_ | refine aD rfl rfl (nb rfl) rfl rfl rfl rfl (c4) ?_ | refine aT tabOk rfl rfl (nb rfl) rfl ?_) | (refine aK ?_;  first | refine aF ?_ | refine aL ?_ | refine aR ?_ | refine aM ?_ | refine aS ?_ | refine aC (b := true) rfl (fun _ => ?_) nTf | refine aC (b := false) rfl nFt (fun _ => ?_)) | (refine aJ ?_;  first | refine aU ?_ | refine aN ?_) | (refine aP ?_;  first | refine bM ?_ | refine aX ?_))
          all_goals first
            | exact absurd rfl (by assumption)
            | (exfalso; simp_all [eqB]; done)
            | skip
          all_goals (
            clear hsp
            refine bZ (ι := {p : Nat × Tree // p.1 ≤ l.length ∧ isSigP p.2 = true ∧ p.2.whole = true ∧ p.2.size ≤ 100000 ∧ atS space (l.drop p.1) p.2 = Q}) (fun p => S.f ⟨[(43, .imm (.lit (.int .i64 (p.1.1 : Int)))), (42, .imm (.lit (.int .i64 (l.length : Int)))), (41, .imm (.sl false l.length (strs l))), (9, .imm (.sl false l.length (strs l))), (0, .imm p.1.2.iv), (1, .imm (.lit (.string space)))], []⟩) (fun p => l.length - p.1.1) ⟨(0, t), Nat.zero_le _, hsig, hw, hs, hQ⟩ (bT (by repeat' first | exact trivial | refine ⟨rfl, ?_⟩) (by repeat' first | exact trivial | refine ⟨rfl, ?_⟩)) ?_
            rintro ⟨⟨j, u⟩, hj, us, uw, uz, hu⟩
            dsimp only at hj us uw uz hu ⊢
            clear c1 c2 c3 c4 hw hz hsig hs hc hQ hlg
            by_cases hlt : j < l.length
            · rw [List.drop_eq_getElem_cons hlt, atS, zZ l j hlt] at hu
              have hget := rX l j hlt
              have hsj := hsz _ (List.getElem_mem hlt)
              have s1 : (⟨#[109, 58]⟩ : ByteArray).size = 2 := rfl
              have s2 : (⟨#[58]⟩ : ByteArray).size = 1 := rfl
              have hf := yX us uw (labS space (decide (j + 1 = l.length)) l[j])
              have hkf := rE us
              generalize l[j] = s at *
              obtain ⟨k, n, a, b, kids, rfl⟩ := bY uw
              have hkl : kids.length < 1000000000 := by have := cG kids uw; simp only [Tree.size] at uz; omega
              change ∀ t ∈ kids, _ at hkf
              have ekk : (Tree.node k n a b kids).kids = kids := rfl
              rw [ekk] at hu hf
              have ci := fun label => mW kids 31 (.lit (.string label)) (isLab label) hkl (fun j h => aBR _ label (bF uw (List.getElem_mem h)))
              by_cases hlast : j + 1 = l.length
              · rw [decide_eq_true hlast] at hu hf
                rw [aEs] at hu hf
                replace ci := ci ((space ++ ⟨#[58]⟩) ++ s)
                rcases gP ((space ++ ⟨#[58]⟩) ++ s) kids 0 with ⟨h1, h2⟩ | ⟨i, h1, h2, h3, h4⟩
                · rw [h2] at hu
                  rw [if_neg (by simp)] at hu
                  subst hu
                  generalize findP (isLab ((space ++ ⟨#[58]⟩) ++ s)) kids 0 = Z at *
                  repeat' (first | refine aE ?_ | (refine aG ?_;  first | refine aB tabOk rfl rfl rfl (nb rfl) rfl ?_ | (refine aI rfl rfl rfl (nb rfl) rfl rfl rfl (fun hq => ?_) (fun hq => ?_) <;> (first | (simp only [sD, sE, sB, sC, sN, sM, sT, sF] at hq; try (exfalso; omega)) | skip)) | refine bA tabOk rfl rfl rfl (nb rfl) rfl rfl rfl hget ?_ | refine eO rfl rfl rfl (nb rfl) rfl rfl (by first | omega | (simp only [dT]; omega)) ?_ | refine cD 1001 tabOk rfl rfl rfl (nb rfl) rfl rfl rfl rfl rfl rfl ?_ | refine bW rfl rfl (nb rfl) rfl rfl rfl rfl ci (by repeat' first | exact trivial | refine ⟨rfl, ?_⟩) rfl (by show ([1001] : List Nat).Nodup; decide) ?_ | refine cF rfl rfl rfl (nb rfl) rfl rfl rfl (by omega) (by omega) ?_ | refine aT tabOk rfl rfl (nb rfl) rfl ?_ | refine bG tabOk rfl rfl rfl rfl rfl rfl rfl rfl rfl rfl rfl ?_ | refine bB tabOk rfl rfl rfl (nb rfl) rfl rfl rfl rfl (by first | assumption | omega) ?_) | (refine aK ?_;  first | refine aF ?_ | refine aL ?_ | refine bD ?_ | refine aR ?_ | refine aM ?_ | refine aS ?_ | refine aC (b := true) rfl (fun _ => ?_) nTf) | (refine aJ ?_;  first | refine aU ?_ | refine aN ?_) | (refine aP ?_;  first | refine aX ?_))
                  all_goals first
                    | (exfalso; omega)
                    | (refine aO (by first | exact .inl rfl | exact .inr rfl) (aV rfl (aA rfl) (aA rfl)) rfl ?_; rfl)
                · rw [h3] at hu hf
                  rw [if_pos rfl] at hu
                  rw [h2, Nat.add_zero] at ci
                  obtain ⟨g1, g2, g3⟩ := hf rfl
                  dsimp only at hu g1 g2 g3
                  have hm := List.getElem_mem h1
                  unfold isLab at h4
                  rw [Bool.and_eq_true, decide_eq_true_eq] at h4
                  obtain ⟨n', a', b', c, e⟩ := hkf _ hm h4.1
                  have hget2 := cC kids i h1
                  rw [e] at hget2 hu g1 g2 g3
                  dsimp only [kid0] at hu g1 g2 g3
                  clear h2 h3 h4 e hm hf hkf
                  repeat' (first | refine aE ?_ | (refine aG ?_;  first | refine aB tabOk rfl rfl rfl (nb rfl) rfl ?_ | (refine aI rfl rfl rfl (nb rfl) rfl rfl rfl (fun hq => ?_) (fun hq => ?_) <;> (first | (simp only [sD, sE, sB, sC, sN, sM, sT, sF] at hq; try (exfalso; omega)) | skip)) | refine bA tabOk rfl rfl rfl (nb rfl) rfl rfl rfl hget ?_ | refine eO rfl rfl rfl (nb rfl) rfl rfl (by first | omega | (simp only [dT]; omega)) ?_ | refine bA tabOk rfl rfl rfl (nb rfl) rfl rfl rfl hget2 ?_ | refine cD 1001 tabOk rfl rfl rfl (nb rfl) rfl rfl rfl rfl rfl rfl ?_ | refine bW rfl rfl (nb rfl) rfl rfl rfl rfl ci (by repeat' first | exact trivial | refine ⟨rfl, ?_⟩) rfl (by show ([1001] : List Nat).Nodup; decide) ?_ | refine bO rfl rfl rfl (nb rfl) rfl rfl (by omega) ?_ | refine cF rfl rfl rfl (nb rfl) rfl rfl rfl (by omega) (by omega) ?_ | refine aT tabOk rfl rfl (nb rfl) rfl ?_ | refine bG tabOk rfl rfl rfl rfl rfl rfl rfl rfl rfl rfl rfl ?_ | refine bB tabOk rfl rfl rfl (nb rfl) rfl rfl rfl rfl (by first | assumption | omega) ?_ | refine aY tabOk rfl rfl rfl (nb rfl) rfl rfl rfl rfl (by first | rfl | omega) (by first | omega | simp) ?_) | (refine aK ?_;  first | refine aF ?_ | refine aL ?_ | refine bD ?_ | refine aR ?_ | refine aS ?_ | refine aC (b := true) rfl (fun _ => ?_) nTf | refine aC (b := false) rfl nFt (fun _ => ?_)) | (refine aJ ?_;  first | refine aU ?_) | (refine aP ?_;  first | refine bM ?_))
                  all_goals first
                    | (exfalso; omega)
                    | exact ⟨⟨(j + 1, c), hlt, g1, g2, Nat.le_trans (Nat.le_of_lt g3) uz, hu⟩, (by show l.length - (j + 1) < l.length - j; omega), (bT (by repeat' first | exact trivial | refine ⟨rfl, ?_⟩) (by repeat' first | exact trivial | refine ⟨rfl, ?_⟩))⟩
              · rw [decide_eq_false hlast] at hu hf
                rw [aEt] at hu hf
                replace ci := ci (⟨#[109, 58]⟩ ++ s)
                rcases gP (⟨#[109, 58]⟩ ++ s) kids 0 with ⟨h1, h2⟩ | ⟨i, h1, h2, h3, h4⟩
                · rw [h2] at hu
                  rw [if_neg (by simp)] at hu
                  subst hu
                  generalize findP (isLab (⟨#[109, 58]⟩ ++ s)) kids 0 = Z at *
                  repeat' (first | refine aE ?_ | (refine aG ?_;  first | refine aB tabOk rfl rfl rfl (nb rfl) rfl ?_ | (refine aI rfl rfl rfl (nb rfl) rfl rfl rfl (fun hq => ?_) (fun hq => ?_) <;> (first | (simp only [sD, sE, sB, sC, sN, sM, sT, sF] at hq; try (exfalso; omega)) | skip)) | refine bA tabOk rfl rfl rfl (nb rfl) rfl rfl rfl hget ?_ | refine eO rfl rfl rfl (nb rfl) rfl rfl (by first | omega | (simp only [dT]; omega)) ?_ | refine cD 1001 tabOk rfl rfl rfl (nb rfl) rfl rfl rfl rfl rfl rfl ?_ | refine bW rfl rfl (nb rfl) rfl rfl rfl rfl ci (by repeat' first | exact trivial | refine ⟨rfl, ?_⟩) rfl (by show ([1001] : List Nat).Nodup; decide) ?_ | refine cF rfl rfl rfl (nb rfl) rfl rfl rfl (by omega) (by omega) ?_ | refine aT tabOk rfl rfl (nb rfl) rfl ?_ | refine bG tabOk rfl rfl rfl rfl rfl rfl rfl rfl rfl rfl rfl ?_ | refine bB tabOk rfl rfl rfl (nb rfl) rfl rfl rfl rfl (by first | assumption | omega) ?_) | (refine aK ?_;  first | refine aF ?_ | refine aL ?_ | refine aR ?_ | refine aM ?_ | refine aS ?_ | refine aC (b := true) rfl (fun _ => ?_) nTf | refine aC (b := false) rfl nFt (fun _ => ?_)) | (refine aJ ?_;  first | refine aU ?_ | refine aN ?_) | (refine aP ?_;  first | refine aX ?_))
                  all_goals first
                    | (exfalso; omega)
                    | (refine aO (by first | exact .inl rfl | exact .inr rfl) (aV rfl (aA rfl) (aA rfl)) rfl ?_; rfl)
                · rw [h3] at hu hf
                  rw [if_pos rfl] at hu
                  rw [h2, Nat.add_zero] at ci
                  obtain ⟨g1, g2, g3⟩ := hf rfl
                  dsimp only at hu g1 g2 g3
                  have hm := List.getElem_mem h1
                  unfold isLab at h4
                  rw [Bool.and_eq_true, decide_eq_true_eq] at h4
                  obtain ⟨n', a', b', c, e⟩ := hkf _ hm h4.1
                  have hget2 := cC kids i h1
                  rw [e] at hget2 hu g1 g2 g3
                  dsimp only [kid0] at hu g1 g2 g3
                  clear h2 h3 h4 e hm hf hkf
                  repeat' (first | refine aE ?_ | (refine aG ?_;  first | refine aB tabOk rfl rfl rfl (nb rfl) rfl ?_ | (refine aI rfl rfl rfl (nb rfl) rfl rfl rfl (fun hq => ?_) (fun hq => ?_) <;> (first | (simp only [sD, sE, sB, sC, sN, sM, sT, sF] at hq; try (exfalso; omega)) | skip)) | refine bA tabOk rfl rfl rfl (nb rfl) rfl rfl rfl hget ?_ | refine eO rfl rfl rfl (nb rfl) rfl rfl (by first | omega | (simp only [dT]; omega)) ?_ | refine bA tabOk rfl rfl rfl (nb rfl) rfl rfl rfl hget2 ?_ | refine cD 1001 tabOk rfl rfl rfl (nb rfl) rfl rfl rfl rfl rfl rfl ?_ | refine bW rfl rfl (nb rfl) rfl rfl rfl rfl ci (by repeat' first | exact trivial | refine ⟨rfl, ?_⟩) rfl (by show ([1001] : List Nat).Nodup; decide) ?_ | refine bO rfl rfl rfl (nb rfl) rfl rfl (by omega) ?_ | refine cF rfl rfl rfl (nb rfl) rfl rfl rfl (by omega) (by omega) ?_ | refine aT tabOk rfl rfl (nb rfl) rfl ?_ | refine bG tabOk rfl rfl rfl rfl rfl rfl rfl rfl rfl rfl rfl ?_ | refine bB tabOk rfl rfl rfl (nb rfl) rfl rfl rfl rfl (by first | assumption | omega) ?_ | refine aY tabOk rfl rfl rfl (nb rfl) rfl rfl rfl rfl (by first | rfl | omega) (by first | omega | simp) ?_) | (refine aK ?_;  first | refine aF ?_ | refine aL ?_ | refine bD ?_ | refine aR ?_ | refine aS ?_ | refine aC (b := true) rfl (fun _ => ?_) nTf | refine aC (b := false) rfl nFt (fun _ => ?_)) | (refine aJ ?_;  first | refine aU ?_) | (refine aP ?_;  first | refine bM ?_))
                  all_goals first
                    | (exfalso; omega)
                    | exact ⟨⟨(j + 1, c), hlt, g1, g2, Nat.le_trans (Nat.le_of_lt g3) uz, hu⟩, (by show l.length - (j + 1) < l.length - j; omega), (bT (by repeat' first | exact trivial | refine ⟨rfl, ?_⟩) (by repeat' first | exact trivial | refine ⟨rfl, ?_⟩))⟩
            · have ej : j = l.length := by omega
              subst ej
              rw [List.drop_length, atS] at hu
              subst hu
              obtain ⟨pu, hpu⟩ := bR (bJ uw)
              dsimp only
              rw [hpu]
              repeat' (first | refine aE ?_ | (refine aG ?_;  first | refine aB tabOk rfl rfl rfl (nb rfl) rfl ?_ | (refine aI rfl rfl rfl (nb rfl) rfl rfl rfl (fun hq => ?_) (fun hq => ?_) <;> (first | (simp only [sD, sE, sB, sC, sN, sM, sT, sF] at hq; try (exfalso; omega)) | skip))) | (refine aK ?_;  first | refine aF ?_ | refine aL ?_ | refine aM ?_ | refine bQ ?_ | refine aC (b := false) rfl nFt (fun _ => ?_)) | (refine aJ ?_;  first | refine aU ?_ | refine bH ?_) | (refine aP ?_;  first | refine bE ?_))
              all_goals first
                | (exfalso; omega)
                | (refine aO (by first | exact .inl rfl | exact .inr rfl) (aV rfl (aA rfl) (aA rfl)) rfl ?_; rfl))
  · rw [if_pos hc] at hQ
    subst hQ
    generalize checkP sformP t = C at *
    refine aH Tryz.func13 rfl rfl (nb rfl) rfl ?_
    repeat' (first | refine aE ?_ | (refine aG ?_;  first | refine aB tabOk rfl rfl rfl (nb rfl) rfl ?_ | (refine aI rfl rfl rfl (nb rfl) rfl rfl rfl (fun hq => ?_) (fun hq => ?_) <;> (first | (simp only [sD, sE, sB, sC, sN, sM, sT, sF] at hq; try (exfalso; omega)) | skip)) | refine aD rfl rfl (nb rfl) rfl rfl rfl rfl (c1) ?_) | (refine aK ?_;  first | refine aF ?_ | refine aL ?_ | refine aM ?_ | refine aC (b := true) rfl (fun _ => ?_) nTf) | (refine aJ ?_;  first | refine aN ?_))
    all_goals first
      | exact absurd rfl (by assumption)
      | exact absurd (by assumption) hc
      | (refine aO (by first | exact .inl rfl | exact .inr rfl) (aV rfl (aA rfl) (aA rfl)) rfl ?_; rfl)
end Go.Proofs.YtocaohipfiapkaaGreatDoor.Ab
namespace Go.Proofs.YtocaohipfiapkaaGreatDoor.Ab
set_option linter.unusedVariables false
set_option linter.unusedSimpArgs false
open Go.RowKit Go.Lib Go.Proofs.YtocaohipfiapkaaGreatDoorW.PrintWords Go.Proofs.YtocaohipfiapkaaGreatDoorW.PrintLast Go.Proofs.YtocaohipfiapkaaGreatDoorW.PrintMore Go.Proofs.YtocaohipfiapkaaGreatDoor.RP Go.Proofs.YtocaohipfiapkaaGreatDoor.RW Go.Proofs.YtocaohipfiapkaaGreatDoor.PAll
/-- Texts, one behind the other, a separator between. -/
def joinS (sep : ByteArray) (l : List ByteArray) : ByteArray := ⟨(Lib.join (l.map (·.data.toList)) sep.data.toList).toArray⟩
theorem aDU (f : Bool) (l : List ByteArray) (sep : ByteArray) (hl : l.length ≤ 1000000) (hs : (joinS sep l).size ≤ 140737488355328) : ACalls Tryz.prog 61 [.imm (.sl f l.length (strs l)), .imm (.lit (.string sep))] [] (.imm (.lit (.string (joinS sep l)))) [] :=
  nR (args := [.sl f l.length (strs l), .lit (.string sep)]) (r := .lit (.string (joinS sep l))) ⟨_, Tryz.func61, rfl, rfl⟩ (fun w M vs ha hv => by
    obtain ⟨v, us, rfl, h1, h2⟩ := iA hv
    obtain ⟨v2, us, rfl, h3, h4⟩ := iA h2
    rw [kU h3, qL h4]
    obtain ⟨a, cap, rfl, hc, hn, h⟩ := aCk h1
    have hj : (Lib.join (l.map (·.data.toList)) sep.data.toList).length ≤ 140737488355328 := by
      have e2 : (joinS sep l).size = (Lib.join (l.map (·.data.toList)) sep.data.toList).length := by rw [← iZ]; rfl
      rw [← e2]; exact hs
    rcases h with rfl | ⟨b, o, rfl, hb, hcells⟩
    · refine (Tryz.strings_Join_none a cap sep w).mono fun e w' ⟨he, hw⟩ => ⟨_, he, ?_, ?_⟩
      · rw [hw]; exact Below.refl _ _
      · exact iK rfl
    · refine (Tryz.strings_Join b o cap l sep w hcells hb (by omega) hc hj).mono fun e w' ⟨he, hw⟩ => ⟨_, he, hw, ?_⟩
      exact iK rfl)
end Go.Proofs.YtocaohipfiapkaaGreatDoor.Ab
namespace Go.Proofs.YtocaohipfiapkaaGreatDoor.Ab
set_option linter.unusedVariables false
set_option linter.unusedSimpArgs false
open Go.RowKit Go.Proofs.YtocaohipfiapkaaGreatDoor.RP
attribute [local irreducible] AWP AOps AExit AThen ABlock ANoGoto FeetOk
abbrev strVX : ByteArray := ⟨#[118, 58, 120]⟩
/-- v:x = int -/
abbrev strVXI : ByteArray := ⟨#[118, 58, 120, 32, 61, 32, 105, 110, 116]⟩
def exV : Tree := .node 160 0 emptyB emptyB [.node 111 0 emptyB emptyB []]
def exN : Tree := .node 162 0 emptyB emptyB [.node 163 0 strVX emptyB [exV]]
def exC : Tree := .node 115 0 emptyB emptyB [.node 116 0 strVX emptyB [.node 111 0 emptyB emptyB []]]
set_option maxHeartbeats 4000000 in
set_option maxRecDepth 10000 in
theorem aBS : ACalls Tryz.prog 32 [.imm (Tree.iv (.node 111 0 emptyB emptyB []))] [] (.imm (.lit (.string ⟨#[105, 110, 116]⟩))) [] := by
  refine aH Tryz.func32 rfl rfl (nb rfl) rfl ?_
  repeat' (first | refine aE ?_ | (refine aG ?_;  first | refine aB tabOk rfl rfl rfl (nb rfl) rfl ?_ | (refine aI rfl rfl rfl (nb rfl) rfl rfl rfl (fun hq => ?_) (fun hq => ?_) <;> (first | (simp only [sD, sE, sB, sC, sN, sM, sT, sF] at hq; try (exfalso; omega)) | skip)) | refine aT tabOk rfl rfl (nb rfl) rfl ?_) | (refine aK ?_;  first | refine aF ?_ | refine aL ?_ | refine bD ?_ | refine aR ?_ | refine aM ?_ | refine aC (b := true) rfl (fun _ => ?_) nTf | refine aC (b := false) rfl nFt (fun _ => ?_)) | (refine aJ ?_;  first | refine aU ?_ | refine aN ?_) | (refine aP ?_;  first | refine aX ?_))
  all_goals first
    | exact absurd rfl (by assumption)
    | (exfalso; omega)
    | (refine aO (by first | exact .inl rfl | exact .inr rfl) (aW rfl (aA rfl)) rfl ?_; rfl)
theorem xV : joinS ⟨#[32, 44, 32]⟩ [strVXI] = strVXI := rfl
set_option maxHeartbeats 8000000 in
set_option maxRecDepth 10000 in
theorem aDh : ACalls Tryz.prog 32 [.imm exC.iv] [] (.imm (.lit (.string ⟨#[123, 32, 118, 58, 120, 32, 61, 32, 105, 110, 116, 32, 125]⟩))) [] := by
  have c1 := aBS
  have c2 := aDU false [strVXI] ⟨#[32, 44, 32]⟩ (by decide) (by rw [xV]; decide)
  rw [xV] at c2
  unfold exC
  refine aH Tryz.func32 rfl rfl (nb rfl) rfl ?_
  repeat' (first | refine aE ?_ | (refine aG ?_;  first | refine aB tabOk rfl rfl rfl (nb rfl) rfl ?_ | (refine aI rfl rfl rfl (nb rfl) rfl rfl rfl (fun hq => ?_) (fun hq => ?_) <;> (first | (simp only [sD, sE, sB, sC, sN, sM, sT, sF] at hq; try (exfalso; omega)) | skip)) | refine aT tabOk rfl rfl (nb rfl) rfl ?_) | (refine aK ?_;  first | refine aF ?_ | refine aL ?_ | refine bD ?_ | refine aR ?_ | refine aS ?_ | refine aC (b := false) rfl nFt (fun _ => ?_)) | (refine aJ ?_;  first | refine aU ?_) | (refine aP ?_;  first | refine bM ?_))
  all_goals first
    | exact absurd rfl (by assumption)
    | (exfalso; omega)
    | skip
  refine cP (mL (t := 7) 500 9 1 rfl (by simp) rfl rfl) ?_
  refine bZ (ι := {j : Nat // j ≤ 1}) (fun j => S.f ⟨[(72, .imm (.lit (.int .i64 (j.1 : Int)))), (71, .imm (.lit (.int .i64 1))), (70, .imm (.sl false 1 (Tree.ivs [.node 116 0 strVX emptyB [.node 111 0 emptyB emptyB []]]))), (4, .imm (.lit (.string ⟨#[32, 44, 32]⟩))), (5, .imm (.lit (.string ⟨#[32, 61, 32]⟩))), (6, .imm (.lit (.string ⟨#[]⟩))), (7, .ref 500 j.1)], [(500, .arr 9 1 j.1 (strs ([strVXI].take j.1)))]⟩) (fun j => 1 - j.1) ⟨0, Nat.zero_le _⟩ (bT (by repeat' first | exact trivial | refine ⟨rfl, ?_⟩) (by repeat' first | exact trivial | refine ⟨rfl, ?_⟩)) ?_
  rintro ⟨j, hj⟩
  dsimp only
  by_cases hlt : j < 1
  · obtain rfl : j = 0 := by omega
    have s1 : strVX.size = 3 := rfl
    have s2 : (⟨#[32, 61, 32]⟩ : ByteArray).size = 3 := rfl
    have s3 : (⟨#[105, 110, 116]⟩ : ByteArray).size = 3 := rfl
    repeat' (first | refine aE ?_ | (refine aG ?_;  first | refine aB tabOk rfl rfl rfl (nb rfl) rfl ?_ | (refine aI rfl rfl rfl (nb rfl) rfl rfl rfl (fun hq => ?_) (fun hq => ?_) <;> (first | (simp only [sD, sE, sB, sC, sN, sM, sT, sF] at hq; try (exfalso; omega)) | skip)) | refine eO rfl rfl rfl (nb rfl) rfl rfl (by first | omega | (simp only [dT]; omega)) ?_ | refine aD rfl rfl (nb rfl) rfl rfl rfl rfl (c1) ?_ | refine cI tabOk rfl rfl rfl (nb rfl) rfl rfl rfl rfl rfl rfl rfl (by first | omega | decide) rfl (by first | omega | (dsimp only; omega)) (by first | omega | (dsimp only; omega)) ?_ | refine bO rfl rfl rfl (nb rfl) rfl rfl (by omega) ?_ | refine bS tabOk rfl rfl rfl (nb rfl) rfl rfl rfl rfl rfl rfl rfl rfl rfl ?_ | refine bB tabOk rfl rfl rfl (nb rfl) rfl rfl rfl rfl (by first | assumption | omega) ?_) | (refine aK ?_;  first | refine aF ?_ | refine aL ?_ | refine bD ?_ | refine aR ?_ | refine aS ?_ | refine aC (b := true) rfl (fun _ => ?_) nTf | refine aQ mixed (by kernel_rfl) ?_) | (refine aJ ?_;  first | refine aU ?_) | (refine aP ?_;  first | refine bM ?_) | refine bC (aZ (by kernel_rfl)) ?_)
    all_goals first
      | (exfalso; omega)
      | exact ⟨⟨1, Nat.le_refl _⟩, (by show 1 - 1 < 1 - 0; omega), (bT (by repeat' first | exact trivial | refine ⟨rfl, ?_⟩) (by repeat' first | exact trivial | refine ⟨rfl, ?_⟩))⟩
  · obtain rfl : j = 1 := by omega
    refine cP ((Imp.of_le (σ' := S.f ⟨[(72, .imm (.lit (.int .i64 1))), (71, .imm (.lit (.int .i64 1))), (4, .imm (.lit (.string ⟨#[32, 44, 32]⟩))), (6, .imm (.lit (.string ⟨#[]⟩))), (7, .ref 500 1)], [(500, .arr 9 1 1 (strs [strVXI]))]⟩) (bT (by repeat' first | exact trivial | refine ⟨rfl, ?_⟩) (by repeat' first | exact trivial | refine ⟨rfl, ?_⟩))).trans (cM (g := 500) rfl (by repeat' first | exact trivial | exact fun _ => rfl | refine ⟨?_, ?_⟩) (by repeat' first | exact trivial | exact fun _ => rfl | refine ⟨?_, ?_⟩))) ?_
    have s1 : (⟨#[]⟩ : ByteArray).size = 0 := rfl
    have s2 : (⟨#[123, 32]⟩ : ByteArray).size = 2 := rfl
    have s3 : strVXI.size = 9 := rfl
    have s4 : (⟨#[32, 125]⟩ : ByteArray).size = 2 := rfl
    repeat' (first | refine aE ?_ | (refine aG ?_;  first | refine aB tabOk rfl rfl rfl (nb rfl) rfl ?_ | (refine aI rfl rfl rfl (nb rfl) rfl rfl rfl (fun hq => ?_) (fun hq => ?_) <;> (first | (simp only [sD, sE, sB, sC, sN, sM, sT, sF] at hq; try (exfalso; omega)) | skip)) | refine eO rfl rfl rfl (nb rfl) rfl rfl (by first | omega | (simp only [dT]; omega)) ?_ | refine aD rfl rfl (nb rfl) rfl rfl rfl rfl (c2) ?_ | refine aT tabOk rfl rfl (nb rfl) rfl ?_) | (refine aK ?_;  first | refine aF ?_ | refine aL ?_ | refine aM ?_ | refine bQ ?_ | refine aS ?_ | refine aC (b := false) rfl nFt (fun _ => ?_)) | (refine aJ ?_;  first | refine aU ?_ | refine bH ?_) | (refine aP ?_;  first | refine bE ?_))
    all_goals first
      | exact absurd rfl (by assumption)
      | (exfalso; omega)
      | (refine aO (by first | exact .inl rfl | exact .inr rfl) (aW rfl (aA rfl)) rfl ?_; rfl)
set_option maxRecDepth 100000 in
theorem aBT : sTransP exN = (exC, 0) := by decide +kernel
set_option maxRecDepth 100000 in
theorem aEu : sAtP exN ⟨#[118]⟩ ⟨#[120]⟩ = (exV, 0) := by decide +kernel
theorem aBU : checkP isConP exC = 0 := by decide +kernel
set_option maxHeartbeats 4000000 in
set_option maxRecDepth 10000 in
theorem aDV : ACalls Tryz.prog 14 [.imm exC.iv] [] (.imm (.lit (.string ⟨#[123, 32, 118, 58, 120, 32, 61, 32, 105, 110, 116, 32, 125]⟩))) [] := by
  have c1 := eA exC (by decide)
  rw [aBU] at c1
  have c2 := aDh
  generalize exC.iv = X at *
  refine aH Tryz.func14 rfl rfl (nb rfl) rfl ?_
  repeat' (first | refine aE ?_ | (refine aG ?_;  first | refine aB tabOk rfl rfl rfl (nb rfl) rfl ?_ | refine bL rfl rfl (nb rfl) ?_ | (refine aI rfl rfl rfl (nb rfl) rfl rfl rfl (fun hq => ?_) (fun hq => ?_) <;> (first | (simp only [sD, sE, sB, sC, sN, sM, sT, sF] at hq; try (exfalso; omega)) | skip)) | refine aD rfl rfl (nb rfl) rfl rfl rfl rfl (c1) ?_ | refine aD rfl rfl (nb rfl) rfl rfl rfl rfl (c2) ?_) | (refine aK ?_;  first | refine aF ?_ | refine aL ?_ | refine aM ?_ | refine aS ?_ | refine aC (b := false) rfl nFt (fun _ => ?_)) | (refine aJ ?_;  first | refine aU ?_))
  all_goals first
    | exact absurd rfl (by assumption)
    | (refine aO (by first | exact .inl rfl | exact .inr rfl) (aW rfl (aA rfl)) rfl ?_; rfl)
set_option maxHeartbeats 8000000 in
set_option maxRecDepth 10000 in
theorem gC : ACalls Tryz.prog 6 [] [] (.imm (.lit (.bool true))) [] := by
  have c1 := aAv exN (by decide)
  rw [aBT] at c1
  have c2 := At_a exN ⟨#[118]⟩ ⟨#[120]⟩ (by decide) (by decide) (by decide)
  rw [aEu] at c2
  have c3 := aDV
  dsimp only at c1 c2
  generalize exC.iv = X at *
  refine aH Tryz.func6 rfl rfl (nb rfl) rfl ?_
  repeat' (first | refine aE ?_ | (refine aG ?_;  first | refine aB tabOk rfl rfl rfl (nb rfl) rfl ?_ | refine bL rfl rfl (nb rfl) ?_ | (refine aI rfl rfl rfl (nb rfl) rfl rfl rfl (fun hq => ?_) (fun hq => ?_) <;> (first | (simp only [sD, sE, sB, sC, sN, sM, sT, sF] at hq; try (exfalso; omega)) | skip)) | refine aD rfl rfl (nb rfl) rfl rfl rfl rfl (c1) ?_ | refine aD rfl rfl (nb rfl) rfl rfl rfl rfl (c2) ?_ | refine aD rfl rfl (nb rfl) rfl rfl rfl rfl (c3) ?_ | refine bS tabOk rfl rfl rfl (nb rfl) rfl rfl rfl rfl rfl rfl rfl rfl rfl ?_ | refine aT tabOk rfl rfl (nb rfl) rfl ?_) | (refine aK ?_;  first | refine aF ?_ | refine aM ?_))
  all_goals first
    | exact cW (by first | exact .inl rfl | exact .inr rfl) (aW rfl (aA rfl)) rfl
    | exact absurd rfl (by assumption)
    | (exfalso; omega)
end Go.Proofs.YtocaohipfiapkaaGreatDoor.Ab
namespace Go.Proofs.YtocaohipfiapkaaGreatDoor.Ab
set_option linter.unusedVariables false
set_option linter.unusedSimpArgs false
open Go.RowKit
attribute [local irreducible] AWP AOps AExit AThen ABlock ANoGoto FeetOk
theorem aBV (l : List CellD) (hff : ∀ c ∈ l, c.f = false) : ∃ t : Tree, t.size ≤ 60 ∧ ACalls Tryz.prog 4 [.imm (.agg [.sl false l.length (cellIVs l)])] [] (.imm t.iv) [] := by
  obtain ⟨t, h, c⟩ := zD l hff
  rcases h with rfl | ⟨h1, h2, h3⟩
  · exact ⟨_, by simp [Tree.size], c⟩
  · exact ⟨t, h2, c⟩
theorem aDi : varT0.iv = .ptr [.lit (.int .i64 130), .lit (.int .i64 0), .lit (.string ⟨#[]⟩), .lit (.string ⟨#[]⟩), .sl false 0 []] 0 := by
  unfold varT0
  rw [Tree.iv, Tree.ivs]
  rfl
set_option maxHeartbeats 16000000 in
set_option maxRecDepth 10000 in
theorem aAa (l : List CellD) (hl : ∀ c ∈ l, c.f = false) : ACalls Tryz.prog 3 [.imm (.agg [.sl false l.length (cellIVs l)])] [] (.imm (.lit (.bool true))) [] := by
  obtain ⟨c, c1, d1⟩ := aBV l hl
  have cS := zH nZ (fun K h => (List.not_mem_nil h).elim) (by decide) c (by omega)
  by_cases hs : starE [] c = 0
  · obtain ⟨q1, q2, q3⟩ := token_law hs c1
    obtain ⟨hc, _⟩ := gL hs
    obtain ⟨t1, t2⟩ := mF hc c1
    obtain ⟨a1, a2, a3, _⟩ := nJ hc c1
    have cT := aDQ c (by omega)
    have cR := aAv (typS c) (by unfold typS; simp only [Tree.size, Tree.sizes]; omega)
    have cX := xD (tokX c) (by omega)
    have cY := xD (.node 134 0 emptyB emptyB [allC c, varT0]) (by have : varT0.size = 1 := rfl; simp only [Tree.size, Tree.sizes]; omega)
    have hfin : (TypeP [] [] (tokX c)).2 = 0 → (TypeP [] [] (tokX c)).1.whole = true ∧ (TypeP [] [] (tokX c)).1.size ≤ 100000000 := fun h => by
      rw [kI t1] at h ⊢
      obtain ⟨w1, w2, _⟩ := iW t1
      obtain ⟨g1, g2, g3⟩ := wU _ _ _ w1 w2 h
      exact ⟨g2, by omega⟩
    rw [q1] at cT
    rw [q2] at cR
    rw [hs] at cS
    dsimp only at cT cR
    obtain ⟨pc, hpc⟩ := bR (bJ (bI hc).1)
    obtain ⟨pd, hpd⟩ := bR (bJ a3)
    obtain ⟨px, hpx⟩ := bR (bJ (iW t1).2.1)
    unfold typS at cR
    rw [iF 161 0 emptyB emptyB hpc] at cR
    rw [dQ 134 0 emptyB emptyB hpd aDi] at cY
    rw [hpc] at d1 cS cT
    rw [hpd] at cR
    rw [hpx] at cT cX
    generalize TypeP [] [] (tokX c) = X at *
    generalize TypeP [] [] (.node 134 0 emptyB emptyB [allC c, varT0]) = Y at *
    obtain ⟨X1, X2⟩ := X
    dsimp only at *
    clear q1 q2 t1 a1 a3
    rcases q3 with rfl | rfl | ⟨rfl, hy⟩
    · generalize X1.iv = xi at *
      clear hfin cY
      refine aH Tryz.func3 rfl rfl (nb rfl) rfl ?_
      repeat' (first | refine aE ?_ | (refine aG ?_;  first | refine aB tabOk rfl rfl rfl (nb rfl) rfl ?_ | (refine aI rfl rfl rfl (nb rfl) rfl rfl rfl (fun hq => ?_) (fun hq => ?_) <;> (first | (simp only [sD, sE, sB, sC, sN, sM, sT, sF] at hq; try (exfalso; omega)) | skip)) | refine aD rfl rfl (nb rfl) rfl rfl rfl rfl (d1) ?_ | refine aD rfl rfl (nb rfl) rfl rfl rfl rfl (cS) ?_ | refine aD rfl rfl (nb rfl) rfl rfl rfl rfl (cT) ?_ | refine aD rfl rfl (nb rfl) rfl rfl rfl rfl (cR) ?_ | refine aD rfl rfl (nb rfl) rfl rfl rfl rfl (cX) ?_ | refine aD rfl rfl (nb rfl) rfl rfl rfl rfl (gC) ?_ | refine bS tabOk rfl rfl rfl (nb rfl) rfl rfl rfl rfl rfl rfl rfl rfl rfl ?_ | refine aT tabOk rfl rfl (nb rfl) rfl ?_) | (refine aK ?_;  first | refine aF ?_ | refine aL ?_ | refine aM ?_ | refine aS ?_ | refine aC (b := true) rfl (fun _ => ?_) nTf | refine aC (b := false) rfl nFt (fun _ => ?_)) | (refine aJ ?_;  first | refine aU ?_ | refine aN ?_))
      all_goals first
        | exact absurd rfl (by assumption)
        | (exfalso; omega)
        | exact cW (by first | exact .inl rfl | exact .inr rfl) (aW rfl (aA rfl)) rfl
    · generalize X1.iv = xi at *
      clear hfin cY
      refine aH Tryz.func3 rfl rfl (nb rfl) rfl ?_
      repeat' (first | refine aE ?_ | (refine aG ?_;  first | refine aB tabOk rfl rfl rfl (nb rfl) rfl ?_ | refine bL rfl rfl (nb rfl) ?_ | (refine aI rfl rfl rfl (nb rfl) rfl rfl rfl (fun hq => ?_) (fun hq => ?_) <;> (first | (simp only [sD, sE, sB, sC, sN, sM, sT, sF] at hq; try (exfalso; omega)) | skip)) | refine aD rfl rfl (nb rfl) rfl rfl rfl rfl (d1) ?_ | refine aD rfl rfl (nb rfl) rfl rfl rfl rfl (cS) ?_ | refine aD rfl rfl (nb rfl) rfl rfl rfl rfl (cT) ?_ | refine aD rfl rfl (nb rfl) rfl rfl rfl rfl (cR) ?_ | refine aD rfl rfl (nb rfl) rfl rfl rfl rfl (cX) ?_ | refine aD rfl rfl (nb rfl) rfl rfl rfl rfl (gC) ?_ | refine bS tabOk rfl rfl rfl (nb rfl) rfl rfl rfl rfl rfl rfl rfl rfl rfl ?_ | refine aT tabOk rfl rfl (nb rfl) rfl ?_) | (refine aK ?_;  first | refine aF ?_ | refine aL ?_ | refine aM ?_ | refine aS ?_ | refine aC (b := true) rfl (fun _ => ?_) nTf | refine aC (b := false) rfl nFt (fun _ => ?_)) | (refine aJ ?_;  first | refine aU ?_ | refine aN ?_))
      all_goals first
        | exact absurd rfl (by assumption)
        | (exfalso; omega)
        | exact cW (by first | exact .inl rfl | exact .inr rfl) (aW rfl (aA rfl)) rfl
    · obtain ⟨y1, y2⟩ := hfin rfl
      obtain ⟨px1, hpx1⟩ := bR (bJ y1)
      have cs := iQ X1 X1 (.inr y1) (.inr y1) y2 y2
      rw [(nX X1 X1).2 rfl] at cs
      obtain ⟨Y1, Y2⟩ := Y
      dsimp only at *
      rcases hy with rfl | rfl | hy
      · generalize Y1.iv = yi at *
        generalize X1.iv = xi at *
        clear hfin cs
        refine aH Tryz.func3 rfl rfl (nb rfl) rfl ?_
        repeat' (first | refine aE ?_ | (refine aG ?_;  first | refine aB tabOk rfl rfl rfl (nb rfl) rfl ?_ | (refine aI rfl rfl rfl (nb rfl) rfl rfl rfl (fun hq => ?_) (fun hq => ?_) <;> (first | (simp only [sD, sE, sB, sC, sN, sM, sT, sF] at hq; try (exfalso; omega)) | skip)) | refine aD rfl rfl (nb rfl) rfl rfl rfl rfl (d1) ?_ | refine aD rfl rfl (nb rfl) rfl rfl rfl rfl (cS) ?_ | refine aD rfl rfl (nb rfl) rfl rfl rfl rfl (cT) ?_ | refine aD rfl rfl (nb rfl) rfl rfl rfl rfl (cR) ?_ | refine aD rfl rfl (nb rfl) rfl rfl rfl rfl (cX) ?_ | refine aD rfl rfl (nb rfl) rfl rfl rfl rfl (cY) ?_ | refine aD rfl rfl (nb rfl) rfl rfl rfl rfl (gC) ?_ | refine bS tabOk rfl rfl rfl (nb rfl) rfl rfl rfl rfl rfl rfl rfl rfl rfl ?_ | refine aT tabOk rfl rfl (nb rfl) rfl ?_) | (refine aK ?_;  first | refine aF ?_ | refine aL ?_ | refine aM ?_ | refine aS ?_ | refine aC (b := true) rfl (fun _ => ?_) nTf | refine aC (b := false) rfl nFt (fun _ => ?_)) | (refine aJ ?_;  first | refine aU ?_ | refine aN ?_))
        all_goals first
          | exact absurd rfl (by assumption)
          | (exfalso; omega)
          | exact cW (by first | exact .inl rfl | exact .inr rfl) (aW rfl (aA rfl)) rfl
      · generalize Y1.iv = yi at *
        generalize X1.iv = xi at *
        clear hfin cs
        refine aH Tryz.func3 rfl rfl (nb rfl) rfl ?_
        repeat' (first | refine aE ?_ | (refine aG ?_;  first | refine aB tabOk rfl rfl rfl (nb rfl) rfl ?_ | refine bL rfl rfl (nb rfl) ?_ | (refine aI rfl rfl rfl (nb rfl) rfl rfl rfl (fun hq => ?_) (fun hq => ?_) <;> (first | (simp only [sD, sE, sB, sC, sN, sM, sT, sF] at hq; try (exfalso; omega)) | skip)) | refine aD rfl rfl (nb rfl) rfl rfl rfl rfl (d1) ?_ | refine aD rfl rfl (nb rfl) rfl rfl rfl rfl (cS) ?_ | refine aD rfl rfl (nb rfl) rfl rfl rfl rfl (cT) ?_ | refine aD rfl rfl (nb rfl) rfl rfl rfl rfl (cR) ?_ | refine aD rfl rfl (nb rfl) rfl rfl rfl rfl (cX) ?_ | refine aD rfl rfl (nb rfl) rfl rfl rfl rfl (cY) ?_ | refine aD rfl rfl (nb rfl) rfl rfl rfl rfl (gC) ?_ | refine bS tabOk rfl rfl rfl (nb rfl) rfl rfl rfl rfl rfl rfl rfl rfl rfl ?_ | refine aT tabOk rfl rfl (nb rfl) rfl ?_) | (refine aK ?_;  first | refine aF ?_ | refine aL ?_ | refine aM ?_ | refine aS ?_ | refine aC (b := true) rfl (fun _ => ?_) nTf | refine aC (b := false) rfl nFt (fun _ => ?_)) | (refine aJ ?_;  first | refine aU ?_ | refine aN ?_))
        all_goals first
          | exact absurd rfl (by assumption)
          | (exfalso; omega)
          | exact cW (by first | exact .inl rfl | exact .inr rfl) (aW rfl (aA rfl)) rfl
      · cases hy
        rw [vA 114 hpx1 hpx1] at cY
        rw [hpx1] at cX cs
        clear hfin y1 y2
        refine aH Tryz.func3 rfl rfl (nb rfl) rfl ?_
        repeat' (first | refine aE ?_ | (refine aG ?_;  first | refine aB tabOk rfl rfl rfl (nb rfl) rfl ?_ | (refine aI rfl rfl rfl (nb rfl) rfl rfl rfl (fun hq => ?_) (fun hq => ?_) <;> (first | (simp only [sD, sE, sB, sC, sN, sM, sT, sF] at hq; try (exfalso; omega)) | skip)) | refine aD rfl rfl (nb rfl) rfl rfl rfl rfl (d1) ?_ | refine aD rfl rfl (nb rfl) rfl rfl rfl rfl (cS) ?_ | refine aD rfl rfl (nb rfl) rfl rfl rfl rfl (cT) ?_ | refine aD rfl rfl (nb rfl) rfl rfl rfl rfl (cR) ?_ | refine aD rfl rfl (nb rfl) rfl rfl rfl rfl (cX) ?_ | refine aD rfl rfl (nb rfl) rfl rfl rfl rfl (cY) ?_ | refine aD rfl rfl (nb rfl) rfl rfl rfl rfl (cs) ?_ | refine aD rfl rfl (nb rfl) rfl rfl rfl rfl (gC) ?_ | refine bS tabOk rfl rfl rfl (nb rfl) rfl rfl rfl rfl rfl rfl rfl rfl rfl ?_ | refine aT tabOk rfl rfl (nb rfl) rfl ?_ | refine aY tabOk rfl rfl rfl (nb rfl) rfl rfl rfl rfl (by first | rfl | omega) (by first | omega | simp) ?_) | (refine aK ?_;  first | refine aF ?_ | refine aL ?_ | refine aM ?_ | refine aS ?_ | refine aC (b := false) rfl nFt (fun _ => ?_)) | (refine aJ ?_;  first | refine aU ?_))
        all_goals first
          | exact absurd rfl (by assumption)
          | (exfalso; omega)
          | exact cW (by first | exact .inl rfl | exact .inr rfl) (aW rfl (aA rfl)) rfl
  · generalize starE [] c = se at *
    generalize c.iv = ci at *
    refine aH Tryz.func3 rfl rfl (nb rfl) rfl ?_
    repeat' (first | refine aE ?_ | (refine aG ?_;  first | refine aB tabOk rfl rfl rfl (nb rfl) rfl ?_ | (refine aI rfl rfl rfl (nb rfl) rfl rfl rfl (fun hq => ?_) (fun hq => ?_) <;> (first | (simp only [sD, sE, sB, sC, sN, sM, sT, sF] at hq; try (exfalso; omega)) | skip)) | refine aD rfl rfl (nb rfl) rfl rfl rfl rfl (d1) ?_ | refine aD rfl rfl (nb rfl) rfl rfl rfl rfl (cS) ?_ | refine aD rfl rfl (nb rfl) rfl rfl rfl rfl (gC) ?_ | refine aT tabOk rfl rfl (nb rfl) rfl ?_) | (refine aK ?_;  first | refine aF ?_ | refine aL ?_ | refine aM ?_ | refine aC (b := true) rfl (fun _ => ?_) nTf) | (refine aJ ?_;  first | refine aN ?_))
    all_goals first
      | exact absurd (by assumption) hs
      | exact cW (by first | exact .inl rfl | exact .inr rfl) (aW rfl (aA rfl)) rfl
theorem SemToken_law (xs : List IV) (h : FitsAll [tyTree] xs) : ACalls Tryz.prog 3 (xs.map .imm) [] (.imm (.lit (.bool true))) [] := by
  cases h with
  | cons h1 h =>
    cases h
    obtain ⟨l, rfl, hl⟩ := aBl h1
    exact aAa l hl
end Go.Proofs.YtocaohipfiapkaaGreatDoor.Ab
