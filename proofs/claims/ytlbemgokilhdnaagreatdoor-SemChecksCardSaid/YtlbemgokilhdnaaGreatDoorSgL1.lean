/- Words, walks and laws under the claim's statement: what it uses of them. No condition of its own. -/
import Derived.Test.YtlbemgokilhdnaaGreatDoorSgL0
import Derived.Test.YtlbemgokilhdnaaGreatDoorSgAb1
namespace Go.Proofs.YtlbemgokilhdnaaGreatDoor.Ab
set_option linter.unusedVariables false
set_option linter.unusedSimpArgs false
open Go.RowKit
attribute [local irreducible] AWP AOps AExit AThen ABlock ANoGoto FeetOk
theorem sJ {l : List Tree} {kind : Int} {rise : Bool} {i : Nat} (h : i < l.length) (hb : okNamed kind l[i] = false) : labelsB l kind rise = false := by
  rw [Bool.eq_false_iff]
  intro hc
  have := ((iH l kind rise).1 hc).1 i h
  rw [hb] at this
  cases this
theorem uT {l : List Tree} {kind : Int} {rise : Bool} {i j : Nat} (hij : j < i) (h : i < l.length) (hb : okPair rise (l[j]'(by omega)).name l[i].name = false) : labelsB l kind rise = false := by
  rw [Bool.eq_false_iff]
  intro hc
  have := ((iH l kind rise).1 hc).2 j i hij h
  rw [hb] at this
  cases this
set_option maxHeartbeats 16000000 in
set_option maxRecDepth 10000 in
theorem sK (l : List Tree) (kind : Int) (rise : Bool) (h : Tree.wholes l = true) (hl : l.length < 1000000000)
    (hc : ∀ t', t'.size < Tree.sizes l → t'.whole = true → ACalls Tryz.prog 59 [.imm t'.iv] [] (.imm (.lit (.bool (isConP t')))) []) :
    ACalls Tryz.prog 83 [.imm (.sl false l.length (Tree.ivs l)), .imm (.lit (.int .i64 kind)), .imm (.lit (.bool rise))] [] (.imm (.lit (.bool (labelsB l kind rise)))) [] := by
  refine aM Tryz.func83 rfl rfl (nb rfl) rfl ?_
  repeat' (first | refine aE ?_ | (refine aH ?_;  first | refine aC tabOk rfl rfl rfl (nb rfl) rfl ?_) | (refine aN ?_;  first | refine aG ?_ | refine aQ ?_ | refine aZ ?_))
  refine cB (ι := {i : Nat // i ≤ l.length ∧ (∀ q (hq : q < l.length), q < i → okNamed kind l[q] = true) ∧ ∀ j q (hjq : j < q) (hq : q < l.length), q < i → okPair rise (l[j]'(by omega)).name l[q].name = true}) (fun i => S.f ⟨[(7, .imm (.lit (.int .i64 (i.1 : Int)))), (0, .imm (.sl false l.length (Tree.ivs l))), (1, .imm (.lit (.int .i64 kind))), (2, .imm (.lit (.bool rise)))], []⟩) (fun i => l.length - i.1) ⟨0, Nat.zero_le _, fun q h h2 => by omega, fun j q h h2 h3 => by omega⟩ (bY (by repeat' first | exact trivial | refine ⟨rfl, ?_⟩) (by repeat' first | exact trivial | refine ⟨rfl, ?_⟩)) ?_
  rintro ⟨i, hi, hn, hp⟩
  dsimp only
  by_cases hil : i < l.length
  · obtain ⟨k1, n1, a1, b1, ks, e1, hiv, hwk⟩ := fR h hil
    have hbad := @sJ l kind rise i hil
    have hsz := dO (List.getElem_mem hil)
    rw [e1] at hbad hsz
    have hpl := nG k1 n1 a1 b1 ks true
    cases hok : okNamed kind (.node k1 n1 a1 b1 ks) with
    | false =>
      rw [hbad hok]
      rw [okNamed] at hok
      rcases ks with _ | ⟨c, _ | ⟨d, r⟩⟩
      · generalize bareP n1 a1 b1 true false = bp at *
        cases bp <;>
        (repeat' (first | refine aE ?_ | (refine aH ?_;  first | refine aC tabOk rfl rfl rfl (nb rfl) rfl ?_ | refine bD rfl rfl (nb rfl) ?_ | (refine aK rfl rfl rfl (nb rfl) rfl rfl rfl (fun hq => ?_) (fun hq => ?_) <;> (first | (simp only [sD, sE, sB, sC, sN, sM, sT, sF] at hq; try (exfalso; omega)) | skip)) | refine aY tabOk rfl rfl rfl (nb rfl) rfl rfl rfl hiv ?_ | refine aI rfl rfl (nb rfl) rfl rfl rfl rfl (hpl) ?_ | refine aU tabOk rfl rfl (nb rfl) rfl ?_ | refine bF tabOk rfl rfl rfl (nb rfl) rfl rfl rfl rfl (by first | assumption | omega) ?_ | refine bI tabOk rfl rfl rfl (nb rfl) rfl rfl rfl rfl (by first | rfl | omega) (by first | omega | simp) ?_ | refine aY tabOk rfl rfl rfl (nb rfl) rfl rfl rfl (cA _ _ (by first | assumption | omega)) ?_) | (refine aN ?_;  first | refine aG ?_ | refine aQ ?_ | refine aZ ?_ | refine aT ?_ | refine aW ?_ | refine aA (b := true) rfl (fun _ => ?_) nTf) | (refine aJ ?_;  first | refine bB ?_ | refine aR ?_) | (refine bA ?_;  first | refine bG ?_))
         all_goals first
           | exact cF (by first | exact .inl rfl | exact .inr rfl) (aV rfl (aD rfl)) rfl
           | (exfalso; omega)
           | (exfalso; simp_all [isCon1, labelP]; done))
      · have hcc := hc c (by simp [Tree.size, Tree.sizes] at hsz ⊢; omega) (bM hwk (by simp))
        rw [isCon1] at hok
        generalize bareP n1 a1 b1 true false = bp at *
        generalize isConP c = cp at *
        cases bp <;> cases cp <;>
        (repeat' (first | refine aE ?_ | (refine aH ?_;  first | refine aC tabOk rfl rfl rfl (nb rfl) rfl ?_ | refine bD rfl rfl (nb rfl) ?_ | (refine aK rfl rfl rfl (nb rfl) rfl rfl rfl (fun hq => ?_) (fun hq => ?_) <;> (first | (simp only [sD, sE, sB, sC, sN, sM, sT, sF] at hq; try (exfalso; omega)) | skip)) | refine aY tabOk rfl rfl rfl (nb rfl) rfl rfl rfl hiv ?_ | refine aI rfl rfl (nb rfl) rfl rfl rfl rfl (hpl) ?_ | refine aI rfl rfl (nb rfl) rfl rfl rfl rfl (hcc) ?_ | refine aU tabOk rfl rfl (nb rfl) rfl ?_ | refine bF tabOk rfl rfl rfl (nb rfl) rfl rfl rfl rfl (by first | assumption | omega) ?_ | refine bI tabOk rfl rfl rfl (nb rfl) rfl rfl rfl rfl (by first | rfl | omega) (by first | omega | simp) ?_) | (refine aN ?_;  first | refine aG ?_ | refine aQ ?_ | refine aZ ?_ | refine aT ?_ | refine aW ?_ | refine aA (b := true) rfl (fun _ => ?_) nTf | refine aA (b := false) rfl nFt (fun _ => ?_)) | (refine aJ ?_;  first | refine bB ?_ | refine aR ?_) | (refine bA ?_;  first | refine bG ?_))
         all_goals first
           | exact cF (by first | exact .inl rfl | exact .inr rfl) (aV rfl (aD rfl)) rfl
           | (exfalso; omega)
           | (exfalso; simp_all [labelP]; done)
           | (exfalso; simp_all [labelP]; omega))
      · generalize bareP n1 a1 b1 true false = bp at *
        cases bp <;>
        (repeat' (first | refine aE ?_ | (refine aH ?_;  first | refine aC tabOk rfl rfl rfl (nb rfl) rfl ?_ | refine bD rfl rfl (nb rfl) ?_ | (refine aK rfl rfl rfl (nb rfl) rfl rfl rfl (fun hq => ?_) (fun hq => ?_) <;> (first | (simp only [sD, sE, sB, sC, sN, sM, sT, sF] at hq; try (exfalso; omega)) | skip)) | refine aY tabOk rfl rfl rfl (nb rfl) rfl rfl rfl hiv ?_ | refine aI rfl rfl (nb rfl) rfl rfl rfl rfl (hpl) ?_ | refine aU tabOk rfl rfl (nb rfl) rfl ?_ | refine bF tabOk rfl rfl rfl (nb rfl) rfl rfl rfl rfl (by first | assumption | omega) ?_ | refine bI tabOk rfl rfl rfl (nb rfl) rfl rfl rfl rfl (by first | rfl | omega) (by first | omega | simp) ?_) | (refine aN ?_;  first | refine aG ?_ | refine aQ ?_ | refine aZ ?_ | refine aT ?_ | refine aW ?_ | refine aA (b := true) rfl (fun _ => ?_) nTf) | (refine aJ ?_;  first | refine bB ?_ | refine aR ?_) | (refine bA ?_;  first | refine bG ?_))
         all_goals first
           | exact cF (by first | exact .inl rfl | exact .inr rfl) (aV rfl (aD rfl)) rfl
           | (exfalso; omega)
           | (exfalso; simp_all [isCon1, labelP]; done)
           | (exfalso; simp only [List.length_cons] at *; omega))
    | true =>
      have hok0 := hok
      rw [okNamed] at hok
      simp only [Bool.and_eq_true] at hok
      obtain ⟨⟨⟨q1, q2⟩, q3⟩, q4⟩ := hok
      have q1 := beq_iff_eq.1 q1
      subst q1
      rw [q2] at hpl
      unfold labelP at q3
      simp only [Bool.and_eq_true, decide_eq_true_eq] at q3
      obtain ⟨q5, q6⟩ := q3
      have hcc : ∃ c, ks = [c] ∧ isConP c = true := by
        match ks, q4 with
        | [c], q4 => exact ⟨c, rfl, by simpa [isCon1] using q4⟩
      obtain ⟨c, rfl, hcp⟩ := hcc
      have hcc := hc c (by simp [Tree.size, Tree.sizes] at hsz ⊢; omega) (bM hwk (by simp))
      rw [hcp] at hcc
      have hn2 : ∀ q (hq : q < l.length), q < i + 1 → okNamed k1 l[q] = true := fun q hq h2 => by
        rcases Nat.lt_or_ge q i with h3 | h3
        · exact hn q hq h3
        · have e : q = i := by omega
          subst e
          rw [e1]; exact hok0
      repeat' (first | refine aE ?_ | (refine aH ?_;  first | refine aC tabOk rfl rfl rfl (nb rfl) rfl ?_ | refine bD rfl rfl (nb rfl) ?_ | (refine aK rfl rfl rfl (nb rfl) rfl rfl rfl (fun hq => ?_) (fun hq => ?_) <;> (first | (simp only [sD, sE, sB, sC, sN, sM, sT, sF] at hq; try (exfalso; omega)) | skip)) | refine aY tabOk rfl rfl rfl (nb rfl) rfl rfl rfl hiv ?_ | refine aI rfl rfl (nb rfl) rfl rfl rfl rfl (hpl) ?_ | refine aI rfl rfl (nb rfl) rfl rfl rfl rfl (hcc) ?_ | refine aU tabOk rfl rfl (nb rfl) rfl ?_ | refine bF tabOk rfl rfl rfl (nb rfl) rfl rfl rfl rfl (by first | assumption | omega) ?_ | refine bI tabOk rfl rfl rfl (nb rfl) rfl rfl rfl rfl (by first | rfl | omega) (by first | omega | simp) ?_) | (refine aN ?_;  first | refine aG ?_ | refine aQ ?_ | refine aZ ?_ | refine aT ?_ | refine aW ?_ | refine aA (b := true) rfl (fun _ => ?_) nTf | refine aA (b := false) rfl nFt (fun _ => ?_)) | (refine aJ ?_;  first | refine bB ?_ | refine aR ?_) | (refine bA ?_;  first | refine bG ?_))
      all_goals first | exact absurd rfl (by assumption) | (exfalso; omega) | skip
      refine cB (ι := {j : Nat // j ≤ i ∧ ∀ q (hq : q < j) (hqi : q < l.length), okPair rise l[q].name a1 = true}) (fun j => S.f ⟨[(9, .imm (.lit (.int .i64 (j.1 : Int)))), (8, .imm (Tree.iv (.node k1 n1 a1 b1 [c]))), (7, .imm (.lit (.int .i64 (i : Int)))), (0, .imm (.sl false l.length (Tree.ivs l))), (1, .imm (.lit (.int .i64 k1))), (2, .imm (.lit (.bool rise)))], []⟩) (fun j => i - j.1) ⟨0, Nat.zero_le _, fun q h h2 => by omega⟩ (bY (by repeat' first | exact trivial | refine ⟨rfl, ?_⟩) (by repeat' first | exact trivial | refine ⟨rfl, ?_⟩)) ?_
      rintro ⟨j, hj, hpj⟩
      dsimp only
      by_cases hji : j < i
      · obtain ⟨k2, n2, a2, b2, ks2, e2, hiv2, _⟩ := fR h (show j < l.length by omega)
        have hbp := @uT l k1 rise i j hji hil
        have en : l[i].name = a1 := by rw [e1]; rfl
        have en2 : (l[j]'(by omega)).name = a2 := by rw [e2]; rfl
        rw [en, en2] at hbp
        cases hop : okPair rise a2 a1 with
        | false =>
          rw [hbp hop]
          cases rise <;>
          (repeat' (first | refine aE ?_ | (refine aH ?_;  first | refine aC tabOk rfl rfl rfl (nb rfl) rfl ?_ | refine bD rfl rfl (nb rfl) ?_ | (refine aK rfl rfl rfl (nb rfl) rfl rfl rfl (fun hq => ?_) (fun hq => ?_) <;> (first | (simp only [sD, sE, sB, sC, sN, sM, sT, sF] at hq; try (exfalso; omega)) | skip)) | refine aY tabOk rfl rfl rfl (nb rfl) rfl rfl rfl hiv2 ?_ | refine bK rfl rfl rfl (nb rfl) rfl rfl (by omega) ?_ | refine bF tabOk rfl rfl rfl (nb rfl) rfl rfl rfl rfl (by first | assumption | omega) ?_) | (refine aN ?_;  first | refine aG ?_ | refine aQ ?_ | refine bE ?_ | refine aZ ?_ | refine aT ?_ | refine aW ?_ | refine aA (b := true) rfl (fun _ => ?_) nTf | refine aA (b := false) rfl nFt (fun _ => ?_) | refine bC mixed (by kernel_rfl) ?_) | (refine aJ ?_;  first | refine bB ?_ | refine aR ?_) | (refine bA ?_;  first | refine bR ?_ | refine bG ?_) | refine bU (bQ (by kernel_rfl)) ?_)
           all_goals first
             | exact cF (by first | exact .inl rfl | exact .inr rfl) (aV rfl (aD rfl)) rfl
             | (exfalso; omega)
             | (exfalso; simp_all [okPair, gtB, ltB, eqB]; done))
        | true =>
          have hpj2 : ∀ q (hq : q < j + 1) (hqi : q < l.length), okPair rise l[q].name a1 = true := fun q hq hqi => by
            rcases Nat.lt_or_ge q j with h3 | h3
            · exact hpj q h3 hqi
            · have e : q = j := by omega
              subst e
              rw [en2]; exact hop
          cases rise <;>
          (repeat' (first | refine aE ?_ | (refine aH ?_;  first | refine aC tabOk rfl rfl rfl (nb rfl) rfl ?_ | refine bD rfl rfl (nb rfl) ?_ | (refine aK rfl rfl rfl (nb rfl) rfl rfl rfl (fun hq => ?_) (fun hq => ?_) <;> (first | (simp only [sD, sE, sB, sC, sN, sM, sT, sF] at hq; try (exfalso; omega)) | skip)) | refine aY tabOk rfl rfl rfl (nb rfl) rfl rfl rfl hiv2 ?_ | refine bK rfl rfl rfl (nb rfl) rfl rfl (by omega) ?_ | refine bF tabOk rfl rfl rfl (nb rfl) rfl rfl rfl rfl (by first | assumption | omega) ?_) | (refine aN ?_;  first | refine aG ?_ | refine aQ ?_ | refine bE ?_ | refine aZ ?_ | refine aT ?_ | refine aW ?_ | refine aA (b := true) rfl (fun _ => ?_) nTf | refine aA (b := false) rfl nFt (fun _ => ?_) | refine bC mixed (by kernel_rfl) ?_) | (refine aJ ?_;  first | refine bB ?_ | refine aR ?_) | (refine bA ?_;  first | refine bR ?_ | refine bG ?_) | refine bU (bQ (by kernel_rfl)) ?_)
           all_goals first
             | exact ⟨⟨j + 1, hji, hpj2⟩, (by show i - (j + 1) < i - j; omega), (bY (by repeat' first | exact trivial | refine ⟨rfl, ?_⟩) (by repeat' first | exact trivial | refine ⟨rfl, ?_⟩))⟩
             | (exfalso; omega)
             | (exfalso; simp_all [okPair, gtB, ltB, eqB]; done))
      · have ej : j = i := by omega
        subst ej
        have hp2 : ∀ j2 q (hjq : j2 < q) (hq : q < l.length), q < j + 1 → okPair rise (l[j2]'(by omega)).name l[q].name = true := fun j2 q hjq hq h2 => by
          rcases Nat.lt_or_ge q j with h3 | h3
          · exact hp j2 q hjq hq h3
          · have e : q = j := by omega
            subst e
            rw [e1]
            exact hpj j2 hjq (by omega)
        repeat' (first | refine aE ?_ | (refine aH ?_;  first | refine aC tabOk rfl rfl rfl (nb rfl) rfl ?_ | (refine aK rfl rfl rfl (nb rfl) rfl rfl rfl (fun hq => ?_) (fun hq => ?_) <;> (first | (simp only [sD, sE, sB, sC, sN, sM, sT, sF] at hq; try (exfalso; omega)) | skip)) | refine bK rfl rfl rfl (nb rfl) rfl rfl (by omega) ?_) | (refine aN ?_;  first | refine aG ?_ | refine aQ ?_ | refine bE ?_ | refine bS ?_ | refine aA (b := false) rfl nFt (fun _ => ?_)) | (refine aJ ?_;  first | refine bB ?_ | refine bJ ?_) | (refine bA ?_;  first | refine bR ?_ | refine bH ?_))
        all_goals first
          | (exfalso; omega)
          | exact ⟨⟨j + 1, hil, hn2, hp2⟩, (by show l.length - (j + 1) < l.length - j; omega), (bY (by repeat' first | exact trivial | refine ⟨rfl, ?_⟩) (by repeat' first | exact trivial | refine ⟨rfl, ?_⟩))⟩
  · have ei : i = l.length := by omega
    subst ei
    have hT : labelsB l kind rise = true := (iH l kind rise).2 ⟨fun q hq => hn q hq hq, fun j q hjq hq => hp j q hjq hq hq⟩
    rw [hT]
    repeat' (first | refine aE ?_ | (refine aH ?_;  first | refine aC tabOk rfl rfl rfl (nb rfl) rfl ?_ | (refine aK rfl rfl rfl (nb rfl) rfl rfl rfl (fun hq => ?_) (fun hq => ?_) <;> (first | (simp only [sD, sE, sB, sC, sN, sM, sT, sF] at hq; try (exfalso; omega)) | skip)) | refine aU tabOk rfl rfl (nb rfl) rfl ?_) | (refine aN ?_;  first | refine aG ?_ | refine aQ ?_ | refine aT ?_ | refine bS ?_ | refine aA (b := false) rfl nFt (fun _ => ?_)) | (refine aJ ?_;  first | refine bB ?_ | refine bJ ?_) | (refine bA ?_;  first | refine bH ?_))
    all_goals first
      | exact cF (by first | exact .inl rfl | exact .inr rfl) (aV rfl (aD rfl)) rfl
      | (exfalso; omega)
end Go.Proofs.YtlbemgokilhdnaaGreatDoor.Ab
namespace Go.Proofs.YtlbemgokilhdnaaGreatDoor.Ab
set_option linter.unusedVariables false
set_option linter.unusedSimpArgs false
open Go.RowKit
attribute [local irreducible] AWP AOps AExit AThen ABlock ANoGoto FeetOk
set_option maxHeartbeats 16000000 in
set_option maxRecDepth 10000 in
theorem zG (t : Tree) : t.whole = true → t.size ≤ 1000000 → ACalls Tryz.prog 59 [.imm t.iv] [] (.imm (.lit (.bool (isConP t)))) [] := by
  induction t using Tree.sind with
  | h t ih =>
    intro h hs
    obtain ⟨k, n, a, b, kids, rfl⟩ := cM h
    have hl : kids.length < 1000000000 := by have := cE kids h; simp only [Tree.size] at hs; omega
    have hc : ∀ t', t'.size < (Tree.node k n a b kids).size → t'.whole = true → ACalls Tryz.prog 59 [.imm t'.iv] [] (.imm (.lit (.bool (isConP t')))) [] := fun t' h1 h2 => ih t' h1 h2 (by omega)
    have hc2 : ∀ t', t'.size < Tree.sizes kids → t'.whole = true → ACalls Tryz.prog 59 [.imm t'.iv] [] (.imm (.lit (.bool (isConP t')))) [] := fun t' h1 h2 => hc t' (by simp only [Tree.size]; omega) h2
    have e1 : labelsB kids 116 true = (namedPs kids 116 && risingP kids) := by unfold labelsB pairsP; rw [if_pos rfl]
    have e2 : labelsB kids 122 false = (namedPs kids 122 && distinctP kids) := by unfold labelsB pairsP; rw [if_neg (by simp)]
    have cl1 := sK kids 116 true h hl hc2
    have cl2 := sK kids 122 false h hl hc2
    rw [e1] at cl1
    rw [e2] at cl2
    refine aM Tryz.func59 rfl rfl (nb rfl) rfl ?_
    repeat' (first | refine aE ?_ | (refine aH ?_;  first | refine aC tabOk rfl rfl rfl (nb rfl) rfl ?_ | refine bD rfl rfl (nb rfl) ?_ | (refine aK rfl rfl rfl (nb rfl) rfl rfl rfl (fun hq => ?_) (fun hq => ?_) <;> (first | (simp only [sD, sE, sB, sC, sN, sM, sT, sF] at hq; try (exfalso; omega)) | skip)) | (refine bP rfl rfl rfl (nb rfl) rfl rfl rfl (nG _ _ _ _ _ _) (fun hq => ?_) (fun hq => ?_)) | (refine bP rfl rfl rfl (nb rfl) rfl rfl rfl (cl1) (fun hq => ?_) (fun hq => ?_)) | (refine bP rfl rfl rfl (nb rfl) rfl rfl rfl (cl2) (fun hq => ?_) (fun hq => ?_)) | (refine bP rfl rfl rfl (nb rfl) rfl rfl rfl (aAK _ (bM h (List.getElem_mem _))) (fun hq => ?_) (fun hq => ?_)) | (refine bP rfl rfl rfl (nb rfl) rfl rfl rfl (hc _ (cG (List.getElem_mem _)) (bM h (List.getElem_mem _))) (fun hq => ?_) (fun hq => ?_)) | refine aU tabOk rfl rfl (nb rfl) rfl ?_ | refine bI tabOk rfl rfl rfl (nb rfl) rfl rfl rfl rfl (by first | rfl | omega) (by first | omega | simp) ?_ | refine aY tabOk rfl rfl rfl (nb rfl) rfl rfl rfl (cA _ _ (by first | assumption | omega)) ?_) | (refine aN ?_;  first | refine aG ?_ | refine aQ ?_ | refine bE ?_ | refine aZ ?_ | refine aT ?_ | refine aW ?_ | refine aA (b := true) rfl (fun _ => ?_) nTf | refine aA (b := false) rfl nFt (fun _ => ?_)) | (refine aJ ?_;  first | refine bB ?_ | refine aR ?_) | (refine bA ?_;  first | refine bR ?_ | refine bG ?_))
    all_goals (refine aX (by first | exact .inl rfl | exact .inr rfl) (aV rfl (aD rfl)) rfl ?_; refine cH ?_; clear cl1 cl2 hc hc2 ih e1 e2; by_cases h2 : kids.length = 2 <;> first | (obtain ⟨x, y, rfl⟩ := two h2; simp_all [isConP, isCons, isCon2, bareP, eqB, emptyB]; done) | (exfalso; omega) | (simp_all [isConP, eZ, bareP, eqB, emptyB]; done) | (simp_all [isConP, eZ, bareP, eqB, emptyB]; omega) | (rw [isConP]; cases hk : (k == 110) <;> simp_all [bareP, eqB, emptyB]; done))
end Go.Proofs.YtlbemgokilhdnaaGreatDoor.Ab
namespace Go.Proofs.YtlbemgokilhdnaaGreatDoor.Ab
set_option linter.unusedVariables false
set_option linter.unusedSimpArgs false
open Go.RowKit
attribute [local irreducible] AWP AOps AExit AThen ABlock ANoGoto FeetOk
theorem lY (l : List Tree) (j : Nat) (h : j < l.length) : Tree.sizes (l.take (j + 1)) = Tree.sizes (l.take j) + l[j].size := by
  have app : ∀ a b : List Tree, Tree.sizes (a ++ b) = Tree.sizes a + Tree.sizes b := by
    intro a b
    induction a with
    | nil => simp [Tree.sizes]
    | cons x a ih => rw [List.cons_append, Tree.sizes, Tree.sizes, ih]; omega
  rw [List.take_succ_eq_append_getElem h, app]
  simp [Tree.sizes]
theorem oG (l : List Tree) (j : Nat) : Tree.sizes (l.take j) ≤ Tree.sizes l := by
  induction l generalizing j with
  | nil => simp
  | cons x l ih =>
    cases j with
    | zero => simp [Tree.sizes]
    | succ j => rw [List.take_succ_cons, Tree.sizes, Tree.sizes]; have := ih j; omega
set_option maxHeartbeats 8000000 in
set_option maxRecDepth 10000 in
theorem zH (t : Tree) : t.whole = true → ∀ left : Nat, t.size ≤ left → left ≤ 1000000 → ACalls Tryz.prog 58 [.imm t.iv, .imm (.lit (.int .i64 (left : Int)))] [] (.imm (.tup [.lit (.int .i64 ((left - t.size : Nat) : Int)), .lit (.int .i64 0)])) [] := by
  induction t using Tree.sind with
  | h t ih =>
    intro h left hs hle
    obtain ⟨k, n, a, b, kids, rfl⟩ := cM h
    have hsz : (Tree.node k n a b kids).size = 1 + Tree.sizes kids := rfl
    have hl : kids.length ≤ Tree.sizes kids := cE kids h
    refine aM Tryz.func58 rfl rfl (nb rfl) rfl ?_
    repeat' (first | refine aE ?_ | (refine aH ?_;  first | refine aC tabOk rfl rfl rfl (nb rfl) rfl ?_ | (refine aK rfl rfl rfl (nb rfl) rfl rfl rfl (fun hq => ?_) (fun hq => ?_) <;> (first | (simp only [sD, sE, sB, sC, sN, sM, sT, sF] at hq; try (exfalso; omega)) | skip)) | refine bZ (z := ((left - 1 : Nat) : Int)) rfl rfl rfl (nb rfl) rfl rfl (by omega) (by omega) (by omega) ?_ | refine aU tabOk rfl rfl (nb rfl) rfl ?_) | (refine aN ?_;  first | refine aG ?_ | refine aQ ?_ | refine aZ ?_ | refine aW ?_ | refine aA (b := false) rfl nFt (fun _ => ?_)) | (refine aJ ?_;  first | refine bB ?_))
    all_goals first | (exfalso; omega) | skip
    refine cB (ι := {j : Nat // j ≤ kids.length}) (fun j => S.f ⟨[(6, .imm (.lit (.int .i64 (j.1 : Int)))), (1, .imm (.lit (.int .i64 ((left - 1 - Tree.sizes (kids.take j.1) : Nat) : Int)))), (0, .imm (Tree.iv (.node k n a b kids)))], []⟩) (fun j => kids.length - j.1) ⟨0, Nat.zero_le _⟩ (bY (by repeat' first | exact trivial | refine ⟨rfl, ?_⟩) (by repeat' first | exact trivial | refine ⟨rfl, ?_⟩)) ?_
    rintro ⟨j, hj⟩
    dsimp only
    by_cases hlt : j < kids.length
    · have hst := lY kids j hlt
      have htl := oG kids (j + 1)
      have hmem := List.getElem_mem hlt
      have hiv := cA kids j hlt
      have c1 := ih kids[j] (cG hmem) (bM h hmem) (left - 1 - Tree.sizes (kids.take j)) (by omega) (by omega)
      have e : left - 1 - Tree.sizes (kids.take j) - kids[j].size = left - 1 - Tree.sizes (kids.take (j + 1)) := by omega
      rw [e] at c1
      obtain ⟨k1, n1, a1, b1, ks1, e1⟩ := cM (bM h hmem)
      rw [e1] at hiv c1
      repeat' (first | refine aE ?_ | (refine aH ?_;  first | refine aC tabOk rfl rfl rfl (nb rfl) rfl ?_ | (refine aK rfl rfl rfl (nb rfl) rfl rfl rfl (fun hq => ?_) (fun hq => ?_) <;> (first | (simp only [sD, sE, sB, sC, sN, sM, sT, sF] at hq; try (exfalso; omega)) | skip)) | refine aY tabOk rfl rfl rfl (nb rfl) rfl rfl rfl hiv ?_ | refine aI rfl rfl (nb rfl) rfl rfl rfl rfl (c1) ?_ | refine bK rfl rfl rfl (nb rfl) rfl rfl (by omega) ?_ | refine aU tabOk rfl rfl (nb rfl) rfl ?_ | refine bF tabOk rfl rfl rfl (nb rfl) rfl rfl rfl rfl (by first | assumption | omega) ?_) | (refine aN ?_;  first | refine aG ?_ | refine aQ ?_ | refine bE ?_ | refine aZ ?_ | refine aW ?_ | refine aA (b := true) rfl (fun _ => ?_) nTf | refine aA (b := false) rfl nFt (fun _ => ?_)) | (refine aJ ?_;  first | refine bB ?_) | (refine bA ?_;  first | refine bR ?_))
      all_goals first
        | (exfalso; omega)
        | exact absurd rfl (by assumption)
        | exact ⟨⟨j + 1, hlt⟩, (by show kids.length - (j + 1) < kids.length - j; omega), (bY (by repeat' first | exact trivial | refine ⟨rfl, ?_⟩) (by repeat' first | exact trivial | refine ⟨rfl, ?_⟩))⟩
    · have ej : j = kids.length := by omega
      subst ej
      rw [List.take_length]
      have e : left - (Tree.node k n a b kids).size = left - 1 - Tree.sizes kids := by omega
      rw [e]
      repeat' (first | refine aE ?_ | (refine aH ?_;  first | refine aC tabOk rfl rfl rfl (nb rfl) rfl ?_ | (refine aK rfl rfl rfl (nb rfl) rfl rfl rfl (fun hq => ?_) (fun hq => ?_) <;> (first | (simp only [sD, sE, sB, sC, sN, sM, sT, sF] at hq; try (exfalso; omega)) | skip)) | refine aU tabOk rfl rfl (nb rfl) rfl ?_) | (refine aN ?_;  first | refine aG ?_ | refine aQ ?_ | refine aT ?_ | refine bS ?_ | refine aA (b := false) rfl nFt (fun _ => ?_)) | (refine aJ ?_;  first | refine bB ?_ | refine bJ ?_) | (refine bA ?_;  first | refine bH ?_))
      all_goals first
        | (exfalso; omega)
        | (refine aX (by first | exact .inl rfl | exact .inr rfl) (bO rfl (aD rfl) (aD rfl)) rfl ?_; rfl)
set_option maxHeartbeats 4000000 in
set_option maxRecDepth 10000 in
theorem uU (left : Int) : ACalls Tryz.prog 58 [.imm (Tree.iv .nil), .imm (.lit (.int .i64 left))] [] (.imm (.tup [.lit (.int .i64 left), .lit (.int .i64 1)])) [] := by
  refine aM Tryz.func58 rfl rfl (nb rfl) rfl ?_
  repeat' (first | refine aE ?_ | (refine aH ?_;  first | refine aC tabOk rfl rfl rfl (nb rfl) rfl ?_ | refine aU tabOk rfl rfl (nb rfl) rfl ?_) | (refine aN ?_;  first | refine aG ?_ | refine aQ ?_ | refine aT ?_ | refine aA (b := true) rfl (fun _ => ?_) nTf) | (refine aJ ?_;  first | refine aR ?_))
  all_goals (refine aX (by first | exact .inl rfl | exact .inr rfl) (bO rfl (aD rfl) (aD rfl)) rfl ?_; rfl)
set_option maxHeartbeats 4000000 in
set_option maxRecDepth 10000 in
theorem nM (t : Tree) (h : t.whole = true) (hs : t.size ≤ 65536) : ACalls Tryz.prog 29 [.imm t.iv] [] (.imm (.lit (.int .i64 (if isConP t = true then 0 else 16)))) [] := by
  have c1 := zH t h 65536 hs (by omega)
  have c2 := zG t h (by omega)
  cases hc : isConP t with
  | true =>
    rw [hc] at c2
    rw [if_pos rfl]
    refine aM Tryz.func29 rfl rfl (nb rfl) rfl ?_
    repeat' (first | refine aE ?_ | (refine aH ?_;  first | refine aC tabOk rfl rfl rfl (nb rfl) rfl ?_ | (refine aK rfl rfl rfl (nb rfl) rfl rfl rfl (fun hq => ?_) (fun hq => ?_) <;> (first | (simp only [sD, sE, sB, sC, sN, sM, sT, sF] at hq; try (exfalso; omega)) | skip)) | refine aI rfl rfl (nb rfl) rfl rfl rfl rfl (c1) ?_ | refine aI rfl rfl (nb rfl) rfl rfl rfl rfl (c2) ?_) | (refine aN ?_;  first | refine aG ?_ | refine aQ ?_ | refine aT ?_ | refine aW ?_ | refine aA (b := false) rfl nFt (fun _ => ?_)) | (refine aJ ?_;  first | refine bB ?_))
    all_goals first
      | exact cF (by first | exact .inl rfl | exact .inr rfl) (aV rfl (aD rfl)) rfl
      | exact absurd rfl (by assumption)
  | false =>
    rw [hc] at c2
    rw [if_neg (by simp)]
    refine aM Tryz.func29 rfl rfl (nb rfl) rfl ?_
    repeat' (first | refine aE ?_ | (refine aH ?_;  first | refine aC tabOk rfl rfl rfl (nb rfl) rfl ?_ | (refine aK rfl rfl rfl (nb rfl) rfl rfl rfl (fun hq => ?_) (fun hq => ?_) <;> (first | (simp only [sD, sE, sB, sC, sN, sM, sT, sF] at hq; try (exfalso; omega)) | skip)) | refine aI rfl rfl (nb rfl) rfl rfl rfl rfl (c1) ?_ | refine aI rfl rfl (nb rfl) rfl rfl rfl rfl (c2) ?_) | (refine aN ?_;  first | refine aG ?_ | refine aQ ?_ | refine aT ?_ | refine aW ?_ | refine aA (b := true) rfl (fun _ => ?_) nTf | refine aA (b := false) rfl nFt (fun _ => ?_)) | (refine aJ ?_;  first | refine bB ?_ | refine aR ?_))
    all_goals first
      | exact cF (by first | exact .inl rfl | exact .inr rfl) (aV rfl (aD rfl)) rfl
      | exact absurd rfl (by assumption)
end Go.Proofs.YtlbemgokilhdnaaGreatDoor.Ab
namespace Go.Proofs.YtlbemgokilhdnaaGreatDoor.Ab
set_option linter.unusedVariables false
set_option linter.unusedSimpArgs false
open Go.RowKit
attribute [local irreducible] AWP AOps AExit AThen ABlock ANoGoto FeetOk
theorem oY (t : Tree) : t.whole = true → ∀ l : Int, (t.size : Int) ≤ l → wholeP t l = (0, l - t.size) := by
  induction t using Tree.ind with
  | h1 => intro h; simp [Tree.whole] at h
  | h2 k n a b kids ih =>
    intro h l hl
    have hz : (Tree.node k n a b kids).size = 1 + Tree.sizes kids := rfl
    rw [wholeP, if_neg (by omega)]
    have key : ∀ (ts : List Tree), (∀ t ∈ ts, t ∈ kids) → ∀ l : Int, (Tree.sizes ts : Int) ≤ l → wholePs ts l = (0, l - Tree.sizes ts) := by
      intro ts
      induction ts with
      | nil => intro _ l _; simp [wholePs, Tree.sizes]
      | cons x ts ihs =>
        intro hm l hl
        rw [Tree.sizes] at hl
        have hx := ih x (hm x List.mem_cons_self) (bM h (hm x List.mem_cons_self)) l (by omega)
        rw [wholePs, hx, if_pos rfl, ihs (fun t ht => hm t (List.mem_cons_of_mem _ ht)) _ (by omega), Tree.sizes]
        congr 1
        omega
    rw [key kids (fun t ht => ht) _ (by omega), hz]
    congr 1
    omega
theorem oZ (form : Tree → Bool) (t : Tree) (h : t.whole = true) (hs : t.size ≤ 65536) : checkP form t = if form t = true then 0 else 16 := by
  unfold checkP
  rw [oY t h 65536 (by omega), if_pos rfl]
end Go.Proofs.YtlbemgokilhdnaaGreatDoor.Ab
namespace Go.Proofs.YtlbemgokilhdnaaGreatDoor.Ab
set_option linter.unusedVariables false
set_option linter.unusedSimpArgs false
open Go.RowKit
attribute [local irreducible] AWP AOps AExit AThen ABlock ANoGoto FeetOk
theorem kL (n : Int) (a b : ByteArray) : sbareP n a b false false = (eqB b emptyB && eqB a emptyB && (n == 0)) := by unfold sbareP; simp
theorem zI (n : Int) (a b : ByteArray) : sbareP n a b true false = (eqB b emptyB && (n == 0)) := by unfold sbareP; simp
set_option maxHeartbeats 16000000 in
set_option maxRecDepth 10000 in
theorem uV (k n : Int) (a b : ByteArray) (kids : List Tree) (hb : sbareP n a b false false = true) (hk : k = 162) (h : Tree.wholes kids = true) (hl : kids.length < 1000000000)
    (hc : ∀ t', t'.size < (Tree.node k n a b kids).size → t'.whole = true → ACalls Tryz.prog 38 [.imm t'.iv] [] (.imm (.lit (.bool (isSigP t')))) []) :
    ACalls Tryz.prog 38 [.imm (Tree.iv (.node k n a b kids))] [] (.imm (.lit (.bool (sfieldPs kids && risingP kids)))) [] := by
  subst hk
  rw [kL] at hb
  simp only [Bool.and_eq_true, beq_iff_eq, dP] at hb
  obtain ⟨⟨rfl, rfl⟩, rfl⟩ := hb
  refine aM Tryz.func38 rfl rfl (nb rfl) rfl ?_
  repeat' (first | refine aE ?_ | (refine aH ?_;  first | refine aC tabOk rfl rfl rfl (nb rfl) rfl ?_ | refine bD rfl rfl (nb rfl) ?_ | (refine aK rfl rfl rfl (nb rfl) rfl rfl rfl (fun hq => ?_) (fun hq => ?_) <;> (first | (simp only [sD, sE, sB, sC, sN, sM, sT, sF] at hq; try (exfalso; omega)) | skip))) | (refine aN ?_;  first | refine aG ?_ | refine aQ ?_ | refine aZ ?_ | refine aT ?_ | refine aW ?_ | refine aA (b := true) rfl (fun _ => ?_) nTf | refine aA (b := false) rfl nFt (fun _ => ?_)) | (refine aJ ?_;  first | refine bB ?_ | refine aR ?_))
  all_goals first
    | exact absurd rfl (by assumption)
    | (exfalso; omega)
    | skip
  refine cB (ι := {j : Nat // j ≤ kids.length ∧ (∀ i (hi : i < kids.length), i < j → okSField kids[i] = true) ∧ ∀ i (hi : i + 1 < kids.length), i + 1 < j → ltB (kids[i]'(by omega)).name kids[i + 1].name = true}) (fun j => S.f ⟨[(4, .imm (.lit (.int .i64 (j.1 : Int)))), (3, .imm (.sl false kids.length (Tree.ivs kids)))], []⟩) (fun j => kids.length - j.1) ⟨0, Nat.zero_le _, fun i _ hi => absurd hi (Nat.not_lt_zero _), fun i _ hi => absurd hi (Nat.not_lt_zero _)⟩ (bY (by repeat' first | exact trivial | refine ⟨rfl, ?_⟩) (by repeat' first | exact trivial | refine ⟨rfl, ?_⟩)) ?_
  rintro ⟨j, hj, hok, hri⟩
  dsimp only
  by_cases hlt : j < kids.length
  · obtain ⟨k1, n1, a1, b1, ks1, e1, hget, hw1⟩ := fR h hlt
    have hsz : ∀ i (hi : i < ks1.length), ks1[i].size < (Tree.node 162 0 emptyB emptyB kids).size := fun i hi => by
      have h1 := cG (k := k1) (n := n1) (a := a1) (b := b1) (List.getElem_mem hi)
      have h2 := cG (k := 162) (n := 0) (a := emptyB) (b := emptyB) (List.getElem_mem hlt)
      rw [e1] at h2
      omega
    have hbad : okSField (Tree.node k1 n1 a1 b1 ks1) = false → (sfieldPs kids && risingP kids) = false := fun hb => by
      rw [eG, hX hlt (by rw [e1]; exact hb)]; rfl
    have hgood : okSField (Tree.node k1 n1 a1 b1 ks1) = true → ∀ i (hi : i < kids.length), i < j + 1 → okSField kids[i] = true := fun hb i hi hij => by
      by_cases e : i = j
      · subst e; rw [e1]; exact hb
      · exact hok i hi (by omega)
    have hS : okSField (Tree.node k1 n1 a1 b1 ks1) = (k1 == 163 && (eqB b1 emptyB && (n1 == 0)) && labelP a1 && sigOne ks1) := by rw [← zI n1 a1 b1]; rfl
    rw [hS] at hbad hgood
    clear hS
    by_cases hj0 : j = 0
    · have hrn : ∀ i (hi : i + 1 < kids.length), i + 1 < j + 1 → ltB (kids[i]'(by omega)).name kids[i + 1].name = true := fun i hi hij => by omega
      repeat' (first | refine aE ?_ | (refine aH ?_;  first | refine aC tabOk rfl rfl rfl (nb rfl) rfl ?_ | refine bD rfl rfl (nb rfl) ?_ | (refine aK rfl rfl rfl (nb rfl) rfl rfl rfl (fun hq => ?_) (fun hq => ?_) <;> (first | (simp only [sD, sE, sB, sC, sN, sM, sT, sF] at hq; try (exfalso; omega)) | skip)) | (refine bP rfl rfl rfl (nb rfl) rfl rfl rfl (hc _ (hsz _ _) (bM hw1 (List.getElem_mem _))) (fun hq => ?_) (fun hq => ?_)) | refine bK rfl rfl rfl (nb rfl) rfl rfl (by omega) ?_ | refine aU tabOk rfl rfl (nb rfl) rfl ?_ | refine bF tabOk rfl rfl rfl (nb rfl) rfl rfl rfl rfl (by first | assumption | omega) ?_ | refine bI tabOk rfl rfl rfl (nb rfl) rfl rfl rfl rfl (by first | rfl | omega) (by first | omega | simp) ?_ | refine aY tabOk rfl rfl rfl (nb rfl) rfl rfl rfl (by assumption) ?_ | refine aY tabOk rfl rfl rfl (nb rfl) rfl rfl rfl (cA _ _ (by first | assumption | omega)) ?_) | (refine aN ?_;  first | refine aG ?_ | refine aQ ?_ | refine bE ?_ | refine aZ ?_ | refine aT ?_ | refine aW ?_ | refine aA (b := true) rfl (fun _ => ?_) nTf | refine aA (b := false) rfl nFt (fun _ => ?_) | refine bC mixed (by kernel_rfl) ?_) | (refine aJ ?_;  first | refine bB ?_ | refine aR ?_) | (refine bA ?_;  first | refine bR ?_ | refine bG ?_) | refine bU (bQ (by kernel_rfl)) ?_)
      all_goals first
        | (refine aX (by first | exact .inl rfl | exact .inr rfl) (aV rfl (aD rfl)) rfl ?_; refine cH (hbad ?_).symm; by_cases h1 : ks1.length = 1 <;> first | (obtain ⟨c, rfl⟩ := one_of h1; simp_all [sigOne, labelP, eqB, emptyB]; done) | (obtain ⟨c, rfl⟩ := one_of h1; simp_all [sigOne, labelP, eqB, emptyB]; omega) | (exfalso; omega) | (simp_all [gE]; done))
        | (exfalso; omega)
        | exact ⟨⟨j + 1, hlt, hgood (by obtain ⟨c, rfl⟩ := one_of (l := ks1) (by omega); first | (simp_all [sigOne, labelP, eqB, emptyB]; done) | (simp_all [sigOne, labelP, eqB, emptyB]; omega)), hrn⟩, (by show kids.length - (j + 1) < kids.length - j; omega), (bY (by repeat' first | exact trivial | refine ⟨rfl, ?_⟩) (by repeat' first | exact trivial | refine ⟨rfl, ?_⟩))⟩
    · obtain ⟨k0, n0, a0, b0, ks0, e0, hget0, hw0⟩ := fR h (j := ((j : Int) - 1).toNat) (by omega)
      have e2 : ∀ i, i + 1 = j → ∀ (hi : i + 1 < kids.length), ltB (kids[i]'(by omega)).name kids[i + 1].name = Op.bytesLess a0.toList a1.toList := fun i hij hi => by
        have hi2 : ((j : Int) - 1).toNat = i := by omega
        have x0 : kids[i]'(by omega) = Tree.node k0 n0 a0 b0 ks0 := by simpa only [hi2] using e0
        have x1 : kids[i + 1] = Tree.node k1 n1 a1 b1 ks1 := by simpa only [hij] using e1
        rw [x0, x1]; rfl
      have hrbad : Op.bytesLess a0.toList a1.toList = false → (sfieldPs kids && risingP kids) = false := fun hb => by
        rw [Bool.and_eq_false_iff]
        right
        rw [Bool.eq_false_iff]
        intro hr
        rw [dM] at hr
        have := hr (j - 1) (by omega)
        rw [e2 (j - 1) (by omega)] at this
        rw [hb] at this; cases this
      have hrn : Op.bytesLess a0.toList a1.toList = true → ∀ i (hi : i + 1 < kids.length), i + 1 < j + 1 → ltB (kids[i]'(by omega)).name kids[i + 1].name = true := fun hb i hi hij => by
        by_cases e : i + 1 = j
        · rw [e2 i e]; exact hb
        · exact hri i hi (by omega)
      clear e2
      repeat' (first | refine aE ?_ | (refine aH ?_;  first | refine aC tabOk rfl rfl rfl (nb rfl) rfl ?_ | refine bD rfl rfl (nb rfl) ?_ | (refine aK rfl rfl rfl (nb rfl) rfl rfl rfl (fun hq => ?_) (fun hq => ?_) <;> (first | (simp only [sD, sE, sB, sC, sN, sM, sT, sF] at hq; try (exfalso; omega)) | skip)) | (refine bP rfl rfl rfl (nb rfl) rfl rfl rfl (hc _ (hsz _ _) (bM hw1 (List.getElem_mem _))) (fun hq => ?_) (fun hq => ?_)) | refine bK rfl rfl rfl (nb rfl) rfl rfl (by omega) ?_ | refine bZ rfl rfl rfl (nb rfl) rfl rfl rfl (by omega) (by omega) ?_ | refine aU tabOk rfl rfl (nb rfl) rfl ?_ | refine bF tabOk rfl rfl rfl (nb rfl) rfl rfl rfl rfl (by first | assumption | omega) ?_ | refine bI tabOk rfl rfl rfl (nb rfl) rfl rfl rfl rfl (by first | rfl | omega) (by first | omega | simp) ?_ | refine aY tabOk rfl rfl rfl (nb rfl) rfl rfl rfl (by assumption) ?_ | refine aY tabOk rfl rfl rfl (nb rfl) rfl rfl rfl (cA _ _ (by first | assumption | omega)) ?_) | (refine aN ?_;  first | refine aG ?_ | refine aQ ?_ | refine bE ?_ | refine aZ ?_ | refine aT ?_ | refine aW ?_ | refine aA (b := true) rfl (fun _ => ?_) nTf | refine aA (b := false) rfl nFt (fun _ => ?_) | refine bC mixed (by kernel_rfl) ?_) | (refine aJ ?_;  first | refine bB ?_ | refine aR ?_) | (refine bA ?_;  first | refine bR ?_ | refine bG ?_) | refine bU (bQ (by kernel_rfl)) ?_)
      all_goals first
        | (refine aX (by first | exact .inl rfl | exact .inr rfl) (aV rfl (aD rfl)) rfl ?_; refine cH (hbad ?_).symm; by_cases h1 : ks1.length = 1 <;> first | (obtain ⟨c, rfl⟩ := one_of h1; simp_all [sigOne, labelP, eqB, emptyB]; done) | (obtain ⟨c, rfl⟩ := one_of h1; simp_all [sigOne, labelP, eqB, emptyB]; omega) | (exfalso; omega) | (simp_all [gE]; done))
        | (refine aX (by first | exact .inl rfl | exact .inr rfl) (aV rfl (aD rfl)) rfl ?_; refine cH (hrbad ?_).symm; simp_all; done)
        | (exfalso; omega)
        | exact ⟨⟨j + 1, hlt, hgood (by obtain ⟨c, rfl⟩ := one_of (l := ks1) (by omega); first | (simp_all [sigOne, labelP, eqB, emptyB]; done) | (simp_all [sigOne, labelP, eqB, emptyB]; omega)), hrn (by simp_all)⟩, (by show kids.length - (j + 1) < kids.length - j; omega), (bY (by repeat' first | exact trivial | refine ⟨rfl, ?_⟩) (by repeat' first | exact trivial | refine ⟨rfl, ?_⟩))⟩
  · repeat' (first | refine aE ?_ | (refine aH ?_;  first | refine aC tabOk rfl rfl rfl (nb rfl) rfl ?_ | (refine aK rfl rfl rfl (nb rfl) rfl rfl rfl (fun hq => ?_) (fun hq => ?_) <;> (first | (simp only [sD, sE, sB, sC, sN, sM, sT, sF] at hq; try (exfalso; omega)) | skip)) | refine aU tabOk rfl rfl (nb rfl) rfl ?_) | (refine aN ?_;  first | refine aG ?_ | refine aQ ?_ | refine aT ?_ | refine bS ?_ | refine aA (b := false) rfl nFt (fun _ => ?_)) | (refine aJ ?_;  first | refine bB ?_ | refine bJ ?_) | (refine bA ?_;  first | refine bH ?_))
    all_goals (refine aX (by first | exact .inl rfl | exact .inr rfl) (aV rfl (aD rfl)) rfl ?_; refine cH ?_; rw [eG, gU fun i hi => hok i hi (by omega), Bool.true_and]; symm; rw [dM]; exact fun i hi => hri i hi (by omega))
end Go.Proofs.YtlbemgokilhdnaaGreatDoor.Ab
namespace Go.Proofs.YtlbemgokilhdnaaGreatDoor.Ab
set_option linter.unusedVariables false
set_option linter.unusedSimpArgs false
open Go.RowKit
attribute [local irreducible] AWP AOps AExit AThen ABlock ANoGoto FeetOk
set_option maxHeartbeats 16000000 in
set_option maxRecDepth 10000 in
theorem qI (t : Tree) : t.whole = true → t.size ≤ 65536 → ACalls Tryz.prog 38 [.imm t.iv] [] (.imm (.lit (.bool (isSigP t)))) [] := by
  induction t using Tree.sind with
  | h t ih =>
    intro h hs
    obtain ⟨k, n, a, b, kids, rfl⟩ := cM h
    have hl : kids.length < 1000000000 := by have := cE kids h; simp only [Tree.size] at hs; omega
    obtain ⟨q, hQ0⟩ : ∃ q, isSigP (.node k n a b kids) = q := ⟨_, rfl⟩
    rw [hQ0]
    rw [isSigP] at hQ0
    cases hb : sbareP n a b false false with
    | false =>
      rw [hb, Bool.false_and] at hQ0
      subst hQ0
      rw [kL] at hb
      have hb : b.toList = emptyB.toList → a.toList = emptyB.toList → n = 0 → False := fun h1 h2 h3 => by
        have e1 : eqB b emptyB = true := by unfold eqB; rw [h1]; simp
        have e2 : eqB a emptyB = true := by unfold eqB; rw [h2]; simp
        rw [e1, e2, h3] at hb
        cases hb
      clear ih
      refine aM Tryz.func38 rfl rfl (nb rfl) rfl ?_
      repeat' (first | refine aE ?_ | (refine aH ?_;  first | refine aC tabOk rfl rfl rfl (nb rfl) rfl ?_ | refine bD rfl rfl (nb rfl) ?_ | (refine aK rfl rfl rfl (nb rfl) rfl rfl rfl (fun hq => ?_) (fun hq => ?_) <;> (first | (simp only [sD, sE, sB, sC, sN, sM, sT, sF] at hq; try (exfalso; omega)) | skip)) | refine aU tabOk rfl rfl (nb rfl) rfl ?_ | refine bI tabOk rfl rfl rfl (nb rfl) rfl rfl rfl rfl (by first | rfl | omega) (by first | omega | simp) ?_ | refine aY tabOk rfl rfl rfl (nb rfl) rfl rfl rfl (cA _ _ (by first | assumption | omega)) ?_) | (refine aN ?_;  first | refine aG ?_ | refine aQ ?_ | refine aZ ?_ | refine aT ?_ | refine aW ?_ | refine aA (b := true) rfl (fun _ => ?_) nTf | refine aA (b := false) rfl nFt (fun _ => ?_)) | (refine aJ ?_;  first | refine bB ?_ | refine aR ?_))
      all_goals first
        | exact absurd rfl (by assumption)
        | exact (hb (by assumption) (by assumption) (by assumption)).elim
        | (refine aX (by first | exact .inl rfl | exact .inr rfl) (aV rfl (aD rfl)) rfl ?_; rfl)
    | true =>
      rw [hb, Bool.true_and] at hQ0
      by_cases hk : k = 160 ∨ k = 161
      · rw [if_pos hk] at hQ0
        rw [kL] at hb
        simp only [Bool.and_eq_true, beq_iff_eq, dP] at hb
        obtain ⟨⟨rfl, rfl⟩, rfl⟩ := hb
        by_cases h1 : kids.length = 1
        · obtain ⟨c, rfl⟩ := one_of h1
          have hz := cG (k := k) (n := 0) (a := emptyB) (b := emptyB) (kids := [c]) (t := c) (by simp)
          have hwc := bM h (List.mem_singleton.2 rfl)
          have c1 := nM c hwc (by omega)
          rw [sig1, oZ isConP c hwc (by omega)] at hQ0
          generalize (if isConP c = true then (0 : Int) else 16) = C at *
          clear ih
          refine aM Tryz.func38 rfl rfl (nb rfl) rfl ?_
          repeat' (first | refine aE ?_ | (refine aH ?_;  first | refine aC tabOk rfl rfl rfl (nb rfl) rfl ?_ | refine bD rfl rfl (nb rfl) ?_ | (refine aK rfl rfl rfl (nb rfl) rfl rfl rfl (fun hq => ?_) (fun hq => ?_) <;> (first | (simp only [sD, sE, sB, sC, sN, sM, sT, sF] at hq; try (exfalso; omega)) | skip)) | refine aI rfl rfl (nb rfl) rfl rfl rfl rfl (c1) ?_ | refine aU tabOk rfl rfl (nb rfl) rfl ?_ | refine bI tabOk rfl rfl rfl (nb rfl) rfl rfl rfl rfl (by first | rfl | omega) (by first | omega | simp) ?_) | (refine aN ?_;  first | refine aG ?_ | refine aQ ?_ | refine aT ?_ | refine aW ?_ | refine aA (b := true) rfl (fun _ => ?_) nTf | refine aA (b := false) rfl nFt (fun _ => ?_)) | (refine aJ ?_;  first | refine bB ?_ | refine aR ?_))
          all_goals first
            | exact absurd rfl (by assumption)
            | (exfalso; omega)
            | (refine aX (by first | exact .inl rfl | exact .inr rfl) (aV rfl (aD rfl)) rfl ?_; refine cH ?_; subst hQ0; simp_all)
        · rw [mC h1] at hQ0
          subst hQ0
          clear ih
          refine aM Tryz.func38 rfl rfl (nb rfl) rfl ?_
          repeat' (first | refine aE ?_ | (refine aH ?_;  first | refine aC tabOk rfl rfl rfl (nb rfl) rfl ?_ | refine bD rfl rfl (nb rfl) ?_ | (refine aK rfl rfl rfl (nb rfl) rfl rfl rfl (fun hq => ?_) (fun hq => ?_) <;> (first | (simp only [sD, sE, sB, sC, sN, sM, sT, sF] at hq; try (exfalso; omega)) | skip)) | refine aU tabOk rfl rfl (nb rfl) rfl ?_) | (refine aN ?_;  first | refine aG ?_ | refine aQ ?_ | refine aT ?_ | refine aW ?_ | refine aA (b := true) rfl (fun _ => ?_) nTf | refine aA (b := false) rfl nFt (fun _ => ?_)) | (refine aJ ?_;  first | refine bB ?_ | refine aR ?_))
          all_goals first
            | exact absurd rfl (by assumption)
            | (exfalso; omega)
            | (refine aX (by first | exact .inl rfl | exact .inr rfl) (aV rfl (aD rfl)) rfl ?_; rfl)
      · rw [if_neg hk] at hQ0
        by_cases h162 : k = 162
        · rw [if_pos h162] at hQ0
          have := uV k n a b kids hb h162 h hl (fun t' h1 h2 => ih t' h1 h2 (by omega))
          rw [hQ0] at this
          exact this
        · rw [if_neg h162] at hQ0
          subst hQ0
          rw [kL] at hb
          simp only [Bool.and_eq_true, beq_iff_eq, dP] at hb
          obtain ⟨⟨rfl, rfl⟩, rfl⟩ := hb
          clear ih
          refine aM Tryz.func38 rfl rfl (nb rfl) rfl ?_
          repeat' (first | refine aE ?_ | (refine aH ?_;  first | refine aC tabOk rfl rfl rfl (nb rfl) rfl ?_ | refine bD rfl rfl (nb rfl) ?_ | (refine aK rfl rfl rfl (nb rfl) rfl rfl rfl (fun hq => ?_) (fun hq => ?_) <;> (first | (simp only [sD, sE, sB, sC, sN, sM, sT, sF] at hq; try (exfalso; omega)) | skip))) | (refine aN ?_;  first | refine aG ?_ | refine aQ ?_ | refine aT ?_ | refine aW ?_ | refine aA (b := true) rfl (fun _ => ?_) nTf | refine aA (b := false) rfl nFt (fun _ => ?_)) | (refine aJ ?_;  first | refine bB ?_ | refine aR ?_))
          all_goals first
            | exact absurd rfl (by assumption)
            | exact absurd (by assumption) h162
            | (exfalso; omega)
            | (refine aX (by first | exact .inl rfl | exact .inr rfl) (aV rfl (aD rfl)) rfl ?_; rfl)
theorem zJ (n : Int) (a b : ByteArray) : sbareP n a b false true = (eqB b emptyB && eqB a emptyB && decide (0 ≤ n ∧ n ≤ 8192)) := by
  unfold sbareP
  rw [Bool.false_or, Bool.true_and]
  congr 1
  rw [Bool.eq_iff_iff]
  simp
  omega
set_option maxHeartbeats 16000000 in
set_option maxRecDepth 10000 in
theorem sL (k n : Int) (a b : ByteArray) (kids : List Tree) (kind cnt : Int) (hl : kids.length < 1000000000) : ACalls Tryz.prog 46 [.imm (Tree.iv (.node k n a b kids)), .imm (.lit (.int .i64 kind)), .imm (.lit (.int .i64 cnt))] [] (.imm (.lit (.bool ((k == kind) && sbareP n a b false true && ((kids.length : Int) == cnt))))) [] := by
  rw [zJ]
  refine aM Tryz.func46 rfl rfl (nb rfl) rfl ?_
  repeat' (first | refine aE ?_ | (refine aH ?_;  first | refine aC tabOk rfl rfl rfl (nb rfl) rfl ?_ | refine bD rfl rfl (nb rfl) ?_ | (refine aK rfl rfl rfl (nb rfl) rfl rfl rfl (fun hq => ?_) (fun hq => ?_) <;> (first | (simp only [sD, sE, sB, sC, sN, sM, sT, sF] at hq; try (exfalso; omega)) | skip)) | refine aU tabOk rfl rfl (nb rfl) rfl ?_) | (refine aN ?_;  first | refine aG ?_ | refine aT ?_))
  all_goals (refine aX (by first | exact .inl rfl | exact .inr rfl) (aV rfl (aD rfl)) rfl ?_; refine cH ?_; first | (simp_all [eqB, emptyB]; done) | (simp_all [eqB, emptyB]; omega))
set_option maxHeartbeats 8000000 in
set_option maxRecDepth 10000 in
theorem aBk (t : Tree) (h : t.whole = true) (hs : t.size ≤ 65536) : ACalls Tryz.prog 45 [.imm t.iv] [] (.imm (.lit (.bool (isExP t)))) [] := by
  obtain ⟨k, n, a, b, kids, rfl⟩ := cM h
  have hl : kids.length < 1000000000 := by have := cE kids h; simp only [Tree.size] at hs; omega
  have c1 := sL k n a b kids 164 1 hl
  by_cases h1 : kids.length = 1
  · obtain ⟨c, rfl⟩ := one_of h1
    have hz := cG (k := k) (n := n) (a := a) (b := b) (kids := [c]) (t := c) (by simp)
    have c2 := qI c (bM h (by simp)) (by omega)
    rw [isExP]
    rw [show (([c].length : Int) == 1) = true from rfl, Bool.and_true] at c1
    generalize ((k == 164) && sbareP n a b false true) = B at *
    generalize isSigP c = F at *
    refine aM Tryz.func45 rfl rfl (nb rfl) rfl ?_
    repeat' (first | refine aE ?_ | (refine aH ?_;  first | refine aC tabOk rfl rfl rfl (nb rfl) rfl ?_ | refine bD rfl rfl (nb rfl) ?_ | (refine bP rfl rfl rfl (nb rfl) rfl rfl rfl (c1) (fun hq => ?_) (fun hq => ?_)) | (refine bP rfl rfl rfl (nb rfl) rfl rfl rfl (c2) (fun hq => ?_) (fun hq => ?_)) | refine bI tabOk rfl rfl rfl (nb rfl) rfl rfl rfl rfl (by first | rfl | omega) (by first | omega | simp) ?_) | (refine aN ?_;  first | refine aG ?_ | refine aT ?_))
    all_goals (refine aX (by first | exact .inl rfl | exact .inr rfl) (aV rfl (aD rfl)) rfl ?_; refine cH ?_; simp_all)
  · rw [nD h1]
    rw [show ((kids.length : Int) == 1) = false from beq_eq_false_iff_ne.2 (by omega), Bool.and_false] at c1
    refine aM Tryz.func45 rfl rfl (nb rfl) rfl ?_
    repeat' (first | refine aE ?_ | (refine aH ?_;  first | refine aC tabOk rfl rfl rfl (nb rfl) rfl ?_ | refine bD rfl rfl (nb rfl) ?_ | refine aI rfl rfl (nb rfl) rfl rfl rfl rfl (c1) ?_) | (refine aN ?_;  first | refine aG ?_ | refine aT ?_))
    all_goals first
      | exact absurd rfl (by assumption)
      | exact cF (by first | exact .inl rfl | exact .inr rfl) (aV rfl (aD rfl)) rfl
set_option maxHeartbeats 16000000 in
set_option maxRecDepth 10000 in
theorem eM (t : Tree) (hw : t = .nil ∨ t.whole = true) (hs : t.size ≤ 65536) : ACalls Tryz.prog 15 [.imm t.iv] [] (.imm (.lit (.int .i64 (checkP sformP t)))) [] := by
  rcases hw with rfl | hw
  · have c1 : ACalls Tryz.prog 29 [.imm (Tree.iv .nil)] [] (.imm (.lit (.int .i64 1))) [] := by
      have c0 : ACalls Tryz.prog 58 [.imm (Tree.iv .nil), .imm (.lit (.int .i64 65536))] [] (.imm (.tup [.lit (.int .i64 65536), .lit (.int .i64 1)])) [] := by
        refine aM Tryz.func58 rfl rfl (nb rfl) rfl ?_
        repeat' (first | refine aE ?_ | (refine aH ?_;  first | refine aC tabOk rfl rfl rfl (nb rfl) rfl ?_ | refine aU tabOk rfl rfl (nb rfl) rfl ?_) | (refine aN ?_;  first | refine aG ?_ | refine aQ ?_ | refine aT ?_ | refine aA (b := true) rfl (fun _ => ?_) nTf) | (refine aJ ?_;  first | refine aR ?_))
        all_goals first
          | exact absurd rfl (by assumption)
          | (refine aX (by first | exact .inl rfl | exact .inr rfl) (bO rfl (aD rfl) (aD rfl)) rfl ?_; rfl)
      refine aM Tryz.func29 rfl rfl (nb rfl) rfl ?_
      repeat' (first | refine aE ?_ | (refine aH ?_;  first | refine aC tabOk rfl rfl rfl (nb rfl) rfl ?_ | (refine aK rfl rfl rfl (nb rfl) rfl rfl rfl (fun hq => ?_) (fun hq => ?_) <;> (first | (simp only [sD, sE, sB, sC, sN, sM, sT, sF] at hq; try (exfalso; omega)) | skip)) | refine aI rfl rfl (nb rfl) rfl rfl rfl rfl (c0) ?_) | (refine aN ?_;  first | refine aG ?_ | refine aQ ?_ | refine aT ?_ | refine aA (b := true) rfl (fun _ => ?_) nTf) | (refine aJ ?_;  first | refine aR ?_))
      all_goals first
        | exact absurd rfl (by assumption)
        | (refine aX (by first | exact .inl rfl | exact .inr rfl) (aV rfl (aD rfl)) rfl ?_; rfl)
    rw [show checkP sformP .nil = 1 from rfl]
    refine aM Tryz.func15 rfl rfl (nb rfl) rfl ?_
    repeat' (first | refine aE ?_ | (refine aH ?_;  first | refine aC tabOk rfl rfl rfl (nb rfl) rfl ?_ | refine bD rfl rfl (nb rfl) ?_ | (refine aK rfl rfl rfl (nb rfl) rfl rfl rfl (fun hq => ?_) (fun hq => ?_) <;> (first | (simp only [sD, sE, sB, sC, sN, sM, sT, sF] at hq; try (exfalso; omega)) | skip)) | refine aI rfl rfl (nb rfl) rfl rfl rfl rfl (c1) ?_) | (refine aN ?_;  first | refine aG ?_ | refine aQ ?_ | refine aT ?_ | refine aA (b := true) rfl (fun _ => ?_) nTf) | (refine aJ ?_;  first | refine aR ?_))
    all_goals first
      | exact absurd rfl (by assumption)
      | (refine aX (by first | exact .inl rfl | exact .inr rfl) (aV rfl (aD rfl)) rfl ?_; rfl)
  · have c1 := nM t hw hs
    have c2 := qI t hw hs
    have c3 := aBk t hw hs
    rw [oZ sformP t hw hs]
    obtain ⟨k, n, a, b, kids, rfl⟩ := cM hw
    have hl : kids.length < 1000000000 := by have := cE kids hw; simp only [Tree.size] at hs; omega
    have c4 := sL k n a b kids 165 2 hl
    unfold sformP
    have hC : (if isConP (.node k n a b kids) = true then (0 : Int) else 16) ≠ 1 ∧ (if isConP (.node k n a b kids) = true then (0 : Int) else 16) ≠ 3 := by split <;> omega
    generalize (if isConP (.node k n a b kids) = true then (0 : Int) else 16) = C at *
    obtain ⟨hC1, hC3⟩ := hC
    by_cases h1 : kids.length = 2
    · obtain ⟨x, y, rfl⟩ := two h1
      have hz := cG (k := k) (n := n) (a := a) (b := b) (kids := [x, y]) (t := x) (by simp)
      have hz2 := cG (k := k) (n := n) (a := a) (b := b) (kids := [x, y]) (t := y) (by simp)
      have c5 := qI x (bM hw (by simp)) (by omega)
      have c6 := aBk y (bM hw (by simp)) (by omega)
      rw [show (([x, y].length : Int) == 2) = true from rfl, Bool.and_true] at c4
      rw [isFunP]
      generalize ((k == 165) && sbareP n a b false true) = B at *
      generalize isSigP x = F at *
      generalize isExP y = G at *
      generalize isSigP (.node k n a b [x, y]) = S1 at *
      generalize isExP (.node k n a b [x, y]) = S2 at *
      refine aM Tryz.func15 rfl rfl (nb rfl) rfl ?_
      repeat' (first | refine aE ?_ | (refine aH ?_;  first | refine aC tabOk rfl rfl rfl (nb rfl) rfl ?_ | refine bD rfl rfl (nb rfl) ?_ | (refine aK rfl rfl rfl (nb rfl) rfl rfl rfl (fun hq => ?_) (fun hq => ?_) <;> (first | (simp only [sD, sE, sB, sC, sN, sM, sT, sF] at hq; try (exfalso; omega)) | skip)) | refine aI rfl rfl (nb rfl) rfl rfl rfl rfl (c1) ?_ | (refine bP rfl rfl rfl (nb rfl) rfl rfl rfl (c2) (fun hq => ?_) (fun hq => ?_)) | (refine bP rfl rfl rfl (nb rfl) rfl rfl rfl (c3) (fun hq => ?_) (fun hq => ?_)) | (refine bP rfl rfl rfl (nb rfl) rfl rfl rfl (c4) (fun hq => ?_) (fun hq => ?_)) | (refine bP rfl rfl rfl (nb rfl) rfl rfl rfl (c5) (fun hq => ?_) (fun hq => ?_)) | (refine bP rfl rfl rfl (nb rfl) rfl rfl rfl (c6) (fun hq => ?_) (fun hq => ?_)) | refine bI tabOk rfl rfl rfl (nb rfl) rfl rfl rfl rfl (by first | rfl | omega) (by first | omega | simp) ?_) | (refine aN ?_;  first | refine aG ?_ | refine aQ ?_ | refine aT ?_ | refine aW ?_ | refine aA (b := true) rfl (fun _ => ?_) nTf | refine aA (b := false) rfl nFt (fun _ => ?_)) | (refine aJ ?_;  first | refine bB ?_ | refine aR ?_))
      all_goals first
        | exact absurd rfl (by assumption)
        | exact absurd (by assumption) hC1
        | exact absurd (by assumption) hC3
        | (refine aX (by first | exact .inl rfl | exact .inr rfl) (aV rfl (aD rfl)) rfl ?_; refine fE ?_; simp_all)
    · rw [kZ h1, Bool.or_false]
      rw [show ((kids.length : Int) == 2) = false from beq_eq_false_iff_ne.2 (by omega), Bool.and_false] at c4
      generalize isSigP (.node k n a b kids) = S1 at *
      generalize isExP (.node k n a b kids) = S2 at *
      refine aM Tryz.func15 rfl rfl (nb rfl) rfl ?_
      repeat' (first | refine aE ?_ | (refine aH ?_;  first | refine aC tabOk rfl rfl rfl (nb rfl) rfl ?_ | refine bD rfl rfl (nb rfl) ?_ | (refine aK rfl rfl rfl (nb rfl) rfl rfl rfl (fun hq => ?_) (fun hq => ?_) <;> (first | (simp only [sD, sE, sB, sC, sN, sM, sT, sF] at hq; try (exfalso; omega)) | skip)) | refine aI rfl rfl (nb rfl) rfl rfl rfl rfl (c1) ?_ | (refine bP rfl rfl rfl (nb rfl) rfl rfl rfl (c2) (fun hq => ?_) (fun hq => ?_)) | (refine bP rfl rfl rfl (nb rfl) rfl rfl rfl (c3) (fun hq => ?_) (fun hq => ?_)) | refine aI rfl rfl (nb rfl) rfl rfl rfl rfl (c4) ?_) | (refine aN ?_;  first | refine aG ?_ | refine aQ ?_ | refine aT ?_ | refine aW ?_ | refine aA (b := true) rfl (fun _ => ?_) nTf | refine aA (b := false) rfl nFt (fun _ => ?_)) | (refine aJ ?_;  first | refine bB ?_ | refine aR ?_))
      all_goals first
        | exact absurd rfl (by assumption)
        | exact absurd (by assumption) hC1
        | exact absurd (by assumption) hC3
        | (refine aX (by first | exact .inl rfl | exact .inr rfl) (aV rfl (aD rfl)) rfl ?_; refine fE ?_; simp_all)
end Go.Proofs.YtlbemgokilhdnaaGreatDoor.Ab
namespace Go.Proofs.YtlbemgokilhdnaaGreatDoor.Ab
set_option linter.unusedVariables false
set_option linter.unusedSimpArgs false
open Go.RowKit
attribute [local irreducible] AWP AOps AExit AThen ABlock ANoGoto FeetOk
set_option maxHeartbeats 4000000 in
set_option maxRecDepth 10000 in
theorem qJ (t : Tree) : t.whole = true → t.size ≤ 1000000 → ACalls Tryz.prog 24 [.imm t.iv] [] (.imm (.lit (.int .i64 (t.size : Int)))) [] := by
  induction t using Tree.ind with
  | h1 => intro h; simp [Tree.whole] at h
  | h2 k n a b kids ih =>
    intro hw hs
    have hl := cE kids hw
    have hsz : (Tree.node k n a b kids).size = 1 + Tree.sizes kids := by rw [Tree.size]
    rw [hsz] at hs ⊢
    have htk : ∀ j (h : j < kids.length), Tree.sizes (kids.take (j + 1)) = Tree.sizes (kids.take j) + kids[j].size := fun j h => by
      rw [List.take_succ_eq_append_getElem h, gC]
      simp only [Tree.sizes]; omega
    have hle : ∀ j, Tree.sizes (kids.take j) ≤ Tree.sizes kids := fun j => by
      have := gC (kids.take j) (kids.drop j)
      rw [List.take_append_drop] at this
      omega
    refine aM Tryz.func24 rfl rfl (nb rfl) rfl ?_
    repeat' (first | refine aE ?_ | (refine aH ?_;  first | refine aC tabOk rfl rfl rfl (nb rfl) rfl ?_ | refine aU tabOk rfl rfl (nb rfl) rfl ?_) | (refine aN ?_;  first | refine aG ?_ | refine aQ ?_ | refine aZ ?_ | refine aW ?_ | refine aA (b := false) rfl nFt (fun _ => ?_)) | (refine aJ ?_;  first | refine bB ?_))
    refine cB (ι := {j : Nat // j ≤ kids.length}) (fun j => S.f ⟨[(4, .imm (.lit (.int .i64 (j.1 : Int)))), (0, .imm (Tree.iv (.node k n a b kids))), (3, .imm (.lit (.int .i64 ((1 + Tree.sizes (kids.take j.1) : Nat) : Int))))], []⟩) (fun j => kids.length - j.1) ⟨0, Nat.zero_le _⟩ (bY (by repeat' first | exact trivial | refine ⟨rfl, ?_⟩) (by repeat' first | exact trivial | refine ⟨rfl, ?_⟩)) ?_
    rintro ⟨j, hj⟩
    dsimp only
    by_cases hlt : j < kids.length
    · have hm := List.getElem_mem hlt
      have hget := cA kids j hlt
      have h1 := htk j hlt
      have h2 := hle j
      have h3 := hle (j + 1)
      have hc := ih _ hm (bM hw hm) (by omega)
      repeat' (first | refine aE ?_ | (refine aH ?_;  first | refine aC tabOk rfl rfl rfl (nb rfl) rfl ?_ | (refine aK rfl rfl rfl (nb rfl) rfl rfl rfl (fun hq => ?_) (fun hq => ?_) <;> (first | (simp only [sD, sE, sB, sC, sN, sM, sT, sF] at hq; try (exfalso; omega)) | skip)) | refine aY tabOk rfl rfl rfl (nb rfl) rfl rfl rfl hget ?_ | refine aI rfl rfl (nb rfl) rfl rfl rfl rfl (hc) ?_ | refine cI (z := ((1 + Tree.sizes (kids.take (j + 1)) : Nat) : Int)) rfl rfl rfl (nb rfl) rfl rfl (by omega) (by omega) (by omega) ?_ | refine bK rfl rfl rfl (nb rfl) rfl rfl (by omega) ?_ | refine aU tabOk rfl rfl (nb rfl) rfl ?_ | refine bF tabOk rfl rfl rfl (nb rfl) rfl rfl rfl rfl (by first | assumption | omega) ?_) | (refine aN ?_;  first | refine aG ?_ | refine aQ ?_ | refine bE ?_ | refine aZ ?_ | refine aW ?_ | refine aA (b := true) rfl (fun _ => ?_) nTf) | (refine aJ ?_;  first | refine bB ?_) | (refine bA ?_;  first | refine bR ?_))
      all_goals first
        | (exfalso; omega)
        | exact ⟨⟨j + 1, hlt⟩, (by show kids.length - (j + 1) < kids.length - j; omega), (bY (by repeat' first | exact trivial | refine ⟨rfl, ?_⟩) (by repeat' first | exact trivial | refine ⟨rfl, ?_⟩))⟩
    · have ej : j = kids.length := by omega
      subst ej
      rw [List.take_length]
      repeat' (first | refine aE ?_ | (refine aH ?_;  first | refine aC tabOk rfl rfl rfl (nb rfl) rfl ?_ | (refine aK rfl rfl rfl (nb rfl) rfl rfl rfl (fun hq => ?_) (fun hq => ?_) <;> (first | (simp only [sD, sE, sB, sC, sN, sM, sT, sF] at hq; try (exfalso; omega)) | skip)) | refine aU tabOk rfl rfl (nb rfl) rfl ?_) | (refine aN ?_;  first | refine aG ?_ | refine aQ ?_ | refine aT ?_ | refine bS ?_ | refine aA (b := false) rfl nFt (fun _ => ?_)) | (refine aJ ?_;  first | refine bB ?_ | refine bJ ?_) | (refine bA ?_;  first | refine bH ?_))
      all_goals first
        | (exfalso; omega)
        | (refine aX (by first | exact .inl rfl | exact .inr rfl) (aV rfl (aD rfl)) rfl ?_; rfl)
end Go.Proofs.YtlbemgokilhdnaaGreatDoor.Ab
namespace Go.Proofs.YtlbemgokilhdnaaGreatDoor.Ab
set_option linter.unusedVariables false
set_option linter.unusedSimpArgs false
open Go.RowKit
attribute [local irreducible] AWP AOps AExit AThen ABlock ANoGoto FeetOk
section
variable {P : Program} {T : Tab} {keep : List Nat} {N : Nat} {ops : Array Oper} {K : List Foot → SF → Prop} {o : Oper} {rest : List Oper} {ks : List Foot} {s : List (Nat × AV)} {m : Mem} {d : Nat}
/-- A boxed value, by a name that was reserved. -/
theorem gF (g : Nat) {t : Nat} {x : Operand} {y : AV} (ho : o.op = .box t x) (hw : wantedA ops o (S.f ⟨s, m⟩) = some true) (hd : o.dst = some d) (hN : d < N) (hx : (S.f ⟨s, m⟩).ev x = some y) (h1 : y.cells.all AV.one = true) (hg : m.get g = some .fut) (hy : (AV.namesL y.cells).contains g = false)
    {cs : List AV} (hcs : y.cells = cs) (k : AOps P keep N ops K rest (⟨[g], false, false⟩ :: ks) (S.f ⟨(d, .obj g 0) :: s, m.put g (.cells cs)⟩)) : AOps P keep N ops K (o :: rest) ks (S.f ⟨s, m⟩) := by
  subst hcs
  exact rG hw hd hN (jM g ho hx h1 (by simpa using hy)).fut hg k
end
mutual
/-- Has no node of a tree a mark? -/
def noMark : Tree → Bool
  | .nil => true
  | .node _ _ _ b kids => decide (b = emptyB) && noMarks kids
def noMarks : List Tree → Bool
  | [] => true
  | t :: ts => noMark t && noMarks ts
end
theorem lO : ∀ {l : List Tree}, noMarks l = true → ∀ t ∈ l, noMark t = true
  | x :: xs, h, t, ht => by
    simp only [noMarks, Bool.and_eq_true] at h
    rcases List.mem_cons.1 ht with rfl | ht
    · exact h.1
    · exact lO h.2 t ht
theorem nN : ∀ {l : List Tree}, (∀ t ∈ l, noMark t = true) → noMarks l = true
  | [], _ => by rw [noMarks]
  | x :: xs, h => by
    simp only [noMarks, Bool.and_eq_true]
    exact ⟨h x (by simp), nN fun t ht => h t (by simp [ht])⟩
theorem sO {k n : Int} {a b : ByteArray} {kids : List Tree} (h : noMark (.node k n a b kids) = true) : b = emptyB ∧ ∀ t ∈ kids, noMark t = true := by
  rw [noMark, Bool.and_eq_true, decide_eq_true_eq] at h
  exact ⟨h.1, lO h.2⟩
theorem jA {k n : Int} {a b : ByteArray} {kids : List Tree} (hb : b = emptyB) (h : ∀ t ∈ kids, noMark t = true) : noMark (.node k n a b kids) = true := by
  rw [noMark, Bool.and_eq_true, decide_eq_true_eq]
  exact ⟨hb, nN h⟩
theorem gZ {n : Int} {a b : ByteArray} {nm nu : Bool} (h : bareP n a b nm nu = true) : b = emptyB := by
  simp only [bareP, Bool.and_eq_true] at h
  exact qB h.1.1
theorem sP (t : Tree) : isKindP t = true → noMark t = true := by
  induction t using Tree.ind with
  | h1 => intro h; simp [isKindP] at h
  | h2 k n a b kids ih =>
    intro h
    rw [isKindP] at h
    split at h
    · rename_i e
      simp only [Bool.and_eq_true, beq_iff_eq] at h
      have e0 : kids = [] := List.eq_nil_of_length_eq_zero (by omega)
      subst e0
      exact jA (gZ h.1) (by simp)
    · split at h
      · rename_i e0 e
        simp only [Bool.and_eq_true] at h
        refine jA (gZ h.1.1) fun t ht => ih t ht ?_
        rw [gT, List.all_map] at h
        exact List.all_eq_true.1 h.2 t ht
      · cases h
theorem iJ {kind : Int} {t : Tree} (ih : ∀ t' : Tree, t'.size < t.size → isConP t' = true → noMark t' = true) (h : okNamed kind t = true) : noMark t = true := by
  cases t with
  | nil => simp [okNamed] at h
  | node k n a b ks =>
    simp only [okNamed, Bool.and_eq_true, beq_iff_eq] at h
    obtain ⟨⟨⟨rfl, hb⟩, _⟩, h⟩ := h
    by_cases h1 : ks.length = 1
    · obtain ⟨c, rfl⟩ := one_of h1
      refine jA (gZ hb) fun t ht => ?_
      obtain rfl := List.mem_singleton.1 ht
      exact ih t (cG (by simp)) (by simpa [isCon1] using h)
    · rw [kX h1] at h; cases h
/-- A constructor has no marks. -/
theorem uW (t : Tree) : isConP t = true → noMark t = true := by
  induction t using Tree.sind with
  | h t ih =>
    intro h
    cases t with
    | nil => simp [isConP] at h
    | node k n a b kids =>
      rw [isConP, Bool.and_eq_true] at h
      obtain ⟨hb, h⟩ := h
      have kid : ∀ t ∈ kids, isConP t = true → noMark t = true := fun t ht => ih t (cG ht)
      refine jA (gZ hb) fun t ht => ?_
      have hz := cG (k := k) (n := n) (a := a) (b := b) ht
      by_cases k0 : k = 110
      · rw [if_pos k0] at h
        simp only [Bool.and_eq_true, beq_iff_eq] at h
        have e0 : kids = [] := List.eq_nil_of_length_eq_zero (by omega)
        rw [e0] at ht; cases ht
      · rw [if_neg k0] at h
        by_cases k1 : k = 111 ∨ k = 112 ∨ k = 113
        · rw [if_pos k1] at h
          have e0 : kids = [] := List.eq_nil_of_length_eq_zero (by simpa using h)
          rw [e0] at ht
          cases ht
        · rw [if_neg k1] at h
          by_cases k2 : k = 114 ∨ k = 120
          · rw [if_pos k2, Bool.and_eq_true, nB] at h
            exact kid t ht (List.all_eq_true.1 h.2 t ht)
          · rw [if_neg k2] at h
            by_cases k3 : k = 115
            · rw [if_pos k3, Bool.and_eq_true, dW] at h
              exact iJ (fun t' h1 h2 => ih t' (by omega) h2) (List.all_eq_true.1 h.1 t ht)
            · rw [if_neg k3] at h
              by_cases k4 : k = 117 ∨ k = 118 ∨ k = 119
              · rw [if_pos k4] at h
                by_cases h2 : kids.length = 2
                · obtain ⟨x, y, rfl⟩ := two h2
                  simp only [isCon2, Bool.and_eq_true] at h
                  rcases List.mem_cons.1 ht with rfl | ht'
                  · exact sP _ h.1
                  · obtain rfl := List.mem_singleton.1 ht'
                    exact kid _ ht h.2
                · rw [eZ h2] at h; cases h
              · rw [if_neg k4] at h
                by_cases k5 : k = 121
                · rw [if_pos k5, Bool.and_eq_true, Bool.and_eq_true, dW] at h
                  exact iJ (fun t' h1 h2 => ih t' (by omega) h2) (List.all_eq_true.1 h.1.2 t ht)
                · rw [if_neg k5] at h; cases h
section
variable {σ : Type} (V : Int → Int → σ → Tree × σ) (B : σ → Prop)
theorem pA {k : Int} (n d : Int) (s : σ) {a b : ByteArray} (kids : List Tree) (hk : ¬ k = 110) : walkS V (.node k n a b kids) d s = (.node k n a b (walkSs V kids (d + bindsP k) s).1, (walkSs V kids (d + bindsP k) s).2) := by
  by_cases h : kids.length = 0
  · have e0 : kids = [] := List.eq_nil_of_length_eq_zero h
    subst e0
    rw [jS _ _ _ _ hk, dX]
  · rw [jT _ _ _ _ hk h]
/-- What is refused once stays refused. -/
theorem xJ (hV : ∀ n d s, B s → B (V n d s).2) (t : Tree) : ∀ d s, B s → B (walkS V t d s).2 := by
  induction t using Tree.ind with
  | h1 => intro d s h; rw [walkS]; exact h
  | h2 k n a b kids ih =>
    intro d s h
    by_cases k0 : k = 110
    · subst k0; rw [iX]; exact hV _ _ _ h
    · rw [pA V _ _ _ _ k0]
      have key : ∀ (l : List Tree) (s : σ), (∀ t ∈ l, t ∈ kids) → B s → B (walkSs V l (d + bindsP k) s).2 := by
        intro l
        induction l with
        | nil => intro s _ h; rw [dX]; exact h
        | cons t ts ih2 =>
          intro s hm h
          rw [walkSs]
          exact ih2 _ (fun t' h' => hm t' (by simp [h'])) (ih t (hm t (by simp)) _ _ h)
      exact key kids s (fun _ h => h) h
theorem nO (hV : ∀ n d s, B s → B (V n d s).2) (d : Int) : ∀ (l : List Tree) (s : σ), B s → B (walkSs V l d s).2
  | [], s, h => by rw [dX]; exact h
  | t :: ts, s, h => by rw [walkSs]; exact nO hV d ts _ (xJ V B hV t d s h)
theorem nP (d : Int) : ∀ (l r : List Tree) (s : σ), (walkSs V (l ++ r) d s).2 = (walkSs V r d (walkSs V l d s).2).2
  | [], r, s => by rw [dX]; rfl
  | t :: ts, r, s => by rw [List.cons_append, walkSs, walkSs]; exact nP d ts r _
theorem uX (hV : ∀ n d s, B s → B (V n d s).2) (d : Int) (s : σ) (l : List Tree) (j : Nat) (h : B (walkSs V (l.take j) d s).2) : B (walkSs V l d s).2 := by
  have e := nP V d (l.take j) (l.drop j) s
  rw [List.take_append_drop] at e
  rw [e]
  exact nO V B hV d _ _ h
end
set_option maxRecDepth 10000 in
theorem zK (k n : Int) (a b : ByteArray) (kids : List Tree) : ACalls Tryz.prog 85 [.imm (Tree.iv (.node k n a b kids))] [] (.imm (.lit (.int .i64 (bindsP k)))) [] := by
  refine aM Tryz.func85 rfl rfl (nb rfl) rfl ?_
  repeat' (first | refine aE ?_ | (refine aH ?_;  first | refine aC tabOk rfl rfl rfl (nb rfl) rfl ?_ | refine bD rfl rfl (nb rfl) ?_ | (refine aK rfl rfl rfl (nb rfl) rfl rfl rfl (fun hq => ?_) (fun hq => ?_) <;> (first | (simp only [sD, sE, sB, sC, sN, sM, sT, sF] at hq; try (exfalso; omega)) | skip))) | (refine aN ?_;  first | refine aG ?_ | refine aQ ?_ | refine aT ?_ | refine aW ?_ | refine aA (b := true) rfl (fun _ => ?_) nTf | refine aA (b := false) rfl nFt (fun _ => ?_)) | (refine aJ ?_;  first | refine bB ?_ | refine aR ?_))
  all_goals (refine aX (by first | exact .inl rfl | exact .inr rfl) (aV rfl (aD rfl)) rfl ?_; refine fE ?_; unfold bindsP; first | (rw [if_pos (by omega)]; done) | (rw [if_neg (by omega)]; done))
/-- What is told of what was made anew: it, or nil. -/
def told (R : Tree × Bool) : Tree := if R.2 = true then R.1 else .nil
theorem lB (t : Tree) : told (t, true) = t := rfl
theorem nQ (t : Tree) : told (t, false) = .nil := rfl
theorem uY (by_ from_ : Int) (n d : Int) (s : Bool) (h : s = false) : (shiftV by_ from_ n d s).2 = false := by
  subst h
  unfold shiftV
  split
  · rfl
  · rw [if_neg (by simp)]
end Go.Proofs.YtlbemgokilhdnaaGreatDoor.Ab
namespace Go.Proofs.YtlbemgokilhdnaaGreatDoor.Ab
set_option linter.unusedVariables false
set_option linter.unusedSimpArgs false
open Go.RowKit
attribute [local irreducible] AWP AOps AExit AThen ABlock ANoGoto FeetOk
set_option maxHeartbeats 16000000 in
set_option maxRecDepth 10000 in
theorem zL (by_ from_ : Int) (t : Tree) : ∀ d : Int, okVars t = true → noMark t = true → t.whole = true → 0 ≤ d → d + t.size ≤ 1000000 →
    ACalls Tryz.prog 60 [.imm t.iv, .imm (.lit (.int .i64 by_)), .imm (.lit (.int .i64 from_)), .imm (.lit (.int .i64 d))] [] (.imm (.tup [(told (walkS (shiftV by_ from_) t d true)).iv, .lit (.bool (walkS (shiftV by_ from_) t d true).2)])) [] := by
  induction t using Tree.ind with
  | h1 => intro d _ _ h; simp [Tree.whole] at h
  | h2 k n a b kids ih =>
    intro d hv hk hw hd hs
    have hl := cE kids hw
    have hsz : (Tree.node k n a b kids).size = 1 + Tree.sizes kids := by rw [Tree.size]
    rw [hsz] at hs
    have ci := zK k n a b kids
    obtain ⟨rfl, hks⟩ := sO hk
    by_cases k110 : k = 110
    · obtain ⟨q1, q2, rfl, _, rfl⟩ := jR k110 hv
      subst k110
      clear ih
      rw [iX]
      unfold shiftV
      by_cases h1 : n < d ∨ n - d < from_
      · rw [if_pos h1]
        refine cZ Tryz.func60 rfl rfl (nb rfl) rfl ?_
        refine dK (kI 27 (by simp) rfl rfl) ?_
        repeat' (first | refine aE ?_ | (refine aH ?_;  first | refine aC tabOk rfl rfl rfl (nb rfl) rfl ?_ | refine bD rfl rfl (nb rfl) ?_ | (refine aK rfl rfl rfl (nb rfl) rfl rfl rfl (fun hq => ?_) (fun hq => ?_) <;> (first | (simp only [sD, sE, sB, sC, sN, sM, sT, sF] at hq; try (exfalso; omega)) | skip)) | refine dE (d := 26) tabOk rfl rfl rfl (nb rfl) rfl rfl rfl rfl rfl ?_ | refine gF 27 (d := 27) rfl rfl rfl (nb rfl) rfl rfl rfl rfl rfl ?_ | refine bZ rfl rfl rfl (nb rfl) rfl rfl rfl (by omega) (by omega) ?_) | (refine aN ?_;  first | refine aG ?_ | refine aQ ?_ | refine aZ ?_ | refine aW ?_ | refine aA (b := false) rfl nFt (fun _ => ?_) | refine bC mixed (by kernel_rfl) ?_) | (refine aJ ?_;  first | refine bB ?_) | refine bU (bQ (by kernel_rfl)) ?_)
        all_goals first
          | exact absurd rfl (by assumption)
          | (exfalso; omega)
          | (refine dK (eA (h0 := 27) (k0 := 4) 500 26 1 rfl rfl (by simp) rfl rfl) ?_
             refine cB (ι := Unit) (fun _ => S.f ⟨[(11, .imm (.lit (.int .i64 0))), (10, .obj 27 0), (0, .imm (Tree.iv (.node 110 n emptyB emptyB [])))], [(500, .arr 26 1 0 []), (27, .cells [.imm (.lit (.int .i64 110)), .imm (.lit (.int .i64 (n))), .imm (.lit (.string ⟨#[]⟩)), .imm (.lit (.string ⟨#[]⟩)), .ref 500 0])]⟩) (fun _ => 0) () (bY (by repeat' first | exact trivial | refine ⟨rfl, ?_⟩) (by repeat' first | exact trivial | refine ⟨rfl, ?_⟩)) ?_
             rintro ⟨⟩
             dsimp only
             repeat' (first | refine aE ?_ | (refine aH ?_;  first | refine aC tabOk rfl rfl rfl (nb rfl) rfl ?_ | (refine aK rfl rfl rfl (nb rfl) rfl rfl rfl (fun hq => ?_) (fun hq => ?_) <;> (first | (simp only [sD, sE, sB, sC, sN, sM, sT, sF] at hq; try (exfalso; omega)) | skip)) | refine aU tabOk rfl rfl (nb rfl) rfl ?_ | refine bI tabOk rfl rfl rfl (nb rfl) rfl rfl rfl rfl (by first | rfl | omega) (by first | omega | simp) ?_ | refine aY tabOk rfl rfl rfl (nb rfl) rfl rfl rfl (cA _ _ (by first | assumption | omega)) ?_) | (refine aN ?_;  first | refine aG ?_ | refine aQ ?_ | refine aZ ?_ | refine aT ?_ | refine bS ?_ | refine aW ?_ | refine aA (b := true) rfl (fun _ => ?_) nTf | refine aA (b := false) rfl nFt (fun _ => ?_) | refine bC mixed (by kernel_rfl) ?_) | (refine aJ ?_;  first | refine bB ?_ | refine bJ ?_) | (refine bA ?_;  first | refine bH ?_))
             all_goals first
               | (exfalso; have hh : (0 : Int) < (([] : List Tree).length : Int) := by assumption
                  simp at hh)
               | (exfalso; omega)
               | (refine dT ((Imp.of_le (σ' := S.f ⟨[(8, .obj 27 0), (9, .imm (.lit (.bool true)))], [(500, .arr 26 1 0 []), (27, .cells [.imm (.lit (.int .i64 110)), .imm (.lit (.int .i64 (n))), .imm (.lit (.string ⟨#[]⟩)), .imm (.lit (.string ⟨#[]⟩)), .ref 500 0])]⟩) (bY (by repeat' first | exact trivial | refine ⟨rfl, ?_⟩) (by repeat' first | exact trivial | refine ⟨rfl, ?_⟩))).trans ((cU (g := 500) rfl (by repeat' first | exact trivial | exact fun _ => rfl | refine ⟨?_, ?_⟩) (by repeat' first | exact trivial | exact fun _ => rfl | refine ⟨?_, ?_⟩)).trans (dG (g := 27) rfl rfl))) ?_
                  refine aX (by first | exact .inl rfl | exact .inr rfl) (bO rfl (aD rfl) (aD rfl)) rfl ?_; rfl))
      · rw [if_neg h1]
        by_cases h2 : d - n ≤ by_ ∧ by_ ≤ 65536 - n
        · rw [if_pos ⟨rfl, h2⟩]
          refine cZ Tryz.func60 rfl rfl (nb rfl) rfl ?_
          refine dK (kI 27 (by simp) rfl rfl) ?_
          repeat' (first | refine aE ?_ | (refine aH ?_;  first | refine aC tabOk rfl rfl rfl (nb rfl) rfl ?_ | (refine aK rfl rfl rfl (nb rfl) rfl rfl rfl (fun hq => ?_) (fun hq => ?_) <;> (first | (simp only [sD, sE, sB, sC, sN, sM, sT, sF] at hq; try (exfalso; omega)) | skip)) | refine dE (d := 26) tabOk rfl rfl rfl (nb rfl) rfl rfl rfl rfl rfl ?_ | refine gF 27 (d := 27) rfl rfl rfl (nb rfl) rfl rfl rfl rfl rfl ?_ | refine cI (z := n + by_) rfl rfl rfl (nb rfl) rfl rfl rfl (by omega) (by omega) ?_ | refine bZ rfl rfl rfl (nb rfl) rfl rfl rfl (by omega) (by omega) ?_ | refine bN tabOk rfl rfl rfl rfl rfl rfl rfl rfl rfl rfl rfl ?_) | (refine aN ?_;  first | refine aG ?_ | refine aQ ?_ | refine bE ?_ | refine aZ ?_ | refine aW ?_ | refine aA (b := true) rfl (fun _ => ?_) nTf | refine aA (b := false) rfl nFt (fun _ => ?_) | refine bC mixed (by kernel_rfl) ?_) | (refine aJ ?_;  first | refine bB ?_) | refine bU (bQ (by kernel_rfl)) ?_)
          all_goals first
            | exact absurd rfl (by assumption)
            | (exfalso; omega)
            | (refine dK (eA (h0 := 27) (k0 := 4) 500 26 1 rfl rfl (by simp) rfl rfl) ?_
               refine cB (ι := Unit) (fun _ => S.f ⟨[(11, .imm (.lit (.int .i64 0))), (10, .obj 27 0), (0, .imm (Tree.iv (.node 110 n emptyB emptyB [])))], [(500, .arr 26 1 0 []), (27, .cells [.imm (.lit (.int .i64 110)), .imm (.lit (.int .i64 (n + by_))), .imm (.lit (.string ⟨#[]⟩)), .imm (.lit (.string ⟨#[]⟩)), .ref 500 0])]⟩) (fun _ => 0) () (bY (by repeat' first | exact trivial | refine ⟨rfl, ?_⟩) (by repeat' first | exact trivial | refine ⟨rfl, ?_⟩)) ?_
               rintro ⟨⟩
               dsimp only
               repeat' (first | refine aE ?_ | (refine aH ?_;  first | refine aC tabOk rfl rfl rfl (nb rfl) rfl ?_ | (refine aK rfl rfl rfl (nb rfl) rfl rfl rfl (fun hq => ?_) (fun hq => ?_) <;> (first | (simp only [sD, sE, sB, sC, sN, sM, sT, sF] at hq; try (exfalso; omega)) | skip)) | refine aU tabOk rfl rfl (nb rfl) rfl ?_ | refine bI tabOk rfl rfl rfl (nb rfl) rfl rfl rfl rfl (by first | rfl | omega) (by first | omega | simp) ?_ | refine aY tabOk rfl rfl rfl (nb rfl) rfl rfl rfl (cA _ _ (by first | assumption | omega)) ?_) | (refine aN ?_;  first | refine aG ?_ | refine aQ ?_ | refine aZ ?_ | refine aT ?_ | refine bS ?_ | refine aW ?_ | refine aA (b := true) rfl (fun _ => ?_) nTf | refine aA (b := false) rfl nFt (fun _ => ?_) | refine bC mixed (by kernel_rfl) ?_) | (refine aJ ?_;  first | refine bB ?_ | refine bJ ?_) | (refine bA ?_;  first | refine bH ?_))
               all_goals first
                 | (exfalso; have hh : (0 : Int) < (([] : List Tree).length : Int) := by assumption
                    simp at hh)
                 | (exfalso; omega)
                 | (refine dT ((Imp.of_le (σ' := S.f ⟨[(8, .obj 27 0), (9, .imm (.lit (.bool true)))], [(500, .arr 26 1 0 []), (27, .cells [.imm (.lit (.int .i64 110)), .imm (.lit (.int .i64 (n + by_))), .imm (.lit (.string ⟨#[]⟩)), .imm (.lit (.string ⟨#[]⟩)), .ref 500 0])]⟩) (bY (by repeat' first | exact trivial | refine ⟨rfl, ?_⟩) (by repeat' first | exact trivial | refine ⟨rfl, ?_⟩))).trans ((cU (g := 500) rfl (by repeat' first | exact trivial | exact fun _ => rfl | refine ⟨?_, ?_⟩) (by repeat' first | exact trivial | exact fun _ => rfl | refine ⟨?_, ?_⟩)).trans (dG (g := 27) rfl rfl))) ?_
                    refine aX (by first | exact .inl rfl | exact .inr rfl) (bO rfl (aD rfl) (aD rfl)) rfl ?_; rfl))
        · rw [if_neg (by simp only [true_and]; exact h2)]
          refine cZ Tryz.func60 rfl rfl (nb rfl) rfl ?_
          refine dK (kI 27 (by simp) rfl rfl) ?_
          repeat' (first | refine aE ?_ | (refine aH ?_;  first | refine aC tabOk rfl rfl rfl (nb rfl) rfl ?_ | refine bD rfl rfl (nb rfl) ?_ | (refine aK rfl rfl rfl (nb rfl) rfl rfl rfl (fun hq => ?_) (fun hq => ?_) <;> (first | (simp only [sD, sE, sB, sC, sN, sM, sT, sF] at hq; try (exfalso; omega)) | skip)) | refine dE (d := 26) tabOk rfl rfl rfl (nb rfl) rfl rfl rfl rfl rfl ?_ | refine gF 27 (d := 27) rfl rfl rfl (nb rfl) rfl rfl rfl rfl rfl ?_ | refine bZ rfl rfl rfl (nb rfl) rfl rfl rfl (by omega) (by omega) ?_) | (refine aN ?_;  first | refine aG ?_ | refine aQ ?_ | refine aT ?_ | refine aA (b := true) rfl (fun _ => ?_) nTf | refine bC mixed (by kernel_rfl) ?_) | (refine aJ ?_;  first | refine bB ?_ | refine aR ?_) | refine bU (bQ (by kernel_rfl)) ?_)
          all_goals first
            | exact absurd rfl (by assumption)
            | (exfalso; omega)
            | (refine jQ ?_; refine aX (by first | exact .inl rfl | exact .inr rfl) (bO rfl (aD rfl) (aD rfl)) rfl ?_; rfl)
    · have e := pA (shiftV by_ from_) n d true (a := a) (b := emptyB) kids k110
      rw [e]
      clear e
      have hb := kY k
      have hvs := iA k110 hv
      obtain ⟨Y, hY⟩ : ∃ Y, walkSs (shiftV by_ from_) kids (d + bindsP k) true = Y := ⟨_, rfl⟩
      rw [hY]
      refine cZ Tryz.func60 rfl rfl (nb rfl) rfl ?_
      refine dK (kI 27 (by simp) rfl rfl) ?_
      repeat' (first | refine aE ?_ | (refine aH ?_;  first | refine aC tabOk rfl rfl rfl (nb rfl) rfl ?_ | refine bD rfl rfl (nb rfl) ?_ | (refine aK rfl rfl rfl (nb rfl) rfl rfl rfl (fun hq => ?_) (fun hq => ?_) <;> (first | (simp only [sD, sE, sB, sC, sN, sM, sT, sF] at hq; try (exfalso; omega)) | skip)) | refine dE (d := 26) tabOk rfl rfl rfl (nb rfl) rfl rfl rfl rfl rfl ?_ | refine gF 27 (d := 27) rfl rfl rfl (nb rfl) rfl rfl rfl rfl rfl ?_) | (refine aN ?_;  first | refine aG ?_ | refine aQ ?_ | refine aZ ?_ | refine aW ?_ | refine aA (b := false) rfl nFt (fun _ => ?_) | refine bC mixed (by kernel_rfl) ?_) | (refine aJ ?_;  first | refine bB ?_) | refine bU (bQ (by kernel_rfl)) ?_)
      all_goals first
        | exact absurd (by assumption) k110
        | (exfalso; omega)
        | skip
      refine dK (eA (h0 := 27) (k0 := 4) 500 26 1 rfl rfl (by simp) rfl rfl) ?_
      refine cB (ι := {j : Nat // j ≤ kids.length ∧ (walkSs (shiftV by_ from_) (kids.take j) (d + bindsP k) true).2 = true}) (fun j => S.f ⟨[(11, .imm (.lit (.int .i64 (j.1 : Int)))), (10, .obj 27 0), (0, .imm (Tree.iv (.node k n a emptyB kids))), (1, .imm (.lit (.int .i64 by_))), (2, .imm (.lit (.int .i64 from_))), (3, .imm (.lit (.int .i64 d)))], [(500, .arr 26 1 j.1 (Tree.ivs (walkSs (shiftV by_ from_) (kids.take j.1) (d + bindsP k) true).1)), (27, .cells [.imm (.lit (.int .i64 k)), .imm (.lit (.int .i64 n)), .imm (.lit (.string a)), .imm (.lit (.string ⟨#[]⟩)), .ref 500 j.1])]⟩) (fun j => kids.length - j.1) ⟨0, Nat.zero_le _, by rw [List.take_zero, dX]⟩ (by dsimp only; rw [List.take_zero, dX]; exact (bY (by repeat' first | exact trivial | refine ⟨rfl, ?_⟩) (by repeat' first | exact trivial | refine ⟨rfl, ?_⟩))) ?_
      rintro ⟨j, hj, hok⟩
      dsimp only
      by_cases hlt : j < kids.length
      · have hm := List.getElem_mem hlt
        have hz := dO hm
        have hwk := bM hw hm
        have hget := cA kids j hlt
        have hc := ih _ hm (d + bindsP k) (hvs _ hm) (hks _ hm) hwk (by omega) (by omega)
        have htk := iB (shiftV by_ from_) (d + bindsP k) true hlt
        rw [hok] at htk
        have hfn := (nC (shiftV by_ from_) (fun _ => True) (fun _ => 0) (fun n d s _ _ _ _ _ => ⟨(fK by_ from_ n d s).1, trivial, by rw [(fK by_ from_ n d s).2]; omega⟩) kids[j] (d + bindsP k) true (hvs _ hm) hwk (by omega) (by omega) trivial).1
        clear ih
        generalize hR : walkS (shiftV by_ from_) kids[j] (d + bindsP k) true = R at *
        obtain ⟨R1, R2⟩ := R
        dsimp only at hc hfn htk
        obtain ⟨pm, hpm⟩ := dI (cS hfn)
        cases R2 with
        | false =>
          have hbad : Y.2 = false := by
            rw [← hY]
            refine uX _ (fun s => s = false) (fun n d s h => uY by_ from_ n d s h) _ _ _ (j + 1) ?_
            rw [htk]
          have hres : told ((Tree.node k n a emptyB Y.1), Y.2) = .nil ∧ Y.2 = false := ⟨by rw [hbad]; rfl, hbad⟩
          rw [nQ] at hc
          rw [hres.1, hres.2]
          clear hY htk
          generalize Tree.ivs (walkSs (shiftV by_ from_) (kids.take j) (d + bindsP k) true).1 = ZI at *
          repeat' (first | refine aE ?_ | (refine aH ?_;  first | refine aC tabOk rfl rfl rfl (nb rfl) rfl ?_ | (refine aK rfl rfl rfl (nb rfl) rfl rfl rfl (fun hq => ?_) (fun hq => ?_) <;> (first | (simp only [sD, sE, sB, sC, sN, sM, sT, sF] at hq; try (exfalso; omega)) | skip)) | refine aY tabOk rfl rfl rfl (nb rfl) rfl rfl rfl hget ?_ | refine aI rfl rfl (nb rfl) rfl rfl rfl rfl (hc) ?_ | refine aI rfl rfl (nb rfl) rfl rfl rfl rfl (ci) ?_ | refine cI rfl rfl rfl (nb rfl) rfl rfl rfl (by omega) (by omega) ?_ | refine aU tabOk rfl rfl (nb rfl) rfl ?_ | refine bF tabOk rfl rfl rfl (nb rfl) rfl rfl rfl rfl (by first | assumption | omega) ?_) | (refine aN ?_;  first | refine aG ?_ | refine aQ ?_ | refine aZ ?_ | refine aT ?_ | refine aW ?_ | refine aA (b := true) rfl (fun _ => ?_) nTf | refine bC mixed (by kernel_rfl) ?_) | (refine aJ ?_;  first | refine bB ?_ | refine aR ?_) | (refine bA ?_;  first | refine bG ?_) | refine bU (bQ (by kernel_rfl)) ?_)
          all_goals first
            | (exfalso; omega)
            | (refine jQ ?_; refine aX (by first | exact .inl rfl | exact .inr rfl) (bO rfl (aD rfl) (aD rfl)) rfl ?_; rfl)
        | true =>
          have hnx : Tree.ivs (walkSs (shiftV by_ from_) (kids.take (j + 1)) (d + bindsP k) true).1 = Tree.ivs (walkSs (shiftV by_ from_) (kids.take j) (d + bindsP k) true).1 ++ [.ptr pm 0] := by
            rw [htk, dQ, dQ, List.map_append, ← hpm]; rfl
          have hok2 : (walkSs (shiftV by_ from_) (kids.take (j + 1)) (d + bindsP k) true).2 = true := by rw [htk]
          have hil := fF (walkSs (shiftV by_ from_) (kids.take j) (d + bindsP k) true).1
          rw [fG, List.length_take, Nat.min_eq_left hj] at hil
          rw [lB, hpm] at hc
          clear htk hY
          generalize Tree.ivs (walkSs (shiftV by_ from_) (kids.take j) (d + bindsP k) true).1 = ZI at *
          repeat' (first | refine aE ?_ | (refine aH ?_;  first | refine aC tabOk rfl rfl rfl (nb rfl) rfl ?_ | (refine aK rfl rfl rfl (nb rfl) rfl rfl rfl (fun hq => ?_) (fun hq => ?_) <;> (first | (simp only [sD, sE, sB, sC, sN, sM, sT, sF] at hq; try (exfalso; omega)) | skip)) | refine aY tabOk rfl rfl rfl (nb rfl) rfl rfl rfl hget ?_ | refine aI rfl rfl (nb rfl) rfl rfl rfl rfl (hc) ?_ | refine aI rfl rfl (nb rfl) rfl rfl rfl rfl (ci) ?_ | refine cY tabOk rfl rfl rfl (nb rfl) rfl rfl rfl rfl rfl rfl rfl (by first | omega | decide) rfl (by first | omega | (dsimp only; omega)) (by first | omega | (dsimp only; omega)) ?_ | refine bK rfl rfl rfl (nb rfl) rfl rfl (by omega) ?_ | refine cI rfl rfl rfl (nb rfl) rfl rfl rfl (by omega) (by omega) ?_ | refine bV tabOk rfl rfl rfl (nb rfl) rfl rfl rfl rfl rfl rfl rfl rfl rfl ?_ | refine aU tabOk rfl rfl (nb rfl) rfl ?_ | refine bT tabOk rfl rfl rfl (nb rfl) rfl rfl rfl rfl ?_ | refine bN tabOk rfl rfl rfl rfl rfl rfl rfl rfl rfl rfl rfl ?_ | refine bF tabOk rfl rfl rfl (nb rfl) rfl rfl rfl rfl (by first | assumption | omega) ?_) | (refine aN ?_;  first | refine aG ?_ | refine aQ ?_ | refine bE ?_ | refine aZ ?_ | refine aW ?_ | refine aA (b := true) rfl (fun _ => ?_) nTf | refine aA (b := false) rfl nFt (fun _ => ?_) | refine bC mixed (by kernel_rfl) ?_) | (refine aJ ?_;  first | refine bB ?_) | (refine bA ?_;  first | refine bR ?_) | refine bU (bQ (by kernel_rfl)) ?_)
          all_goals first
            | (exfalso; omega)
            | (refine ⟨⟨j + 1, hlt, hok2⟩, (by show kids.length - (j + 1) < kids.length - j; omega), ?_⟩; dsimp only; rw [hnx]; exact (bY (by repeat' first | exact trivial | refine ⟨rfl, ?_⟩) (by repeat' first | exact trivial | refine ⟨rfl, ?_⟩)))
      · have ej : j = kids.length := by omega
        subst ej
        rw [List.take_length] at hok ⊢
        rw [hY] at hok ⊢
        have hll : Y.1.length = kids.length := by rw [← hY, fG]
        have hiv : (told ((Tree.node k n a emptyB Y.1), Y.2)).iv = .ptr [.lit (.int .i64 k), .lit (.int .i64 n), .lit (.string a), .lit (.string ⟨#[]⟩), .sl false kids.length (Tree.ivs Y.1)] 0 := by rw [hok, lB, Tree.iv, hll]; rfl
        rw [hiv, hok]
        clear ih hY
        generalize Tree.ivs Y.1 = ZI at *
        repeat' (first | refine aE ?_ | (refine aH ?_;  first | refine aC tabOk rfl rfl rfl (nb rfl) rfl ?_ | (refine aK rfl rfl rfl (nb rfl) rfl rfl rfl (fun hq => ?_) (fun hq => ?_) <;> (first | (simp only [sD, sE, sB, sC, sN, sM, sT, sF] at hq; try (exfalso; omega)) | skip)) | refine aU tabOk rfl rfl (nb rfl) rfl ?_) | (refine aN ?_;  first | refine aG ?_ | refine aQ ?_ | refine aT ?_ | refine bS ?_ | refine aA (b := false) rfl nFt (fun _ => ?_)) | (refine aJ ?_;  first | refine bB ?_ | refine bJ ?_) | (refine bA ?_;  first | refine bH ?_))
        all_goals first
          | (exfalso; omega)
          | (refine dT ((Imp.of_le (σ' := S.f ⟨[(8, .obj 27 0), (9, .imm (.lit (.bool true)))], [(500, .arr 26 1 kids.length ZI), (27, .cells [.imm (.lit (.int .i64 k)), .imm (.lit (.int .i64 n)), .imm (.lit (.string a)), .imm (.lit (.string ⟨#[]⟩)), .ref 500 kids.length])]⟩) (bY (by repeat' first | exact trivial | refine ⟨rfl, ?_⟩) (by repeat' first | exact trivial | refine ⟨rfl, ?_⟩))).trans ((cU (g := 500) rfl (by repeat' first | exact trivial | exact fun _ => rfl | refine ⟨?_, ?_⟩) (by repeat' first | exact trivial | exact fun _ => rfl | refine ⟨?_, ?_⟩)).trans (dG (g := 27) rfl rfl))) ?_
             refine aX (by first | exact .inl rfl | exact .inr rfl) (bO rfl (aD rfl) (aD rfl)) rfl ?_; rfl)
end Go.Proofs.YtlbemgokilhdnaaGreatDoor.Ab
namespace Go.Proofs.YtlbemgokilhdnaaGreatDoor.Ab
set_option linter.unusedVariables false
set_option linter.unusedSimpArgs false
open Go.RowKit
attribute [local irreducible] AWP AOps AExit AThen ABlock ANoGoto FeetOk
end Go.Proofs.YtlbemgokilhdnaaGreatDoor.Ab
namespace Go.Proofs.YtlbemgokilhdnaaGreatDoor.Ab
set_option linter.unusedVariables false
set_option linter.unusedSimpArgs false
open Go.RowKit
attribute [local irreducible] AWP AOps AExit AThen ABlock ANoGoto FeetOk
/-- What within tells first. -/
def withinL (t : Tree) (l : Int) : Int := if (wholeP t l).1 = 0 then (wholeP t l).2 else match t with | .nil => l | .node .. => 0
set_option maxHeartbeats 8000000 in
set_option maxRecDepth 10000 in
theorem uZ (t : Tree) : ∀ l : Int, 0 ≤ l → l ≤ 1000000 → ACalls Tryz.prog 58 [.imm t.iv, .imm (.lit (.int .i64 l))] [] (.imm (.tup [.lit (.int .i64 (withinL t l)), .lit (.int .i64 (wholeP t l).1)])) [] := by
  induction t using Tree.ind with
  | h1 => intro l h0 h1; exact uU l
  | h2 k n a b kids ih =>
    intro l h0 h1
    by_cases hl0 : l = 0
    · subst hl0
      refine aM Tryz.func58 rfl rfl (nb rfl) rfl ?_
      repeat' (first | refine aE ?_ | (refine aH ?_;  first | refine aC tabOk rfl rfl rfl (nb rfl) rfl ?_ | (refine aK rfl rfl rfl (nb rfl) rfl rfl rfl (fun hq => ?_) (fun hq => ?_) <;> (first | (simp only [sD, sE, sB, sC, sN, sM, sT, sF] at hq; try (exfalso; omega)) | skip)) | refine aU tabOk rfl rfl (nb rfl) rfl ?_) | (refine aN ?_;  first | refine aG ?_ | refine aQ ?_ | refine aT ?_ | refine aW ?_ | refine aA (b := true) rfl (fun _ => ?_) nTf | refine aA (b := false) rfl nFt (fun _ => ?_)) | (refine aJ ?_;  first | refine bB ?_ | refine aR ?_))
      all_goals first
        | exact absurd rfl (by assumption)
        | (exfalso; omega)
        | (refine aX (by first | exact .inl rfl | exact .inr rfl) (bO rfl (aD rfl) (aD rfl)) rfl ?_; rfl)
    · obtain ⟨W, hW⟩ : ∃ W, wholeP (.node k n a b kids) l = W := ⟨_, rfl⟩
      have hwl : withinL (.node k n a b kids) l = if W.1 = 0 then W.2 else 0 := by unfold withinL; rw [hW]
      rw [hwl, hW]
      rw [wholeP, if_neg (by omega)] at hW
      have hbd : ∀ j, (wholePs (kids.take j) (l - 1)).1 = 0 → 0 ≤ (wholePs (kids.take j) (l - 1)).2 ∧ (wholePs (kids.take j) (l - 1)).2 + (kids.take j).length ≤ l - 1 := fun j h => eU _ _ (by omega) h
      refine aM Tryz.func58 rfl rfl (nb rfl) rfl ?_
      repeat' (first | refine aE ?_ | (refine aH ?_;  first | refine aC tabOk rfl rfl rfl (nb rfl) rfl ?_ | (refine aK rfl rfl rfl (nb rfl) rfl rfl rfl (fun hq => ?_) (fun hq => ?_) <;> (first | (simp only [sD, sE, sB, sC, sN, sM, sT, sF] at hq; try (exfalso; omega)) | skip)) | refine bZ (z := l - 1) rfl rfl rfl (nb rfl) rfl rfl (by omega) (by omega) (by omega) ?_ | refine aU tabOk rfl rfl (nb rfl) rfl ?_) | (refine aN ?_;  first | refine aG ?_ | refine aQ ?_ | refine aZ ?_ | refine aW ?_ | refine aA (b := false) rfl nFt (fun _ => ?_)) | (refine aJ ?_;  first | refine bB ?_))
      all_goals first
        | exact absurd (by assumption) hl0
        | (exfalso; omega)
        | skip
      refine cB (ι := {j : Nat // j ≤ kids.length ∧ (wholePs (kids.take j) (l - 1)).1 = 0}) (fun j => S.f ⟨[(6, .imm (.lit (.int .i64 (j.1 : Int)))), (1, .imm (.lit (.int .i64 (wholePs (kids.take j.1) (l - 1)).2))), (0, .imm (Tree.iv (.node k n a b kids)))], []⟩) (fun j => kids.length - j.1) ⟨0, Nat.zero_le _, by rw [List.take_zero, wholePs]⟩ (by dsimp only; rw [List.take_zero, wholePs]; exact (bY (by repeat' first | exact trivial | refine ⟨rfl, ?_⟩) (by repeat' first | exact trivial | refine ⟨rfl, ?_⟩))) ?_
      rintro ⟨j, hj, hok⟩
      dsimp only
      have hb := hbd j hok
      rw [List.length_take, Nat.min_eq_left hj] at hb
      by_cases hlt : j < kids.length
      · have hm := List.getElem_mem hlt
        have hget := cA kids j hlt
        have hc := ih _ hm (wholePs (kids.take j) (l - 1)).2 hb.1 (by omega)
        have hstep := gV hlt hok
        have hstop := fun h => gW hlt hok h
        clear ih
        by_cases he : (wholeP kids[j] (wholePs (kids.take j) (l - 1)).2).1 = 0
        · have hok2 : (wholePs (kids.take (j + 1)) (l - 1)).1 = 0 := by rw [hstep]; exact he
          unfold withinL at hc
          rw [if_pos he, he, ← hstep] at hc
          clear hstop hstep he
          generalize (wholePs (kids.take j) (l - 1)).2 = X at *
          generalize hZ : (wholePs (kids.take (j + 1)) (l - 1)).2 = Z at hc
          repeat' (first | refine aE ?_ | (refine aH ?_;  first | refine aC tabOk rfl rfl rfl (nb rfl) rfl ?_ | (refine aK rfl rfl rfl (nb rfl) rfl rfl rfl (fun hq => ?_) (fun hq => ?_) <;> (first | (simp only [sD, sE, sB, sC, sN, sM, sT, sF] at hq; try (exfalso; omega)) | skip)) | refine aY tabOk rfl rfl rfl (nb rfl) rfl rfl rfl hget ?_ | refine aI rfl rfl (nb rfl) rfl rfl rfl rfl (hc) ?_ | refine bK rfl rfl rfl (nb rfl) rfl rfl (by omega) ?_ | refine aU tabOk rfl rfl (nb rfl) rfl ?_ | refine bF tabOk rfl rfl rfl (nb rfl) rfl rfl rfl rfl (by first | assumption | omega) ?_) | (refine aN ?_;  first | refine aG ?_ | refine aQ ?_ | refine bE ?_ | refine aZ ?_ | refine aW ?_ | refine aA (b := true) rfl (fun _ => ?_) nTf | refine aA (b := false) rfl nFt (fun _ => ?_)) | (refine aJ ?_;  first | refine bB ?_) | (refine bA ?_;  first | refine bR ?_))
          all_goals first
            | exact absurd rfl (by assumption)
            | (exfalso; omega)
            | (refine ⟨⟨j + 1, hlt, hok2⟩, (by show kids.length - (j + 1) < kids.length - j; omega), ?_⟩; dsimp only; rw [hZ]; exact (bY (by repeat' first | exact trivial | refine ⟨rfl, ?_⟩) (by repeat' first | exact trivial | refine ⟨rfl, ?_⟩)))
        · have e1 : W.1 = (wholeP kids[j] (wholePs (kids.take j) (l - 1)).2).1 := by rw [← hW, hstop he]
          rw [← e1] at hc he
          rw [if_neg he]
          clear hstop hstep
          generalize (wholePs (kids.take j) (l - 1)).2 = X at *
          generalize W.1 = E at *
          repeat' (first | refine aE ?_ | (refine aH ?_;  first | refine aC tabOk rfl rfl rfl (nb rfl) rfl ?_ | (refine aK rfl rfl rfl (nb rfl) rfl rfl rfl (fun hq => ?_) (fun hq => ?_) <;> (first | (simp only [sD, sE, sB, sC, sN, sM, sT, sF] at hq; try (exfalso; omega)) | skip)) | refine aY tabOk rfl rfl rfl (nb rfl) rfl rfl rfl hget ?_ | refine aI rfl rfl (nb rfl) rfl rfl rfl rfl (hc) ?_ | refine aU tabOk rfl rfl (nb rfl) rfl ?_ | refine bF tabOk rfl rfl rfl (nb rfl) rfl rfl rfl rfl (by first | assumption | omega) ?_) | (refine aN ?_;  first | refine aG ?_ | refine aQ ?_ | refine aZ ?_ | refine aT ?_ | refine aW ?_ | refine aA (b := true) rfl (fun _ => ?_) nTf) | (refine aJ ?_;  first | refine bB ?_ | refine aR ?_) | (refine bA ?_;  first | refine bG ?_))
          all_goals first
            | exact absurd (by assumption) he
            | (exfalso; omega)
            | (refine aX (by first | exact .inl rfl | exact .inr rfl) (bO rfl (aD rfl) (aD rfl)) rfl ?_; rfl)
      · have ej : j = kids.length := by omega
        subst ej
        rw [List.take_length] at hok ⊢
        rw [hW] at hok ⊢
        rw [hok, if_pos rfl]
        clear hbd ih
        repeat' (first | refine aE ?_ | (refine aH ?_;  first | refine aC tabOk rfl rfl rfl (nb rfl) rfl ?_ | (refine aK rfl rfl rfl (nb rfl) rfl rfl rfl (fun hq => ?_) (fun hq => ?_) <;> (first | (simp only [sD, sE, sB, sC, sN, sM, sT, sF] at hq; try (exfalso; omega)) | skip)) | refine aU tabOk rfl rfl (nb rfl) rfl ?_) | (refine aN ?_;  first | refine aG ?_ | refine aQ ?_ | refine aT ?_ | refine bS ?_ | refine aA (b := false) rfl nFt (fun _ => ?_)) | (refine aJ ?_;  first | refine bB ?_ | refine bJ ?_) | (refine bA ?_;  first | refine bH ?_))
        all_goals first
          | exact absurd rfl (by assumption)
          | (exfalso; omega)
          | (refine aX (by first | exact .inl rfl | exact .inr rfl) (bO rfl (aD rfl) (aD rfl)) rfl ?_; rfl)
set_option maxHeartbeats 4000000 in
set_option maxRecDepth 10000 in
theorem qK (t : Tree) (hs : t.size ≤ 1000000) : ACalls Tryz.prog 29 [.imm t.iv] [] (.imm (.lit (.int .i64 (checkP isConP t)))) [] := by
  have c1 := uZ t 65536 (by omega) (by omega)
  unfold checkP
  by_cases hw : (wholeP t 65536).1 = 0
  · rw [if_pos hw]
    rw [hw] at c1
    have c2 := zG t (eF t _ hw) hs
    cases hc : isConP t <;> (
      rw [hc] at c2
      refine aM Tryz.func29 rfl rfl (nb rfl) rfl ?_
      repeat' (first | refine aE ?_ | (refine aH ?_;  first | refine aC tabOk rfl rfl rfl (nb rfl) rfl ?_ | (refine aK rfl rfl rfl (nb rfl) rfl rfl rfl (fun hq => ?_) (fun hq => ?_) <;> (first | (simp only [sD, sE, sB, sC, sN, sM, sT, sF] at hq; try (exfalso; omega)) | skip)) | refine aI rfl rfl (nb rfl) rfl rfl rfl rfl (c1) ?_ | refine aI rfl rfl (nb rfl) rfl rfl rfl rfl (c2) ?_) | (refine aN ?_;  first | refine aG ?_ | refine aQ ?_ | refine aT ?_ | refine aW ?_ | refine aA (b := true) rfl (fun _ => ?_) nTf | refine aA (b := false) rfl nFt (fun _ => ?_)) | (refine aJ ?_;  first | refine bB ?_ | refine aR ?_))
      all_goals first
        | exact absurd rfl (by assumption)
        | (refine aX (by first | exact .inl rfl | exact .inr rfl) (aV rfl (aD rfl)) rfl ?_; rfl))
  · rw [if_neg hw]
    generalize (wholeP t 65536).1 = E at *
    refine aM Tryz.func29 rfl rfl (nb rfl) rfl ?_
    repeat' (first | refine aE ?_ | (refine aH ?_;  first | refine aC tabOk rfl rfl rfl (nb rfl) rfl ?_ | (refine aK rfl rfl rfl (nb rfl) rfl rfl rfl (fun hq => ?_) (fun hq => ?_) <;> (first | (simp only [sD, sE, sB, sC, sN, sM, sT, sF] at hq; try (exfalso; omega)) | skip)) | refine aI rfl rfl (nb rfl) rfl rfl rfl rfl (c1) ?_) | (refine aN ?_;  first | refine aG ?_ | refine aQ ?_ | refine aT ?_ | refine aA (b := true) rfl (fun _ => ?_) nTf) | (refine aJ ?_;  first | refine aR ?_))
    all_goals first
      | exact absurd (by assumption) hw
      | (refine aX (by first | exact .inl rfl | exact .inr rfl) (aV rfl (aD rfl)) rfl ?_; rfl)
end Go.Proofs.YtlbemgokilhdnaaGreatDoor.Ab
namespace Go.Proofs.YtlbemgokilhdnaaGreatDoor.Ab
set_option linter.unusedVariables false
set_option linter.unusedSimpArgs false
theorem sQ (by_ : Tree) (hb : checkP isConP by_ = 0) (d : Int) : shiftP by_ d 0 = if (walkS (shiftV d 0) by_ 0 true).2 = true then ((walkS (shiftV d 0) by_ 0 true).1, 0) else (.nil, 2) := by
  unfold shiftP
  rw [if_pos hb, decide_eq_true (Int.le_refl _)]
end Go.Proofs.YtlbemgokilhdnaaGreatDoor.Ab
namespace Go.Proofs.YtlbemgokilhdnaaGreatDoor.Ab
set_option linter.unusedVariables false
set_option linter.unusedSimpArgs false
open Go.RowKit
attribute [local irreducible] AWP AOps AExit AThen ABlock ANoGoto FeetOk
end Go.Proofs.YtlbemgokilhdnaaGreatDoor.Ab
namespace Go.Proofs.YtlbemgokilhdnaaGreatDoor.Ab
set_option linter.unusedVariables false
set_option linter.unusedSimpArgs false
open Go.RowKit
attribute [local irreducible] AWP AOps AExit AThen ABlock ANoGoto FeetOk
end Go.Proofs.YtlbemgokilhdnaaGreatDoor.Ab
namespace Go.Proofs.YtlbemgokilhdnaaGreatDoor.Ab
set_option linter.unusedVariables false
set_option linter.unusedSimpArgs false
open Go.RowKit
attribute [local irreducible] AWP AOps AExit AThen ABlock ANoGoto FeetOk
/-- A node with kids alone. -/
def conT (k : Int) (kids : List Tree) : Tree := .node k 0 emptyB emptyB kids
def conIV (k : Int) (n : Nat) (cs : List IV) : IV := .ptr [.lit (.int .i64 k), .lit (.int .i64 0), .lit (.string ⟨#[]⟩), .lit (.string ⟨#[]⟩), .sl false n cs] 0
theorem cW (k : Int) (kids : List Tree) : (conT k kids).iv = conIV k kids.length (Tree.ivs kids) := by unfold conT conIV; rw [Tree.iv]; rfl
def higherT : Tree := conT 101 [conT 100 [], conT 100 []]
def starT : Tree := conT 100 []
/-- What a token is handed. -/
def tokP (c : Tree) : Tree × Int := if (shiftP c 1 0).2 ≠ 0 then (.nil, 3) else (conT 120 [conT 110 [], (shiftP c 1 0).1], 0)
def aroundP (kind : Int) : Nat → Tree → Tree
  | 0, c => c
  | n + 1, c => conT kind [starT, aroundP kind n c]
set_option maxHeartbeats 4000000 in
set_option maxRecDepth 10000 in
theorem kM (k : Int) (f : Bool) (n : Nat) (cs : List IV) : ACalls Tryz.prog 27 [.imm (.lit (.int .i64 k)), .imm (.sl f n cs)] [] (.imm (conIV k n cs)) [] := by
  refine cZ Tryz.func27 rfl rfl (nb rfl) rfl ?_
  repeat' (first | refine aE ?_ | (refine aH ?_;  first | refine aC tabOk rfl rfl rfl (nb rfl) rfl ?_ | refine dE tabOk rfl rfl rfl (nb rfl) rfl rfl rfl rfl rfl ?_ | refine eX (t := 57) rfl rfl rfl (nb rfl) rfl rfl rfl rfl rfl rfl rfl ?_) | (refine aN ?_;  first | refine aG ?_ | refine aT ?_))
  all_goals (refine dT (dG (g := 8) rfl rfl) ?_; refine aX (by first | exact .inl rfl | exact .inr rfl) (aV rfl (aD rfl)) rfl ?_; cases f <;> rfl)
set_option maxHeartbeats 4000000 in
set_option maxRecDepth 10000 in
theorem qL (k : Int) : ACalls Tryz.prog 27 [.imm (.lit (.int .i64 k)), .imm (.lit (.slice none 0 0))] [] (.imm (conIV k 0 [])) [] := by
  refine cZ Tryz.func27 rfl rfl (nb rfl) rfl ?_
  repeat' (first | refine aE ?_ | (refine aH ?_;  first | refine aC tabOk rfl rfl rfl (nb rfl) rfl ?_ | refine dE tabOk rfl rfl rfl (nb rfl) rfl rfl rfl rfl rfl ?_ | refine eX (t := 57) rfl rfl rfl (nb rfl) rfl rfl rfl rfl rfl rfl rfl ?_) | (refine aN ?_;  first | refine aG ?_ | refine aT ?_))
  all_goals (refine dT ((eA (h0 := 8) (k0 := 4) 500 26 1 rfl rfl (by simp) rfl rfl).trans ((cU (g := 500) rfl (by repeat' first | exact trivial | exact fun _ => rfl | refine ⟨?_, ?_⟩) (by repeat' first | exact trivial | exact fun _ => rfl | refine ⟨?_, ?_⟩)).trans (dG (g := 8) rfl rfl))) ?_; refine aX (by first | exact .inl rfl | exact .inr rfl) (aV rfl (aD rfl)) rfl ?_; rfl)
set_option maxHeartbeats 4000000 in
set_option maxRecDepth 10000 in
theorem sR : ACalls Tryz.prog 28 [] [] (.imm higherT.iv) [] := by
  have c0 := qL 100
  have c1 := kM 101 true 2 [conIV 100 0 [], conIV 100 0 []]
  unfold conIV at *
  refine aM Tryz.func28 rfl rfl (nb rfl) rfl ?_
  repeat' (first | refine aE ?_ | (refine aH ?_;  first | refine aC tabOk rfl rfl rfl (nb rfl) rfl ?_ | refine aI rfl rfl (nb rfl) rfl rfl rfl rfl (c0) ?_ | refine aI rfl rfl (nb rfl) rfl rfl rfl rfl (c1) ?_ | refine bV tabOk rfl rfl rfl (nb rfl) rfl rfl rfl rfl rfl rfl rfl rfl rfl ?_) | (refine aN ?_;  first | refine aG ?_ | refine aT ?_))
  all_goals (refine aX (by first | exact .inl rfl | exact .inr rfl) (aV rfl (aD rfl)) rfl ?_; rfl)
set_option maxHeartbeats 4000000 in
set_option maxRecDepth 10000 in
theorem eV (k : Int) (f : Bool) (n : Nat) (cs : List IV) : ACalls Tryz.prog 31 [.imm (.lit (.int .i64 k)), .imm (.sl f n cs)] [] (.imm (conIV k n cs)) [] := by
  refine cZ Tryz.func31 rfl rfl (nb rfl) rfl ?_
  repeat' (first | refine aE ?_ | (refine aH ?_;  first | refine aC tabOk rfl rfl rfl (nb rfl) rfl ?_ | refine dE tabOk rfl rfl rfl (nb rfl) rfl rfl rfl rfl rfl ?_ | refine eX (t := 57) rfl rfl rfl (nb rfl) rfl rfl rfl rfl rfl rfl rfl ?_) | (refine aN ?_;  first | refine aG ?_ | refine aT ?_))
  all_goals (refine dT (dG (g := 8) rfl rfl) ?_; refine aX (by first | exact .inl rfl | exact .inr rfl) (aV rfl (aD rfl)) rfl ?_; cases f <;> rfl)
set_option maxHeartbeats 4000000 in
set_option maxRecDepth 10000 in
theorem iK (k : Int) : ACalls Tryz.prog 31 [.imm (.lit (.int .i64 k)), .imm (.lit (.slice none 0 0))] [] (.imm (conIV k 0 [])) [] := by
  refine cZ Tryz.func31 rfl rfl (nb rfl) rfl ?_
  repeat' (first | refine aE ?_ | (refine aH ?_;  first | refine aC tabOk rfl rfl rfl (nb rfl) rfl ?_ | refine dE tabOk rfl rfl rfl (nb rfl) rfl rfl rfl rfl rfl ?_ | refine eX (t := 57) rfl rfl rfl (nb rfl) rfl rfl rfl rfl rfl rfl rfl ?_) | (refine aN ?_;  first | refine aG ?_ | refine aT ?_))
  all_goals (refine dT ((eA (h0 := 8) (k0 := 4) 500 26 1 rfl rfl (by simp) rfl rfl).trans ((cU (g := 500) rfl (by repeat' first | exact trivial | exact fun _ => rfl | refine ⟨?_, ?_⟩) (by repeat' first | exact trivial | exact fun _ => rfl | refine ⟨?_, ?_⟩)).trans (dG (g := 8) rfl rfl))) ?_; refine aX (by first | exact .inl rfl | exact .inr rfl) (aV rfl (aD rfl)) rfl ?_; rfl)
set_option maxHeartbeats 4000000 in
set_option maxRecDepth 10000 in
/-- A node without kids, that will have some. -/
theorem zM (k : Int) : ACalls Tryz.prog 31 [.imm (.lit (.int .i64 k)), .imm (.lit (.slice none 0 0))] [(600, .fut)] (.obj 600 0) [(600, .cells [.imm (.lit (.int .i64 k)), .imm (.lit (.int .i64 0)), .imm (.lit (.string ⟨#[]⟩)), .imm (.lit (.string ⟨#[]⟩)), .imm (.lit (.slice none 0 0))])] := by
  refine dA [600] Tryz.func31 rfl rfl (nb rfl) rfl rfl ?_
  repeat' (first | refine aE ?_ | (refine aH ?_;  first | refine aC tabOk rfl rfl rfl (nb rfl) rfl ?_ | refine dE tabOk rfl rfl rfl (nb rfl) rfl rfl rfl rfl rfl ?_ | refine gF 600 (d := 8) rfl rfl rfl (nb rfl) rfl rfl rfl rfl rfl ?_) | (refine aN ?_;  first | refine aG ?_ | refine aT ?_))
  all_goals (refine dH (uH (by first | exact .inl rfl | exact .inr rfl) (aV rfl (aD rfl)) rfl (by repeat' first | exact trivial | refine ⟨rfl, ?_⟩) rfl ?_); rfl)
set_option maxHeartbeats 4000000 in
set_option maxRecDepth 10000 in
theorem pB : ACalls Tryz.prog 32 [] [] (.imm higherT.iv) [] := by
  have c0 := iK 100
  have c1 := eV 101 true 2 [conIV 100 0 [], conIV 100 0 []]
  unfold conIV at *
  refine aM Tryz.func32 rfl rfl (nb rfl) rfl ?_
  repeat' (first | refine aE ?_ | (refine aH ?_;  first | refine aC tabOk rfl rfl rfl (nb rfl) rfl ?_ | refine aI rfl rfl (nb rfl) rfl rfl rfl rfl (c0) ?_ | refine aI rfl rfl (nb rfl) rfl rfl rfl rfl (c1) ?_ | refine bV tabOk rfl rfl rfl (nb rfl) rfl rfl rfl rfl rfl rfl rfl rfl rfl ?_) | (refine aN ?_;  first | refine aG ?_ | refine aT ?_))
  all_goals (refine aX (by first | exact .inl rfl | exact .inr rfl) (aV rfl (aD rfl)) rfl ?_; rfl)
end Go.Proofs.YtlbemgokilhdnaaGreatDoor.Ab
namespace Go.Proofs.YtlbemgokilhdnaaGreatDoor.Ab
set_option linter.unusedVariables false
set_option linter.unusedSimpArgs false
open Go.RowKit
attribute [local irreducible] AWP AOps AExit AThen ABlock ANoGoto FeetOk
theorem dZ (kind : Int) (c : Tree) (hc : c.whole = true) : ∀ n : Nat, (aroundP kind n c).whole = true ∧ (aroundP kind n c).size = c.size + 2 * n
  | 0 => ⟨hc, by rw [aroundP]; omega⟩
  | n + 1 => by
    have h := dZ kind c hc n
    rw [aroundP]
    unfold conT starT conT
    refine ⟨?_, ?_⟩
    · show Tree.wholes [_, _] = true
      rw [Tree.wholes, Tree.wholes, h.1]; rfl
    · simp only [Tree.size, Tree.sizes]; omega
theorem fA (c : Tree) (h : (tokP c).2 = 0) : (tokP c).1.whole = true ∧ (tokP c).1.size ≤ c.size + 2 := by
  unfold tokP at h ⊢
  by_cases h0 : (shiftP c 1 0).2 = 0
  · rw [if_neg (by simpa using h0)] at h ⊢
    have := iE c 1 0 h0
    unfold conT
    refine ⟨?_, ?_⟩
    · show Tree.wholes [_, _] = true
      rw [Tree.wholes, Tree.wholes, this.1]; rfl
    · simp only [Tree.size, Tree.sizes]; omega
  · rw [if_pos h0] at h; cases h
theorem kN (c : Tree) : (tokP c).2 = 0 ∨ ((tokP c).2 = 3 ∧ (tokP c).1 = .nil) := by
  unfold tokP
  by_cases h0 : (shiftP c 1 0).2 = 0
  · rw [if_neg (by simpa using h0)]; exact .inl rfl
  · rw [if_pos h0]; exact .inr ⟨rfl, rfl⟩
set_option maxHeartbeats 4000000 in
set_option maxRecDepth 10000 in
theorem sS (kind : Int) (m : Int) (c : Tree) (hc : c.whole = true) (h0 : 0 ≤ m) (hm : m ≤ 1000000) : ACalls Tryz.prog 54 [.imm (.lit (.int .i64 kind)), .imm (.lit (.int .i64 m)), .imm c.iv] [] (.imm (aroundP kind m.toNat c).iv) [] := by
  obtain ⟨n, rfl⟩ : ∃ n : Nat, m = n := ⟨m.toNat, by omega⟩
  rw [Int.toNat_natCast]
  have c0 := qL 100
  refine aM Tryz.func54 rfl rfl (nb rfl) rfl ?_
  repeat' (first | refine aE ?_ | (refine aH ?_;  first | refine aC tabOk rfl rfl rfl (nb rfl) rfl ?_) | (refine aN ?_;  first | refine aG ?_ | refine aQ ?_ | refine aZ ?_))
  refine cB (ι := {j : Nat // j ≤ n}) (fun j => S.f ⟨[(8, .imm (.lit (.int .i64 (j.1 : Int)))), (7, .imm (.lit (.int .i64 (n : Int)))), (2, .imm (aroundP kind j.1 c).iv), (0, .imm (.lit (.int .i64 kind)))], []⟩) (fun j => n - j.1) ⟨0, Nat.zero_le _⟩ (bY (by repeat' first | exact trivial | refine ⟨rfl, ?_⟩) (by repeat' first | exact trivial | refine ⟨rfl, ?_⟩)) ?_
  rintro ⟨j, hj⟩
  dsimp only
  obtain ⟨px, hpx⟩ := dI (cS (dZ kind c hc j).1)
  by_cases hlt : j < n
  · have hnx : (aroundP kind (j + 1) c).iv = conIV kind 2 [conIV 100 0 [], .ptr px 0] := by
      rw [aroundP, cW, Tree.ivs, Tree.ivs, hpx]; rfl
    rw [hpx]
    have c1 := kM kind true 2 [conIV 100 0 [], .ptr px 0]
    unfold conIV at c0 c1 hnx
    repeat' (first | refine aE ?_ | (refine aH ?_;  first | refine aC tabOk rfl rfl rfl (nb rfl) rfl ?_ | (refine aK rfl rfl rfl (nb rfl) rfl rfl rfl (fun hq => ?_) (fun hq => ?_) <;> (first | (simp only [sD, sE, sB, sC, sN, sM, sT, sF] at hq; try (exfalso; omega)) | skip)) | refine aI rfl rfl (nb rfl) rfl rfl rfl rfl (c0) ?_ | refine aI rfl rfl (nb rfl) rfl rfl rfl rfl (c1) ?_ | refine bK rfl rfl rfl (nb rfl) rfl rfl (by omega) ?_ | refine bV tabOk rfl rfl rfl (nb rfl) rfl rfl rfl rfl rfl rfl rfl rfl rfl ?_) | (refine aN ?_;  first | refine aG ?_ | refine aQ ?_ | refine bE ?_ | refine aZ ?_ | refine aW ?_ | refine aA (b := true) rfl (fun _ => ?_) nTf) | (refine aJ ?_;  first | refine bB ?_) | (refine bA ?_;  first | refine bR ?_))
    all_goals first
      | (exfalso; omega)
      | (refine ⟨⟨j + 1, hlt⟩, (by show n - (j + 1) < n - j; omega), ?_⟩; dsimp only; rw [hnx]; exact (bY (by repeat' first | exact trivial | refine ⟨rfl, ?_⟩) (by repeat' first | exact trivial | refine ⟨rfl, ?_⟩)))
  · have ej : j = n := by omega
    subst ej
    rw [hpx]
    repeat' (first | refine aE ?_ | (refine aH ?_;  first | refine aC tabOk rfl rfl rfl (nb rfl) rfl ?_ | (refine aK rfl rfl rfl (nb rfl) rfl rfl rfl (fun hq => ?_) (fun hq => ?_) <;> (first | (simp only [sD, sE, sB, sC, sN, sM, sT, sF] at hq; try (exfalso; omega)) | skip))) | (refine aN ?_;  first | refine aG ?_ | refine aQ ?_ | refine aT ?_ | refine bS ?_ | refine aA (b := false) rfl nFt (fun _ => ?_)) | (refine aJ ?_;  first | refine bB ?_ | refine bJ ?_) | (refine bA ?_;  first | refine bH ?_))
    all_goals first
      | (exfalso; omega)
      | (refine aX (by first | exact .inl rfl | exact .inr rfl) (aV rfl (aD rfl)) rfl ?_; rfl)
set_option maxHeartbeats 4000000 in
set_option maxRecDepth 10000 in
theorem vV (c : Tree) (hs : c.size ≤ 1000000) : ACalls Tryz.prog 26 [.imm c.iv] [] (.imm (.tup [(tokP c).1.iv, .lit (.int .i64 (tokP c).2)])) [] := by
  have c1 := aAF c 1 0 hs
  have c0 := qL 110
  unfold tokP
  have hf := iE c 1 0
  generalize shiftP c 1 0 = S at *
  obtain ⟨S1, S2⟩ := S
  dsimp only at *
  by_cases h0 : S2 = 0
  · subst h0
    rw [if_neg (by simp)]
    obtain ⟨px, hpx⟩ := dI (cS (hf rfl).1)
    have c2 := kM 120 true 2 [conIV 110 0 [], .ptr px 0]
    have hnx : (conT 120 [conT 110 [], S1]).iv = conIV 120 2 [conIV 110 0 [], .ptr px 0] := by
      rw [cW, Tree.ivs, Tree.ivs, Tree.ivs, cW, hpx]; rfl
    rw [hnx]
    rw [hpx] at c1
    unfold conIV at *
    refine aM Tryz.func26 rfl rfl (nb rfl) rfl ?_
    repeat' (first | refine aE ?_ | (refine aH ?_;  first | refine aC tabOk rfl rfl rfl (nb rfl) rfl ?_ | (refine aK rfl rfl rfl (nb rfl) rfl rfl rfl (fun hq => ?_) (fun hq => ?_) <;> (first | (simp only [sD, sE, sB, sC, sN, sM, sT, sF] at hq; try (exfalso; omega)) | skip)) | refine aI rfl rfl (nb rfl) rfl rfl rfl rfl (c0) ?_ | refine aI rfl rfl (nb rfl) rfl rfl rfl rfl (c1) ?_ | refine aI rfl rfl (nb rfl) rfl rfl rfl rfl (c2) ?_ | refine bV tabOk rfl rfl rfl (nb rfl) rfl rfl rfl rfl rfl rfl rfl rfl rfl ?_) | (refine aN ?_;  first | refine aG ?_ | refine aQ ?_ | refine aT ?_ | refine aW ?_ | refine aA (b := false) rfl nFt (fun _ => ?_)) | (refine aJ ?_;  first | refine bB ?_))
    all_goals first
      | exact absurd rfl (by assumption)
      | (refine aX (by first | exact .inl rfl | exact .inr rfl) (bO rfl (aD rfl) (aD rfl)) rfl ?_; rfl)
  · rw [if_pos h0]
    refine aM Tryz.func26 rfl rfl (nb rfl) rfl ?_
    repeat' (first | refine aE ?_ | (refine aH ?_;  first | refine aC tabOk rfl rfl rfl (nb rfl) rfl ?_ | (refine aK rfl rfl rfl (nb rfl) rfl rfl rfl (fun hq => ?_) (fun hq => ?_) <;> (first | (simp only [sD, sE, sB, sC, sN, sM, sT, sF] at hq; try (exfalso; omega)) | skip)) | refine aI rfl rfl (nb rfl) rfl rfl rfl rfl (c1) ?_) | (refine aN ?_;  first | refine aG ?_ | refine aQ ?_ | refine aT ?_ | refine aA (b := true) rfl (fun _ => ?_) nTf) | (refine aJ ?_;  first | refine aR ?_))
    all_goals first
      | exact absurd (by assumption) h0
      | (refine aX (by first | exact .inl rfl | exact .inr rfl) (bO rfl (aD rfl) (aD rfl)) rfl ?_; rfl)
set_option maxHeartbeats 4000000 in
set_option maxRecDepth 10000 in
theorem pC (c : Tree) (hc : checkP isConP c = 0) : ACalls Tryz.prog 30 [.imm c.iv] [] (.imm (tokP c).1.iv) [] := by
  obtain ⟨cw, cz, cf⟩ := cK hc
  have c1 := zL 1 0 c 0 (jU c cf) (uW c cf) cw (Int.le_refl _) (by omega)
  have c0 := iK 110
  have hsh := sQ c hc 1
  unfold tokP
  have hf := iE c 1 0
  rw [hsh] at hf ⊢
  obtain ⟨W, hW⟩ : ∃ W, walkS (shiftV 1 0) c 0 true = W := ⟨_, rfl⟩
  rw [hW] at c1 hf ⊢
  obtain ⟨W1, W2⟩ := W
  cases W2 with
  | true =>
    rw [if_pos rfl] at hf
    have e1 : (if (W1, true).2 = true then ((W1, true).1, (0 : Int)) else (.nil, 2)) = (W1, 0) := if_pos rfl
    rw [e1, if_neg (by simp)]
    rw [lB] at c1
    obtain ⟨px, hpx⟩ := dI (cS (hf rfl).1)
    have c2 := eV 120 true 2 [conIV 110 0 [], .ptr px 0]
    have hnx : (conT 120 [conT 110 [], W1]).iv = conIV 120 2 [conIV 110 0 [], .ptr px 0] := by
      rw [cW, Tree.ivs, Tree.ivs, Tree.ivs, cW, hpx]; rfl
    dsimp only at *
    rw [hnx]
    rw [hpx] at c1
    unfold conIV at *
    refine aM Tryz.func30 rfl rfl (nb rfl) rfl ?_
    repeat' (first | refine aE ?_ | (refine aH ?_;  first | refine aC tabOk rfl rfl rfl (nb rfl) rfl ?_ | refine aI rfl rfl (nb rfl) rfl rfl rfl rfl (c0) ?_ | refine aI rfl rfl (nb rfl) rfl rfl rfl rfl (c1) ?_ | refine aI rfl rfl (nb rfl) rfl rfl rfl rfl (c2) ?_ | refine bV tabOk rfl rfl rfl (nb rfl) rfl rfl rfl rfl rfl rfl rfl rfl rfl ?_) | (refine aN ?_;  first | refine aG ?_ | refine aQ ?_ | refine aT ?_ | refine aW ?_ | refine aA (b := false) rfl nFt (fun _ => ?_)) | (refine aJ ?_;  first | refine bB ?_))
    all_goals first
      | exact absurd rfl (by assumption)
      | (refine aX (by first | exact .inl rfl | exact .inr rfl) (aV rfl (aD rfl)) rfl ?_; rfl)
  | false =>
    have e1 : (if (W1, false).2 = true then ((W1, false).1, (0 : Int)) else (.nil, 2)) = (.nil, 2) := if_neg (by simp)
    rw [e1, if_pos (by simp)]
    rw [nQ] at c1
    refine aM Tryz.func30 rfl rfl (nb rfl) rfl ?_
    repeat' (first | refine aE ?_ | (refine aH ?_;  first | refine aC tabOk rfl rfl rfl (nb rfl) rfl ?_ | refine aI rfl rfl (nb rfl) rfl rfl rfl rfl (c1) ?_) | (refine aN ?_;  first | refine aG ?_ | refine aQ ?_ | refine aT ?_ | refine aA (b := true) rfl (fun _ => ?_) nTf) | (refine aJ ?_;  first | refine aR ?_))
    all_goals first
      | exact absurd rfl (by assumption)
      | (refine aX (by first | exact .inl rfl | exact .inr rfl) (aV rfl (aD rfl)) rfl ?_; rfl)
end Go.Proofs.YtlbemgokilhdnaaGreatDoor.Ab
namespace Go.Proofs.YtlbemgokilhdnaaGreatDoor.Ab
set_option linter.unusedVariables false
set_option linter.unusedSimpArgs false
def kidH : List Tree → Tree
  | [] => .nil
  | c :: _ => c
def allTok (c : Tree) : Tree × Int := if (tokP c).2 ≠ 0 then (.nil, (tokP c).2) else (conT 117 [higherT, conT 114 [(tokP c).1, (tokP c).1]], 0)
def fldOf (a : ByteArray) (R : Tree × Int) : Tree × Int := if R.2 ≠ 0 then (.nil, R.2) else (.node 116 0 a emptyB [R.1], 0)
/-- All of them, or the first error. -/
def seqP : List (Tree × Int) → List Tree × Int
  | [] => ([], 0)
  | r :: rs => if r.2 ≠ 0 then ([], r.2) else if (seqP rs).2 ≠ 0 then ([], (seqP rs).2) else (r.1 :: (seqP rs).1, 0)
def finP (k n : Int) (R : List Tree × Int) : Tree × Int :=
  if R.2 ≠ 0 then (.nil, R.2) else if k = 164 then (aroundP 118 n.toNat (kidH R.1), 0) else if k = 165 then (aroundP 117 n.toNat (conT 114 R.1), 0) else (conT 115 R.1, 0)
mutual
/-- The constructor of a signature, and the error. -/
def transP : Tree → Tree × Int
  | .nil => (.nil, 0)
  | .node k n _ _ kids => if k = 160 then (kidH kids, 0) else if k = 161 then allTok (kidH kids) else finP k n (seqP (if k = 162 then fldRs kids else plnRs kids))
def fldRs : List Tree → List (Tree × Int)
  | [] => []
  | t :: ts => fldR t :: fldRs ts
def fldR : Tree → Tree × Int
  | .nil => (.nil, 0)
  | .node _ _ a _ ks => one1 a ks
def one1 (a : ByteArray) : List Tree → Tree × Int
  | [c] => fldOf a (transP c)
  | _ => (.nil, 0)
def plnRs : List Tree → List (Tree × Int)
  | [] => []
  | t :: ts => transP t :: plnRs ts
end
theorem gG : ∀ l : List Tree, fldRs l = l.map fldR
  | [] => by rw [fldRs]; rfl
  | t :: ts => by rw [fldRs, gG ts]; rfl
theorem pD : ∀ l : List Tree, plnRs l = l.map transP
  | [] => by rw [plnRs]; rfl
  | t :: ts => by rw [plnRs, pD ts]; rfl
theorem fM : ∀ rs : List (Tree × Int), (∀ r ∈ rs, r.2 = 0) → seqP rs = (rs.map (·.1), 0)
  | [], _ => rfl
  | r :: rs, h => by
    have ih := fM rs fun r' hr => h r' (by simp [hr])
    rw [seqP, if_neg (by simpa using h r (by simp)), if_neg (by rw [ih]; simp), ih]
    rfl
theorem nR : ∀ (rs : List (Tree × Int)) (j : Nat) (h : j < rs.length), (∀ i (hi : i < j), (rs[i]'(by omega)).2 = 0) → rs[j].2 ≠ 0 → seqP rs = ([], rs[j].2)
  | [], _, h, _, _ => by simp at h
  | r :: rs, 0, _, _, hb => by rw [List.getElem_cons_zero] at hb ⊢; rw [seqP, if_pos hb]
  | r :: rs, j + 1, h, hn, hb => by
    have h0 := hn 0 (by omega)
    rw [List.getElem_cons_zero] at h0
    rw [List.getElem_cons_succ] at hb ⊢
    have ih := nR rs j (by simpa using h) (fun i hi => by have := hn (i + 1) (by omega); rwa [List.getElem_cons_succ] at this) hb
    rw [seqP, if_neg (by simpa using h0), if_pos (by rw [ih]; exact hb), ih]
theorem sU (rs : List (Tree × Int)) (h : (seqP rs).2 = 0) : ∀ r ∈ rs, r.2 = 0 := by
  induction rs with
  | nil => intro r hr; cases hr
  | cons x rs ih =>
    rw [seqP] at h
    split at h
    · rename_i h0; exact absurd h h0
    · rename_i h0
      split at h
      · rename_i h1; exact absurd h h1
      · rename_i h1
        intro r hr
        rcases List.mem_cons.1 hr with rfl | hr
        · simpa using h0
        · exact ih (by simpa using h1) r hr
/-- What is a signature, an abstract one, a functor's. -/
def tForm (t : Tree) : Prop := isSigP t = true ∨ isExP t = true ∨ isFunP t = true
theorem nS {t : Tree} (h : sformP t = true) : tForm t := by
  unfold sformP at h
  simp only [Bool.or_eq_true] at h
  exact h
theorem mE {t : Tree} (h : isExP t = true) : ∃ n a b c, t = .node 164 n a b [c] ∧ 0 ≤ n ∧ n ≤ 8192 ∧ isSigP c = true := by
  cases t with
  | nil => simp [isExP] at h
  | node k n a b kids =>
    by_cases h1 : kids.length = 1
    · obtain ⟨c, rfl⟩ := one_of h1
      have hk := xD h
      have hk : k = 164 := hk
      subst hk
      simp only [isExP, Bool.and_eq_true] at h
      have hn := iZ h.1.2
      exact ⟨n, a, b, c, rfl, hn.1, hn.2, h.2⟩
    · rw [nD h1] at h; cases h
theorem nT {t : Tree} (h : isFunP t = true) : ∃ n a b c e, t = .node 165 n a b [c, e] ∧ 0 ≤ n ∧ n ≤ 8192 ∧ isSigP c = true ∧ isExP e = true := by
  cases t with
  | nil => simp [isFunP] at h
  | node k n a b kids =>
    by_cases h1 : kids.length = 2
    · obtain ⟨c, e, rfl⟩ := two h1
      have hk := uM h
      have hk : k = 165 := hk
      subst hk
      simp only [isFunP, Bool.and_eq_true] at h
      have hn := iZ h.1.2
      exact ⟨n, a, b, c, e, rfl, hn.1, hn.2, h.2.1, h.2.2⟩
    · rw [kZ h1] at h; cases h
end Go.Proofs.YtlbemgokilhdnaaGreatDoor.Ab
namespace Go.Proofs.YtlbemgokilhdnaaGreatDoor.Ab
set_option linter.unusedVariables false
set_option linter.unusedSimpArgs false
open Go.RowKit
attribute [local irreducible] AWP AOps AExit AThen ABlock ANoGoto FeetOk
theorem jW (t : Tree) : isSigP t = true → t.whole = true → (transP t).2 = 0 → (transP t).1.whole = true ∧ (transP t).1.size ≤ 9 * t.size := by
  induction t using Tree.sind with
  | h t ih =>
    intro hs hw he
    obtain ⟨k, n, a, b, kids, rfl⟩ := cM hw
    rw [transP] at he ⊢
    rcases eS hs with ⟨hk, c, rfl, hc⟩ | ⟨rfl, hf, _⟩
    · have hcw := (cK hc).1
      have hc1 := gB hcw
      have hsz : (Tree.node k n a b [c]).size = c.size + 1 := by simp only [Tree.size, Tree.sizes]; omega
      rw [hsz]
      by_cases h160 : k = 160
      · rw [if_pos h160]
        exact ⟨hcw, by show c.size ≤ _; omega⟩
      · rw [if_neg h160, if_pos (by omega)] at he ⊢
        unfold allTok at he ⊢
        have e : kidH [c] = c := rfl
        rw [e] at he ⊢
        by_cases h0 : (tokP c).2 = 0
        · rw [if_neg (by simpa using h0)]
          have hf := fA c h0
          refine ⟨?_, ?_⟩
          · show Tree.wholes [higherT, conT 114 [_, _]] = true
            rw [Tree.wholes, Tree.wholes]
            have : (conT 114 [(tokP c).1, (tokP c).1]).whole = true := by
              show Tree.wholes [_, _] = true
              rw [Tree.wholes, Tree.wholes, hf.1]; rfl
            rw [this]; rfl
          · simp only [conT, higherT, Tree.size, Tree.sizes]
            omega
        · rw [if_pos h0] at he; exact absurd he h0
    · rw [if_neg (by decide), if_neg (by decide), if_pos rfl, gG] at he ⊢
      unfold finP at he ⊢
      have h0 : (seqP (kids.map fldR)).2 = 0 := by
        by_cases h : (seqP (kids.map fldR)).2 = 0
        · exact h
        · rw [if_pos h] at he; exact absurd he h
      have hall := sU _ h0
      rw [fM _ hall, if_neg (by simp), if_neg (by decide), if_neg (by decide)]
      have key : ∀ l : List Tree, (∀ t ∈ l, t ∈ kids) → Tree.wholes ((l.map fldR).map (·.1)) = true ∧ Tree.sizes ((l.map fldR).map (·.1)) ≤ 9 * Tree.sizes l := by
        intro l
        induction l with
        | nil => intro _; exact ⟨rfl, Nat.le_refl _⟩
        | cons t ts ih2 =>
          intro hm
          have hmt := hm t (by simp)
          obtain ⟨g1, g2⟩ := ih2 fun t' h' => hm t' (by simp [h'])
          have hz := cG (k := 162) (n := n) (a := a) (b := b) hmt
          have hwt := bM hw hmt
          have he1 := hall (fldR t) (List.mem_map_of_mem hmt)
          obtain ⟨n', a', b', c, rfl, hc⟩ := dU (hf t hmt)
          have hcs : (Tree.node 163 n' a' b' [c]).size = c.size + 1 := by simp only [Tree.size, Tree.sizes]; omega
          have e : fldR (.node 163 n' a' b' [c]) = fldOf a' (transP c) := by rw [fldR, one1]
          have hc0 : (transP c).2 = 0 := by
            rw [e] at he1
            unfold fldOf at he1
            by_cases h : (transP c).2 = 0
            · exact h
            · rw [if_pos h] at he1; exact absurd he1 h
          have h1 := ih c (by omega) hc (bM hwt (List.mem_singleton.2 rfl)) hc0
          have e2 : (fldR (.node 163 n' a' b' [c])).1 = .node 116 0 a' emptyB [(transP c).1] := by
            rw [e]; unfold fldOf; rw [if_neg (by simpa using hc0)]
          rw [List.map_cons, List.map_cons, e2]
          refine ⟨?_, ?_⟩
          · rw [Tree.wholes, g1]
            have : (Tree.node 116 0 a' emptyB [(transP c).1]).whole = true := by
              show Tree.wholes [_] = true
              rw [Tree.wholes, h1.1]; rfl
            rw [this]; rfl
          · simp only [Tree.sizes, Tree.size]
            omega
      have := key kids fun _ h => h
      refine ⟨this.1, ?_⟩
      simp only [conT, Tree.size]
      omega
theorem dF (t : Tree) (hf : tForm t) (hw : t.whole = true) (he : (transP t).2 = 0) : (transP t).1.whole = true ∧ (transP t).1.size ≤ 9 * t.size + 40000 := by
  have hex : ∀ t, isExP t = true → t.whole = true → (transP t).2 = 0 → (transP t).1.whole = true ∧ (transP t).1.size ≤ 9 * t.size + 17000 := by
    intro t hf hw he
    obtain ⟨n, a, b, c, rfl, h0, h1, hc⟩ := mE hf
    have hcw : c.whole = true := bM hw (List.mem_singleton.2 rfl)
    rw [transP, if_neg (by decide), if_neg (by decide), if_neg (by decide), plnRs, plnRs] at he ⊢
    have hc0 : (transP c).2 = 0 := by
      by_cases h : (transP c).2 = 0
      · exact h
      · exfalso
        have e : seqP [transP c] = ([], (transP c).2) := by rw [seqP, if_pos h]
        rw [e] at he
        unfold finP at he
        rw [if_pos h] at he
        exact h he
    have h2 := jW c hc hcw hc0
    have e : seqP [transP c] = ([(transP c).1], 0) := fM _ (by intro r hr; rw [List.mem_singleton.1 hr]; exact hc0)
    rw [e]
    unfold finP
    rw [if_neg (by simp), if_pos rfl]
    have h3 := dZ 118 (transP c).1 h2.1 n.toNat
    refine ⟨h3.1, ?_⟩
    show (aroundP 118 n.toNat (transP c).1).size ≤ _
    simp only [Tree.size, Tree.sizes]
    omega
  rcases hf with h | h | h
  · have := jW t h hw he
    exact ⟨this.1, by omega⟩
  · have := hex t h hw he
    exact ⟨this.1, by omega⟩
  · obtain ⟨n, a, b, c, e, rfl, h0, h1, hc, hee⟩ := nT h
    have hcw : c.whole = true := bM hw (by simp)
    have hew : e.whole = true := bM hw (by simp)
    rw [transP, if_neg (by decide), if_neg (by decide), if_neg (by decide), plnRs, plnRs, plnRs] at he ⊢
    have hs0 : (seqP [transP c, transP e]).2 = 0 := by
      by_cases h : (seqP [transP c, transP e]).2 = 0
      · exact h
      · exfalso
        unfold finP at he
        rw [if_pos h] at he
        exact h he
    have hall := sU _ hs0
    have hc0 := hall _ (List.mem_cons_self)
    have he0 := hall (transP e) (by simp)
    rw [fM _ hall]
    unfold finP
    rw [if_neg (by simp), if_neg (by decide), if_pos rfl]
    have h2 := jW c hc hcw hc0
    have h3 := hex e hee hew he0
    have hw4 : (conT 114 [(transP c).1, (transP e).1]).whole = true := by
      show Tree.wholes [_, _] = true
      rw [Tree.wholes, Tree.wholes, h2.1, h3.1]; rfl
    have h4 := dZ 117 _ hw4 n.toNat
    refine ⟨h4.1, ?_⟩
    show (aroundP 117 n.toNat (conT 114 [(transP c).1, (transP e).1])).size ≤ _
    have h5 : (conT 114 [(transP c).1, (transP e).1]).size = 1 + (transP c).1.size + (transP e).1.size := by simp only [conT, Tree.size, Tree.sizes]; omega
    simp only [Tree.size, Tree.sizes]
    omega
set_option maxHeartbeats 4000000 in
set_option maxRecDepth 10000 in
theorem xK (n : Int) (a b : ByteArray) (c : Tree) (hc : c.whole = true) : ACalls Tryz.prog 53 [.imm (Tree.iv (.node 163 n a b [c]))] [] (.imm c.iv) [] := by
  refine aM Tryz.func53 rfl rfl (nb rfl) rfl ?_
  repeat' (first | refine aE ?_ | (refine aH ?_;  first | refine aC tabOk rfl rfl rfl (nb rfl) rfl ?_ | (refine aK rfl rfl rfl (nb rfl) rfl rfl rfl (fun hq => ?_) (fun hq => ?_) <;> (first | (simp only [sD, sE, sB, sC, sN, sM, sT, sF] at hq; try (exfalso; omega)) | skip)) | refine bI tabOk rfl rfl rfl (nb rfl) rfl rfl rfl rfl (by first | rfl | omega) (by first | omega | simp) ?_) | (refine aN ?_;  first | refine aG ?_ | refine aQ ?_ | refine aT ?_ | refine aA (b := true) rfl (fun _ => ?_) nTf) | (refine aJ ?_;  first | refine aR ?_))
  all_goals first
    | exact absurd rfl (by assumption)
    | (refine aX (by first | exact .inl rfl | exact .inr rfl) (aV rfl (aD rfl)) rfl ?_; rfl)
set_option maxHeartbeats 4000000 in
set_option maxRecDepth 10000 in
theorem lC (k n : Int) (a b : ByteArray) (kids : List Tree) (hk : k ≠ 163) : ACalls Tryz.prog 53 [.imm (Tree.iv (.node k n a b kids))] [] (.imm (Tree.iv (.node k n a b kids))) [] := by
  refine aM Tryz.func53 rfl rfl (nb rfl) rfl ?_
  repeat' (first | refine aE ?_ | (refine aH ?_;  first | refine aC tabOk rfl rfl rfl (nb rfl) rfl ?_ | (refine aK rfl rfl rfl (nb rfl) rfl rfl rfl (fun hq => ?_) (fun hq => ?_) <;> (first | (simp only [sD, sE, sB, sC, sN, sM, sT, sF] at hq; try (exfalso; omega)) | skip))) | (refine aN ?_;  first | refine aG ?_ | refine aQ ?_ | refine aT ?_ | refine aW ?_ | refine aA (b := false) rfl nFt (fun _ => ?_)) | (refine aJ ?_;  first | refine bB ?_))
  all_goals first
    | exact absurd (by assumption) hk
    | (refine aX (by first | exact .inl rfl | exact .inr rfl) (aV rfl (aD rfl)) rfl ?_; rfl)
end Go.Proofs.YtlbemgokilhdnaaGreatDoor.Ab
namespace Go.Proofs.YtlbemgokilhdnaaGreatDoor.Ab
set_option linter.unusedVariables false
set_option linter.unusedSimpArgs false
open Go.RowKit
attribute [local irreducible] AWP AOps AExit AThen ABlock ANoGoto FeetOk
theorem sV (a : ByteArray) (R : Tree × Int) (pr : List IV) (h0 : R.2 = 0) (hp : R.1.iv = .ptr pr 0) : (fldOf a R).1.iv = .ptr [.lit (.int .i64 116), .lit (.int .i64 0), .lit (.string a), .lit (.string ⟨#[]⟩), .sl false 1 [.ptr pr 0]] 0 := by
  unfold fldOf
  rw [if_neg (by simpa using h0), Tree.iv, Tree.ivs, Tree.ivs, hp]
  rfl
theorem gH (a : ByteArray) (R : Tree × Int) : (fldOf a R).2 = R.2 := by
  unfold fldOf
  by_cases h : R.2 = 0
  · rw [if_neg (by simpa using h), h]
  · rw [if_pos h]
set_option maxHeartbeats 16000000 in
set_option maxRecDepth 10000 in
theorem iL (k n : Int) (a b : ByteArray) (kids : List Tree) (rs : List (Tree × Int)) (hk3 : k = 162 ∨ k = 164 ∨ k = 165) (hn : k ≠ 162 → 0 ≤ n ∧ n ≤ 8192) (h1 : k = 164 → kids.length = 1) (hl : kids.length ≤ 1000000) (hlen : rs.length = kids.length)
    (hk : ∀ j (h : j < kids.length) (h' : j < rs.length), ∃ kk nn aa bb ks c, kids[j] = .node kk nn aa bb ks ∧ ACalls Tryz.prog 53 [.imm kids[j].iv] [] (.imm c.iv) [] ∧
      ACalls Tryz.prog 22 [.imm c.iv] [] (.imm (.tup [(transP c).1.iv, .lit (.int .i64 (transP c).2)])) [] ∧ ((transP c).2 = 0 → (transP c).1.whole = true) ∧ ((kk = 163 ∧ rs[j] = fldOf aa (transP c)) ∨ (kk ≠ 163 ∧ rs[j] = transP c))) :
    ACalls Tryz.prog 22 [.imm (Tree.iv (.node k n a b kids))] [] (.imm (.tup [(finP k n (seqP rs)).1.iv, .lit (.int .i64 (finP k n (seqP rs)).2)])) [] := by
  obtain ⟨Q, hQ⟩ : ∃ Q, finP k n (seqP rs) = Q := ⟨_, rfl⟩
  rw [hQ]
  refine aM Tryz.func22 rfl rfl (nb rfl) rfl ?_
  repeat' (first | refine aE ?_ | (refine aH ?_;  first | refine aC tabOk rfl rfl rfl (nb rfl) rfl ?_ | (refine aK rfl rfl rfl (nb rfl) rfl rfl rfl (fun hq => ?_) (fun hq => ?_) <;> (first | (simp only [sD, sE, sB, sC, sN, sM, sT, sF] at hq; try (exfalso; omega)) | skip)) | refine aU tabOk rfl rfl (nb rfl) rfl ?_) | (refine aN ?_;  first | refine aG ?_ | refine aQ ?_ | refine aZ ?_ | refine aW ?_ | refine aA (b := false) rfl nFt (fun _ => ?_)) | (refine aJ ?_;  first | refine bB ?_) | (refine bA ?_;  first | refine bR ?_))
  all_goals first
    | (exfalso; omega)
    | skip
  refine dK (pP (t := 6) 500 26 1 rfl (by simp) rfl rfl) ?_
  refine cB (ι := {j : Nat // j ≤ kids.length ∧ ∀ i (hi : i < j) (hi2 : i < rs.length), (rs[i]).2 = 0 ∧ (rs[i]).1.whole = true}) (fun j => S.f ⟨[(50, .imm (.lit (.int .i64 (j.1 : Int)))), (49, .imm (.lit (.int .i64 (kids.length : Int)))), (48, .imm (.sl false kids.length (Tree.ivs kids))), (6, .ref 500 j.1), (0, .imm (Tree.iv (.node k n a b kids)))], [(500, .arr 26 1 j.1 (Tree.ivs ((rs.take j.1).map (·.1))))]⟩) (fun j => kids.length - j.1) ⟨0, Nat.zero_le _, fun i hi => absurd hi (by omega)⟩ (bY (by repeat' first | exact trivial | refine ⟨rfl, ?_⟩) (by repeat' first | exact trivial | refine ⟨rfl, ?_⟩)) ?_
  rintro ⟨j, hj, hok⟩
  dsimp only
  have hil := fF ((rs.take j).map (·.1))
  rw [List.length_map, List.length_take, hlen, Nat.min_eq_left hj] at hil
  by_cases hlt : j < kids.length
  · have hlt2 : j < rs.length := by omega
    have hget := cA kids j hlt
    obtain ⟨kk, nn, aa, bb, ks, c, ek, ci, ct, cw, hr⟩ := hk j hlt hlt2
    have hnx : Tree.ivs ((rs.take (j + 1)).map (·.1)) = Tree.ivs ((rs.take j).map (·.1)) ++ [rs[j].1.iv] := by
      rw [List.take_succ_eq_append_getElem hlt2, List.map_append, dQ, dQ, List.map_append]; rfl
    rw [ek] at hget ci
    by_cases h0 : (transP c).2 = 0
    · have hw0 := cw h0
      obtain ⟨pr, hpr⟩ := dI (cS hw0)
      rw [h0, hpr] at ct
      have hr2 : rs[j].2 = 0 ∧ rs[j].1.whole = true := by
        rcases hr with ⟨_, e⟩ | ⟨_, e⟩
        · rw [e, gH]
          refine ⟨h0, ?_⟩
          unfold fldOf
          rw [if_neg (by simpa using h0)]
          show Tree.wholes [_] = true
          rw [Tree.wholes, hw0]; rfl
        · rw [e]; exact ⟨h0, hw0⟩
      have hok2 : ∀ i (hi : i < j + 1) (hi2 : i < rs.length), (rs[i]).2 = 0 ∧ (rs[i]).1.whole = true := fun i hi hi2 => by
        by_cases hij : i = j
        · subst hij; exact hr2
        · exact hok i (by omega) hi2
      rcases hr with ⟨hkk, e⟩ | ⟨hkk, e⟩
      · rw [e, sV aa _ pr h0 hpr] at hnx
        clear hk hQ hr2 ek
        generalize Tree.ivs ((rs.take j).map (·.1)) = ZI at *
        repeat' (first | refine aE ?_ | (refine aH ?_;  first | refine aC tabOk rfl rfl rfl (nb rfl) rfl ?_ | (refine aK rfl rfl rfl (nb rfl) rfl rfl rfl (fun hq => ?_) (fun hq => ?_) <;> (first | (simp only [sD, sE, sB, sC, sN, sM, sT, sF] at hq; try (exfalso; omega)) | skip)) | refine aY tabOk rfl rfl rfl (nb rfl) rfl rfl rfl hget ?_ | refine aI rfl rfl (nb rfl) rfl rfl rfl rfl (ci) ?_ | refine aI rfl rfl (nb rfl) rfl rfl rfl rfl (ct) ?_ | refine cY tabOk rfl rfl rfl (nb rfl) rfl rfl rfl rfl rfl rfl rfl (by first | omega | decide) rfl (by first | omega | (dsimp only; omega)) (by first | omega | (dsimp only; omega)) ?_ | refine bK rfl rfl rfl (nb rfl) rfl rfl (by omega) ?_ | refine bV tabOk rfl rfl rfl (nb rfl) rfl rfl rfl rfl rfl rfl rfl rfl rfl ?_ | refine aU tabOk rfl rfl (nb rfl) rfl ?_ | refine bF tabOk rfl rfl rfl (nb rfl) rfl rfl rfl rfl (by first | assumption | omega) ?_) | (refine aN ?_;  first | refine aG ?_ | refine aQ ?_ | refine bE ?_ | refine aZ ?_ | refine aW ?_ | refine aA (b := true) rfl (fun _ => ?_) nTf | refine aA (b := false) rfl nFt (fun _ => ?_)) | (refine aJ ?_;  first | refine bB ?_) | (refine bA ?_;  first | refine bR ?_))
        all_goals first
          | exact absurd rfl (by assumption)
          | exact absurd hkk (by assumption)
          | (exfalso; omega)
          | (refine ⟨⟨j + 1, hlt, hok2⟩, (by show kids.length - (j + 1) < kids.length - j; omega), ?_⟩; dsimp only; rw [hnx]; exact (bY (by repeat' first | exact trivial | refine ⟨rfl, ?_⟩) (by repeat' first | exact trivial | refine ⟨rfl, ?_⟩)))
      · rw [e, hpr] at hnx
        clear hk hQ hr2 ek
        generalize Tree.ivs ((rs.take j).map (·.1)) = ZI at *
        repeat' (first | refine aE ?_ | (refine aH ?_;  first | refine aC tabOk rfl rfl rfl (nb rfl) rfl ?_ | (refine aK rfl rfl rfl (nb rfl) rfl rfl rfl (fun hq => ?_) (fun hq => ?_) <;> (first | (simp only [sD, sE, sB, sC, sN, sM, sT, sF] at hq; try (exfalso; omega)) | skip)) | refine aY tabOk rfl rfl rfl (nb rfl) rfl rfl rfl hget ?_ | refine aI rfl rfl (nb rfl) rfl rfl rfl rfl (ci) ?_ | refine aI rfl rfl (nb rfl) rfl rfl rfl rfl (ct) ?_ | refine cY tabOk rfl rfl rfl (nb rfl) rfl rfl rfl rfl rfl rfl rfl (by first | omega | decide) rfl (by first | omega | (dsimp only; omega)) (by first | omega | (dsimp only; omega)) ?_ | refine bK rfl rfl rfl (nb rfl) rfl rfl (by omega) ?_ | refine bV tabOk rfl rfl rfl (nb rfl) rfl rfl rfl rfl rfl rfl rfl rfl rfl ?_ | refine bF tabOk rfl rfl rfl (nb rfl) rfl rfl rfl rfl (by first | assumption | omega) ?_) | (refine aN ?_;  first | refine aG ?_ | refine aQ ?_ | refine bE ?_ | refine aZ ?_ | refine aW ?_ | refine aA (b := true) rfl (fun _ => ?_) nTf | refine aA (b := false) rfl nFt (fun _ => ?_)) | (refine aJ ?_;  first | refine bB ?_) | (refine bA ?_;  first | refine bR ?_))
        all_goals first
          | exact absurd rfl (by assumption)
          | exact absurd (by assumption) hkk
          | (exfalso; omega)
          | (refine ⟨⟨j + 1, hlt, hok2⟩, (by show kids.length - (j + 1) < kids.length - j; omega), ?_⟩; dsimp only; rw [hnx]; exact (bY (by repeat' first | exact trivial | refine ⟨rfl, ?_⟩) (by repeat' first | exact trivial | refine ⟨rfl, ?_⟩)))
    · have hr2 : rs[j].2 = (transP c).2 := by
        rcases hr with ⟨_, e⟩ | ⟨_, e⟩
        · rw [e, gH]
        · rw [e]
      have hbad := nR rs j hlt2 (fun i hi => (hok i hi (by omega)).1) (by rw [hr2]; exact h0)
      have hQ2 : Q = (.nil, (transP c).2) := by
        rw [← hQ, hbad, hr2]; unfold finP; rw [if_pos h0]
      subst hQ2
      clear hk hQ hr hr2 hbad ek hnx
      generalize Tree.ivs ((rs.take j).map (·.1)) = ZI at *
      generalize (transP c).2 = E at *
      repeat' (first | refine aE ?_ | (refine aH ?_;  first | refine aC tabOk rfl rfl rfl (nb rfl) rfl ?_ | (refine aK rfl rfl rfl (nb rfl) rfl rfl rfl (fun hq => ?_) (fun hq => ?_) <;> (first | (simp only [sD, sE, sB, sC, sN, sM, sT, sF] at hq; try (exfalso; omega)) | skip)) | refine aY tabOk rfl rfl rfl (nb rfl) rfl rfl rfl hget ?_ | refine aI rfl rfl (nb rfl) rfl rfl rfl rfl (ci) ?_ | refine aI rfl rfl (nb rfl) rfl rfl rfl rfl (ct) ?_ | refine bF tabOk rfl rfl rfl (nb rfl) rfl rfl rfl rfl (by first | assumption | omega) ?_) | (refine aN ?_;  first | refine aG ?_ | refine aQ ?_ | refine aZ ?_ | refine aT ?_ | refine aW ?_ | refine aA (b := true) rfl (fun _ => ?_) nTf) | (refine aJ ?_;  first | refine bB ?_ | refine aR ?_) | (refine bA ?_;  first | refine bG ?_))
      all_goals first
        | exact absurd (by assumption) h0
        | exact absurd rfl (by assumption)
        | (exfalso; omega)
        | (refine aX (by first | exact .inl rfl | exact .inr rfl) (bO rfl (aD rfl) (aD rfl)) rfl ?_; rfl)
  · have ej : j = kids.length := by omega
    subst ej
    have et : rs.take kids.length = rs := by rw [← hlen, List.take_length]
    rw [et] at hil ⊢
    have hall : ∀ r ∈ rs, r.2 = 0 := fun r hr => by
      obtain ⟨i, hi, rfl⟩ := List.getElem_of_mem hr
      exact (hok i (by omega) hi).1
    have hallw : ∀ r ∈ rs, r.1.whole = true := fun r hr => by
      obtain ⟨i, hi, rfl⟩ := List.getElem_of_mem hr
      exact (hok i (by omega) hi).2
    have hseq := fM rs hall
    rw [hseq] at hQ
    unfold finP at hQ
    rw [if_neg (by simp)] at hQ
    obtain ⟨L, hL⟩ : ∃ L, rs.map (·.1) = L := ⟨_, rfl⟩
    rw [hL] at hQ ⊢
    have hLl : L.length = kids.length := by rw [← hL, List.length_map, hlen]
    have hLw : ∀ t ∈ L, t.whole = true := fun t ht => by
      rw [← hL] at ht
      obtain ⟨r, hr, rfl⟩ := List.mem_map.1 ht
      exact hallw r hr
    rw [hL] at hil
    clear hk hok hall hallw hseq et
    refine dK ((Imp.of_le (σ' := S.f ⟨[(50, .imm (.lit (.int .i64 (kids.length : Int)))), (49, .imm (.lit (.int .i64 (kids.length : Int)))), (6, .ref 500 kids.length), (0, .imm (Tree.iv (.node k n a b kids)))], [(500, .arr 26 1 kids.length (Tree.ivs L))]⟩) (bY (by repeat' first | exact trivial | refine ⟨rfl, ?_⟩) (by repeat' first | exact trivial | refine ⟨rfl, ?_⟩))).trans (cU (g := 500) rfl (by repeat' first | exact trivial | exact fun _ => rfl | refine ⟨?_, ?_⟩) (by repeat' first | exact trivial | exact fun _ => rfl | refine ⟨?_, ?_⟩))) ?_
    by_cases k164 : k = 164
    · have hl1 := h1 k164
      obtain ⟨x, rfl⟩ := one_of (by rw [hLl, hl1] : L.length = 1)
      have hn1 := hn (by omega)
      have hxw := hLw x (by simp)
      rw [if_pos k164] at hQ
      have hQ2 : Q = (aroundP 118 n.toNat x, 0) := by rw [← hQ]; rfl
      subst hQ2
      have ca := sS 118 n x hxw hn1.1 (by omega)
      have h0 : (Tree.ivs [x])[0 * 1]? = some x.iv := rfl
      rw [hl1] at *
      obtain ⟨px, hpx⟩ := dI (cS hxw)
      rw [hpx] at ca h0
      generalize Tree.ivs [x] = ZI at *
      repeat' (first | refine aE ?_ | (refine aH ?_;  first | refine aC tabOk rfl rfl rfl (nb rfl) rfl ?_ | (refine aK rfl rfl rfl (nb rfl) rfl rfl rfl (fun hq => ?_) (fun hq => ?_) <;> (first | (simp only [sD, sE, sB, sC, sN, sM, sT, sF] at hq; try (exfalso; omega)) | skip)) | refine aY tabOk rfl rfl rfl (nb rfl) rfl rfl rfl h0 ?_ | refine aI rfl rfl (nb rfl) rfl rfl rfl rfl (ca) ?_ | refine bI tabOk rfl rfl rfl (nb rfl) rfl rfl rfl rfl (by first | rfl | omega) (by first | omega | simp) ?_) | (refine aN ?_;  first | refine aG ?_ | refine aQ ?_ | refine aZ ?_ | refine aT ?_ | refine bS ?_ | refine aA (b := true) rfl (fun _ => ?_) nTf | refine aA (b := false) rfl nFt (fun _ => ?_) | refine bC mixed (by kernel_rfl) ?_) | (refine aJ ?_;  first | refine bB ?_ | refine bJ ?_ | refine aR ?_) | (refine bA ?_;  first | refine bH ?_ | refine bG ?_) | refine bU (bQ (by kernel_rfl)) ?_)
      all_goals first
        | exact absurd rfl (by assumption)
        | exact absurd k164 (by assumption)
        | (exfalso; omega)
        | (refine aX (by first | exact .inl rfl | exact .inr rfl) (bO rfl (aD rfl) (aD rfl)) rfl ?_; rfl)
    · rw [if_neg k164] at hQ
      by_cases k165 : k = 165
      · rw [if_pos k165] at hQ
        have hn1 := hn (by omega)
        have hw4 : (conT 114 L).whole = true := oS hLw
        have ca := sS 117 n (conT 114 L) hw4 hn1.1 (by omega)
        have c1 := kM 114 false kids.length (Tree.ivs L)
        have e4 : (conT 114 L).iv = conIV 114 kids.length (Tree.ivs L) := by rw [cW, hLl]
        rw [e4] at ca
        subst hQ
        dsimp only
        generalize Tree.ivs L = ZI at *
        unfold conIV at *
        repeat' (first | refine aE ?_ | (refine aH ?_;  first | refine aC tabOk rfl rfl rfl (nb rfl) rfl ?_ | (refine aK rfl rfl rfl (nb rfl) rfl rfl rfl (fun hq => ?_) (fun hq => ?_) <;> (first | (simp only [sD, sE, sB, sC, sN, sM, sT, sF] at hq; try (exfalso; omega)) | skip)) | refine aI rfl rfl (nb rfl) rfl rfl rfl rfl (c1) ?_ | refine aI rfl rfl (nb rfl) rfl rfl rfl rfl (ca) ?_) | (refine aN ?_;  first | refine aG ?_ | refine aQ ?_ | refine aZ ?_ | refine aT ?_ | refine bS ?_ | refine aA (b := true) rfl (fun _ => ?_) nTf | refine aA (b := false) rfl nFt (fun _ => ?_) | refine bC mixed (by kernel_rfl) ?_) | (refine aJ ?_;  first | refine bB ?_ | refine bJ ?_ | refine aR ?_) | (refine bA ?_;  first | refine bH ?_ | refine bG ?_) | refine bU (bQ (by kernel_rfl)) ?_)
        all_goals first
          | exact absurd rfl (by assumption)
          | exact absurd (by assumption) k164
          | exact absurd k165 (by assumption)
          | (exfalso; omega)
          | (refine aX (by first | exact .inl rfl | exact .inr rfl) (bO rfl (aD rfl) (aD rfl)) rfl ?_; rfl)
      · rw [if_neg k165] at hQ
        have c1 := kM 115 false kids.length (Tree.ivs L)
        have e4 : (conT 115 L).iv = conIV 115 kids.length (Tree.ivs L) := by rw [cW, hLl]
        subst hQ
        dsimp only
        rw [e4]
        generalize Tree.ivs L = ZI at *
        unfold conIV at *
        repeat' (first | refine aE ?_ | (refine aH ?_;  first | refine aC tabOk rfl rfl rfl (nb rfl) rfl ?_ | (refine aK rfl rfl rfl (nb rfl) rfl rfl rfl (fun hq => ?_) (fun hq => ?_) <;> (first | (simp only [sD, sE, sB, sC, sN, sM, sT, sF] at hq; try (exfalso; omega)) | skip)) | refine aI rfl rfl (nb rfl) rfl rfl rfl rfl (c1) ?_) | (refine aN ?_;  first | refine aG ?_ | refine aQ ?_ | refine aZ ?_ | refine aT ?_ | refine bS ?_ | refine aW ?_ | refine aA (b := false) rfl nFt (fun _ => ?_)) | (refine aJ ?_;  first | refine bB ?_ | refine bJ ?_) | (refine bA ?_;  first | refine bR ?_ | refine bH ?_))
        all_goals first
          | exact absurd rfl (by assumption)
          | exact absurd (by assumption) k164
          | exact absurd (by assumption) k165
          | (exfalso; omega)
          | (refine aX (by first | exact .inl rfl | exact .inr rfl) (bO rfl (aD rfl) (aD rfl)) rfl ?_; rfl)
end Go.Proofs.YtlbemgokilhdnaaGreatDoor.Ab
namespace Go.Proofs.YtlbemgokilhdnaaGreatDoor.Ab
set_option linter.unusedVariables false
set_option linter.unusedSimpArgs false
open Go.RowKit
attribute [local irreducible] AWP AOps AExit AThen ABlock ANoGoto FeetOk
theorem kO (k n : Int) (R : List Tree × Int) (h0 : (finP k n R).2 ≠ 0) : (finP k n R).1 = .nil := by
  unfold finP at h0 ⊢
  split
  · rfl
  · rename_i h1
    rw [if_neg h1] at h0
    exfalso
    revert h0
    split
    · simp
    · split <;> simp
theorem eN (t : Tree) (h0 : (transP t).2 ≠ 0) : (transP t).1 = .nil := by
  cases t with
  | nil => rw [transP] at h0; exact absurd rfl h0
  | node k n a b kids =>
    rw [transP] at h0 ⊢
    split
    · rename_i h1; rw [if_pos h1] at h0; exact absurd rfl h0
    · rename_i h1
      rw [if_neg h1] at h0
      split
      · rename_i h2
        rw [if_pos h2] at h0
        unfold allTok at h0 ⊢
        split
        · rfl
        · rename_i h3; rw [if_neg h3] at h0; exact absurd rfl h0
      · rename_i h2
        rw [if_neg h2] at h0
        exact kO _ _ _ h0
theorem dY : higherT.iv = conIV 101 2 [conIV 100 0 [], conIV 100 0 []] := by
  unfold higherT
  rw [cW, Tree.ivs, Tree.ivs, Tree.ivs, cW, Tree.ivs]
  rfl
set_option maxHeartbeats 8000000 in
set_option maxRecDepth 10000 in
theorem vA (n : Int) (a b : ByteArray) (c : Tree) (hcs : c.size ≤ 1000000) : ACalls Tryz.prog 22 [.imm (Tree.iv (.node 161 n a b [c]))] [] (.imm (.tup [(allTok c).1.iv, .lit (.int .i64 (allTok c).2)])) [] := by
  have c1 := vV c hcs
  have c0 := sR
  have hf := fA c
  rw [dY] at c0
  unfold allTok
  generalize tokP c = S at *
  obtain ⟨S1, S2⟩ := S
  dsimp only at *
  by_cases h0 : S2 = 0
  · subst h0
    rw [if_neg (by simp)]
    obtain ⟨px, hpx⟩ := dI (cS (hf rfl).1)
    have c2 := kM 114 true 2 [.ptr px 0, .ptr px 0]
    have c3 := kM 117 true 2 [conIV 101 2 [conIV 100 0 [], conIV 100 0 []], conIV 114 2 [.ptr px 0, .ptr px 0]]
    have hnx : (conT 117 [higherT, conT 114 [S1, S1]]).iv = conIV 117 2 [conIV 101 2 [conIV 100 0 [], conIV 100 0 []], conIV 114 2 [.ptr px 0, .ptr px 0]] := by
      rw [cW, Tree.ivs, Tree.ivs, Tree.ivs, dY, cW, Tree.ivs, Tree.ivs, Tree.ivs, hpx]; rfl
    rw [hnx]
    rw [hpx] at c1
    clear hf hnx
    unfold conIV at *
    refine aM Tryz.func22 rfl rfl (nb rfl) rfl ?_
    repeat' (first | refine aE ?_ | (refine aH ?_;  first | refine aC tabOk rfl rfl rfl (nb rfl) rfl ?_ | (refine aK rfl rfl rfl (nb rfl) rfl rfl rfl (fun hq => ?_) (fun hq => ?_) <;> (first | (simp only [sD, sE, sB, sC, sN, sM, sT, sF] at hq; try (exfalso; omega)) | skip)) | refine aI rfl rfl (nb rfl) rfl rfl rfl rfl (c0) ?_ | refine aI rfl rfl (nb rfl) rfl rfl rfl rfl (c1) ?_ | refine aI rfl rfl (nb rfl) rfl rfl rfl rfl (c2) ?_ | refine aI rfl rfl (nb rfl) rfl rfl rfl rfl (c3) ?_ | refine bV tabOk rfl rfl rfl (nb rfl) rfl rfl rfl rfl rfl rfl rfl rfl rfl ?_ | refine bI tabOk rfl rfl rfl (nb rfl) rfl rfl rfl rfl (by first | rfl | omega) (by first | omega | simp) ?_) | (refine aN ?_;  first | refine aG ?_ | refine aQ ?_ | refine aZ ?_ | refine aT ?_ | refine aW ?_ | refine aA (b := true) rfl (fun _ => ?_) nTf | refine aA (b := false) rfl nFt (fun _ => ?_)) | (refine aJ ?_;  first | refine bB ?_ | refine aR ?_) | (refine bA ?_;  first | refine bG ?_))
    all_goals first
      | exact absurd rfl (by assumption)
      | (refine aX (by first | exact .inl rfl | exact .inr rfl) (bO rfl (aD rfl) (aD rfl)) rfl ?_; rfl)
  · rw [if_pos h0]
    refine aM Tryz.func22 rfl rfl (nb rfl) rfl ?_
    repeat' (first | refine aE ?_ | (refine aH ?_;  first | refine aC tabOk rfl rfl rfl (nb rfl) rfl ?_ | (refine aK rfl rfl rfl (nb rfl) rfl rfl rfl (fun hq => ?_) (fun hq => ?_) <;> (first | (simp only [sD, sE, sB, sC, sN, sM, sT, sF] at hq; try (exfalso; omega)) | skip)) | refine aI rfl rfl (nb rfl) rfl rfl rfl rfl (c1) ?_ | refine bI tabOk rfl rfl rfl (nb rfl) rfl rfl rfl rfl (by first | rfl | omega) (by first | omega | simp) ?_) | (refine aN ?_;  first | refine aG ?_ | refine aQ ?_ | refine aZ ?_ | refine aT ?_ | refine aA (b := true) rfl (fun _ => ?_) nTf | refine aA (b := false) rfl nFt (fun _ => ?_)) | (refine aJ ?_;  first | refine aR ?_) | (refine bA ?_;  first | refine bG ?_))
    all_goals first
      | exact absurd (by assumption) h0
      | exact absurd rfl (by assumption)
      | (refine aX (by first | exact .inl rfl | exact .inr rfl) (bO rfl (aD rfl) (aD rfl)) rfl ?_; rfl)
set_option maxHeartbeats 8000000 in
set_option maxRecDepth 10000 in
theorem vB (n : Int) (a b : ByteArray) (c : Tree) : ACalls Tryz.prog 22 [.imm (Tree.iv (.node 160 n a b [c]))] [] (.imm (.tup [c.iv, .lit (.int .i64 0)])) [] := by
  refine aM Tryz.func22 rfl rfl (nb rfl) rfl ?_
  repeat' (first | refine aE ?_ | (refine aH ?_;  first | refine aC tabOk rfl rfl rfl (nb rfl) rfl ?_ | (refine aK rfl rfl rfl (nb rfl) rfl rfl rfl (fun hq => ?_) (fun hq => ?_) <;> (first | (simp only [sD, sE, sB, sC, sN, sM, sT, sF] at hq; try (exfalso; omega)) | skip)) | refine bI tabOk rfl rfl rfl (nb rfl) rfl rfl rfl rfl (by first | rfl | omega) (by first | omega | simp) ?_) | (refine aN ?_;  first | refine aG ?_ | refine aQ ?_ | refine aZ ?_ | refine aT ?_ | refine aA (b := true) rfl (fun _ => ?_) nTf) | (refine aJ ?_;  first | refine aR ?_) | (refine bA ?_;  first | refine bG ?_))
  all_goals first
    | exact absurd rfl (by assumption)
    | (refine aX (by first | exact .inl rfl | exact .inr rfl) (bO rfl (aD rfl) (aD rfl)) rfl ?_; rfl)
theorem aAN (t : Tree) : tForm t → t.whole = true → t.size ≤ 1000000 → ACalls Tryz.prog 22 [.imm t.iv] [] (.imm (.tup [(transP t).1.iv, .lit (.int .i64 (transP t).2)])) [] := by
  induction t using Tree.sind with
  | h t ih =>
    intro hf hw hs
    have hfin := hf
    obtain ⟨k, n, a, b, kids, rfl⟩ := cM hw
    rcases hf with hf | hf | hf
    · rcases eS hf with ⟨hk, c, rfl, hc⟩ | ⟨rfl, hfl, _⟩
      · have hcw := (cK hc).1
        have hsz : (Tree.node k n a b [c]).size = c.size + 1 := by simp only [Tree.size, Tree.sizes]; omega
        rw [transP]
        rcases hk with rfl | rfl
        · rw [if_pos rfl]
          exact vB n a b c
        · rw [if_neg (by decide), if_pos rfl]
          exact vA n a b c (by omega)
      · rw [transP, if_neg (by decide), if_neg (by decide), if_pos rfl, gG]
        have hkl := cE kids hw
        have hsz : (Tree.node 162 n a b kids).size = 1 + Tree.sizes kids := by simp only [Tree.size]; try omega
        refine iL 162 n a b kids (kids.map fldR) (.inl rfl) (fun e => absurd rfl e) (fun e => absurd e (by decide)) (by omega) (by rw [List.length_map]) ?_
        intro j hj hj'
        have hm := List.getElem_mem hj
        obtain ⟨n', a', b', c, e, hc⟩ := dU (hfl _ hm)
        have hz := cG (k := 162) (n := n) (a := a) (b := b) hm
        have hwm := bM hw hm
        rw [List.getElem_map, e]
        rw [e] at hz hwm
        have hcw : c.whole = true := bM hwm (List.mem_singleton.2 rfl)
        have hcs : (Tree.node 163 n' a' b' [c]).size = c.size + 1 := by simp only [Tree.size, Tree.sizes]; omega
        exact ⟨163, n', a', b', [c], c, rfl, xK n' a' b' c hcw, ih c (by omega) (.inl hc) hcw (by omega), fun h0 => (dF c (.inl hc) hcw h0).1, .inl ⟨rfl, by rw [fldR, one1]⟩⟩
    · obtain ⟨n', a', b', c, e, g0, g1, hc⟩ := mE hf
      cases e
      have hcw : c.whole = true := bM hw (List.mem_singleton.2 rfl)
      have hsz : (Tree.node 164 n a b [c]).size = c.size + 1 := by simp only [Tree.size, Tree.sizes]; omega
      rw [transP, if_neg (by decide), if_neg (by decide), if_neg (by decide), plnRs, plnRs]
      refine iL 164 n a b [c] [transP c] (.inr (.inl rfl)) (fun _ => ⟨g0, g1⟩) (fun _ => rfl) (by simp) rfl ?_
      intro j hj hj'
      obtain rfl : j = 0 := by simp only [List.length_cons, List.length_nil] at hj; omega
      obtain ⟨kk, nn, aa, bb, ks, rfl⟩ := cM hcw
      have hk : kk ≠ 163 := fun e => by subst e; rcases eS hc with ⟨h, _⟩ | ⟨h, _⟩ <;> omega
      exact ⟨kk, nn, aa, bb, ks, _, rfl, lC kk nn aa bb ks hk, ih _ (by omega) (.inl hc) hcw (by omega), fun h0 => (dF _ (.inl hc) hcw h0).1, .inr ⟨hk, rfl⟩⟩
    · obtain ⟨n', a', b', c, x, e, g0, g1, hc, hx⟩ := nT hf
      cases e
      have hcw : c.whole = true := bM hw (by simp)
      have hxw : x.whole = true := bM hw (by simp)
      have hsz : (Tree.node 165 n a b [c, x]).size = c.size + x.size + 1 := by simp only [Tree.size, Tree.sizes]; omega
      have hc1 := gB hcw
      have hx1 := gB hxw
      rw [transP, if_neg (by decide), if_neg (by decide), if_neg (by decide), plnRs, plnRs, plnRs]
      refine iL 165 n a b [c, x] [transP c, transP x] (.inr (.inr rfl)) (fun _ => ⟨g0, g1⟩) (fun e => absurd e (by decide)) (by simp) rfl ?_
      intro j hj hj'
      simp only [List.length_cons, List.length_nil] at hj
      match j, hj with
      | 0, _ =>
        obtain ⟨kk, nn, aa, bb, ks, rfl⟩ := cM hcw
        have hk : kk ≠ 163 := fun e => by subst e; rcases eS hc with ⟨h, _⟩ | ⟨h, _⟩ <;> omega
        exact ⟨kk, nn, aa, bb, ks, _, rfl, lC kk nn aa bb ks hk, ih _ (by omega) (.inl hc) hcw (by omega), fun h0 => (dF _ (.inl hc) hcw h0).1, .inr ⟨hk, rfl⟩⟩
      | 1, _ =>
        obtain ⟨nn, aa, bb, c2, rfl, _⟩ := mE hx
        exact ⟨164, nn, aa, bb, [c2], _, rfl, lC 164 nn aa bb [c2] (by decide), ih _ (by omega) (.inr (.inl hx)) hxw (by omega), fun h0 => (dF _ (.inr (.inl hx)) hxw h0).1, .inr ⟨by decide, rfl⟩⟩
      | j + 2, h => omega
/-- What sem.Trans tells. -/
def sTransP (t : Tree) : Tree × Int := if checkP sformP t ≠ 0 then (.nil, checkP sformP t) else sizedP (transP t).1 (transP t).2
/-- What sem.Token tells. -/
def tokT (T : Tree) : Tree := conT 139 [higherT, conT 134 [T, conT 130 []]]
def sTokenP (c : Tree) : Tree × Int := if checkP isConP c ≠ 0 then (.nil, checkP isConP c) else if (tokP c).2 ≠ 0 then (.nil, (tokP c).2) else sizedP (tokT (tokP c).1) 0
set_option maxHeartbeats 4000000 in
set_option maxRecDepth 10000 in
theorem vW (t : Tree) (hs : t.size ≤ 100000) : ACalls Tryz.prog 6 [.imm t.iv] [] (.imm (.tup [(sTransP t).1.iv, .lit (.int .i64 (sTransP t).2)])) [] := by
  have c1 := eL t (by omega)
  obtain ⟨Q, hQ⟩ : ∃ Q, sTransP t = Q := ⟨_, rfl⟩
  rw [hQ]
  unfold sTransP at hQ
  by_cases hc : checkP sformP t = 0
  · rw [if_neg (by simpa using hc)] at hQ
    rw [hc] at c1
    obtain ⟨hw, hz, hf⟩ := cK hc
    have ht := nS hf
    have c2 := aAN t ht hw (by omega)
    have hsz : (transP t).1.size ≤ 1000000 := by
      by_cases h0 : (transP t).2 = 0
      · have := (dF t ht hw h0).2; omega
      · rw [eN t h0]; decide
    have c3 := vS (transP t).1 (transP t).2 hsz
    rw [hQ] at c3
    clear hQ hsz ht hf hw hz hc
    generalize transP t = W at *
    obtain ⟨W1, W2⟩ := W
    obtain ⟨Q1, Q2⟩ := Q
    dsimp only at *
    refine aM Tryz.func6 rfl rfl (nb rfl) rfl ?_
    repeat' (first | refine aE ?_ | (refine aH ?_;  first | refine aC tabOk rfl rfl rfl (nb rfl) rfl ?_ | (refine aK rfl rfl rfl (nb rfl) rfl rfl rfl (fun hq => ?_) (fun hq => ?_) <;> (first | (simp only [sD, sE, sB, sC, sN, sM, sT, sF] at hq; try (exfalso; omega)) | skip)) | refine aI rfl rfl (nb rfl) rfl rfl rfl rfl (c1) ?_ | refine aI rfl rfl (nb rfl) rfl rfl rfl rfl (c2) ?_ | refine aI rfl rfl (nb rfl) rfl rfl rfl rfl (c3) ?_) | (refine aN ?_;  first | refine aG ?_ | refine aQ ?_ | refine aT ?_ | refine aW ?_ | refine aA (b := false) rfl nFt (fun _ => ?_)) | (refine aJ ?_;  first | refine bB ?_))
    all_goals first
      | exact absurd rfl (by assumption)
      | (refine aX (by first | exact .inl rfl | exact .inr rfl) (bO rfl (aD rfl) (aD rfl)) rfl ?_; rfl)
  · rw [if_pos hc] at hQ
    subst hQ
    generalize checkP sformP t = C at *
    refine aM Tryz.func6 rfl rfl (nb rfl) rfl ?_
    repeat' (first | refine aE ?_ | (refine aH ?_;  first | refine aC tabOk rfl rfl rfl (nb rfl) rfl ?_ | (refine aK rfl rfl rfl (nb rfl) rfl rfl rfl (fun hq => ?_) (fun hq => ?_) <;> (first | (simp only [sD, sE, sB, sC, sN, sM, sT, sF] at hq; try (exfalso; omega)) | skip)) | refine aI rfl rfl (nb rfl) rfl rfl rfl rfl (c1) ?_) | (refine aN ?_;  first | refine aG ?_ | refine aQ ?_ | refine aT ?_ | refine aA (b := true) rfl (fun _ => ?_) nTf) | (refine aJ ?_;  first | refine aR ?_))
    all_goals first
      | exact absurd rfl (by assumption)
      | exact absurd (by assumption) hc
      | (refine aX (by first | exact .inl rfl | exact .inr rfl) (bO rfl (aD rfl) (aD rfl)) rfl ?_; rfl)
set_option maxHeartbeats 4000000 in
set_option maxRecDepth 10000 in
theorem aAO (c : Tree) (hs : c.size ≤ 100000) : ACalls Tryz.prog 8 [.imm c.iv] [] (.imm (.tup [(sTokenP c).1.iv, .lit (.int .i64 (sTokenP c).2)])) [] := by
  have c1 := iW c (by omega)
  have c2 := vV c (by omega)
  have c0 := sR
  have c4 := qL 130
  have hf := fA c
  obtain ⟨Q, hQ⟩ : ∃ Q, sTokenP c = Q := ⟨_, rfl⟩
  rw [hQ]
  unfold sTokenP at hQ
  by_cases hc : checkP isConP c = 0
  · rw [if_neg (by simpa using hc)] at hQ
    rw [hc] at c1
    generalize tokP c = S at *
    obtain ⟨S1, S2⟩ := S
    dsimp only at *
    by_cases h0 : S2 = 0
    · subst h0
      rw [if_neg (by simp)] at hQ
      obtain ⟨g1, g2⟩ := hf rfl
      obtain ⟨px, hpx⟩ := dI (cS g1)
      have hsz : (tokT S1).size = S1.size + 6 := by simp only [tokT, conT, higherT, Tree.size, Tree.sizes]; omega
      have c3 := vS (tokT S1) 0 (by omega)
      rw [hQ] at c3
      have hnx : (tokT S1).iv = conIV 139 2 [conIV 101 2 [conIV 100 0 [], conIV 100 0 []], conIV 134 2 [.ptr px 0, conIV 130 0 []]] := by
        unfold tokT
        rw [cW, Tree.ivs, Tree.ivs, Tree.ivs, dY, cW, Tree.ivs, Tree.ivs, Tree.ivs, cW, hpx]; rfl
      have c5 := kM 134 true 2 [.ptr px 0, conIV 130 0 []]
      have c6 := kM 139 true 2 [conIV 101 2 [conIV 100 0 [], conIV 100 0 []], conIV 134 2 [.ptr px 0, conIV 130 0 []]]
      rw [hnx] at c3
      rw [hpx] at c2
      rw [dY] at c0
      clear hQ hsz hf hnx hc g1 g2
      obtain ⟨Q1, Q2⟩ := Q
      dsimp only at *
      unfold conIV at *
      refine aM Tryz.func8 rfl rfl (nb rfl) rfl ?_
      repeat' (first | refine aE ?_ | (refine aH ?_;  first | refine aC tabOk rfl rfl rfl (nb rfl) rfl ?_ | (refine aK rfl rfl rfl (nb rfl) rfl rfl rfl (fun hq => ?_) (fun hq => ?_) <;> (first | (simp only [sD, sE, sB, sC, sN, sM, sT, sF] at hq; try (exfalso; omega)) | skip)) | refine aI rfl rfl (nb rfl) rfl rfl rfl rfl (c1) ?_ | refine aI rfl rfl (nb rfl) rfl rfl rfl rfl (c2) ?_ | refine aI rfl rfl (nb rfl) rfl rfl rfl rfl (c0) ?_ | refine aI rfl rfl (nb rfl) rfl rfl rfl rfl (c4) ?_ | refine aI rfl rfl (nb rfl) rfl rfl rfl rfl (c5) ?_ | refine aI rfl rfl (nb rfl) rfl rfl rfl rfl (c6) ?_ | refine aI rfl rfl (nb rfl) rfl rfl rfl rfl (c3) ?_ | refine bV tabOk rfl rfl rfl (nb rfl) rfl rfl rfl rfl rfl rfl rfl rfl rfl ?_) | (refine aN ?_;  first | refine aG ?_ | refine aQ ?_ | refine aT ?_ | refine aW ?_ | refine aA (b := false) rfl nFt (fun _ => ?_)) | (refine aJ ?_;  first | refine bB ?_))
      all_goals first
        | exact absurd rfl (by assumption)
        | (refine aX (by first | exact .inl rfl | exact .inr rfl) (bO rfl (aD rfl) (aD rfl)) rfl ?_; rfl)
    · rw [if_pos h0] at hQ
      subst hQ
      refine aM Tryz.func8 rfl rfl (nb rfl) rfl ?_
      repeat' (first | refine aE ?_ | (refine aH ?_;  first | refine aC tabOk rfl rfl rfl (nb rfl) rfl ?_ | (refine aK rfl rfl rfl (nb rfl) rfl rfl rfl (fun hq => ?_) (fun hq => ?_) <;> (first | (simp only [sD, sE, sB, sC, sN, sM, sT, sF] at hq; try (exfalso; omega)) | skip)) | refine aI rfl rfl (nb rfl) rfl rfl rfl rfl (c1) ?_ | refine aI rfl rfl (nb rfl) rfl rfl rfl rfl (c2) ?_) | (refine aN ?_;  first | refine aG ?_ | refine aQ ?_ | refine aT ?_ | refine aW ?_ | refine aA (b := true) rfl (fun _ => ?_) nTf | refine aA (b := false) rfl nFt (fun _ => ?_)) | (refine aJ ?_;  first | refine bB ?_ | refine aR ?_))
      all_goals first
        | exact absurd (by assumption) h0
        | exact absurd rfl (by assumption)
        | (refine aX (by first | exact .inl rfl | exact .inr rfl) (bO rfl (aD rfl) (aD rfl)) rfl ?_; rfl)
  · rw [if_pos hc] at hQ
    subst hQ
    generalize checkP isConP c = C at *
    refine aM Tryz.func8 rfl rfl (nb rfl) rfl ?_
    repeat' (first | refine aE ?_ | (refine aH ?_;  first | refine aC tabOk rfl rfl rfl (nb rfl) rfl ?_ | (refine aK rfl rfl rfl (nb rfl) rfl rfl rfl (fun hq => ?_) (fun hq => ?_) <;> (first | (simp only [sD, sE, sB, sC, sN, sM, sT, sF] at hq; try (exfalso; omega)) | skip)) | refine aI rfl rfl (nb rfl) rfl rfl rfl rfl (c1) ?_) | (refine aN ?_;  first | refine aG ?_ | refine aQ ?_ | refine aT ?_ | refine aA (b := true) rfl (fun _ => ?_) nTf) | (refine aJ ?_;  first | refine aR ?_))
    all_goals first
      | exact absurd rfl (by assumption)
      | exact absurd (by assumption) hc
      | (refine aX (by first | exact .inl rfl | exact .inr rfl) (bO rfl (aD rfl) (aD rfl)) rfl ?_; rfl)
end Go.Proofs.YtlbemgokilhdnaaGreatDoor.Ab
namespace Go.Proofs.YtlbemgokilhdnaaGreatDoor.Ab
set_option linter.unusedVariables false
set_option linter.unusedSimpArgs false
theorem xL (t : Tree) : t.whole = true → ∀ l : Int, (wholeP t l).1 = 0 ∨ (wholeP t l).1 = 3 := by
  induction t using Tree.ind with
  | h1 => intro h; simp [Tree.whole] at h
  | h2 k n a b kids ih =>
    intro hw l
    rw [wholeP]
    split
    · exact .inr rfl
    · have key : ∀ ls : List Tree, (∀ t ∈ ls, t ∈ kids) → ∀ l : Int, (wholePs ls l).1 = 0 ∨ (wholePs ls l).1 = 3 := by
        intro ls
        induction ls with
        | nil => intro _ l; rw [wholePs]; exact .inl rfl
        | cons t ts ih2 =>
          intro hm l
          rw [wholePs]
          split
          · exact ih2 (fun t' h' => hm t' (by simp [h'])) _
          · exact ih t (hm t (by simp)) (bM hw (hm t (by simp))) l
      exact key kids (fun _ h => h) _
theorem sW (t : Tree) (hw : t.whole = true) (l : Int) (hl : 0 ≤ l) (hs : l < t.size) : (wholeP t l).1 = 3 := by
  rcases xL t hw l with h | h
  · have h1 := iD t l hl h
    have h2 := eE t l hl h
    omega
  · exact h
theorem sX (t : Tree) (hw : t.whole = true) : sizedP t 0 = if (t.size : Int) > 65536 then (.nil, 3) else (t, 0) := by
  unfold sizedP
  rw [if_neg (by simp)]
  by_cases h : (t.size : Int) > 65536
  · rw [if_pos h, if_pos (by rw [sW t hw 65536 (by omega) h]; decide), sW t hw 65536 (by omega) h]
  · rw [if_neg h, if_neg (by rw [oY t hw 65536 (by omega)]; simp)]
theorem vX : ∀ rs : List (Tree × Int), (∀ r ∈ rs, r.2 = 0 ∨ r.2 = 3) → (seqP rs).2 = 0 ∨ (seqP rs).2 = 3
  | [], _ => .inl rfl
  | r :: rs, h => by
    have ih := vX rs fun r' hr => h r' (by simp [hr])
    rw [seqP]
    split
    · exact h r (by simp)
    · split
      · exact ih
      · exact .inl rfl
theorem xM (t : Tree) : (transP t).2 = 0 ∨ (transP t).2 = 3 := by
  induction t using Tree.sind with
  | h t ih =>
    cases t with
    | nil => rw [transP]; exact .inl rfl
    | node k n a b kids =>
      rw [transP]
      split
      · exact .inl rfl
      · split
        · unfold allTok
          split
          · rcases kN (kidH kids) with h | h
            · exact .inl h
            · exact .inr h.1
          · exact .inl rfl
        · have hfin : ∀ R : List Tree × Int, R.2 = 0 ∨ R.2 = 3 → (finP k n R).2 = 0 ∨ (finP k n R).2 = 3 := by
            intro R hR
            unfold finP
            split
            · exact hR
            · refine .inl ?_
              split
              · rfl
              · split <;> rfl
          refine hfin _ (vX _ ?_)
          intro r hr
          split at hr
          · rw [gG] at hr
            obtain ⟨t, ht, rfl⟩ := List.mem_map.1 hr
            have hz := cG (k := k) (n := n) (a := a) (b := b) ht
            cases t with
            | nil => rw [fldR]; exact .inl rfl
            | node k' n' a' b' ks =>
              rw [fldR]
              match ks with
              | [] => exact .inl rfl
              | [c] =>
                have hz2 := cG (k := k') (n := n') (a := a') (b := b') (kids := [c]) (t := c) (by simp)
                rw [one1, gH]
                exact ih c (by omega)
              | _ :: _ :: _ => exact .inl rfl
          · rw [pD] at hr
            obtain ⟨t, ht, rfl⟩ := List.mem_map.1 hr
            have hz := cG (k := k) (n := n) (a := a) (b := b) ht
            exact ih t hz
theorem sY (t : Tree) (hc : checkP sformP t = 0) (h0 : (transP t).2 ≠ 0) : sTransP t = (.nil, 3) := by
  unfold sTransP
  rw [if_neg (by simpa using hc)]
  unfold sizedP
  rw [if_pos h0]
  rcases xM t with h | h
  · exact absurd h h0
  · rw [h]
theorem qM (t : Tree) (hc : checkP sformP t = 0) (h0 : (transP t).2 = 0) : sTransP t = if ((transP t).1.size : Int) > 65536 then (.nil, 3) else ((transP t).1, 0) := by
  obtain ⟨hw, hz, hf⟩ := cK hc
  unfold sTransP
  rw [if_neg (by simpa using hc), h0, sX _ (dF t (nS hf) hw h0).1]
theorem sZ (c : Tree) (hc : checkP isConP c = 0) (h0 : (tokP c).2 ≠ 0) : sTokenP c = (.nil, 3) := by
  unfold sTokenP
  rw [if_neg (by simpa using hc), if_pos h0]
  rcases kN c with h | h
  · exact absurd h h0
  · rw [h.1]
theorem qN (c : Tree) (hc : checkP isConP c = 0) (h0 : (tokP c).2 = 0) : sTokenP c = if ((tokP c).1.size : Int) + 6 > 65536 then (.nil, 3) else (tokT (tokP c).1, 0) := by
  have hg := (fA c h0).1
  have hsz : (tokT (tokP c).1).size = (tokP c).1.size + 6 := by simp only [tokT, conT, higherT, Tree.size, Tree.sizes]; omega
  have hwt : (tokT (tokP c).1).whole = true := by
    show Tree.wholes [higherT, conT 134 [(tokP c).1, conT 130 []]] = true
    rw [Tree.wholes, Tree.wholes]
    have : (conT 134 [(tokP c).1, conT 130 []]).whole = true := by
      show Tree.wholes [_, _] = true
      rw [Tree.wholes, hg]; rfl
    rw [this]; rfl
  unfold sTokenP
  rw [if_neg (by simpa using hc), if_neg (by simpa using h0), sX _ hwt, hsz]
  by_cases h : ((tokP c).1.size : Int) + 6 > 65536
  · rw [if_pos h, if_pos (by omega)]
  · rw [if_neg h, if_neg (by omega)]
end Go.Proofs.YtlbemgokilhdnaaGreatDoor.Ab
namespace Go.Proofs.YtlbemgokilhdnaaGreatDoor.Ab
set_option linter.unusedVariables false
set_option linter.unusedSimpArgs false
open Go.RowKit
attribute [local irreducible] AWP AOps AExit AThen ABlock ANoGoto FeetOk
set_option maxHeartbeats 4000000 in
set_option maxRecDepth 10000 in
theorem zN (n : Int) (a b : ByteArray) (c : Tree) : ACalls Tryz.prog 23 [.imm (Tree.iv (.node 160 n a b [c]))] [] (.imm c.iv) [] := by
  refine aM Tryz.func23 rfl rfl (nb rfl) rfl ?_
  repeat' (first | refine aE ?_ | (refine aH ?_;  first | refine aC tabOk rfl rfl rfl (nb rfl) rfl ?_ | (refine aK rfl rfl rfl (nb rfl) rfl rfl rfl (fun hq => ?_) (fun hq => ?_) <;> (first | (simp only [sD, sE, sB, sC, sN, sM, sT, sF] at hq; try (exfalso; omega)) | skip)) | refine bI tabOk rfl rfl rfl (nb rfl) rfl rfl rfl rfl (by first | rfl | omega) (by first | omega | simp) ?_) | (refine aN ?_;  first | refine aG ?_ | refine aQ ?_ | refine aT ?_ | refine aA (b := true) rfl (fun _ => ?_) nTf) | (refine aJ ?_;  first | refine aR ?_))
  all_goals first
    | exact absurd rfl (by assumption)
    | (refine aX (by first | exact .inl rfl | exact .inr rfl) (aV rfl (aD rfl)) rfl ?_; rfl)
set_option maxHeartbeats 8000000 in
set_option maxRecDepth 10000 in
theorem zO (n : Int) (a b : ByteArray) (c : Tree) (hc : checkP isConP c = 0) : ACalls Tryz.prog 23 [.imm (Tree.iv (.node 161 n a b [c]))] [] (.imm (allTok c).1.iv) [] := by
  have c1 := pC c hc
  have c0 := pB
  have hf := fA c
  have he := kN c
  rw [dY] at c0
  unfold allTok
  generalize tokP c = S at *
  obtain ⟨S1, S2⟩ := S
  dsimp only at *
  by_cases h0 : S2 = 0
  · subst h0
    rw [if_neg (by simp)]
    obtain ⟨px, hpx⟩ := dI (cS (hf rfl).1)
    have c2 := eV 114 true 2 [.ptr px 0, .ptr px 0]
    have c3 := eV 117 true 2 [conIV 101 2 [conIV 100 0 [], conIV 100 0 []], conIV 114 2 [.ptr px 0, .ptr px 0]]
    have hnx : (conT 117 [higherT, conT 114 [S1, S1]]).iv = conIV 117 2 [conIV 101 2 [conIV 100 0 [], conIV 100 0 []], conIV 114 2 [.ptr px 0, .ptr px 0]] := by
      rw [cW, Tree.ivs, Tree.ivs, Tree.ivs, dY, cW, Tree.ivs, Tree.ivs, Tree.ivs, hpx]; rfl
    rw [hnx]
    rw [hpx] at c1
    clear hf hnx he
    unfold conIV at *
    refine aM Tryz.func23 rfl rfl (nb rfl) rfl ?_
    repeat' (first | refine aE ?_ | (refine aH ?_;  first | refine aC tabOk rfl rfl rfl (nb rfl) rfl ?_ | (refine aK rfl rfl rfl (nb rfl) rfl rfl rfl (fun hq => ?_) (fun hq => ?_) <;> (first | (simp only [sD, sE, sB, sC, sN, sM, sT, sF] at hq; try (exfalso; omega)) | skip)) | refine aI rfl rfl (nb rfl) rfl rfl rfl rfl (c0) ?_ | refine aI rfl rfl (nb rfl) rfl rfl rfl rfl (c1) ?_ | refine aI rfl rfl (nb rfl) rfl rfl rfl rfl (c2) ?_ | refine aI rfl rfl (nb rfl) rfl rfl rfl rfl (c3) ?_ | refine bV tabOk rfl rfl rfl (nb rfl) rfl rfl rfl rfl rfl rfl rfl rfl rfl ?_ | refine aU tabOk rfl rfl (nb rfl) rfl ?_ | refine bI tabOk rfl rfl rfl (nb rfl) rfl rfl rfl rfl (by first | rfl | omega) (by first | omega | simp) ?_) | (refine aN ?_;  first | refine aG ?_ | refine aQ ?_ | refine aT ?_ | refine aW ?_ | refine aA (b := true) rfl (fun _ => ?_) nTf | refine aA (b := false) rfl nFt (fun _ => ?_)) | (refine aJ ?_;  first | refine bB ?_ | refine aR ?_))
    all_goals first
      | exact absurd rfl (by assumption)
      | (refine aX (by first | exact .inl rfl | exact .inr rfl) (aV rfl (aD rfl)) rfl ?_; rfl)
  · rw [if_pos h0]
    obtain ⟨_, rfl⟩ := he.resolve_left h0
    refine aM Tryz.func23 rfl rfl (nb rfl) rfl ?_
    repeat' (first | refine aE ?_ | (refine aH ?_;  first | refine aC tabOk rfl rfl rfl (nb rfl) rfl ?_ | (refine aK rfl rfl rfl (nb rfl) rfl rfl rfl (fun hq => ?_) (fun hq => ?_) <;> (first | (simp only [sD, sE, sB, sC, sN, sM, sT, sF] at hq; try (exfalso; omega)) | skip)) | refine aI rfl rfl (nb rfl) rfl rfl rfl rfl (c1) ?_ | refine aU tabOk rfl rfl (nb rfl) rfl ?_ | refine bI tabOk rfl rfl rfl (nb rfl) rfl rfl rfl rfl (by first | rfl | omega) (by first | omega | simp) ?_) | (refine aN ?_;  first | refine aG ?_ | refine aQ ?_ | refine aT ?_ | refine aW ?_ | refine aA (b := true) rfl (fun _ => ?_) nTf | refine aA (b := false) rfl nFt (fun _ => ?_)) | (refine aJ ?_;  first | refine bB ?_ | refine aR ?_))
    all_goals first
      | exact absurd rfl (by assumption)
      | (refine aX (by first | exact .inl rfl | exact .inr rfl) (aV rfl (aD rfl)) rfl ?_; rfl)
set_option maxHeartbeats 16000000 in
set_option maxRecDepth 10000 in
theorem zP (n : Int) (a b : ByteArray) (kids : List Tree) (hl : kids.length ≤ 1000000)
    (hk : ∀ j (h : j < kids.length), ∃ nn aa bb c, kids[j] = .node 163 nn aa bb [c] ∧ ACalls Tryz.prog 23 [.imm c.iv] [] (.imm (transP c).1.iv) [] ∧ ((transP c).2 = 0 → (transP c).1.whole = true)) :
    ACalls Tryz.prog 23 [.imm (Tree.iv (.node 162 n a b kids))] [] (.imm (finP 162 n (seqP (kids.map fldR))).1.iv) [] := by
  obtain ⟨rs, hrs⟩ : ∃ rs, kids.map fldR = rs := ⟨_, rfl⟩
  have hlen : rs.length = kids.length := by rw [← hrs, List.length_map]
  rw [hrs]
  obtain ⟨Q, hQ⟩ : ∃ Q, (finP 162 n (seqP rs)).1 = Q := ⟨_, rfl⟩
  rw [hQ]
  refine cZ Tryz.func23 rfl rfl (nb rfl) rfl ?_
  refine dK (kI 600 (by simp) rfl rfl) ?_
  repeat' (first | refine aE ?_ | (refine aH ?_;  first | refine aC tabOk rfl rfl rfl (nb rfl) rfl ?_ | (refine aK rfl rfl rfl (nb rfl) rfl rfl rfl (fun hq => ?_) (fun hq => ?_) <;> (first | (simp only [sD, sE, sB, sC, sN, sM, sT, sF] at hq; try (exfalso; omega)) | skip)) | refine cL rfl rfl (nb rfl) rfl rfl rfl rfl (zM 115) (by repeat' first | exact trivial | refine ⟨rfl, ?_⟩) rfl (by show ([600] : List Nat).Nodup; decide) ?_) | (refine aN ?_;  first | refine aG ?_ | refine aQ ?_ | refine aZ ?_ | refine aW ?_ | refine aA (b := true) rfl (fun _ => ?_) nTf | refine aA (b := false) rfl nFt (fun _ => ?_)) | (refine aJ ?_;  first | refine bB ?_))
  all_goals first
    | exact absurd rfl (by assumption)
    | (exfalso; omega)
    | skip
  refine dK (eA (h0 := 600) (k0 := 4) 500 26 1 rfl rfl (by simp) rfl rfl) ?_
  refine cB (ι := {j : Nat // j ≤ kids.length ∧ ∀ i (hi : i < j) (hi2 : i < rs.length), (rs[i]).2 = 0 ∧ (rs[i]).1.whole = true}) (fun j => S.f ⟨[(5, .imm (.lit (.int .i64 (j.1 : Int)))), (4, .obj 600 0), (0, .imm (Tree.iv (.node 162 n a b kids)))], [(500, .arr 26 1 j.1 (Tree.ivs ((rs.take j.1).map (·.1)))), (600, .cells [.imm (.lit (.int .i64 115)), .imm (.lit (.int .i64 0)), .imm (.lit (.string ⟨#[]⟩)), .imm (.lit (.string ⟨#[]⟩)), .ref 500 j.1])]⟩) (fun j => kids.length - j.1) ⟨0, Nat.zero_le _, fun i hi => absurd hi (by omega)⟩ (bY (by repeat' first | exact trivial | refine ⟨rfl, ?_⟩) (by repeat' first | exact trivial | refine ⟨rfl, ?_⟩)) ?_
  rintro ⟨j, hj, hok⟩
  dsimp only
  have hil := fF ((rs.take j).map (·.1))
  rw [List.length_map, List.length_take, hlen, Nat.min_eq_left hj] at hil
  by_cases hlt : j < kids.length
  · have hlt2 : j < rs.length := by omega
    have hget := cA kids j hlt
    obtain ⟨nn, aa, bb, c, ek, ct, cw⟩ := hk j hlt
    have hr : rs[j] = fldOf aa (transP c) := by
      have : rs[j] = fldR kids[j] := by simp only [← hrs, List.getElem_map]
      rw [this, ek, fldR, one1]
    have hnx : Tree.ivs ((rs.take (j + 1)).map (·.1)) = Tree.ivs ((rs.take j).map (·.1)) ++ [rs[j].1.iv] := by
      rw [List.take_succ_eq_append_getElem hlt2, List.map_append, dQ, dQ, List.map_append]; rfl
    rw [ek] at hget
    by_cases h0 : (transP c).2 = 0
    · have hw0 := cw h0
      obtain ⟨pr, hpr⟩ := dI (cS hw0)
      have hr2 : rs[j].2 = 0 ∧ rs[j].1.whole = true := by
        rw [hr, gH]
        refine ⟨h0, ?_⟩
        unfold fldOf
        rw [if_neg (by simpa using h0)]
        show Tree.wholes [_] = true
        rw [Tree.wholes, hw0]; rfl
      have hok2 : ∀ i (hi : i < j + 1) (hi2 : i < rs.length), (rs[i]).2 = 0 ∧ (rs[i]).1.whole = true := fun i hi hi2 => by
        by_cases hij : i = j
        · subst hij; exact hr2
        · exact hok i (by omega) hi2
      rw [hr, sV aa _ pr h0 hpr] at hnx
      rw [hpr] at ct
      clear hk hQ hr2 ek hr hrs
      generalize Tree.ivs ((rs.take j).map (·.1)) = ZI at *
      repeat' (first | refine aE ?_ | (refine aH ?_;  first | refine aC tabOk rfl rfl rfl (nb rfl) rfl ?_ | (refine aK rfl rfl rfl (nb rfl) rfl rfl rfl (fun hq => ?_) (fun hq => ?_) <;> (first | (simp only [sD, sE, sB, sC, sN, sM, sT, sF] at hq; try (exfalso; omega)) | skip)) | refine aY tabOk rfl rfl rfl (nb rfl) rfl rfl rfl hget ?_ | refine aI rfl rfl (nb rfl) rfl rfl rfl rfl (ct) ?_ | refine cY tabOk rfl rfl rfl (nb rfl) rfl rfl rfl rfl rfl rfl rfl (by first | omega | decide) rfl (by first | omega | (dsimp only; omega)) (by first | omega | (dsimp only; omega)) ?_ | refine bK rfl rfl rfl (nb rfl) rfl rfl (by omega) ?_ | refine bV tabOk rfl rfl rfl (nb rfl) rfl rfl rfl rfl rfl rfl rfl rfl rfl ?_ | refine aU tabOk rfl rfl (nb rfl) rfl ?_ | refine bT tabOk rfl rfl rfl (nb rfl) rfl rfl rfl rfl ?_ | refine bN tabOk rfl rfl rfl rfl rfl rfl rfl rfl rfl rfl rfl ?_ | refine bF tabOk rfl rfl rfl (nb rfl) rfl rfl rfl rfl (by first | assumption | omega) ?_ | refine bI tabOk rfl rfl rfl (nb rfl) rfl rfl rfl rfl (by first | rfl | omega) (by first | omega | simp) ?_) | (refine aN ?_;  first | refine aG ?_ | refine aQ ?_ | refine bE ?_ | refine aZ ?_ | refine aW ?_ | refine aA (b := true) rfl (fun _ => ?_) nTf | refine aA (b := false) rfl nFt (fun _ => ?_) | refine bC mixed (by kernel_rfl) ?_) | (refine aJ ?_;  first | refine bB ?_) | (refine bA ?_;  first | refine bR ?_) | refine bU (bQ (by kernel_rfl)) ?_)
      all_goals first
        | exact absurd rfl (by assumption)
        | (exfalso; omega)
        | (refine ⟨⟨j + 1, hlt, hok2⟩, (by show kids.length - (j + 1) < kids.length - j; omega), ?_⟩; dsimp only; rw [hnx]; exact (bY (by repeat' first | exact trivial | refine ⟨rfl, ?_⟩) (by repeat' first | exact trivial | refine ⟨rfl, ?_⟩)))
    · have hr2 : rs[j].2 = (transP c).2 := by rw [hr, gH]
      have hbad := nR rs j hlt2 (fun i hi => (hok i hi (by omega)).1) (by rw [hr2]; exact h0)
      have hQ2 : Q = .nil := by
        rw [← hQ, hbad, hr2]; unfold finP; rw [if_pos h0]
      rw [eN c h0] at ct
      subst hQ2
      clear hk hQ hr hr2 hbad ek hnx hrs
      generalize Tree.ivs ((rs.take j).map (·.1)) = ZI at *
      repeat' (first | refine aE ?_ | (refine aH ?_;  first | refine aC tabOk rfl rfl rfl (nb rfl) rfl ?_ | (refine aK rfl rfl rfl (nb rfl) rfl rfl rfl (fun hq => ?_) (fun hq => ?_) <;> (first | (simp only [sD, sE, sB, sC, sN, sM, sT, sF] at hq; try (exfalso; omega)) | skip)) | refine aY tabOk rfl rfl rfl (nb rfl) rfl rfl rfl hget ?_ | refine aI rfl rfl (nb rfl) rfl rfl rfl rfl (ct) ?_ | refine aU tabOk rfl rfl (nb rfl) rfl ?_ | refine bF tabOk rfl rfl rfl (nb rfl) rfl rfl rfl rfl (by first | assumption | omega) ?_ | refine bI tabOk rfl rfl rfl (nb rfl) rfl rfl rfl rfl (by first | rfl | omega) (by first | omega | simp) ?_) | (refine aN ?_;  first | refine aG ?_ | refine aQ ?_ | refine aZ ?_ | refine aT ?_ | refine aW ?_ | refine aA (b := true) rfl (fun _ => ?_) nTf) | (refine aJ ?_;  first | refine bB ?_ | refine aR ?_) | (refine bA ?_;  first | refine bG ?_))
      all_goals first
        | exact absurd rfl (by assumption)
        | (exfalso; omega)
        | (refine jQ ?_; refine aX (by first | exact .inl rfl | exact .inr rfl) (aV rfl (aD rfl)) rfl ?_; rfl)
  · have ej : j = kids.length := by omega
    subst ej
    have et : rs.take kids.length = rs := by rw [← hlen, List.take_length]
    rw [et] at hil ⊢
    have hall : ∀ r ∈ rs, r.2 = 0 := fun r hr => by
      obtain ⟨i, hi, rfl⟩ := List.getElem_of_mem hr
      exact (hok i (by omega) hi).1
    have hseq := fM rs hall
    rw [hseq] at hQ
    unfold finP at hQ
    rw [if_neg (by simp), if_neg (by decide), if_neg (by decide)] at hQ
    dsimp only at hQ
    obtain ⟨L, hL⟩ : ∃ L, rs.map (·.1) = L := ⟨_, rfl⟩
    rw [hL] at hQ ⊢
    have hLl : L.length = kids.length := by rw [← hL, List.length_map, hlen]
    have e4 : (conT 115 L).iv = conIV 115 kids.length (Tree.ivs L) := by rw [cW, hLl]
    rw [hL] at hil
    subst hQ
    rw [e4]
    clear hk hok hall hseq et hrs
    generalize Tree.ivs L = ZI at *
    unfold conIV
    repeat' (first | refine aE ?_ | (refine aH ?_;  first | refine aC tabOk rfl rfl rfl (nb rfl) rfl ?_ | (refine aK rfl rfl rfl (nb rfl) rfl rfl rfl (fun hq => ?_) (fun hq => ?_) <;> (first | (simp only [sD, sE, sB, sC, sN, sM, sT, sF] at hq; try (exfalso; omega)) | skip)) | refine aU tabOk rfl rfl (nb rfl) rfl ?_) | (refine aN ?_;  first | refine aG ?_ | refine aQ ?_ | refine aT ?_ | refine bS ?_ | refine aA (b := false) rfl nFt (fun _ => ?_)) | (refine aJ ?_;  first | refine bB ?_ | refine bJ ?_ | refine aR ?_) | (refine bA ?_;  first | refine bH ?_))
    all_goals first
      | (exfalso; omega)
      | (refine dT ((Imp.of_le (σ' := S.f ⟨[(2, .obj 600 0)], [(500, .arr 26 1 kids.length ZI), (600, .cells [.imm (.lit (.int .i64 115)), .imm (.lit (.int .i64 0)), .imm (.lit (.string ⟨#[]⟩)), .imm (.lit (.string ⟨#[]⟩)), .ref 500 kids.length])]⟩) (bY (by repeat' first | exact trivial | refine ⟨rfl, ?_⟩) (by repeat' first | exact trivial | refine ⟨rfl, ?_⟩))).trans ((cU (g := 500) rfl (by repeat' first | exact trivial | exact fun _ => rfl | refine ⟨?_, ?_⟩) (by repeat' first | exact trivial | exact fun _ => rfl | refine ⟨?_, ?_⟩)).trans (dG (g := 600) rfl rfl))) ?_
         refine aX (by first | exact .inl rfl | exact .inr rfl) (aV rfl (aD rfl)) rfl ?_; rfl)
end Go.Proofs.YtlbemgokilhdnaaGreatDoor.Ab
namespace Go.Proofs.YtlbemgokilhdnaaGreatDoor.Ab
set_option linter.unusedVariables false
set_option linter.unusedSimpArgs false
open Go.RowKit
attribute [local irreducible] AWP AOps AExit AThen ABlock ANoGoto FeetOk
set_option maxHeartbeats 8000000 in
set_option maxRecDepth 10000 in
theorem aAP (n : Int) (a b : ByteArray) (c : Tree) (g0 : 0 ≤ n) (g1 : n ≤ 8192) (ct : ACalls Tryz.prog 23 [.imm c.iv] [] (.imm (transP c).1.iv) []) (cw : (transP c).2 = 0 → (transP c).1.whole = true) :
    ACalls Tryz.prog 23 [.imm (Tree.iv (.node 164 n a b [c]))] [] (.imm (finP 164 n (seqP [transP c])).1.iv) [] := by
  obtain ⟨Q, hQ⟩ : ∃ Q, (finP 164 n (seqP [transP c])).1 = Q := ⟨_, rfl⟩
  rw [hQ]
  by_cases h0 : (transP c).2 = 0
  · have hw := cw h0
    rw [fM _ (by intro r hr; rw [List.mem_singleton.1 hr]; exact h0)] at hQ
    unfold finP at hQ
    rw [if_neg (by simp), if_pos rfl] at hQ
    change aroundP 118 n.toNat (transP c).1 = Q at hQ
    obtain ⟨N, rfl⟩ : ∃ N : Nat, n = N := ⟨n.toNat, by omega⟩
    rw [Int.toNat_natCast] at hQ
    generalize (transP c).1 = X at *
    obtain ⟨px0, hpx0⟩ := dI (cS hw)
    have hpx1 := hpx0
    rw [hpx0] at ct
    have c0 := iK 100
    refine aM Tryz.func23 rfl rfl (nb rfl) rfl ?_
    repeat' (first | refine aE ?_ | (refine aH ?_;  first | refine aC tabOk rfl rfl rfl (nb rfl) rfl ?_ | (refine aK rfl rfl rfl (nb rfl) rfl rfl rfl (fun hq => ?_) (fun hq => ?_) <;> (first | (simp only [sD, sE, sB, sC, sN, sM, sT, sF] at hq; try (exfalso; omega)) | skip)) | refine aI rfl rfl (nb rfl) rfl rfl rfl rfl (ct) ?_ | refine aU tabOk rfl rfl (nb rfl) rfl ?_ | refine bI tabOk rfl rfl rfl (nb rfl) rfl rfl rfl rfl (by first | rfl | omega) (by first | omega | simp) ?_) | (refine aN ?_;  first | refine aG ?_ | refine aQ ?_ | refine aZ ?_ | refine aW ?_ | refine aA (b := false) rfl nFt (fun _ => ?_)) | (refine aJ ?_;  first | refine bB ?_))
    all_goals first
      | exact absurd rfl (by assumption)
      | (exfalso; omega)
      | skip
    refine cB (ι := {j : Nat // j ≤ N}) (fun j => S.f ⟨[(10, .imm (.lit (.int .i64 (j.1 : Int)))), (7, .imm (aroundP 118 j.1 X).iv), (8, .imm (.lit (.int .i64 118))), (0, .imm (Tree.iv (.node 164 (N : Int) a b [c])))], []⟩) (fun j => N - j.1) ⟨0, Nat.zero_le _⟩ (by dsimp only [aroundP]; rw [hpx1]; exact (bY (by repeat' first | exact trivial | refine ⟨rfl, ?_⟩) (by repeat' first | exact trivial | refine ⟨rfl, ?_⟩))) ?_
    rintro ⟨j, hj⟩
    dsimp only
    clear hpx0 hpx1
    obtain ⟨px, hpx⟩ := dI (cS (dZ 118 X hw j).1)
    by_cases hlt : j < N
    · have hnx : (aroundP 118 (j + 1) X).iv = conIV 118 2 [conIV 100 0 [], .ptr px 0] := by
        rw [aroundP, cW, Tree.ivs, Tree.ivs, hpx]; rfl
      rw [hpx]
      have c1 := eV 118 true 2 [conIV 100 0 [], .ptr px 0]
      unfold conIV at c0 c1 hnx
      repeat' (first | refine aE ?_ | (refine aH ?_;  first | refine aC tabOk rfl rfl rfl (nb rfl) rfl ?_ | (refine aK rfl rfl rfl (nb rfl) rfl rfl rfl (fun hq => ?_) (fun hq => ?_) <;> (first | (simp only [sD, sE, sB, sC, sN, sM, sT, sF] at hq; try (exfalso; omega)) | skip)) | refine aI rfl rfl (nb rfl) rfl rfl rfl rfl (c0) ?_ | refine aI rfl rfl (nb rfl) rfl rfl rfl rfl (c1) ?_ | refine bK rfl rfl rfl (nb rfl) rfl rfl (by omega) ?_ | refine bV tabOk rfl rfl rfl (nb rfl) rfl rfl rfl rfl rfl rfl rfl rfl rfl ?_) | (refine aN ?_;  first | refine aG ?_ | refine aQ ?_ | refine bE ?_ | refine aZ ?_ | refine aW ?_ | refine aA (b := true) rfl (fun _ => ?_) nTf) | (refine aJ ?_;  first | refine bB ?_) | (refine bA ?_;  first | refine bR ?_))
      all_goals first
        | (exfalso; omega)
        | (refine ⟨⟨j + 1, hlt⟩, (by show N - (j + 1) < N - j; omega), ?_⟩; dsimp only; rw [hnx]; exact (bY (by repeat' first | exact trivial | refine ⟨rfl, ?_⟩) (by repeat' first | exact trivial | refine ⟨rfl, ?_⟩)))
    · have ej : j = N := by omega
      subst ej
      subst hQ
      rw [hpx]
      repeat' (first | refine aE ?_ | (refine aH ?_;  first | refine aC tabOk rfl rfl rfl (nb rfl) rfl ?_ | (refine aK rfl rfl rfl (nb rfl) rfl rfl rfl (fun hq => ?_) (fun hq => ?_) <;> (first | (simp only [sD, sE, sB, sC, sN, sM, sT, sF] at hq; try (exfalso; omega)) | skip))) | (refine aN ?_;  first | refine aG ?_ | refine aQ ?_ | refine aT ?_ | refine bS ?_ | refine aA (b := false) rfl nFt (fun _ => ?_)) | (refine aJ ?_;  first | refine bB ?_ | refine bJ ?_) | (refine bA ?_;  first | refine bH ?_))
      all_goals first
        | (exfalso; omega)
        | (refine aX (by first | exact .inl rfl | exact .inr rfl) (aV rfl (aD rfl)) rfl ?_; rfl)
  · have hQ2 : Q = .nil := by
      rw [← hQ]
      refine kO _ _ _ ?_
      have e : seqP [transP c] = ([], (transP c).2) := by rw [seqP, if_pos h0]
      rw [e]
      unfold finP
      rw [if_pos h0]
      exact h0
    subst hQ2
    rw [eN c h0] at ct
    refine aM Tryz.func23 rfl rfl (nb rfl) rfl ?_
    repeat' (first | refine aE ?_ | (refine aH ?_;  first | refine aC tabOk rfl rfl rfl (nb rfl) rfl ?_ | (refine aK rfl rfl rfl (nb rfl) rfl rfl rfl (fun hq => ?_) (fun hq => ?_) <;> (first | (simp only [sD, sE, sB, sC, sN, sM, sT, sF] at hq; try (exfalso; omega)) | skip)) | refine aI rfl rfl (nb rfl) rfl rfl rfl rfl (ct) ?_ | refine aU tabOk rfl rfl (nb rfl) rfl ?_ | refine bI tabOk rfl rfl rfl (nb rfl) rfl rfl rfl rfl (by first | rfl | omega) (by first | omega | simp) ?_) | (refine aN ?_;  first | refine aG ?_ | refine aQ ?_ | refine aT ?_ | refine aW ?_ | refine aA (b := true) rfl (fun _ => ?_) nTf | refine aA (b := false) rfl nFt (fun _ => ?_)) | (refine aJ ?_;  first | refine bB ?_ | refine aR ?_))
    all_goals first
      | exact absurd rfl (by assumption)
      | (exfalso; omega)
      | (refine aX (by first | exact .inl rfl | exact .inr rfl) (aV rfl (aD rfl)) rfl ?_; rfl)
set_option maxHeartbeats 8000000 in
set_option maxRecDepth 10000 in
theorem zQ (n : Int) (a b : ByteArray) (c x : Tree) (g0 : 0 ≤ n) (g1 : n ≤ 8192) (ct : ACalls Tryz.prog 23 [.imm c.iv] [] (.imm (transP c).1.iv) []) (cw : (transP c).2 = 0 → (transP c).1.whole = true)
    (cx : ACalls Tryz.prog 23 [.imm x.iv] [] (.imm (transP x).1.iv) []) (cxw : (transP x).2 = 0 → (transP x).1.whole = true) :
    ACalls Tryz.prog 23 [.imm (Tree.iv (.node 165 n a b [c, x]))] [] (.imm (finP 165 n (seqP [transP c, transP x])).1.iv) [] := by
  obtain ⟨Q, hQ⟩ : ∃ Q, (finP 165 n (seqP [transP c, transP x])).1 = Q := ⟨_, rfl⟩
  rw [hQ]
  by_cases h0 : (transP c).2 = 0
  · have hw := cw h0
    by_cases h1 : (transP x).2 = 0
    · have hwx := cxw h1
      rw [fM _ (by intro r hr; simp only [List.mem_cons, List.not_mem_nil, or_false] at hr; rcases hr with rfl | rfl; exact h0; exact h1)] at hQ
      unfold finP at hQ
      rw [if_neg (by simp), if_neg (by decide), if_pos rfl] at hQ
      change aroundP 117 n.toNat (conT 114 [(transP c).1, (transP x).1]) = Q at hQ
      obtain ⟨N, rfl⟩ : ∃ N : Nat, n = N := ⟨n.toNat, by omega⟩
      rw [Int.toNat_natCast] at hQ
      generalize (transP c).1 = X at *
      generalize (transP x).1 = Y at *
      obtain ⟨px0, hpx0⟩ := dI (cS hw)
      obtain ⟨py0, hpy0⟩ := dI (cS hwx)
      rw [hpx0] at ct
      rw [hpy0] at cx
      have hww : (conT 114 [X, Y]).whole = true := by
        show Tree.wholes [_, _] = true
        rw [Tree.wholes, Tree.wholes, hw, hwx]; rfl
      have hpz : (conT 114 [X, Y]).iv = conIV 114 2 [.ptr px0 0, .ptr py0 0] := by
        rw [cW, Tree.ivs, Tree.ivs, Tree.ivs, hpx0, hpy0]; rfl
      have cz := eV 114 true 2 [.ptr px0 0, .ptr py0 0]
      have c0 := iK 100
      unfold conIV at hpz cz c0
      refine aM Tryz.func23 rfl rfl (nb rfl) rfl ?_
      repeat' (first | refine aE ?_ | (refine aH ?_;  first | refine aC tabOk rfl rfl rfl (nb rfl) rfl ?_ | (refine aK rfl rfl rfl (nb rfl) rfl rfl rfl (fun hq => ?_) (fun hq => ?_) <;> (first | (simp only [sD, sE, sB, sC, sN, sM, sT, sF] at hq; try (exfalso; omega)) | skip)) | refine aI rfl rfl (nb rfl) rfl rfl rfl rfl (ct) ?_ | refine aI rfl rfl (nb rfl) rfl rfl rfl rfl (cx) ?_ | refine aI rfl rfl (nb rfl) rfl rfl rfl rfl (cz) ?_ | refine bV tabOk rfl rfl rfl (nb rfl) rfl rfl rfl rfl rfl rfl rfl rfl rfl ?_ | refine aU tabOk rfl rfl (nb rfl) rfl ?_ | refine bI tabOk rfl rfl rfl (nb rfl) rfl rfl rfl rfl (by first | rfl | omega) (by first | omega | simp) ?_) | (refine aN ?_;  first | refine aG ?_ | refine aQ ?_ | refine bE ?_ | refine aZ ?_ | refine aW ?_ | refine aA (b := true) rfl (fun _ => ?_) nTf | refine aA (b := false) rfl nFt (fun _ => ?_)) | (refine aJ ?_;  first | refine bB ?_))
      all_goals first
        | exact absurd rfl (by assumption)
        | (exfalso; omega)
        | skip
      refine cB (ι := {j : Nat // j ≤ N}) (fun j => S.f ⟨[(10, .imm (.lit (.int .i64 (j.1 : Int)))), (7, .imm (aroundP 117 j.1 (conT 114 [X, Y])).iv), (8, .imm (.lit (.int .i64 117))), (0, .imm (Tree.iv (.node 165 (N : Int) a b [c, x])))], []⟩) (fun j => N - j.1) ⟨0, Nat.zero_le _⟩ (by dsimp only [aroundP]; rw [hpz]; exact (bY (by repeat' first | exact trivial | refine ⟨rfl, ?_⟩) (by repeat' first | exact trivial | refine ⟨rfl, ?_⟩))) ?_
      rintro ⟨j, hj⟩
      dsimp only
      clear hpx0 hpy0 hpz
      generalize conT 114 [X, Y] = Z at *
      obtain ⟨px, hpx⟩ := dI (cS (dZ 117 Z hww j).1)
      by_cases hlt : j < N
      · have hnx : (aroundP 117 (j + 1) Z).iv = conIV 117 2 [conIV 100 0 [], .ptr px 0] := by
          rw [aroundP, cW, Tree.ivs, Tree.ivs, hpx]; rfl
        rw [hpx]
        have c1 := eV 117 true 2 [conIV 100 0 [], .ptr px 0]
        unfold conIV at c1 hnx
        repeat' (first | refine aE ?_ | (refine aH ?_;  first | refine aC tabOk rfl rfl rfl (nb rfl) rfl ?_ | (refine aK rfl rfl rfl (nb rfl) rfl rfl rfl (fun hq => ?_) (fun hq => ?_) <;> (first | (simp only [sD, sE, sB, sC, sN, sM, sT, sF] at hq; try (exfalso; omega)) | skip)) | refine aI rfl rfl (nb rfl) rfl rfl rfl rfl (c0) ?_ | refine aI rfl rfl (nb rfl) rfl rfl rfl rfl (c1) ?_ | refine bK rfl rfl rfl (nb rfl) rfl rfl (by omega) ?_ | refine bV tabOk rfl rfl rfl (nb rfl) rfl rfl rfl rfl rfl rfl rfl rfl rfl ?_) | (refine aN ?_;  first | refine aG ?_ | refine aQ ?_ | refine bE ?_ | refine aZ ?_ | refine aW ?_ | refine aA (b := true) rfl (fun _ => ?_) nTf) | (refine aJ ?_;  first | refine bB ?_) | (refine bA ?_;  first | refine bR ?_))
        all_goals first
          | (exfalso; omega)
          | (refine ⟨⟨j + 1, hlt⟩, (by show N - (j + 1) < N - j; omega), ?_⟩; dsimp only; rw [hnx]; exact (bY (by repeat' first | exact trivial | refine ⟨rfl, ?_⟩) (by repeat' first | exact trivial | refine ⟨rfl, ?_⟩)))
      · have ej : j = N := by omega
        subst ej
        subst hQ
        rw [hpx]
        repeat' (first | refine aE ?_ | (refine aH ?_;  first | refine aC tabOk rfl rfl rfl (nb rfl) rfl ?_ | (refine aK rfl rfl rfl (nb rfl) rfl rfl rfl (fun hq => ?_) (fun hq => ?_) <;> (first | (simp only [sD, sE, sB, sC, sN, sM, sT, sF] at hq; try (exfalso; omega)) | skip))) | (refine aN ?_;  first | refine aG ?_ | refine aQ ?_ | refine aT ?_ | refine bS ?_ | refine aA (b := false) rfl nFt (fun _ => ?_)) | (refine aJ ?_;  first | refine bB ?_ | refine bJ ?_) | (refine bA ?_;  first | refine bH ?_))
        all_goals first
          | (exfalso; omega)
          | (refine aX (by first | exact .inl rfl | exact .inr rfl) (aV rfl (aD rfl)) rfl ?_; rfl)
    · have hQ2 : Q = .nil := by
        rw [← hQ]
        refine kO _ _ _ ?_
        have e : seqP [transP c, transP x] = ([], (transP x).2) := by rw [seqP, if_neg (by simpa using h0), seqP, if_pos h1, if_pos h1]
        rw [e]
        unfold finP
        rw [if_pos h1]
        exact h1
      subst hQ2
      rw [eN x h1] at cx
      obtain ⟨px0, hpx0⟩ := dI (cS hw)
      rw [hpx0] at ct
      refine aM Tryz.func23 rfl rfl (nb rfl) rfl ?_
      repeat' (first | refine aE ?_ | (refine aH ?_;  first | refine aC tabOk rfl rfl rfl (nb rfl) rfl ?_ | (refine aK rfl rfl rfl (nb rfl) rfl rfl rfl (fun hq => ?_) (fun hq => ?_) <;> (first | (simp only [sD, sE, sB, sC, sN, sM, sT, sF] at hq; try (exfalso; omega)) | skip)) | refine aI rfl rfl (nb rfl) rfl rfl rfl rfl (ct) ?_ | refine aI rfl rfl (nb rfl) rfl rfl rfl rfl (cx) ?_ | refine aU tabOk rfl rfl (nb rfl) rfl ?_ | refine bI tabOk rfl rfl rfl (nb rfl) rfl rfl rfl rfl (by first | rfl | omega) (by first | omega | simp) ?_) | (refine aN ?_;  first | refine aG ?_ | refine aQ ?_ | refine aT ?_ | refine aW ?_ | refine aA (b := true) rfl (fun _ => ?_) nTf | refine aA (b := false) rfl nFt (fun _ => ?_)) | (refine aJ ?_;  first | refine bB ?_ | refine aR ?_))
      all_goals first
        | exact absurd rfl (by assumption)
        | (exfalso; omega)
        | (refine aX (by first | exact .inl rfl | exact .inr rfl) (aV rfl (aD rfl)) rfl ?_; rfl)
  · have hQ2 : Q = .nil := by
      rw [← hQ]
      refine kO _ _ _ ?_
      have e : seqP [transP c, transP x] = ([], (transP c).2) := by rw [seqP, if_pos h0]
      rw [e]
      unfold finP
      rw [if_pos h0]
      exact h0
    subst hQ2
    rw [eN c h0] at ct
    refine aM Tryz.func23 rfl rfl (nb rfl) rfl ?_
    repeat' (first | refine aE ?_ | (refine aH ?_;  first | refine aC tabOk rfl rfl rfl (nb rfl) rfl ?_ | refine bD rfl rfl (nb rfl) ?_ | (refine aK rfl rfl rfl (nb rfl) rfl rfl rfl (fun hq => ?_) (fun hq => ?_) <;> (first | (simp only [sD, sE, sB, sC, sN, sM, sT, sF] at hq; try (exfalso; omega)) | skip)) | refine aI rfl rfl (nb rfl) rfl rfl rfl rfl (ct) ?_ | refine aI rfl rfl (nb rfl) rfl rfl rfl rfl (cx) ?_ | refine aU tabOk rfl rfl (nb rfl) rfl ?_ | refine bI tabOk rfl rfl rfl (nb rfl) rfl rfl rfl rfl (by first | rfl | omega) (by first | omega | simp) ?_) | (refine aN ?_;  first | refine aG ?_ | refine aQ ?_ | refine aT ?_ | refine aW ?_ | refine aA (b := true) rfl (fun _ => ?_) nTf | refine aA (b := false) rfl nFt (fun _ => ?_)) | (refine aJ ?_;  first | refine bB ?_ | refine aR ?_))
    all_goals first
      | exact absurd rfl (by assumption)
      | (exfalso; omega)
      | (refine aX (by first | exact .inl rfl | exact .inr rfl) (aV rfl (aD rfl)) rfl ?_; rfl)
theorem aBH (t : Tree) : tForm t → t.whole = true → t.size ≤ 1000000 → ACalls Tryz.prog 23 [.imm t.iv] [] (.imm (transP t).1.iv) [] := by
  induction t using Tree.sind with
  | h t ih =>
    intro hf hw hs
    obtain ⟨k, n, a, b, kids, rfl⟩ := cM hw
    rcases hf with hf | hf | hf
    · rcases eS hf with ⟨hk, c, rfl, hc⟩ | ⟨rfl, hfl, _⟩
      · rw [transP]
        rcases hk with rfl | rfl
        · rw [if_pos rfl]
          exact zN n a b c
        · rw [if_neg (by decide), if_pos rfl]
          exact zO n a b c hc
      · rw [transP, if_neg (by decide), if_neg (by decide), if_pos rfl, gG]
        have hkl := cE kids hw
        have hsz : (Tree.node 162 n a b kids).size = 1 + Tree.sizes kids := by simp only [Tree.size]; try omega
        refine zP n a b kids (by omega) ?_
        intro j hj
        have hm := List.getElem_mem hj
        obtain ⟨n', a', b', c, e, hc⟩ := dU (hfl _ hm)
        have hz := cG (k := 162) (n := n) (a := a) (b := b) hm
        have hwm := bM hw hm
        rw [e] at hz hwm
        have hcw : c.whole = true := bM hwm (List.mem_singleton.2 rfl)
        have hcs : (Tree.node 163 n' a' b' [c]).size = c.size + 1 := by simp only [Tree.size, Tree.sizes]; omega
        exact ⟨n', a', b', c, e, ih c (by omega) (.inl hc) hcw (by omega), fun h0 => (dF c (.inl hc) hcw h0).1⟩
    · obtain ⟨n', a', b', c, e, g0, g1, hc⟩ := mE hf
      cases e
      have hcw : c.whole = true := bM hw (List.mem_singleton.2 rfl)
      have hsz : (Tree.node 164 n a b [c]).size = c.size + 1 := by simp only [Tree.size, Tree.sizes]; omega
      rw [transP, if_neg (by decide), if_neg (by decide), if_neg (by decide), plnRs, plnRs]
      exact aAP n a b c g0 g1 (ih _ (by omega) (.inl hc) hcw (by omega)) fun h0 => (dF _ (.inl hc) hcw h0).1
    · obtain ⟨n', a', b', c, x, e, g0, g1, hc, hx⟩ := nT hf
      cases e
      have hcw : c.whole = true := bM hw (by simp)
      have hxw : x.whole = true := bM hw (by simp)
      have hsz : (Tree.node 165 n a b [c, x]).size = c.size + x.size + 1 := by simp only [Tree.size, Tree.sizes]; omega
      have hc1 := gB hcw
      have hx1 := gB hxw
      rw [transP, if_neg (by decide), if_neg (by decide), if_neg (by decide), plnRs, plnRs, plnRs]
      exact zQ n a b c x g0 g1 (ih _ (by omega) (.inl hc) hcw (by omega)) (fun h0 => (dF _ (.inl hc) hcw h0).1) (ih _ (by omega) (.inr (.inl hx)) hxw (by omega)) fun h0 => (dF _ (.inr (.inl hx)) hxw h0).1
set_option maxHeartbeats 4000000 in
set_option maxRecDepth 10000 in
theorem zR (t : Tree) (hw : t = .nil ∨ t.whole = true) (hs : t.size ≤ 65536) : ACalls Tryz.prog 7 [.imm t.iv] [] (.imm (.tup [(sTransP t).1.iv, .lit (.int .i64 (sTransP t).2)])) [] := by
  have c1 := eM t hw hs
  obtain ⟨Q, hQ⟩ : ∃ Q, sTransP t = Q := ⟨_, rfl⟩
  rw [hQ]
  by_cases hc : checkP sformP t = 0
  · obtain ⟨hw, hz, hf⟩ := cK hc
    have ht := nS hf
    have c2 := aBH t ht hw (by omega)
    rw [hc] at c1
    by_cases h0 : (transP t).2 = 0
    · rw [qM t hc h0] at hQ
      obtain ⟨g1, g2⟩ := dF t ht hw h0
      have c3 := qJ (transP t).1 g1 (by omega)
      obtain ⟨px, hpx⟩ := dI (cS g1)
      rw [hpx] at c2 c3
      clear hc ht hf
      by_cases hb : ((transP t).1.size : Int) > 65536
      · rw [if_pos hb] at hQ
        subst hQ
        generalize ((transP t).1.size : Int) = Z at *
        refine aM Tryz.func7 rfl rfl (nb rfl) rfl ?_
        repeat' (first | refine aE ?_ | (refine aH ?_;  first | refine aC tabOk rfl rfl rfl (nb rfl) rfl ?_ | (refine aK rfl rfl rfl (nb rfl) rfl rfl rfl (fun hq => ?_) (fun hq => ?_) <;> (first | (simp only [sD, sE, sB, sC, sN, sM, sT, sF] at hq; try (exfalso; omega)) | skip)) | refine aI rfl rfl (nb rfl) rfl rfl rfl rfl (c1) ?_ | refine aI rfl rfl (nb rfl) rfl rfl rfl rfl (c2) ?_ | refine aI rfl rfl (nb rfl) rfl rfl rfl rfl (c3) ?_ | refine aU tabOk rfl rfl (nb rfl) rfl ?_) | (refine aN ?_;  first | refine aG ?_ | refine aQ ?_ | refine aT ?_ | refine aW ?_ | refine aA (b := true) rfl (fun _ => ?_) nTf | refine aA (b := false) rfl nFt (fun _ => ?_)) | (refine aJ ?_;  first | refine bB ?_ | refine aR ?_))
        all_goals first
          | exact absurd rfl (by assumption)
          | (exfalso; omega)
          | (refine aX (by first | exact .inl rfl | exact .inr rfl) (bO rfl (aD rfl) (aD rfl)) rfl ?_; rfl)
      · rw [if_neg hb] at hQ
        subst hQ
        dsimp only
        rw [hpx]
        generalize ((transP t).1.size : Int) = Z at *
        refine aM Tryz.func7 rfl rfl (nb rfl) rfl ?_
        repeat' (first | refine aE ?_ | (refine aH ?_;  first | refine aC tabOk rfl rfl rfl (nb rfl) rfl ?_ | (refine aK rfl rfl rfl (nb rfl) rfl rfl rfl (fun hq => ?_) (fun hq => ?_) <;> (first | (simp only [sD, sE, sB, sC, sN, sM, sT, sF] at hq; try (exfalso; omega)) | skip)) | refine aI rfl rfl (nb rfl) rfl rfl rfl rfl (c1) ?_ | refine aI rfl rfl (nb rfl) rfl rfl rfl rfl (c2) ?_ | refine aI rfl rfl (nb rfl) rfl rfl rfl rfl (c3) ?_ | refine aU tabOk rfl rfl (nb rfl) rfl ?_) | (refine aN ?_;  first | refine aG ?_ | refine aQ ?_ | refine aT ?_ | refine aW ?_ | refine aA (b := false) rfl nFt (fun _ => ?_)) | (refine aJ ?_;  first | refine bB ?_))
        all_goals first
          | exact absurd rfl (by assumption)
          | (exfalso; omega)
          | (refine aX (by first | exact .inl rfl | exact .inr rfl) (bO rfl (aD rfl) (aD rfl)) rfl ?_; rfl)
    · rw [sY t hc h0] at hQ
      subst hQ
      rw [eN t h0] at c2
      refine aM Tryz.func7 rfl rfl (nb rfl) rfl ?_
      repeat' (first | refine aE ?_ | (refine aH ?_;  first | refine aC tabOk rfl rfl rfl (nb rfl) rfl ?_ | refine bD rfl rfl (nb rfl) ?_ | (refine aK rfl rfl rfl (nb rfl) rfl rfl rfl (fun hq => ?_) (fun hq => ?_) <;> (first | (simp only [sD, sE, sB, sC, sN, sM, sT, sF] at hq; try (exfalso; omega)) | skip)) | refine aI rfl rfl (nb rfl) rfl rfl rfl rfl (c1) ?_ | refine aI rfl rfl (nb rfl) rfl rfl rfl rfl (c2) ?_ | refine aU tabOk rfl rfl (nb rfl) rfl ?_) | (refine aN ?_;  first | refine aG ?_ | refine aQ ?_ | refine aT ?_ | refine aW ?_ | refine aA (b := true) rfl (fun _ => ?_) nTf | refine aA (b := false) rfl nFt (fun _ => ?_)) | (refine aJ ?_;  first | refine bB ?_ | refine aR ?_))
      all_goals first
        | exact absurd rfl (by assumption)
        | (refine aX (by first | exact .inl rfl | exact .inr rfl) (bO rfl (aD rfl) (aD rfl)) rfl ?_; rfl)
  · unfold sTransP at hQ
    rw [if_pos hc] at hQ
    subst hQ
    generalize checkP sformP t = C at *
    refine aM Tryz.func7 rfl rfl (nb rfl) rfl ?_
    repeat' (first | refine aE ?_ | (refine aH ?_;  first | refine aC tabOk rfl rfl rfl (nb rfl) rfl ?_ | (refine aK rfl rfl rfl (nb rfl) rfl rfl rfl (fun hq => ?_) (fun hq => ?_) <;> (first | (simp only [sD, sE, sB, sC, sN, sM, sT, sF] at hq; try (exfalso; omega)) | skip)) | refine aI rfl rfl (nb rfl) rfl rfl rfl rfl (c1) ?_) | (refine aN ?_;  first | refine aG ?_ | refine aQ ?_ | refine aT ?_ | refine aA (b := true) rfl (fun _ => ?_) nTf) | (refine aJ ?_;  first | refine aR ?_))
    all_goals first
      | exact absurd rfl (by assumption)
      | exact absurd (by assumption) hc
      | (refine aX (by first | exact .inl rfl | exact .inr rfl) (bO rfl (aD rfl) (aD rfl)) rfl ?_; rfl)
set_option maxHeartbeats 4000000 in
set_option maxRecDepth 10000 in
theorem zS (c : Tree) (hs : c.size ≤ 100000) : ACalls Tryz.prog 9 [.imm c.iv] [] (.imm (.tup [(sTokenP c).1.iv, .lit (.int .i64 (sTokenP c).2)])) [] := by
  have c1 := qK c (by omega)
  obtain ⟨Q, hQ⟩ : ∃ Q, sTokenP c = Q := ⟨_, rfl⟩
  rw [hQ]
  by_cases hc : checkP isConP c = 0
  · have c2 := pC c hc
    have c0 := pB
    have c4 := iK 130
    rw [hc] at c1
    by_cases h0 : (tokP c).2 = 0
    · rw [qN c hc h0] at hQ
      obtain ⟨g1, g2⟩ := fA c h0
      obtain ⟨px, hpx⟩ := dI (cS g1)
      have c3 := qJ (tokP c).1 g1 (by omega)
      have hnx : (tokT (tokP c).1).iv = conIV 139 2 [conIV 101 2 [conIV 100 0 [], conIV 100 0 []], conIV 134 2 [.ptr px 0, conIV 130 0 []]] := by
        unfold tokT
        rw [cW, Tree.ivs, Tree.ivs, Tree.ivs, dY, cW, Tree.ivs, Tree.ivs, Tree.ivs, cW, hpx]; rfl
      have c5 := eV 134 true 2 [.ptr px 0, conIV 130 0 []]
      have c6 := eV 139 true 2 [conIV 101 2 [conIV 100 0 [], conIV 100 0 []], conIV 134 2 [.ptr px 0, conIV 130 0 []]]
      rw [hpx] at c2 c3
      rw [dY] at c0
      by_cases hb : ((tokP c).1.size : Int) + 6 > 65536
      · rw [if_pos hb] at hQ
        subst hQ
        clear hnx
        generalize (tokP c).1.size = Z at *
        refine aM Tryz.func9 rfl rfl (nb rfl) rfl ?_
        repeat' (first | refine aE ?_ | (refine aH ?_;  first | refine aC tabOk rfl rfl rfl (nb rfl) rfl ?_ | (refine aK rfl rfl rfl (nb rfl) rfl rfl rfl (fun hq => ?_) (fun hq => ?_) <;> (first | (simp only [sD, sE, sB, sC, sN, sM, sT, sF] at hq; try (exfalso; omega)) | skip)) | refine aI rfl rfl (nb rfl) rfl rfl rfl rfl (c1) ?_ | refine aI rfl rfl (nb rfl) rfl rfl rfl rfl (c2) ?_ | refine aI rfl rfl (nb rfl) rfl rfl rfl rfl (c3) ?_ | refine cI (z := (Z : Int) + 6) rfl rfl rfl (nb rfl) rfl rfl rfl (by omega) (by omega) ?_ | refine aU tabOk rfl rfl (nb rfl) rfl ?_) | (refine aN ?_;  first | refine aG ?_ | refine aQ ?_ | refine aT ?_ | refine aW ?_ | refine aA (b := true) rfl (fun _ => ?_) nTf | refine aA (b := false) rfl nFt (fun _ => ?_)) | (refine aJ ?_;  first | refine bB ?_ | refine aR ?_))
        all_goals first
          | exact absurd rfl (by assumption)
          | (exfalso; omega)
          | (refine aX (by first | exact .inl rfl | exact .inr rfl) (bO rfl (aD rfl) (aD rfl)) rfl ?_; rfl)
      · rw [if_neg hb] at hQ
        subst hQ
        dsimp only
        rw [hnx]
        generalize (tokP c).1.size = Z at *
        unfold conIV at *
        refine aM Tryz.func9 rfl rfl (nb rfl) rfl ?_
        repeat' (first | refine aE ?_ | (refine aH ?_;  first | refine aC tabOk rfl rfl rfl (nb rfl) rfl ?_ | (refine aK rfl rfl rfl (nb rfl) rfl rfl rfl (fun hq => ?_) (fun hq => ?_) <;> (first | (simp only [sD, sE, sB, sC, sN, sM, sT, sF] at hq; try (exfalso; omega)) | skip)) | refine aI rfl rfl (nb rfl) rfl rfl rfl rfl (c1) ?_ | refine aI rfl rfl (nb rfl) rfl rfl rfl rfl (c2) ?_ | refine aI rfl rfl (nb rfl) rfl rfl rfl rfl (c3) ?_ | refine aI rfl rfl (nb rfl) rfl rfl rfl rfl (c0) ?_ | refine aI rfl rfl (nb rfl) rfl rfl rfl rfl (c4) ?_ | refine aI rfl rfl (nb rfl) rfl rfl rfl rfl (c5) ?_ | refine aI rfl rfl (nb rfl) rfl rfl rfl rfl (c6) ?_ | refine cI (z := (Z : Int) + 6) rfl rfl rfl (nb rfl) rfl rfl rfl (by omega) (by omega) ?_ | refine bV tabOk rfl rfl rfl (nb rfl) rfl rfl rfl rfl rfl rfl rfl rfl rfl ?_ | refine aU tabOk rfl rfl (nb rfl) rfl ?_) | (refine aN ?_;  first | refine aG ?_ | refine aQ ?_ | refine aT ?_ | refine aW ?_ | refine aA (b := false) rfl nFt (fun _ => ?_)) | (refine aJ ?_;  first | refine bB ?_))
        all_goals first
          | exact absurd rfl (by assumption)
          | (exfalso; omega)
          | (refine aX (by first | exact .inl rfl | exact .inr rfl) (bO rfl (aD rfl) (aD rfl)) rfl ?_; rfl)
    · rw [sZ c hc h0] at hQ
      subst hQ
      rw [((kN c).resolve_left h0).2] at c2
      refine aM Tryz.func9 rfl rfl (nb rfl) rfl ?_
      repeat' (first | refine aE ?_ | (refine aH ?_;  first | refine aC tabOk rfl rfl rfl (nb rfl) rfl ?_ | refine bD rfl rfl (nb rfl) ?_ | (refine aK rfl rfl rfl (nb rfl) rfl rfl rfl (fun hq => ?_) (fun hq => ?_) <;> (first | (simp only [sD, sE, sB, sC, sN, sM, sT, sF] at hq; try (exfalso; omega)) | skip)) | refine aI rfl rfl (nb rfl) rfl rfl rfl rfl (c1) ?_ | refine aI rfl rfl (nb rfl) rfl rfl rfl rfl (c2) ?_ | refine aU tabOk rfl rfl (nb rfl) rfl ?_) | (refine aN ?_;  first | refine aG ?_ | refine aQ ?_ | refine aT ?_ | refine aW ?_ | refine aA (b := true) rfl (fun _ => ?_) nTf | refine aA (b := false) rfl nFt (fun _ => ?_)) | (refine aJ ?_;  first | refine bB ?_ | refine aR ?_))
      all_goals first
        | exact absurd rfl (by assumption)
        | (refine aX (by first | exact .inl rfl | exact .inr rfl) (bO rfl (aD rfl) (aD rfl)) rfl ?_; rfl)
  · unfold sTokenP at hQ
    rw [if_pos hc] at hQ
    subst hQ
    generalize checkP isConP c = C at *
    refine aM Tryz.func9 rfl rfl (nb rfl) rfl ?_
    repeat' (first | refine aE ?_ | (refine aH ?_;  first | refine aC tabOk rfl rfl rfl (nb rfl) rfl ?_ | (refine aK rfl rfl rfl (nb rfl) rfl rfl rfl (fun hq => ?_) (fun hq => ?_) <;> (first | (simp only [sD, sE, sB, sC, sN, sM, sT, sF] at hq; try (exfalso; omega)) | skip)) | refine aI rfl rfl (nb rfl) rfl rfl rfl rfl (c1) ?_) | (refine aN ?_;  first | refine aG ?_ | refine aQ ?_ | refine aT ?_ | refine aA (b := true) rfl (fun _ => ?_) nTf) | (refine aJ ?_;  first | refine aR ?_))
    all_goals first
      | exact absurd rfl (by assumption)
      | exact absurd (by assumption) hc
      | (refine aX (by first | exact .inl rfl | exact .inr rfl) (bO rfl (aD rfl) (aD rfl)) rfl ?_; rfl)
end Go.Proofs.YtlbemgokilhdnaaGreatDoor.Ab
namespace Go.Proofs.YtlbemgokilhdnaaGreatDoor.Ab
set_option linter.unusedVariables false
set_option linter.unusedSimpArgs false
open Go.RowKit
attribute [local irreducible] AWP AOps AExit AThen ABlock ANoGoto FeetOk
set_option maxHeartbeats 8000000 in
set_option maxRecDepth 10000 in
theorem zT (k n : Int) (a b : ByteArray) (kids : List Tree) (label : ByteArray) (hw : Tree.wholes kids = true) (hl : kids.length < 1000000000) (hk : ∀ t ∈ kids, t.kind = 163 → ∃ n' a' b' c, t = .node 163 n' a' b' [c]) :
    ACalls Tryz.prog 40 [.imm (Tree.iv (.node k n a b kids)), .imm (.lit (.string label))] [] (.imm (fieldP label kids).1.iv) [] := by
  obtain ⟨Q, hQ⟩ : ∃ Q, fieldP label kids = Q := ⟨_, rfl⟩
  rw [hQ]
  refine aM Tryz.func40 rfl rfl (nb rfl) rfl ?_
  repeat' (first | refine aE ?_ | (refine aH ?_;  first | refine aC tabOk rfl rfl rfl (nb rfl) rfl ?_) | (refine aN ?_;  first | refine aG ?_ | refine aQ ?_ | refine aZ ?_))
  refine cB (ι := {j : Nat // j ≤ kids.length ∧ fieldP label (kids.drop j) = Q}) (fun j => S.f ⟨[(5, .imm (.lit (.int .i64 (j.1 : Int)))), (0, .imm (Tree.iv (.node k n a b kids))), (1, .imm (.lit (.string label)))], []⟩) (fun j => kids.length - j.1) ⟨0, Nat.zero_le _, hQ⟩ (bY (by repeat' first | exact trivial | refine ⟨rfl, ?_⟩) (by repeat' first | exact trivial | refine ⟨rfl, ?_⟩)) ?_
  rintro ⟨j, hj, hR⟩
  clear hQ
  dsimp only at hj hR ⊢
  by_cases hlt : j < kids.length
  · have hget := cA kids j hlt
    have hm := List.getElem_mem hlt
    have hwm := bM hw hm
    rw [List.drop_eq_getElem_cons hlt, fieldP] at hR
    have hkm := hk _ hm
    clear hk hw
    generalize kids[j] = t at *
    by_cases h163 : t.kind = 163
    · obtain ⟨n', a', b', c, rfl⟩ := hkm h163
      have e : isLab label (.node 163 n' a' b' [c]) = eqB a' label := by
        show (decide ((163 : Int) = 163) && eqB a' label) = _
        simp
      rw [e] at hR
      cases he : eqB a' label with
      | true =>
        rw [he, if_pos rfl] at hR
        subst hR
        dsimp only [kid0]
        unfold eqB at he
        rw [beq_iff_eq] at he
        clear hkm
        repeat' (first | refine aE ?_ | (refine aH ?_;  first | refine aC tabOk rfl rfl rfl (nb rfl) rfl ?_ | (refine aK rfl rfl rfl (nb rfl) rfl rfl rfl (fun hq => ?_) (fun hq => ?_) <;> (first | (simp only [sD, sE, sB, sC, sN, sM, sT, sF] at hq; try (exfalso; omega)) | skip)) | refine aY tabOk rfl rfl rfl (nb rfl) rfl rfl rfl hget ?_ | refine bK rfl rfl rfl (nb rfl) rfl rfl (by omega) ?_ | refine aU tabOk rfl rfl (nb rfl) rfl ?_ | refine bF tabOk rfl rfl rfl (nb rfl) rfl rfl rfl rfl (by first | assumption | omega) ?_ | refine bI tabOk rfl rfl rfl (nb rfl) rfl rfl rfl rfl (by first | rfl | omega) (by first | omega | simp) ?_) | (refine aN ?_;  first | refine aG ?_ | refine aQ ?_ | refine bE ?_ | refine aZ ?_ | refine aT ?_ | refine aW ?_ | refine aA (b := true) rfl (fun _ => ?_) nTf | refine aA (b := false) rfl nFt (fun _ => ?_)) | (refine aJ ?_;  first | refine bB ?_ | refine aR ?_) | (refine bA ?_;  first | refine bR ?_ | refine bG ?_))
        all_goals first
          | exact absurd rfl (by assumption)
          | exact absurd he (by assumption)
          | (exfalso; omega)
          | (refine aX (by first | exact .inl rfl | exact .inr rfl) (aV rfl (aD rfl)) rfl ?_; rfl)
      | false =>
        rw [he, if_neg (by simp)] at hR
        unfold eqB at he
        rw [beq_eq_false_iff_ne] at he
        clear hkm
        repeat' (first | refine aE ?_ | (refine aH ?_;  first | refine aC tabOk rfl rfl rfl (nb rfl) rfl ?_ | (refine aK rfl rfl rfl (nb rfl) rfl rfl rfl (fun hq => ?_) (fun hq => ?_) <;> (first | (simp only [sD, sE, sB, sC, sN, sM, sT, sF] at hq; try (exfalso; omega)) | skip)) | refine aY tabOk rfl rfl rfl (nb rfl) rfl rfl rfl hget ?_ | refine bK rfl rfl rfl (nb rfl) rfl rfl (by omega) ?_ | refine aU tabOk rfl rfl (nb rfl) rfl ?_ | refine bF tabOk rfl rfl rfl (nb rfl) rfl rfl rfl rfl (by first | assumption | omega) ?_ | refine bI tabOk rfl rfl rfl (nb rfl) rfl rfl rfl rfl (by first | rfl | omega) (by first | omega | simp) ?_) | (refine aN ?_;  first | refine aG ?_ | refine aQ ?_ | refine bE ?_ | refine aZ ?_ | refine aT ?_ | refine aW ?_ | refine aA (b := true) rfl (fun _ => ?_) nTf | refine aA (b := false) rfl nFt (fun _ => ?_)) | (refine aJ ?_;  first | refine bB ?_ | refine aR ?_) | (refine bA ?_;  first | refine bR ?_ | refine bG ?_))
        all_goals first
          | exact absurd rfl (by assumption)
          | exact absurd (by assumption) he
          | (exfalso; omega)
          | exact ⟨⟨j + 1, hlt, hR⟩, (by show kids.length - (j + 1) < kids.length - j; omega), (bY (by repeat' first | exact trivial | refine ⟨rfl, ?_⟩) (by repeat' first | exact trivial | refine ⟨rfl, ?_⟩))⟩
    · obtain ⟨kk, n', a', b', ks, rfl⟩ := cM hwm
      change kk ≠ 163 at h163
      have e : isLab label (.node kk n' a' b' ks) = false := by
        show (decide (kk = 163) && eqB a' label) = false
        simp [h163]
      rw [e, if_neg (by simp)] at hR
      clear hkm
      repeat' (first | refine aE ?_ | (refine aH ?_;  first | refine aC tabOk rfl rfl rfl (nb rfl) rfl ?_ | refine bD rfl rfl (nb rfl) ?_ | (refine aK rfl rfl rfl (nb rfl) rfl rfl rfl (fun hq => ?_) (fun hq => ?_) <;> (first | (simp only [sD, sE, sB, sC, sN, sM, sT, sF] at hq; try (exfalso; omega)) | skip)) | refine aY tabOk rfl rfl rfl (nb rfl) rfl rfl rfl hget ?_ | refine bK rfl rfl rfl (nb rfl) rfl rfl (by omega) ?_ | refine aU tabOk rfl rfl (nb rfl) rfl ?_ | refine bF tabOk rfl rfl rfl (nb rfl) rfl rfl rfl rfl (by first | assumption | omega) ?_) | (refine aN ?_;  first | refine aG ?_ | refine aQ ?_ | refine bE ?_ | refine aZ ?_ | refine aW ?_ | refine aA (b := true) rfl (fun _ => ?_) nTf | refine aA (b := false) rfl nFt (fun _ => ?_)) | (refine aJ ?_;  first | refine bB ?_) | (refine bA ?_;  first | refine bR ?_))
      all_goals first
        | exact absurd (by assumption) h163
        | (exfalso; omega)
        | exact ⟨⟨j + 1, hlt, hR⟩, (by show kids.length - (j + 1) < kids.length - j; omega), (bY (by repeat' first | exact trivial | refine ⟨rfl, ?_⟩) (by repeat' first | exact trivial | refine ⟨rfl, ?_⟩))⟩
  · have ej : j = kids.length := by omega
    subst ej
    rw [List.drop_length, fieldP] at hR
    subst hR
    repeat' (first | refine aE ?_ | (refine aH ?_;  first | refine aC tabOk rfl rfl rfl (nb rfl) rfl ?_ | (refine aK rfl rfl rfl (nb rfl) rfl rfl rfl (fun hq => ?_) (fun hq => ?_) <;> (first | (simp only [sD, sE, sB, sC, sN, sM, sT, sF] at hq; try (exfalso; omega)) | skip)) | refine aU tabOk rfl rfl (nb rfl) rfl ?_) | (refine aN ?_;  first | refine aG ?_ | refine aQ ?_ | refine aT ?_ | refine bS ?_ | refine aA (b := false) rfl nFt (fun _ => ?_)) | (refine aJ ?_;  first | refine bB ?_ | refine bJ ?_) | (refine bA ?_;  first | refine bH ?_))
    all_goals first
      | (exfalso; omega)
      | (refine aX (by first | exact .inl rfl | exact .inr rfl) (aV rfl (aD rfl)) rfl ?_; rfl)
mutual
/-- Is a constructor in it too large? -/
def bigP : Tree → Bool
  | .nil => false
  | .node k n a b kids => if k < 160 then decide (((Tree.node k n a b kids).size : Int) > 512) else bigPs kids
def bigPs : List Tree → Bool
  | [] => false
  | t :: ts => bigP t || bigPs ts
end
theorem xN (t : Tree) : ∀ d, (swalkP smallC t d).2 = if bigP t = true then 3 else 0 := by
  induction t using Tree.ind with
  | h1 => intro d; rw [swalkP, bigP]; rfl
  | h2 k n a b kids ih =>
    intro d
    rw [swalkP, bigP]
    by_cases hk : k < 160
    · rw [if_pos hk, if_pos hk]
      unfold smallC
      by_cases h : ((Tree.node k n a b kids).size : Int) > 512
      · rw [if_pos h, if_pos (by simpa using h)]
      · rw [if_neg h, if_neg (by simpa using h)]
    · rw [if_neg hk, if_neg hk]
      have key : ∀ l : List Tree, (∀ t ∈ l, t ∈ kids) → ∀ d, (swalkPs smallC l d).2 = if bigPs l = true then 3 else 0 := by
        intro l
        induction l with
        | nil => intro _ d; rw [swalkPs, bigPs]; rfl
        | cons t ts ih2 =>
          intro hm d
          rw [swalkPs, bigPs, ih t (hm t (by simp)) d, ih2 (fun t' h' => hm t' (by simp [h'])) d]
          cases bigP t <;> cases bigPs ts <;> rfl
      rw [key kids (fun _ h => h)]
      cases bigPs kids <;> rfl
set_option maxHeartbeats 8000000 in
set_option maxRecDepth 10000 in
theorem zU (t : Tree) : t.whole = true → t.size ≤ 1000000 → ACalls Tryz.prog 50 [.imm t.iv] [] (.imm (.lit (.bool (bigP t)))) [] := by
  induction t using Tree.ind with
  | h1 => intro h; simp [Tree.whole] at h
  | h2 k n a b kids ih =>
    intro hw hs
    have cs := qJ (.node k n a b kids) hw hs
    obtain ⟨Q, hQ⟩ : ∃ Q, bigP (.node k n a b kids) = Q := ⟨_, rfl⟩
    rw [hQ]
    rw [bigP] at hQ
    have hl := cE kids hw
    have hsz : (Tree.node k n a b kids).size = 1 + Tree.sizes kids := by rw [Tree.size]
    by_cases hk : k < 160
    · rw [if_pos hk] at hQ
      clear ih hsz
      generalize ((Tree.node k n a b kids).size : Int) = Z at *
      refine aM Tryz.func50 rfl rfl (nb rfl) rfl ?_
      repeat' (first | refine aE ?_ | (refine aH ?_;  first | refine aC tabOk rfl rfl rfl (nb rfl) rfl ?_ | (refine aK rfl rfl rfl (nb rfl) rfl rfl rfl (fun hq => ?_) (fun hq => ?_) <;> (first | (simp only [sD, sE, sB, sC, sN, sM, sT, sF] at hq; try (exfalso; omega)) | skip)) | refine aI rfl rfl (nb rfl) rfl rfl rfl rfl (cs) ?_) | (refine aN ?_;  first | refine aG ?_ | refine aQ ?_ | refine aT ?_ | refine aA (b := true) rfl (fun _ => ?_) nTf) | (refine aJ ?_;  first | refine aR ?_))
      all_goals first
        | (exfalso; omega)
        | (refine aX (by first | exact .inl rfl | exact .inr rfl) (aV rfl (aD rfl)) rfl ?_; refine cH ?_; subst hQ; simp_all; done)
        | (refine aX (by first | exact .inl rfl | exact .inr rfl) (aV rfl (aD rfl)) rfl ?_; refine cH ?_; subst hQ; simp_all; omega)
    · rw [if_neg hk] at hQ
      clear cs
      refine aM Tryz.func50 rfl rfl (nb rfl) rfl ?_
      repeat' (first | refine aE ?_ | (refine aH ?_;  first | refine aC tabOk rfl rfl rfl (nb rfl) rfl ?_ | (refine aK rfl rfl rfl (nb rfl) rfl rfl rfl (fun hq => ?_) (fun hq => ?_) <;> (first | (simp only [sD, sE, sB, sC, sN, sM, sT, sF] at hq; try (exfalso; omega)) | skip))) | (refine aN ?_;  first | refine aG ?_ | refine aQ ?_ | refine aZ ?_ | refine aW ?_ | refine aA (b := false) rfl nFt (fun _ => ?_)) | (refine aJ ?_;  first | refine bB ?_))
      all_goals first
        | exact absurd (by assumption) hk
        | (exfalso; omega)
        | skip
      refine cB (ι := {j : Nat // j ≤ kids.length ∧ bigPs (kids.drop j) = Q}) (fun j => S.f ⟨[(3, .imm (.lit (.int .i64 (j.1 : Int)))), (0, .imm (Tree.iv (.node k n a b kids)))], []⟩) (fun j => kids.length - j.1) ⟨0, Nat.zero_le _, hQ⟩ (bY (by repeat' first | exact trivial | refine ⟨rfl, ?_⟩) (by repeat' first | exact trivial | refine ⟨rfl, ?_⟩)) ?_
      rintro ⟨j, hj, hR⟩
      clear hQ
      dsimp only at hj hR ⊢
      by_cases hlt : j < kids.length
      · have hget := cA kids j hlt
        have hm := List.getElem_mem hlt
        have hz := dO hm
        have hc := ih _ hm (bM hw hm) (by omega)
        rw [List.drop_eq_getElem_cons hlt, bigPs] at hR
        clear ih
        cases hb : bigP kids[j] with
        | true =>
          rw [hb] at hc hR
          rw [Bool.true_or] at hR
          subst hR
          repeat' (first | refine aE ?_ | (refine aH ?_;  first | refine aC tabOk rfl rfl rfl (nb rfl) rfl ?_ | (refine aK rfl rfl rfl (nb rfl) rfl rfl rfl (fun hq => ?_) (fun hq => ?_) <;> (first | (simp only [sD, sE, sB, sC, sN, sM, sT, sF] at hq; try (exfalso; omega)) | skip)) | refine aY tabOk rfl rfl rfl (nb rfl) rfl rfl rfl hget ?_ | refine aI rfl rfl (nb rfl) rfl rfl rfl rfl (hc) ?_ | refine aU tabOk rfl rfl (nb rfl) rfl ?_ | refine bF tabOk rfl rfl rfl (nb rfl) rfl rfl rfl rfl (by first | assumption | omega) ?_) | (refine aN ?_;  first | refine aG ?_ | refine aQ ?_ | refine aZ ?_ | refine aT ?_ | refine aW ?_ | refine aA (b := true) rfl (fun _ => ?_) nTf) | (refine aJ ?_;  first | refine bB ?_ | refine aR ?_) | (refine bA ?_;  first | refine bG ?_))
          all_goals first
            | (exfalso; omega)
            | (refine aX (by first | exact .inl rfl | exact .inr rfl) (aV rfl (aD rfl)) rfl ?_; rfl)
        | false =>
          rw [hb] at hc hR
          rw [Bool.false_or] at hR
          repeat' (first | refine aE ?_ | (refine aH ?_;  first | refine aC tabOk rfl rfl rfl (nb rfl) rfl ?_ | (refine aK rfl rfl rfl (nb rfl) rfl rfl rfl (fun hq => ?_) (fun hq => ?_) <;> (first | (simp only [sD, sE, sB, sC, sN, sM, sT, sF] at hq; try (exfalso; omega)) | skip)) | refine aY tabOk rfl rfl rfl (nb rfl) rfl rfl rfl hget ?_ | refine aI rfl rfl (nb rfl) rfl rfl rfl rfl (hc) ?_ | refine bK rfl rfl rfl (nb rfl) rfl rfl (by omega) ?_ | refine aU tabOk rfl rfl (nb rfl) rfl ?_ | refine bF tabOk rfl rfl rfl (nb rfl) rfl rfl rfl rfl (by first | assumption | omega) ?_) | (refine aN ?_;  first | refine aG ?_ | refine aQ ?_ | refine bE ?_ | refine aZ ?_ | refine aW ?_ | refine aA (b := true) rfl (fun _ => ?_) nTf | refine aA (b := false) rfl nFt (fun _ => ?_)) | (refine aJ ?_;  first | refine bB ?_) | (refine bA ?_;  first | refine bR ?_))
          all_goals first
            | (exfalso; omega)
            | exact ⟨⟨j + 1, hlt, hR⟩, (by show kids.length - (j + 1) < kids.length - j; omega), (bY (by repeat' first | exact trivial | refine ⟨rfl, ?_⟩) (by repeat' first | exact trivial | refine ⟨rfl, ?_⟩))⟩
      · have ej : j = kids.length := by omega
        subst ej
        rw [List.drop_length, bigPs] at hR
        subst hR
        repeat' (first | refine aE ?_ | (refine aH ?_;  first | refine aC tabOk rfl rfl rfl (nb rfl) rfl ?_ | (refine aK rfl rfl rfl (nb rfl) rfl rfl rfl (fun hq => ?_) (fun hq => ?_) <;> (first | (simp only [sD, sE, sB, sC, sN, sM, sT, sF] at hq; try (exfalso; omega)) | skip)) | refine aU tabOk rfl rfl (nb rfl) rfl ?_) | (refine aN ?_;  first | refine aG ?_ | refine aQ ?_ | refine aT ?_ | refine bS ?_ | refine aA (b := false) rfl nFt (fun _ => ?_)) | (refine aJ ?_;  first | refine bB ?_ | refine bJ ?_) | (refine bA ?_;  first | refine bH ?_))
        all_goals first
          | (exfalso; omega)
          | (refine aX (by first | exact .inl rfl | exact .inr rfl) (aV rfl (aD rfl)) rfl ?_; rfl)
set_option maxHeartbeats 4000000 in
set_option maxRecDepth 10000 in
theorem zV (t : Tree) (hw : t = .nil ∨ t.whole = true) (hs : t.size ≤ 65536) : ACalls Tryz.prog 17 [.imm t.iv] [] (.imm (.lit (.int .i64 (ssmallP t)))) [] := by
  have c1 := eM t hw hs
  unfold ssmallP
  by_cases hc : checkP sformP t = 0
  · rw [if_neg (by simpa using hc)]
    obtain ⟨hw, hz, hf⟩ := cK hc
    have c2 := zU t hw (by omega)
    rw [hc] at c1
    rw [xN]
    cases hb : bigP t <;>
    (rw [hb] at c2
     refine aM Tryz.func17 rfl rfl (nb rfl) rfl ?_
     repeat' (first | refine aE ?_ | (refine aH ?_;  first | refine aC tabOk rfl rfl rfl (nb rfl) rfl ?_ | (refine aK rfl rfl rfl (nb rfl) rfl rfl rfl (fun hq => ?_) (fun hq => ?_) <;> (first | (simp only [sD, sE, sB, sC, sN, sM, sT, sF] at hq; try (exfalso; omega)) | skip)) | refine aI rfl rfl (nb rfl) rfl rfl rfl rfl (c1) ?_ | refine aI rfl rfl (nb rfl) rfl rfl rfl rfl (c2) ?_) | (refine aN ?_;  first | refine aG ?_ | refine aQ ?_ | refine aT ?_ | refine aW ?_ | refine aA (b := true) rfl (fun _ => ?_) nTf | refine aA (b := false) rfl nFt (fun _ => ?_)) | (refine aJ ?_;  first | refine bB ?_ | refine aR ?_))
     all_goals first
       | exact absurd rfl (by assumption)
       | (refine aX (by first | exact .inl rfl | exact .inr rfl) (aV rfl (aD rfl)) rfl ?_; rfl))
  · rw [if_pos hc]
    generalize checkP sformP t = C at *
    refine aM Tryz.func17 rfl rfl (nb rfl) rfl ?_
    repeat' (first | refine aE ?_ | (refine aH ?_;  first | refine aC tabOk rfl rfl rfl (nb rfl) rfl ?_ | (refine aK rfl rfl rfl (nb rfl) rfl rfl rfl (fun hq => ?_) (fun hq => ?_) <;> (first | (simp only [sD, sE, sB, sC, sN, sM, sT, sF] at hq; try (exfalso; omega)) | skip)) | refine aI rfl rfl (nb rfl) rfl rfl rfl rfl (c1) ?_) | (refine aN ?_;  first | refine aG ?_ | refine aQ ?_ | refine aT ?_ | refine aA (b := true) rfl (fun _ => ?_) nTf) | (refine aJ ?_;  first | refine aR ?_))
    all_goals first
      | exact absurd rfl (by assumption)
      | exact absurd (by assumption) hc
      | (refine aX (by first | exact .inl rfl | exact .inr rfl) (aV rfl (aD rfl)) rfl ?_; rfl)
def sSameP (a b : Tree) : Bool := decide (checkP sformP a = 0) && decide (checkP sformP b = 0) && sameP a b
set_option maxHeartbeats 4000000 in
set_option maxRecDepth 10000 in
theorem vY (a b : Tree) (ha : a = .nil ∨ a.whole = true) (hb : b = .nil ∨ b.whole = true) (hsa : a.size ≤ 65536) (hsb : b.size ≤ 65536) : ACalls Tryz.prog 18 [.imm a.iv, .imm b.iv] [] (.imm (.lit (.bool (sSameP a b)))) [] := by
  have c1 := eL a (by omega)
  have c2 := eL b (by omega)
  have c3 := aBn a b ha hb (by omega) (by omega)
  unfold sSameP
  generalize checkP sformP a = A at *
  generalize checkP sformP b = B at *
  generalize sameP a b = C at *
  refine aM Tryz.func18 rfl rfl (nb rfl) rfl ?_
  repeat' (first | refine aE ?_ | (refine aH ?_;  first | refine aC tabOk rfl rfl rfl (nb rfl) rfl ?_ | refine bD rfl rfl (nb rfl) ?_ | (refine aK rfl rfl rfl (nb rfl) rfl rfl rfl (fun hq => ?_) (fun hq => ?_) <;> (first | (simp only [sD, sE, sB, sC, sN, sM, sT, sF] at hq; try (exfalso; omega)) | skip)) | refine aI rfl rfl (nb rfl) rfl rfl rfl rfl (c1) ?_ | refine aI rfl rfl (nb rfl) rfl rfl rfl rfl (c2) ?_ | refine aI rfl rfl (nb rfl) rfl rfl rfl rfl (c3) ?_) | (refine aN ?_;  first | refine aG ?_ | refine aT ?_))
  all_goals (refine aX (by first | exact .inl rfl | exact .inr rfl) (aV rfl (aD rfl)) rfl ?_; refine cH ?_; simp_all)
set_option maxHeartbeats 4000000 in
set_option maxRecDepth 10000 in
theorem pE (a b : Tree) (ha : a = .nil ∨ a.whole = true) (hb : b = .nil ∨ b.whole = true) (hsa : a.size ≤ 65536) (hsb : b.size ≤ 65536) : ACalls Tryz.prog 19 [.imm a.iv, .imm b.iv] [] (.imm (.lit (.bool (sSameP a b)))) [] := by
  have c1 := eM a ha hsa
  have c2 := eM b hb hsb
  have c3 := mD a b ha hb (by omega) (by omega)
  unfold sSameP
  generalize checkP sformP a = A at *
  generalize checkP sformP b = B at *
  generalize sameP a b = C at *
  refine aM Tryz.func19 rfl rfl (nb rfl) rfl ?_
  repeat' (first | refine aE ?_ | (refine aH ?_;  first | refine aC tabOk rfl rfl rfl (nb rfl) rfl ?_ | refine bD rfl rfl (nb rfl) ?_ | (refine aK rfl rfl rfl (nb rfl) rfl rfl rfl (fun hq => ?_) (fun hq => ?_) <;> (first | (simp only [sD, sE, sB, sC, sN, sM, sT, sF] at hq; try (exfalso; omega)) | skip)) | refine aI rfl rfl (nb rfl) rfl rfl rfl rfl (c1) ?_ | refine aI rfl rfl (nb rfl) rfl rfl rfl rfl (c2) ?_ | refine aI rfl rfl (nb rfl) rfl rfl rfl rfl (c3) ?_) | (refine aN ?_;  first | refine aG ?_ | refine aT ?_))
  all_goals (refine aX (by first | exact .inl rfl | exact .inr rfl) (aV rfl (aD rfl)) rfl ?_; refine cH ?_; simp_all)
end Go.Proofs.YtlbemgokilhdnaaGreatDoor.Ab
