/- Words, walks and laws under the claim's statement: what it uses of them. No condition of its own. -/
import Derived.Test.YtlbemgokilhdnaaGreatMTL0
import Derived.Sort.Walk0
import Derived.Test.YtlbemgokilhdnaaGreatMTAb1
import Derived.Test.YtlbemgokilhdnaaGreatMTAb0
namespace Go.Proofs.YtlbemgokilhdnaaGreat.Ab
set_option linter.unusedVariables false
set_option linter.unusedSimpArgs false
attribute [local irreducible] AWP AOps AExit AThen ABlock ANoGoto FeetOk
theorem uD (f : FuncId) (l : List Tree) : kidsP l false [(f, isTermP)] = isT_t l := by
  rcases l with _ | ⟨x, _ | ⟨y, r⟩⟩ <;> simp [kidsP, formsP, isT_t]
def labelledP (l : List Tree) (kind : Int) (rise : Bool) : Bool := fieldsP l kind && distinctP l && (!rise || steadyP l)
theorem aAw (a : ByteArray) : Op.bytesLess a.toList emptyB.toList = false := by
  have : emptyB.toList = [] := by rw [ByteArray.toList_eq]; rfl
  rw [this]
  cases a.toList <;> rfl
set_option maxHeartbeats 8000000 in
set_option maxRecDepth 10000 in
theorem mO (l : List Tree) (kind : Int) (rise : Bool) (h : Tree.wholes l = true) (hsz : Tree.sizes l ≤ 100000000)
    (ht : ∀ t', t'.size < Tree.sizes l → t'.whole = true → ACalls Tryz.prog 50 [.imm t'.iv] [] (.imm (.lit (.bool (isTermP t')))) []) :
    ACalls Tryz.prog 87 [.imm (.sl false l.length (Tree.ivs l)), .imm (.lit (.int .i64 kind)), .imm (.lit (.bool rise))] [] (.imm (.lit (.bool (labelledP l kind rise)))) [] := by
  have hl : l.length < 1000000000 := by have := cE l h; omega
  refine aI Tryz.func87 rfl rfl (nb rfl) rfl ?_
  repeat' (first | refine aF ?_ | (refine aH ?_;  first | refine aC tabOk rfl rfl rfl (nb rfl) rfl ?_ | refine mG rfl rfl rfl (nb rfl) rfl rfl rfl ?_ | refine aV tabOk rfl rfl (nb rfl) rfl ?_) | (refine aL ?_;  first | refine aG ?_ | refine aM ?_ | refine aS ?_))
  refine cD (ι := {p : Nat × List (ByteArray × IV) × ByteArray // p.1 ≤ l.length ∧ p.2.1 = seenL (l.take p.1) ∧ (p.1 = 0 → p.2.2 = emptyB) ∧ (∀ i (hi : i < l.length), i + 1 = p.1 → p.2.2 = l[i].name) ∧ (∀ i (hi : i < l.length), i < p.1 → okField kind l[i] = true) ∧
      (∀ i i' (h1 : i < i') (h2 : i' < l.length), i' < p.1 → eqB l[i'].name (l[i]'(by omega)).name = false) ∧ (rise = true → ∀ i (hi : i + 1 < l.length), i + 1 < p.1 → ltB l[i + 1].name (l[i]'(by omega)).name = false)})
    (fun p => S.f ⟨[(14, .imm (.lit (.int .i64 (p.1.1 : Int)))), (13, .imm (.lit (.int .i64 (l.length : Int)))), (12, .imm (.sl false l.length (Tree.ivs l))), (7, .mp 11), (8, .imm (.lit (.string p.1.2.2))), (1, .imm (.lit (.int .i64 kind))), (2, .imm (.lit (.bool rise)))], [(11, .map p.1.2.1)]⟩) (fun p => l.length - p.1.1)
    ⟨(0, [], emptyB), Nat.zero_le _, rfl, fun _ => rfl, fun i _ hi => by omega, fun i _ hi => absurd hi (Nat.not_lt_zero _), fun i i' _ _ hi => absurd hi (Nat.not_lt_zero _), fun _ i _ hi => absurd hi (Nat.not_lt_zero _)⟩ (bU (by repeat' first | exact trivial | refine ⟨rfl, ?_⟩) (by repeat' first | exact trivial | refine ⟨rfl, ?_⟩)) ?_
  rintro ⟨⟨j, ml, last⟩, hj, hs, hlast0, hlast, hok, hdi, hst⟩
  dsimp only at hj hs hlast0 hlast hok hdi hst ⊢
  by_cases hlt : j < l.length
  · obtain ⟨k1, n1, a1, b1, ks1, e1, hget, hw1⟩ := lK h hlt
    have hb := rW (l.take j) a1
    rw [← hs] at hb
    have hno : ((l.take j).any fun u => eqB u.name a1) = false → mget ml a1 = none := fun h => by rw [hs]; exact rX h
    have hm1 := cR (List.getElem_mem hlt)
    rw [e1] at hm1
    have hl1 : ks1.length < 1000000000 := by have := cE ks1 hw1; simp only [Tree.size] at hm1; omega
    have hf : ∀ i (hi : i < [((50 : FuncId), isTermP)].length) (hk : i < ks1.length), ACalls Tryz.prog [((50 : FuncId), isTermP)][i].1 [.imm ks1[i].iv] [] (.imm (.lit (.bool ([((50 : FuncId), isTermP)][i].2 ks1[i])))) [] := fun i hi hk => by
      have : i = 0 := by simpa using hi
      subst this
      have h2 := bN (k := k1) (n := n1) (a := a1) (b := b1) (List.getElem_mem hk)
      exact ht _ (by omega) (bC hw1 (List.getElem_mem hk))
    have hmeet : ((l.take j).any fun u => eqB u.name a1) = true → labelledP l kind rise = false := fun h => by
      rw [Bool.eq_false_iff]
      intro hd
      simp only [labelledP, Bool.and_eq_true] at hd
      have hd := (dW _).1 hd.1.2
      rw [List.any_eq_true] at h
      obtain ⟨u, hu, hub⟩ := h
      obtain ⟨i, hi, rfl⟩ := List.getElem_of_mem hu
      simp only [List.length_take] at hi
      have h2 := hd i j (by omega) hlt
      rw [e1] at h2
      simp only [List.getElem_take] at hub
      rw [(cZ _ _).1 hub] at h2
      have h3 := (cZ a1 a1).2 rfl
      rw [show Tree.name (Tree.node k1 n1 a1 b1 ks1) = a1 from rfl, h3] at h2
      cases h2
    have hnext : ((l.take j).any fun u => eqB u.name a1) = false → ∀ i i' (h1 : i < i') (h2 : i' < l.length), i' < j + 1 → eqB l[i'].name (l[i]'(by omega)).name = false := fun h i i' h1 h2 h3 => by
      by_cases e : i' = j
      · subst e
        rw [List.any_eq_false] at h
        have := h l[i] (List.mem_iff_getElem.2 ⟨i, by simp; omega, by simp⟩)
        rw [e1]
        rw [Bool.eq_false_iff]
        intro hc
        exact this ((cZ _ _).2 ((cZ _ _).1 hc).symm)
      · exact hdi i i' h1 h2 (by omega)
    have hlast1 : ∀ i (hi : i < l.length), i + 1 = j + 1 → a1 = l[i].name := fun i hi hij => by
      have : i = j := by omega
      subst this
      rw [e1]; rfl
    have hbad : okField kind (Tree.node k1 n1 a1 b1 ks1) = false → labelledP l kind rise = false := fun hb => by
      simp only [labelledP, gS, gO hlt (by rw [e1]; exact hb), Bool.false_and]
    have hgood : okField kind (Tree.node k1 n1 a1 b1 ks1) = true → ∀ i (hi : i < l.length), i < j + 1 → okField kind l[i] = true := fun hgb i hi hij => by
      by_cases e : i = j
      · subst e; rw [e1]; exact hgb
      · exact hok i hi (by omega)
    have hfall : rise = true → Op.bytesLess a1.toList last.toList = true → labelledP l kind rise = false := fun hr hb => by
      rw [Bool.eq_false_iff]
      intro hd
      simp only [labelledP, Bool.and_eq_true, hr, Bool.not_true, Bool.false_or] at hd
      by_cases hj0 : j = 0
      · rw [hlast0 hj0, aAw] at hb; cases hb
      · have h2 := (gR _).1 hd.2 (j - 1) (by omega)
        have x1 : l[j - 1 + 1]'(by omega) = Tree.node k1 n1 a1 b1 ks1 := by simpa only [show j - 1 + 1 = j by omega] using e1
        rw [x1, ← hlast (j - 1) (by omega) (by omega)] at h2
        have h3 : Op.bytesLess a1.toList last.toList = false := h2
        rw [h3] at hb; cases hb
    have hrise : (rise = true → Op.bytesLess a1.toList last.toList = false) → rise = true → ∀ i (hi : i + 1 < l.length), i + 1 < j + 1 → ltB l[i + 1].name (l[i]'(by omega)).name = false := fun hb hr i hi hij => by
      by_cases e : i + 1 = j
      · have x1 : l[i + 1] = Tree.node k1 n1 a1 b1 ks1 := by simpa only [e] using e1
        rw [x1, ← hlast i (by omega) e]
        exact hb hr
      · exact hst hr i hi (by omega)
    repeat' (first | refine aF ?_ | (refine aH ?_;  first | refine aC tabOk rfl rfl rfl (nb rfl) rfl ?_ | refine bO rfl rfl (nb rfl) ?_ | (refine aJ rfl rfl rfl (nb rfl) rfl rfl rfl (fun hq => ?_) (fun hq => ?_) <;> (first | (simp only [sD, sE, sB, sC, sN, sM, sT, sF] at hq; try (exfalso; omega)) | skip)) | (refine mH tabOk rfl rfl rfl (nb rfl) rfl rfl rfl rfl rfl rfl rfl rfl (hb) (fun hq => ?_) (fun hq => ?_)) | refine rK tabOk rfl rfl rfl (nb rfl) rfl rfl rfl rfl rfl rfl rfl rfl (hno (by assumption)) ?_ | refine rL rfl rfl rfl rfl rfl rfl rfl rfl rfl ?_ | (refine bS rfl rfl rfl (nb rfl) rfl rfl rfl (qH _) (fun hq => ?_) (fun hq => ?_)) | (refine bS rfl rfl rfl (nb rfl) rfl rfl rfl (eZ _ _ _ _ _ false [((50 : FuncId), isTermP)] (by decide) hl1 hf) (fun hq => ?_) (fun hq => ?_)) | refine bQ rfl rfl rfl (nb rfl) rfl rfl (by omega) ?_ | refine bY tabOk rfl rfl rfl (nb rfl) rfl rfl rfl rfl rfl rfl rfl rfl rfl ?_ | refine bF tabOk rfl rfl rfl (nb rfl) rfl rfl rfl rfl (by first | assumption | omega) ?_ | refine bE tabOk rfl rfl rfl (nb rfl) rfl rfl rfl (by assumption) ?_ | ((fail_if_success (refine cY (b := true) rfl rfl rfl ?_)); (fail_if_success (refine cY (b := false) rfl rfl rfl ?_)); refine dR rfl rfl rfl (fun hq => ?_) (fun hq => ?_) <;> first | subst hq | (first | (simp only [sD, sE, sB, sC, sN, sM, sT, sF] at hq; try (exfalso; omega)) | skip))) | (refine aL ?_;  first | refine aG ?_ | refine aM ?_ | refine bI ?_ | refine aS ?_ | refine aN ?_ | refine aT ?_ | refine aE (b := true) rfl (fun _ => ?_) nTf | refine aE (b := false) rfl nFt (fun _ => ?_) | refine aQ mixed (by kernel_rfl) ?_) | (refine aK ?_;  first | refine aU ?_ | refine aO ?_) | (refine aR ?_;  first | refine bP ?_ | refine aZ ?_) | refine bD (bB (by kernel_rfl)) ?_)
    all_goals first
      | (refine aP (by first | exact .inl rfl | exact .inr rfl) (aX rfl (aB rfl)) rfl ?_; refine cJ ?_; symm; first
          | exact hmeet (by assumption)
          | exact hfall rfl (by assumption)
          | (refine hbad ?_; simp_all [okField, uD, eqB, emptyB]; done))
      | exact ⟨⟨(j + 1, ml ++ [(a1, .lit (.bool true))], a1), hlt, (hs ▸ rY l _ j hlt e1), (fun h => by cases h), hlast1,
          hgood (by simp_all [okField, uD, eqB, emptyB]), hnext (by assumption), hrise (by first | (intro _; assumption) | (intro h; cases h))⟩, (by show l.length - (j + 1) < l.length - j; omega), (bU (by repeat' first | exact trivial | refine ⟨rfl, ?_⟩) (by repeat' first | exact trivial | refine ⟨rfl, ?_⟩))⟩
  · repeat' (first | refine aF ?_ | (refine aH ?_;  first | refine aC tabOk rfl rfl rfl (nb rfl) rfl ?_ | (refine aJ rfl rfl rfl (nb rfl) rfl rfl rfl (fun hq => ?_) (fun hq => ?_) <;> (first | (simp only [sD, sE, sB, sC, sN, sM, sT, sF] at hq; try (exfalso; omega)) | skip))) | (refine aL ?_;  first | refine aG ?_ | refine aM ?_ | refine aN ?_ | refine bR ?_ | refine aE (b := false) rfl nFt (fun _ => ?_)) | (refine aK ?_;  first | refine aU ?_ | refine bJ ?_) | (refine aR ?_;  first | refine bH ?_))
    all_goals (refine aP (by first | exact .inl rfl | exact .inr rfl) (aX rfl (aB rfl)) rfl ?_; refine cJ ?_; symm
               have z1 : fieldsP l kind = true := by rw [gS]; exact iO fun i hi => hok i hi (by omega)
               have z2 : distinctP l = true := (dW l).2 fun i i' h1 h2 => hdi i i' h1 h2 (by omega)
               have z3 : rise = true → steadyP l = true := fun hr => (gR l).2 fun i hi => hst hr i hi (by omega)
               simp only [labelledP, z1, z2, Bool.true_and]
               cases rise with
               | true => simp [z3 rfl]
               | false => rfl)
end Go.Proofs.YtlbemgokilhdnaaGreat.Ab
namespace Go.Proofs.YtlbemgokilhdnaaGreat.Ab
set_option linter.unusedVariables false
set_option linter.unusedSimpArgs false
attribute [local irreducible] AWP AOps AExit AThen ABlock ANoGoto FeetOk
theorem oJ : ∀ (l : List Tree) (f : Nat), Tree.wholes l = true → Tree.wholes (l.drop f) = true
  | l, 0, h => h
  | [], f + 1, _ => rfl
  | t :: ts, f + 1, h => by
    simp only [Tree.wholes, Bool.and_eq_true] at h
    exact oJ ts f h.2
theorem qI : ∀ (l : List Tree) (f : Nat), Tree.sizes (l.drop f) ≤ Tree.sizes l
  | l, 0 => Nat.le_refl _
  | [], f + 1 => Nat.le_refl _
  | t :: ts, f + 1 => by
    have := qI ts f
    simp only [List.drop_succ_cons, Tree.sizes]; omega
theorem qJ (l : List Tree) (f : Nat) (h : f ≤ l.length) : IV.sl false (l.length - f) (((Tree.ivs l).drop (f * 1)).take ((l.length - f) * 1)) = IV.sl false (l.drop f).length (Tree.ivs (l.drop f)) := by
  rw [cQ, cQ, List.length_drop, Nat.mul_one, Nat.mul_one, ← List.map_drop, List.take_of_length_le (by simp)]
def armsP (kids : List Tree) (f : Nat) : Bool := decide (f < kids.length) && labelledP (kids.drop f) 149 false
set_option maxHeartbeats 4000000 in
set_option maxRecDepth 10000 in
theorem vS (k n : Int) (a b : ByteArray) (kids : List Tree) (f : Nat) (hf : f < 1000) (h : Tree.wholes kids = true) (hsz : Tree.sizes kids ≤ 100000000)
    (ht : ∀ t', t'.size ≤ Tree.sizes kids → t'.whole = true → ACalls Tryz.prog 50 [.imm t'.iv] [] (.imm (.lit (.bool (isTermP t')))) []) :
    ACalls Tryz.prog 88 [.imm (Tree.iv (.node k n a b kids)), .imm (.lit (.int .i64 (f : Int)))] [] (.imm (.lit (.bool (armsP kids f)))) [] := by
  have hd := qI kids f
  refine aI Tryz.func88 rfl rfl (nb rfl) rfl ?_
  repeat' (first | refine aF ?_ | (refine aH ?_;  first | refine aC tabOk rfl rfl rfl (nb rfl) rfl ?_ | refine bO rfl rfl (nb rfl) ?_ | (refine aJ rfl rfl rfl (nb rfl) rfl rfl rfl (fun hq => ?_) (fun hq => ?_) <;> (first | (simp only [sD, sE, sB, sC, sN, sM, sT, sF] at hq; try (exfalso; omega)) | skip)) | refine eI tabOk rfl rfl rfl (nb rfl) rfl rfl rfl rfl rfl (by omega) (Nat.le_refl _) (qJ kids f (by omega)) ?_ | (refine bS rfl rfl rfl (nb rfl) rfl rfl rfl (mO _ _ _ (oJ kids f h) (by omega) (fun t' h1 h2 => ht t' (by omega) h2)) (fun hq => ?_) (fun hq => ?_)) | refine aV tabOk rfl rfl (nb rfl) rfl ?_) | (refine aL ?_;  first | refine aG ?_ | refine aN ?_))
  all_goals (refine aP (by first | exact .inl rfl | exact .inr rfl) (aX rfl (aB rfl)) rfl ?_; refine cJ ?_; first | (simp_all [armsP]; done) | (simp_all [armsP]; omega))
set_option maxHeartbeats 4000000 in
set_option maxRecDepth 10000 in
theorem aAx (k n : Int) (a b : ByteArray) (kids : List Tree) : ACalls Tryz.prog 84 [.imm (Tree.iv (.node k n a b kids)), .imm (.lit (.bool false)), .imm (.lit (.slice none 0 0))] [] (.imm (.lit (.bool kids.isEmpty))) [] := by
  refine aI Tryz.func84 rfl rfl (nb rfl) rfl ?_
  repeat' (first | refine aF ?_ | (refine aH ?_;  first | refine aC tabOk rfl rfl rfl (nb rfl) rfl ?_ | (refine aJ rfl rfl rfl (nb rfl) rfl rfl rfl (fun hq => ?_) (fun hq => ?_) <;> (first | (simp only [sD, sE, sB, sC, sN, sM, sT, sF] at hq; try (exfalso; omega)) | skip)) | refine aV tabOk rfl rfl (nb rfl) rfl ?_) | (refine aL ?_;  first | refine aG ?_ | refine aM ?_ | refine aS ?_ | refine aN ?_ | refine aT ?_ | refine aE (b := true) rfl (fun _ => ?_) nTf | refine aE (b := false) rfl nFt (fun _ => ?_)) | (refine aK ?_;  first | refine aU ?_ | refine aO ?_))
  · refine aP (by first | exact .inl rfl | exact .inr rfl) (aX rfl (aB rfl)) rfl ?_; refine cJ ?_; cases kids <;> simp_all
  · refine cD (ι := Unit) (fun _ => S.f ⟨[(33, .imm (.lit (.int .i64 0))), (32, .imm (.lit (.int .i64 0)))], []⟩) (fun _ => 0) () (bU (by repeat' first | exact trivial | refine ⟨rfl, ?_⟩) (by repeat' first | exact trivial | refine ⟨rfl, ?_⟩)) ?_
    intro _
    repeat' (first | refine aF ?_ | (refine aH ?_;  first | refine aC tabOk rfl rfl rfl (nb rfl) rfl ?_ | (refine aJ rfl rfl rfl (nb rfl) rfl rfl rfl (fun hq => ?_) (fun hq => ?_) <;> (first | (simp only [sD, sE, sB, sC, sN, sM, sT, sF] at hq; try (exfalso; omega)) | skip))) | (refine aL ?_;  first | refine aG ?_ | refine aM ?_ | refine aN ?_ | refine bR ?_ | refine aE (b := false) rfl nFt (fun _ => ?_)) | (refine aK ?_;  first | refine aU ?_ | refine bJ ?_) | (refine aR ?_;  first | refine bH ?_))
    all_goals first
      | (exfalso; omega)
      | (refine aP (by first | exact .inl rfl | exact .inr rfl) (aX rfl (aB rfl)) rfl ?_; refine cJ ?_; cases kids <;> simp_all)
theorem aBt (f g : FuncId) (l : List Tree) : kidsP l false [(f, tconP), (g, isTermP)] = isT_ct l := by
  rcases l with _ | ⟨x, _ | ⟨y, _ | ⟨z, r⟩⟩⟩ <;> simp [kidsP, formsP, isT_ct]
theorem aBu (f g : FuncId) (l : List Tree) : kidsP l false [(f, tkindP), (g, isTermP)] = isT_kt l := by
  rcases l with _ | ⟨x, _ | ⟨y, _ | ⟨z, r⟩⟩⟩ <;> simp [kidsP, formsP, isT_kt]
theorem aBv (f g : FuncId) (l : List Tree) : kidsP l false [(f, isTermP), (g, isTermP)] = isT_tt l := by
  rcases l with _ | ⟨x, _ | ⟨y, _ | ⟨z, r⟩⟩⟩ <;> simp [kidsP, formsP, isT_tt]
theorem aBw (f g : FuncId) (l : List Tree) : kidsP l false [(f, isTermP), (g, tconP)] = isT_tc l := by
  rcases l with _ | ⟨x, _ | ⟨y, _ | ⟨z, r⟩⟩⟩ <;> simp [kidsP, formsP, isT_tc]
theorem aAy (f g h : FuncId) (l : List Tree) : kidsP l false [(f, tconP), (g, isTermP), (h, tconP)] = isT_ctc l := by
  rcases l with _ | ⟨x, _ | ⟨y, _ | ⟨z, _ | ⟨u, r⟩⟩⟩⟩ <;> simp [kidsP, formsP, isT_ctc, Bool.and_assoc]
theorem aAz (f g h : FuncId) (l : List Tree) : kidsP l false [(f, isTermP), (g, isTermP), (h, isTermP)] = isT_ttt l := by
  rcases l with _ | ⟨x, _ | ⟨y, _ | ⟨z, _ | ⟨u, r⟩⟩⟩⟩ <;> simp [kidsP, formsP, isT_ttt, Bool.and_assoc]
theorem aBx (f : FuncId) (l : List Tree) : (kidsP l true [(f, isTermP)] && armsP l 1) = isT_ta l := by
  rcases l with _ | ⟨x, _ | ⟨y, r⟩⟩ <;> simp [kidsP, formsP, isT_ta, armsP, labelledP]
theorem aAA (f g : FuncId) (l : List Tree) : (kidsP l true [(f, isTermP), (g, tconP)] && armsP l 2) = isT_tca l := by
  rcases l with _ | ⟨x, _ | ⟨y, _ | ⟨z, r⟩⟩⟩ <;> simp [kidsP, formsP, isT_tca, armsP, labelledP]
end Go.Proofs.YtlbemgokilhdnaaGreat.Ab
namespace Go.Proofs.YtlbemgokilhdnaaGreat.Ab
set_option linter.unusedVariables false
set_option linter.unusedSimpArgs false
attribute [local irreducible] AWP AOps AExit AThen ABlock ANoGoto FeetOk
theorem false_and {x y : Bool} (h : x = false) : false = (x && y) := by rw [h]; rfl
set_option maxHeartbeats 16000000 in
set_option maxRecDepth 10000 in
theorem yA (t : Tree) : t.whole = true → t.size ≤ 100000000 → ACalls Tryz.prog 50 [.imm t.iv] [] (.imm (.lit (.bool (isTermP t)))) [] := by
  induction t using Tree.sind with
  | h t ih =>
    intro h hs
    obtain ⟨k, n, a, b, kids, rfl⟩ := bT h
    have hw : Tree.wholes kids = true := h
    have hz : Tree.sizes kids ≤ 100000000 := by simp only [Tree.size] at hs; omega
    have hl : kids.length < 1000000000 := by have := cE kids h; omega
    have ht : ∀ t', t'.size ≤ Tree.sizes kids → t'.whole = true → ACalls Tryz.prog 50 [.imm t'.iv] [] (.imm (.lit (.bool (isTermP t')))) [] := fun t' h1 h2 => ih t' (by simp only [Tree.size]; omega) h2 (by omega)
    have hfs : ∀ fs : List (FuncId × (Tree → Bool)), (∀ p ∈ fs, p = ((85 : FuncId), tconP) ∨ p = ((86 : FuncId), tkindP) ∨ p = ((50 : FuncId), isTermP)) →
        ∀ i (hi : i < fs.length) (hk : i < kids.length), ACalls Tryz.prog fs[i].1 [.imm kids[i].iv] [] (.imm (.lit (.bool (fs[i].2 kids[i])))) [] := fun fs hp i hi hk => by
      have hm := cR (List.getElem_mem hk)
      rcases hp fs[i] (List.getElem_mem hi) with e | e | e <;> rw [e]
      · exact aBr _ (by omega)
      · exact aAv _ (by omega)
      · exact ht _ hm (bC h (List.getElem_mem hk))
    refine aI Tryz.func50 rfl rfl (nb rfl) rfl ?_
    repeat' (first | refine aF ?_ | (refine aH ?_;  first | refine aC tabOk rfl rfl rfl (nb rfl) rfl ?_ | refine bO rfl rfl (nb rfl) ?_ | (refine aJ rfl rfl rfl (nb rfl) rfl rfl rfl (fun hq => ?_) (fun hq => ?_) <;> (first | (simp only [sD, sE, sB, sC, sN, sM, sT, sF] at hq; try (exfalso; omega)) | skip)) | (refine bS rfl rfl rfl (nb rfl) rfl rfl rfl (qH _) (fun hq => ?_) (fun hq => ?_)) | (refine bS rfl rfl rfl (nb rfl) rfl rfl rfl (xZ _ _ _ _ _) (fun hq => ?_) (fun hq => ?_)) | (refine bS rfl rfl rfl (nb rfl) rfl rfl rfl (aAx _ _ _ _ _) (fun hq => ?_) (fun hq => ?_)) | (refine bS rfl rfl rfl (nb rfl) rfl rfl rfl (mO kids 137 true hw hz (fun t' h1 h2 => ht t' (by omega) h2)) (fun hq => ?_) (fun hq => ?_)) | (refine bS rfl rfl rfl (nb rfl) rfl rfl rfl (vS _ _ _ _ kids 1 (by omega) hw hz ht) (fun hq => ?_) (fun hq => ?_)) | (refine bS rfl rfl rfl (nb rfl) rfl rfl rfl (vS _ _ _ _ kids 2 (by omega) hw hz ht) (fun hq => ?_) (fun hq => ?_)) | (refine bS rfl rfl rfl (nb rfl) rfl rfl rfl (eZ _ _ _ _ _ _ [((85 : FuncId), tconP), ((50 : FuncId), isTermP)] (by decide) hl (hfs _ (by simp))) (fun hq => ?_) (fun hq => ?_)) | (refine bS rfl rfl rfl (nb rfl) rfl rfl rfl (eZ _ _ _ _ _ _ [((86 : FuncId), tkindP), ((50 : FuncId), isTermP)] (by decide) hl (hfs _ (by simp))) (fun hq => ?_) (fun hq => ?_)) | (refine bS rfl rfl rfl (nb rfl) rfl rfl rfl (eZ _ _ _ _ _ _ [((50 : FuncId), isTermP), ((50 : FuncId), isTermP)] (by decide) hl (hfs _ (by simp))) (fun hq => ?_) (fun hq => ?_)) | (refine bS rfl rfl rfl (nb rfl) rfl rfl rfl (eZ _ _ _ _ _ _ [((50 : FuncId), isTermP)] (by decide) hl (hfs _ (by simp))) (fun hq => ?_) (fun hq => ?_)) | (refine bS rfl rfl rfl (nb rfl) rfl rfl rfl (eZ _ _ _ _ _ _ [((50 : FuncId), isTermP), ((85 : FuncId), tconP)] (by decide) hl (hfs _ (by simp))) (fun hq => ?_) (fun hq => ?_)) | (refine bS rfl rfl rfl (nb rfl) rfl rfl rfl (eZ _ _ _ _ _ _ [((85 : FuncId), tconP), ((50 : FuncId), isTermP), ((85 : FuncId), tconP)] (by decide) hl (hfs _ (by simp))) (fun hq => ?_) (fun hq => ?_)) | (refine bS rfl rfl rfl (nb rfl) rfl rfl rfl (eZ _ _ _ _ _ _ [((50 : FuncId), isTermP), ((50 : FuncId), isTermP), ((50 : FuncId), isTermP)] (by decide) hl (hfs _ (by simp))) (fun hq => ?_) (fun hq => ?_)) | refine bY tabOk rfl rfl rfl (nb rfl) rfl rfl rfl rfl rfl rfl rfl rfl rfl ?_ | refine aV tabOk rfl rfl (nb rfl) rfl ?_) | (refine aL ?_;  first | refine aG ?_ | refine aM ?_ | refine bI ?_ | refine aS ?_ | refine aN ?_ | refine aT ?_ | refine aE (b := true) rfl (fun _ => ?_) nTf | refine aE (b := false) rfl nFt (fun _ => ?_)) | (refine aK ?_;  first | refine aU ?_ | refine aO ?_) | (refine aR ?_;  first | refine bP ?_ | refine aZ ?_))
    all_goals
      refine aP (by first | exact .inl rfl | exact .inr rfl) (aX rfl (aB rfl)) rfl ?_
      refine cJ ?_
      clear hfs ht ih
      have e1 := (aBx 50 kids).symm
      have e2 := (aAA 50 85 kids).symm
      have e3 : (fieldsP kids 137 && distinctP kids && steadyP kids) = labelledP kids 137 true := by simp [labelledP]
      try simp only [aBt, aBu, aBv, uD, aBw, aAy, aAz] at *
      first | (have hk : k = 130 := (by assumption); subst hk) | (have hk : k = 131 := (by assumption); subst hk) | (have hk : k = 132 := (by assumption); subst hk) | (have hk : k = 133 := (by assumption); subst hk) | (have hk : k = 134 := (by assumption); subst hk) | (have hk : k = 135 := (by assumption); subst hk) | (have hk : k = 136 := (by assumption); subst hk) | (have hk : k = 138 := (by assumption); subst hk) | (have hk : k = 139 := (by assumption); subst hk) | (have hk : k = 140 := (by assumption); subst hk) | (have hk : k = 141 := (by assumption); subst hk) | (have hk : k = 142 := (by assumption); subst hk) | (have hk : k = 143 := (by assumption); subst hk) | (have hk : k = 144 := (by assumption); subst hk) | (have hk : k = 145 := (by assumption); subst hk) | (have hk : k = 146 := (by assumption); subst hk) | (have hk : k = 147 := (by assumption); subst hk) | (have hk : k = 148 := (by assumption); subst hk) | skip
      rw [isTermP]
      first | (have h3 : eqB a emptyB = true := beq_iff_eq.2 (by assumption); have h4 : eqB b emptyB = true := beq_iff_eq.2 (by assumption); simp [headP, namedK, h3, h4, *]; done) | (have h3 : eqB a emptyB = false := beq_eq_false_iff_ne.2 (by assumption); have h4 : eqB b emptyB = true := beq_iff_eq.2 (by assumption); simp [headP, namedK, h3, h4, *]; done) | (simp [headP, namedK, eqB, emptyB, *]; done) | (refine false_and ?_; have h1 : (k == 138) = false := beq_eq_false_iff_ne.2 (by assumption); have h2 : (k == 146) = false := beq_eq_false_iff_ne.2 (by assumption); have h3 : eqB a emptyB = false := beq_eq_false_iff_ne.2 (by assumption); simp [headP, namedK, h1, h2, h3]; done) | (refine false_and ?_; have h1 : (k == 138) = false := beq_eq_false_iff_ne.2 (by assumption); have h2 : (k == 146) = false := beq_eq_false_iff_ne.2 (by assumption); clear e1 e2 e3; simp_all [headP, namedK, eqB, emptyB]; done) | (refine false_and ?_; clear e1 e2 e3; simp_all [headP, namedK, eqB, emptyB]; done) | skip
def tcheckP (t : Tree) : Int := checkP isTermP t
set_option maxHeartbeats 4000000 in
set_option maxRecDepth 10000 in
theorem qK (t : Tree) (hs : t.size ≤ 100000000) : ACalls Tryz.prog 22 [.imm t.iv] [] (.imm (.lit (.int .i64 (tcheckP t)))) [] := by
  refine aI Tryz.func22 rfl rfl (nb rfl) rfl ?_
  repeat' (first | refine aF ?_ | (refine aH ?_;  first | refine aC tabOk rfl rfl rfl (nb rfl) rfl ?_ | refine bO rfl rfl (nb rfl) ?_ | (refine aJ rfl rfl rfl (nb rfl) rfl rfl rfl (fun hq => ?_) (fun hq => ?_) <;> (first | (simp only [sD, sE, sB, sC, sN, sM, sT, sF] at hq; try (exfalso; omega)) | skip)) | refine cN 1000 tabOk rfl rfl rfl (nb rfl) rfl rfl rfl rfl rfl rfl ?_ | refine bW rfl rfl (nb rfl) rfl rfl rfl rfl (xW t 65536 hs (by omega) (by omega)) (by exact ⟨rfl, trivial⟩) rfl (by simp) ?_ | (refine bS rfl rfl rfl (nb rfl) rfl rfl rfl (yA t (fJ t _ (by assumption)) hs) (fun hq => ?_) (fun hq => ?_)) | refine bK tabOk rfl rfl rfl rfl rfl rfl rfl rfl rfl rfl rfl ?_) | (refine aL ?_;  first | refine aG ?_ | refine aM ?_ | refine aN ?_ | refine aT ?_ | refine aE (b := true) rfl (fun _ => ?_) nTf | refine aE (b := false) rfl nFt (fun _ => ?_)) | (refine aK ?_;  first | refine aU ?_ | refine aO ?_))
  all_goals (refine aP (by first | exact .inl rfl | exact .inr rfl) (aX rfl (aB rfl)) rfl ?_; refine jO ?_; simp_all [tcheckP, checkP])
end Go.Proofs.YtlbemgokilhdnaaGreat.Ab
namespace Go.Proofs.YtlbemgokilhdnaaGreat.Ab
set_option linter.unusedVariables false
set_option linter.unusedSimpArgs false
attribute [local irreducible] AWP AOps AExit AThen ABlock ANoGoto FeetOk
def zipP (R : Tree → Tree → Bool) : List Tree → List Tree → Bool
  | [], [] => true
  | x :: xs, y :: ys => R x y && zipP R xs ys
  | _, _ => false
theorem qL (R : Tree → Tree → Bool) : ∀ (l l' : List Tree), l.length ≠ l'.length → zipP R l l' = false
  | [], [], h => absurd rfl h
  | x :: xs, y :: ys, h => by rw [zipP, qL R xs ys (by simpa using h), Bool.and_false]
  | [], _ :: _, _ => rfl
  | _ :: _, [], _ => rfl
theorem mP (R : Tree → Tree → Bool) : ∀ (l l' : List Tree), l.length = l'.length → (zipP R l l' = true ↔ ∀ i (hi : i < l.length) (hk : i < l'.length), R l[i] l'[i] = true)
  | [], [], _ => by simp [zipP]
  | [], _ :: _, h => by simp at h
  | _ :: _, [], h => by simp at h
  | x :: xs, y :: ys, h => by
    rw [zipP, Bool.and_eq_true, mP R xs ys (by simpa using h)]
    constructor
    · rintro ⟨h1, h2⟩ i hi hk
      cases i with
      | zero => exact h1
      | succ i => exact h2 i (by simpa using hi) (by simpa using hk)
    · intro h
      exact ⟨h 0 (by simp) (by simp), fun i hi hk => h (i + 1) (by simpa using hi) (by simpa using hk)⟩
set_option maxHeartbeats 4000000 in
set_option maxRecDepth 10000 in
theorem lB (l l' : List Tree) (f : FuncId) (R : Tree → Tree → Bool) (hl : l.length < 1000000000) (hl' : l'.length < 1000000000)
    (hf : ∀ i (hi : i < l.length) (hk : i < l'.length), ACalls Tryz.prog f [.imm l[i].iv, .imm l'[i].iv] [] (.imm (.lit (.bool (R l[i] l'[i])))) []) :
    ACalls Tryz.prog 47 [.imm (.sl false l.length (Tree.ivs l)), .imm (.sl false l'.length (Tree.ivs l')), .imm (.func f [] [])] [] (.imm (.lit (.bool (zipP R l l')))) [] := by
  refine aI Tryz.func47 rfl rfl (nb rfl) rfl ?_
  repeat' (first | refine aF ?_ | (refine aH ?_;  first | refine aC tabOk rfl rfl rfl (nb rfl) rfl ?_ | (refine aJ rfl rfl rfl (nb rfl) rfl rfl rfl (fun hq => ?_) (fun hq => ?_) <;> (first | (simp only [sD, sE, sB, sC, sN, sM, sT, sF] at hq; try (exfalso; omega)) | skip)) | refine aV tabOk rfl rfl (nb rfl) rfl ?_) | (refine aL ?_;  first | refine aG ?_ | refine aM ?_ | refine aS ?_ | refine aN ?_ | refine aT ?_ | refine aE (b := true) rfl (fun _ => ?_) nTf | refine aE (b := false) rfl nFt (fun _ => ?_)) | (refine aK ?_;  first | refine aU ?_ | refine aO ?_))
  · refine aP (by first | exact .inl rfl | exact .inr rfl) (aX rfl (aB rfl)) rfl ?_; exact cJ (qL R l l' (by omega)).symm
  · have hle : l.length = l'.length := by omega
    refine cD (ι := {j : Nat // j ≤ l.length ∧ ∀ i (hi : i < l.length) (hk : i < l'.length), i < j → R l[i] l'[i] = true}) (fun j => S.f ⟨[(17, .imm (.lit (.int .i64 (j.1 : Int)))), (16, .imm (.lit (.int .i64 (l.length : Int)))), (15, .imm (.sl false l.length (Tree.ivs l))), (1, .imm (.sl false l'.length (Tree.ivs l'))), (2, .imm (.func f [] []))], []⟩) (fun j => l.length - j.1) ⟨0, Nat.zero_le _, fun i _ _ hi => absurd hi (Nat.not_lt_zero _)⟩ (bU (by repeat' first | exact trivial | refine ⟨rfl, ?_⟩) (by repeat' first | exact trivial | refine ⟨rfl, ?_⟩)) ?_
    rintro ⟨j, hj, hok⟩
    dsimp only
    by_cases hlt : j < l.length
    · have hltk : j < l'.length := by omega
      repeat' (first | refine aF ?_ | (refine aH ?_;  first | refine aC tabOk rfl rfl rfl (nb rfl) rfl ?_ | (refine aJ rfl rfl rfl (nb rfl) rfl rfl rfl (fun hq => ?_) (fun hq => ?_) <;> (first | (simp only [sD, sE, sB, sC, sN, sM, sT, sF] at hq; try (exfalso; omega)) | skip)) | (refine bS rfl rfl rfl (nb rfl) rfl rfl rfl (hf j hlt hltk) (fun hq => ?_) (fun hq => ?_)) | refine bQ rfl rfl rfl (nb rfl) rfl rfl (by omega) ?_ | refine bF tabOk rfl rfl rfl (nb rfl) rfl rfl rfl rfl (by first | assumption | omega) ?_ | refine bE tabOk rfl rfl rfl (nb rfl) rfl rfl rfl (cG _ _ (by first | assumption | omega)) ?_) | (refine aL ?_;  first | refine aG ?_ | refine aM ?_ | refine bI ?_ | refine aS ?_ | refine aN ?_ | refine aT ?_ | refine aE (b := true) rfl (fun _ => ?_) nTf | refine aE (b := false) rfl nFt (fun _ => ?_)) | (refine aK ?_;  first | refine aU ?_ | refine aO ?_) | (refine aR ?_;  first | refine bP ?_ | refine aZ ?_))
      all_goals first
        | (have hq : R l[j] l'[j] = false := by assumption
           refine aP (by first | exact .inl rfl | exact .inr rfl) (aX rfl (aB rfl)) rfl ?_; refine cJ ?_; symm; rw [Bool.eq_false_iff]; intro hc
           have := (mP R l l' hle).1 hc j hlt hltk
           rw [hq] at this; cases this; done)
        | (have hq : R l[j] l'[j] = true := by assumption
           exact ⟨⟨j + 1, hlt, fun i hi hk hij => by
             by_cases e : i = j
             · subst e; exact hq
             · exact hok i hi hk (by omega)⟩, (by show l.length - (j + 1) < l.length - j; omega), (bU (by repeat' first | exact trivial | refine ⟨rfl, ?_⟩) (by repeat' first | exact trivial | refine ⟨rfl, ?_⟩))⟩)
    · repeat' (first | refine aF ?_ | (refine aH ?_;  first | refine aC tabOk rfl rfl rfl (nb rfl) rfl ?_ | (refine aJ rfl rfl rfl (nb rfl) rfl rfl rfl (fun hq => ?_) (fun hq => ?_) <;> (first | (simp only [sD, sE, sB, sC, sN, sM, sT, sF] at hq; try (exfalso; omega)) | skip))) | (refine aL ?_;  first | refine aG ?_ | refine aM ?_ | refine aN ?_ | refine bR ?_ | refine aE (b := false) rfl nFt (fun _ => ?_)) | (refine aK ?_;  first | refine aU ?_ | refine bJ ?_) | (refine aR ?_;  first | refine bH ?_))
      all_goals (refine aP (by first | exact .inl rfl | exact .inr rfl) (aX rfl (aB rfl)) rfl ?_; refine cJ ?_; symm; rw [mP R l l' hle]; exact fun i hi hk => hok i hi hk (by omega))
end Go.Proofs.YtlbemgokilhdnaaGreat.Ab
namespace Go.Proofs.YtlbemgokilhdnaaGreat.Ab
set_option linter.unusedVariables false
set_option linter.unusedSimpArgs false
attribute [local irreducible] AWP AOps AExit AThen ABlock ANoGoto FeetOk
mutual
def sameP : Tree → Tree → Bool
  | .nil, .nil => true
  | .node k n a b ks, .node k' n' a' b' ks' => (((k == k' && n == n') && eqB a a') && eqB b b') && samePs ks ks'
  | _, _ => false
def samePs : List Tree → List Tree → Bool
  | [], [] => true
  | x :: xs, y :: ys => sameP x y && samePs xs ys
  | _, _ => false
end
theorem iT : ∀ l l' : List Tree, samePs l l' = zipP sameP l l'
  | [], [] => by simp [samePs, zipP]
  | t :: ts, u :: us => by simp [samePs, zipP, iT ts us]
  | [], _ :: _ => by simp [samePs, zipP]
  | _ :: _, [] => by simp [samePs, zipP]
theorem kP (t : Tree) : ∀ u, sameP t u = true ↔ t = u := by
  induction t using Tree.ind with
  | h1 => intro u; cases u <;> simp [sameP]
  | h2 k n a b ks ih =>
    intro u
    cases u with
    | nil => simp [sameP]
    | node k' n' a' b' ks' =>
      have key : ∀ (l l' : List Tree), (∀ t ∈ l, t ∈ ks) → (samePs l l' = true ↔ l = l') := by
        intro l
        induction l with
        | nil => intro l' _; cases l' <;> simp [samePs]
        | cons x xs ihl =>
          intro l' hm
          cases l' with
          | nil => simp [samePs]
          | cons y ys =>
            rw [samePs, Bool.and_eq_true, ih x (hm x (by simp)) y, ihl ys (fun t ht => hm t (by simp [ht]))]
            simp
      simp only [sameP, Bool.and_eq_true, beq_iff_eq, cZ, key ks ks' (fun _ h => h), Tree.node.injEq]
      constructor
      · rintro ⟨⟨⟨⟨h1, h2⟩, h3⟩, h4⟩, h5⟩; exact ⟨h1, h2, h3, h4, h5⟩
      · rintro ⟨h1, h2, h3, h4, h5⟩; exact ⟨⟨⟨⟨h1, h2⟩, h3⟩, h4⟩, h5⟩
set_option maxHeartbeats 8000000 in
set_option maxRecDepth 10000 in
theorem gZ (t : Tree) : ∀ u : Tree, (t = .nil ∨ t.whole = true) → (u = .nil ∨ u.whole = true) → t.size ≤ 100000000 → u.size ≤ 100000000 → ACalls Tryz.prog 20 [.imm t.iv, .imm u.iv] [] (.imm (.lit (.bool (sameP t u)))) [] := by
  induction t using Tree.ind with
  | h1 =>
    intro u _ _ _ _
    cases u with
    | nil =>
      rw [show sameP .nil .nil = true by simp [sameP]]
      refine aI Tryz.func20 rfl rfl (nb rfl) rfl ?_
      repeat' (first | refine aF ?_ | (refine aH ?_;  first | refine aC tabOk rfl rfl rfl (nb rfl) rfl ?_ | refine bO rfl rfl (nb rfl) ?_ | refine aV tabOk rfl rfl (nb rfl) rfl ?_) | (refine aL ?_;  first | refine aG ?_ | refine aM ?_ | refine aN ?_ | refine aE (b := true) rfl (fun _ => ?_) nTf) | (refine aK ?_;  first | refine aO ?_))
      all_goals first
        | exact absurd rfl (by assumption)
        | exact cL (by first | exact .inl rfl | exact .inr rfl) (aX rfl (aB rfl)) rfl
    | node k n a b ks =>
      rw [show sameP .nil (.node k n a b ks) = false by simp [sameP]]
      refine aI Tryz.func20 rfl rfl (nb rfl) rfl ?_
      repeat' (first | refine aF ?_ | (refine aH ?_;  first | refine aC tabOk rfl rfl rfl (nb rfl) rfl ?_ | refine bO rfl rfl (nb rfl) ?_ | refine aV tabOk rfl rfl (nb rfl) rfl ?_) | (refine aL ?_;  first | refine aG ?_ | refine aM ?_ | refine aN ?_ | refine aE (b := true) rfl (fun _ => ?_) nTf) | (refine aK ?_;  first | refine aO ?_))
      all_goals first
        | exact absurd rfl (by assumption)
        | exact cL (by first | exact .inl rfl | exact .inr rfl) (aX rfl (aB rfl)) rfl
  | h2 k n a b ks ih =>
    intro u hw hw2 hs hs2
    cases u with
    | nil =>
      rw [show sameP (.node k n a b ks) .nil = false by simp [sameP]]
      refine aI Tryz.func20 rfl rfl (nb rfl) rfl ?_
      repeat' (first | refine aF ?_ | (refine aH ?_;  first | refine aC tabOk rfl rfl rfl (nb rfl) rfl ?_ | refine bO rfl rfl (nb rfl) ?_ | refine aV tabOk rfl rfl (nb rfl) rfl ?_) | (refine aL ?_;  first | refine aG ?_ | refine aM ?_ | refine aN ?_ | refine aE (b := true) rfl (fun _ => ?_) nTf) | (refine aK ?_;  first | refine aO ?_))
      all_goals first
        | exact absurd rfl (by assumption)
        | exact cL (by first | exact .inl rfl | exact .inr rfl) (aX rfl (aB rfl)) rfl
    | node k' n' a' b' ks' =>
      have hw : (Tree.node k n a b ks).whole = true := by
        rcases hw with h | h
        · cases h
        · exact h
      have hw2 : (Tree.node k' n' a' b' ks').whole = true := by
        rcases hw2 with h | h
        · cases h
        · exact h
      have hl := cE ks hw
      have hl2 := cE ks' hw2
      simp only [Tree.size] at hs hs2
      have hf : ∀ i (hi : i < ks.length) (hk : i < ks'.length), ACalls Tryz.prog 20 [.imm ks[i].iv, .imm ks'[i].iv] [] (.imm (.lit (.bool (sameP ks[i] ks'[i])))) [] := fun i hi hk => by
        have h1 := List.getElem_mem hi
        have h2 := List.getElem_mem hk
        have h3 := cR h1
        have h4 := cR h2
        exact ih _ h1 _ (.inr (bC hw h1)) (.inr (bC hw2 h2)) (by omega) (by omega)
      have ce := lB ks ks' 20 sameP (by omega) (by omega) hf
      clear ih hf
      have e : sameP (.node k n a b ks) (.node k' n' a' b' ks') = ((((k == k' && n == n') && eqB a a') && eqB b b') && zipP sameP ks ks') := by rw [sameP, iT]
      rw [e]
      generalize zipP sameP ks ks' = Z at *
      refine aI Tryz.func20 rfl rfl (nb rfl) rfl ?_
      repeat' (first | refine aF ?_ | (refine aH ?_;  first | refine aC tabOk rfl rfl rfl (nb rfl) rfl ?_ | refine bO rfl rfl (nb rfl) ?_ | (refine aJ rfl rfl rfl (nb rfl) rfl rfl rfl (fun hq => ?_) (fun hq => ?_) <;> (first | (simp only [sD, sE, sB, sC, sN, sM, sT, sF] at hq; try (exfalso; omega)) | skip)) | (refine bS rfl rfl rfl (nb rfl) rfl rfl rfl (ce) (fun hq => ?_) (fun hq => ?_)) | refine aV tabOk rfl rfl (nb rfl) rfl ?_) | (refine aL ?_;  first | refine aG ?_ | refine aM ?_ | refine aN ?_ | refine aT ?_ | refine aE (b := false) rfl nFt (fun _ => ?_) | refine aQ mixed (by kernel_rfl) ?_) | (refine aK ?_;  first | refine aU ?_) | refine bD (bB (by kernel_rfl)) ?_)
      all_goals first
        | exact absurd rfl (by assumption)
        | (refine aP (by first | exact .inl rfl | exact .inr rfl) (aX rfl (aB rfl)) rfl ?_; refine cJ ?_; simp_all [eqB])
/-- What stands at a label. -/
def isLab (label : ByteArray) (t : Tree) : Bool := decide (t.kind = 163) && eqB t.name label
def kid0 : Tree → Tree
  | .node _ _ _ _ (c :: _) => c
  | _ => .nil
def fieldP (label : ByteArray) : List Tree → Tree × Bool
  | [] => (.nil, false)
  | t :: ts => if isLab label t = true then (kid0 t, true) else fieldP label ts
theorem gT (label : ByteArray) : ∀ (l : List Tree) (j : Nat), (findP (isLab label) l j < 0 ∧ fieldP label l = (.nil, false)) ∨ ∃ i, ∃ h : i < l.length, findP (isLab label) l j = ((i + j : Nat) : Int) ∧ fieldP label l = (kid0 l[i], true) ∧ isLab label l[i] = true
  | [], j => .inl ⟨by simp [findP], rfl⟩
  | t :: ts, j => by
    rw [findP, fieldP]
    by_cases h : isLab label t = true
    · rw [if_pos h, if_pos h]
      exact .inr ⟨0, by simp, by omega, rfl, h⟩
    · rw [if_neg h, if_neg h]
      rcases gT label ts (j + 1) with h1 | ⟨i, h1, h2, h3, h4⟩
      · exact .inl h1
      · exact .inr ⟨i + 1, by simpa using h1, by rw [h2]; omega, by rw [h3]; rfl, by simpa using h4⟩
set_option maxHeartbeats 4000000 in
set_option maxRecDepth 10000 in
theorem aCA (t : Tree) (label : ByteArray) (hw : t.whole = true) : ACalls Tryz.prog 93 [.imm t.iv, .obj 1001 0] [(1001, .cells [.imm (.lit (.string label))])] (.imm (.lit (.bool (isLab label t)))) [(1001, .cells [.imm (.lit (.string label))])] := by
  obtain ⟨k, n, a, b, kids, rfl⟩ := bT hw
  have e : isLab label (.node k n a b kids) = (decide (k = 163) && eqB a label) := rfl
  rw [e]
  refine bX [1001] Tryz.func93 rfl rfl (nb rfl) rfl rfl ?_
  repeat' (first | refine aF ?_ | (refine aH ?_;  first | refine aC tabOk rfl rfl rfl (nb rfl) rfl ?_ | refine bO rfl rfl (nb rfl) ?_ | (refine aJ rfl rfl rfl (nb rfl) rfl rfl rfl (fun hq => ?_) (fun hq => ?_) <;> (first | (simp only [sD, sE, sB, sC, sN, sM, sT, sF] at hq; try (exfalso; omega)) | skip)) | refine bM tabOk rfl rfl rfl (nb rfl) rfl rfl rfl rfl ?_) | (refine aL ?_;  first | refine aG ?_ | refine aM ?_ | refine aN ?_ | refine aQ mixed (by kernel_rfl) ?_) | (refine aK ?_;  first | refine aU ?_) | refine bD (bB (by kernel_rfl)) ?_)
  all_goals (refine cC (bZ (by first | exact .inl rfl | exact .inr rfl) (aX rfl (aB rfl)) rfl (by repeat' first | exact trivial | refine ⟨rfl, ?_⟩) rfl ?_); refine cJ ?_; simp_all [eqB])
set_option maxHeartbeats 8000000 in
set_option maxRecDepth 10000 in
theorem zN (k n : Int) (a b : ByteArray) (kids : List Tree) (label : ByteArray) (hw : Tree.wholes kids = true) (hl : kids.length < 1000000000) (hk : ∀ t ∈ kids, t.kind = 163 → ∃ n' a' b' c, t = .node 163 n' a' b' [c]) :
    ACalls Tryz.prog 57 [.imm (Tree.iv (.node k n a b kids)), .imm (.lit (.string label))] [] (.imm (.tup [(fieldP label kids).1.iv, .lit (.bool (fieldP label kids).2)])) [] := by
  have ci := mN kids 93 (.lit (.string label)) (isLab label) hl (fun j h => aCA _ label (bC hw (List.getElem_mem h)))
  rcases gT label kids 0 with ⟨h1, h2⟩ | ⟨i, h1, h2, h3, h4⟩
  · rw [h2]
    generalize findP (isLab label) kids 0 = Q at *
    refine aI Tryz.func57 rfl rfl (nb rfl) rfl ?_
    repeat' (first | refine aF ?_ | (refine aH ?_;  first | refine aC tabOk rfl rfl rfl (nb rfl) rfl ?_ | (refine aJ rfl rfl rfl (nb rfl) rfl rfl rfl (fun hq => ?_) (fun hq => ?_) <;> (first | (simp only [sD, sE, sB, sC, sN, sM, sT, sF] at hq; try (exfalso; omega)) | skip)) | refine cF 1001 (d := 3) rfl rfl rfl (nb rfl) rfl rfl rfl rfl rfl rfl rfl ?_ | refine bW rfl rfl (nb rfl) rfl rfl rfl rfl ci (by repeat' first | exact trivial | refine ⟨rfl, ?_⟩) rfl (by show ([1001] : List Nat).Nodup; decide) ?_) | (refine aL ?_;  first | refine aG ?_ | refine aM ?_ | refine aN ?_ | refine aE (b := true) rfl (fun _ => ?_) nTf) | (refine aK ?_;  first | refine aO ?_))
    all_goals first
      | (exfalso; omega)
      | (refine aP (by first | exact .inl rfl | exact .inr rfl) (aW rfl (aB rfl) (aB rfl)) rfl ?_; rfl)
  · rw [h3]
    rw [h2] at ci
    have hm := List.getElem_mem h1
    unfold isLab at h4
    rw [Bool.and_eq_true, decide_eq_true_eq] at h4
    obtain ⟨n', a', b', c, e⟩ := hk _ hm h4.1
    have hget := cG kids i h1
    rw [e] at hget ⊢
    dsimp only [kid0]
    clear h2 h3 h4 e hm
    rw [Nat.add_zero] at ci
    refine aI Tryz.func57 rfl rfl (nb rfl) rfl ?_
    repeat' (first | refine aF ?_ | (refine aH ?_;  first | refine aC tabOk rfl rfl rfl (nb rfl) rfl ?_ | (refine aJ rfl rfl rfl (nb rfl) rfl rfl rfl (fun hq => ?_) (fun hq => ?_) <;> (first | (simp only [sD, sE, sB, sC, sN, sM, sT, sF] at hq; try (exfalso; omega)) | skip)) | refine cF 1001 (d := 3) rfl rfl rfl (nb rfl) rfl rfl rfl rfl rfl rfl rfl ?_ | refine bW rfl rfl (nb rfl) rfl rfl rfl rfl ci (by repeat' first | exact trivial | refine ⟨rfl, ?_⟩) rfl (by show ([1001] : List Nat).Nodup; decide) ?_ | refine bE tabOk rfl rfl rfl (nb rfl) rfl rfl rfl hget ?_ | refine bF tabOk rfl rfl rfl (nb rfl) rfl rfl rfl rfl (by first | assumption | omega) ?_ | refine aY tabOk rfl rfl rfl (nb rfl) rfl rfl rfl rfl (by first | rfl | omega) (by first | omega | simp) ?_) | (refine aL ?_;  first | refine aG ?_ | refine aM ?_ | refine aN ?_ | refine aT ?_ | refine aE (b := false) rfl nFt (fun _ => ?_)) | (refine aK ?_;  first | refine aU ?_))
    all_goals first
      | (exfalso; omega)
      | (refine aP (by first | exact .inl rfl | exact .inr rfl) (aW rfl (aB rfl) (aB rfl)) rfl ?_; rfl)
end Go.Proofs.YtlbemgokilhdnaaGreat.Ab
namespace Go.Proofs.YtlbemgokilhdnaaGreat.Ab
set_option linter.unusedVariables false
set_option linter.unusedSimpArgs false
attribute [local irreducible] AWP AOps AExit AThen ABlock ANoGoto FeetOk
def Tree.kids : Tree → List Tree
  | .nil => []
  | .node _ _ _ _ ks => ks
mutual
/-- Is a (the second one) enough for b (the first one)? -/
def subP : Tree → Tree → Bool
  | .nil, _ => false
  | .node k n x y kids, a => decide (a.kind = k) && (if k ≠ 162 then sameP a (.node k n x y kids) else subPs kids a)
def subPs : List Tree → Tree → Bool
  | [], _ => true
  | t :: ts, a => subK t a && subPs ts a
def subK : Tree → Tree → Bool
  | .nil, _ => false
  | .node _ _ name _ ks, a => (fieldP name a.kids).2 && sub1 ks (fieldP name a.kids).1
def sub1 : List Tree → Tree → Bool
  | [c], f => subP c f
  | _, _ => false
end
theorem sJ (l : List Tree) (a : Tree) : subPs l a = l.all fun t => subK t a := by
  induction l with
  | nil => simp [subPs]
  | cons t ts ih => simp [subPs, ih]
/-- A field's form. -/
theorem cO {t : Tree} (h : okSField t = true) : ∃ n a b c, t = .node 163 n a b [c] ∧ isSigP c = true := by
  cases t with
  | nil => simp [okSField] at h
  | node k n a b ks =>
    simp only [okSField, Bool.and_eq_true, beq_iff_eq] at h
    obtain ⟨⟨⟨rfl, _⟩, _⟩, h⟩ := h
    by_cases h1 : ks.length = 1
    · obtain ⟨c, rfl⟩ := dG h1
      exact ⟨n, a, b, c, rfl, by simpa [sigOne] using h⟩
    · rw [nJ h1] at h; cases h
/-- A signature's kids: a constructor, or fields. -/
theorem dA {k n : Int} {a b : ByteArray} {kids : List Tree} (h : isSigP (.node k n a b kids) = true) : ((k = 160 ∨ k = 161) ∧ ∃ c, kids = [c] ∧ checkP isConP c = 0) ∨ (k = 162 ∧ (∀ t ∈ kids, okSField t = true) ∧ risingP kids = true) := by
  rw [isSigP, Bool.and_eq_true] at h
  have h := h.2
  by_cases c1 : k = 160 ∨ k = 161
  · rw [if_pos c1] at h
    by_cases h1 : kids.length = 1
    · obtain ⟨c, rfl⟩ := dG h1
      exact .inl ⟨c1, c, rfl, by simpa [sig1] using h⟩
    · rw [uB h1] at h; cases h
  · rw [if_neg c1] at h
    by_cases c2 : k = 162
    · rw [if_pos c2, Bool.and_eq_true, iS] at h
      exact .inr ⟨c2, fun t ht => List.all_eq_true.1 h.1 t ht, h.2⟩
    · rw [if_neg c2] at h; cases h
theorem vT {c : Tree} (h : checkP isConP c = 0) : c.kind ≠ 163 := by
  obtain ⟨_, _, hf⟩ := bG h
  cases c with
  | nil => simp [isConP] at hf
  | node k n a b ks =>
    intro e
    have e : k = 163 := e
    subst e
    rw [isConP, Bool.and_eq_true] at hf
    have := hf.2
    rw [if_neg (by decide), if_neg (by decide), if_neg (by decide), if_neg (by decide), if_neg (by decide), if_neg (by decide)] at this
    cases this
theorem jT {t : Tree} (h : isSigP t = true) : ∀ u ∈ t.kids, u.kind = 163 → ∃ n' a' b' c, u = .node 163 n' a' b' [c] := by
  cases t with
  | nil => simp [isSigP] at h
  | node k n a b kids =>
    intro u hu hk
    rcases dA h with ⟨_, c, rfl, hc⟩ | ⟨_, hf, _⟩
    · have e : u = c := List.mem_singleton.1 hu
      subst e
      exact absurd hk (vT hc)
    · obtain ⟨n', a', b', c, e, _⟩ := cO (hf u hu)
      exact ⟨n', a', b', c, e⟩
/-- What stands at a label of a signature is one, and less than it. -/
theorem lM {t : Tree} (h : isSigP t = true) (hw : t.whole = true) (label : ByteArray) (hf : (fieldP label t.kids).2 = true) : isSigP (fieldP label t.kids).1 = true ∧ (fieldP label t.kids).1.whole = true ∧ (fieldP label t.kids).1.size < t.size := by
  cases t with
  | nil => simp [isSigP] at h
  | node k n a b kids =>
    change (fieldP label kids).2 = true at hf
    show isSigP (fieldP label kids).1 = true ∧ (fieldP label kids).1.whole = true ∧ (fieldP label kids).1.size < _
    rcases gT label kids 0 with ⟨_, h2⟩ | ⟨i, h1, _, h3, h4⟩
    · rw [h2] at hf; cases hf
    · rw [h3]
      dsimp only
      have hm := List.getElem_mem h1
      have hz := bN (k := k) (n := n) (a := a) (b := b) hm
      have hwk := bC hw hm
      unfold isLab at h4
      rw [Bool.and_eq_true, decide_eq_true_eq] at h4
      rcases dA h with ⟨_, c, rfl, hc⟩ | ⟨_, hfs, _⟩
      · have e := List.mem_singleton.1 hm
        rw [e] at h4
        exact absurd h4.1 (vT hc)
      · obtain ⟨n', a', b', c, e, hc⟩ := cO (hfs _ hm)
        rw [e] at hz hwk ⊢
        have hz2 := bN (k := 163) (n := n') (a := a') (b := b') (kids := [c]) (t := c) (by simp)
        show isSigP c = true ∧ c.whole = true ∧ c.size < _
        exact ⟨hc, bC hwk (by simp), by omega⟩
set_option maxHeartbeats 16000000 in
set_option maxRecDepth 10000 in
theorem aDs (b : Tree) : ∀ a : Tree, isSigP a = true → isSigP b = true → a.whole = true → b.whole = true → a.size ≤ 100000000 → b.size ≤ 100000000 → ACalls Tryz.prog 63 [.imm a.iv, .imm b.iv] [] (.imm (.lit (.bool (subP b a)))) [] := by
  induction b using Tree.sind with
  | h b ih =>
    intro a ha hb hwa hwb hsa hsb
    have hfk := jT ha
    have hfs := lM ha hwa
    obtain ⟨k, n, x, y, kids, rfl⟩ := bT hwb
    obtain ⟨k', n', x', y', kids', rfl⟩ := bT hwa
    have hl : kids.length < 1000000000 := by have := cE kids hwb; simp only [Tree.size] at hsb; omega
    have hl' : kids'.length < 1000000000 := by have := cE kids' hwa; simp only [Tree.size] at hsa; omega
    have cs := gZ (.node k' n' x' y' kids') (.node k n x y kids) (.inr hwa) (.inr hwb) hsa hsb
    obtain ⟨q, hQ0⟩ : ∃ q, subP (.node k n x y kids) (.node k' n' x' y' kids') = q := ⟨_, rfl⟩
    rw [hQ0]
    rw [subP] at hQ0
    by_cases hk : k' = k
    · rw [show decide ((Tree.node k' n' x' y' kids').kind = k) = true from decide_eq_true hk, Bool.true_and] at hQ0
      by_cases h162 : k = 162
      · rw [if_neg (by simpa using h162)] at hQ0
        subst h162
        subst hk
        have hfd : ∀ t ∈ kids, okSField t = true := by
          rcases dA hb with ⟨h, _⟩ | ⟨_, h, _⟩
          · omega
          · exact h
        have hcall : ∀ label, ACalls Tryz.prog 57 [.imm (Tree.iv (.node 162 n' x' y' kids')), .imm (.lit (.string label))] [] (.imm (.tup [(fieldP label kids').1.iv, .lit (.bool (fieldP label kids').2)])) [] := fun label => zN 162 n' x' y' kids' label hwa hl' hfk
        rw [sJ] at hQ0
        clear cs
        refine aI Tryz.func63 rfl rfl (nb rfl) rfl ?_
        repeat' (first | refine aF ?_ | (refine aH ?_;  first | refine aC tabOk rfl rfl rfl (nb rfl) rfl ?_ | (refine aJ rfl rfl rfl (nb rfl) rfl rfl rfl (fun hq => ?_) (fun hq => ?_) <;> (first | (simp only [sD, sE, sB, sC, sN, sM, sT, sF] at hq; try (exfalso; omega)) | skip)) | refine aV tabOk rfl rfl (nb rfl) rfl ?_) | (refine aL ?_;  first | refine aG ?_ | refine aM ?_ | refine aS ?_ | refine aT ?_ | refine aE (b := false) rfl nFt (fun _ => ?_) | refine aQ mixed (by kernel_rfl) ?_) | (refine aK ?_;  first | refine aU ?_) | refine bD (bB (by kernel_rfl)) ?_)
        all_goals first
          | exact absurd rfl (by assumption)
          | (exfalso; omega)
          | skip
        refine cD (ι := {j : Nat // j ≤ kids.length ∧ ∀ i (hi : i < kids.length), i < j → subK kids[i] (.node 162 n' x' y' kids') = true}) (fun j => S.f ⟨[(31, .imm (.lit (.int .i64 (j.1 : Int)))), (30, .imm (.lit (.int .i64 (kids.length : Int)))), (29, .imm (.sl false kids.length (Tree.ivs kids))), (0, .imm (Tree.iv (.node 162 n' x' y' kids')))], []⟩) (fun j => kids.length - j.1) ⟨0, Nat.zero_le _, fun i _ hi => absurd hi (Nat.not_lt_zero _)⟩ (bU (by repeat' first | exact trivial | refine ⟨rfl, ?_⟩) (by repeat' first | exact trivial | refine ⟨rfl, ?_⟩)) ?_
        rintro ⟨j, hj, hok⟩
        dsimp only
        by_cases hlt : j < kids.length
        · have hm := List.getElem_mem hlt
          have hz := bN (k := 162) (n := n) (a := x) (b := y) hm
          have hwk := bC hwb hm
          have hget := cG kids j hlt
          have hbad : subK kids[j] (.node 162 n' x' y' kids') = false → q = false := fun h => by rw [← hQ0]; exact gO hlt h
          have hgood : subK kids[j] (.node 162 n' x' y' kids') = true → ∀ i (hi : i < kids.length), i < j + 1 → subK kids[i] (.node 162 n' x' y' kids') = true := fun hb i hi hij => by
            by_cases e : i = j
            · subst e; exact hb
            · exact hok i hi (by omega)
          obtain ⟨n1, a1, b1, c, e, hc⟩ := cO (hfd _ hm)
          rw [e] at hz hwk hget hbad hgood
          have hz2 := bN (k := 163) (n := n1) (a := a1) (b := b1) (kids := [c]) (t := c) (by simp)
          have hwc := bC hwk (List.mem_singleton.2 rfl)
          have hK : subK (.node 163 n1 a1 b1 [c]) (.node 162 n' x' y' kids') = ((fieldP a1 kids').2 && subP c (fieldP a1 kids').1) := by rw [subK, sub1]; rfl
          rw [hK] at hbad hgood
          have hff := hfs a1
          change (fieldP a1 kids').2 = true → isSigP (fieldP a1 kids').1 = true ∧ (fieldP a1 kids').1.whole = true ∧ (fieldP a1 kids').1.size < _ at hff
          have cf := hcall a1
          have cr := fun (h1 : isSigP (fieldP a1 kids').1 = true) (h2 : (fieldP a1 kids').1.whole = true) (h3 : (fieldP a1 kids').1.size ≤ 100000000) => ih c (by omega) (fieldP a1 kids').1 h1 hc h2 hwc h3 (by omega)
          clear ih hcall hfs hfd hfk hQ0 hK e
          generalize fieldP a1 kids' = FP at *
          obtain ⟨F1, F2⟩ := FP
          dsimp only at *
          cases F2 with
          | false =>
            have e1 := hbad rfl
            subst e1
            repeat' (first | refine aF ?_ | (refine aH ?_;  first | refine aC tabOk rfl rfl rfl (nb rfl) rfl ?_ | refine bO rfl rfl (nb rfl) ?_ | (refine aJ rfl rfl rfl (nb rfl) rfl rfl rfl (fun hq => ?_) (fun hq => ?_) <;> (first | (simp only [sD, sE, sB, sC, sN, sM, sT, sF] at hq; try (exfalso; omega)) | skip)) | refine bE tabOk rfl rfl rfl (nb rfl) rfl rfl rfl hget ?_ | refine aD rfl rfl (nb rfl) rfl rfl rfl rfl (cf) ?_ | refine bF tabOk rfl rfl rfl (nb rfl) rfl rfl rfl rfl (by first | assumption | omega) ?_) | (refine aL ?_;  first | refine aG ?_ | refine aM ?_ | refine aS ?_ | refine aN ?_ | refine aT ?_ | refine aE (b := true) rfl (fun _ => ?_) nTf) | (refine aK ?_;  first | refine aU ?_ | refine aO ?_) | (refine aR ?_;  first | refine aZ ?_))
            all_goals first
              | exact absurd rfl (by assumption)
              | (exfalso; omega)
              | (refine aP (by first | exact .inl rfl | exact .inr rfl) (aX rfl (aB rfl)) rfl ?_; rfl)
          | true =>
            obtain ⟨g1, g2, g3⟩ := hff rfl
            have cr := cr g1 g2 (by omega)
            cases hS : subP c F1 with
            | false =>
              rw [hS] at cr hbad
              have e1 := hbad rfl
              subst e1
              repeat' (first | refine aF ?_ | (refine aH ?_;  first | refine aC tabOk rfl rfl rfl (nb rfl) rfl ?_ | (refine aJ rfl rfl rfl (nb rfl) rfl rfl rfl (fun hq => ?_) (fun hq => ?_) <;> (first | (simp only [sD, sE, sB, sC, sN, sM, sT, sF] at hq; try (exfalso; omega)) | skip)) | refine bE tabOk rfl rfl rfl (nb rfl) rfl rfl rfl hget ?_ | refine aD rfl rfl (nb rfl) rfl rfl rfl rfl (cf) ?_ | refine aD rfl rfl (nb rfl) rfl rfl rfl rfl (cr) ?_ | refine bF tabOk rfl rfl rfl (nb rfl) rfl rfl rfl rfl (by first | assumption | omega) ?_ | refine aY tabOk rfl rfl rfl (nb rfl) rfl rfl rfl rfl (by first | rfl | omega) (by first | omega | simp) ?_) | (refine aL ?_;  first | refine aG ?_ | refine aM ?_ | refine aS ?_ | refine aN ?_ | refine aT ?_ | refine aE (b := true) rfl (fun _ => ?_) nTf) | (refine aK ?_;  first | refine aU ?_ | refine aO ?_) | (refine aR ?_;  first | refine aZ ?_))
              all_goals first
                | exact absurd rfl (by assumption)
                | (exfalso; omega)
                | (refine aP (by first | exact .inl rfl | exact .inr rfl) (aX rfl (aB rfl)) rfl ?_; rfl)
            | true =>
              rw [hS] at cr hgood
              have hg := hgood rfl
              repeat' (first | refine aF ?_ | (refine aH ?_;  first | refine aC tabOk rfl rfl rfl (nb rfl) rfl ?_ | (refine aJ rfl rfl rfl (nb rfl) rfl rfl rfl (fun hq => ?_) (fun hq => ?_) <;> (first | (simp only [sD, sE, sB, sC, sN, sM, sT, sF] at hq; try (exfalso; omega)) | skip)) | refine bE tabOk rfl rfl rfl (nb rfl) rfl rfl rfl hget ?_ | refine aD rfl rfl (nb rfl) rfl rfl rfl rfl (cf) ?_ | refine aD rfl rfl (nb rfl) rfl rfl rfl rfl (cr) ?_ | refine bQ rfl rfl rfl (nb rfl) rfl rfl (by omega) ?_ | refine bF tabOk rfl rfl rfl (nb rfl) rfl rfl rfl rfl (by first | assumption | omega) ?_ | refine aY tabOk rfl rfl rfl (nb rfl) rfl rfl rfl rfl (by first | rfl | omega) (by first | omega | simp) ?_) | (refine aL ?_;  first | refine aG ?_ | refine aM ?_ | refine bI ?_ | refine aS ?_ | refine aT ?_ | refine aE (b := true) rfl (fun _ => ?_) nTf | refine aE (b := false) rfl nFt (fun _ => ?_)) | (refine aK ?_;  first | refine aU ?_) | (refine aR ?_;  first | refine bP ?_))
              all_goals first
                | exact absurd rfl (by assumption)
                | (exfalso; omega)
                | exact ⟨⟨j + 1, hlt, hg⟩, (by show kids.length - (j + 1) < kids.length - j; omega), (bU (by repeat' first | exact trivial | refine ⟨rfl, ?_⟩) (by repeat' first | exact trivial | refine ⟨rfl, ?_⟩))⟩
        · have e1 : q = true := by rw [← hQ0]; exact iO fun i hi => hok i hi (by omega)
          subst e1
          repeat' (first | refine aF ?_ | (refine aH ?_;  first | refine aC tabOk rfl rfl rfl (nb rfl) rfl ?_ | (refine aJ rfl rfl rfl (nb rfl) rfl rfl rfl (fun hq => ?_) (fun hq => ?_) <;> (first | (simp only [sD, sE, sB, sC, sN, sM, sT, sF] at hq; try (exfalso; omega)) | skip))) | (refine aL ?_;  first | refine aG ?_ | refine aM ?_ | refine aN ?_ | refine bR ?_ | refine aE (b := false) rfl nFt (fun _ => ?_)) | (refine aK ?_;  first | refine aU ?_ | refine bJ ?_) | (refine aR ?_;  first | refine bH ?_))
          all_goals first
            | (exfalso; omega)
            | (refine aP (by first | exact .inl rfl | exact .inr rfl) (aX rfl (aB rfl)) rfl ?_; rfl)
      · rw [if_pos h162] at hQ0
        rw [hQ0] at cs
        clear ih
        refine aI Tryz.func63 rfl rfl (nb rfl) rfl ?_
        repeat' (first | refine aF ?_ | (refine aH ?_;  first | refine aC tabOk rfl rfl rfl (nb rfl) rfl ?_ | (refine aJ rfl rfl rfl (nb rfl) rfl rfl rfl (fun hq => ?_) (fun hq => ?_) <;> (first | (simp only [sD, sE, sB, sC, sN, sM, sT, sF] at hq; try (exfalso; omega)) | skip)) | refine aD rfl rfl (nb rfl) rfl rfl rfl rfl (cs) ?_) | (refine aL ?_;  first | refine aG ?_ | refine aM ?_ | refine aN ?_ | refine aT ?_ | refine aE (b := true) rfl (fun _ => ?_) nTf | refine aE (b := false) rfl nFt (fun _ => ?_) | refine aQ mixed (by kernel_rfl) ?_) | (refine aK ?_;  first | refine aU ?_ | refine aO ?_) | refine bD (bB (by kernel_rfl)) ?_)
        all_goals first
          | exact absurd hk (by assumption)
          | (exfalso; omega)
          | (refine aP (by first | exact .inl rfl | exact .inr rfl) (aX rfl (aB rfl)) rfl ?_; rfl)
    · rw [show decide ((Tree.node k' n' x' y' kids').kind = k) = false from decide_eq_false hk, Bool.false_and] at hQ0
      subst hQ0
      clear ih cs
      refine aI Tryz.func63 rfl rfl (nb rfl) rfl ?_
      repeat' (first | refine aF ?_ | (refine aH ?_;  first | refine aC tabOk rfl rfl rfl (nb rfl) rfl ?_ | (refine aJ rfl rfl rfl (nb rfl) rfl rfl rfl (fun hq => ?_) (fun hq => ?_) <;> (first | (simp only [sD, sE, sB, sC, sN, sM, sT, sF] at hq; try (exfalso; omega)) | skip))) | (refine aL ?_;  first | refine aG ?_ | refine aM ?_ | refine aN ?_ | refine aE (b := true) rfl (fun _ => ?_) nTf | refine aQ mixed (by kernel_rfl) ?_) | (refine aK ?_;  first | refine aU ?_ | refine aO ?_) | refine bD (bB (by kernel_rfl)) ?_)
      all_goals first
        | exact absurd (by assumption) hk
        | (refine aP (by first | exact .inl rfl | exact .inr rfl) (aX rfl (aB rfl)) rfl ?_; rfl)
end Go.Proofs.YtlbemgokilhdnaaGreat.Ab
namespace Go.Proofs.YtlbemgokilhdnaaGreat.Ab
set_option linter.unusedVariables false
set_option linter.unusedSimpArgs false
attribute [local irreducible] AWP AOps AExit AThen ABlock ANoGoto FeetOk
/-- How many constructors a node of a signature binds in its kids. -/
def sbindsP (k n : Int) : Int := if k = 164 ∨ k = 165 then n else 0
set_option maxRecDepth 10000 in
theorem vU (k n : Int) (a b : ByteArray) (kids : List Tree) : ACalls Tryz.prog 133 [.imm (Tree.iv (.node k n a b kids))] [] (.imm (.lit (.int .i64 (sbindsP k n)))) [] := by
  refine aI Tryz.func133 rfl rfl (nb rfl) rfl ?_
  repeat' (first | refine aF ?_ | (refine aH ?_;  first | refine aC tabOk rfl rfl rfl (nb rfl) rfl ?_ | refine bO rfl rfl (nb rfl) ?_ | (refine aJ rfl rfl rfl (nb rfl) rfl rfl rfl (fun hq => ?_) (fun hq => ?_) <;> (first | (simp only [sD, sE, sB, sC, sN, sM, sT, sF] at hq; try (exfalso; omega)) | skip))) | (refine aL ?_;  first | refine aG ?_ | refine aM ?_ | refine aN ?_ | refine aT ?_ | refine aE (b := true) rfl (fun _ => ?_) nTf | refine aE (b := false) rfl nFt (fun _ => ?_)) | (refine aK ?_;  first | refine aU ?_ | refine aO ?_))
  all_goals (refine aP (by first | exact .inl rfl | exact .inr rfl) (aX rfl (aB rfl)) rfl ?_; refine jO ?_; unfold sbindsP; first | (rw [if_pos (by omega)]; done) | (rw [if_neg (by omega)]; done))
mutual
/-- Is a tree one of signatures, down to constructors that are checked, with so many binders around at most? -/
def okW : Tree → Int → Bool
  | .nil, _ => false
  | .node k n a b kids, B => if k < 160 then checkP isConP (.node k n a b kids) == 0 else decide (0 ≤ sbindsP k n ∧ sbindsP k n ≤ B) && okWs kids (B - sbindsP k n)
def okWs : List Tree → Int → Bool
  | [], _ => true
  | t :: ts, B => okW t B && okWs ts B
end
theorem qM {B : Int} : ∀ {l : List Tree}, okWs l B = true → ∀ t ∈ l, okW t B = true
  | x :: xs, h, t, ht => by
    simp only [okWs, Bool.and_eq_true] at h
    rcases List.mem_cons.1 ht with rfl | ht
    · exact h.1
    · exact qM h.2 t ht
theorem zO {B : Int} : ∀ {l : List Tree}, (∀ t ∈ l, okW t B = true) → okWs l B = true
  | [], _ => by rw [okWs]
  | x :: xs, h => by
    simp only [okWs, Bool.and_eq_true]
    exact ⟨h x (by simp), zO fun t ht => h t (by simp [ht])⟩
theorem uE {c : Tree} (h : checkP isConP c = 0) : ∃ k n a b ks, c = .node k n a b ks ∧ k < 160 := by
  obtain ⟨_, _, hf⟩ := bG h
  cases c with
  | nil => simp [isConP] at hf
  | node k n a b ks =>
    refine ⟨k, n, a, b, ks, rfl, ?_⟩
    rw [isConP, Bool.and_eq_true] at hf
    have := hf.2
    by_cases h1 : k < 160
    · exact h1
    · rw [if_neg (by omega), if_neg (by omega), if_neg (by omega), if_neg (by omega), if_neg (by omega), if_neg (by omega)] at this
      cases this
theorem aCB {c : Tree} (h : checkP isConP c = 0) (B : Int) : okW c B = true := by
  obtain ⟨k, n, a, b, ks, rfl, hk⟩ := uE h
  rw [okW, if_pos hk, h]
  rfl
theorem uF (t : Tree) : isSigP t = true → ∀ B : Int, 0 ≤ B → okW t B = true := by
  induction t using Tree.sind with
  | h t ih =>
    intro h B hB
    cases t with
    | nil => simp [isSigP] at h
    | node k n a b kids =>
      rcases dA h with ⟨hk, c, rfl, hc⟩ | ⟨hk, hf, _⟩
      · have h0 : sbindsP k n = 0 := by unfold sbindsP; rw [if_neg (by omega)]
        rw [okW, if_neg (by omega), h0, decide_eq_true (by omega), Bool.true_and, okWs, okWs, aCB hc, Bool.and_true]
      · have h0 : sbindsP k n = 0 := by unfold sbindsP; rw [if_neg (by omega)]
        rw [okW, if_neg (by omega), h0, decide_eq_true (by omega), Bool.true_and]
        refine zO fun u hu => ?_
        have hz := bN (k := k) (n := n) (a := a) (b := b) hu
        obtain ⟨n', a', b', c, rfl, hc⟩ := cO (hf u hu)
        have hz2 := bN (k := 163) (n := n') (a := a') (b := b') (kids := [c]) (t := c) (by simp)
        have h1 : sbindsP 163 n' = 0 := by unfold sbindsP; rw [if_neg (by omega)]
        rw [okW, if_neg (by omega), h1, decide_eq_true (by omega), Bool.true_and, okWs, okWs, ih c (by omega) hc _ (by omega), Bool.and_true]
theorem iI {n : Int} {a b : ByteArray} {nm : Bool} (h : sbareP n a b nm true = true) : 0 ≤ n ∧ n ≤ 8192 := by
  simp only [sbareP, Bool.true_and, Bool.and_eq_true, Bool.or_eq_true, decide_eq_true_eq, beq_iff_eq] at h
  omega
theorem aBy {t : Tree} (h : isExP t = true) (B : Int) (hB : 8192 ≤ B) : okW t B = true := by
  unfold isExP at h
  split at h
  · rename_i k n a b c
    simp only [Bool.and_eq_true, beq_iff_eq] at h
    obtain ⟨⟨rfl, h1⟩, h2⟩ := h
    have h3 := iI h1
    have h0 : sbindsP 164 n = n := by unfold sbindsP; rw [if_pos (by omega)]
    rw [okW, if_neg (by omega), h0, decide_eq_true (by omega), Bool.true_and, okWs, okWs, uF c h2 _ (by omega), Bool.and_true]
  · cases h
theorem aCC {t : Tree} (h : isFunP t = true) (B : Int) (hB : 16384 ≤ B) : okW t B = true := by
  unfold isFunP at h
  split at h
  · rename_i k n a b x y
    simp only [Bool.and_eq_true, beq_iff_eq] at h
    obtain ⟨⟨rfl, h1⟩, h2, h3⟩ := h
    have h4 := iI h1
    have h0 : sbindsP 165 n = n := by unfold sbindsP; rw [if_pos (by omega)]
    rw [okW, if_neg (by omega), h0, decide_eq_true (by omega), Bool.true_and, okWs, okWs, okWs, uF x h2 _ (by omega), aBy h3 _ (by omega), Bool.and_true, Bool.and_true]
  · cases h
theorem vV {t : Tree} (h : sformP t = true) : okW t 16384 = true := by
  unfold sformP at h
  rw [Bool.or_eq_true, Bool.or_eq_true] at h
  rcases h with h | h | h
  · exact uF t h _ (by omega)
  · exact aBy h _ (by omega)
  · exact aCC h _ (by omega)
mutual
/-- A signature made anew, its constructors as C says; the error. -/
def swalkP (C : Tree → Int → Tree × Int) : Tree → Int → Tree × Int
  | .nil, _ => (.nil, 0)
  | .node k n a b kids, d => if k < 160 then C (.node k n a b kids) d else if (swalkPs C kids (d + sbindsP k n)).2 ≠ 0 then (.nil, (swalkPs C kids (d + sbindsP k n)).2) else (.node k n a b (swalkPs C kids (d + sbindsP k n)).1, 0)
def swalkPs (C : Tree → Int → Tree × Int) : List Tree → Int → List Tree × Int
  | [], _ => ([], 0)
  | t :: ts, d => if (swalkP C t d).2 ≠ 0 then ([], (swalkP C t d).2) else if (swalkPs C ts d).2 ≠ 0 then ([], (swalkPs C ts d).2) else ((swalkP C t d).1 :: (swalkPs C ts d).1, 0)
end
section
variable (C : Tree → Int → Tree × Int)
theorem mQ (d : Int) (t : Tree) : ∀ (l : List Tree), (swalkPs C l d).2 = 0 → (swalkP C t d).2 = 0 → swalkPs C (l ++ [t]) d = ((swalkPs C l d).1 ++ [(swalkP C t d).1], 0)
  | [], _, h => by
    simp [swalkPs, h]
  | x :: l, h1, h2 => by
    rw [swalkPs] at h1
    by_cases c1 : (swalkP C x d).2 ≠ 0
    · rw [if_pos c1] at h1; exact absurd h1 c1
    · rw [if_neg c1] at h1
      by_cases c2 : (swalkPs C l d).2 ≠ 0
      · rw [if_pos c2] at h1; exact absurd h1 c2
      · have ih := mQ d t l (by omega) h2
        rw [List.cons_append, swalkPs, if_neg c1, ih, swalkPs, if_neg c1, if_neg c2]
        simp
theorem mR (d : Int) {l : List Tree} {j : Nat} (hj : j < l.length) (h : (swalkPs C (l.take j) d).2 = 0) (h2 : (swalkP C l[j] d).2 ≠ 0) : (swalkPs C l d).2 = (swalkP C l[j] d).2 := by
  induction l generalizing j with
  | nil => simp at hj
  | cons x l ih =>
    cases j with
    | zero =>
      rw [List.getElem_cons_zero] at h2 ⊢
      rw [swalkPs, if_pos h2]
    | succ j =>
      rw [List.getElem_cons_succ] at h2 ⊢
      rw [List.take_succ_cons, swalkPs] at h
      by_cases c1 : (swalkP C x d).2 ≠ 0
      · rw [if_pos c1] at h; exact absurd h c1
      · rw [if_neg c1] at h
        by_cases c2 : (swalkPs C (l.take j) d).2 ≠ 0
        · rw [if_pos c2] at h; exact absurd h c2
        · have := ih (by simpa using hj) (by omega) h2
          rw [swalkPs, if_neg c1, if_pos (by rw [this]; exact h2)]
          exact this
theorem mS (d : Int) {l : List Tree} {j : Nat} (hj : j < l.length) (h1 : (swalkPs C (l.take j) d).2 = 0) (h2 : (swalkP C l[j] d).2 = 0) : swalkPs C (l.take (j + 1)) d = ((swalkPs C (l.take j) d).1 ++ [(swalkP C l[j] d).1], 0) := by
  rw [List.take_succ_eq_append_getElem hj]
  exact mQ C d _ _ h1 h2
theorem fD (d : Int) : ∀ (l : List Tree), (swalkPs C l d).2 = 0 → (swalkPs C l d).1.length = l.length
  | [], _ => by rw [swalkPs]
  | x :: l, h => by
    rw [swalkPs] at h ⊢
    by_cases c1 : (swalkP C x d).2 ≠ 0
    · rw [if_pos c1] at h; exact absurd h c1
    · rw [if_neg c1] at h ⊢
      by_cases c2 : (swalkPs C l d).2 ≠ 0
      · rw [if_pos c2] at h; exact absurd h c2
      · rw [if_neg c2, List.length_cons, List.length_cons, fD d l (by omega)]
end
set_option maxHeartbeats 8000000 in
set_option maxRecDepth 10000 in
theorem aBz (C : Tree → Int → Tree × Int) (F : FuncId) 
    (hC : ∀ (t : Tree) (d : Int), checkP isConP t = 0 → 0 ≤ d → d ≤ 20000 → ACalls Tryz.prog F ([.imm t.iv, .imm (.lit (.int .i64 d))]) [] (.imm (.tup [(C t d).1.iv, .lit (.int .i64 (C t d).2)])) [] ∧ ((C t d).2 = 0 → (C t d).1 ≠ .nil)) (t : Tree) :
    ∀ (d B : Int), okW t B = true → t.whole = true → 0 ≤ d → d + B ≤ 20000 → 0 ≤ B → t.size ≤ 100000000 → ACalls Tryz.prog 98 [.imm t.iv, .imm (.lit (.int .i64 d)), .imm (.func F [] [])] [] (.imm (.tup [(swalkP C t d).1.iv, .lit (.int .i64 (swalkP C t d).2)])) [] ∧ ((swalkP C t d).2 = 0 → (swalkP C t d).1 ≠ .nil) := by
  induction t using Tree.ind with
  | h1 => intro d B _ h; simp [Tree.whole] at h
  | h2 k n a b kids ih =>
    intro d B hv hw hd hs hB0 hsz
    have hl := cE kids hw
    simp only [Tree.size] at hsz
    rw [okW] at hv
    by_cases k160 : k < 160
    · rw [if_pos k160] at hv
      obtain ⟨hc, hne⟩ := hC (.node k n a b kids) d (by simpa using hv) hd (by omega)
      rw [swalkP, if_pos k160]
      refine ⟨?_, hne⟩
      clear hne ih hC
      generalize C (.node k n a b kids) d = R at *
      obtain ⟨R1, R2⟩ := R
      dsimp only at hc ⊢
      refine bX [] Tryz.func98 rfl rfl (nb rfl) rfl rfl ?_
      repeat' (first | refine aF ?_ | (refine aH ?_;  first | refine aC tabOk rfl rfl rfl (nb rfl) rfl ?_ | (refine aJ rfl rfl rfl (nb rfl) rfl rfl rfl (fun hq => ?_) (fun hq => ?_) <;> (first | (simp only [sD, sE, sB, sC, sN, sM, sT, sF] at hq; try (exfalso; omega)) | skip)) | refine bW rfl rfl (nb rfl) rfl rfl rfl rfl hc (by repeat' first | exact trivial | refine ⟨rfl, ?_⟩) rfl (by show ([] : List Nat).Nodup; decide) ?_) | (refine aL ?_;  first | refine aG ?_ | refine aM ?_ | refine aN ?_ | refine aE (b := true) rfl (fun _ => ?_) nTf) | (refine aK ?_;  first | refine aO ?_))
      all_goals first
        | (exfalso; omega)
        | (refine cC (bZ (by first | exact .inl rfl | exact .inr rfl) (aW rfl (aB rfl) (aB rfl)) rfl (by repeat' first | exact trivial | refine ⟨rfl, ?_⟩) rfl ?_); rfl)
    · rw [if_neg k160, Bool.and_eq_true, decide_eq_true_eq] at hv
      obtain ⟨⟨hb0, hb1⟩, hks⟩ := hv
      have cb := vU k n a b kids
      rw [swalkP, if_neg k160]
      generalize hdd : d + sbindsP k n = dd at *
      have hind : ∀ j (h : j < kids.length), ACalls Tryz.prog 98 [.imm kids[j].iv, .imm (.lit (.int .i64 dd)), .imm (.func F [] [])] [] (.imm (.tup [(swalkP C kids[j] dd).1.iv, .lit (.int .i64 (swalkP C kids[j] dd).2)])) [] ∧ ((swalkP C kids[j] dd).2 = 0 → (swalkP C kids[j] dd).1 ≠ .nil) := fun j h => by
        have hm := List.getElem_mem h
        have hz := cR hm
        exact ih _ hm dd (B - sbindsP k n) (qM hks _ hm) (bC hw hm) (by omega) (by omega) (by omega) (by omega)
      clear ih hks
      refine ⟨?_, fun h => by split at h; exact absurd h (by assumption); rename_i h0; rw [if_neg h0]; simp⟩
      generalize sbindsP k n = sb at *
      generalize hR : (if (swalkPs C kids dd).2 ≠ 0 then (Tree.nil, (swalkPs C kids dd).2) else (.node k n a b (swalkPs C kids dd).1, 0)) = R
      refine bX [] Tryz.func98 rfl rfl (nb rfl) rfl rfl ?_
      repeat' (first | refine aF ?_ | (refine aH ?_;  first | refine aC tabOk rfl rfl rfl (nb rfl) rfl ?_ | (refine aJ rfl rfl rfl (nb rfl) rfl rfl rfl (fun hq => ?_) (fun hq => ?_) <;> (first | (simp only [sD, sE, sB, sC, sN, sM, sT, sF] at hq; try (exfalso; omega)) | skip)) | refine aV tabOk rfl rfl (nb rfl) rfl ?_ | refine cU tabOk rfl rfl rfl (nb rfl) rfl rfl rfl rfl rfl rfl ?_ | refine bK tabOk rfl rfl rfl rfl rfl rfl rfl rfl rfl rfl rfl ?_) | (refine aL ?_;  first | refine aG ?_ | refine aM ?_ | refine aS ?_ | refine aT ?_ | refine aE (b := false) rfl nFt (fun _ => ?_)) | (refine aK ?_;  first | refine aU ?_))
      all_goals first
        | (exfalso; omega)
        | skip
      refine cT (dY (h0 := 8) (k0 := 4) 500 25 1 rfl rfl (by simp) rfl rfl) ?_
      refine cD (ι := {j : Nat // j ≤ kids.length ∧ (swalkPs C (kids.take j) dd).2 = 0}) (fun j => S.f ⟨[(33, .imm (.lit (.int .i64 (j.1 : Int)))), (32, .imm (.lit (.int .i64 (kids.length : Int)))), (31, .imm (.sl false kids.length (Tree.ivs kids))), (8, .obj 8 0), (0, .imm (Tree.iv (.node k n a b kids))), (1, .imm (.lit (.int .i64 d))), (2, .imm (.func F [] []))], (500, .arr 25 1 j.1 (Tree.ivs (swalkPs C (kids.take j.1) dd).1)) :: (8, .cells [.imm (.lit (.int .i64 k)), .imm (.lit (.int .i64 n)), .imm (.lit (.string a)), .imm (.lit (.string b)), .ref 500 j.1]) :: []⟩) (fun j => kids.length - j.1) ⟨0, Nat.zero_le _, by rw [List.take_zero, swalkPs]⟩ (bU (by repeat' first | exact trivial | refine ⟨rfl, ?_⟩) (by repeat' first | exact trivial | refine ⟨rfl, ?_⟩)) ?_
      rintro ⟨j, hj, hok⟩
      dsimp only
      by_cases hlt : j < kids.length
      · have hget := cG kids j hlt
        obtain ⟨hc, hnn⟩ := hind j hlt
        have hll := fD C dd (kids.take j) hok
        rw [List.length_take, Nat.min_eq_left hj] at hll
        have hst := mR C dd hlt hok
        have htk := mS C dd hlt hok
        clear hind hC
        have hil := cX (swalkPs C (kids.take j) dd).1
        rw [hll] at hil
        generalize swalkPs C (kids.take j) dd = Z at *
        obtain ⟨Z1, Z2⟩ := Z
        generalize swalkP C kids[j] dd = W at *
        obtain ⟨W1, W2⟩ := W
        dsimp only at *
        by_cases h0 : W2 = 0
        · subst h0
          have htk := htk rfl
          obtain ⟨pc, hpc⟩ := bV (hnn rfl)
          rw [hpc] at hc
          have hiv : Tree.ivs (swalkPs C (kids.take (j + 1)) dd).1 = Tree.ivs Z1 ++ [.ptr pc 0] := by
            rw [htk, cQ, cQ, List.map_append, ← hpc]; rfl
          have hok2 : (swalkPs C (kids.take (j + 1)) dd).2 = 0 := by rw [htk]
          generalize Tree.ivs Z1 = ZI at *
          repeat' (first | refine aF ?_ | (refine aH ?_;  first | refine aC tabOk rfl rfl rfl (nb rfl) rfl ?_ | (refine aJ rfl rfl rfl (nb rfl) rfl rfl rfl (fun hq => ?_) (fun hq => ?_) <;> (first | (simp only [sD, sE, sB, sC, sN, sM, sT, sF] at hq; try (exfalso; omega)) | skip)) | refine bE tabOk rfl rfl rfl (nb rfl) rfl rfl rfl hget ?_ | refine aD rfl rfl (nb rfl) rfl rfl rfl rfl (cb) ?_ | refine cS (z := dd) rfl rfl rfl (nb rfl) rfl rfl hdd (by omega) (by omega) ?_ | refine bW rfl rfl (nb rfl) rfl rfl rfl rfl hc (by repeat' first | exact trivial | refine ⟨rfl, ?_⟩) rfl (by show ([] : List Nat).Nodup; decide) ?_ | refine cM tabOk rfl rfl rfl (nb rfl) rfl rfl rfl rfl rfl rfl rfl (by first | omega | decide) rfl (by first | omega | (dsimp only; omega)) (by first | omega | (dsimp only; omega)) ?_ | refine bQ rfl rfl rfl (nb rfl) rfl rfl (by omega) ?_ | refine bY tabOk rfl rfl rfl (nb rfl) rfl rfl rfl rfl rfl rfl rfl rfl rfl ?_ | refine bM tabOk rfl rfl rfl (nb rfl) rfl rfl rfl rfl ?_ | refine bK tabOk rfl rfl rfl rfl rfl rfl rfl rfl rfl rfl rfl ?_ | refine bF tabOk rfl rfl rfl (nb rfl) rfl rfl rfl rfl (by first | assumption | omega) ?_) | (refine aL ?_;  first | refine aG ?_ | refine aM ?_ | refine bI ?_ | refine aS ?_ | refine aT ?_ | refine aE (b := true) rfl (fun _ => ?_) nTf | refine aE (b := false) rfl nFt (fun _ => ?_)) | (refine aK ?_;  first | refine aU ?_) | (refine aR ?_;  first | refine bP ?_))
          all_goals first
            | exact absurd rfl (by assumption)
            | (exfalso; omega)
            | (refine ⟨⟨j + 1, hlt, hok2⟩, (by show kids.length - (j + 1) < kids.length - j; omega), ?_⟩; dsimp only; rw [hiv]; exact (bU (by repeat' first | exact trivial | refine ⟨rfl, ?_⟩) (by repeat' first | exact trivial | refine ⟨rfl, ?_⟩)))
        · have hs2 := hst h0
          rw [hs2, if_pos h0] at hR
          subst hR
          repeat' (first | refine aF ?_ | (refine aH ?_;  first | refine aC tabOk rfl rfl rfl (nb rfl) rfl ?_ | (refine aJ rfl rfl rfl (nb rfl) rfl rfl rfl (fun hq => ?_) (fun hq => ?_) <;> (first | (simp only [sD, sE, sB, sC, sN, sM, sT, sF] at hq; try (exfalso; omega)) | skip)) | refine bE tabOk rfl rfl rfl (nb rfl) rfl rfl rfl hget ?_ | refine aD rfl rfl (nb rfl) rfl rfl rfl rfl (cb) ?_ | refine cS (z := dd) rfl rfl rfl (nb rfl) rfl rfl hdd (by omega) (by omega) ?_ | refine bW rfl rfl (nb rfl) rfl rfl rfl rfl hc (by repeat' first | exact trivial | refine ⟨rfl, ?_⟩) rfl (by show ([] : List Nat).Nodup; decide) ?_ | refine bF tabOk rfl rfl rfl (nb rfl) rfl rfl rfl rfl (by first | assumption | omega) ?_) | (refine aL ?_;  first | refine aG ?_ | refine aM ?_ | refine aS ?_ | refine aN ?_ | refine aT ?_ | refine aE (b := true) rfl (fun _ => ?_) nTf) | (refine aK ?_;  first | refine aU ?_ | refine aO ?_) | (refine aR ?_;  first | refine aZ ?_))
          all_goals first
            | exact absurd (by assumption) h0
            | (exfalso; omega)
            | (refine cC (bZ (by first | exact .inl rfl | exact .inr rfl) (aW rfl (aB rfl) (aB rfl)) rfl (by repeat' first | exact trivial | refine ⟨rfl, ?_⟩) rfl ?_); rfl)
      · have ej : j = kids.length := by omega
        subst ej
        rw [List.take_length] at hok ⊢
        rw [if_neg (by simpa using hok)] at hR
        subst hR
        have hll := fD C dd kids hok
        clear hind hC
        generalize swalkPs C kids dd = Z at *
        obtain ⟨Z1, Z2⟩ := Z
        dsimp only at *
        have hiv : (Tree.node k n a b Z1).iv = .ptr [.lit (.int .i64 k), .lit (.int .i64 n), .lit (.string a), .lit (.string b), .sl false kids.length (Tree.ivs Z1)] 0 := by rw [Tree.iv, hll]
        rw [hiv]
        generalize Tree.ivs Z1 = ZI at *
        repeat' (first | refine aF ?_ | (refine aH ?_;  first | refine aC tabOk rfl rfl rfl (nb rfl) rfl ?_ | (refine aJ rfl rfl rfl (nb rfl) rfl rfl rfl (fun hq => ?_) (fun hq => ?_) <;> (first | (simp only [sD, sE, sB, sC, sN, sM, sT, sF] at hq; try (exfalso; omega)) | skip))) | (refine aL ?_;  first | refine aG ?_ | refine aM ?_ | refine aN ?_ | refine bR ?_ | refine aE (b := false) rfl nFt (fun _ => ?_)) | (refine aK ?_;  first | refine aU ?_ | refine bJ ?_) | (refine aR ?_;  first | refine bH ?_))
        all_goals first
          | (exfalso; omega)
          | (refine gB ((Imp.of_le (σ' := S.f ⟨[(6, .obj 8 0), (7, .imm (.lit (.int .i64 0)))], (500, .arr 25 1 kids.length ZI) :: (8, .cells [.imm (.lit (.int .i64 k)), .imm (.lit (.int .i64 n)), .imm (.lit (.string a)), .imm (.lit (.string b)), .ref 500 kids.length]) :: []⟩) (bU (by repeat' first | exact trivial | refine ⟨rfl, ?_⟩) (by repeat' first | exact trivial | refine ⟨rfl, ?_⟩))).trans ((cP (g := 500) rfl (by repeat' first | exact trivial | exact fun _ => rfl | refine ⟨?_, ?_⟩) (by repeat' first | exact trivial | exact fun _ => rfl | refine ⟨?_, ?_⟩)).trans (dD (g := 8) rfl rfl))) ?_
             refine bZ (by first | exact .inl rfl | exact .inr rfl) (aW rfl (aB rfl) (aB rfl)) rfl (by repeat' first | exact trivial | refine ⟨rfl, ?_⟩) rfl rfl)
set_option maxHeartbeats 8000000 in
set_option maxRecDepth 10000 in
theorem aBA (C : Tree → Int → Tree × Int) (F : FuncId) (x0 x1 : IV)
    (hC : ∀ (t : Tree) (d : Int), checkP isConP t = 0 → 0 ≤ d → d ≤ 20000 → ACalls Tryz.prog F ([.imm t.iv, .imm (.lit (.int .i64 d)), .obj 1000 0, .obj 1001 0]) [(1000, .cells [.imm x0]), (1001, .cells [.imm x1])] (.imm (.tup [(C t d).1.iv, .lit (.int .i64 (C t d).2)])) [(1000, .cells [.imm x0]), (1001, .cells [.imm x1])] ∧ ((C t d).2 = 0 → (C t d).1 ≠ .nil)) (t : Tree) :
    ∀ (d B : Int), okW t B = true → t.whole = true → 0 ≤ d → d + B ≤ 20000 → 0 ≤ B → t.size ≤ 100000000 → ACalls Tryz.prog 98 [.imm t.iv, .imm (.lit (.int .i64 d)), .func F [] [.obj 1000 0, .obj 1001 0]] [(1000, .cells [.imm x0]), (1001, .cells [.imm x1])] (.imm (.tup [(swalkP C t d).1.iv, .lit (.int .i64 (swalkP C t d).2)])) [(1000, .cells [.imm x0]), (1001, .cells [.imm x1])] ∧ ((swalkP C t d).2 = 0 → (swalkP C t d).1 ≠ .nil) := by
  induction t using Tree.ind with
  | h1 => intro d B _ h; simp [Tree.whole] at h
  | h2 k n a b kids ih =>
    intro d B hv hw hd hs hB0 hsz
    have hl := cE kids hw
    simp only [Tree.size] at hsz
    rw [okW] at hv
    by_cases k160 : k < 160
    · rw [if_pos k160] at hv
      obtain ⟨hc, hne⟩ := hC (.node k n a b kids) d (by simpa using hv) hd (by omega)
      rw [swalkP, if_pos k160]
      refine ⟨?_, hne⟩
      clear hne ih hC
      generalize C (.node k n a b kids) d = R at *
      obtain ⟨R1, R2⟩ := R
      dsimp only at hc ⊢
      refine bX [1000, 1001] Tryz.func98 rfl rfl (nb rfl) rfl rfl ?_
      repeat' (first | refine aF ?_ | (refine aH ?_;  first | refine aC tabOk rfl rfl rfl (nb rfl) rfl ?_ | (refine aJ rfl rfl rfl (nb rfl) rfl rfl rfl (fun hq => ?_) (fun hq => ?_) <;> (first | (simp only [sD, sE, sB, sC, sN, sM, sT, sF] at hq; try (exfalso; omega)) | skip)) | refine bW rfl rfl (nb rfl) rfl rfl rfl rfl hc (by repeat' first | exact trivial | refine ⟨rfl, ?_⟩) rfl (by show ([1000, 1001] : List Nat).Nodup; decide) ?_) | (refine aL ?_;  first | refine aG ?_ | refine aM ?_ | refine aN ?_ | refine aE (b := true) rfl (fun _ => ?_) nTf) | (refine aK ?_;  first | refine aO ?_))
      all_goals first
        | (exfalso; omega)
        | (refine cC (bZ (by first | exact .inl rfl | exact .inr rfl) (aW rfl (aB rfl) (aB rfl)) rfl (by repeat' first | exact trivial | refine ⟨rfl, ?_⟩) rfl ?_); rfl)
    · rw [if_neg k160, Bool.and_eq_true, decide_eq_true_eq] at hv
      obtain ⟨⟨hb0, hb1⟩, hks⟩ := hv
      have cb := vU k n a b kids
      rw [swalkP, if_neg k160]
      generalize hdd : d + sbindsP k n = dd at *
      have hind : ∀ j (h : j < kids.length), ACalls Tryz.prog 98 [.imm kids[j].iv, .imm (.lit (.int .i64 dd)), .func F [] [.obj 1000 0, .obj 1001 0]] [(1000, .cells [.imm x0]), (1001, .cells [.imm x1])] (.imm (.tup [(swalkP C kids[j] dd).1.iv, .lit (.int .i64 (swalkP C kids[j] dd).2)])) [(1000, .cells [.imm x0]), (1001, .cells [.imm x1])] ∧ ((swalkP C kids[j] dd).2 = 0 → (swalkP C kids[j] dd).1 ≠ .nil) := fun j h => by
        have hm := List.getElem_mem h
        have hz := cR hm
        exact ih _ hm dd (B - sbindsP k n) (qM hks _ hm) (bC hw hm) (by omega) (by omega) (by omega) (by omega)
      clear ih hks
      refine ⟨?_, fun h => by split at h; exact absurd h (by assumption); rename_i h0; rw [if_neg h0]; simp⟩
      generalize sbindsP k n = sb at *
      generalize hR : (if (swalkPs C kids dd).2 ≠ 0 then (Tree.nil, (swalkPs C kids dd).2) else (.node k n a b (swalkPs C kids dd).1, 0)) = R
      refine bX [1000, 1001] Tryz.func98 rfl rfl (nb rfl) rfl rfl ?_
      repeat' (first | refine aF ?_ | (refine aH ?_;  first | refine aC tabOk rfl rfl rfl (nb rfl) rfl ?_ | (refine aJ rfl rfl rfl (nb rfl) rfl rfl rfl (fun hq => ?_) (fun hq => ?_) <;> (first | (simp only [sD, sE, sB, sC, sN, sM, sT, sF] at hq; try (exfalso; omega)) | skip)) | refine aV tabOk rfl rfl (nb rfl) rfl ?_ | refine cU tabOk rfl rfl rfl (nb rfl) rfl rfl rfl rfl rfl rfl ?_ | refine bK tabOk rfl rfl rfl rfl rfl rfl rfl rfl rfl rfl rfl ?_) | (refine aL ?_;  first | refine aG ?_ | refine aM ?_ | refine aS ?_ | refine aT ?_ | refine aE (b := false) rfl nFt (fun _ => ?_)) | (refine aK ?_;  first | refine aU ?_))
      all_goals first
        | (exfalso; omega)
        | skip
      refine cT (dY (h0 := 8) (k0 := 4) 500 25 1 rfl rfl (by simp) rfl rfl) ?_
      refine cD (ι := {j : Nat // j ≤ kids.length ∧ (swalkPs C (kids.take j) dd).2 = 0}) (fun j => S.f ⟨[(33, .imm (.lit (.int .i64 (j.1 : Int)))), (32, .imm (.lit (.int .i64 (kids.length : Int)))), (31, .imm (.sl false kids.length (Tree.ivs kids))), (8, .obj 8 0), (0, .imm (Tree.iv (.node k n a b kids))), (1, .imm (.lit (.int .i64 d))), (2, .func F [] [.obj 1000 0, .obj 1001 0])], (500, .arr 25 1 j.1 (Tree.ivs (swalkPs C (kids.take j.1) dd).1)) :: (8, .cells [.imm (.lit (.int .i64 k)), .imm (.lit (.int .i64 n)), .imm (.lit (.string a)), .imm (.lit (.string b)), .ref 500 j.1]) :: [(1000, .cells [.imm x0]), (1001, .cells [.imm x1])]⟩) (fun j => kids.length - j.1) ⟨0, Nat.zero_le _, by rw [List.take_zero, swalkPs]⟩ (bU (by repeat' first | exact trivial | refine ⟨rfl, ?_⟩) (by repeat' first | exact trivial | refine ⟨rfl, ?_⟩)) ?_
      rintro ⟨j, hj, hok⟩
      dsimp only
      by_cases hlt : j < kids.length
      · have hget := cG kids j hlt
        obtain ⟨hc, hnn⟩ := hind j hlt
        have hll := fD C dd (kids.take j) hok
        rw [List.length_take, Nat.min_eq_left hj] at hll
        have hst := mR C dd hlt hok
        have htk := mS C dd hlt hok
        clear hind hC
        have hil := cX (swalkPs C (kids.take j) dd).1
        rw [hll] at hil
        generalize swalkPs C (kids.take j) dd = Z at *
        obtain ⟨Z1, Z2⟩ := Z
        generalize swalkP C kids[j] dd = W at *
        obtain ⟨W1, W2⟩ := W
        dsimp only at *
        by_cases h0 : W2 = 0
        · subst h0
          have htk := htk rfl
          obtain ⟨pc, hpc⟩ := bV (hnn rfl)
          rw [hpc] at hc
          have hiv : Tree.ivs (swalkPs C (kids.take (j + 1)) dd).1 = Tree.ivs Z1 ++ [.ptr pc 0] := by
            rw [htk, cQ, cQ, List.map_append, ← hpc]; rfl
          have hok2 : (swalkPs C (kids.take (j + 1)) dd).2 = 0 := by rw [htk]
          generalize Tree.ivs Z1 = ZI at *
          repeat' (first | refine aF ?_ | (refine aH ?_;  first | refine aC tabOk rfl rfl rfl (nb rfl) rfl ?_ | (refine aJ rfl rfl rfl (nb rfl) rfl rfl rfl (fun hq => ?_) (fun hq => ?_) <;> (first | (simp only [sD, sE, sB, sC, sN, sM, sT, sF] at hq; try (exfalso; omega)) | skip)) | refine bE tabOk rfl rfl rfl (nb rfl) rfl rfl rfl hget ?_ | refine aD rfl rfl (nb rfl) rfl rfl rfl rfl (cb) ?_ | refine cS (z := dd) rfl rfl rfl (nb rfl) rfl rfl hdd (by omega) (by omega) ?_ | refine bW rfl rfl (nb rfl) rfl rfl rfl rfl hc (by repeat' first | exact trivial | refine ⟨rfl, ?_⟩) rfl (by show ([1000, 1001] : List Nat).Nodup; decide) ?_ | refine cM tabOk rfl rfl rfl (nb rfl) rfl rfl rfl rfl rfl rfl rfl (by first | omega | decide) rfl (by first | omega | (dsimp only; omega)) (by first | omega | (dsimp only; omega)) ?_ | refine bQ rfl rfl rfl (nb rfl) rfl rfl (by omega) ?_ | refine bY tabOk rfl rfl rfl (nb rfl) rfl rfl rfl rfl rfl rfl rfl rfl rfl ?_ | refine bM tabOk rfl rfl rfl (nb rfl) rfl rfl rfl rfl ?_ | refine bK tabOk rfl rfl rfl rfl rfl rfl rfl rfl rfl rfl rfl ?_ | refine bF tabOk rfl rfl rfl (nb rfl) rfl rfl rfl rfl (by first | assumption | omega) ?_) | (refine aL ?_;  first | refine aG ?_ | refine aM ?_ | refine bI ?_ | refine aS ?_ | refine aT ?_ | refine aE (b := true) rfl (fun _ => ?_) nTf | refine aE (b := false) rfl nFt (fun _ => ?_)) | (refine aK ?_;  first | refine aU ?_) | (refine aR ?_;  first | refine bP ?_))
          all_goals first
            | exact absurd rfl (by assumption)
            | (exfalso; omega)
            | (refine ⟨⟨j + 1, hlt, hok2⟩, (by show kids.length - (j + 1) < kids.length - j; omega), ?_⟩; dsimp only; rw [hiv]; exact (bU (by repeat' first | exact trivial | refine ⟨rfl, ?_⟩) (by repeat' first | exact trivial | refine ⟨rfl, ?_⟩)))
        · have hs2 := hst h0
          rw [hs2, if_pos h0] at hR
          subst hR
          repeat' (first | refine aF ?_ | (refine aH ?_;  first | refine aC tabOk rfl rfl rfl (nb rfl) rfl ?_ | (refine aJ rfl rfl rfl (nb rfl) rfl rfl rfl (fun hq => ?_) (fun hq => ?_) <;> (first | (simp only [sD, sE, sB, sC, sN, sM, sT, sF] at hq; try (exfalso; omega)) | skip)) | refine bE tabOk rfl rfl rfl (nb rfl) rfl rfl rfl hget ?_ | refine aD rfl rfl (nb rfl) rfl rfl rfl rfl (cb) ?_ | refine cS (z := dd) rfl rfl rfl (nb rfl) rfl rfl hdd (by omega) (by omega) ?_ | refine bW rfl rfl (nb rfl) rfl rfl rfl rfl hc (by repeat' first | exact trivial | refine ⟨rfl, ?_⟩) rfl (by show ([1000, 1001] : List Nat).Nodup; decide) ?_ | refine bF tabOk rfl rfl rfl (nb rfl) rfl rfl rfl rfl (by first | assumption | omega) ?_) | (refine aL ?_;  first | refine aG ?_ | refine aM ?_ | refine aS ?_ | refine aN ?_ | refine aT ?_ | refine aE (b := true) rfl (fun _ => ?_) nTf) | (refine aK ?_;  first | refine aU ?_ | refine aO ?_) | (refine aR ?_;  first | refine aZ ?_))
          all_goals first
            | exact absurd (by assumption) h0
            | (exfalso; omega)
            | (refine cC (bZ (by first | exact .inl rfl | exact .inr rfl) (aW rfl (aB rfl) (aB rfl)) rfl (by repeat' first | exact trivial | refine ⟨rfl, ?_⟩) rfl ?_); rfl)
      · have ej : j = kids.length := by omega
        subst ej
        rw [List.take_length] at hok ⊢
        rw [if_neg (by simpa using hok)] at hR
        subst hR
        have hll := fD C dd kids hok
        clear hind hC
        generalize swalkPs C kids dd = Z at *
        obtain ⟨Z1, Z2⟩ := Z
        dsimp only at *
        have hiv : (Tree.node k n a b Z1).iv = .ptr [.lit (.int .i64 k), .lit (.int .i64 n), .lit (.string a), .lit (.string b), .sl false kids.length (Tree.ivs Z1)] 0 := by rw [Tree.iv, hll]
        rw [hiv]
        generalize Tree.ivs Z1 = ZI at *
        repeat' (first | refine aF ?_ | (refine aH ?_;  first | refine aC tabOk rfl rfl rfl (nb rfl) rfl ?_ | (refine aJ rfl rfl rfl (nb rfl) rfl rfl rfl (fun hq => ?_) (fun hq => ?_) <;> (first | (simp only [sD, sE, sB, sC, sN, sM, sT, sF] at hq; try (exfalso; omega)) | skip))) | (refine aL ?_;  first | refine aG ?_ | refine aM ?_ | refine aN ?_ | refine bR ?_ | refine aE (b := false) rfl nFt (fun _ => ?_)) | (refine aK ?_;  first | refine aU ?_ | refine bJ ?_) | (refine aR ?_;  first | refine bH ?_))
        all_goals first
          | (exfalso; omega)
          | (refine gB ((Imp.of_le (σ' := S.f ⟨[(6, .obj 8 0), (7, .imm (.lit (.int .i64 0)))], (500, .arr 25 1 kids.length ZI) :: (8, .cells [.imm (.lit (.int .i64 k)), .imm (.lit (.int .i64 n)), .imm (.lit (.string a)), .imm (.lit (.string b)), .ref 500 kids.length]) :: [(1000, .cells [.imm x0]), (1001, .cells [.imm x1])]⟩) (bU (by repeat' first | exact trivial | refine ⟨rfl, ?_⟩) (by repeat' first | exact trivial | refine ⟨rfl, ?_⟩))).trans ((cP (g := 500) rfl (by repeat' first | exact trivial | exact fun _ => rfl | refine ⟨?_, ?_⟩) (by repeat' first | exact trivial | exact fun _ => rfl | refine ⟨?_, ?_⟩)).trans (dD (g := 8) rfl rfl))) ?_
             refine bZ (by first | exact .inl rfl | exact .inr rfl) (aW rfl (aB rfl) (aB rfl)) rfl (by repeat' first | exact trivial | refine ⟨rfl, ?_⟩) rfl rfl)
end Go.Proofs.YtlbemgokilhdnaaGreat.Ab
namespace Go.Proofs.YtlbemgokilhdnaaGreat.Ab
set_option linter.unusedVariables false
set_option linter.unusedSimpArgs false
attribute [local irreducible] AWP AOps AExit AThen ABlock ANoGoto FeetOk
/-- What sem.Subst makes of a constructor. -/
def ssubC (i : Int) (by_ : Tree) (t : Tree) (d : Int) : Tree × Int :=
  if i > 65536 then (t, 0) else if (shiftP by_ d 0).2 ≠ 0 then (.nil, 3) else substP t (i + d) (shiftP by_ d 0).1
set_option maxHeartbeats 8000000 in
set_option maxRecDepth 10000 in
theorem aCD (i : Int) (by_ : Tree) (pb : List IV) (hpb : by_.iv = .ptr pb 0) (hbs : by_.size ≤ 100000000) (t : Tree) (d : Int) (hi : 0 ≤ i) (ht : checkP isConP t = 0) (hd0 : 0 ≤ d) (hd : d ≤ 20000) :
    ACalls Tryz.prog 99 [.imm t.iv, .imm (.lit (.int .i64 d)), .obj 1000 0, .obj 1001 0] [(1000, .cells [.imm (.lit (.int .i64 i))]), (1001, .cells [.imm (.ptr pb 0)])] (.imm (.tup [(ssubC i by_ t d).1.iv, .lit (.int .i64 (ssubC i by_ t d).2)])) [(1000, .cells [.imm (.lit (.int .i64 i))]), (1001, .cells [.imm (.ptr pb 0)])] := by
  obtain ⟨hw, hz, hf⟩ := bG ht
  obtain ⟨Q, hQ⟩ : ∃ Q, ssubC i by_ t d = Q := ⟨_, rfl⟩
  rw [hQ]
  unfold ssubC at hQ
  by_cases h1 : i > 65536
  · rw [if_pos h1] at hQ
    subst hQ
    refine bX [1000, 1001] Tryz.func99 rfl rfl (nb rfl) rfl rfl ?_
    repeat' (first | refine aF ?_ | (refine aH ?_;  first | refine aC tabOk rfl rfl rfl (nb rfl) rfl ?_ | (refine aJ rfl rfl rfl (nb rfl) rfl rfl rfl (fun hq => ?_) (fun hq => ?_) <;> (first | (simp only [sD, sE, sB, sC, sN, sM, sT, sF] at hq; try (exfalso; omega)) | skip)) | refine bM tabOk rfl rfl rfl (nb rfl) rfl rfl rfl rfl ?_) | (refine aL ?_;  first | refine aG ?_ | refine aM ?_ | refine aN ?_ | refine aE (b := true) rfl (fun _ => ?_) nTf) | (refine aK ?_;  first | refine aO ?_))
    all_goals first
      | (exfalso; omega)
      | (refine cC (bZ (by first | exact .inl rfl | exact .inr rfl) (aW rfl (aB rfl) (aB rfl)) rfl (by repeat' first | exact trivial | refine ⟨rfl, ?_⟩) rfl ?_); rfl)
  · rw [if_neg h1] at hQ
    have c1 := kO by_ d 0 hbs
    rw [hpb] at c1
    have hfn := dQ by_ d 0
    by_cases h2 : (shiftP by_ d 0).2 = 0
    · rw [if_neg (by simpa using h2)] at hQ
      rw [h2] at c1
      obtain ⟨g1, g2, _⟩ := hfn h2
      have c2 := uA t (i + d) (shiftP by_ d 0).1 (by omega) (by omega)
      rw [hQ] at c2
      clear hQ hfn h2 hpb g1 g2
      generalize (shiftP by_ d 0).1 = Z at *
      obtain ⟨Q1, Q2⟩ := Q
      dsimp only at *
      refine bX [1000, 1001] Tryz.func99 rfl rfl (nb rfl) rfl rfl ?_
      repeat' (first | refine aF ?_ | (refine aH ?_;  first | refine aC tabOk rfl rfl rfl (nb rfl) rfl ?_ | (refine aJ rfl rfl rfl (nb rfl) rfl rfl rfl (fun hq => ?_) (fun hq => ?_) <;> (first | (simp only [sD, sE, sB, sC, sN, sM, sT, sF] at hq; try (exfalso; omega)) | skip)) | refine aD rfl rfl (nb rfl) rfl rfl rfl rfl (c1) ?_ | refine aD rfl rfl (nb rfl) rfl rfl rfl rfl (c2) ?_ | refine cS (z := i + d) rfl rfl rfl (nb rfl) rfl rfl rfl (by omega) (by omega) ?_ | refine bM tabOk rfl rfl rfl (nb rfl) rfl rfl rfl rfl ?_) | (refine aL ?_;  first | refine aG ?_ | refine aM ?_ | refine aN ?_ | refine aT ?_ | refine aE (b := false) rfl nFt (fun _ => ?_)) | (refine aK ?_;  first | refine aU ?_))
      all_goals first
        | exact absurd rfl (by assumption)
        | (exfalso; omega)
        | (refine cC (bZ (by first | exact .inl rfl | exact .inr rfl) (aW rfl (aB rfl) (aB rfl)) rfl (by repeat' first | exact trivial | refine ⟨rfl, ?_⟩) rfl ?_); rfl)
    · rw [if_pos h2] at hQ
      subst hQ
      clear hfn hpb
      generalize (shiftP by_ d 0).1 = Z at *
      generalize (shiftP by_ d 0).2 = Z2 at *
      refine bX [1000, 1001] Tryz.func99 rfl rfl (nb rfl) rfl rfl ?_
      repeat' (first | refine aF ?_ | (refine aH ?_;  first | refine aC tabOk rfl rfl rfl (nb rfl) rfl ?_ | (refine aJ rfl rfl rfl (nb rfl) rfl rfl rfl (fun hq => ?_) (fun hq => ?_) <;> (first | (simp only [sD, sE, sB, sC, sN, sM, sT, sF] at hq; try (exfalso; omega)) | skip)) | refine aD rfl rfl (nb rfl) rfl rfl rfl rfl (c1) ?_ | refine bM tabOk rfl rfl rfl (nb rfl) rfl rfl rfl rfl ?_) | (refine aL ?_;  first | refine aG ?_ | refine aM ?_ | refine aN ?_ | refine aT ?_ | refine aE (b := true) rfl (fun _ => ?_) nTf | refine aE (b := false) rfl nFt (fun _ => ?_)) | (refine aK ?_;  first | refine aU ?_ | refine aO ?_))
      all_goals first
        | exact absurd (by assumption) h2
        | (exfalso; omega)
        | (refine cC (bZ (by first | exact .inl rfl | exact .inr rfl) (aW rfl (aB rfl) (aB rfl)) rfl (by repeat' first | exact trivial | refine ⟨rfl, ?_⟩) rfl ?_); rfl)
theorem aBB (i : Int) (by_ : Tree) (t : Tree) (d : Int) (ht : checkP isConP t = 0) (h : (ssubC i by_ t d).2 = 0) : (ssubC i by_ t d).1 ≠ .nil := by
  unfold ssubC at h ⊢
  split
  · exact bL (bG ht).1
  · rename_i h1
    rw [if_neg h1] at h
    split
    · rename_i h2; rw [if_pos h2] at h; cases h
    · rename_i h2
      rw [if_neg h2] at h
      exact bL (eY _ _ _ h).1
/-- What sized tells. -/
def sizedP (t : Tree) (e : Int) : Tree × Int := if e ≠ 0 then (.nil, e) else if (wholeP t 65536).1 ≠ 0 then (.nil, (wholeP t 65536).1) else (t, 0)
set_option maxHeartbeats 4000000 in
set_option maxRecDepth 10000 in
theorem zP (t : Tree) (e : Int) (hs : t.size ≤ 100000000) : ACalls Tryz.prog 35 [.imm t.iv, .imm (.lit (.int .i64 e))] [] (.imm (.tup [(sizedP t e).1.iv, .lit (.int .i64 (sizedP t e).2)])) [] := by
  have c1 := qC t 65536 hs (by omega) (by omega)
  unfold sizedP
  generalize wholeP t 65536 = W at *
  obtain ⟨W1, W2⟩ := W
  dsimp only at *
  by_cases h0 : e = 0
  · subst h0
    rw [if_neg (by simp)]
    by_cases h1 : W1 = 0
    · subst h1
      rw [if_neg (by simp)]
      refine aI Tryz.func35 rfl rfl (nb rfl) rfl ?_
      repeat' (first | refine aF ?_ | (refine aH ?_;  first | refine aC tabOk rfl rfl rfl (nb rfl) rfl ?_ | (refine aJ rfl rfl rfl (nb rfl) rfl rfl rfl (fun hq => ?_) (fun hq => ?_) <;> (first | (simp only [sD, sE, sB, sC, sN, sM, sT, sF] at hq; try (exfalso; omega)) | skip)) | refine cN 1000 tabOk rfl rfl rfl (nb rfl) rfl rfl rfl rfl rfl rfl ?_ | refine bW rfl rfl (nb rfl) rfl rfl rfl rfl (c1) (by exact ⟨rfl, trivial⟩) rfl (by simp) ?_ | refine bK tabOk rfl rfl rfl rfl rfl rfl rfl rfl rfl rfl rfl ?_) | (refine aL ?_;  first | refine aG ?_ | refine aM ?_ | refine bI ?_ | refine aN ?_ | refine aT ?_ | refine aE (b := true) rfl (fun _ => ?_) nTf | refine aE (b := false) rfl nFt (fun _ => ?_)) | (refine aK ?_;  first | refine aU ?_))
      all_goals first
        | exact absurd rfl (by assumption)
        | (refine aP (by first | exact .inl rfl | exact .inr rfl) (aW rfl (aB rfl) (aB rfl)) rfl ?_; rfl)
    · rw [if_pos h1]
      refine aI Tryz.func35 rfl rfl (nb rfl) rfl ?_
      repeat' (first | refine aF ?_ | (refine aH ?_;  first | refine aC tabOk rfl rfl rfl (nb rfl) rfl ?_ | (refine aJ rfl rfl rfl (nb rfl) rfl rfl rfl (fun hq => ?_) (fun hq => ?_) <;> (first | (simp only [sD, sE, sB, sC, sN, sM, sT, sF] at hq; try (exfalso; omega)) | skip)) | refine cN 1000 tabOk rfl rfl rfl (nb rfl) rfl rfl rfl rfl rfl rfl ?_ | refine bW rfl rfl (nb rfl) rfl rfl rfl rfl (c1) (by exact ⟨rfl, trivial⟩) rfl (by simp) ?_ | refine bK tabOk rfl rfl rfl rfl rfl rfl rfl rfl rfl rfl rfl ?_) | (refine aL ?_;  first | refine aG ?_ | refine aM ?_ | refine bI ?_ | refine aN ?_ | refine aE (b := true) rfl (fun _ => ?_) nTf) | (refine aK ?_;  first | refine aU ?_ | refine aO ?_))
      all_goals first
        | exact absurd (by assumption) h1
        | exact absurd rfl (by assumption)
        | (refine aP (by first | exact .inl rfl | exact .inr rfl) (aW rfl (aB rfl) (aB rfl)) rfl ?_; rfl)
  · rw [if_pos h0]
    refine aI Tryz.func35 rfl rfl (nb rfl) rfl ?_
    repeat' (first | refine aF ?_ | (refine aH ?_;  first | refine aC tabOk rfl rfl rfl (nb rfl) rfl ?_ | (refine aJ rfl rfl rfl (nb rfl) rfl rfl rfl (fun hq => ?_) (fun hq => ?_) <;> (first | (simp only [sD, sE, sB, sC, sN, sM, sT, sF] at hq; try (exfalso; omega)) | skip)) | refine cN 1000 tabOk rfl rfl rfl (nb rfl) rfl rfl rfl rfl rfl rfl ?_ | refine bK tabOk rfl rfl rfl rfl rfl rfl rfl rfl rfl rfl rfl ?_) | (refine aL ?_;  first | refine aG ?_ | refine aM ?_ | refine aN ?_ | refine aT ?_ | refine aE (b := true) rfl (fun _ => ?_) nTf | refine aE (b := false) rfl nFt (fun _ => ?_)) | (refine aK ?_;  first | refine aU ?_ | refine aO ?_))
    all_goals first
      | exact absurd (by assumption) h0
      | (refine aP (by first | exact .inl rfl | exact .inr rfl) (aW rfl (aB rfl) (aB rfl)) rfl ?_; rfl)
/-- What sem.Subst tells. -/
def ssubstP (t : Tree) (i : Int) (by_ : Tree) : Tree × Int :=
  if checkP sformP t ≠ 0 then (.nil, checkP sformP t)
  else if checkP isConP by_ ≠ 0 then (.nil, checkP isConP by_)
  else if i < 0 then (.nil, 2)
  else sizedP (swalkP (ssubC i by_) t 0).1 (swalkP (ssubC i by_) t 0).2
set_option maxHeartbeats 16000000 in
set_option maxRecDepth 10000 in
theorem aBC (t : Tree) (i : Int) (by_ : Tree) (hs : t.size ≤ 100000000) (hbs : by_.size ≤ 100000000) (hrs : (swalkP (ssubC i by_) t 0).1.size ≤ 100000000) :
    ACalls Tryz.prog 61 [.imm t.iv, .imm (.lit (.int .i64 i)), .imm by_.iv] [] (.imm (.tup [(ssubstP t i by_).1.iv, .lit (.int .i64 (ssubstP t i by_).2)])) [] := by
  have c1 := dV t hs
  have c2 := dX by_ hbs
  obtain ⟨Q, hQ⟩ : ∃ Q, ssubstP t i by_ = Q := ⟨_, rfl⟩
  rw [hQ]
  unfold ssubstP at hQ
  by_cases hc : checkP sformP t = 0
  · rw [if_neg (by simpa using hc)] at hQ
    rw [hc] at c1
    by_cases hb : checkP isConP by_ = 0
    · rw [if_neg (by simpa using hb)] at hQ
      rw [hb] at c2
      obtain ⟨bw, bz, _⟩ := bG hb
      obtain ⟨pb, hpb⟩ := bV (bL bw)
      by_cases hi : i < 0
      · rw [if_pos hi] at hQ
        subst hQ
        rw [hpb] at c2 ⊢
        refine aI Tryz.func61 rfl rfl (nb rfl) rfl ?_
        repeat' (first | refine aF ?_ | (refine aH ?_;  first | refine aC tabOk rfl rfl rfl (nb rfl) rfl ?_ | (refine aJ rfl rfl rfl (nb rfl) rfl rfl rfl (fun hq => ?_) (fun hq => ?_) <;> (first | (simp only [sD, sE, sB, sC, sN, sM, sT, sF] at hq; try (exfalso; omega)) | skip)) | refine aD rfl rfl (nb rfl) rfl rfl rfl rfl (c1) ?_ | refine aD rfl rfl (nb rfl) rfl rfl rfl rfl (c2) ?_ | refine cF 1000 (d := 4) rfl rfl rfl (nb rfl) rfl rfl rfl rfl rfl rfl rfl ?_ | refine cF 1001 (d := 5) rfl rfl rfl (nb rfl) rfl rfl rfl rfl rfl rfl rfl ?_ | refine bM tabOk rfl rfl rfl (nb rfl) rfl rfl rfl rfl ?_) | (refine aL ?_;  first | refine aG ?_ | refine aM ?_ | refine aN ?_ | refine aT ?_ | refine aE (b := true) rfl (fun _ => ?_) nTf | refine aE (b := false) rfl nFt (fun _ => ?_)) | (refine aK ?_;  first | refine aU ?_ | refine aO ?_))
        all_goals first
          | exact absurd rfl (by assumption)
          | (exfalso; omega)
          | (refine aP (by first | exact .inl rfl | exact .inr rfl) (aW rfl (aB rfl) (aB rfl)) rfl ?_; rfl)
      · rw [if_neg hi] at hQ
        obtain ⟨hw, hz, hf⟩ := bG hc
        have cw := (aBA (ssubC i by_) 99 (.lit (.int .i64 i)) (.ptr pb 0) (fun t' d h1 h2 h3 => ⟨aCD i by_ pb hpb hbs t' d (by omega) h1 h2 h3, aBB i by_ t' d h1⟩) t 0 16384 (vV hf) hw (Int.le_refl _) (by omega) (by omega) hs).1
        have c3 := zP (swalkP (ssubC i by_) t 0).1 (swalkP (ssubC i by_) t 0).2 hrs
        rw [hQ] at c3
        rw [hpb] at c2 ⊢
        clear hc hb hw hf hQ bw hrs
        generalize swalkP (ssubC i by_) t 0 = W at *
        obtain ⟨W1, W2⟩ := W
        obtain ⟨Q1, Q2⟩ := Q
        dsimp only at *
        refine aI Tryz.func61 rfl rfl (nb rfl) rfl ?_
        repeat' (first | refine aF ?_ | (refine aH ?_;  first | refine aC tabOk rfl rfl rfl (nb rfl) rfl ?_ | (refine aJ rfl rfl rfl (nb rfl) rfl rfl rfl (fun hq => ?_) (fun hq => ?_) <;> (first | (simp only [sD, sE, sB, sC, sN, sM, sT, sF] at hq; try (exfalso; omega)) | skip)) | refine aD rfl rfl (nb rfl) rfl rfl rfl rfl (c1) ?_ | refine aD rfl rfl (nb rfl) rfl rfl rfl rfl (c2) ?_ | refine aD rfl rfl (nb rfl) rfl rfl rfl rfl (c3) ?_ | refine cF 1000 (d := 4) rfl rfl rfl (nb rfl) rfl rfl rfl rfl rfl rfl rfl ?_ | refine cF 1001 (d := 5) rfl rfl rfl (nb rfl) rfl rfl rfl rfl rfl rfl rfl ?_ | refine bW rfl rfl (nb rfl) rfl rfl rfl rfl cw (by repeat' first | exact trivial | refine ⟨rfl, ?_⟩) rfl (by show ([1000, 1001] : List Nat).Nodup; decide) ?_ | refine bM tabOk rfl rfl rfl (nb rfl) rfl rfl rfl rfl ?_) | (refine aL ?_;  first | refine aG ?_ | refine aM ?_ | refine aN ?_ | refine aT ?_ | refine aE (b := false) rfl nFt (fun _ => ?_)) | (refine aK ?_;  first | refine aU ?_))
        all_goals first
          | exact absurd rfl (by assumption)
          | (exfalso; omega)
          | (refine aP (by first | exact .inl rfl | exact .inr rfl) (aW rfl (aB rfl) (aB rfl)) rfl ?_; rfl)
    · rw [if_pos hb] at hQ
      subst hQ
      generalize checkP isConP by_ = C at *
      obtain ⟨y, hy, hy1⟩ : ∃ y, by_.iv = y ∧ (y = .lit (.pointer none) ∨ ∃ p, y = .ptr p 0) := by
        cases by_ with
        | nil => exact ⟨_, rfl, .inl rfl⟩
        | node k n a b ks => exact ⟨_, rfl, .inr ⟨_, by rw [Tree.iv]⟩⟩
      rw [hy] at c2 ⊢
      clear hrs
      rcases hy1 with rfl | ⟨p, rfl⟩ <;>
      (refine aI Tryz.func61 rfl rfl (nb rfl) rfl ?_
       repeat' (first | refine aF ?_ | (refine aH ?_;  first | refine aC tabOk rfl rfl rfl (nb rfl) rfl ?_ | (refine aJ rfl rfl rfl (nb rfl) rfl rfl rfl (fun hq => ?_) (fun hq => ?_) <;> (first | (simp only [sD, sE, sB, sC, sN, sM, sT, sF] at hq; try (exfalso; omega)) | skip)) | refine aD rfl rfl (nb rfl) rfl rfl rfl rfl (c1) ?_ | refine aD rfl rfl (nb rfl) rfl rfl rfl rfl (c2) ?_ | refine cF 1000 (d := 4) rfl rfl rfl (nb rfl) rfl rfl rfl rfl rfl rfl rfl ?_ | refine cF 1001 (d := 5) rfl rfl rfl (nb rfl) rfl rfl rfl rfl rfl rfl rfl ?_ | refine bM tabOk rfl rfl rfl (nb rfl) rfl rfl rfl rfl ?_) | (refine aL ?_;  first | refine aG ?_ | refine aM ?_ | refine aN ?_ | refine aT ?_ | refine aE (b := true) rfl (fun _ => ?_) nTf | refine aE (b := false) rfl nFt (fun _ => ?_)) | (refine aK ?_;  first | refine aU ?_ | refine aO ?_))
       all_goals first
         | exact absurd rfl (by assumption)
         | exact absurd (by assumption) hb
         | (exfalso; omega)
         | (refine aP (by first | exact .inl rfl | exact .inr rfl) (aW rfl (aB rfl) (aB rfl)) rfl ?_; rfl))
  · rw [if_pos hc] at hQ
    subst hQ
    generalize checkP sformP t = C at *
    obtain ⟨y, hy, hy1⟩ : ∃ y, by_.iv = y ∧ (y = .lit (.pointer none) ∨ ∃ p, y = .ptr p 0) := by
      cases by_ with
      | nil => exact ⟨_, rfl, .inl rfl⟩
      | node k n a b ks => exact ⟨_, rfl, .inr ⟨_, by rw [Tree.iv]⟩⟩
    rw [hy]
    clear hrs
    rcases hy1 with rfl | ⟨p, rfl⟩ <;>
    (refine aI Tryz.func61 rfl rfl (nb rfl) rfl ?_
     repeat' (first | refine aF ?_ | (refine aH ?_;  first | refine aC tabOk rfl rfl rfl (nb rfl) rfl ?_ | (refine aJ rfl rfl rfl (nb rfl) rfl rfl rfl (fun hq => ?_) (fun hq => ?_) <;> (first | (simp only [sD, sE, sB, sC, sN, sM, sT, sF] at hq; try (exfalso; omega)) | skip)) | refine aD rfl rfl (nb rfl) rfl rfl rfl rfl (c1) ?_ | refine cF 1000 (d := 4) rfl rfl rfl (nb rfl) rfl rfl rfl rfl rfl rfl rfl ?_ | refine cF 1001 (d := 5) rfl rfl rfl (nb rfl) rfl rfl rfl rfl rfl rfl rfl ?_) | (refine aL ?_;  first | refine aG ?_ | refine aM ?_ | refine aN ?_ | refine aE (b := true) rfl (fun _ => ?_) nTf) | (refine aK ?_;  first | refine aO ?_))
     all_goals first
       | exact absurd rfl (by assumption)
       | exact absurd (by assumption) hc
       | (exfalso; omega)
       | (refine aP (by first | exact .inl rfl | exact .inr rfl) (aW rfl (aB rfl) (aB rfl)) rfl ?_; rfl))
/-- Are a signature's types small? -/
def smallC (t : Tree) (_ : Int) : Tree × Int := if (t.size : Int) > 512 then (.nil, 3) else (t, 0)
def ssmallP (t : Tree) : Int := if checkP sformP t ≠ 0 then checkP sformP t else (swalkP smallC t 0).2
set_option maxHeartbeats 4000000 in
set_option maxRecDepth 10000 in
theorem aBD (t : Tree) (d : Int) (ht : checkP isConP t = 0) : ACalls Tryz.prog 101 [.imm t.iv, .imm (.lit (.int .i64 d))] [] (.imm (.tup [(smallC t d).1.iv, .lit (.int .i64 (smallC t d).2)])) [] := by
  obtain ⟨hw, hz, hf⟩ := bG ht
  have c1 := xX t (by omega) (.inr hw)
  unfold smallC
  by_cases h : (t.size : Int) > 512
  · rw [if_pos h]
    refine aI Tryz.func101 rfl rfl (nb rfl) rfl ?_
    repeat' (first | refine aF ?_ | (refine aH ?_;  first | refine aC tabOk rfl rfl rfl (nb rfl) rfl ?_ | (refine aJ rfl rfl rfl (nb rfl) rfl rfl rfl (fun hq => ?_) (fun hq => ?_) <;> (first | (simp only [sD, sE, sB, sC, sN, sM, sT, sF] at hq; try (exfalso; omega)) | skip)) | refine aD rfl rfl (nb rfl) rfl rfl rfl rfl (c1) ?_) | (refine aL ?_;  first | refine aG ?_ | refine aM ?_ | refine aN ?_ | refine aE (b := true) rfl (fun _ => ?_) nTf) | (refine aK ?_;  first | refine aO ?_))
    all_goals first
      | (exfalso; omega)
      | (refine aP (by first | exact .inl rfl | exact .inr rfl) (aW rfl (aB rfl) (aB rfl)) rfl ?_; rfl)
  · rw [if_neg h]
    refine aI Tryz.func101 rfl rfl (nb rfl) rfl ?_
    repeat' (first | refine aF ?_ | (refine aH ?_;  first | refine aC tabOk rfl rfl rfl (nb rfl) rfl ?_ | (refine aJ rfl rfl rfl (nb rfl) rfl rfl rfl (fun hq => ?_) (fun hq => ?_) <;> (first | (simp only [sD, sE, sB, sC, sN, sM, sT, sF] at hq; try (exfalso; omega)) | skip)) | refine aD rfl rfl (nb rfl) rfl rfl rfl rfl (c1) ?_) | (refine aL ?_;  first | refine aG ?_ | refine aM ?_ | refine aN ?_ | refine aT ?_ | refine aE (b := false) rfl nFt (fun _ => ?_)) | (refine aK ?_;  first | refine aU ?_))
    all_goals first
      | (exfalso; omega)
      | (refine aP (by first | exact .inl rfl | exact .inr rfl) (aW rfl (aB rfl) (aB rfl)) rfl ?_; rfl)
set_option maxHeartbeats 8000000 in
set_option maxRecDepth 10000 in
theorem aCE (t : Tree) (hs : t.size ≤ 100000000) : ACalls Tryz.prog 62 [.imm t.iv] [] (.imm (.lit (.int .i64 (ssmallP t)))) [] := by
  have c1 := dV t hs
  unfold ssmallP
  by_cases hc : checkP sformP t = 0
  · rw [if_neg (by simpa using hc)]
    rw [hc] at c1
    obtain ⟨hw, hz, hf⟩ := bG hc
    have cw := (aBz smallC 101 (fun t' d h1 _ _ => ⟨aBD t' d h1, fun h => by unfold smallC at h ⊢; split at h; cases h; rename_i h2; rw [if_neg h2]; exact bL (bG h1).1⟩) t 0 16384 (vV hf) hw (Int.le_refl _) (by omega) (by omega) hs).1
    generalize swalkP smallC t 0 = W at *
    obtain ⟨W1, W2⟩ := W
    dsimp only at *
    refine aI Tryz.func62 rfl rfl (nb rfl) rfl ?_
    repeat' (first | refine aF ?_ | (refine aH ?_;  first | refine aC tabOk rfl rfl rfl (nb rfl) rfl ?_ | (refine aJ rfl rfl rfl (nb rfl) rfl rfl rfl (fun hq => ?_) (fun hq => ?_) <;> (first | (simp only [sD, sE, sB, sC, sN, sM, sT, sF] at hq; try (exfalso; omega)) | skip)) | refine aD rfl rfl (nb rfl) rfl rfl rfl rfl (c1) ?_ | refine aD rfl rfl (nb rfl) rfl rfl rfl rfl (cw) ?_) | (refine aL ?_;  first | refine aG ?_ | refine aM ?_ | refine aN ?_ | refine aT ?_ | refine aE (b := false) rfl nFt (fun _ => ?_)) | (refine aK ?_;  first | refine aU ?_))
    all_goals first
      | exact absurd rfl (by assumption)
      | (refine aP (by first | exact .inl rfl | exact .inr rfl) (aX rfl (aB rfl)) rfl ?_; rfl)
  · rw [if_pos hc]
    generalize checkP sformP t = C at *
    refine aI Tryz.func62 rfl rfl (nb rfl) rfl ?_
    repeat' (first | refine aF ?_ | (refine aH ?_;  first | refine aC tabOk rfl rfl rfl (nb rfl) rfl ?_ | (refine aJ rfl rfl rfl (nb rfl) rfl rfl rfl (fun hq => ?_) (fun hq => ?_) <;> (first | (simp only [sD, sE, sB, sC, sN, sM, sT, sF] at hq; try (exfalso; omega)) | skip)) | refine aD rfl rfl (nb rfl) rfl rfl rfl rfl (c1) ?_) | (refine aL ?_;  first | refine aG ?_ | refine aM ?_ | refine aN ?_ | refine aE (b := true) rfl (fun _ => ?_) nTf) | (refine aK ?_;  first | refine aO ?_))
    all_goals first
      | exact absurd (by assumption) hc
      | (refine aP (by first | exact .inl rfl | exact .inr rfl) (aX rfl (aB rfl)) rfl ?_; rfl)
end Go.Proofs.YtlbemgokilhdnaaGreat.Ab
namespace Go.Proofs.YtlbemgokilhdnaaGreat.Ab
set_option linter.unusedVariables false
set_option linter.unusedSimpArgs false
open Go.RowKit
attribute [local irreducible] AWP AOps AExit AThen ABlock ANoGoto FeetOk
theorem vW (l : List UInt8) : ¬ l < l := List.lt_irrefl l
def gtB (u v : ByteArray) : Bool := !(ltB u v || eqB u v)
def okPair (rise : Bool) (u v : ByteArray) : Bool := !(eqB u v) && (!rise || !(gtB u v))
theorem yB {u v : ByteArray} (h : ltB u v = true) : eqB u v = false := by
  unfold ltB at h
  rw [bytesLess_eq, decide_eq_true_eq] at h
  unfold eqB
  refine beq_eq_false_iff_ne.2 fun e => ?_
  rw [e] at h
  exact vW _ h
theorem sL {u v x : ByteArray} (h : ltB u v = true) (h2 : ltB v x = true) : ltB u x = true := by
  unfold ltB at *
  rw [bytesLess_eq, decide_eq_true_eq] at *
  exact List.lt_trans h h2
theorem oK (u v : ByteArray) : okPair true u v = ltB u v := by
  unfold okPair gtB
  cases h : ltB u v with
  | true => rw [yB h]; rfl
  | false => cases eqB u v <;> rfl
theorem qN (u v : ByteArray) : okPair false u v = !(eqB u v) := by unfold okPair; simp
theorem vX (u v : ByteArray) : eqB u v = eqB v u := by
  unfold eqB
  rw [Bool.eq_iff_iff, beq_iff_eq, beq_iff_eq]
  exact ⟨Eq.symm, Eq.symm⟩
def pairsP (rise : Bool) (l : List Tree) : Bool := if rise = true then risingP l else distinctP l
theorem lN {l : List Tree} (h : risingP l = true) : ∀ (d i : Nat) (hi : i + d + 1 < l.length), ltB (l[i]'(by omega)).name l[i + d + 1].name = true
  | 0, i, hi => (dP l).1 h i hi
  | d + 1, i, hi => sL (lN h d i (by omega)) ((dP l).1 h (i + d + 1) (by omega))
theorem yC (rise : Bool) (l : List Tree) : pairsP rise l = true ↔ ∀ i j (hij : i < j) (hj : j < l.length), okPair rise (l[i]'(by omega)).name l[j].name = true := by
  unfold pairsP
  cases rise with
  | true =>
    rw [if_pos rfl]
    constructor
    · intro h i j hij hj
      rw [oK]
      have e : j = i + (j - i - 1) + 1 := by omega
      have := lN h (j - i - 1) i (by omega)
      have e2 : l[j] = l[i + (j - i - 1) + 1]'(by omega) := by congr 1
      rw [e2]
      exact this
    · intro h
      rw [dP]
      intro i hi
      have := h i (i + 1) (by omega) hi
      rw [oK] at this
      exact this
  | false =>
    rw [if_neg (by simp), dW]
    constructor
    · intro h i j hij hj
      rw [qN, vX, h i j hij hj]
      rfl
    · intro h i j hij hj
      have := h i j hij hj
      rw [qN, vX] at this
      simpa using this
end Go.Proofs.YtlbemgokilhdnaaGreat.Ab
namespace Go.Proofs.YtlbemgokilhdnaaGreat.Ab
set_option linter.unusedVariables false
set_option linter.unusedSimpArgs false
attribute [local irreducible] AWP AOps AExit AThen ABlock ANoGoto FeetOk
def plainP (t : Tree) : Bool := decide (t.kind ≠ 164) && decide (t.kind ≠ 165)
set_option maxRecDepth 10000 in
theorem oZ (t : Tree) (hw : t.whole = true) : ACalls Tryz.prog 38 [.imm t.iv] [] (.imm (.lit (.bool (plainP t)))) [] := by
  obtain ⟨k, n, a, b, kids, rfl⟩ := bT hw
  have e : plainP (.node k n a b kids) = (decide (k ≠ 164) && decide (k ≠ 165)) := rfl
  rw [e]
  refine aI Tryz.func38 rfl rfl (nb rfl) rfl ?_
  repeat' (first | refine aF ?_ | (refine aH ?_; first | refine aC tabOk rfl rfl rfl (nb rfl) rfl ?_ | refine bO rfl rfl (nb rfl) ?_ | (refine aJ rfl rfl rfl (nb rfl) rfl rfl rfl (fun hq => ?_) (fun hq => ?_) <;> (first | (simp only [sD, sE, sB, sC, sN, sM, sT, sF] at hq; try (exfalso; omega)) | skip)) | refine bQ rfl rfl rfl (nb rfl) rfl rfl (by omega) ?_ | refine cS rfl rfl rfl (nb rfl) rfl rfl rfl (by omega) (by omega) ?_ | refine cH rfl rfl rfl (nb rfl) rfl rfl rfl (by omega) (by omega) ?_ | refine bY tabOk rfl rfl rfl (nb rfl) rfl rfl rfl rfl rfl rfl rfl rfl rfl ?_ | refine aV tabOk rfl rfl (nb rfl) rfl ?_ | refine cU tabOk rfl rfl rfl (nb rfl) rfl rfl rfl rfl rfl rfl ?_ | refine bM tabOk rfl rfl rfl (nb rfl) rfl rfl rfl rfl ?_ | refine bK tabOk rfl rfl rfl rfl rfl rfl rfl rfl rfl rfl rfl ?_ | refine bF tabOk rfl rfl rfl (nb rfl) rfl rfl rfl rfl (by first | assumption | omega) ?_ | refine aY tabOk rfl rfl rfl (nb rfl) rfl rfl rfl rfl (by first | rfl | omega) (by first | omega | simp) ?_ | refine bE tabOk rfl rfl rfl (nb rfl) rfl rfl rfl (by assumption) ?_ | refine bE tabOk rfl rfl rfl (nb rfl) rfl rfl rfl (cG _ _ (by first | assumption | omega)) ?_ | refine bQ rfl rfl rfl (nb rfl) rfl rfl (by omega) ?_ | ((fail_if_success (refine cY (b := true) rfl rfl rfl ?_)); (fail_if_success (refine cY (b := false) rfl rfl rfl ?_)); refine dR rfl rfl rfl (fun hq => ?_) (fun hq => ?_) <;> first | subst hq | (first | (simp only [sD, sE, sB, sC, sN, sM, sT, sF] at hq; try (exfalso; omega)) | skip)) | fail) | (refine aL ?_; first | refine aG ?_ | refine aM ?_ | refine bI ?_ | refine aS ?_ | refine aN ?_ | refine bR ?_ | refine aT ?_ | refine aE (b := true) rfl (fun _ => ?_) nTf | refine aE (b := false) rfl nFt (fun _ => ?_) | refine fW ?_ | refine fV ?_ | refine gA mixed (by kernel_rfl) ?_ | refine aQ mixed (by kernel_rfl) ?_ | (refine aE rfl (fun hq => ?_) (fun hq => ?_) <;> first | subst hq | (first | (simp only [sD, sE, sB, sC, sN, sM, sT, sF] at hq; try (exfalso; omega)) | skip)) | fail) | (refine aK ?_; first | refine aU ?_ | refine bJ ?_ | refine aO ?_ | fail) | (refine aR ?_; first | refine bP ?_ | refine bH ?_ | refine dN (by decide) ?_ | refine aZ ?_ | fail) | refine bD (bB (by kernel_rfl)) ?_ | fail)
  all_goals (refine aP (by first | exact .inl rfl | exact .inr rfl) (aX rfl (aB rfl)) rfl ?_; refine cJ ?_; simp_all)
theorem sO {t : Tree} (h : isExP t = true) : t.kind = 164 := by
  unfold isExP at h
  split at h
  · simp only [Bool.and_eq_true, beq_iff_eq] at h; exact h.1.1
  · cases h
theorem lO {t : Tree} (h : isFunP t = true) : t.kind = 165 := by
  unfold isFunP at h
  split at h
  · simp only [Bool.and_eq_true, beq_iff_eq] at h; exact h.1.1
  · cases h
theorem eV {t : Tree} (hc : checkP sformP t = 0) (hp : plainP t = true) : isSigP t = true := by
  obtain ⟨_, _, hf⟩ := bG hc
  unfold plainP at hp
  rw [Bool.and_eq_true, decide_eq_true_eq, decide_eq_true_eq] at hp
  unfold sformP at hf
  rw [Bool.or_eq_true, Bool.or_eq_true] at hf
  rcases hf with h | h | h
  · exact h
  · exact absurd (sO h) hp.1
  · exact absurd (lO h) hp.2
theorem aAB {t : Tree} (h : isSigP t = true) : plainP t = true := by
  cases t with
  | nil => simp [isSigP] at h
  | node k n a b kids =>
    unfold plainP
    have : k = 160 ∨ k = 161 ∨ k = 162 := by
      rcases dA h with ⟨h, _⟩ | ⟨h, _⟩ <;> omega
    rw [decide_eq_true (show (Tree.node k n a b kids).kind ≠ 164 from fun e => by have e : k = 164 := e; omega), decide_eq_true (show (Tree.node k n a b kids).kind ≠ 165 from fun e => by have e : k = 165 := e; omega)]
    rfl
/-- What match.Sub tells. -/
def mSubP (a b : Tree) : Int := if checkP sformP a ≠ 0 then checkP sformP a else if checkP sformP b ≠ 0 then checkP sformP b else if (plainP a && plainP b) = true then (if subP b a = true then 0 else 12) else 16
set_option maxHeartbeats 8000000 in
set_option maxRecDepth 10000 in
theorem yD (a b : Tree) (hsa : a.size ≤ 100000000) (hsb : b.size ≤ 100000000) : ACalls Tryz.prog 29 [.imm a.iv, .imm b.iv] [] (.imm (.lit (.int .i64 (mSubP a b)))) [] := by
  have c1 := dV a hsa
  have c2 := dV b hsb
  obtain ⟨Q, hQ⟩ : ∃ Q, mSubP a b = Q := ⟨_, rfl⟩
  rw [hQ]
  unfold mSubP at hQ
  by_cases hca : checkP sformP a = 0
  · rw [if_neg (by simpa using hca)] at hQ
    rw [hca] at c1
    by_cases hcb : checkP sformP b = 0
    · rw [if_neg (by simpa using hcb)] at hQ
      rw [hcb] at c2
      have hwa := (bG hca).1
      have hwb := (bG hcb).1
      have c3 := oZ a hwa
      have c4 := oZ b hwb
      have c5 := fun (h1 : plainP a = true) (h2 : plainP b = true) => aDs b a (eV hca h1) (eV hcb h2) hwa hwb hsa hsb
      generalize plainP a = PA at *
      generalize plainP b = PB at *
      generalize subP b a = SB at *
      cases PA with
      | false =>
        subst hQ
        clear c5
        refine aI Tryz.func29 rfl rfl (nb rfl) rfl ?_
        repeat' (first | refine aF ?_ | (refine aH ?_; first | refine aC tabOk rfl rfl rfl (nb rfl) rfl ?_ | refine bO rfl rfl (nb rfl) ?_ | (refine aJ rfl rfl rfl (nb rfl) rfl rfl rfl (fun hq => ?_) (fun hq => ?_) <;> (first | (simp only [sD, sE, sB, sC, sN, sM, sT, sF] at hq; try (exfalso; omega)) | skip))| refine aD rfl rfl (nb rfl) rfl rfl rfl rfl (c1) ?_ | refine aD rfl rfl (nb rfl) rfl rfl rfl rfl (c2) ?_ | refine aD rfl rfl (nb rfl) rfl rfl rfl rfl (c3) ?_ | refine aD rfl rfl (nb rfl) rfl rfl rfl rfl (c4) ?_ | refine bQ rfl rfl rfl (nb rfl) rfl rfl (by omega) ?_ | refine cS rfl rfl rfl (nb rfl) rfl rfl rfl (by omega) (by omega) ?_ | refine cH rfl rfl rfl (nb rfl) rfl rfl rfl (by omega) (by omega) ?_ | refine bY tabOk rfl rfl rfl (nb rfl) rfl rfl rfl rfl rfl rfl rfl rfl rfl ?_ | refine aV tabOk rfl rfl (nb rfl) rfl ?_ | refine cU tabOk rfl rfl rfl (nb rfl) rfl rfl rfl rfl rfl rfl ?_ | refine bM tabOk rfl rfl rfl (nb rfl) rfl rfl rfl rfl ?_ | refine bK tabOk rfl rfl rfl rfl rfl rfl rfl rfl rfl rfl rfl ?_ | refine bF tabOk rfl rfl rfl (nb rfl) rfl rfl rfl rfl (by first | assumption | omega) ?_ | refine aY tabOk rfl rfl rfl (nb rfl) rfl rfl rfl rfl (by first | rfl | omega) (by first | omega | simp) ?_ | refine bE tabOk rfl rfl rfl (nb rfl) rfl rfl rfl (by assumption) ?_ | refine bE tabOk rfl rfl rfl (nb rfl) rfl rfl rfl (cG _ _ (by first | assumption | omega)) ?_ | refine bQ rfl rfl rfl (nb rfl) rfl rfl (by omega) ?_ | ((fail_if_success (refine cY (b := true) rfl rfl rfl ?_)); (fail_if_success (refine cY (b := false) rfl rfl rfl ?_)); refine dR rfl rfl rfl (fun hq => ?_) (fun hq => ?_) <;> first | subst hq | (first | (simp only [sD, sE, sB, sC, sN, sM, sT, sF] at hq; try (exfalso; omega)) | skip)) | fail) | (refine aL ?_; first | refine aG ?_ | refine aM ?_ | refine bI ?_ | refine aS ?_ | refine aN ?_ | refine bR ?_ | refine aT ?_ | refine aE (b := true) rfl (fun _ => ?_) nTf | refine aE (b := false) rfl nFt (fun _ => ?_) | refine fW ?_ | refine fV ?_ | refine gA mixed (by kernel_rfl) ?_ | refine aQ mixed (by kernel_rfl) ?_ | (refine aE rfl (fun hq => ?_) (fun hq => ?_) <;> first | subst hq | (first | (simp only [sD, sE, sB, sC, sN, sM, sT, sF] at hq; try (exfalso; omega)) | skip)) | fail) | (refine aK ?_; first | refine aU ?_ | refine bJ ?_ | refine aO ?_ | fail) | (refine aR ?_; first | refine bP ?_ | refine bH ?_ | refine dN (by decide) ?_ | refine aZ ?_ | fail) | refine bD (bB (by kernel_rfl)) ?_ | fail)
        all_goals first
          | exact absurd rfl (by assumption)
          | (refine aP (by first | exact .inl rfl | exact .inr rfl) (aX rfl (aB rfl)) rfl ?_; rfl)
      | true =>
        cases PB with
        | false =>
          subst hQ
          clear c5
          refine aI Tryz.func29 rfl rfl (nb rfl) rfl ?_
          repeat' (first | refine aF ?_ | (refine aH ?_; first | refine aC tabOk rfl rfl rfl (nb rfl) rfl ?_ | refine bO rfl rfl (nb rfl) ?_ | (refine aJ rfl rfl rfl (nb rfl) rfl rfl rfl (fun hq => ?_) (fun hq => ?_) <;> (first | (simp only [sD, sE, sB, sC, sN, sM, sT, sF] at hq; try (exfalso; omega)) | skip))| refine aD rfl rfl (nb rfl) rfl rfl rfl rfl (c1) ?_ | refine aD rfl rfl (nb rfl) rfl rfl rfl rfl (c2) ?_ | refine aD rfl rfl (nb rfl) rfl rfl rfl rfl (c3) ?_ | refine aD rfl rfl (nb rfl) rfl rfl rfl rfl (c4) ?_ | refine bQ rfl rfl rfl (nb rfl) rfl rfl (by omega) ?_ | refine cS rfl rfl rfl (nb rfl) rfl rfl rfl (by omega) (by omega) ?_ | refine cH rfl rfl rfl (nb rfl) rfl rfl rfl (by omega) (by omega) ?_ | refine bY tabOk rfl rfl rfl (nb rfl) rfl rfl rfl rfl rfl rfl rfl rfl rfl ?_ | refine aV tabOk rfl rfl (nb rfl) rfl ?_ | refine cU tabOk rfl rfl rfl (nb rfl) rfl rfl rfl rfl rfl rfl ?_ | refine bM tabOk rfl rfl rfl (nb rfl) rfl rfl rfl rfl ?_ | refine bK tabOk rfl rfl rfl rfl rfl rfl rfl rfl rfl rfl rfl ?_ | refine bF tabOk rfl rfl rfl (nb rfl) rfl rfl rfl rfl (by first | assumption | omega) ?_ | refine aY tabOk rfl rfl rfl (nb rfl) rfl rfl rfl rfl (by first | rfl | omega) (by first | omega | simp) ?_ | refine bE tabOk rfl rfl rfl (nb rfl) rfl rfl rfl (by assumption) ?_ | refine bE tabOk rfl rfl rfl (nb rfl) rfl rfl rfl (cG _ _ (by first | assumption | omega)) ?_ | refine bQ rfl rfl rfl (nb rfl) rfl rfl (by omega) ?_ | ((fail_if_success (refine cY (b := true) rfl rfl rfl ?_)); (fail_if_success (refine cY (b := false) rfl rfl rfl ?_)); refine dR rfl rfl rfl (fun hq => ?_) (fun hq => ?_) <;> first | subst hq | (first | (simp only [sD, sE, sB, sC, sN, sM, sT, sF] at hq; try (exfalso; omega)) | skip)) | fail) | (refine aL ?_; first | refine aG ?_ | refine aM ?_ | refine bI ?_ | refine aS ?_ | refine aN ?_ | refine bR ?_ | refine aT ?_ | refine aE (b := true) rfl (fun _ => ?_) nTf | refine aE (b := false) rfl nFt (fun _ => ?_) | refine fW ?_ | refine fV ?_ | refine gA mixed (by kernel_rfl) ?_ | refine aQ mixed (by kernel_rfl) ?_ | (refine aE rfl (fun hq => ?_) (fun hq => ?_) <;> first | subst hq | (first | (simp only [sD, sE, sB, sC, sN, sM, sT, sF] at hq; try (exfalso; omega)) | skip)) | fail) | (refine aK ?_; first | refine aU ?_ | refine bJ ?_ | refine aO ?_ | fail) | (refine aR ?_; first | refine bP ?_ | refine bH ?_ | refine dN (by decide) ?_ | refine aZ ?_ | fail) | refine bD (bB (by kernel_rfl)) ?_ | fail)
          all_goals first
            | exact absurd rfl (by assumption)
            | (refine aP (by first | exact .inl rfl | exact .inr rfl) (aX rfl (aB rfl)) rfl ?_; rfl)
        | true =>
          have c5 := c5 rfl rfl
          cases SB <;>
          (subst hQ
           refine aI Tryz.func29 rfl rfl (nb rfl) rfl ?_
           repeat' (first | refine aF ?_ | (refine aH ?_; first | refine aC tabOk rfl rfl rfl (nb rfl) rfl ?_ | refine bO rfl rfl (nb rfl) ?_ | (refine aJ rfl rfl rfl (nb rfl) rfl rfl rfl (fun hq => ?_) (fun hq => ?_) <;> (first | (simp only [sD, sE, sB, sC, sN, sM, sT, sF] at hq; try (exfalso; omega)) | skip))| refine aD rfl rfl (nb rfl) rfl rfl rfl rfl (c1) ?_ | refine aD rfl rfl (nb rfl) rfl rfl rfl rfl (c2) ?_ | refine aD rfl rfl (nb rfl) rfl rfl rfl rfl (c3) ?_ | refine aD rfl rfl (nb rfl) rfl rfl rfl rfl (c4) ?_ | refine aD rfl rfl (nb rfl) rfl rfl rfl rfl (c5) ?_ | refine bQ rfl rfl rfl (nb rfl) rfl rfl (by omega) ?_ | refine cS rfl rfl rfl (nb rfl) rfl rfl rfl (by omega) (by omega) ?_ | refine cH rfl rfl rfl (nb rfl) rfl rfl rfl (by omega) (by omega) ?_ | refine bY tabOk rfl rfl rfl (nb rfl) rfl rfl rfl rfl rfl rfl rfl rfl rfl ?_ | refine aV tabOk rfl rfl (nb rfl) rfl ?_ | refine cU tabOk rfl rfl rfl (nb rfl) rfl rfl rfl rfl rfl rfl ?_ | refine bM tabOk rfl rfl rfl (nb rfl) rfl rfl rfl rfl ?_ | refine bK tabOk rfl rfl rfl rfl rfl rfl rfl rfl rfl rfl rfl ?_ | refine bF tabOk rfl rfl rfl (nb rfl) rfl rfl rfl rfl (by first | assumption | omega) ?_ | refine aY tabOk rfl rfl rfl (nb rfl) rfl rfl rfl rfl (by first | rfl | omega) (by first | omega | simp) ?_ | refine bE tabOk rfl rfl rfl (nb rfl) rfl rfl rfl (by assumption) ?_ | refine bE tabOk rfl rfl rfl (nb rfl) rfl rfl rfl (cG _ _ (by first | assumption | omega)) ?_ | refine bQ rfl rfl rfl (nb rfl) rfl rfl (by omega) ?_ | ((fail_if_success (refine cY (b := true) rfl rfl rfl ?_)); (fail_if_success (refine cY (b := false) rfl rfl rfl ?_)); refine dR rfl rfl rfl (fun hq => ?_) (fun hq => ?_) <;> first | subst hq | (first | (simp only [sD, sE, sB, sC, sN, sM, sT, sF] at hq; try (exfalso; omega)) | skip)) | fail) | (refine aL ?_; first | refine aG ?_ | refine aM ?_ | refine bI ?_ | refine aS ?_ | refine aN ?_ | refine bR ?_ | refine aT ?_ | refine aE (b := true) rfl (fun _ => ?_) nTf | refine aE (b := false) rfl nFt (fun _ => ?_) | refine fW ?_ | refine fV ?_ | refine gA mixed (by kernel_rfl) ?_ | refine aQ mixed (by kernel_rfl) ?_ | (refine aE rfl (fun hq => ?_) (fun hq => ?_) <;> first | subst hq | (first | (simp only [sD, sE, sB, sC, sN, sM, sT, sF] at hq; try (exfalso; omega)) | skip)) | fail) | (refine aK ?_; first | refine aU ?_ | refine bJ ?_ | refine aO ?_ | fail) | (refine aR ?_; first | refine bP ?_ | refine bH ?_ | refine dN (by decide) ?_ | refine aZ ?_ | fail) | refine bD (bB (by kernel_rfl)) ?_ | fail)
           all_goals first
             | exact absurd rfl (by assumption)
             | (refine aP (by first | exact .inl rfl | exact .inr rfl) (aX rfl (aB rfl)) rfl ?_; rfl))
    · rw [if_pos hcb] at hQ
      subst hQ
      generalize checkP sformP b = C at *
      refine aI Tryz.func29 rfl rfl (nb rfl) rfl ?_
      repeat' (first | refine aF ?_ | (refine aH ?_; first | refine aC tabOk rfl rfl rfl (nb rfl) rfl ?_ | refine bO rfl rfl (nb rfl) ?_ | (refine aJ rfl rfl rfl (nb rfl) rfl rfl rfl (fun hq => ?_) (fun hq => ?_) <;> (first | (simp only [sD, sE, sB, sC, sN, sM, sT, sF] at hq; try (exfalso; omega)) | skip))| refine aD rfl rfl (nb rfl) rfl rfl rfl rfl (c1) ?_ | refine aD rfl rfl (nb rfl) rfl rfl rfl rfl (c2) ?_ | refine bQ rfl rfl rfl (nb rfl) rfl rfl (by omega) ?_ | refine cS rfl rfl rfl (nb rfl) rfl rfl rfl (by omega) (by omega) ?_ | refine cH rfl rfl rfl (nb rfl) rfl rfl rfl (by omega) (by omega) ?_ | refine bY tabOk rfl rfl rfl (nb rfl) rfl rfl rfl rfl rfl rfl rfl rfl rfl ?_ | refine aV tabOk rfl rfl (nb rfl) rfl ?_ | refine cU tabOk rfl rfl rfl (nb rfl) rfl rfl rfl rfl rfl rfl ?_ | refine bM tabOk rfl rfl rfl (nb rfl) rfl rfl rfl rfl ?_ | refine bK tabOk rfl rfl rfl rfl rfl rfl rfl rfl rfl rfl rfl ?_ | refine bF tabOk rfl rfl rfl (nb rfl) rfl rfl rfl rfl (by first | assumption | omega) ?_ | refine aY tabOk rfl rfl rfl (nb rfl) rfl rfl rfl rfl (by first | rfl | omega) (by first | omega | simp) ?_ | refine bE tabOk rfl rfl rfl (nb rfl) rfl rfl rfl (by assumption) ?_ | refine bE tabOk rfl rfl rfl (nb rfl) rfl rfl rfl (cG _ _ (by first | assumption | omega)) ?_ | refine bQ rfl rfl rfl (nb rfl) rfl rfl (by omega) ?_ | ((fail_if_success (refine cY (b := true) rfl rfl rfl ?_)); (fail_if_success (refine cY (b := false) rfl rfl rfl ?_)); refine dR rfl rfl rfl (fun hq => ?_) (fun hq => ?_) <;> first | subst hq | (first | (simp only [sD, sE, sB, sC, sN, sM, sT, sF] at hq; try (exfalso; omega)) | skip)) | fail) | (refine aL ?_; first | refine aG ?_ | refine aM ?_ | refine bI ?_ | refine aS ?_ | refine aN ?_ | refine bR ?_ | refine aT ?_ | refine aE (b := true) rfl (fun _ => ?_) nTf | refine aE (b := false) rfl nFt (fun _ => ?_) | refine fW ?_ | refine fV ?_ | refine gA mixed (by kernel_rfl) ?_ | refine aQ mixed (by kernel_rfl) ?_ | (refine aE rfl (fun hq => ?_) (fun hq => ?_) <;> first | subst hq | (first | (simp only [sD, sE, sB, sC, sN, sM, sT, sF] at hq; try (exfalso; omega)) | skip)) | fail) | (refine aK ?_; first | refine aU ?_ | refine bJ ?_ | refine aO ?_ | fail) | (refine aR ?_; first | refine bP ?_ | refine bH ?_ | refine dN (by decide) ?_ | refine aZ ?_ | fail) | refine bD (bB (by kernel_rfl)) ?_ | fail)
      all_goals first
        | exact absurd rfl (by assumption)
        | exact absurd (by assumption) hcb
        | (refine aP (by first | exact .inl rfl | exact .inr rfl) (aX rfl (aB rfl)) rfl ?_; rfl)
  · rw [if_pos hca] at hQ
    subst hQ
    generalize checkP sformP a = C at *
    refine aI Tryz.func29 rfl rfl (nb rfl) rfl ?_
    repeat' (first | refine aF ?_ | (refine aH ?_; first | refine aC tabOk rfl rfl rfl (nb rfl) rfl ?_ | refine bO rfl rfl (nb rfl) ?_ | (refine aJ rfl rfl rfl (nb rfl) rfl rfl rfl (fun hq => ?_) (fun hq => ?_) <;> (first | (simp only [sD, sE, sB, sC, sN, sM, sT, sF] at hq; try (exfalso; omega)) | skip))| refine aD rfl rfl (nb rfl) rfl rfl rfl rfl (c1) ?_ | refine bQ rfl rfl rfl (nb rfl) rfl rfl (by omega) ?_ | refine cS rfl rfl rfl (nb rfl) rfl rfl rfl (by omega) (by omega) ?_ | refine cH rfl rfl rfl (nb rfl) rfl rfl rfl (by omega) (by omega) ?_ | refine bY tabOk rfl rfl rfl (nb rfl) rfl rfl rfl rfl rfl rfl rfl rfl rfl ?_ | refine aV tabOk rfl rfl (nb rfl) rfl ?_ | refine cU tabOk rfl rfl rfl (nb rfl) rfl rfl rfl rfl rfl rfl ?_ | refine bM tabOk rfl rfl rfl (nb rfl) rfl rfl rfl rfl ?_ | refine bK tabOk rfl rfl rfl rfl rfl rfl rfl rfl rfl rfl rfl ?_ | refine bF tabOk rfl rfl rfl (nb rfl) rfl rfl rfl rfl (by first | assumption | omega) ?_ | refine aY tabOk rfl rfl rfl (nb rfl) rfl rfl rfl rfl (by first | rfl | omega) (by first | omega | simp) ?_ | refine bE tabOk rfl rfl rfl (nb rfl) rfl rfl rfl (by assumption) ?_ | refine bE tabOk rfl rfl rfl (nb rfl) rfl rfl rfl (cG _ _ (by first | assumption | omega)) ?_ | refine bQ rfl rfl rfl (nb rfl) rfl rfl (by omega) ?_ | ((fail_if_success (refine cY (b := true) rfl rfl rfl ?_)); (fail_if_success (refine cY (b := false) rfl rfl rfl ?_)); refine dR rfl rfl rfl (fun hq => ?_) (fun hq => ?_) <;> first | subst hq | (first | (simp only [sD, sE, sB, sC, sN, sM, sT, sF] at hq; try (exfalso; omega)) | skip)) | fail) | (refine aL ?_; first | refine aG ?_ | refine aM ?_ | refine bI ?_ | refine aS ?_ | refine aN ?_ | refine bR ?_ | refine aT ?_ | refine aE (b := true) rfl (fun _ => ?_) nTf | refine aE (b := false) rfl nFt (fun _ => ?_) | refine fW ?_ | refine fV ?_ | refine gA mixed (by kernel_rfl) ?_ | refine aQ mixed (by kernel_rfl) ?_ | (refine aE rfl (fun hq => ?_) (fun hq => ?_) <;> first | subst hq | (first | (simp only [sD, sE, sB, sC, sN, sM, sT, sF] at hq; try (exfalso; omega)) | skip)) | fail) | (refine aK ?_; first | refine aU ?_ | refine bJ ?_ | refine aO ?_ | fail) | (refine aR ?_; first | refine bP ?_ | refine bH ?_ | refine dN (by decide) ?_ | refine aZ ?_ | fail) | refine bD (bB (by kernel_rfl)) ?_ | fail)
    all_goals first
      | exact absurd (by assumption) hca
      | (refine aP (by first | exact .inl rfl | exact .inr rfl) (aX rfl (aB rfl)) rfl ?_; rfl)
end Go.Proofs.YtlbemgokilhdnaaGreat.Ab
namespace Go.Proofs.YtlbemgokilhdnaaGreat.Ab
set_option linter.unusedVariables false
set_option linter.unusedSimpArgs false
open Go.RowKit
attribute [local irreducible] AWP AOps AExit AThen ABlock ANoGoto FeetOk
theorem sP {P : Program} {f : FuncId} {args : List AV} {m m' : Mem} {r : AV} (h : ACalls P f (args.map AV.nz) m r m') : ACalls P f args m r m' :=
  ⟨h.enters, fun w M β vs ha hm hv => h.go w M β vs ha hm hv.nz⟩
mutual
/-- The labels to the first type that is a variable. -/
def wayP : Tree → Int → List ByteArray → List ByteArray × Bool
  | .nil, _, _ => ([], false)
  | .node k _ _ _ kids, i, ls => if k = 161 then way1 kids i ls else if k = 162 then wayPs kids i ls else ([], false)
def way1 : List Tree → Int → List ByteArray → List ByteArray × Bool
  | [.node k n _ _ _], i, ls => (ls, decide (k = 110) && decide (n = i))
  | _, _, _ => ([], false)
def wayPs : List Tree → Int → List ByteArray → List ByteArray × Bool
  | [], _, _ => ([], false)
  | t :: ts, i, ls => if (wayK t i ls).2 = true then ((wayK t i ls).1, true) else wayPs ts i ls
def wayK : Tree → Int → List ByteArray → List ByteArray × Bool
  | .nil, _, _ => ([], false)
  | .node _ _ name _ ks, i, ls => wayO ks i (ls ++ [name])
def wayO : List Tree → Int → List ByteArray → List ByteArray × Bool
  | [c], i, ls => wayP c i ls
  | _, _, _ => ([], false)
end
theorem aCF (l : List ByteArray) (x : ByteArray) : strs (l ++ [x]) = strs l ++ [.lit (.string x)] := by simp [strs]
theorem zQ (l : List ByteArray) : (strs l).length = l.length := by unfold strs; simp
theorem aCG (l : List ByteArray) (j : Nat) (h : j < l.length) : (strs l)[j * 1]? = some (.lit (.string l[j])) := by unfold strs; simp [h]
set_option maxHeartbeats 16000000 in
set_option maxRecDepth 10000 in
theorem aDt (t : Tree) : ∀ (i : Int) (ls : List ByteArray), isSigP t = true → t.whole = true → ls.length + t.size ≤ 100000000 → ACalls Tryz.prog 56 [.imm t.iv, .imm (.lit (.int .i64 i)), .imm (.sl false ls.length (strs ls))] [] (.imm (.tup [.sl false (wayP t i ls).1.length (strs (wayP t i ls).1), .lit (.bool (wayP t i ls).2)])) [] := by
  induction t using Tree.sind with
  | h t ih =>
    intro i ls hsg hw hsz
    obtain ⟨k, n, a, b, kids, rfl⟩ := bT hw
    have hl : kids.length < 1000000000 := by have := cE kids hw; simp only [Tree.size] at hsz; omega
    obtain ⟨Q, hQ⟩ : ∃ Q, wayP (.node k n a b kids) i ls = Q := ⟨_, rfl⟩
    rw [hQ]
    rw [wayP] at hQ
    rcases dA hsg with ⟨hk, c, rfl, hc⟩ | ⟨hk, hf, _⟩
    · obtain ⟨k1, n1, a1, b1, ks1, rfl, _⟩ := uE hc
      by_cases h161 : k = 161
      · rw [if_pos h161, way1] at hQ
        subst hQ
        subst h161
        clear ih
        refine aI Tryz.func56 rfl rfl (nb rfl) rfl ?_
        repeat' (first | refine aF ?_ | (refine aH ?_;  first | refine aC tabOk rfl rfl rfl (nb rfl) rfl ?_ | refine bO rfl rfl (nb rfl) ?_ | (refine aJ rfl rfl rfl (nb rfl) rfl rfl rfl (fun hq => ?_) (fun hq => ?_) <;> (first | (simp only [sD, sE, sB, sC, sN, sM, sT, sF] at hq; try (exfalso; omega)) | skip)) | refine aY tabOk rfl rfl rfl (nb rfl) rfl rfl rfl rfl (by first | rfl | omega) (by first | omega | simp) ?_) | (refine aL ?_;  first | refine aG ?_ | refine aM ?_ | refine aN ?_ | refine aE (b := true) rfl (fun _ => ?_) nTf | refine aQ mixed (by kernel_rfl) ?_) | (refine aK ?_;  first | refine aU ?_ | refine aO ?_) | refine bD (bB (by kernel_rfl)) ?_)
        all_goals first
          | exact absurd rfl (by assumption)
          | (exfalso; omega)
          | (refine aP (by first | exact .inl rfl | exact .inr rfl) (aW rfl (aB rfl) (aB rfl)) rfl ?_; first | rfl | (rw [decide_eq_true (by assumption), decide_eq_true (by assumption)]; rfl) | (rw [decide_eq_false (by assumption)]; rfl) | (rw [decide_eq_true (by assumption), decide_eq_false (by assumption)]; rfl))
      · rw [if_neg h161, if_neg (by omega)] at hQ
        subst hQ
        clear ih
        refine aI Tryz.func56 rfl rfl (nb rfl) rfl ?_
        repeat' (first | refine aF ?_ | (refine aH ?_;  first | refine aC tabOk rfl rfl rfl (nb rfl) rfl ?_ | (refine aJ rfl rfl rfl (nb rfl) rfl rfl rfl (fun hq => ?_) (fun hq => ?_) <;> (first | (simp only [sD, sE, sB, sC, sN, sM, sT, sF] at hq; try (exfalso; omega)) | skip))) | (refine aL ?_;  first | refine aG ?_ | refine aM ?_ | refine aN ?_ | refine aT ?_ | refine aE (b := false) rfl nFt (fun _ => ?_)) | (refine aK ?_;  first | refine aU ?_))
        all_goals first
          | exact absurd (by assumption) h161
          | (exfalso; omega)
          | (refine aP (by first | exact .inl rfl | exact .inr rfl) (aW rfl (dF (aB rfl)) (dF (aB rfl))) rfl ?_; rfl)
    · subst hk
      rw [if_neg (by decide), if_pos rfl] at hQ
      refine aI Tryz.func56 rfl rfl (nb rfl) rfl ?_
      repeat' (first | refine aF ?_ | (refine aH ?_;  first | refine aC tabOk rfl rfl rfl (nb rfl) rfl ?_ | (refine aJ rfl rfl rfl (nb rfl) rfl rfl rfl (fun hq => ?_) (fun hq => ?_) <;> (first | (simp only [sD, sE, sB, sC, sN, sM, sT, sF] at hq; try (exfalso; omega)) | skip)) | refine aV tabOk rfl rfl (nb rfl) rfl ?_) | (refine aL ?_;  first | refine aG ?_ | refine aM ?_ | refine aS ?_ | refine aT ?_ | refine aE (b := true) rfl (fun _ => ?_) nTf | refine aE (b := false) rfl nFt (fun _ => ?_)) | (refine aK ?_;  first | refine aU ?_))
      all_goals first
        | exact absurd rfl (by assumption)
        | (exfalso; omega)
        | skip
      refine cD (ι := {j : Nat // j ≤ kids.length ∧ wayPs (kids.drop j) i ls = Q}) (fun j => S.f ⟨[(51, .imm (.lit (.int .i64 (j.1 : Int)))), (50, .imm (.lit (.int .i64 (kids.length : Int)))), (49, .imm (.sl false kids.length (Tree.ivs kids))), (1, .imm (.lit (.int .i64 i))), (2, .imm (.sl false ls.length (strs ls)))], []⟩) (fun j => kids.length - j.1) ⟨0, Nat.zero_le _, hQ⟩ (bU (by repeat' first | exact trivial | refine ⟨rfl, ?_⟩) (by repeat' first | exact trivial | refine ⟨rfl, ?_⟩)) ?_
      clear hQ
      rintro ⟨j, hj, hR⟩
      dsimp only
      by_cases hlt : j < kids.length
      · have hm := List.getElem_mem hlt
        have hz := bN (k := 162) (n := n) (a := a) (b := b) hm
        have hwk := bC hw hm
        have hget := cG kids j hlt
        rw [List.drop_eq_getElem_cons hlt, wayPs] at hR
        obtain ⟨n1, a1, b1, c, e, hc⟩ := cO (hf _ hm)
        rw [e] at hz hwk hget hR
        rw [wayK, wayO] at hR
        have hz2 := bN (k := 163) (n := n1) (a := a1) (b := b1) (kids := [c]) (t := c) (by simp)
        have hln : (ls ++ [a1]).length = ls.length + 1 := by simp
        have hcall := ih c (by omega) i (ls ++ [a1]) hc (bC hwk (List.mem_singleton.2 rfl)) (by rw [hln]; omega)
        rw [hln] at hcall
        have hsn := (aCF ls a1).symm
        have hsl := zQ ls
        have h3 : IV.sl true (ls.length - 0) (((strs ls).drop (0 * 1)).take ((ls.length - 0) * 1)) = .sl true ls.length (strs ls) := by
          rw [Nat.zero_mul, List.drop_zero, Nat.sub_zero, Nat.mul_one, List.take_of_length_le (by omega)]
        clear ih e
        generalize wayP c i (ls ++ [a1]) = W at *
        obtain ⟨W1, W2⟩ := W
        dsimp only at *
        cases W2 with
        | true =>
          rw [if_pos rfl] at hR
          subst hR
          repeat' (first | refine aF ?_ | (refine aH ?_;  first | refine aC tabOk rfl rfl rfl (nb rfl) rfl ?_ | (refine aJ rfl rfl rfl (nb rfl) rfl rfl rfl (fun hq => ?_) (fun hq => ?_) <;> (first | (simp only [sD, sE, sB, sC, sN, sM, sT, sF] at hq; try (exfalso; omega)) | skip)) | refine bE tabOk rfl rfl rfl (nb rfl) rfl rfl rfl hget ?_ | refine oC (l := 0) (h := ls.length) tabOk rfl rfl rfl (nb rfl) rfl rfl rfl rfl rfl rfl (Nat.zero_le _) (Nat.le_refl _) h3 ?_ | refine fG (zs := strs (ls ++ [a1])) tabOk rfl rfl rfl (nb rfl) rfl rfl rfl rfl (.inl rfl) (by rw [hsl]; exact (Nat.mul_one _).symm) rfl (by omega) rfl (by omega) (by dsimp only; omega) hsn ?_ | refine aD rfl rfl (nb rfl) rfl rfl rfl rfl (hcall) ?_ | refine bY tabOk rfl rfl rfl (nb rfl) rfl rfl rfl rfl rfl rfl rfl rfl rfl ?_ | refine aV tabOk rfl rfl (nb rfl) rfl ?_ | refine bF tabOk rfl rfl rfl (nb rfl) rfl rfl rfl rfl (by first | assumption | omega) ?_ | refine aY tabOk rfl rfl rfl (nb rfl) rfl rfl rfl rfl (by first | rfl | omega) (by first | omega | simp) ?_) | (refine aL ?_;  first | refine aG ?_ | refine aM ?_ | refine aS ?_ | refine aN ?_ | refine aT ?_ | refine aE (b := true) rfl (fun _ => ?_) nTf | refine aQ mixed (by kernel_rfl) ?_) | (refine aK ?_;  first | refine aU ?_ | refine aO ?_) | (refine aR ?_;  first | refine aZ ?_) | refine bD (bB (by kernel_rfl)) ?_)
          all_goals first
            | (exfalso; omega)
            | (refine aP (by first | exact .inl rfl | exact .inr rfl) (aW rfl (aB rfl) (aB rfl)) rfl ?_; rfl)
        | false =>
          rw [if_neg (by simp)] at hR
          repeat' (first | refine aF ?_ | (refine aH ?_;  first | refine aC tabOk rfl rfl rfl (nb rfl) rfl ?_ | (refine aJ rfl rfl rfl (nb rfl) rfl rfl rfl (fun hq => ?_) (fun hq => ?_) <;> (first | (simp only [sD, sE, sB, sC, sN, sM, sT, sF] at hq; try (exfalso; omega)) | skip)) | refine bE tabOk rfl rfl rfl (nb rfl) rfl rfl rfl hget ?_ | refine oC (l := 0) (h := ls.length) tabOk rfl rfl rfl (nb rfl) rfl rfl rfl rfl rfl rfl (Nat.zero_le _) (Nat.le_refl _) h3 ?_ | refine fG (zs := strs (ls ++ [a1])) tabOk rfl rfl rfl (nb rfl) rfl rfl rfl rfl (.inl rfl) (by rw [hsl]; exact (Nat.mul_one _).symm) rfl (by omega) rfl (by omega) (by dsimp only; omega) hsn ?_ | refine aD rfl rfl (nb rfl) rfl rfl rfl rfl (hcall) ?_ | refine bQ rfl rfl rfl (nb rfl) rfl rfl (by omega) ?_ | refine bY tabOk rfl rfl rfl (nb rfl) rfl rfl rfl rfl rfl rfl rfl rfl rfl ?_ | refine aV tabOk rfl rfl (nb rfl) rfl ?_ | refine bF tabOk rfl rfl rfl (nb rfl) rfl rfl rfl rfl (by first | assumption | omega) ?_ | refine aY tabOk rfl rfl rfl (nb rfl) rfl rfl rfl rfl (by first | rfl | omega) (by first | omega | simp) ?_) | (refine aL ?_;  first | refine aG ?_ | refine aM ?_ | refine bI ?_ | refine aS ?_ | refine aT ?_ | refine aE (b := true) rfl (fun _ => ?_) nTf | refine aE (b := false) rfl nFt (fun _ => ?_) | refine aQ mixed (by kernel_rfl) ?_) | (refine aK ?_;  first | refine aU ?_) | (refine aR ?_;  first | refine bP ?_) | refine bD (bB (by kernel_rfl)) ?_)
          all_goals first
            | (exfalso; omega)
            | exact ⟨⟨j + 1, hlt, hR⟩, (by show kids.length - (j + 1) < kids.length - j; omega), (bU (by repeat' first | exact trivial | refine ⟨rfl, ?_⟩) (by repeat' first | exact trivial | refine ⟨rfl, ?_⟩))⟩
      · have ej : j = kids.length := by omega
        subst ej
        rw [List.drop_length, wayPs] at hR
        subst hR
        repeat' (first | refine aF ?_ | (refine aH ?_;  first | refine aC tabOk rfl rfl rfl (nb rfl) rfl ?_ | (refine aJ rfl rfl rfl (nb rfl) rfl rfl rfl (fun hq => ?_) (fun hq => ?_) <;> (first | (simp only [sD, sE, sB, sC, sN, sM, sT, sF] at hq; try (exfalso; omega)) | skip))) | (refine aL ?_;  first | refine aG ?_ | refine aM ?_ | refine aN ?_ | refine bR ?_ | refine aE (b := false) rfl nFt (fun _ => ?_)) | (refine aK ?_;  first | refine aU ?_ | refine bJ ?_) | (refine aR ?_;  first | refine bH ?_))
        all_goals first
          | (exfalso; omega)
          | (refine aP (by first | exact .inl rfl | exact .inr rfl) (aW rfl (dF (aB rfl)) (dF (aB rfl))) rfl ?_; rfl)
end Go.Proofs.YtlbemgokilhdnaaGreat.Ab
namespace Go.Proofs.YtlbemgokilhdnaaGreat.Ab
set_option linter.unusedVariables false
set_option linter.unusedSimpArgs false
open Go.RowKit
attribute [local irreducible] AWP AOps AExit AThen ABlock ANoGoto FeetOk
def Tree.num : Tree → Int
  | .nil => 0
  | .node _ n _ _ _ => n
/-- Down by labels, as long as there is something. -/
def downP : List ByteArray → Tree × Bool → Tree × Bool
  | [], p => p
  | s :: l, p => if p.2 = true then downP l (fieldP s p.1.kids) else downP l p
theorem aCH (t : Tree) (h : isSigP t = true) (hw : t.whole = true) (hs : t.size ≤ 100000000) (label : ByteArray) : ACalls Tryz.prog 57 [.imm t.iv, .imm (.lit (.string label))] [] (.imm (.tup [(fieldP label t.kids).1.iv, .lit (.bool (fieldP label t.kids).2)])) [] := by
  have hk := jT h
  obtain ⟨k, n, a, b, kids, rfl⟩ := bT hw
  exact zN k n a b kids label hw (by have := cE kids hw; simp only [Tree.size] at hs; omega) hk
theorem mT : ∀ (l : List ByteArray) (p : Tree × Bool), (p.2 = true → isSigP p.1 = true ∧ p.1.whole = true ∧ p.1.size ≤ 100000000) → (downP l p).2 = true → isSigP (downP l p).1 = true ∧ (downP l p).1.whole = true ∧ (downP l p).1.size ≤ 100000000
  | [], p, h, h2 => h h2
  | s :: l, p, h, h2 => by
    rw [downP] at h2 ⊢
    by_cases c : p.2 = true
    · rw [if_pos c] at h2 ⊢
      obtain ⟨g1, g2, g3⟩ := h c
      exact mT l _ (fun hf => by have := lM g1 g2 s hf; exact ⟨this.1, this.2.1, by omega⟩) h2
    · rw [if_neg c] at h2 ⊢
      exact mT l p h h2
/-- What an abstract type is. -/
def witP (kid sig : Tree) (i : Int) : Option Tree :=
  if (downP (wayP kid i []).1 (sig, (wayP kid i []).2)).2 = true ∧ (downP (wayP kid i []).1 (sig, (wayP kid i []).2)).1.kind = 161 then some (kid0 (downP (wayP kid i []).1 (sig, (wayP kid i []).2)).1) else none
def witsP (kid sig : Tree) : Nat → Int → List Tree → List Tree × Int
  | 0, _, acc => (acc, 0)
  | f + 1, i, acc => match witP kid sig i with
    | none => ([], 12)
    | some c => witsP kid sig f (i + 1) (acc ++ [c])
def witnessP (sig ex : Tree) : List Tree × Int :=
  if checkP sformP sig ≠ 0 then ([], checkP sformP sig) else if checkP sformP ex ≠ 0 then ([], checkP sformP ex)
  else if plainP sig = true ∧ ex.kind = 164 then witsP (kid0 ex) sig ex.num.toNat 0 [] else ([], 16)
theorem mU {t : Tree} (hc : checkP sformP t = 0) (hk : t.kind = 164) : ∃ n a b c, t = .node 164 n a b [c] ∧ isSigP c = true ∧ 0 ≤ n ∧ n ≤ 8192 := by
  obtain ⟨_, _, hf⟩ := bG hc
  unfold sformP at hf
  rw [Bool.or_eq_true, Bool.or_eq_true] at hf
  rcases hf with h | h | h
  · have := aAB h
    unfold plainP at this
    rw [Bool.and_eq_true, decide_eq_true_eq] at this
    exact absurd hk this.1
  · cases t with
    | nil => simp [isExP] at h
    | node k n a b kids =>
      by_cases h1 : kids.length = 1
      · obtain ⟨c, rfl⟩ := dG h1
        rw [isExP] at h
        simp only [Bool.and_eq_true, beq_iff_eq] at h
        have := iI h.1.2
        have e : k = 164 := h.1.1
        subst e
        exact ⟨n, a, b, c, rfl, h.2, this.1, this.2⟩
      · rw [qB h1] at h; cases h
  · rw [lO h] at hk; omega
theorem sig161 {t : Tree} (h : isSigP t = true) (hk : t.kind = 161) : ∃ n a b c, t = .node 161 n a b [c] ∧ checkP isConP c = 0 := by
  cases t with
  | nil => simp [isSigP] at h
  | node k n a b kids =>
    have hk : k = 161 := hk
    subst hk
    rcases dA h with ⟨_, c, rfl, hc⟩ | ⟨h, _⟩
    · exact ⟨n, a, b, c, rfl, hc⟩
    · omega
theorem vY {kid sig c : Tree} {i : Int} (hs : isSigP sig = true ∧ sig.whole = true ∧ sig.size ≤ 100000000) (h : witP kid sig i = some c) : checkP isConP c = 0 := by
  unfold witP at h
  split at h
  · rename_i hc
    obtain ⟨g1, _, _⟩ := mT _ (sig, (wayP kid i []).2) (fun _ => hs) hc.1
    obtain ⟨n, a, b, c', e, hcc⟩ := sig161 g1 hc.2
    cases h
    rw [e]
    exact hcc
  · cases h
theorem aBE (t : Tree) : ∀ (i : Int) (ls : List ByteArray), ls.length + t.size ≤ 100000000 → (wayP t i ls).1.length ≤ 100000000 := by
  induction t using Tree.sind with
  | h t ih =>
    intro i ls hs
    cases t with
    | nil => simp [wayP]
    | node k n a b kids =>
      rw [wayP]
      split
      · unfold way1
        split
        · simp only [Tree.size] at hs; dsimp only; omega
        · simp
      · split
        · have key : ∀ l : List Tree, (∀ t ∈ l, t ∈ kids) → (wayPs l i ls).1.length ≤ 100000000 := by
            intro l
            induction l with
            | nil => intro _; simp [wayPs]
            | cons x l ihl =>
              intro hm
              rw [wayPs]
              split
              · have hx := hm x (by simp)
                have hz := bN (k := k) (n := n) (a := a) (b := b) hx
                cases x with
                | nil => simp [wayK]
                | node k1 n1 a1 b1 ks1 =>
                  rw [wayK]
                  by_cases h1 : ks1.length = 1
                  · obtain ⟨c, rfl⟩ := dG h1
                    rw [wayO]
                    have hz2 := bN (k := k1) (n := n1) (a := a1) (b := b1) (kids := [c]) (t := c) (by simp)
                    exact ih c (by omega) i _ (by rw [List.length_append, List.length_singleton]; omega)
                  · match ks1, h1 with
                    | [], _ => simp [wayO]
                    | [x], h1 => simp at h1
                    | x :: y :: r, _ => simp [wayO]
              · exact ihl fun t ht => hm t (by simp [ht])
          exact key kids fun _ h => h
        · simp
set_option maxHeartbeats 16000000 in
set_option maxRecDepth 10000 in
theorem sQ (sig ex : Tree) (hss : sig.size ≤ 400000) (hse : ex.size ≤ 400000) : ACalls Tryz.prog 27 [.imm sig.iv, .imm ex.iv] [] (.imm (.tup [.sl false (witnessP sig ex).1.length (Tree.ivs (witnessP sig ex).1), .lit (.int .i64 (witnessP sig ex).2)])) [] := by
  have c1 := dV sig (by omega)
  have c2 := dV ex (by omega)
  obtain ⟨Q, hQ⟩ : ∃ Q, witnessP sig ex = Q := ⟨_, rfl⟩
  rw [hQ]
  unfold witnessP at hQ
  by_cases hca : checkP sformP sig = 0
  · rw [if_neg (by simpa using hca)] at hQ
    rw [hca] at c1
    by_cases hcb : checkP sformP ex = 0
    · rw [if_neg (by simpa using hcb)] at hQ
      rw [hcb] at c2
      have hwa := (bG hca).1
      have hwb := (bG hcb).1
      have c3 := oZ sig hwa
      by_cases hp : plainP sig = true ∧ ex.kind = 164
      · rw [if_pos hp] at hQ
        obtain ⟨hp1, hp2⟩ := hp
        rw [hp1] at c3
        have hsg := eV hca hp1
        obtain ⟨N, a, b, kid, rfl, hkid, hN0, hN1⟩ := mU hcb hp2
        have hkw := bC hwb (List.mem_singleton.2 rfl)
        have hksz := bN (k := 164) (n := N) (a := a) (b := b) (kids := [kid]) (t := kid) (by simp)
        obtain ⟨pk, hpk⟩ := bV (bL hkw)
        have hway : ∀ i : Int, ACalls Tryz.prog 56 [.imm kid.iv, .imm (.lit (.int .i64 i)), .imm (.lit (.slice none 0 0))] [] (.imm (.tup [.sl false (wayP kid i []).1.length (strs (wayP kid i []).1), .lit (.bool (wayP kid i []).2)])) [] := fun i => by
          have h := aDt kid i [] hkid hkw (by rw [List.length_nil]; omega)
          refine sP ?_
          rw [hpk] at h ⊢
          exact h
        change witsP kid sig N.toNat 0 [] = Q at hQ
        have hcb' := hcb
        clear hca hp2 hpk hp1
        refine cI Tryz.func27 rfl rfl (nb rfl) rfl ?_
        repeat' (first | refine aF ?_ | (refine aH ?_;  first | refine aC tabOk rfl rfl rfl (nb rfl) rfl ?_ | (refine aJ rfl rfl rfl (nb rfl) rfl rfl rfl (fun hq => ?_) (fun hq => ?_) <;> (first | (simp only [sD, sE, sB, sC, sN, sM, sT, sF] at hq; try (exfalso; omega)) | skip)) | refine aD rfl rfl (nb rfl) rfl rfl rfl rfl (c1) ?_ | refine aD rfl rfl (nb rfl) rfl rfl rfl rfl (c2) ?_ | refine aD rfl rfl (nb rfl) rfl rfl rfl rfl (c3) ?_) | (refine aL ?_;  first | refine aG ?_ | refine aM ?_ | refine aS ?_ | refine aT ?_ | refine aE (b := false) rfl nFt (fun _ => ?_)) | (refine aK ?_;  first | refine aU ?_))
        all_goals first
          | exact absurd rfl (by assumption)
          | (exfalso; omega)
          | skip
        refine cT (mD (t := 8) 500 25 1 rfl (by simp) rfl rfl) ?_
        refine cD (ι := {x : Nat × List Tree // (x.1 : Int) ≤ N ∧ x.2.length = x.1 ∧ witsP kid sig (N.toNat - x.1) (x.1 : Int) x.2 = Q}) (fun x => S.f ⟨[(39, .imm (.lit (.int .i64 (x.1.1 : Int)))), (38, .imm (.lit (.int .i64 N))), (8, .ref 500 x.1.2.length), (0, .imm sig.iv), (1, .imm (Tree.iv (.node 164 N a b [kid])))], [(500, .arr 25 1 x.1.2.length (Tree.ivs x.1.2))]⟩) (fun x => N.toNat - x.1.1) ⟨(0, []), hN0, rfl, hQ⟩ (bU (by repeat' first | exact trivial | refine ⟨rfl, ?_⟩) (by repeat' first | exact trivial | refine ⟨rfl, ?_⟩)) ?_
        clear hQ
        rintro ⟨⟨i, acc⟩, hi, hacc, hR⟩
        have hi : (i : Int) ≤ N := hi
        have hacc : acc.length = i := hacc
        have hR : witsP kid sig (N.toNat - i) (i : Int) acc = Q := hR
        dsimp only
        by_cases hlt : (i : Int) < N
        · obtain ⟨f, hf⟩ : ∃ f, N.toNat - i = f + 1 := ⟨N.toNat - i - 1, by omega⟩
          rw [hf, witsP] at hR
          have hcon := fun c => vY (kid := kid) (c := c) (i := (i : Int)) ⟨hsg, hwa, by omega⟩
          have cw := hway (i : Int)
          have hf2 : N.toNat - (i + 1) = f := by omega
          have hds := fun l p h h2 => mT l p h h2
          have hwlen := zQ (wayP kid (i : Int) []).1
          have hwit : witP kid sig (i : Int) = if (downP (wayP kid (i : Int) []).1 (sig, (wayP kid (i : Int) []).2)).2 = true ∧ (downP (wayP kid (i : Int) []).1 (sig, (wayP kid (i : Int) []).2)).1.kind = 161 then some (kid0 (downP (wayP kid (i : Int) []).1 (sig, (wayP kid (i : Int) []).2)).1) else none := rfl
          have hwl := aBE kid (i : Int) [] (by rw [List.length_nil]; omega)
          clear hway hf
          generalize wayP kid (i : Int) [] = W at *
          obtain ⟨w, ok⟩ := W
          dsimp only at *
          repeat' (first | refine aF ?_ | (refine aH ?_;  first | refine aC tabOk rfl rfl rfl (nb rfl) rfl ?_ | (refine aJ rfl rfl rfl (nb rfl) rfl rfl rfl (fun hq => ?_) (fun hq => ?_) <;> (first | (simp only [sD, sE, sB, sC, sN, sM, sT, sF] at hq; try (exfalso; omega)) | skip)) | refine aD rfl rfl (nb rfl) rfl rfl rfl rfl (cw) ?_ | refine aV tabOk rfl rfl (nb rfl) rfl ?_ | refine aY tabOk rfl rfl rfl (nb rfl) rfl rfl rfl rfl (by first | rfl | omega) (by first | omega | simp) ?_) | (refine aL ?_;  first | refine aG ?_ | refine aM ?_ | refine aS ?_ | refine aT ?_ | refine aE (b := true) rfl (fun _ => ?_) nTf) | (refine aK ?_;  first | refine aU ?_))
          all_goals first
            | (exfalso; omega)
            | skip
          refine cD (ι := {x : Nat × Tree × Bool // x.1 ≤ w.length ∧ (x.2.2 = true → isSigP x.2.1 = true ∧ x.2.1.whole = true ∧ x.2.1.size ≤ 100000000) ∧ downP (w.drop x.1) x.2 = downP w (sig, ok)}) (fun x => S.f ⟨[(56, .imm (.lit (.int .i64 (x.1.1 : Int)))), (55, .imm (.lit (.int .i64 (w.length : Int)))), (54, .imm (.sl false w.length (strs w))), (12, .imm x.1.2.1.iv), (11, .imm (.lit (.bool x.1.2.2))), (39, .imm (.lit (.int .i64 (i : Int)))), (38, .imm (.lit (.int .i64 N))), (8, .ref 500 acc.length), (0, .imm sig.iv), (1, .imm (Tree.iv (.node 164 N a b [kid])))], [(500, .arr 25 1 acc.length (Tree.ivs acc))]⟩) (fun x => w.length - x.1.1) ⟨(0, sig, ok), Nat.zero_le _, fun _ => ⟨hsg, hwa, by show sig.size ≤ 100000000; omega⟩, rfl⟩ (bU (by repeat' first | exact trivial | refine ⟨rfl, ?_⟩) (by repeat' first | exact trivial | refine ⟨rfl, ?_⟩)) ?_
          rintro ⟨⟨q, t, okq⟩, hq, hok, hD⟩
          have hq : q ≤ w.length := hq
          have hok : okq = true → isSigP t = true ∧ t.whole = true ∧ t.size ≤ 100000000 := hok
          have hD : downP (w.drop q) (t, okq) = downP w (sig, ok) := hD
          dsimp only
          by_cases hqlt : q < w.length
          · have hget := aCG w q hqlt
            rw [List.drop_eq_getElem_cons hqlt, downP] at hD
            cases okq with
            | true =>
              rw [if_pos rfl] at hD
              obtain ⟨g1, g2, g3⟩ := hok rfl
              have cf := aCH t g1 g2 g3 w[q]
              have hfn := lM g1 g2 w[q]
              change downP _ (fieldP w[q] t.kids) = _ at hD
              generalize fieldP w[q] t.kids = FP at *
              obtain ⟨F1, F2⟩ := FP
              dsimp only at *
              clear hcon hwit hds cw c1 c3
              repeat' (first | refine aF ?_ | (refine aH ?_;  first | refine aC tabOk rfl rfl rfl (nb rfl) rfl ?_ | (refine aJ rfl rfl rfl (nb rfl) rfl rfl rfl (fun hq => ?_) (fun hq => ?_) <;> (first | (simp only [sD, sE, sB, sC, sN, sM, sT, sF] at hq; try (exfalso; omega)) | skip)) | refine bE tabOk rfl rfl rfl (nb rfl) rfl rfl rfl hget ?_ | refine aD rfl rfl (nb rfl) rfl rfl rfl rfl (cf) ?_ | refine bQ rfl rfl rfl (nb rfl) rfl rfl (by omega) ?_ | refine bF tabOk rfl rfl rfl (nb rfl) rfl rfl rfl rfl (by first | assumption | omega) ?_) | (refine aL ?_;  first | refine aG ?_ | refine aM ?_ | refine bI ?_ | refine aS ?_ | refine aT ?_ | refine aE (b := true) rfl (fun _ => ?_) nTf) | (refine aK ?_;  first | refine aU ?_) | (refine aR ?_;  first | refine bP ?_))
              all_goals first
                | exact absurd rfl (by assumption)
                | (exfalso; omega)
                | exact ⟨⟨(q + 1, F1, F2), hqlt, fun h => by have := hfn h; exact ⟨this.1, this.2.1, by dsimp only; omega⟩, hD⟩, (by show w.length - (q + 1) < w.length - q; omega), (bU (by repeat' first | exact trivial | refine ⟨rfl, ?_⟩) (by repeat' first | exact trivial | refine ⟨rfl, ?_⟩))⟩
            | false =>
              rw [if_neg (by simp)] at hD
              clear hcon hwit hds cw c1 c3
              repeat' (first | refine aF ?_ | (refine aH ?_;  first | refine aC tabOk rfl rfl rfl (nb rfl) rfl ?_ | (refine aJ rfl rfl rfl (nb rfl) rfl rfl rfl (fun hq => ?_) (fun hq => ?_) <;> (first | (simp only [sD, sE, sB, sC, sN, sM, sT, sF] at hq; try (exfalso; omega)) | skip)) | refine bE tabOk rfl rfl rfl (nb rfl) rfl rfl rfl hget ?_ | refine bQ rfl rfl rfl (nb rfl) rfl rfl (by omega) ?_ | refine bF tabOk rfl rfl rfl (nb rfl) rfl rfl rfl rfl (by first | assumption | omega) ?_) | (refine aL ?_;  first | refine aG ?_ | refine aM ?_ | refine bI ?_ | refine aS ?_ | refine aT ?_ | refine aE (b := true) rfl (fun _ => ?_) nTf | refine aE (b := false) rfl nFt (fun _ => ?_)) | (refine aK ?_;  first | refine aU ?_) | (refine aR ?_;  first | refine bP ?_))
              all_goals first
                | exact absurd rfl (by assumption)
                | (exfalso; omega)
                | exact ⟨⟨(q + 1, t, false), hqlt, (fun h => by cases h), hD⟩, (by show w.length - (q + 1) < w.length - q; omega), (bU (by repeat' first | exact trivial | refine ⟨rfl, ?_⟩) (by repeat' first | exact trivial | refine ⟨rfl, ?_⟩))⟩
          · have eq : w.drop q = [] := List.drop_eq_nil_of_le (by omega)
            rw [eq, downP] at hD
            rw [← hD] at hwit
            dsimp only at hwit
            cases okq with
            | false =>
              rw [if_neg (by simp)] at hwit
              rw [hwit] at hR
              have hR : ([], 12) = Q := hR
              subst hR
              clear hcon hwit hds cw c1 c3
              repeat' (first | refine aF ?_ | (refine aH ?_;  first | refine aC tabOk rfl rfl rfl (nb rfl) rfl ?_ | refine bO rfl rfl (nb rfl) ?_ | (refine aJ rfl rfl rfl (nb rfl) rfl rfl rfl (fun hq => ?_) (fun hq => ?_) <;> (first | (simp only [sD, sE, sB, sC, sN, sM, sT, sF] at hq; try (exfalso; omega)) | skip))) | (refine aL ?_;  first | refine aG ?_ | refine aM ?_ | refine aN ?_ | refine bR ?_ | refine aE (b := true) rfl (fun _ => ?_) nTf | refine aE (b := false) rfl nFt (fun _ => ?_)) | (refine aK ?_;  first | refine aU ?_ | refine bJ ?_ | refine aO ?_) | (refine aR ?_;  first | refine bH ?_ | refine aZ ?_))
              all_goals first
                | exact absurd rfl (by assumption)
                | (exfalso; omega)
                | (refine cK ?_; refine aP (by first | exact .inl rfl | exact .inr rfl) (aW rfl (dF (aB rfl)) (dF (aB rfl))) rfl ?_; rfl)
            | true =>
              obtain ⟨g1, g2, g3⟩ := hok rfl
              by_cases hk : t.kind = 161
              · rw [if_pos ⟨rfl, hk⟩] at hwit
                obtain ⟨n', a', b', c, rfl, hcc⟩ := sig161 g1 hk
                have hwit : witP kid sig (i : Int) = some c := hwit
                rw [hwit] at hR
                have hR : witsP kid sig f ((i : Int) + 1) (acc ++ [c]) = Q := hR
                obtain ⟨pc, hpc⟩ := bV (bL (bG hcc).1)
                have hciv : (Tree.node 161 n' a' b' [c]).iv = .ptr [.lit (.int .i64 161), .lit (.int .i64 n'), .lit (.string a'), .lit (.string b'), .sl false 1 [.ptr pc 0]] 0 := by rw [Tree.iv, Tree.ivs, Tree.ivs, hpc]; rfl
                have hiv : Tree.ivs (acc ++ [c]) = Tree.ivs acc ++ [.ptr pc 0] := by rw [cQ, cQ, List.map_append, ← hpc]; rfl
                have hln : (acc ++ [c]).length = acc.length + 1 := by simp
                have hil := cX acc
                rw [hciv]
                clear hcon hwit hds cw c1 c3 hok hciv hpc
                repeat' (first | refine aF ?_ | (refine aH ?_;  first | refine aC tabOk rfl rfl rfl (nb rfl) rfl ?_ | (refine aJ rfl rfl rfl (nb rfl) rfl rfl rfl (fun hq => ?_) (fun hq => ?_) <;> (first | (simp only [sD, sE, sB, sC, sN, sM, sT, sF] at hq; try (exfalso; omega)) | skip)) | refine cM tabOk rfl rfl rfl (nb rfl) rfl rfl rfl rfl rfl rfl rfl (by first | omega | decide) rfl (by first | omega | (dsimp only; omega)) (by first | omega | (dsimp only; omega)) ?_ | refine bQ rfl rfl rfl (nb rfl) rfl rfl (by omega) ?_ | refine bY tabOk rfl rfl rfl (nb rfl) rfl rfl rfl rfl rfl rfl rfl rfl rfl ?_ | refine aY tabOk rfl rfl rfl (nb rfl) rfl rfl rfl rfl (by first | rfl | omega) (by first | omega | simp) ?_) | (refine aL ?_;  first | refine aG ?_ | refine aM ?_ | refine bI ?_ | refine bR ?_ | refine aT ?_ | refine aE (b := false) rfl nFt (fun _ => ?_)) | (refine aK ?_;  first | refine aU ?_ | refine bJ ?_) | (refine aR ?_;  first | refine bP ?_ | refine bH ?_))
                all_goals first
                  | exact absurd rfl (by assumption)
                  | (exfalso; omega)
                  | (refine ⟨⟨(i + 1, acc ++ [c]), by show ((i + 1 : Nat) : Int) ≤ N; omega, by show (acc ++ [c]).length = i + 1; omega, by show witsP kid sig (N.toNat - (i + 1)) ((i + 1 : Nat) : Int) (acc ++ [c]) = Q; rw [hf2]; exact hR⟩, (by show N.toNat - (i + 1) < N.toNat - i; omega), ?_⟩; dsimp only; rw [hiv, hln]; exact (bU (by repeat' first | exact trivial | refine ⟨rfl, ?_⟩) (by repeat' first | exact trivial | refine ⟨rfl, ?_⟩)))
              · rw [if_neg (fun h => hk h.2)] at hwit
                rw [hwit] at hR
                have hR : ([], 12) = Q := hR
                subst hR
                obtain ⟨k', n', a', b', ks', rfl⟩ := bT g2
                have hk : k' ≠ 161 := hk
                clear hcon hwit hds cw c1 c3 hok
                repeat' (first | refine aF ?_ | (refine aH ?_;  first | refine aC tabOk rfl rfl rfl (nb rfl) rfl ?_ | (refine aJ rfl rfl rfl (nb rfl) rfl rfl rfl (fun hq => ?_) (fun hq => ?_) <;> (first | (simp only [sD, sE, sB, sC, sN, sM, sT, sF] at hq; try (exfalso; omega)) | skip))) | (refine aL ?_;  first | refine aG ?_ | refine aM ?_ | refine aN ?_ | refine bR ?_ | refine aE (b := true) rfl (fun _ => ?_) nTf | refine aE (b := false) rfl nFt (fun _ => ?_)) | (refine aK ?_;  first | refine aU ?_ | refine bJ ?_ | refine aO ?_) | (refine aR ?_;  first | refine bH ?_ | refine aZ ?_))
                all_goals first
                  | exact absurd rfl (by assumption)
                  | exact absurd (by assumption) hk
                  | (exfalso; omega)
                  | (refine cK ?_; refine aP (by first | exact .inl rfl | exact .inr rfl) (aW rfl (dF (aB rfl)) (dF (aB rfl))) rfl ?_; rfl)
        · have e0 : N.toNat - i = 0 := by omega
          rw [e0, witsP] at hR
          subst hR
          clear hway c1 c3
          refine cT ((Imp.of_le (σ' := S.f ⟨[(39, .imm (.lit (.int .i64 (i : Int)))), (38, .imm (.lit (.int .i64 N))), (8, .ref 500 acc.length)], [(500, .arr 25 1 acc.length (Tree.ivs acc))]⟩) (bU (by repeat' first | exact trivial | refine ⟨rfl, ?_⟩) (by repeat' first | exact trivial | refine ⟨rfl, ?_⟩))).trans (cP (g := 500) rfl (by repeat' first | exact trivial | exact fun _ => rfl | refine ⟨?_, ?_⟩) (by repeat' first | exact trivial | exact fun _ => rfl | refine ⟨?_, ?_⟩))) ?_
          repeat' (first | refine aF ?_ | (refine aH ?_;  first | refine aC tabOk rfl rfl rfl (nb rfl) rfl ?_ | (refine aJ rfl rfl rfl (nb rfl) rfl rfl rfl (fun hq => ?_) (fun hq => ?_) <;> (first | (simp only [sD, sE, sB, sC, sN, sM, sT, sF] at hq; try (exfalso; omega)) | skip))) | (refine aL ?_;  first | refine aG ?_ | refine aM ?_ | refine aN ?_ | refine bR ?_ | refine aE (b := false) rfl nFt (fun _ => ?_)) | (refine aK ?_;  first | refine aU ?_ | refine bJ ?_) | (refine aR ?_;  first | refine bH ?_))
          all_goals first
            | (refine cK ?_; refine aP (by first | exact .inl rfl | exact .inr rfl) (aW rfl (aB rfl) (aB rfl)) rfl ?_; rfl)
            | (exfalso; omega)
      · rw [if_neg hp] at hQ
        subst hQ
        obtain ⟨k', n', a', b', ks', rfl⟩ := bT hwb
        have hp : plainP sig = true → k' ≠ 164 := fun h1 h2 => hp ⟨h1, h2⟩
        generalize plainP sig = PS at *
        cases PS with
        | false =>
          refine cI Tryz.func27 rfl rfl (nb rfl) rfl ?_
          repeat' (first | refine aF ?_ | (refine aH ?_;  first | refine aC tabOk rfl rfl rfl (nb rfl) rfl ?_ | refine bO rfl rfl (nb rfl) ?_ | (refine aJ rfl rfl rfl (nb rfl) rfl rfl rfl (fun hq => ?_) (fun hq => ?_) <;> (first | (simp only [sD, sE, sB, sC, sN, sM, sT, sF] at hq; try (exfalso; omega)) | skip)) | refine aD rfl rfl (nb rfl) rfl rfl rfl rfl (c1) ?_ | refine aD rfl rfl (nb rfl) rfl rfl rfl rfl (c2) ?_ | refine aD rfl rfl (nb rfl) rfl rfl rfl rfl (c3) ?_) | (refine aL ?_;  first | refine aG ?_ | refine aM ?_ | refine aN ?_ | refine aT ?_ | refine aE (b := true) rfl (fun _ => ?_) nTf | refine aE (b := false) rfl nFt (fun _ => ?_)) | (refine aK ?_;  first | refine aU ?_ | refine aO ?_))
          all_goals first
            | exact absurd rfl (by assumption)
            | (refine cK ?_; refine aP (by first | exact .inl rfl | exact .inr rfl) (aW rfl (dF (aB rfl)) (dF (aB rfl))) rfl ?_; rfl)
        | true =>
          have hp := hp rfl
          refine cI Tryz.func27 rfl rfl (nb rfl) rfl ?_
          repeat' (first | refine aF ?_ | (refine aH ?_;  first | refine aC tabOk rfl rfl rfl (nb rfl) rfl ?_ | (refine aJ rfl rfl rfl (nb rfl) rfl rfl rfl (fun hq => ?_) (fun hq => ?_) <;> (first | (simp only [sD, sE, sB, sC, sN, sM, sT, sF] at hq; try (exfalso; omega)) | skip)) | refine aD rfl rfl (nb rfl) rfl rfl rfl rfl (c1) ?_ | refine aD rfl rfl (nb rfl) rfl rfl rfl rfl (c2) ?_ | refine aD rfl rfl (nb rfl) rfl rfl rfl rfl (c3) ?_) | (refine aL ?_;  first | refine aG ?_ | refine aM ?_ | refine aN ?_ | refine aT ?_ | refine aE (b := true) rfl (fun _ => ?_) nTf | refine aE (b := false) rfl nFt (fun _ => ?_)) | (refine aK ?_;  first | refine aU ?_ | refine aO ?_))
          all_goals first
            | exact absurd rfl (by assumption)
            | exact absurd (by assumption) hp
            | (refine cK ?_; refine aP (by first | exact .inl rfl | exact .inr rfl) (aW rfl (dF (aB rfl)) (dF (aB rfl))) rfl ?_; rfl)
    · rw [if_pos hcb] at hQ
      subst hQ
      generalize checkP sformP ex = C at *
      refine cI Tryz.func27 rfl rfl (nb rfl) rfl ?_
      repeat' (first | refine aF ?_ | (refine aH ?_;  first | refine aC tabOk rfl rfl rfl (nb rfl) rfl ?_ | (refine aJ rfl rfl rfl (nb rfl) rfl rfl rfl (fun hq => ?_) (fun hq => ?_) <;> (first | (simp only [sD, sE, sB, sC, sN, sM, sT, sF] at hq; try (exfalso; omega)) | skip)) | refine aD rfl rfl (nb rfl) rfl rfl rfl rfl (c1) ?_ | refine aD rfl rfl (nb rfl) rfl rfl rfl rfl (c2) ?_) | (refine aL ?_;  first | refine aG ?_ | refine aM ?_ | refine aN ?_ | refine aT ?_ | refine aE (b := true) rfl (fun _ => ?_) nTf | refine aE (b := false) rfl nFt (fun _ => ?_)) | (refine aK ?_;  first | refine aU ?_ | refine aO ?_))
      all_goals first
        | exact absurd rfl (by assumption)
        | exact absurd (by assumption) hcb
        | (refine cK ?_; refine aP (by first | exact .inl rfl | exact .inr rfl) (aW rfl (dF (aB rfl)) (dF (aB rfl))) rfl ?_; rfl)
  · rw [if_pos hca] at hQ
    subst hQ
    generalize checkP sformP sig = C at *
    refine cI Tryz.func27 rfl rfl (nb rfl) rfl ?_
    repeat' (first | refine aF ?_ | (refine aH ?_;  first | refine aC tabOk rfl rfl rfl (nb rfl) rfl ?_ | (refine aJ rfl rfl rfl (nb rfl) rfl rfl rfl (fun hq => ?_) (fun hq => ?_) <;> (first | (simp only [sD, sE, sB, sC, sN, sM, sT, sF] at hq; try (exfalso; omega)) | skip)) | refine aD rfl rfl (nb rfl) rfl rfl rfl rfl (c1) ?_) | (refine aL ?_;  first | refine aG ?_ | refine aM ?_ | refine aN ?_ | refine aE (b := true) rfl (fun _ => ?_) nTf) | (refine aK ?_;  first | refine aO ?_))
    all_goals first
      | exact absurd (by assumption) hca
      | (refine cK ?_; refine aP (by first | exact .inl rfl | exact .inr rfl) (aW rfl (dF (aB rfl)) (dF (aB rfl))) rfl ?_; rfl)
end Go.Proofs.YtlbemgokilhdnaaGreat.Ab
namespace Go.Proofs.YtlbemgokilhdnaaGreat.Ab
set_option linter.unusedVariables false
set_option linter.unusedSimpArgs false
open Go.RowKit
attribute [local irreducible] AWP AOps AExit AThen ABlock ANoGoto FeetOk
set_option maxHeartbeats 4000000 in
set_option maxRecDepth 10000 in
theorem uG (l : List Tree) (F : FuncId) (R : Tree → Bool) (hl : l.length < 1000000000)
    (hf : ∀ j (h : j < l.length), ACalls Tryz.prog F [.imm l[j].iv] [] (.imm (.lit (.bool (R l[j])))) []) :
    ACalls Tryz.prog 76 [.imm (.sl false l.length (Tree.ivs l)), .imm (.func F [] [])] [] (.imm (.lit (.int .i64 (findP R l 0)))) [] := by
  generalize hR : findP R l 0 = Q
  refine bX [] Tryz.func76 rfl rfl (nb rfl) rfl rfl ?_
  repeat' (first | refine aF ?_ | (refine aH ?_;  first | refine aC tabOk rfl rfl rfl (nb rfl) rfl ?_ | refine aV tabOk rfl rfl (nb rfl) rfl ?_) | (refine aL ?_;  first | refine aG ?_ | refine aM ?_ | refine aS ?_))
  refine cD (ι := {j : Nat // j ≤ l.length ∧ findP R (l.drop j) j = Q}) (fun j => S.f ⟨[(8, .imm (.lit (.int .i64 (j.1 : Int)))), (7, .imm (.lit (.int .i64 (l.length : Int)))), (0, .imm (.sl false l.length (Tree.ivs l))), (1, .imm (.func F [] []))], []⟩) (fun j => l.length - j.1) ⟨0, Nat.zero_le _, hR⟩ (bU (by repeat' first | exact trivial | refine ⟨rfl, ?_⟩) (by repeat' first | exact trivial | refine ⟨rfl, ?_⟩)) ?_
  clear hR
  rintro ⟨j, hj, hR⟩
  dsimp only
  by_cases hlt : j < l.length
  · have hget := cG l j hlt
    have hc := hf j hlt
    rw [List.drop_eq_getElem_cons hlt, findP] at hR
    cases hRj : R l[j] with
    | true =>
      rw [hRj] at hc hR
      rw [if_pos rfl] at hR
      subst hR
      repeat' (first | refine aF ?_ | (refine aH ?_;  first | refine aC tabOk rfl rfl rfl (nb rfl) rfl ?_ | (refine aJ rfl rfl rfl (nb rfl) rfl rfl rfl (fun hq => ?_) (fun hq => ?_) <;> (first | (simp only [sD, sE, sB, sC, sN, sM, sT, sF] at hq; try (exfalso; omega)) | skip)) | refine bW rfl rfl (nb rfl) rfl rfl rfl rfl hc (by repeat' first | exact trivial | refine ⟨rfl, ?_⟩) rfl (by show ([] : List Nat).Nodup; decide) ?_ | refine bF tabOk rfl rfl rfl (nb rfl) rfl rfl rfl rfl (by first | assumption | omega) ?_ | refine bE tabOk rfl rfl rfl (nb rfl) rfl rfl rfl (by assumption) ?_) | (refine aL ?_;  first | refine aG ?_ | refine aM ?_ | refine aS ?_ | refine aN ?_ | refine aT ?_ | refine aE (b := true) rfl (fun _ => ?_) nTf) | (refine aK ?_;  first | refine aU ?_ | refine aO ?_) | (refine aR ?_;  first | refine aZ ?_))
      all_goals first
        | (exfalso; omega)
        | (refine cC (bZ (by first | exact .inl rfl | exact .inr rfl) (aX rfl (aB rfl)) rfl (by repeat' first | exact trivial | refine ⟨rfl, ?_⟩) rfl ?_); rfl)
    | false =>
      rw [hRj] at hc hR
      rw [if_neg (by simp)] at hR
      repeat' (first | refine aF ?_ | (refine aH ?_;  first | refine aC tabOk rfl rfl rfl (nb rfl) rfl ?_ | (refine aJ rfl rfl rfl (nb rfl) rfl rfl rfl (fun hq => ?_) (fun hq => ?_) <;> (first | (simp only [sD, sE, sB, sC, sN, sM, sT, sF] at hq; try (exfalso; omega)) | skip)) | refine bW rfl rfl (nb rfl) rfl rfl rfl rfl hc (by repeat' first | exact trivial | refine ⟨rfl, ?_⟩) rfl (by show ([] : List Nat).Nodup; decide) ?_ | refine bQ rfl rfl rfl (nb rfl) rfl rfl (by omega) ?_ | refine bF tabOk rfl rfl rfl (nb rfl) rfl rfl rfl rfl (by first | assumption | omega) ?_ | refine bE tabOk rfl rfl rfl (nb rfl) rfl rfl rfl (by assumption) ?_) | (refine aL ?_;  first | refine aG ?_ | refine aM ?_ | refine bI ?_ | refine aS ?_ | refine aT ?_ | refine aE (b := true) rfl (fun _ => ?_) nTf | refine aE (b := false) rfl nFt (fun _ => ?_)) | (refine aK ?_;  first | refine aU ?_) | (refine aR ?_;  first | refine bP ?_))
      all_goals first
        | (exfalso; omega)
        | exact ⟨⟨j + 1, hlt, hR⟩, (by show l.length - (j + 1) < l.length - j; omega), (bU (by repeat' first | exact trivial | refine ⟨rfl, ?_⟩) (by repeat' first | exact trivial | refine ⟨rfl, ?_⟩))⟩
  · have ej : j = l.length := by omega
    subst ej
    rw [List.drop_length, findP] at hR
    subst hR
    repeat' (first | refine aF ?_ | (refine aH ?_;  first | refine aC tabOk rfl rfl rfl (nb rfl) rfl ?_ | (refine aJ rfl rfl rfl (nb rfl) rfl rfl rfl (fun hq => ?_) (fun hq => ?_) <;> (first | (simp only [sD, sE, sB, sC, sN, sM, sT, sF] at hq; try (exfalso; omega)) | skip))) | (refine aL ?_;  first | refine aG ?_ | refine aM ?_ | refine aN ?_ | refine bR ?_ | refine aE (b := false) rfl nFt (fun _ => ?_)) | (refine aK ?_;  first | refine aU ?_ | refine bJ ?_) | (refine aR ?_;  first | refine bH ?_))
    all_goals first
      | (exfalso; omega)
      | (refine cC (bZ (by first | exact .inl rfl | exact .inr rfl) (aX rfl (aB rfl)) rfl (by repeat' first | exact trivial | refine ⟨rfl, ?_⟩) rfl ?_); rfl)
set_option maxHeartbeats 4000000 in
set_option maxRecDepth 10000 in
theorem fH (l : List Tree) (F : FuncId) (R : Tree → Bool) (hl : l.length < 1000000000)
    (hf : ∀ j (h : j < l.length), ACalls Tryz.prog F [.imm l[j].iv] [] (.imm (.lit (.bool (R l[j])))) []) :
    ACalls Tryz.prog 44 [.imm (.sl false l.length (Tree.ivs l)), .imm (.func F [] [])] [] (.imm (.lit (.bool (l.any R)))) [] := by
  have hc := uG l F R hl hf
  have ha := nL R l 0
  generalize findP R l 0 = Q at *
  refine bX [] Tryz.func44 rfl rfl (nb rfl) rfl rfl ?_
  repeat' (first | refine aF ?_ | (refine aH ?_;  first | refine aC tabOk rfl rfl rfl (nb rfl) rfl ?_ | (refine aJ rfl rfl rfl (nb rfl) rfl rfl rfl (fun hq => ?_) (fun hq => ?_) <;> (first | (simp only [sD, sE, sB, sC, sN, sM, sT, sF] at hq; try (exfalso; omega)) | skip)) | refine bW rfl rfl (nb rfl) rfl rfl rfl rfl hc (by repeat' first | exact trivial | refine ⟨rfl, ?_⟩) rfl (by show ([] : List Nat).Nodup; decide) ?_) | (refine aL ?_;  first | refine aG ?_ | refine aN ?_))
  all_goals
    (have e : l.any R = decide (Q ≥ 0) := by
       cases h : l.any R with
       | true => exact (decide_eq_true (ha.2 h)).symm
       | false => exact (decide_eq_false (fun hq => by rw [ha.1 hq] at h; cases h)).symm
     rw [e]
     refine cC (bZ (by first | exact .inl rfl | exact .inr rfl) (aX rfl (aB rfl)) rfl (by repeat' first | exact trivial | refine ⟨rfl, ?_⟩) rfl ?_); refine cJ ?_; first | exact (decide_eq_true (by assumption)).symm | exact (decide_eq_false (by assumption)).symm)
set_option maxRecDepth 10000 in
theorem aAC (t : Tree) (hs : t.size ≤ 100000000) : ACalls Tryz.prog 58 [.imm t.iv] [] (.imm (.lit (.bool (!decide (checkP isConP t = 0))))) [] := by
  have c1 := dX t hs
  generalize checkP isConP t = C at *
  refine aI Tryz.func58 rfl rfl (nb rfl) rfl ?_
  repeat' (first | refine aF ?_ | (refine aH ?_;  first | refine aC tabOk rfl rfl rfl (nb rfl) rfl ?_ | (refine aJ rfl rfl rfl (nb rfl) rfl rfl rfl (fun hq => ?_) (fun hq => ?_) <;> (first | (simp only [sD, sE, sB, sC, sN, sM, sT, sF] at hq; try (exfalso; omega)) | skip)) | refine aD rfl rfl (nb rfl) rfl rfl rfl rfl (c1) ?_) | (refine aL ?_;  first | refine aG ?_ | refine aN ?_))
  all_goals (refine aP (by first | exact .inl rfl | exact .inr rfl) (aX rfl (aB rfl)) rfl ?_; refine cJ ?_; simp_all)
/-- The constructors put in, one after the other. -/
def fillL (n : Int) : List Tree → Int → Tree → Tree × Int
  | [], _, s => (s, 0)
  | c :: cs, i, s => if (shiftP c (n - 1 - i) 0).2 ≠ 0 then (.nil, 3) else if (ssubstP s 0 (shiftP c (n - 1 - i) 0).1).2 ≠ 0 then (.nil, (ssubstP s 0 (shiftP c (n - 1 - i) 0).1).2) else fillL n cs (i + 1) (ssubstP s 0 (shiftP c (n - 1 - i) 0).1).1
/-- None of what is made on the way is beyond what is looked at here. -/
def fillOk (n : Int) : List Tree → Int → Tree → Bool
  | [], _, _ => true
  | c :: cs, i, s => if (shiftP c (n - 1 - i) 0).2 ≠ 0 then true else decide ((swalkP (ssubC 0 (shiftP c (n - 1 - i) 0).1) s 0).1.size ≤ 100000000) && (if (ssubstP s 0 (shiftP c (n - 1 - i) 0).1).2 ≠ 0 then true else fillOk n cs (i + 1) (ssubstP s 0 (shiftP c (n - 1 - i) 0).1).1)
/-- The end: are the types small? -/
def finP (r : Tree × Int) : Tree × Int := if r.2 ≠ 0 then (.nil, r.2) else if ssmallP r.1 ≠ 0 then (.nil, ssmallP r.1) else (r.1, 0)
def fillP (ex : Tree) (cons : List Tree) : Tree × Int :=
  if checkP sformP ex ≠ 0 then (.nil, checkP sformP ex)
  else if ex.kind ≠ 164 then (.nil, 16)
  else if (cons.length : Int) ≠ ex.num ∨ (cons.any fun c => !decide (checkP isConP c = 0)) = true then (.nil, 2)
  else finP (fillL cons.length cons 0 (kid0 ex))
theorem uH {t by_ : Tree} {i : Int} (h : (ssubstP t i by_).2 = 0) : (ssubstP t i by_).1.size ≤ 65536 := by
  unfold ssubstP at h ⊢
  split at h
  · rename_i hc; exact absurd h hc
  · rename_i hc
    rw [if_neg hc]
    split at h
    · rename_i hb; exact absurd h hb
    · rename_i hb
      rw [if_neg hb]
      split at h
      · cases h
      · rename_i hi
        rw [if_neg hi]
        unfold sizedP at h ⊢
        split at h
        · rename_i h1; exact absurd h h1
        · rename_i h1
          rw [if_neg h1]
          split at h
          · rename_i h2; exact absurd h h2
          · rename_i h2
            rw [if_neg h2]
            have h3 := gP (swalkP (ssubC i by_) t 0).1 65536 (by omega) (by omega)
            have h4 := eE (swalkP (ssubC i by_) t 0).1 65536 (by omega) (by omega)
            dsimp only
            omega
set_option maxHeartbeats 16000000 in
set_option maxRecDepth 10000 in
theorem aBF (ex : Tree) (cons : List Tree) (hse : ex.size ≤ 100000000) (hl : cons.length ≤ 100000) (hcs : ∀ c ∈ cons, c.size ≤ 100000000) (hok : fillOk cons.length cons 0 (kid0 ex) = true) :
    ACalls Tryz.prog 28 [.imm ex.iv, .imm (.sl false cons.length (Tree.ivs cons))] [] (.imm (.tup [(fillP ex cons).1.iv, .lit (.int .i64 (fillP ex cons).2)])) [] := by
  have c1 := dV ex hse
  have c2 := fH cons 58 (fun c => !decide (checkP isConP c = 0)) (by omega) (fun j h => aAC _ (hcs _ (List.getElem_mem h)))
  have hgood : (cons.any fun c => !decide (checkP isConP c = 0)) = false → ∀ c ∈ cons, checkP isConP c = 0 := fun h c hc => by
    rw [List.any_eq_false] at h
    have := h c hc
    simpa using this
  obtain ⟨Q, hQ⟩ : ∃ Q, fillP ex cons = Q := ⟨_, rfl⟩
  rw [hQ]
  unfold fillP at hQ
  by_cases hca : checkP sformP ex = 0
  · rw [if_neg (by simpa using hca)] at hQ
    rw [hca] at c1
    have hwe := (bG hca).1
    by_cases hk : ex.kind = 164
    · rw [if_neg (by simpa using hk)] at hQ
      obtain ⟨N, a, b, kid, rfl, hkid, hN0, hN1⟩ := mU hca hk
      have hkz := bN (k := 164) (n := N) (a := a) (b := b) (kids := [kid]) (t := kid) (by simp)
      change fillOk cons.length cons 0 kid = true at hok
      have hnum : (Tree.node 164 N a b [kid]).num = N := rfl
      have hkd0 : kid0 (Tree.node 164 N a b [kid]) = kid := rfl
      rw [hnum, hkd0] at hQ
      by_cases hbad : (cons.length : Int) ≠ N ∨ (cons.any fun c => !decide (checkP isConP c = 0)) = true
      · rw [if_pos hbad] at hQ
        subst hQ
        clear hgood hok
        generalize (cons.any fun c => !decide (checkP isConP c = 0)) = B at *
        cases B <;>
        (refine aI Tryz.func28 rfl rfl (nb rfl) rfl ?_
         repeat' (first | refine aF ?_ | (refine aH ?_;  first | refine aC tabOk rfl rfl rfl (nb rfl) rfl ?_ | refine bO rfl rfl (nb rfl) ?_ | (refine aJ rfl rfl rfl (nb rfl) rfl rfl rfl (fun hq => ?_) (fun hq => ?_) <;> (first | (simp only [sD, sE, sB, sC, sN, sM, sT, sF] at hq; try (exfalso; omega)) | skip)) | refine aD rfl rfl (nb rfl) rfl rfl rfl rfl (c1) ?_ | refine aD rfl rfl (nb rfl) rfl rfl rfl rfl (c2) ?_ | refine aV tabOk rfl rfl (nb rfl) rfl ?_ | refine aY tabOk rfl rfl rfl (nb rfl) rfl rfl rfl rfl (by first | rfl | omega) (by first | omega | simp) ?_) | (refine aL ?_;  first | refine aG ?_ | refine aM ?_ | refine aS ?_ | refine aN ?_ | refine aT ?_ | refine aE (b := true) rfl (fun _ => ?_) nTf | refine aE (b := false) rfl nFt (fun _ => ?_)) | (refine aK ?_;  first | refine aU ?_ | refine aO ?_) | (refine aR ?_;  first | refine bP ?_ | refine aZ ?_))
         all_goals first
           | exact absurd rfl (by assumption)
           | (exfalso; simp at hbad; omega)
           | (refine aP (by first | exact .inl rfl | exact .inr rfl) (aW rfl (aB rfl) (aB rfl)) rfl ?_; rfl))
      · rw [if_neg hbad] at hQ
        have hlen : (cons.length : Int) = N := by
          by_cases h : (cons.length : Int) = N
          · exact h
          · exact absurd (.inl h) hbad
        have hB : (cons.any fun c => !decide (checkP isConP c = 0)) = false := by
          cases h : (cons.any fun c => !decide (checkP isConP c = 0)) with
          | true => exact absurd (.inr h) hbad
          | false => rfl
        have hgood := hgood hB
        rw [hB] at c2
        clear hbad hB
        generalize hn : (cons.length : Int) = n at *
        refine aI Tryz.func28 rfl rfl (nb rfl) rfl ?_
        repeat' (first | refine aF ?_ | (refine aH ?_;  first | refine aC tabOk rfl rfl rfl (nb rfl) rfl ?_ | (refine aJ rfl rfl rfl (nb rfl) rfl rfl rfl (fun hq => ?_) (fun hq => ?_) <;> (first | (simp only [sD, sE, sB, sC, sN, sM, sT, sF] at hq; try (exfalso; omega)) | skip)) | refine aD rfl rfl (nb rfl) rfl rfl rfl rfl (c1) ?_ | refine aD rfl rfl (nb rfl) rfl rfl rfl rfl (c2) ?_ | refine aV tabOk rfl rfl (nb rfl) rfl ?_ | refine aY tabOk rfl rfl rfl (nb rfl) rfl rfl rfl rfl (by first | rfl | omega) (by first | omega | simp) ?_) | (refine aL ?_;  first | refine aG ?_ | refine aM ?_ | refine aS ?_ | refine aT ?_ | refine aE (b := false) rfl nFt (fun _ => ?_)) | (refine aK ?_;  first | refine aU ?_) | (refine aR ?_;  first | refine bP ?_))
        all_goals first
          | exact absurd rfl (by assumption)
          | (exfalso; omega)
          | skip
        refine cD (ι := {x : Nat × Tree // x.1 ≤ cons.length ∧ x.2.size ≤ 100000000 ∧ fillOk n (cons.drop x.1) (x.1 : Int) x.2 = true ∧ finP (fillL n (cons.drop x.1) (x.1 : Int) x.2) = Q}) (fun x => S.f ⟨[(46, .imm (.lit (.int .i64 (x.1.1 : Int)))), (45, .imm (.lit (.int .i64 (cons.length : Int)))), (44, .imm (.sl false cons.length (Tree.ivs cons))), (8, .imm x.1.2.iv), (1, .imm (.sl false cons.length (Tree.ivs cons)))], []⟩) (fun x => cons.length - x.1.1) ⟨(0, kid), Nat.zero_le _, by show kid.size ≤ 100000000; omega, hok, hQ⟩ (bU (by repeat' first | exact trivial | refine ⟨rfl, ?_⟩) (by repeat' first | exact trivial | refine ⟨rfl, ?_⟩)) ?_
        clear hQ hok c1 c2
        rintro ⟨⟨i, s⟩, hi, hss, hok, hQ⟩
        have hi : i ≤ cons.length := hi
        have hss : s.size ≤ 100000000 := hss
        have hok : fillOk n (cons.drop i) (i : Int) s = true := hok
        have hQ : finP (fillL n (cons.drop i) (i : Int) s) = Q := hQ
        dsimp only
        by_cases hlt : i < cons.length
        · have hm := List.getElem_mem hlt
          have hget := cG cons i hlt
          rw [List.drop_eq_getElem_cons hlt] at hok hQ
          rw [fillOk] at hok
          rw [fillL] at hQ
          have c3 := kO cons[i] (n - 1 - i) 0 (hcs _ hm)
          have hfn := dQ cons[i] (n - 1 - i) 0
          have hcz := hcs _ hm
          generalize shiftP cons[i] (n - 1 - i) 0 = SH at *
          obtain ⟨S1, S2⟩ := SH
          dsimp only at *
          by_cases h2 : S2 = 0
          · subst h2
            rw [if_neg (by simp), Bool.and_eq_true, decide_eq_true_eq] at hok
            rw [if_neg (by simp)] at hQ
            obtain ⟨g1, g2, _⟩ := hfn rfl
            have c4 := aBC s 0 S1 hss (by omega) hok.1
            have hok2 := hok.2
            have hsz := fun h => uH (t := s) (by_ := S1) (i := 0) h
            clear hok hfn
            generalize ssubstP s 0 S1 = W at *
            obtain ⟨W1, W2⟩ := W
            dsimp only at *
            by_cases h3 : W2 = 0
            · subst h3
              rw [if_neg (by simp)] at hok2 hQ
              have hz := hsz rfl
              repeat' (first | refine aF ?_ | (refine aH ?_;  first | refine aC tabOk rfl rfl rfl (nb rfl) rfl ?_ | (refine aJ rfl rfl rfl (nb rfl) rfl rfl rfl (fun hq => ?_) (fun hq => ?_) <;> (first | (simp only [sD, sE, sB, sC, sN, sM, sT, sF] at hq; try (exfalso; omega)) | skip)) | refine bE tabOk rfl rfl rfl (nb rfl) rfl rfl rfl hget ?_ | refine cH (z := n - 1) rfl rfl rfl (nb rfl) rfl rfl (by omega) (by omega) (by omega) ?_ | refine cH (z := n - 1 - i) rfl rfl rfl (nb rfl) rfl rfl rfl (by omega) (by omega) ?_ | refine aD rfl rfl (nb rfl) rfl rfl rfl rfl (c3) ?_ | refine aD rfl rfl (nb rfl) rfl rfl rfl rfl (c4) ?_ | refine bQ rfl rfl rfl (nb rfl) rfl rfl (by omega) ?_ | refine aV tabOk rfl rfl (nb rfl) rfl ?_ | refine bF tabOk rfl rfl rfl (nb rfl) rfl rfl rfl rfl (by first | assumption | omega) ?_) | (refine aL ?_;  first | refine aG ?_ | refine aM ?_ | refine bI ?_ | refine aS ?_ | refine aT ?_ | refine aE (b := true) rfl (fun _ => ?_) nTf | refine aE (b := false) rfl nFt (fun _ => ?_)) | (refine aK ?_;  first | refine aU ?_) | (refine aR ?_;  first | refine bP ?_))
              all_goals first
                | exact absurd rfl (by assumption)
                | (exfalso; omega)
                | exact ⟨⟨(i + 1, W1), hlt, by show W1.size ≤ 100000000; omega, hok2, hQ⟩, (by show cons.length - (i + 1) < cons.length - i; omega), (bU (by repeat' first | exact trivial | refine ⟨rfl, ?_⟩) (by repeat' first | exact trivial | refine ⟨rfl, ?_⟩))⟩
            · rw [if_pos h3] at hQ
              unfold finP at hQ
              rw [if_pos h3] at hQ
              subst hQ
              repeat' (first | refine aF ?_ | (refine aH ?_;  first | refine aC tabOk rfl rfl rfl (nb rfl) rfl ?_ | (refine aJ rfl rfl rfl (nb rfl) rfl rfl rfl (fun hq => ?_) (fun hq => ?_) <;> (first | (simp only [sD, sE, sB, sC, sN, sM, sT, sF] at hq; try (exfalso; omega)) | skip)) | refine bE tabOk rfl rfl rfl (nb rfl) rfl rfl rfl hget ?_ | refine cH (z := n - 1) rfl rfl rfl (nb rfl) rfl rfl (by omega) (by omega) (by omega) ?_ | refine cH (z := n - 1 - i) rfl rfl rfl (nb rfl) rfl rfl rfl (by omega) (by omega) ?_ | refine aD rfl rfl (nb rfl) rfl rfl rfl rfl (c3) ?_ | refine aD rfl rfl (nb rfl) rfl rfl rfl rfl (c4) ?_ | refine aV tabOk rfl rfl (nb rfl) rfl ?_ | refine bF tabOk rfl rfl rfl (nb rfl) rfl rfl rfl rfl (by first | assumption | omega) ?_) | (refine aL ?_;  first | refine aG ?_ | refine aM ?_ | refine aS ?_ | refine aN ?_ | refine aT ?_ | refine aE (b := true) rfl (fun _ => ?_) nTf | refine aE (b := false) rfl nFt (fun _ => ?_)) | (refine aK ?_;  first | refine aU ?_ | refine aO ?_) | (refine aR ?_;  first | refine aZ ?_))
              all_goals first
                | exact absurd (by assumption) h3
                | exact absurd rfl (by assumption)
                | (exfalso; omega)
                | (refine aP (by first | exact .inl rfl | exact .inr rfl) (aW rfl (aB rfl) (aB rfl)) rfl ?_; rfl)
          · rw [if_pos h2] at hQ
            have hQ : (Tree.nil, (3 : Int)) = Q := hQ
            subst hQ
            repeat' (first | refine aF ?_ | (refine aH ?_;  first | refine aC tabOk rfl rfl rfl (nb rfl) rfl ?_ | (refine aJ rfl rfl rfl (nb rfl) rfl rfl rfl (fun hq => ?_) (fun hq => ?_) <;> (first | (simp only [sD, sE, sB, sC, sN, sM, sT, sF] at hq; try (exfalso; omega)) | skip)) | refine bE tabOk rfl rfl rfl (nb rfl) rfl rfl rfl hget ?_ | refine cH (z := n - 1) rfl rfl rfl (nb rfl) rfl rfl (by omega) (by omega) (by omega) ?_ | refine cH (z := n - 1 - i) rfl rfl rfl (nb rfl) rfl rfl rfl (by omega) (by omega) ?_ | refine aD rfl rfl (nb rfl) rfl rfl rfl rfl (c3) ?_ | refine aV tabOk rfl rfl (nb rfl) rfl ?_ | refine bF tabOk rfl rfl rfl (nb rfl) rfl rfl rfl rfl (by first | assumption | omega) ?_) | (refine aL ?_;  first | refine aG ?_ | refine aM ?_ | refine aS ?_ | refine aN ?_ | refine aT ?_ | refine aE (b := true) rfl (fun _ => ?_) nTf) | (refine aK ?_;  first | refine aU ?_ | refine aO ?_) | (refine aR ?_;  first | refine aZ ?_))
            all_goals first
              | exact absurd (by assumption) h2
              | exact absurd rfl (by assumption)
              | (exfalso; omega)
              | (refine aP (by first | exact .inl rfl | exact .inr rfl) (aW rfl (aB rfl) (aB rfl)) rfl ?_; rfl)
        · have e0 : cons.drop i = [] := List.drop_eq_nil_of_le (by omega)
          rw [e0, fillL] at hQ
          unfold finP at hQ
          dsimp only at hQ
          rw [if_neg (by simp)] at hQ
          have c5 := aCE s hss
          generalize ssmallP s = SM at *
          by_cases h4 : SM = 0
          · subst h4
            rw [if_neg (by simp)] at hQ
            subst hQ
            repeat' (first | refine aF ?_ | (refine aH ?_;  first | refine aC tabOk rfl rfl rfl (nb rfl) rfl ?_ | (refine aJ rfl rfl rfl (nb rfl) rfl rfl rfl (fun hq => ?_) (fun hq => ?_) <;> (first | (simp only [sD, sE, sB, sC, sN, sM, sT, sF] at hq; try (exfalso; omega)) | skip)) | refine aD rfl rfl (nb rfl) rfl rfl rfl rfl (c5) ?_) | (refine aL ?_;  first | refine aG ?_ | refine aM ?_ | refine aN ?_ | refine bR ?_ | refine aT ?_ | refine aE (b := false) rfl nFt (fun _ => ?_)) | (refine aK ?_;  first | refine aU ?_ | refine bJ ?_) | (refine aR ?_;  first | refine bH ?_))
            all_goals first
              | exact absurd rfl (by assumption)
              | (exfalso; omega)
              | (refine aP (by first | exact .inl rfl | exact .inr rfl) (aW rfl (aB rfl) (aB rfl)) rfl ?_; rfl)
          · rw [if_pos h4] at hQ
            subst hQ
            repeat' (first | refine aF ?_ | (refine aH ?_;  first | refine aC tabOk rfl rfl rfl (nb rfl) rfl ?_ | (refine aJ rfl rfl rfl (nb rfl) rfl rfl rfl (fun hq => ?_) (fun hq => ?_) <;> (first | (simp only [sD, sE, sB, sC, sN, sM, sT, sF] at hq; try (exfalso; omega)) | skip)) | refine aD rfl rfl (nb rfl) rfl rfl rfl rfl (c5) ?_) | (refine aL ?_;  first | refine aG ?_ | refine aM ?_ | refine aN ?_ | refine bR ?_ | refine aE (b := true) rfl (fun _ => ?_) nTf | refine aE (b := false) rfl nFt (fun _ => ?_)) | (refine aK ?_;  first | refine aU ?_ | refine bJ ?_ | refine aO ?_) | (refine aR ?_;  first | refine bH ?_))
            all_goals first
              | exact absurd (by assumption) h4
              | exact absurd rfl (by assumption)
              | (exfalso; omega)
              | (refine aP (by first | exact .inl rfl | exact .inr rfl) (aW rfl (aB rfl) (aB rfl)) rfl ?_; rfl)
    · rw [if_pos hk] at hQ
      subst hQ
      obtain ⟨k', n', a', b', ks', rfl⟩ := bT hwe
      have hk : k' ≠ 164 := hk
      clear c2 hgood
      refine aI Tryz.func28 rfl rfl (nb rfl) rfl ?_
      repeat' (first | refine aF ?_ | (refine aH ?_;  first | refine aC tabOk rfl rfl rfl (nb rfl) rfl ?_ | (refine aJ rfl rfl rfl (nb rfl) rfl rfl rfl (fun hq => ?_) (fun hq => ?_) <;> (first | (simp only [sD, sE, sB, sC, sN, sM, sT, sF] at hq; try (exfalso; omega)) | skip)) | refine aD rfl rfl (nb rfl) rfl rfl rfl rfl (c1) ?_) | (refine aL ?_;  first | refine aG ?_ | refine aM ?_ | refine aS ?_ | refine aN ?_ | refine aT ?_ | refine aE (b := true) rfl (fun _ => ?_) nTf | refine aE (b := false) rfl nFt (fun _ => ?_)) | (refine aK ?_;  first | refine aU ?_ | refine aO ?_) | (refine aR ?_;  first | refine aZ ?_))
      all_goals first
        | exact absurd rfl (by assumption)
        | exact absurd (by assumption) hk
        | (refine aP (by first | exact .inl rfl | exact .inr rfl) (aW rfl (aB rfl) (aB rfl)) rfl ?_; rfl)
  · rw [if_pos hca] at hQ
    subst hQ
    clear c2 hgood
    generalize checkP sformP ex = C at *
    refine aI Tryz.func28 rfl rfl (nb rfl) rfl ?_
    repeat' (first | refine aF ?_ | (refine aH ?_;  first | refine aC tabOk rfl rfl rfl (nb rfl) rfl ?_ | (refine aJ rfl rfl rfl (nb rfl) rfl rfl rfl (fun hq => ?_) (fun hq => ?_) <;> (first | (simp only [sD, sE, sB, sC, sN, sM, sT, sF] at hq; try (exfalso; omega)) | skip)) | refine aD rfl rfl (nb rfl) rfl rfl rfl rfl (c1) ?_) | (refine aL ?_;  first | refine aG ?_ | refine aM ?_ | refine aN ?_ | refine aE (b := true) rfl (fun _ => ?_) nTf) | (refine aK ?_;  first | refine aO ?_))
    all_goals first
      | exact absurd (by assumption) hca
      | (refine aP (by first | exact .inl rfl | exact .inr rfl) (aW rfl (aB rfl) (aB rfl)) rfl ?_; rfl)
end Go.Proofs.YtlbemgokilhdnaaGreat.Ab
namespace Go.Proofs.YtlbemgokilhdnaaGreat.Ab
set_option linter.unusedVariables false
set_option linter.unusedSimpArgs false
open Go.RowKit
attribute [local irreducible] AWP AOps AExit AThen ABlock ANoGoto FeetOk
structure CellD where
  f : Bool
  k : Int
  n : Int
  a : ByteArray
  b : ByteArray
  kids : List Int
def intIVs (l : List Int) : List IV := l.map fun x => .lit (.int .i64 x)
def cellIV (c : CellD) : List IV := [.lit (.int .i64 c.k), .lit (.int .i64 c.n), .lit (.string c.a), .lit (.string c.b), .sl c.f c.kids.length (intIVs c.kids)]
def cellIVs : List CellD → List IV
  | [] => []
  | c :: l => cellIV c ++ cellIVs l
theorem qO (l : List Int) (j : Nat) (h : j < l.length) : (intIVs l)[j * 1]? = some (.lit (.int .i64 l[j])) := by unfold intIVs; simp [h]
theorem yE (l : List Int) : (intIVs l).length = l.length := by unfold intIVs; simp
theorem oL : ∀ l m : List CellD, cellIVs (l ++ m) = cellIVs l ++ cellIVs m
  | [], m => rfl
  | c :: l, m => by rw [List.cons_append, cellIVs, cellIVs, oL l m, List.append_assoc]
theorem gU : ∀ (l : List CellD) (j : Nat) (h : j < l.length), ((cellIVs l).drop (j * 5)).take 5 = cellIV l[j]
  | c :: l, 0, h => by rw [Nat.zero_mul, List.drop_zero, cellIVs, List.take_append_of_le_length (by simp [cellIV])]; rfl
  | c :: l, j + 1, h => by
    have e : (j + 1) * 5 = 5 + j * 5 := by omega
    have e5 : (cellIV c).length = 5 := rfl
    rw [e, ← List.drop_drop, cellIVs]
    conv => lhs; rw [← e5, List.drop_left]
    rw [e5, gU l j (by simpa using h)]
    rfl
theorem yF (l : List CellD) (j i : Nat) (h : j < l.length) (hi : i < 5) : (cellIVs l)[j * 5 + i]? = (cellIV l[j])[i]? := by
  rw [← gU l j h, List.getElem?_take, if_pos hi, List.getElem?_drop]
/-- The tree at a cell. -/
def growT (l : List CellD) : Nat → Nat → Tree
  | 0, _ => .nil
  | f + 1, i => match l[i]? with
    | none => .nil
    | some c => .node c.k c.n c.a c.b (c.kids.map fun x => growT l f x.toNat)
def below (l : List CellD) : Prop := ∀ i (h : i < l.length), ∀ x ∈ l[i].kids, 0 ≤ x ∧ x < (i : Int)
theorem aAD (l : List CellD) (f i : Nat) (h : i < f) (hi : i < l.length) : ∃ cs, (growT l f i).iv = .ptr cs 0 := by
  cases f with
  | zero => omega
  | succ f => rw [growT, List.getElem?_eq_getElem hi]; exact ⟨_, rfl⟩
theorem aBG (l : List Tree) (t : Tree) : Tree.ivs (l ++ [t]) = Tree.ivs l ++ [t.iv] := by rw [cQ, cQ, List.map_append]; rfl
set_option maxHeartbeats 16000000 in
set_option maxRecDepth 10000 in
theorem aDe (l : List CellD) (hb : below l) (hlen : l.length ≤ 8192) (hk : ∀ c ∈ l, c.kids.length ≤ 8192) : ∀ (f i : Nat), i < f → i < l.length →
    ACalls Tryz.prog 48 [.imm (.agg [.sl false l.length (cellIVs l)]), .imm (.lit (.int .i64 (i : Int)))] [] (.imm (growT l f i).iv) [] := by
  intro f
  induction f with
  | zero => intro i h; omega
  | succ f ih =>
    intro i hif hil
    have hT : growT l (f + 1) i = .node l[i].k l[i].n l[i].a l[i].b (l[i].kids.map fun x => growT l f x.toNat) := by
      rw [growT, List.getElem?_eq_getElem hil]
    rw [hT]
    have hrow := gU l i hil
    have hbi := hb i hil
    have hki := hk l[i] (List.getElem_mem hil)
    generalize hc : l[i] = c at *
    change _ = [IV.lit (.int .i64 c.k), .lit (.int .i64 c.n), .lit (.string c.a), .lit (.string c.b), .sl c.f c.kids.length (intIVs c.kids)] at hrow
    refine cI Tryz.func48 rfl rfl (nb rfl) rfl ?_
    repeat' (first | refine aF ?_ | (refine aH ?_;  first | refine aC tabOk rfl rfl rfl (nb rfl) rfl ?_ | refine lI tabOk rfl rfl rfl (nb rfl) rfl rfl rfl hrow rfl ?_ | refine dZ tabOk rfl rfl rfl (nb rfl) rfl rfl rfl rfl rfl ?_ | refine iE (t := 43) rfl rfl rfl (nb rfl) rfl rfl rfl rfl rfl rfl rfl ?_ | refine aV tabOk rfl rfl (nb rfl) rfl ?_ | refine cU tabOk rfl rfl rfl (nb rfl) rfl rfl rfl rfl rfl rfl ?_ | refine bM tabOk rfl rfl rfl (nb rfl) rfl rfl rfl rfl ?_ | refine bK tabOk rfl rfl rfl rfl rfl rfl rfl rfl rfl rfl rfl ?_ | refine bF tabOk rfl rfl rfl (nb rfl) rfl rfl rfl rfl (by first | assumption | omega) ?_) | (refine aL ?_;  first | refine aG ?_ | refine aM ?_ | refine aS ?_))
    have hTs : ∀ j (hj : j < c.kids.length), Tree.ivs ((c.kids.take (j + 1)).map fun x => growT l f x.toNat) = Tree.ivs ((c.kids.take j).map fun x => growT l f x.toNat) ++ [(growT l f (c.kids[j]).toNat).iv] := fun j hj => by
      rw [List.take_succ_eq_append_getElem hj, List.map_append, List.map_singleton, aBG]
    refine cT (dY (h0 := 22) (k0 := 4) 500 25 1 rfl rfl (by simp) rfl rfl) ?_
    refine cD (ι := {j : Nat // j ≤ c.kids.length}) (fun j => S.f ⟨[(7, .imm (.lit (.int .i64 (j.1 : Int)))), (6, .obj 22 0), (5, .obj 5 0), (2, .imm (.ptr [.sl false l.length (cellIVs l)] 0))], [(500, .arr 25 1 j.1 (Tree.ivs ((c.kids.take j.1).map fun x => growT l f x.toNat))), (22, .cells [.imm (.lit (.int .i64 c.k)), .imm (.lit (.int .i64 c.n)), .imm (.lit (.string c.a)), .imm (.lit (.string c.b)), .ref 500 j.1]), (5, .cells [.imm (.lit (.int .i64 c.k)), .imm (.lit (.int .i64 c.n)), .imm (.lit (.string c.a)), .imm (.lit (.string c.b)), .imm (.sl c.f c.kids.length (intIVs c.kids))])]⟩) (fun j => c.kids.length - j.1) ⟨0, Nat.zero_le _⟩ (bU (by repeat' first | exact trivial | refine ⟨rfl, ?_⟩) (by repeat' first | exact trivial | refine ⟨rfl, ?_⟩)) ?_
    rintro ⟨j, hj⟩
    dsimp only
    by_cases hlt : j < c.kids.length
    · have hx := hbi c.kids[j] (List.getElem_mem hlt)
      have hcall := ih (c.kids[j]).toNat (by omega) (by omega)
      have hxe : ((c.kids[j]).toNat : Int) = c.kids[j] := Int.toNat_of_nonneg hx.1
      rw [hxe] at hcall
      obtain ⟨pc, hpc⟩ := aAD l f (c.kids[j]).toNat (by omega) (by omega)
      have hTj := hTs j hlt
      rw [hpc] at hcall hTj
      repeat' (first | refine aF ?_ | (refine aH ?_;  first | refine aC tabOk rfl rfl rfl (nb rfl) rfl ?_ | (refine aJ rfl rfl rfl (nb rfl) rfl rfl rfl (fun hq => ?_) (fun hq => ?_) <;> (first | (simp only [sD, sE, sB, sC, sN, sM, sT, sF] at hq; try (exfalso; omega)) | skip)) | refine aD rfl rfl (nb rfl) rfl rfl rfl rfl (hcall) ?_ | refine bE tabOk rfl rfl rfl (nb rfl) rfl rfl rfl (qO _ _ hlt) ?_ | refine cM tabOk rfl rfl rfl (nb rfl) rfl rfl rfl rfl rfl rfl rfl (by first | omega | decide) rfl (by first | omega | (dsimp only; omega)) (by first | omega | (dsimp only; omega)) ?_ | refine bQ rfl rfl rfl (nb rfl) rfl rfl (by omega) ?_ | refine bY tabOk rfl rfl rfl (nb rfl) rfl rfl rfl rfl rfl rfl rfl rfl rfl ?_ | refine aV tabOk rfl rfl (nb rfl) rfl ?_ | refine bM tabOk rfl rfl rfl (nb rfl) rfl rfl rfl rfl ?_ | refine bK tabOk rfl rfl rfl rfl rfl rfl rfl rfl rfl rfl rfl ?_ | refine bF tabOk rfl rfl rfl (nb rfl) rfl rfl rfl rfl (by first | assumption | omega) ?_) | (refine aL ?_;  first | refine aG ?_ | refine aM ?_ | refine bI ?_ | refine aS ?_ | refine aT ?_ | refine aE (b := true) rfl (fun _ => ?_) nTf | refine aQ mixed (by kernel_rfl) ?_) | (refine aK ?_;  first | refine aU ?_) | (refine aR ?_;  first | refine bP ?_) | refine bD (bB (by kernel_rfl)) ?_)
      refine ⟨⟨j + 1, hlt⟩, (by show c.kids.length - (j + 1) < c.kids.length - j; omega), ?_⟩
      dsimp only
      rw [hTj]
      exact (bU (by repeat' first | exact trivial | refine ⟨rfl, ?_⟩) (by repeat' first | exact trivial | refine ⟨rfl, ?_⟩))
    · have ej : j = c.kids.length := by omega
      subst ej
      repeat' (first | refine aF ?_ | (refine aH ?_;  first | refine aC tabOk rfl rfl rfl (nb rfl) rfl ?_ | (refine aJ rfl rfl rfl (nb rfl) rfl rfl rfl (fun hq => ?_) (fun hq => ?_) <;> (first | (simp only [sD, sE, sB, sC, sN, sM, sT, sF] at hq; try (exfalso; omega)) | skip)) | refine aV tabOk rfl rfl (nb rfl) rfl ?_ | refine bM tabOk rfl rfl rfl (nb rfl) rfl rfl rfl rfl ?_) | (refine aL ?_;  first | refine aG ?_ | refine aM ?_ | refine aN ?_ | refine bR ?_ | refine aE (b := false) rfl nFt (fun _ => ?_)) | (refine aK ?_;  first | refine aU ?_ | refine bJ ?_) | (refine aR ?_;  first | refine bH ?_))
      have hlen : (c.kids.map fun x => growT l f x.toNat).length = c.kids.length := by simp
      rw [List.take_length]
      refine dS ((Imp.of_le (σ' := S.f ⟨[(4, .obj 22 0)], [(500, .arr 25 1 c.kids.length (Tree.ivs (c.kids.map fun x => growT l f x.toNat))), (22, .cells [.imm (.lit (.int .i64 c.k)), .imm (.lit (.int .i64 c.n)), .imm (.lit (.string c.a)), .imm (.lit (.string c.b)), .ref 500 c.kids.length])]⟩) (bU (by repeat' first | exact trivial | refine ⟨rfl, ?_⟩) (by repeat' first | exact trivial | refine ⟨rfl, ?_⟩))).trans ((cP (g := 500) rfl (by repeat' first | exact trivial | exact fun _ => rfl | refine ⟨?_, ?_⟩) (by repeat' first | exact trivial | exact fun _ => rfl | refine ⟨?_, ?_⟩)).trans (dD (g := 22) rfl rfl))) ?_
      refine aP (by first | exact .inl rfl | exact .inr rfl) (aX rfl (aB rfl)) rfl ?_
      show AV.imm _ = AV.imm _
      rw [Tree.iv, hlen]
      rfl
end Go.Proofs.YtlbemgokilhdnaaGreat.Ab
namespace Go.Proofs.YtlbemgokilhdnaaGreat.Ab
set_option linter.unusedVariables false
set_option linter.unusedSimpArgs false
open Go.RowKit
attribute [local irreducible] AWP AOps AExit AThen ABlock ANoGoto FeetOk
def allK : List CellD → List Int
  | [] => []
  | c :: l => c.kids ++ allK l
theorem vZ : ∀ l m : List CellD, allK (l ++ m) = allK l ++ allK m
  | [], m => rfl
  | c :: l, m => by rw [List.cons_append, allK, allK, vZ l m, List.append_assoc]
theorem sR (l : List CellD) (i : Nat) (h : i < l.length) : allK (l.take (i + 1)) = allK (l.take i) ++ l[i].kids := by
  rw [List.take_succ_eq_append_getElem h, vZ]
  simp [allK]
theorem wB (K : Nat) : ∀ l : List CellD, (∀ c ∈ l, c.kids.length ≤ K) → (allK l).length ≤ l.length * K
  | [], _ => by simp [allK]
  | c :: l, h => by
    have h1 := h c List.mem_cons_self
    have h2 := wB K l (fun d hd => h d (List.mem_cons_of_mem _ hd))
    rw [allK, List.length_append, List.length_cons, Nat.add_mul]
    omega
def cntIVs (n : Nat) (l : List Int) : List IV := (List.range n).map fun (j : Nat) => .lit (.int .i64 ((l.count (j : Int) : Nat) : Int))
theorem aBH (n : Nat) : List.replicate n (IV.lit (.int .i64 0)) = cntIVs n [] := by
  apply List.ext_getElem
  · simp [cntIVs]
  · intro i h1 h2
    simp [cntIVs]
theorem zR (n : Nat) (l : List Int) (x : Int) (h0 : 0 ≤ x) (h : x < (n : Int)) : (cntIVs n l)[x.toNat * 1]? = some (.lit (.int .i64 ((l.count x : Nat) : Int))) := by
  unfold cntIVs
  rw [Nat.mul_one, List.getElem?_map, List.getElem?_range (by omega)]
  rw [Option.map_some, Int.toNat_of_nonneg h0]
theorem aCI (n : Nat) (l : List Int) (x : Int) (h0 : 0 ≤ x) (h : x < (n : Int)) : (cntIVs n l).set (x.toNat * 1) (.lit (.int .i64 ((l.count x + 1 : Nat) : Int))) = cntIVs n (l ++ [x]) := by
  rw [Nat.mul_one]
  apply List.ext_getElem
  · simp [cntIVs]
  · intro i h1 h2
    rw [List.getElem_set]
    by_cases e : x.toNat = i
    · rw [if_pos e]
      have ex : x = (i : Int) := by omega
      subst ex
      simp [cntIVs, List.count_append]
    · rw [if_neg e]
      have ne : ¬ x = (i : Int) := by omega
      simp [cntIVs, List.count_append, List.count_singleton, ne]
def once (l : List CellD) : Prop := ∀ j : Nat, j < l.length - 1 → (allK l).count (j : Int) = 1
open Classical in
/-- What is made of a row of cells; what is told of it. -/
noncomputable def openR (l : List CellD) : Tree × Int :=
  if l.length = 0 then (.nil, 1) else if 8192 < l.length then (.nil, 3) else if below l ∧ once l then (growT l l.length (l.length - 1), 0) else (.nil, 16)
theorem aCJ {l : List CellD} {i k : Nat} (hi : i < l.length) (hk : k < l[i].kids.length) (h : l[i].kids[k] < 0 ∨ (i : Int) ≤ l[i].kids[k]) : ¬ below l := fun hb => by
  have := hb i hi _ (List.getElem_mem hk)
  omega
theorem aAE {l : List CellD} {i : Nat} (hi : i < l.length) : (cellIVs l)[i * 5 + 4]? = some (.sl l[i].f l[i].kids.length (intIVs l[i].kids)) := by
  rw [yF l i 4 hi (by omega)]; rfl
set_option maxHeartbeats 16000000 in
set_option maxRecDepth 10000 in
theorem aDf (l : List CellD) (hk : ∀ c ∈ l, c.kids.length ≤ 8192) :
    ACalls Tryz.prog 21 [.imm (.agg [.sl false l.length (cellIVs l)])] [] (.imm (.tup [(openR l).1.iv, .lit (.int .i64 (openR l).2)])) [] := by
  have hR : openR l = openR l := rfl
  conv at hR => rhs; unfold openR
  generalize openR l = R at *
  by_cases h0 : l.length = 0
  · rw [if_pos h0] at hR
    subst hR
    refine aI Tryz.func21 rfl rfl (nb rfl) rfl ?_
    repeat' (first | refine aF ?_ | (refine aH ?_;  first | refine aC tabOk rfl rfl rfl (nb rfl) rfl ?_ | (refine aJ rfl rfl rfl (nb rfl) rfl rfl rfl (fun hq => ?_) (fun hq => ?_) <;> (first | (simp only [sD, sE, sB, sC, sN, sM, sT, sF] at hq; try (exfalso; omega)) | skip)) | refine aV tabOk rfl rfl (nb rfl) rfl ?_) | (refine aL ?_;  first | refine aG ?_ | refine aM ?_ | refine aN ?_ | refine aE (b := true) rfl (fun _ => ?_) nTf) | (refine aK ?_;  first | refine aO ?_))
    all_goals first
      | (exfalso; omega)
      | (refine aP (by first | exact .inl rfl | exact .inr rfl) (aW rfl (aB rfl) (aB rfl)) rfl ?_; rfl)
  · rw [if_neg h0] at hR
    by_cases h1 : 8192 < l.length
    · rw [if_pos h1] at hR
      subst hR
      refine aI Tryz.func21 rfl rfl (nb rfl) rfl ?_
      repeat' (first | refine aF ?_ | (refine aH ?_;  first | refine aC tabOk rfl rfl rfl (nb rfl) rfl ?_ | (refine aJ rfl rfl rfl (nb rfl) rfl rfl rfl (fun hq => ?_) (fun hq => ?_) <;> (first | (simp only [sD, sE, sB, sC, sN, sM, sT, sF] at hq; try (exfalso; omega)) | skip)) | refine aV tabOk rfl rfl (nb rfl) rfl ?_) | (refine aL ?_;  first | refine aG ?_ | refine aM ?_ | refine aN ?_ | refine aT ?_ | refine aE (b := true) rfl (fun _ => ?_) nTf | refine aE (b := false) rfl nFt (fun _ => ?_)) | (refine aK ?_;  first | refine aU ?_ | refine aO ?_))
      all_goals first
        | (exfalso; omega)
        | (refine aP (by first | exact .inl rfl | exact .inr rfl) (aW rfl (aB rfl) (aB rfl)) rfl ?_; rfl)
    · rw [if_neg h1] at hR
      have hbad : ¬ (below l ∧ once l) → R = (.nil, 16) := fun h => by rw [hR, if_neg h]
      have hgood : below l ∧ once l → R = (growT l l.length (l.length - 1), 0) := fun h => by rw [hR, if_pos h]
      clear hR
      have hcz := aBH l.length
      have hlimit : ∀ m : List Int, m.length ≤ 67108864 → ∀ x, m.count x < 9223372036854775807 := fun m hm x => by
        have := List.count_le_length (l := m) (a := x)
        omega
      have hpre : ∀ i, (allK (l.take i)).length ≤ l.length * 8192 := fun i => Nat.le_trans (wB 8192 _ (fun c hc => hk c (List.mem_of_mem_take hc))) (Nat.mul_le_mul_right _ (by rw [List.length_take]; omega))
      refine aI Tryz.func21 rfl rfl (nb rfl) rfl ?_
      repeat' (first | refine aF ?_ | (refine aH ?_;  first | refine aC tabOk rfl rfl rfl (nb rfl) rfl ?_ | (refine aJ rfl rfl rfl (nb rfl) rfl rfl rfl (fun hq => ?_) (fun hq => ?_) <;> (first | (simp only [sD, sE, sB, sC, sN, sM, sT, sF] at hq; try (exfalso; omega)) | skip)) | refine pV 600 tabOk rfl rfl rfl (nb rfl) rfl rfl rfl rfl rfl rfl rfl (by simp only [slMax]; omega) (by dsimp only; omega) (by simp) rfl rfl ?_ | refine aV tabOk rfl rfl (nb rfl) rfl ?_) | (refine aL ?_;  first | refine aG ?_ | refine aM ?_ | refine aS ?_ | refine aT ?_ | refine aE (b := false) rfl nFt (fun _ => ?_)) | (refine aK ?_;  first | refine aU ?_))
      all_goals first | (exfalso; omega) | skip
      rw [hcz]
      refine cD (ι := {i : Nat // i ≤ l.length ∧ ∀ j (h : j < l.length), j < i → ∀ x ∈ l[j].kids, 0 ≤ x ∧ x < (j : Int)}) (fun i => S.f ⟨[(6, .imm (.lit (.int .i64 (i.1 : Int)))), (5, .ref 600 l.length), (4, .imm (.lit (.int .i64 (l.length : Int)))), (1, .imm (.ptr [.sl false l.length (cellIVs l)] 0))], [(600, .arr 3 1 l.length (cntIVs l.length (allK (l.take i.1))))]⟩) (fun i => l.length - i.1) ⟨0, Nat.zero_le _, fun j h h2 => by omega⟩ (bU (by repeat' first | exact trivial | refine ⟨rfl, ?_⟩) (by repeat' first | exact trivial | refine ⟨rfl, ?_⟩)) ?_
      rintro ⟨i, hi, hpr⟩
      dsimp only
      by_cases hil : i < l.length
      · have hck := aAE hil
        have hki := hk _ (List.getElem_mem hil)
        have hstep := sR l i hil
        repeat' (first | refine aF ?_ | (refine aH ?_;  first | refine aC tabOk rfl rfl rfl (nb rfl) rfl ?_ | (refine aJ rfl rfl rfl (nb rfl) rfl rfl rfl (fun hq => ?_) (fun hq => ?_) <;> (first | (simp only [sD, sE, sB, sC, sN, sM, sT, sF] at hq; try (exfalso; omega)) | skip))) | (refine aL ?_;  first | refine aG ?_ | refine aM ?_ | refine aS ?_ | refine aT ?_ | refine aE (b := true) rfl (fun _ => ?_) nTf) | (refine aK ?_;  first | refine aU ?_))
        have e0 : cntIVs l.length (allK (l.take i)) = cntIVs l.length (allK (l.take i) ++ l[i].kids.take 0) := by rw [List.take_zero, List.append_nil]
        rw [e0]
        refine cD (ι := {k : Nat // k ≤ l[i].kids.length ∧ ∀ x ∈ l[i].kids.take k, 0 ≤ x ∧ x < (i : Int)}) (fun k => S.f ⟨[(7, .imm (.lit (.int .i64 (k.1 : Int)))), (6, .imm (.lit (.int .i64 (i : Int)))), (5, .ref 600 l.length), (4, .imm (.lit (.int .i64 (l.length : Int)))), (1, .imm (.ptr [.sl false l.length (cellIVs l)] 0))], [(600, .arr 3 1 l.length (cntIVs l.length (allK (l.take i) ++ l[i].kids.take k.1)))]⟩) (fun k => l[i].kids.length - k.1) ⟨0, Nat.zero_le _, fun x hx => by rw [List.take_zero] at hx; cases hx⟩ (bU (by repeat' first | exact trivial | refine ⟨rfl, ?_⟩) (by repeat' first | exact trivial | refine ⟨rfl, ?_⟩)) ?_
        rintro ⟨k, hkk, hkr⟩
        dsimp only
        by_cases hkl : k < l[i].kids.length
        · have hix := qO l[i].kids k hkl
          have hbk := @aCJ l i k hil hkl
          have hnx : l[i].kids.take (k + 1) = l[i].kids.take k ++ [l[i].kids[k]] := List.take_succ_eq_append_getElem hkl
          have hpk : (allK (l.take i) ++ l[i].kids.take k).length ≤ 67108864 := by
            have := hpre i
            have h2 : l.length * 8192 ≤ 8192 * 8192 := Nat.mul_le_mul_right _ (by omega)
            have h3 : allK (l.take (i + 1)) = allK (l.take i) ++ l[i].kids := hstep
            have h4 := hpre (i + 1)
            rw [h3, List.length_append] at h4
            rw [List.length_append, List.length_take]
            omega
          have hcl := hlimit _ hpk l[i].kids[k]
          by_cases hx : 0 ≤ l[i].kids[k] ∧ l[i].kids[k] < (i : Int)
          · have hg1 := zR l.length (allK (l.take i) ++ l[i].kids.take k) l[i].kids[k] hx.1 (by omega)
            have hs1 := aCI l.length (allK (l.take i) ++ l[i].kids.take k) l[i].kids[k] hx.1 (by omega)
            have hxe : l[i].kids[k] = ((l[i].kids[k]).toNat : Int) := (Int.toNat_of_nonneg hx.1).symm
            have hxl : (l[i].kids[k]).toNat < l.length := by omega
            have hkr2 : ∀ x ∈ l[i].kids.take (k + 1), 0 ≤ x ∧ x < (i : Int) := fun x hm => by
              rw [hnx, List.mem_append] at hm
              rcases hm with hm | hm
              · exact hkr x hm
              · rw [List.mem_singleton.1 hm]; exact hx
            rw [List.append_assoc, ← hnx] at hs1
            generalize (allK (l.take i) ++ l[i].kids.take k).count l[i].kids[k] = cn at *
            repeat' (first | refine aF ?_ | (refine aH ?_;  first | refine aC tabOk rfl rfl rfl (nb rfl) rfl ?_ | (refine aJ rfl rfl rfl (nb rfl) rfl rfl rfl (fun hq => ?_) (fun hq => ?_) <;> (first | (simp only [sD, sE, sB, sC, sN, sM, sT, sF] at hq; try (exfalso; omega)) | skip)) | refine bE tabOk rfl rfl rfl (nb rfl) rfl rfl rfl hck ?_ | refine bE tabOk rfl rfl rfl (nb rfl) rfl rfl rfl hix ?_ | refine eX tabOk rfl rfl rfl (nb rfl) rfl rfl rfl rfl rfl rfl hxe hxl ?_ | refine jP tabOk rfl rfl rfl (nb rfl) rfl rfl rfl rfl (by omega) hg1 ?_ | refine bQ rfl rfl rfl (nb rfl) rfl rfl hcl ?_ | refine mK tabOk rfl rfl rfl rfl rfl rfl rfl rfl rfl rfl (by omega) (by show (l[i].kids[k]).toNat * 1 < l.length * 1; omega) ?_ | refine bQ rfl rfl rfl (nb rfl) rfl rfl (by omega) ?_ | refine aV tabOk rfl rfl (nb rfl) rfl ?_ | refine bF tabOk rfl rfl rfl (nb rfl) rfl rfl rfl rfl (by first | assumption | omega) ?_) | (refine aL ?_;  first | refine aG ?_ | refine aM ?_ | refine bI ?_ | refine aS ?_ | refine aT ?_ | refine aE (b := true) rfl (fun _ => ?_) nTf | refine aE (b := false) rfl nFt (fun _ => ?_)) | (refine aK ?_;  first | refine aU ?_) | (refine aR ?_;  first | refine bP ?_))
            all_goals first | (exfalso; omega) | skip
            refine ⟨⟨k + 1, hkl, hkr2⟩, (by show l[i].kids.length - (k + 1) < l[i].kids.length - k; omega), ?_⟩
            dsimp only
            rw [← hs1]
            exact (bU (by repeat' first | exact trivial | refine ⟨rfl, ?_⟩) (by repeat' first | exact trivial | refine ⟨rfl, ?_⟩))
          · have e := hbad (fun h => hbk (by omega) h.1)
            subst e
            repeat' (first | refine aF ?_ | (refine aH ?_;  first | refine aC tabOk rfl rfl rfl (nb rfl) rfl ?_ | refine bO rfl rfl (nb rfl) ?_ | (refine aJ rfl rfl rfl (nb rfl) rfl rfl rfl (fun hq => ?_) (fun hq => ?_) <;> (first | (simp only [sD, sE, sB, sC, sN, sM, sT, sF] at hq; try (exfalso; omega)) | skip)) | refine bE tabOk rfl rfl rfl (nb rfl) rfl rfl rfl hck ?_ | refine bE tabOk rfl rfl rfl (nb rfl) rfl rfl rfl hix ?_ | refine aV tabOk rfl rfl (nb rfl) rfl ?_ | refine bF tabOk rfl rfl rfl (nb rfl) rfl rfl rfl rfl (by first | assumption | omega) ?_) | (refine aL ?_;  first | refine aG ?_ | refine aM ?_ | refine aS ?_ | refine aN ?_ | refine aT ?_ | refine aE (b := true) rfl (fun _ => ?_) nTf) | (refine aK ?_;  first | refine aU ?_ | refine aO ?_) | (refine aR ?_;  first | refine aZ ?_))
            all_goals first
              | (exfalso; omega)
              | (refine aP (by first | exact .inl rfl | exact .inr rfl) (aW rfl (aB rfl) (aB rfl)) rfl ?_; rfl)
        · have ek : k = l[i].kids.length := by omega
          subst ek
          rw [List.take_length] at *
          rw [← hstep]
          have hpr2 : ∀ j (h : j < l.length), j < i + 1 → ∀ x ∈ l[j].kids, 0 ≤ x ∧ x < (j : Int) := fun j h hj x hx => by
            rcases Nat.lt_or_ge j i with h2 | h2
            · exact hpr j h h2 x hx
            · have e : j = i := by omega
              subst e
              exact hkr x hx
          repeat' (first | refine aF ?_ | (refine aH ?_;  first | refine aC tabOk rfl rfl rfl (nb rfl) rfl ?_ | (refine aJ rfl rfl rfl (nb rfl) rfl rfl rfl (fun hq => ?_) (fun hq => ?_) <;> (first | (simp only [sD, sE, sB, sC, sN, sM, sT, sF] at hq; try (exfalso; omega)) | skip)) | refine bE tabOk rfl rfl rfl (nb rfl) rfl rfl rfl hck ?_ | refine bQ rfl rfl rfl (nb rfl) rfl rfl (by omega) ?_ | refine aV tabOk rfl rfl (nb rfl) rfl ?_ | refine bF tabOk rfl rfl rfl (nb rfl) rfl rfl rfl rfl (by first | assumption | omega) ?_) | (refine aL ?_;  first | refine aG ?_ | refine aM ?_ | refine bI ?_ | refine bR ?_ | refine aE (b := false) rfl nFt (fun _ => ?_)) | (refine aK ?_;  first | refine aU ?_ | refine bJ ?_) | (refine aR ?_;  first | refine bP ?_ | refine bH ?_))
          all_goals first
            | (exfalso; omega)
            | exact ⟨⟨i + 1, hil, hpr2⟩, (by show l.length - (i + 1) < l.length - i; omega), (bU (by repeat' first | exact trivial | refine ⟨rfl, ?_⟩) (by repeat' first | exact trivial | refine ⟨rfl, ?_⟩))⟩
      · have ei : i = l.length := by omega
        subst ei
        have hbl : below l := fun j h x hx => hpr j h h x hx
        rw [List.take_length]
        repeat' (first | refine aF ?_ | (refine aH ?_;  first | refine aC tabOk rfl rfl rfl (nb rfl) rfl ?_ | (refine aJ rfl rfl rfl (nb rfl) rfl rfl rfl (fun hq => ?_) (fun hq => ?_) <;> (first | (simp only [sD, sE, sB, sC, sN, sM, sT, sF] at hq; try (exfalso; omega)) | skip))) | (refine aL ?_;  first | refine aG ?_ | refine aM ?_ | refine aS ?_ | refine bR ?_ | refine aE (b := false) rfl nFt (fun _ => ?_)) | (refine aK ?_;  first | refine aU ?_ | refine bJ ?_) | (refine aR ?_;  first | refine bH ?_))
        refine cD (ι := {j : Nat // j ≤ l.length - 1 ∧ ∀ q : Nat, q < j → (allK l).count (q : Int) = 1}) (fun j => S.f ⟨[(9, .imm (.lit (.int .i64 (j.1 : Int)))), (5, .ref 600 l.length), (4, .imm (.lit (.int .i64 (l.length : Int)))), (1, .imm (.ptr [.sl false l.length (cellIVs l)] 0))], [(600, .arr 3 1 l.length (cntIVs l.length (allK l)))]⟩) (fun j => l.length - j.1) ⟨0, Nat.zero_le _, fun q h => by omega⟩ (bU (by repeat' first | exact trivial | refine ⟨rfl, ?_⟩) (by repeat' first | exact trivial | refine ⟨rfl, ?_⟩)) ?_
        rintro ⟨j, hj, hone⟩
        dsimp only
        by_cases hjl : j < l.length - 1
        · have hg1 : (cntIVs l.length (allK l))[j * 1]? = some (.lit (.int .i64 (((allK l).count (j : Int) : Nat) : Int))) := zR l.length (allK l) (j : Int) (by omega) (by omega)
          by_cases hc1 : (allK l).count (j : Int) = 1
          · rw [hc1] at hg1
            have hone2 : ∀ q : Nat, q < j + 1 → (allK l).count (q : Int) = 1 := fun q hq => by
              rcases Nat.lt_or_ge q j with h2 | h2
              · exact hone q h2
              · have e : q = j := by omega
                subst e
                exact hc1
            repeat' (first | refine aF ?_ | (refine aH ?_;  first | refine aC tabOk rfl rfl rfl (nb rfl) rfl ?_ | (refine aJ rfl rfl rfl (nb rfl) rfl rfl rfl (fun hq => ?_) (fun hq => ?_) <;> (first | (simp only [sD, sE, sB, sC, sN, sM, sT, sF] at hq; try (exfalso; omega)) | skip)) | refine eX tabOk rfl rfl rfl (nb rfl) rfl rfl rfl rfl rfl rfl rfl (by omega) ?_ | refine jP tabOk rfl rfl rfl (nb rfl) rfl rfl rfl rfl (by omega) hg1 ?_ | refine bQ rfl rfl rfl (nb rfl) rfl rfl (by omega) ?_ | refine cH rfl rfl rfl (nb rfl) rfl rfl rfl (by omega) (by omega) ?_) | (refine aL ?_;  first | refine aG ?_ | refine aM ?_ | refine bI ?_ | refine aS ?_ | refine aT ?_ | refine aE (b := true) rfl (fun _ => ?_) nTf | refine aE (b := false) rfl nFt (fun _ => ?_)) | (refine aK ?_;  first | refine aU ?_) | (refine aR ?_;  first | refine bP ?_))
            all_goals first
              | (exfalso; omega)
              | exact absurd rfl (by assumption)
              | exact ⟨⟨j + 1, hjl, hone2⟩, (by show l.length - (j + 1) < l.length - j; omega), (bU (by repeat' first | exact trivial | refine ⟨rfl, ?_⟩) (by repeat' first | exact trivial | refine ⟨rfl, ?_⟩))⟩
          · have e := hbad (fun h => hc1 (h.2 j hjl))
            subst e
            repeat' (first | refine aF ?_ | (refine aH ?_;  first | refine aC tabOk rfl rfl rfl (nb rfl) rfl ?_ | (refine aJ rfl rfl rfl (nb rfl) rfl rfl rfl (fun hq => ?_) (fun hq => ?_) <;> (first | (simp only [sD, sE, sB, sC, sN, sM, sT, sF] at hq; try (exfalso; omega)) | skip)) | refine eX tabOk rfl rfl rfl (nb rfl) rfl rfl rfl rfl rfl rfl rfl (by omega) ?_ | refine jP tabOk rfl rfl rfl (nb rfl) rfl rfl rfl rfl (by omega) hg1 ?_ | refine cH rfl rfl rfl (nb rfl) rfl rfl rfl (by omega) (by omega) ?_) | (refine aL ?_;  first | refine aG ?_ | refine aM ?_ | refine aS ?_ | refine aN ?_ | refine aT ?_ | refine aE (b := true) rfl (fun _ => ?_) nTf) | (refine aK ?_;  first | refine aU ?_ | refine aO ?_) | (refine aR ?_;  first | refine aZ ?_))
            all_goals first
              | (exfalso; omega)
              | (refine aP (by first | exact .inl rfl | exact .inr rfl) (aW rfl (aB rfl) (aB rfl)) rfl ?_; rfl)
        · have ej : j = l.length - 1 := by omega
          subst ej
          have e := hgood ⟨hbl, hone⟩
          subst e
          have hcall := aDe l hbl (by omega) hk l.length (l.length - 1) (by omega) (by omega)
          repeat' (first | refine aF ?_ | (refine aH ?_;  first | refine aC tabOk rfl rfl rfl (nb rfl) rfl ?_ | (refine aJ rfl rfl rfl (nb rfl) rfl rfl rfl (fun hq => ?_) (fun hq => ?_) <;> (first | (simp only [sD, sE, sB, sC, sN, sM, sT, sF] at hq; try (exfalso; omega)) | skip)) | refine cH (z := ((l.length - 1 : Nat) : Int)) rfl rfl rfl (nb rfl) rfl rfl (by omega) (by omega) (by omega) ?_ | refine aD rfl rfl (nb rfl) rfl rfl rfl rfl (hcall) ?_) | (refine aL ?_;  first | refine aG ?_ | refine aM ?_ | refine aN ?_ | refine bR ?_ | refine aE (b := false) rfl nFt (fun _ => ?_)) | (refine aK ?_;  first | refine aU ?_ | refine bJ ?_) | (refine aR ?_;  first | refine bH ?_))
          all_goals first
            | (exfalso; omega)
            | (refine aP (by first | exact .inl rfl | exact .inr rfl) (aW rfl (aB rfl) (aB rfl)) rfl ?_; rfl)
end Go.Proofs.YtlbemgokilhdnaaGreat.Ab
namespace Go.Proofs.YtlbemgokilhdnaaGreat.Ab
set_option linter.unusedVariables false
set_option linter.unusedSimpArgs false
open Go.RowKit
attribute [local irreducible] AWP AOps AExit AThen ABlock ANoGoto FeetOk
theorem jU (n K : Nat) : (if (K : Int) < (n : Int) then (K : Int) else (n : Int)) = ((min n K : Nat) : Int) := by split <;> omega
def cutB (K : Nat) (s : ByteArray) : ByteArray := s.extract 0 (min s.size K)
theorem sS (K : Nat) (s : ByteArray) : (cutB K s).size ≤ K := by unfold cutB; rw [ByteArray.size_extract]; omega
def fewCell (c : CellD) : CellD := ⟨decide (c.kids.length = 0), c.k, c.n, cutB 165 c.a, cutB 20 c.b, c.kids.take 12⟩
theorem aBI (l : List Int) : IV.sl false (min l.length 12 - 0) (((intIVs l).drop (0 * 1)).take ((min l.length 12 - 0) * 1)) = .sl false (l.take 12).length (intIVs (l.take 12)) := by
  unfold intIVs
  rw [Nat.zero_mul, List.drop_zero, Nat.sub_zero, Nat.mul_one, List.length_take, List.map_take, Nat.min_comm]
  congr 1
  conv => rhs; rw [List.take_eq_take_min, List.length_map]
theorem uI (l : List CellD) (c : CellD) : cellIVs (l ++ [c]) = cellIVs l ++ cellIV c := by
  rw [oL]
  show _ ++ (cellIV c ++ []) = _
  rw [List.append_nil]
def fewCells10 (l : List CellD) : List CellD := (l.take 60).map fewCell
set_option maxHeartbeats 16000000 in
set_option maxRecDepth 10000 in
theorem wC (l : List CellD) (hff : ∀ c ∈ l, c.f = false) : ACalls Tryz.prog 12 [.imm (.agg [.sl false l.length (cellIVs l)])] [] (.imm (openR (fewCells10 l)).1.iv) [] := by
  have hkids : ∀ c ∈ fewCells10 l, c.kids.length ≤ 8192 := fun c hc => by
    unfold fewCells10 at hc
    obtain ⟨d, _, rfl⟩ := List.mem_map.1 hc
    show (d.kids.take 12).length ≤ 8192
    rw [List.length_take]; omega
  have hopen := aDf (fewCells10 l) hkids
  refine aI Tryz.func12 rfl rfl (nb rfl) rfl ?_
  repeat' (first | refine aF ?_ | (refine aH ?_;  first | refine aC tabOk rfl rfl rfl (nb rfl) rfl ?_ | refine aV tabOk rfl rfl (nb rfl) rfl ?_ | refine cU tabOk rfl rfl rfl (nb rfl) rfl rfl rfl rfl rfl rfl ?_) | (refine aL ?_;  first | refine aG ?_ | refine aM ?_ | refine aS ?_))
  refine cT (dY (h0 := 3) (k0 := 0) 500 48 5 rfl rfl (by simp) rfl rfl) ?_
  refine cD (ι := {i : Nat // i ≤ l.length ∧ i ≤ 60}) (fun i => S.f ⟨[(4, .imm (.lit (.int .i64 (i.1 : Int)))), (3, .obj 3 0), (1, .imm (.ptr [.sl false l.length (cellIVs l)] 0))], [(500, .arr 48 5 i.1 (cellIVs ((l.take i.1).map fewCell))), (3, .cells [.ref 500 i.1])]⟩) (fun i => l.length - i.1) ⟨0, Nat.zero_le _, Nat.zero_le _⟩ (bU (by repeat' first | exact trivial | refine ⟨rfl, ?_⟩) (by repeat' first | exact trivial | refine ⟨rfl, ?_⟩)) ?_
  rintro ⟨i, hi, hiK⟩
  dsimp only
  by_cases hgo : i < l.length ∧ i < 60
  · obtain ⟨hil, hik⟩ := hgo
    have hrow := gU l i hil
    have hcf := hff l[i] (List.getElem_mem hil)
    have hnx : cellIVs ((l.take (i + 1)).map fewCell) = cellIVs ((l.take i).map fewCell) ++ cellIV (fewCell l[i]) := by
      rw [List.take_succ_eq_append_getElem hil, List.map_append, List.map_singleton, uI]
    generalize l[i] = c at *
    change _ = [IV.lit (.int .i64 c.k), .lit (.int .i64 c.n), .lit (.string c.a), .lit (.string c.b), .sl c.f c.kids.length (intIVs c.kids)] at hrow
    rw [hcf] at hrow
    have hkc := aBI c.kids
    by_cases hz : c.kids.length = 0
    · have hk0 : c.kids = [] := List.eq_nil_of_length_eq_zero hz
      have hfc : cellIV (fewCell c) = [IV.lit (.int .i64 c.k), .lit (.int .i64 c.n), .lit (.string (cutB 165 c.a)), .lit (.string (cutB 20 c.b)), .sl true 0 []] := by
        unfold fewCell cellIV
        rw [hk0]
        rfl
      rw [hk0] at hrow hkc
      rw [hfc] at hnx
      repeat' (first | refine aF ?_ | (refine aH ?_;  first | refine aC tabOk rfl rfl rfl (nb rfl) rfl ?_ | (refine aJ rfl rfl rfl (nb rfl) rfl rfl rfl (fun hq => ?_) (fun hq => ?_) <;> (first | (simp only [sD, sE, sB, sC, sN, sM, sT, sF] at hq; try (exfalso; omega)) | skip)) | refine lI tabOk rfl rfl rfl (nb rfl) rfl rfl rfl hrow rfl ?_ | refine iF rfl rfl rfl (nb rfl) rfl rfl (jU c.a.size 165) ?_ | refine iF rfl rfl rfl (nb rfl) rfl rfl (jU c.b.size 20) ?_ | refine iF (r := 0) rfl rfl rfl (nb rfl) rfl rfl rfl ?_ | refine mI (l := 0) (h := min c.a.size 165) (r := cutB 165 c.a) tabOk rfl rfl rfl (nb rfl) rfl rfl rfl rfl (by omega) (by omega) rfl ?_ | refine mI (l := 0) (h := min c.b.size 20) (r := cutB 20 c.b) tabOk rfl rfl rfl (nb rfl) rfl rfl rfl rfl (by omega) (by omega) rfl ?_ | refine eI (l := 0) (h := 0) tabOk rfl rfl rfl (nb rfl) rfl rfl rfl rfl rfl (Nat.le_refl _) (Nat.zero_le _) rfl ?_ | refine tW tabOk rfl rfl rfl (nb rfl) rfl rfl rfl rfl ?_ | refine cM tabOk rfl rfl rfl (nb rfl) rfl rfl rfl rfl rfl rfl rfl (by first | omega | decide) rfl (by first | omega | (dsimp only; omega)) (by first | omega | (dsimp only; omega)) ?_ | refine bQ rfl rfl rfl (nb rfl) rfl rfl (by omega) ?_ | refine bY tabOk rfl rfl rfl (nb rfl) rfl rfl rfl rfl rfl rfl rfl rfl rfl ?_ | refine aV tabOk rfl rfl (nb rfl) rfl ?_ | refine cU tabOk rfl rfl rfl (nb rfl) rfl rfl rfl rfl rfl rfl ?_ | refine bM tabOk rfl rfl rfl (nb rfl) rfl rfl rfl rfl ?_ | refine bK tabOk rfl rfl rfl rfl rfl rfl rfl rfl rfl rfl rfl ?_ | refine bF tabOk rfl rfl rfl (nb rfl) rfl rfl rfl rfl (by first | assumption | omega) ?_) | (refine aL ?_;  first | refine aG ?_ | refine aM ?_ | refine bI ?_ | refine aS ?_ | refine aT ?_ | refine aE (b := true) rfl (fun _ => ?_) nTf | refine aQ mixed (by kernel_rfl) ?_) | (refine aK ?_;  first | refine aU ?_) | (refine aR ?_;  first | refine bP ?_) | refine bD (bB (by kernel_rfl)) ?_)
      refine ⟨⟨i + 1, hil, hik⟩, (by show l.length - (i + 1) < l.length - i; omega), ?_⟩
      dsimp only
      rw [hnx]
      exact (bU (by repeat' first | exact trivial | refine ⟨rfl, ?_⟩) (by repeat' first | exact trivial | refine ⟨rfl, ?_⟩))
    · have hfc : cellIV (fewCell c) = [IV.lit (.int .i64 c.k), .lit (.int .i64 c.n), .lit (.string (cutB 165 c.a)), .lit (.string (cutB 20 c.b)), .sl false (0 + (c.kids.take 12).length) (intIVs (c.kids.take 12))] := by
        unfold fewCell cellIV
        dsimp only
        rw [decide_eq_false hz, Nat.zero_add]
      have hkl : 0 < (c.kids.take 12).length := by rw [List.length_take]; omega
      have hkl2 : (c.kids.take 12).length ≤ 12 := by rw [List.length_take]; omega
      have hil2 := yE (c.kids.take 12)
      rw [hfc] at hnx
      repeat' (first | refine aF ?_ | (refine aH ?_;  first | refine aC tabOk rfl rfl rfl (nb rfl) rfl ?_ | (refine aJ rfl rfl rfl (nb rfl) rfl rfl rfl (fun hq => ?_) (fun hq => ?_) <;> (first | (simp only [sD, sE, sB, sC, sN, sM, sT, sF] at hq; try (exfalso; omega)) | skip)) | refine lI tabOk rfl rfl rfl (nb rfl) rfl rfl rfl hrow rfl ?_ | refine iF rfl rfl rfl (nb rfl) rfl rfl (jU c.a.size 165) ?_ | refine iF rfl rfl rfl (nb rfl) rfl rfl (jU c.b.size 20) ?_ | refine mI (l := 0) (h := min c.a.size 165) (r := cutB 165 c.a) tabOk rfl rfl rfl (nb rfl) rfl rfl rfl rfl (by omega) (by omega) rfl ?_ | refine mI (l := 0) (h := min c.b.size 20) (r := cutB 20 c.b) tabOk rfl rfl rfl (nb rfl) rfl rfl rfl rfl (by omega) (by omega) rfl ?_ | refine iF rfl rfl rfl (nb rfl) rfl rfl (jU c.kids.length 12) ?_ | refine eI (l := 0) (h := min c.kids.length 12) tabOk rfl rfl rfl (nb rfl) rfl rfl rfl rfl rfl (Nat.zero_le _) (by omega) hkc ?_ | refine fG (zs := intIVs (c.kids.take 12)) tabOk rfl rfl rfl (nb rfl) rfl rfl rfl rfl (.inl rfl) rfl rfl hkl (by rw [hil2]; exact (Nat.mul_one _).symm) (by omega) (by dsimp only; omega) rfl ?_ | refine cM tabOk rfl rfl rfl (nb rfl) rfl rfl rfl rfl rfl rfl rfl (by first | omega | decide) rfl (by first | omega | (dsimp only; omega)) (by first | omega | (dsimp only; omega)) ?_ | refine bQ rfl rfl rfl (nb rfl) rfl rfl (by omega) ?_ | refine bY tabOk rfl rfl rfl (nb rfl) rfl rfl rfl rfl rfl rfl rfl rfl rfl ?_ | refine aV tabOk rfl rfl (nb rfl) rfl ?_ | refine cU tabOk rfl rfl rfl (nb rfl) rfl rfl rfl rfl rfl rfl ?_ | refine bM tabOk rfl rfl rfl (nb rfl) rfl rfl rfl rfl ?_ | refine bK tabOk rfl rfl rfl rfl rfl rfl rfl rfl rfl rfl rfl ?_ | refine bF tabOk rfl rfl rfl (nb rfl) rfl rfl rfl rfl (by first | assumption | omega) ?_) | (refine aL ?_;  first | refine aG ?_ | refine aM ?_ | refine bI ?_ | refine aS ?_ | refine aT ?_ | refine aE (b := true) rfl (fun _ => ?_) nTf | refine aQ mixed (by kernel_rfl) ?_) | (refine aK ?_;  first | refine aU ?_) | (refine aR ?_;  first | refine bP ?_) | refine bD (bB (by kernel_rfl)) ?_)
      refine ⟨⟨i + 1, hil, hik⟩, (by show l.length - (i + 1) < l.length - i; omega), ?_⟩
      dsimp only
      rw [hnx]
      exact (bU (by repeat' first | exact trivial | refine ⟨rfl, ?_⟩) (by repeat' first | exact trivial | refine ⟨rfl, ?_⟩))
  · have htk : (l.take i).map fewCell = fewCells10 l := by
      unfold fewCells10
      congr 1
      by_cases hK : i = 60
      · rw [hK]
      · rw [List.take_of_length_le (by omega), List.take_of_length_le (by omega)]
    have hfl : i = (fewCells10 l).length := by rw [← htk, List.length_map, List.length_take]; omega
    rw [htk]
    refine cT ((Imp.of_le (σ' := S.f ⟨[(4, .imm (.lit (.int .i64 (i : Int)))), (3, .obj 3 0), (1, .imm (.ptr [.sl false l.length (cellIVs l)] 0))], [(500, .arr 48 5 (fewCells10 l).length (cellIVs (fewCells10 l))), (3, .cells [.ref 500 (fewCells10 l).length])]⟩) (by rw [← hfl]; exact (bU (by repeat' first | exact trivial | refine ⟨rfl, ?_⟩) (by repeat' first | exact trivial | refine ⟨rfl, ?_⟩)))).trans (cP (g := 500) rfl (by repeat' first | exact trivial | exact fun _ => rfl | refine ⟨?_, ?_⟩) (by repeat' first | exact trivial | exact fun _ => rfl | refine ⟨?_, ?_⟩))) ?_
    generalize fewCells10 l = L at *
    generalize openR L = R at *
    obtain ⟨R1, R2⟩ := R
    dsimp only at *
    repeat' (first | refine aF ?_ | (refine aH ?_;  first | refine aC tabOk rfl rfl rfl (nb rfl) rfl ?_ | refine bO rfl rfl (nb rfl) ?_ | (refine aJ rfl rfl rfl (nb rfl) rfl rfl rfl (fun hq => ?_) (fun hq => ?_) <;> (first | (simp only [sD, sE, sB, sC, sN, sM, sT, sF] at hq; try (exfalso; omega)) | skip)) | refine aD rfl rfl (nb rfl) rfl rfl rfl rfl (hopen) ?_ | refine aV tabOk rfl rfl (nb rfl) rfl ?_ | refine bM tabOk rfl rfl rfl (nb rfl) rfl rfl rfl rfl ?_) | (refine aL ?_;  first | refine aG ?_ | refine aM ?_ | refine aN ?_ | refine bR ?_ | refine aE (b := false) rfl nFt (fun _ => ?_)) | (refine aK ?_;  first | refine aU ?_ | refine bJ ?_) | (refine aR ?_;  first | refine bH ?_))
    all_goals first
      | exact cL (by first | exact .inl rfl | exact .inr rfl) (aX rfl (aB rfl)) rfl
      | (exfalso; omega)
end Go.Proofs.YtlbemgokilhdnaaGreat.Ab
