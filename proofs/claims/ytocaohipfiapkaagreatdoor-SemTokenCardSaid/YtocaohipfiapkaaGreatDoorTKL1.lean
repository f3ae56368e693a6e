/- Words, walks and laws under the claim's statement: what it uses of them. No condition of its own. -/
import Derived.Test.YtocaohipfiapkaaGreatDoorTKL0
import Derived.Sort.Walk0
import Derived.Test.YtocaohipfiapkaaGreatDoorTKAb1
import Derived.Test.YtocaohipfiapkaaGreatDoorTKAb0
import Derived.Test.YtocaohipfiapkaaGreatDoorTKS0
import Derived.Shelf.Spec.SlicesGrow
namespace Go.Proofs.YtocaohipfiapkaaGreatDoor.Ab
set_option linter.unusedVariables false
set_option linter.unusedSimpArgs false
attribute [local irreducible] AWP AOps AExit AThen ABlock ANoGoto FeetOk
theorem uV (f : FuncId) (l : List Tree) : kidsP l false [(f, isTermP)] = isT_t l := by
  rcases l with _ | ⟨x, _ | ⟨y, r⟩⟩ <;> simp [kidsP, formsP, isT_t]
def labelledP (l : List Tree) (kind : Int) (rise : Bool) : Bool := fieldsP l kind && distinctP l && (!rise || steadyP l)
theorem aAZ (a : ByteArray) : Op.bytesLess a.toList emptyB.toList = false := by
  have : emptyB.toList = [] := by rw [ByteArray.toList_eq]; rfl
  rw [this]
  cases a.toList <;> rfl
set_option maxHeartbeats 8000000 in
set_option maxRecDepth 10000 in
theorem mX (l : List Tree) (kind : Int) (rise : Bool) (h : Tree.wholes l = true) (hsz : Tree.sizes l ≤ 100000000)
    (ht : ∀ t', t'.size < Tree.sizes l → t'.whole = true → ACalls Tryz.prog 71 [.imm t'.iv] [] (.imm (.lit (.bool (isTermP t')))) []) :
    ACalls Tryz.prog 94 [.imm (.sl false l.length (Tree.ivs l)), .imm (.lit (.int .i64 kind)), .imm (.lit (.bool rise))] [] (.imm (.lit (.bool (labelledP l kind rise)))) [] := by
  have hl : l.length < 1000000000 := by have := cG l h; omega
  refine aH Tryz.func94 rfl rfl (nb rfl) rfl ?_
  repeat' (first | refine aE ?_ | (refine aG ?_;  first | refine aB tabOk rfl rfl rfl (nb rfl) rfl ?_ | refine mO rfl rfl rfl (nb rfl) rfl rfl rfl ?_ | refine aT tabOk rfl rfl (nb rfl) rfl ?_) | (refine aK ?_;  first | refine aF ?_ | refine aL ?_ | refine aR ?_))
  refine bZ (ι := {p : Nat × List (ByteArray × IV) × ByteArray // p.1 ≤ l.length ∧ p.2.1 = seenL (l.take p.1) ∧ (p.1 = 0 → p.2.2 = emptyB) ∧ (∀ i (hi : i < l.length), i + 1 = p.1 → p.2.2 = l[i].name) ∧ (∀ i (hi : i < l.length), i < p.1 → okField kind l[i] = true) ∧
      (∀ i i' (h1 : i < i') (h2 : i' < l.length), i' < p.1 → eqB l[i'].name (l[i]'(by omega)).name = false) ∧ (rise = true → ∀ i (hi : i + 1 < l.length), i + 1 < p.1 → ltB l[i + 1].name (l[i]'(by omega)).name = false)})
    (fun p => S.f ⟨[(14, .imm (.lit (.int .i64 (p.1.1 : Int)))), (13, .imm (.lit (.int .i64 (l.length : Int)))), (12, .imm (.sl false l.length (Tree.ivs l))), (7, .mp 11), (8, .imm (.lit (.string p.1.2.2))), (1, .imm (.lit (.int .i64 kind))), (2, .imm (.lit (.bool rise)))], [(11, .map p.1.2.1)]⟩) (fun p => l.length - p.1.1)
    ⟨(0, [], emptyB), Nat.zero_le _, rfl, fun _ => rfl, fun i _ hi => by omega, fun i _ hi => absurd hi (Nat.not_lt_zero _), fun i i' _ _ hi => absurd hi (Nat.not_lt_zero _), fun _ i _ hi => absurd hi (Nat.not_lt_zero _)⟩ (bT (by repeat' first | exact trivial | refine ⟨rfl, ?_⟩) (by repeat' first | exact trivial | refine ⟨rfl, ?_⟩)) ?_
  rintro ⟨⟨j, ml, last⟩, hj, hs, hlast0, hlast, hok, hdi, hst⟩
  dsimp only at hj hs hlast0 hlast hok hdi hst ⊢
  by_cases hlt : j < l.length
  · obtain ⟨k1, n1, a1, b1, ks1, e1, hget, hw1⟩ := lT h hlt
    have hb := tD (l.take j) a1
    rw [← hs] at hb
    have hno : ((l.take j).any fun u => eqB u.name a1) = false → mget ml a1 = none := fun h => by rw [hs]; exact tE h
    have hm1 := cU (List.getElem_mem hlt)
    rw [e1] at hm1
    have hl1 : ks1.length < 1000000000 := by have := cG ks1 hw1; simp only [Tree.size] at hm1; omega
    have hf : ∀ i (hi : i < [((71 : FuncId), isTermP)].length) (hk : i < ks1.length), ACalls Tryz.prog [((71 : FuncId), isTermP)][i].1 [.imm ks1[i].iv] [] (.imm (.lit (.bool ([((71 : FuncId), isTermP)][i].2 ks1[i])))) [] := fun i hi hk => by
      have : i = 0 := by simpa using hi
      subst this
      have h2 := bN (k := k1) (n := n1) (a := a1) (b := b1) (List.getElem_mem hk)
      exact ht _ (by omega) (bF hw1 (List.getElem_mem hk))
    have hmeet : ((l.take j).any fun u => eqB u.name a1) = true → labelledP l kind rise = false := fun h => by
      rw [Bool.eq_false_iff]
      intro hd
      simp only [labelledP, Bool.and_eq_true] at hd
      have hd := (eG _).1 hd.1.2
      rw [List.any_eq_true] at h
      obtain ⟨u, hu, hub⟩ := h
      obtain ⟨i, hi, rfl⟩ := List.getElem_of_mem hu
      simp only [List.length_take] at hi
      have h2 := hd i j (by omega) hlt
      rw [e1] at h2
      simp only [List.getElem_take] at hub
      rw [(dO _ _).1 hub] at h2
      have h3 := (dO a1 a1).2 rfl
      rw [show Tree.name (Tree.node k1 n1 a1 b1 ks1) = a1 from rfl, h3] at h2
      cases h2
    have hnext : ((l.take j).any fun u => eqB u.name a1) = false → ∀ i i' (h1 : i < i') (h2 : i' < l.length), i' < j + 1 → eqB l[i'].name (l[i]'(by omega)).name = false := fun h i i' h1 h2 h3 => by
      by_cases e : i' = j
      · subst e
        rw [List.any_eq_false] at h
        have := h l[i] (List.mem_iff_getElem.2 ⟨i, by simp; omega, by simp⟩)
        rw [e1]
        rw [Bool.eq_false_iff]
        intro hc
        exact this ((dO _ _).2 ((dO _ _).1 hc).symm)
      · exact hdi i i' h1 h2 (by omega)
    have hlast1 : ∀ i (hi : i < l.length), i + 1 = j + 1 → a1 = l[i].name := fun i hi hij => by
      have : i = j := by omega
      subst this
      rw [e1]; rfl
    have hbad : okField kind (Tree.node k1 n1 a1 b1 ks1) = false → labelledP l kind rise = false := fun hb => by
      simp only [labelledP, jU, jO hlt (by rw [e1]; exact hb), Bool.false_and]
    have hgood : okField kind (Tree.node k1 n1 a1 b1 ks1) = true → ∀ i (hi : i < l.length), i < j + 1 → okField kind l[i] = true := fun hgb i hi hij => by
      by_cases e : i = j
      · subst e; rw [e1]; exact hgb
      · exact hok i hi (by omega)
    have hfall : rise = true → Op.bytesLess a1.toList last.toList = true → labelledP l kind rise = false := fun hr hb => by
      rw [Bool.eq_false_iff]
      intro hd
      simp only [labelledP, Bool.and_eq_true, hr, Bool.not_true, Bool.false_or] at hd
      by_cases hj0 : j = 0
      · rw [hlast0 hj0, aAZ] at hb; cases hb
      · have h2 := (jT _).1 hd.2 (j - 1) (by omega)
        have x1 : l[j - 1 + 1]'(by omega) = Tree.node k1 n1 a1 b1 ks1 := by simpa only [show j - 1 + 1 = j by omega] using e1
        rw [x1, ← hlast (j - 1) (by omega) (by omega)] at h2
        have h3 : Op.bytesLess a1.toList last.toList = false := h2
        rw [h3] at hb; cases hb
    have hrise : (rise = true → Op.bytesLess a1.toList last.toList = false) → rise = true → ∀ i (hi : i + 1 < l.length), i + 1 < j + 1 → ltB l[i + 1].name (l[i]'(by omega)).name = false := fun hb hr i hi hij => by
      by_cases e : i + 1 = j
      · have x1 : l[i + 1] = Tree.node k1 n1 a1 b1 ks1 := by simpa only [e] using e1
        rw [x1, ← hlast i (by omega) e]
        exact hb hr
      · exact hst hr i hi (by omega)
    repeat' (first | refine aE ?_ | (refine aG ?_;  first | refine aB tabOk rfl rfl rfl (nb rfl) rfl ?_ | refine bL rfl rfl (nb rfl) ?_ | (refine aI rfl rfl rfl (nb rfl) rfl rfl rfl (fun hq => ?_) (fun hq => ?_) <;> (first | (simp only [sD, sE, sB, sC, sN, sM, sT, sF] at hq; try (exfalso; omega)) | skip)) | (refine mP tabOk rfl rfl rfl (nb rfl) rfl rfl rfl rfl rfl rfl rfl rfl (hb) (fun hq => ?_) (fun hq => ?_)) | refine sP tabOk rfl rfl rfl (nb rfl) rfl rfl rfl rfl rfl rfl rfl rfl (hno (by assumption)) ?_ | refine sQ rfl rfl rfl rfl rfl rfl rfl rfl rfl ?_ | (refine bP rfl rfl rfl (nb rfl) rfl rfl rfl (qZ _) (fun hq => ?_) (fun hq => ?_)) | (refine bP rfl rfl rfl (nb rfl) rfl rfl rfl (fJ _ _ _ _ _ false [((71 : FuncId), isTermP)] (by decide) hl1 hf) (fun hq => ?_) (fun hq => ?_)) | refine bO rfl rfl rfl (nb rfl) rfl rfl (by omega) ?_ | refine bS tabOk rfl rfl rfl (nb rfl) rfl rfl rfl rfl rfl rfl rfl rfl rfl ?_ | refine bB tabOk rfl rfl rfl (nb rfl) rfl rfl rfl rfl (by first | assumption | omega) ?_ | refine bA tabOk rfl rfl rfl (nb rfl) rfl rfl rfl (by assumption) ?_ | ((fail_if_success (refine cJ (b := true) rfl rfl rfl ?_)); (fail_if_success (refine cJ (b := false) rfl rfl rfl ?_)); refine dD rfl rfl rfl (fun hq => ?_) (fun hq => ?_) <;> first | subst hq | (first | (simp only [sD, sE, sB, sC, sN, sM, sT, sF] at hq; try (exfalso; omega)) | skip))) | (refine aK ?_;  first | refine aF ?_ | refine aL ?_ | refine bD ?_ | refine aR ?_ | refine aM ?_ | refine aS ?_ | refine aC (b := true) rfl (fun _ => ?_) nTf | refine aC (b := false) rfl nFt (fun _ => ?_) | refine aQ mixed (by kernel_rfl) ?_) | (refine aJ ?_;  first | refine aU ?_ | refine aN ?_) | (refine aP ?_;  first | refine bM ?_ | refine aX ?_) | refine bC (aZ (by kernel_rfl)) ?_)
    all_goals first
      | (refine aO (by first | exact .inl rfl | exact .inr rfl) (aW rfl (aA rfl)) rfl ?_; refine cE ?_; symm; first
          | exact hmeet (by assumption)
          | exact hfall rfl (by assumption)
          | (refine hbad ?_; simp_all [okField, uV, eqB, emptyB]; done))
      | exact ⟨⟨(j + 1, ml ++ [(a1, .lit (.bool true))], a1), hlt, (hs ▸ tF l _ j hlt e1), (fun h => by cases h), hlast1,
          hgood (by simp_all [okField, uV, eqB, emptyB]), hnext (by assumption), hrise (by first | (intro _; assumption) | (intro h; cases h))⟩, (by show l.length - (j + 1) < l.length - j; omega), (bT (by repeat' first | exact trivial | refine ⟨rfl, ?_⟩) (by repeat' first | exact trivial | refine ⟨rfl, ?_⟩))⟩
  · repeat' (first | refine aE ?_ | (refine aG ?_;  first | refine aB tabOk rfl rfl rfl (nb rfl) rfl ?_ | (refine aI rfl rfl rfl (nb rfl) rfl rfl rfl (fun hq => ?_) (fun hq => ?_) <;> (first | (simp only [sD, sE, sB, sC, sN, sM, sT, sF] at hq; try (exfalso; omega)) | skip))) | (refine aK ?_;  first | refine aF ?_ | refine aL ?_ | refine aM ?_ | refine bQ ?_ | refine aC (b := false) rfl nFt (fun _ => ?_)) | (refine aJ ?_;  first | refine aU ?_ | refine bH ?_) | (refine aP ?_;  first | refine bE ?_))
    all_goals (refine aO (by first | exact .inl rfl | exact .inr rfl) (aW rfl (aA rfl)) rfl ?_; refine cE ?_; symm
               have z1 : fieldsP l kind = true := by rw [jU]; exact lS fun i hi => hok i hi (by omega)
               have z2 : distinctP l = true := (eG l).2 fun i i' h1 h2 => hdi i i' h1 h2 (by omega)
               have z3 : rise = true → steadyP l = true := fun hr => (jT l).2 fun i hi => hst hr i hi (by omega)
               simp only [labelledP, z1, z2, Bool.true_and]
               cases rise with
               | true => simp [z3 rfl]
               | false => rfl)
end Go.Proofs.YtocaohipfiapkaaGreatDoor.Ab
namespace Go.Proofs.YtocaohipfiapkaaGreatDoor.Ab
set_option linter.unusedVariables false
set_option linter.unusedSimpArgs false
attribute [local irreducible] AWP AOps AExit AThen ABlock ANoGoto FeetOk
theorem oV : ∀ (l : List Tree) (f : Nat), Tree.wholes l = true → Tree.wholes (l.drop f) = true
  | l, 0, h => h
  | [], f + 1, _ => rfl
  | t :: ts, f + 1, h => by
    simp only [Tree.wholes, Bool.and_eq_true] at h
    exact oV ts f h.2
theorem rA : ∀ (l : List Tree) (f : Nat), Tree.sizes (l.drop f) ≤ Tree.sizes l
  | l, 0 => Nat.le_refl _
  | [], f + 1 => Nat.le_refl _
  | t :: ts, f + 1 => by
    have := rA ts f
    simp only [List.drop_succ_cons, Tree.sizes]; omega
theorem rB (l : List Tree) (f : Nat) (h : f ≤ l.length) : IV.sl false (l.length - f) (((Tree.ivs l).drop (f * 1)).take ((l.length - f) * 1)) = IV.sl false (l.drop f).length (Tree.ivs (l.drop f)) := by
  rw [dC, dC, List.length_drop, Nat.mul_one, Nat.mul_one, ← List.map_drop, List.take_of_length_le (by simp)]
def armsP (kids : List Tree) (f : Nat) : Bool := decide (f < kids.length) && labelledP (kids.drop f) 149 false
set_option maxHeartbeats 4000000 in
set_option maxRecDepth 10000 in
theorem wI (k n : Int) (a b : ByteArray) (kids : List Tree) (f : Nat) (hf : f < 1000) (h : Tree.wholes kids = true) (hsz : Tree.sizes kids ≤ 100000000)
    (ht : ∀ t', t'.size ≤ Tree.sizes kids → t'.whole = true → ACalls Tryz.prog 71 [.imm t'.iv] [] (.imm (.lit (.bool (isTermP t')))) []) :
    ACalls Tryz.prog 95 [.imm (Tree.iv (.node k n a b kids)), .imm (.lit (.int .i64 (f : Int)))] [] (.imm (.lit (.bool (armsP kids f)))) [] := by
  have hd := rA kids f
  refine aH Tryz.func95 rfl rfl (nb rfl) rfl ?_
  repeat' (first | refine aE ?_ | (refine aG ?_;  first | refine aB tabOk rfl rfl rfl (nb rfl) rfl ?_ | refine bL rfl rfl (nb rfl) ?_ | (refine aI rfl rfl rfl (nb rfl) rfl rfl rfl (fun hq => ?_) (fun hq => ?_) <;> (first | (simp only [sD, sE, sB, sC, sN, sM, sT, sF] at hq; try (exfalso; omega)) | skip)) | refine eK tabOk rfl rfl rfl (nb rfl) rfl rfl rfl rfl rfl (by omega) (Nat.le_refl _) (rB kids f (by omega)) ?_ | (refine bP rfl rfl rfl (nb rfl) rfl rfl rfl (mX _ _ _ (oV kids f h) (by omega) (fun t' h1 h2 => ht t' (by omega) h2)) (fun hq => ?_) (fun hq => ?_)) | refine aT tabOk rfl rfl (nb rfl) rfl ?_) | (refine aK ?_;  first | refine aF ?_ | refine aM ?_))
  all_goals (refine aO (by first | exact .inl rfl | exact .inr rfl) (aW rfl (aA rfl)) rfl ?_; refine cE ?_; first | (simp_all [armsP]; done) | (simp_all [armsP]; omega))
set_option maxHeartbeats 4000000 in
set_option maxRecDepth 10000 in
theorem aBa (k n : Int) (a b : ByteArray) (kids : List Tree) : ACalls Tryz.prog 91 [.imm (Tree.iv (.node k n a b kids)), .imm (.lit (.bool false)), .imm (.lit (.slice none 0 0))] [] (.imm (.lit (.bool kids.isEmpty))) [] := by
  refine aH Tryz.func91 rfl rfl (nb rfl) rfl ?_
  repeat' (first | refine aE ?_ | (refine aG ?_;  first | refine aB tabOk rfl rfl rfl (nb rfl) rfl ?_ | (refine aI rfl rfl rfl (nb rfl) rfl rfl rfl (fun hq => ?_) (fun hq => ?_) <;> (first | (simp only [sD, sE, sB, sC, sN, sM, sT, sF] at hq; try (exfalso; omega)) | skip)) | refine aT tabOk rfl rfl (nb rfl) rfl ?_) | (refine aK ?_;  first | refine aF ?_ | refine aL ?_ | refine aR ?_ | refine aM ?_ | refine aS ?_ | refine aC (b := true) rfl (fun _ => ?_) nTf | refine aC (b := false) rfl nFt (fun _ => ?_)) | (refine aJ ?_;  first | refine aU ?_ | refine aN ?_))
  · refine aO (by first | exact .inl rfl | exact .inr rfl) (aW rfl (aA rfl)) rfl ?_; refine cE ?_; cases kids <;> simp_all
  · refine bZ (ι := Unit) (fun _ => S.f ⟨[(33, .imm (.lit (.int .i64 0))), (32, .imm (.lit (.int .i64 0)))], []⟩) (fun _ => 0) () (bT (by repeat' first | exact trivial | refine ⟨rfl, ?_⟩) (by repeat' first | exact trivial | refine ⟨rfl, ?_⟩)) ?_
    intro _
    repeat' (first | refine aE ?_ | (refine aG ?_;  first | refine aB tabOk rfl rfl rfl (nb rfl) rfl ?_ | (refine aI rfl rfl rfl (nb rfl) rfl rfl rfl (fun hq => ?_) (fun hq => ?_) <;> (first | (simp only [sD, sE, sB, sC, sN, sM, sT, sF] at hq; try (exfalso; omega)) | skip))) | (refine aK ?_;  first | refine aF ?_ | refine aL ?_ | refine aM ?_ | refine bQ ?_ | refine aC (b := false) rfl nFt (fun _ => ?_)) | (refine aJ ?_;  first | refine aU ?_ | refine bH ?_) | (refine aP ?_;  first | refine bE ?_))
    all_goals first
      | (exfalso; omega)
      | (refine aO (by first | exact .inl rfl | exact .inr rfl) (aW rfl (aA rfl)) rfl ?_; refine cE ?_; cases kids <;> simp_all)
theorem aCr (f g : FuncId) (l : List Tree) : kidsP l false [(f, tconP), (g, isTermP)] = isT_ct l := by
  rcases l with _ | ⟨x, _ | ⟨y, _ | ⟨z, r⟩⟩⟩ <;> simp [kidsP, formsP, isT_ct]
theorem aCs (f g : FuncId) (l : List Tree) : kidsP l false [(f, tkindP), (g, isTermP)] = isT_kt l := by
  rcases l with _ | ⟨x, _ | ⟨y, _ | ⟨z, r⟩⟩⟩ <;> simp [kidsP, formsP, isT_kt]
theorem aCt (f g : FuncId) (l : List Tree) : kidsP l false [(f, isTermP), (g, isTermP)] = isT_tt l := by
  rcases l with _ | ⟨x, _ | ⟨y, _ | ⟨z, r⟩⟩⟩ <;> simp [kidsP, formsP, isT_tt]
theorem aCu (f g : FuncId) (l : List Tree) : kidsP l false [(f, isTermP), (g, tconP)] = isT_tc l := by
  rcases l with _ | ⟨x, _ | ⟨y, _ | ⟨z, r⟩⟩⟩ <;> simp [kidsP, formsP, isT_tc]
theorem aBb (f g h : FuncId) (l : List Tree) : kidsP l false [(f, tconP), (g, isTermP), (h, tconP)] = isT_ctc l := by
  rcases l with _ | ⟨x, _ | ⟨y, _ | ⟨z, _ | ⟨u, r⟩⟩⟩⟩ <;> simp [kidsP, formsP, isT_ctc, Bool.and_assoc]
theorem aBc (f g h : FuncId) (l : List Tree) : kidsP l false [(f, isTermP), (g, isTermP), (h, isTermP)] = isT_ttt l := by
  rcases l with _ | ⟨x, _ | ⟨y, _ | ⟨z, _ | ⟨u, r⟩⟩⟩⟩ <;> simp [kidsP, formsP, isT_ttt, Bool.and_assoc]
theorem aCv (f : FuncId) (l : List Tree) : (kidsP l true [(f, isTermP)] && armsP l 1) = isT_ta l := by
  rcases l with _ | ⟨x, _ | ⟨y, r⟩⟩ <;> simp [kidsP, formsP, isT_ta, armsP, labelledP]
theorem aBd (f g : FuncId) (l : List Tree) : (kidsP l true [(f, isTermP), (g, tconP)] && armsP l 2) = isT_tca l := by
  rcases l with _ | ⟨x, _ | ⟨y, _ | ⟨z, r⟩⟩⟩ <;> simp [kidsP, formsP, isT_tca, armsP, labelledP]
end Go.Proofs.YtocaohipfiapkaaGreatDoor.Ab
namespace Go.Proofs.YtocaohipfiapkaaGreatDoor.Ab
set_option linter.unusedVariables false
set_option linter.unusedSimpArgs false
attribute [local irreducible] AWP AOps AExit AThen ABlock ANoGoto FeetOk
theorem false_and {x y : Bool} (h : x = false) : false = (x && y) := by rw [h]; rfl
set_option maxHeartbeats 16000000 in
set_option maxRecDepth 10000 in
theorem yV (t : Tree) : t.whole = true → t.size ≤ 100000000 → ACalls Tryz.prog 71 [.imm t.iv] [] (.imm (.lit (.bool (isTermP t)))) [] := by
  induction t using Tree.sind with
  | h t ih =>
    intro h hs
    obtain ⟨k, n, a, b, kids, rfl⟩ := bY h
    have hw : Tree.wholes kids = true := h
    have hz : Tree.sizes kids ≤ 100000000 := by simp only [Tree.size] at hs; omega
    have hl : kids.length < 1000000000 := by have := cG kids h; omega
    have ht : ∀ t', t'.size ≤ Tree.sizes kids → t'.whole = true → ACalls Tryz.prog 71 [.imm t'.iv] [] (.imm (.lit (.bool (isTermP t')))) [] := fun t' h1 h2 => ih t' (by simp only [Tree.size]; omega) h2 (by omega)
    have hfs : ∀ fs : List (FuncId × (Tree → Bool)), (∀ p ∈ fs, p = ((92 : FuncId), tconP) ∨ p = ((93 : FuncId), tkindP) ∨ p = ((71 : FuncId), isTermP)) →
        ∀ i (hi : i < fs.length) (hk : i < kids.length), ACalls Tryz.prog fs[i].1 [.imm kids[i].iv] [] (.imm (.lit (.bool (fs[i].2 kids[i])))) [] := fun fs hp i hi hk => by
      have hm := cU (List.getElem_mem hk)
      rcases hp fs[i] (List.getElem_mem hi) with e | e | e <;> rw [e]
      · exact aCp _ (by omega)
      · exact aAY _ (by omega)
      · exact ht _ hm (bF h (List.getElem_mem hk))
    refine aH Tryz.func71 rfl rfl (nb rfl) rfl ?_
    repeat' (first | refine aE ?_ | (refine aG ?_;  first | refine aB tabOk rfl rfl rfl (nb rfl) rfl ?_ | refine bL rfl rfl (nb rfl) ?_ | (refine aI rfl rfl rfl (nb rfl) rfl rfl rfl (fun hq => ?_) (fun hq => ?_) <;> (first | (simp only [sD, sE, sB, sC, sN, sM, sT, sF] at hq; try (exfalso; omega)) | skip)) | (refine bP rfl rfl rfl (nb rfl) rfl rfl rfl (qZ _) (fun hq => ?_) (fun hq => ?_)) | (refine bP rfl rfl rfl (nb rfl) rfl rfl rfl (yU _ _ _ _ _) (fun hq => ?_) (fun hq => ?_)) | (refine bP rfl rfl rfl (nb rfl) rfl rfl rfl (aBa _ _ _ _ _) (fun hq => ?_) (fun hq => ?_)) | (refine bP rfl rfl rfl (nb rfl) rfl rfl rfl (mX kids 137 true hw hz (fun t' h1 h2 => ht t' (by omega) h2)) (fun hq => ?_) (fun hq => ?_)) | (refine bP rfl rfl rfl (nb rfl) rfl rfl rfl (wI _ _ _ _ kids 1 (by omega) hw hz ht) (fun hq => ?_) (fun hq => ?_)) | (refine bP rfl rfl rfl (nb rfl) rfl rfl rfl (wI _ _ _ _ kids 2 (by omega) hw hz ht) (fun hq => ?_) (fun hq => ?_)) | (refine bP rfl rfl rfl (nb rfl) rfl rfl rfl (fJ _ _ _ _ _ _ [((92 : FuncId), tconP), ((71 : FuncId), isTermP)] (by decide) hl (hfs _ (by simp))) (fun hq => ?_) (fun hq => ?_)) | (refine bP rfl rfl rfl (nb rfl) rfl rfl rfl (fJ _ _ _ _ _ _ [((93 : FuncId), tkindP), ((71 : FuncId), isTermP)] (by decide) hl (hfs _ (by simp))) (fun hq => ?_) (fun hq => ?_)) | (refine bP rfl rfl rfl (nb rfl) rfl rfl rfl (fJ _ _ _ _ _ _ [((71 : FuncId), isTermP), ((71 : FuncId), isTermP)] (by decide) hl (hfs _ (by simp))) (fun hq => ?_) (fun hq => ?_)) | (refine bP rfl rfl rfl (nb rfl) rfl rfl rfl (fJ _ _ _ _ _ _ [((71 : FuncId), isTermP)] (by decide) hl (hfs _ (by simp))) (fun hq => ?_) (fun hq => ?_)) | (refine bP rfl rfl rfl (nb rfl) rfl rfl rfl (fJ _ _ _ _ _ _ [((71 : FuncId), isTermP), ((92 : FuncId), tconP)] (by decide) hl (hfs _ (by simp))) (fun hq => ?_) (fun hq => ?_)) | (refine bP rfl rfl rfl (nb rfl) rfl rfl rfl (fJ _ _ _ _ _ _ [((92 : FuncId), tconP), ((71 : FuncId), isTermP), ((92 : FuncId), tconP)] (by decide) hl (hfs _ (by simp))) (fun hq => ?_) (fun hq => ?_)) | (refine bP rfl rfl rfl (nb rfl) rfl rfl rfl (fJ _ _ _ _ _ _ [((71 : FuncId), isTermP), ((71 : FuncId), isTermP), ((71 : FuncId), isTermP)] (by decide) hl (hfs _ (by simp))) (fun hq => ?_) (fun hq => ?_)) | refine bS tabOk rfl rfl rfl (nb rfl) rfl rfl rfl rfl rfl rfl rfl rfl rfl ?_ | refine aT tabOk rfl rfl (nb rfl) rfl ?_) | (refine aK ?_;  first | refine aF ?_ | refine aL ?_ | refine bD ?_ | refine aR ?_ | refine aM ?_ | refine aS ?_ | refine aC (b := true) rfl (fun _ => ?_) nTf | refine aC (b := false) rfl nFt (fun _ => ?_)) | (refine aJ ?_;  first | refine aU ?_ | refine aN ?_) | (refine aP ?_;  first | refine bM ?_ | refine aX ?_))
    all_goals
      refine aO (by first | exact .inl rfl | exact .inr rfl) (aW rfl (aA rfl)) rfl ?_
      refine cE ?_
      clear hfs ht ih
      have e1 := (aCv 71 kids).symm
      have e2 := (aBd 71 92 kids).symm
      have e3 : (fieldsP kids 137 && distinctP kids && steadyP kids) = labelledP kids 137 true := by simp [labelledP]
      try simp only [aCr, aCs, aCt, uV, aCu, aBb, aBc] at *
      first | (have hk : k = 130 := (by assumption); subst hk) | (have hk : k = 131 := (by assumption); subst hk) | (have hk : k = 132 := (by assumption); subst hk) | (have hk : k = 133 := (by assumption); subst hk) | (have hk : k = 134 := (by assumption); subst hk) | (have hk : k = 135 := (by assumption); subst hk) | (have hk : k = 136 := (by assumption); subst hk) | (have hk : k = 138 := (by assumption); subst hk) | (have hk : k = 139 := (by assumption); subst hk) | (have hk : k = 140 := (by assumption); subst hk) | (have hk : k = 141 := (by assumption); subst hk) | (have hk : k = 142 := (by assumption); subst hk) | (have hk : k = 143 := (by assumption); subst hk) | (have hk : k = 144 := (by assumption); subst hk) | (have hk : k = 145 := (by assumption); subst hk) | (have hk : k = 146 := (by assumption); subst hk) | (have hk : k = 147 := (by assumption); subst hk) | (have hk : k = 148 := (by assumption); subst hk) | skip
      rw [isTermP]
      first | (have h3 : eqB a emptyB = true := beq_iff_eq.2 (by assumption); have h4 : eqB b emptyB = true := beq_iff_eq.2 (by assumption); simp [headP, namedK, h3, h4, *]; done) | (have h3 : eqB a emptyB = false := beq_eq_false_iff_ne.2 (by assumption); have h4 : eqB b emptyB = true := beq_iff_eq.2 (by assumption); simp [headP, namedK, h3, h4, *]; done) | (simp [headP, namedK, eqB, emptyB, *]; done) | (refine false_and ?_; have h1 : (k == 138) = false := beq_eq_false_iff_ne.2 (by assumption); have h2 : (k == 146) = false := beq_eq_false_iff_ne.2 (by assumption); have h3 : eqB a emptyB = false := beq_eq_false_iff_ne.2 (by assumption); simp [headP, namedK, h1, h2, h3]; done) | (refine false_and ?_; have h1 : (k == 138) = false := beq_eq_false_iff_ne.2 (by assumption); have h2 : (k == 146) = false := beq_eq_false_iff_ne.2 (by assumption); clear e1 e2 e3; simp_all [headP, namedK, eqB, emptyB]; done) | (refine false_and ?_; clear e1 e2 e3; simp_all [headP, namedK, eqB, emptyB]; done) | skip
def tcheckP (t : Tree) : Int := checkP isTermP t
set_option maxHeartbeats 4000000 in
set_option maxRecDepth 10000 in
theorem yW (t : Tree) (hs : t.size ≤ 100000000) : ACalls Tryz.prog 41 [.imm t.iv] [] (.imm (.lit (.int .i64 (tcheckP t)))) [] := by
  refine aH Tryz.func41 rfl rfl (nb rfl) rfl ?_
  repeat' (first | refine aE ?_ | (refine aG ?_;  first | refine aB tabOk rfl rfl rfl (nb rfl) rfl ?_ | refine bL rfl rfl (nb rfl) ?_ | (refine aI rfl rfl rfl (nb rfl) rfl rfl rfl (fun hq => ?_) (fun hq => ?_) <;> (first | (simp only [sD, sE, sB, sC, sN, sM, sT, sF] at hq; try (exfalso; omega)) | skip)) | refine cD 1000 tabOk rfl rfl rfl (nb rfl) rfl rfl rfl rfl rfl rfl ?_ | refine bW rfl rfl (nb rfl) rfl rfl rfl rfl (yS t 65536 hs (by omega) (by omega)) (by exact ⟨rfl, trivial⟩) rfl (by simp) ?_ | (refine bP rfl rfl rfl (nb rfl) rfl rfl rfl (yV t (fQ t _ (by assumption)) hs) (fun hq => ?_) (fun hq => ?_)) | refine bG tabOk rfl rfl rfl rfl rfl rfl rfl rfl rfl rfl rfl ?_) | (refine aK ?_;  first | refine aF ?_ | refine aL ?_ | refine aM ?_ | refine aS ?_ | refine aC (b := true) rfl (fun _ => ?_) nTf | refine aC (b := false) rfl nFt (fun _ => ?_)) | (refine aJ ?_;  first | refine aU ?_ | refine aN ?_))
  all_goals (refine aO (by first | exact .inl rfl | exact .inr rfl) (aW rfl (aA rfl)) rfl ?_; refine iJ ?_; simp_all [tcheckP, checkP])
end Go.Proofs.YtocaohipfiapkaaGreatDoor.Ab
namespace Go.Proofs.YtocaohipfiapkaaGreatDoor.Ab
set_option linter.unusedVariables false
set_option linter.unusedSimpArgs false
attribute [local irreducible] AWP AOps AExit AThen ABlock ANoGoto FeetOk
def zipP (R : Tree → Tree → Bool) : List Tree → List Tree → Bool
  | [], [] => true
  | x :: xs, y :: ys => R x y && zipP R xs ys
  | _, _ => false
theorem wJ (R : Tree → Tree → Bool) : ∀ (l l' : List Tree), l.length ≠ l'.length → zipP R l l' = false
  | [], [], h => absurd rfl h
  | x :: xs, y :: ys, h => by rw [zipP, wJ R xs ys (by simpa using h), Bool.and_false]
  | [], _ :: _, _ => rfl
  | _ :: _, [], _ => rfl
theorem rC (R : Tree → Tree → Bool) : ∀ (l l' : List Tree), l.length = l'.length → (zipP R l l' = true ↔ ∀ i (hi : i < l.length) (hk : i < l'.length), R l[i] l'[i] = true)
  | [], [], _ => by simp [zipP]
  | [], _ :: _, h => by simp at h
  | _ :: _, [], h => by simp at h
  | x :: xs, y :: ys, h => by
    rw [zipP, Bool.and_eq_true, rC R xs ys (by simpa using h)]
    constructor
    · rintro ⟨h1, h2⟩ i hi hk
      cases i with
      | zero => exact h1
      | succ i => exact h2 i (by simpa using hi) (by simpa using hk)
    · intro h
      exact ⟨h 0 (by simp) (by simp), fun i hi hk => h (i + 1) (by simpa using hi) (by simpa using hk)⟩
set_option maxHeartbeats 4000000 in
set_option maxRecDepth 10000 in
theorem lH (l l' : List Tree) (f : FuncId) (R : Tree → Tree → Bool) (hl : l.length < 1000000000) (hl' : l'.length < 1000000000)
    (hf : ∀ i (hi : i < l.length) (hk : i < l'.length), ACalls Tryz.prog f [.imm l[i].iv, .imm l'[i].iv] [] (.imm (.lit (.bool (R l[i] l'[i])))) []) :
    ACalls Tryz.prog 23 [.imm (.sl false l.length (Tree.ivs l)), .imm (.sl false l'.length (Tree.ivs l')), .imm (.func f [] [])] [] (.imm (.lit (.bool (zipP R l l')))) [] := by
  refine aH Tryz.func23 rfl rfl (nb rfl) rfl ?_
  repeat' (first | refine aE ?_ | (refine aG ?_;  first | refine aB tabOk rfl rfl rfl (nb rfl) rfl ?_ | (refine aI rfl rfl rfl (nb rfl) rfl rfl rfl (fun hq => ?_) (fun hq => ?_) <;> (first | (simp only [sD, sE, sB, sC, sN, sM, sT, sF] at hq; try (exfalso; omega)) | skip)) | refine aT tabOk rfl rfl (nb rfl) rfl ?_) | (refine aK ?_;  first | refine aF ?_ | refine aL ?_ | refine aR ?_ | refine aM ?_ | refine aS ?_ | refine aC (b := true) rfl (fun _ => ?_) nTf | refine aC (b := false) rfl nFt (fun _ => ?_)) | (refine aJ ?_;  first | refine aU ?_ | refine aN ?_))
  · refine aO (by first | exact .inl rfl | exact .inr rfl) (aW rfl (aA rfl)) rfl ?_; exact cE (wJ R l l' (by omega)).symm
  · have hle : l.length = l'.length := by omega
    refine bZ (ι := {j : Nat // j ≤ l.length ∧ ∀ i (hi : i < l.length) (hk : i < l'.length), i < j → R l[i] l'[i] = true}) (fun j => S.f ⟨[(17, .imm (.lit (.int .i64 (j.1 : Int)))), (16, .imm (.lit (.int .i64 (l.length : Int)))), (15, .imm (.sl false l.length (Tree.ivs l))), (1, .imm (.sl false l'.length (Tree.ivs l'))), (2, .imm (.func f [] []))], []⟩) (fun j => l.length - j.1) ⟨0, Nat.zero_le _, fun i _ _ hi => absurd hi (Nat.not_lt_zero _)⟩ (bT (by repeat' first | exact trivial | refine ⟨rfl, ?_⟩) (by repeat' first | exact trivial | refine ⟨rfl, ?_⟩)) ?_
    rintro ⟨j, hj, hok⟩
    dsimp only
    by_cases hlt : j < l.length
    · have hltk : j < l'.length := by omega
      repeat' (first | refine aE ?_ | (refine aG ?_;  first | refine aB tabOk rfl rfl rfl (nb rfl) rfl ?_ | (refine aI rfl rfl rfl (nb rfl) rfl rfl rfl (fun hq => ?_) (fun hq => ?_) <;> (first | (simp only [sD, sE, sB, sC, sN, sM, sT, sF] at hq; try (exfalso; omega)) | skip)) | (refine bP rfl rfl rfl (nb rfl) rfl rfl rfl (hf j hlt hltk) (fun hq => ?_) (fun hq => ?_)) | refine bO rfl rfl rfl (nb rfl) rfl rfl (by omega) ?_ | refine bB tabOk rfl rfl rfl (nb rfl) rfl rfl rfl rfl (by first | assumption | omega) ?_ | refine bA tabOk rfl rfl rfl (nb rfl) rfl rfl rfl (cC _ _ (by first | assumption | omega)) ?_) | (refine aK ?_;  first | refine aF ?_ | refine aL ?_ | refine bD ?_ | refine aR ?_ | refine aM ?_ | refine aS ?_ | refine aC (b := true) rfl (fun _ => ?_) nTf | refine aC (b := false) rfl nFt (fun _ => ?_)) | (refine aJ ?_;  first | refine aU ?_ | refine aN ?_) | (refine aP ?_;  first | refine bM ?_ | refine aX ?_))
      all_goals first
        | (have hq : R l[j] l'[j] = false := by assumption
           refine aO (by first | exact .inl rfl | exact .inr rfl) (aW rfl (aA rfl)) rfl ?_; refine cE ?_; symm; rw [Bool.eq_false_iff]; intro hc
           have := (rC R l l' hle).1 hc j hlt hltk
           rw [hq] at this; cases this; done)
        | (have hq : R l[j] l'[j] = true := by assumption
           exact ⟨⟨j + 1, hlt, fun i hi hk hij => by
             by_cases e : i = j
             · subst e; exact hq
             · exact hok i hi hk (by omega)⟩, (by show l.length - (j + 1) < l.length - j; omega), (bT (by repeat' first | exact trivial | refine ⟨rfl, ?_⟩) (by repeat' first | exact trivial | refine ⟨rfl, ?_⟩))⟩)
    · repeat' (first | refine aE ?_ | (refine aG ?_;  first | refine aB tabOk rfl rfl rfl (nb rfl) rfl ?_ | (refine aI rfl rfl rfl (nb rfl) rfl rfl rfl (fun hq => ?_) (fun hq => ?_) <;> (first | (simp only [sD, sE, sB, sC, sN, sM, sT, sF] at hq; try (exfalso; omega)) | skip))) | (refine aK ?_;  first | refine aF ?_ | refine aL ?_ | refine aM ?_ | refine bQ ?_ | refine aC (b := false) rfl nFt (fun _ => ?_)) | (refine aJ ?_;  first | refine aU ?_ | refine bH ?_) | (refine aP ?_;  first | refine bE ?_))
      all_goals (refine aO (by first | exact .inl rfl | exact .inr rfl) (aW rfl (aA rfl)) rfl ?_; refine cE ?_; symm; rw [rC R l l' hle]; exact fun i hi hk => hok i hi hk (by omega))
end Go.Proofs.YtocaohipfiapkaaGreatDoor.Ab
namespace Go.Proofs.YtocaohipfiapkaaGreatDoor.Ab
set_option linter.unusedVariables false
set_option linter.unusedSimpArgs false
attribute [local irreducible] AWP AOps AExit AThen ABlock ANoGoto FeetOk
mutual
def sameP : Tree → Tree → Bool
  | .nil, .nil => true
  | .node k n a b ks, .node k' n' a' b' ks' => (((k == k' && n == n') && eqB a a') && eqB b b') && samePs ks ks'
  | _, _ => false
def samePs : List Tree → List Tree → Bool
  | [], [] => true
  | x :: xs, y :: ys => sameP x y && samePs xs ys
  | _, _ => false
end
theorem rD : ∀ l l' : List Tree, samePs l l' = zipP sameP l l'
  | [], [] => by simp [samePs, zipP]
  | t :: ts, u :: us => by simp [samePs, zipP, rD ts us]
  | [], _ :: _ => by simp [samePs, zipP]
  | _ :: _, [] => by simp [samePs, zipP]
theorem nX (t : Tree) : ∀ u, sameP t u = true ↔ t = u := by
  induction t using Tree.ind with
  | h1 => intro u; cases u <;> simp [sameP]
  | h2 k n a b ks ih =>
    intro u
    cases u with
    | nil => simp [sameP]
    | node k' n' a' b' ks' =>
      have key : ∀ (l l' : List Tree), (∀ t ∈ l, t ∈ ks) → (samePs l l' = true ↔ l = l') := by
        intro l
        induction l with
        | nil => intro l' _; cases l' <;> simp [samePs]
        | cons x xs ihl =>
          intro l' hm
          cases l' with
          | nil => simp [samePs]
          | cons y ys =>
            rw [samePs, Bool.and_eq_true, ih x (hm x (by simp)) y, ihl ys (fun t ht => hm t (by simp [ht]))]
            simp
      simp only [sameP, Bool.and_eq_true, beq_iff_eq, dO, key ks ks' (fun _ h => h), Tree.node.injEq]
      constructor
      · rintro ⟨⟨⟨⟨h1, h2⟩, h3⟩, h4⟩, h5⟩; exact ⟨h1, h2, h3, h4, h5⟩
      · rintro ⟨h1, h2, h3, h4, h5⟩; exact ⟨⟨⟨⟨h1, h2⟩, h3⟩, h4⟩, h5⟩
set_option maxHeartbeats 8000000 in
set_option maxRecDepth 10000 in
theorem iQ (t : Tree) : ∀ u : Tree, (t = .nil ∨ t.whole = true) → (u = .nil ∨ u.whole = true) → t.size ≤ 100000000 → u.size ≤ 100000000 → ACalls Tryz.prog 10 [.imm t.iv, .imm u.iv] [] (.imm (.lit (.bool (sameP t u)))) [] := by
  induction t using Tree.ind with
  | h1 =>
    intro u _ _ _ _
    cases u with
    | nil =>
      rw [show sameP .nil .nil = true by simp [sameP]]
      refine aH Tryz.func10 rfl rfl (nb rfl) rfl ?_
      repeat' (first | refine aE ?_ | (refine aG ?_;  first | refine aB tabOk rfl rfl rfl (nb rfl) rfl ?_ | refine bL rfl rfl (nb rfl) ?_ | refine aT tabOk rfl rfl (nb rfl) rfl ?_) | (refine aK ?_;  first | refine aF ?_ | refine aL ?_ | refine aM ?_ | refine aC (b := true) rfl (fun _ => ?_) nTf) | (refine aJ ?_;  first | refine aN ?_))
      all_goals first
        | exact absurd rfl (by assumption)
        | exact cW (by first | exact .inl rfl | exact .inr rfl) (aW rfl (aA rfl)) rfl
    | node k n a b ks =>
      rw [show sameP .nil (.node k n a b ks) = false by simp [sameP]]
      refine aH Tryz.func10 rfl rfl (nb rfl) rfl ?_
      repeat' (first | refine aE ?_ | (refine aG ?_;  first | refine aB tabOk rfl rfl rfl (nb rfl) rfl ?_ | refine bL rfl rfl (nb rfl) ?_ | refine aT tabOk rfl rfl (nb rfl) rfl ?_) | (refine aK ?_;  first | refine aF ?_ | refine aL ?_ | refine aM ?_ | refine aC (b := true) rfl (fun _ => ?_) nTf) | (refine aJ ?_;  first | refine aN ?_))
      all_goals first
        | exact absurd rfl (by assumption)
        | exact cW (by first | exact .inl rfl | exact .inr rfl) (aW rfl (aA rfl)) rfl
  | h2 k n a b ks ih =>
    intro u hw hw2 hs hs2
    cases u with
    | nil =>
      rw [show sameP (.node k n a b ks) .nil = false by simp [sameP]]
      refine aH Tryz.func10 rfl rfl (nb rfl) rfl ?_
      repeat' (first | refine aE ?_ | (refine aG ?_;  first | refine aB tabOk rfl rfl rfl (nb rfl) rfl ?_ | refine bL rfl rfl (nb rfl) ?_ | refine aT tabOk rfl rfl (nb rfl) rfl ?_) | (refine aK ?_;  first | refine aF ?_ | refine aL ?_ | refine aM ?_ | refine aC (b := true) rfl (fun _ => ?_) nTf) | (refine aJ ?_;  first | refine aN ?_))
      all_goals first
        | exact absurd rfl (by assumption)
        | exact cW (by first | exact .inl rfl | exact .inr rfl) (aW rfl (aA rfl)) rfl
    | node k' n' a' b' ks' =>
      have hw : (Tree.node k n a b ks).whole = true := by
        rcases hw with h | h
        · cases h
        · exact h
      have hw2 : (Tree.node k' n' a' b' ks').whole = true := by
        rcases hw2 with h | h
        · cases h
        · exact h
      have hl := cG ks hw
      have hl2 := cG ks' hw2
      simp only [Tree.size] at hs hs2
      have hf : ∀ i (hi : i < ks.length) (hk : i < ks'.length), ACalls Tryz.prog 10 [.imm ks[i].iv, .imm ks'[i].iv] [] (.imm (.lit (.bool (sameP ks[i] ks'[i])))) [] := fun i hi hk => by
        have h1 := List.getElem_mem hi
        have h2 := List.getElem_mem hk
        have h3 := cU h1
        have h4 := cU h2
        exact ih _ h1 _ (.inr (bF hw h1)) (.inr (bF hw2 h2)) (by omega) (by omega)
      have ce := lH ks ks' 10 sameP (by omega) (by omega) hf
      clear ih hf
      have e : sameP (.node k n a b ks) (.node k' n' a' b' ks') = ((((k == k' && n == n') && eqB a a') && eqB b b') && zipP sameP ks ks') := by rw [sameP, rD]
      rw [e]
      generalize zipP sameP ks ks' = Z at *
      refine aH Tryz.func10 rfl rfl (nb rfl) rfl ?_
      repeat' (first | refine aE ?_ | (refine aG ?_;  first | refine aB tabOk rfl rfl rfl (nb rfl) rfl ?_ | refine bL rfl rfl (nb rfl) ?_ | (refine aI rfl rfl rfl (nb rfl) rfl rfl rfl (fun hq => ?_) (fun hq => ?_) <;> (first | (simp only [sD, sE, sB, sC, sN, sM, sT, sF] at hq; try (exfalso; omega)) | skip)) | (refine bP rfl rfl rfl (nb rfl) rfl rfl rfl (ce) (fun hq => ?_) (fun hq => ?_)) | refine aT tabOk rfl rfl (nb rfl) rfl ?_) | (refine aK ?_;  first | refine aF ?_ | refine aL ?_ | refine aM ?_ | refine aS ?_ | refine aC (b := false) rfl nFt (fun _ => ?_) | refine aQ mixed (by kernel_rfl) ?_) | (refine aJ ?_;  first | refine aU ?_) | refine bC (aZ (by kernel_rfl)) ?_)
      all_goals first
        | exact absurd rfl (by assumption)
        | (refine aO (by first | exact .inl rfl | exact .inr rfl) (aW rfl (aA rfl)) rfl ?_; refine cE ?_; simp_all [eqB])
/-- What stands at a label. -/
def isLab (label : ByteArray) (t : Tree) : Bool := decide (t.kind = 163) && eqB t.name label
def kid0 : Tree → Tree
  | .node _ _ _ _ (c :: _) => c
  | _ => .nil
def fieldP (label : ByteArray) : List Tree → Tree × Bool
  | [] => (.nil, false)
  | t :: ts => if isLab label t = true then (kid0 t, true) else fieldP label ts
theorem gP (label : ByteArray) : ∀ (l : List Tree) (j : Nat), (findP (isLab label) l j < 0 ∧ fieldP label l = (.nil, false)) ∨ ∃ i, ∃ h : i < l.length, findP (isLab label) l j = ((i + j : Nat) : Int) ∧ fieldP label l = (kid0 l[i], true) ∧ isLab label l[i] = true
  | [], j => .inl ⟨by simp [findP], rfl⟩
  | t :: ts, j => by
    rw [findP, fieldP]
    by_cases h : isLab label t = true
    · rw [if_pos h, if_pos h]
      exact .inr ⟨0, by simp, by omega, rfl, h⟩
    · rw [if_neg h, if_neg h]
      rcases gP label ts (j + 1) with h1 | ⟨i, h1, h2, h3, h4⟩
      · exact .inl h1
      · exact .inr ⟨i + 1, by simpa using h1, by rw [h2]; omega, by rw [h3]; rfl, by simpa using h4⟩
end Go.Proofs.YtocaohipfiapkaaGreatDoor.Ab
namespace Go.Proofs.YtocaohipfiapkaaGreatDoor.Ab
set_option linter.unusedVariables false
set_option linter.unusedSimpArgs false
attribute [local irreducible] AWP AOps AExit AThen ABlock ANoGoto FeetOk
def Tree.kids : Tree → List Tree
  | .nil => []
  | .node _ _ _ _ ks => ks
/-- A field's form. -/
theorem fG {t : Tree} (h : okSField t = true) : ∃ n a b c, t = .node 163 n a b [c] ∧ isSigP c = true := by
  cases t with
  | nil => simp [okSField] at h
  | node k n a b ks =>
    simp only [okSField, Bool.and_eq_true, beq_iff_eq] at h
    obtain ⟨⟨⟨rfl, _⟩, _⟩, h⟩ := h
    by_cases h1 : ks.length = 1
    · obtain ⟨c, rfl⟩ := one_of h1
      exact ⟨n, a, b, c, rfl, by simpa [sigOne] using h⟩
    · rw [nV h1] at h; cases h
/-- A signature's kids: a constructor, or fields. -/
theorem iC {k n : Int} {a b : ByteArray} {kids : List Tree} (h : isSigP (.node k n a b kids) = true) : ((k = 160 ∨ k = 161) ∧ ∃ c, kids = [c] ∧ checkP isConP c = 0) ∨ (k = 162 ∧ (∀ t ∈ kids, okSField t = true) ∧ risingP kids = true) := by
  rw [isSigP, Bool.and_eq_true] at h
  have h := h.2
  by_cases c1 : k = 160 ∨ k = 161
  · rw [if_pos c1] at h
    by_cases h1 : kids.length = 1
    · obtain ⟨c, rfl⟩ := one_of h1
      exact .inl ⟨c1, c, rfl, by simpa [sig1] using h⟩
    · rw [uU h1] at h; cases h
  · rw [if_neg c1] at h
    by_cases c2 : k = 162
    · rw [if_pos c2, Bool.and_eq_true, iP] at h
      exact .inr ⟨c2, fun t ht => List.all_eq_true.1 h.1 t ht, h.2⟩
    · rw [if_neg c2] at h; cases h
theorem wL {c : Tree} (h : checkP isConP c = 0) : c.kind ≠ 163 := by
  obtain ⟨_, _, hf⟩ := bI h
  cases c with
  | nil => simp [isConP] at hf
  | node k n a b ks =>
    intro e
    have e : k = 163 := e
    subst e
    rw [isConP, Bool.and_eq_true] at hf
    have := hf.2
    rw [if_neg (by decide), if_neg (by decide), if_neg (by decide), if_neg (by decide), if_neg (by decide), if_neg (by decide)] at this
    cases this
theorem rE {t : Tree} (h : isSigP t = true) : ∀ u ∈ t.kids, u.kind = 163 → ∃ n' a' b' c, u = .node 163 n' a' b' [c] := by
  cases t with
  | nil => simp [isSigP] at h
  | node k n a b kids =>
    intro u hu hk
    rcases iC h with ⟨_, c, rfl, hc⟩ | ⟨_, hf, _⟩
    · have e : u = c := List.mem_singleton.1 hu
      subst e
      exact absurd hk (wL hc)
    · obtain ⟨n', a', b', c, e, _⟩ := fG (hf u hu)
      exact ⟨n', a', b', c, e⟩
/-- What stands at a label of a signature is one, and less than it. -/
theorem yX {t : Tree} (h : isSigP t = true) (hw : t.whole = true) (label : ByteArray) (hf : (fieldP label t.kids).2 = true) : isSigP (fieldP label t.kids).1 = true ∧ (fieldP label t.kids).1.whole = true ∧ (fieldP label t.kids).1.size < t.size := by
  cases t with
  | nil => simp [isSigP] at h
  | node k n a b kids =>
    change (fieldP label kids).2 = true at hf
    show isSigP (fieldP label kids).1 = true ∧ (fieldP label kids).1.whole = true ∧ (fieldP label kids).1.size < _
    rcases gP label kids 0 with ⟨_, h2⟩ | ⟨i, h1, _, h3, h4⟩
    · rw [h2] at hf; cases hf
    · rw [h3]
      dsimp only
      have hm := List.getElem_mem h1
      have hz := bN (k := k) (n := n) (a := a) (b := b) hm
      have hwk := bF hw hm
      unfold isLab at h4
      rw [Bool.and_eq_true, decide_eq_true_eq] at h4
      rcases iC h with ⟨_, c, rfl, hc⟩ | ⟨_, hfs, _⟩
      · have e := List.mem_singleton.1 hm
        rw [e] at h4
        exact absurd h4.1 (wL hc)
      · obtain ⟨n', a', b', c, e, hc⟩ := fG (hfs _ hm)
        rw [e] at hz hwk ⊢
        have hz2 := bN (k := 163) (n := n') (a := a') (b := b') (kids := [c]) (t := c) (by simp)
        show isSigP c = true ∧ c.whole = true ∧ c.size < _
        exact ⟨hc, bF hwk (by simp), by omega⟩
end Go.Proofs.YtocaohipfiapkaaGreatDoor.Ab
namespace Go.Proofs.YtocaohipfiapkaaGreatDoor.Ab
set_option linter.unusedVariables false
set_option linter.unusedSimpArgs false
attribute [local irreducible] AWP AOps AExit AThen ABlock ANoGoto FeetOk
theorem tK {n : Int} {a b : ByteArray} {nm : Bool} (h : sbareP n a b nm true = true) : 0 ≤ n ∧ n ≤ 8192 := by
  simp only [sbareP, Bool.true_and, Bool.and_eq_true, Bool.or_eq_true, decide_eq_true_eq, beq_iff_eq] at h
  omega
end Go.Proofs.YtocaohipfiapkaaGreatDoor.Ab
namespace Go.Proofs.YtocaohipfiapkaaGreatDoor.Ab
set_option linter.unusedVariables false
set_option linter.unusedSimpArgs false
attribute [local irreducible] AWP AOps AExit AThen ABlock ANoGoto FeetOk
/-- What sized tells. -/
def sizedP (t : Tree) (e : Int) : Tree × Int := if e ≠ 0 then (.nil, e) else if (wholeP t 65536).1 ≠ 0 then (.nil, (wholeP t 65536).1) else (t, 0)
set_option maxHeartbeats 4000000 in
set_option maxRecDepth 10000 in
theorem aAm (t : Tree) (e : Int) (hs : t.size ≤ 100000000) : ACalls Tryz.prog 17 [.imm t.iv, .imm (.lit (.int .i64 e))] [] (.imm (.tup [(sizedP t e).1.iv, .lit (.int .i64 (sizedP t e).2)])) [] := by
  have c1 := qX t 65536 hs (by omega) (by omega)
  unfold sizedP
  generalize wholeP t 65536 = W at *
  obtain ⟨W1, W2⟩ := W
  dsimp only at *
  by_cases h0 : e = 0
  · subst h0
    rw [if_neg (by simp)]
    by_cases h1 : W1 = 0
    · subst h1
      rw [if_neg (by simp)]
      refine aH Tryz.func17 rfl rfl (nb rfl) rfl ?_
      repeat' (first | refine aE ?_ | (refine aG ?_;  first | refine aB tabOk rfl rfl rfl (nb rfl) rfl ?_ | (refine aI rfl rfl rfl (nb rfl) rfl rfl rfl (fun hq => ?_) (fun hq => ?_) <;> (first | (simp only [sD, sE, sB, sC, sN, sM, sT, sF] at hq; try (exfalso; omega)) | skip)) | refine cD 1000 tabOk rfl rfl rfl (nb rfl) rfl rfl rfl rfl rfl rfl ?_ | refine bW rfl rfl (nb rfl) rfl rfl rfl rfl (c1) (by exact ⟨rfl, trivial⟩) rfl (by simp) ?_ | refine bG tabOk rfl rfl rfl rfl rfl rfl rfl rfl rfl rfl rfl ?_) | (refine aK ?_;  first | refine aF ?_ | refine aL ?_ | refine bD ?_ | refine aM ?_ | refine aS ?_ | refine aC (b := true) rfl (fun _ => ?_) nTf | refine aC (b := false) rfl nFt (fun _ => ?_)) | (refine aJ ?_;  first | refine aU ?_))
      all_goals first
        | exact absurd rfl (by assumption)
        | (refine aO (by first | exact .inl rfl | exact .inr rfl) (aV rfl (aA rfl) (aA rfl)) rfl ?_; rfl)
    · rw [if_pos h1]
      refine aH Tryz.func17 rfl rfl (nb rfl) rfl ?_
      repeat' (first | refine aE ?_ | (refine aG ?_;  first | refine aB tabOk rfl rfl rfl (nb rfl) rfl ?_ | (refine aI rfl rfl rfl (nb rfl) rfl rfl rfl (fun hq => ?_) (fun hq => ?_) <;> (first | (simp only [sD, sE, sB, sC, sN, sM, sT, sF] at hq; try (exfalso; omega)) | skip)) | refine cD 1000 tabOk rfl rfl rfl (nb rfl) rfl rfl rfl rfl rfl rfl ?_ | refine bW rfl rfl (nb rfl) rfl rfl rfl rfl (c1) (by exact ⟨rfl, trivial⟩) rfl (by simp) ?_ | refine bG tabOk rfl rfl rfl rfl rfl rfl rfl rfl rfl rfl rfl ?_) | (refine aK ?_;  first | refine aF ?_ | refine aL ?_ | refine bD ?_ | refine aM ?_ | refine aC (b := true) rfl (fun _ => ?_) nTf) | (refine aJ ?_;  first | refine aU ?_ | refine aN ?_))
      all_goals first
        | exact absurd (by assumption) h1
        | exact absurd rfl (by assumption)
        | (refine aO (by first | exact .inl rfl | exact .inr rfl) (aV rfl (aA rfl) (aA rfl)) rfl ?_; rfl)
  · rw [if_pos h0]
    refine aH Tryz.func17 rfl rfl (nb rfl) rfl ?_
    repeat' (first | refine aE ?_ | (refine aG ?_;  first | refine aB tabOk rfl rfl rfl (nb rfl) rfl ?_ | (refine aI rfl rfl rfl (nb rfl) rfl rfl rfl (fun hq => ?_) (fun hq => ?_) <;> (first | (simp only [sD, sE, sB, sC, sN, sM, sT, sF] at hq; try (exfalso; omega)) | skip)) | refine cD 1000 tabOk rfl rfl rfl (nb rfl) rfl rfl rfl rfl rfl rfl ?_ | refine bG tabOk rfl rfl rfl rfl rfl rfl rfl rfl rfl rfl rfl ?_) | (refine aK ?_;  first | refine aF ?_ | refine aL ?_ | refine aM ?_ | refine aS ?_ | refine aC (b := true) rfl (fun _ => ?_) nTf | refine aC (b := false) rfl nFt (fun _ => ?_)) | (refine aJ ?_;  first | refine aU ?_ | refine aN ?_))
    all_goals first
      | exact absurd (by assumption) h0
      | (refine aO (by first | exact .inl rfl | exact .inr rfl) (aV rfl (aA rfl) (aA rfl)) rfl ?_; rfl)
end Go.Proofs.YtocaohipfiapkaaGreatDoor.Ab
namespace Go.Proofs.YtocaohipfiapkaaGreatDoor.Ab
set_option linter.unusedVariables false
set_option linter.unusedSimpArgs false
open Go.RowKit
attribute [local irreducible] AWP AOps AExit AThen ABlock ANoGoto FeetOk
end Go.Proofs.YtocaohipfiapkaaGreatDoor.Ab
namespace Go.Proofs.YtocaohipfiapkaaGreatDoor.Ab
set_option linter.unusedVariables false
set_option linter.unusedSimpArgs false
attribute [local irreducible] AWP AOps AExit AThen ABlock ANoGoto FeetOk
theorem aBe {t : Tree} (h : isExP t = true) : t.kind = 164 := by
  unfold isExP at h
  split at h
  · simp only [Bool.and_eq_true, beq_iff_eq] at h; exact h.1.1
  · cases h
theorem yY {t : Tree} (h : isFunP t = true) : t.kind = 165 := by
  unfold isFunP at h
  split at h
  · simp only [Bool.and_eq_true, beq_iff_eq] at h; exact h.1.1
  · cases h
end Go.Proofs.YtocaohipfiapkaaGreatDoor.Ab
namespace Go.Proofs.YtocaohipfiapkaaGreatDoor.Ab
set_option linter.unusedVariables false
set_option linter.unusedSimpArgs false
open Go.RowKit
attribute [local irreducible] AWP AOps AExit AThen ABlock ANoGoto FeetOk
theorem aBf {P : Program} {f : FuncId} {args : List AV} {m m' : Mem} {r : AV} (h : ACalls P f (args.map AV.nz) m r m') : ACalls P f args m r m' :=
  ⟨h.enters, fun w M β vs ha hm hv => h.go w M β vs ha hm hv.nz⟩
end Go.Proofs.YtocaohipfiapkaaGreatDoor.Ab
namespace Go.Proofs.YtocaohipfiapkaaGreatDoor.Ab
set_option linter.unusedVariables false
set_option linter.unusedSimpArgs false
open Go.RowKit
attribute [local irreducible] AWP AOps AExit AThen ABlock ANoGoto FeetOk
end Go.Proofs.YtocaohipfiapkaaGreatDoor.Ab
namespace Go.Proofs.YtocaohipfiapkaaGreatDoor.Ab
set_option linter.unusedVariables false
set_option linter.unusedSimpArgs false
open Go.RowKit
attribute [local irreducible] AWP AOps AExit AThen ABlock ANoGoto FeetOk
set_option maxHeartbeats 4000000 in
set_option maxRecDepth 10000 in
theorem uW (l : List Tree) (F : FuncId) (R : Tree → Bool) (hl : l.length < 1000000000)
    (hf : ∀ j (h : j < l.length), ACalls Tryz.prog F [.imm l[j].iv] [] (.imm (.lit (.bool (R l[j])))) []) :
    ACalls Tryz.prog 30 [.imm (.sl false l.length (Tree.ivs l)), .imm (.func F [] [])] [] (.imm (.lit (.int .i64 (findP R l 0)))) [] := by
  generalize hR : findP R l 0 = Q
  refine bX [] Tryz.func30 rfl rfl (nb rfl) rfl rfl ?_
  repeat' (first | refine aE ?_ | (refine aG ?_;  first | refine aB tabOk rfl rfl rfl (nb rfl) rfl ?_ | refine aT tabOk rfl rfl (nb rfl) rfl ?_) | (refine aK ?_;  first | refine aF ?_ | refine aL ?_ | refine aR ?_))
  refine bZ (ι := {j : Nat // j ≤ l.length ∧ findP R (l.drop j) j = Q}) (fun j => S.f ⟨[(8, .imm (.lit (.int .i64 (j.1 : Int)))), (7, .imm (.lit (.int .i64 (l.length : Int)))), (0, .imm (.sl false l.length (Tree.ivs l))), (1, .imm (.func F [] []))], []⟩) (fun j => l.length - j.1) ⟨0, Nat.zero_le _, hR⟩ (bT (by repeat' first | exact trivial | refine ⟨rfl, ?_⟩) (by repeat' first | exact trivial | refine ⟨rfl, ?_⟩)) ?_
  clear hR
  rintro ⟨j, hj, hR⟩
  dsimp only
  by_cases hlt : j < l.length
  · have hget := cC l j hlt
    have hc := hf j hlt
    rw [List.drop_eq_getElem_cons hlt, findP] at hR
    cases hRj : R l[j] with
    | true =>
      rw [hRj] at hc hR
      rw [if_pos rfl] at hR
      subst hR
      repeat' (first | refine aE ?_ | (refine aG ?_;  first | refine aB tabOk rfl rfl rfl (nb rfl) rfl ?_ | (refine aI rfl rfl rfl (nb rfl) rfl rfl rfl (fun hq => ?_) (fun hq => ?_) <;> (first | (simp only [sD, sE, sB, sC, sN, sM, sT, sF] at hq; try (exfalso; omega)) | skip)) | refine bW rfl rfl (nb rfl) rfl rfl rfl rfl hc (by repeat' first | exact trivial | refine ⟨rfl, ?_⟩) rfl (by show ([] : List Nat).Nodup; decide) ?_ | refine bB tabOk rfl rfl rfl (nb rfl) rfl rfl rfl rfl (by first | assumption | omega) ?_ | refine bA tabOk rfl rfl rfl (nb rfl) rfl rfl rfl (by assumption) ?_) | (refine aK ?_;  first | refine aF ?_ | refine aL ?_ | refine aR ?_ | refine aM ?_ | refine aS ?_ | refine aC (b := true) rfl (fun _ => ?_) nTf) | (refine aJ ?_;  first | refine aU ?_ | refine aN ?_) | (refine aP ?_;  first | refine aX ?_))
      all_goals first
        | (exfalso; omega)
        | (refine cB (cA (by first | exact .inl rfl | exact .inr rfl) (aW rfl (aA rfl)) rfl (by repeat' first | exact trivial | refine ⟨rfl, ?_⟩) rfl ?_); rfl)
    | false =>
      rw [hRj] at hc hR
      rw [if_neg (by simp)] at hR
      repeat' (first | refine aE ?_ | (refine aG ?_;  first | refine aB tabOk rfl rfl rfl (nb rfl) rfl ?_ | (refine aI rfl rfl rfl (nb rfl) rfl rfl rfl (fun hq => ?_) (fun hq => ?_) <;> (first | (simp only [sD, sE, sB, sC, sN, sM, sT, sF] at hq; try (exfalso; omega)) | skip)) | refine bW rfl rfl (nb rfl) rfl rfl rfl rfl hc (by repeat' first | exact trivial | refine ⟨rfl, ?_⟩) rfl (by show ([] : List Nat).Nodup; decide) ?_ | refine bO rfl rfl rfl (nb rfl) rfl rfl (by omega) ?_ | refine bB tabOk rfl rfl rfl (nb rfl) rfl rfl rfl rfl (by first | assumption | omega) ?_ | refine bA tabOk rfl rfl rfl (nb rfl) rfl rfl rfl (by assumption) ?_) | (refine aK ?_;  first | refine aF ?_ | refine aL ?_ | refine bD ?_ | refine aR ?_ | refine aS ?_ | refine aC (b := true) rfl (fun _ => ?_) nTf | refine aC (b := false) rfl nFt (fun _ => ?_)) | (refine aJ ?_;  first | refine aU ?_) | (refine aP ?_;  first | refine bM ?_))
      all_goals first
        | (exfalso; omega)
        | exact ⟨⟨j + 1, hlt, hR⟩, (by show l.length - (j + 1) < l.length - j; omega), (bT (by repeat' first | exact trivial | refine ⟨rfl, ?_⟩) (by repeat' first | exact trivial | refine ⟨rfl, ?_⟩))⟩
  · have ej : j = l.length := by omega
    subst ej
    rw [List.drop_length, findP] at hR
    subst hR
    repeat' (first | refine aE ?_ | (refine aG ?_;  first | refine aB tabOk rfl rfl rfl (nb rfl) rfl ?_ | (refine aI rfl rfl rfl (nb rfl) rfl rfl rfl (fun hq => ?_) (fun hq => ?_) <;> (first | (simp only [sD, sE, sB, sC, sN, sM, sT, sF] at hq; try (exfalso; omega)) | skip))) | (refine aK ?_;  first | refine aF ?_ | refine aL ?_ | refine aM ?_ | refine bQ ?_ | refine aC (b := false) rfl nFt (fun _ => ?_)) | (refine aJ ?_;  first | refine aU ?_ | refine bH ?_) | (refine aP ?_;  first | refine bE ?_))
    all_goals first
      | (exfalso; omega)
      | (refine cB (cA (by first | exact .inl rfl | exact .inr rfl) (aW rfl (aA rfl)) rfl (by repeat' first | exact trivial | refine ⟨rfl, ?_⟩) rfl ?_); rfl)
set_option maxHeartbeats 4000000 in
set_option maxRecDepth 10000 in
theorem jD (l : List Tree) (F : FuncId) (R : Tree → Bool) (hl : l.length < 1000000000)
    (hf : ∀ j (h : j < l.length), ACalls Tryz.prog F [.imm l[j].iv] [] (.imm (.lit (.bool (R l[j])))) []) :
    ACalls Tryz.prog 44 [.imm (.sl false l.length (Tree.ivs l)), .imm (.func F [] [])] [] (.imm (.lit (.bool (l.any R)))) [] := by
  have hc := uW l F R hl hf
  have ha := nW R l 0
  generalize findP R l 0 = Q at *
  refine bX [] Tryz.func44 rfl rfl (nb rfl) rfl rfl ?_
  repeat' (first | refine aE ?_ | (refine aG ?_;  first | refine aB tabOk rfl rfl rfl (nb rfl) rfl ?_ | (refine aI rfl rfl rfl (nb rfl) rfl rfl rfl (fun hq => ?_) (fun hq => ?_) <;> (first | (simp only [sD, sE, sB, sC, sN, sM, sT, sF] at hq; try (exfalso; omega)) | skip)) | refine bW rfl rfl (nb rfl) rfl rfl rfl rfl hc (by repeat' first | exact trivial | refine ⟨rfl, ?_⟩) rfl (by show ([] : List Nat).Nodup; decide) ?_) | (refine aK ?_;  first | refine aF ?_ | refine aM ?_))
  all_goals
    (have e : l.any R = decide (Q ≥ 0) := by
       cases h : l.any R with
       | true => exact (decide_eq_true (ha.2 h)).symm
       | false => exact (decide_eq_false (fun hq => by rw [ha.1 hq] at h; cases h)).symm
     rw [e]
     refine cB (cA (by first | exact .inl rfl | exact .inr rfl) (aW rfl (aA rfl)) rfl (by repeat' first | exact trivial | refine ⟨rfl, ?_⟩) rfl ?_); refine cE ?_; first | exact (decide_eq_true (by assumption)).symm | exact (decide_eq_false (by assumption)).symm)
end Go.Proofs.YtocaohipfiapkaaGreatDoor.Ab
namespace Go.Proofs.YtocaohipfiapkaaGreatDoor.Ab
set_option linter.unusedVariables false
set_option linter.unusedSimpArgs false
open Go.RowKit
attribute [local irreducible] AWP AOps AExit AThen ABlock ANoGoto FeetOk
structure CellD where
  f : Bool
  k : Int
  n : Int
  a : ByteArray
  b : ByteArray
  kids : List Int
def intIVs (l : List Int) : List IV := l.map fun x => .lit (.int .i64 x)
def cellIV (c : CellD) : List IV := [.lit (.int .i64 c.k), .lit (.int .i64 c.n), .lit (.string c.a), .lit (.string c.b), .sl c.f c.kids.length (intIVs c.kids)]
def cellIVs : List CellD → List IV
  | [] => []
  | c :: l => cellIV c ++ cellIVs l
theorem rF (l : List Int) (j : Nat) (h : j < l.length) : (intIVs l)[j * 1]? = some (.lit (.int .i64 l[j])) := by unfold intIVs; simp [h]
theorem yZ (l : List Int) : (intIVs l).length = l.length := by unfold intIVs; simp
theorem oW : ∀ l m : List CellD, cellIVs (l ++ m) = cellIVs l ++ cellIVs m
  | [], m => rfl
  | c :: l, m => by rw [List.cons_append, cellIVs, cellIVs, oW l m, List.append_assoc]
theorem gQ : ∀ (l : List CellD) (j : Nat) (h : j < l.length), ((cellIVs l).drop (j * 5)).take 5 = cellIV l[j]
  | c :: l, 0, h => by rw [Nat.zero_mul, List.drop_zero, cellIVs, List.take_append_of_le_length (by simp [cellIV])]; rfl
  | c :: l, j + 1, h => by
    have e : (j + 1) * 5 = 5 + j * 5 := by omega
    have e5 : (cellIV c).length = 5 := rfl
    rw [e, ← List.drop_drop, cellIVs]
    conv => lhs; rw [← e5, List.drop_left]
    rw [e5, gQ l j (by simpa using h)]
    rfl
theorem zA (l : List CellD) (j i : Nat) (h : j < l.length) (hi : i < 5) : (cellIVs l)[j * 5 + i]? = (cellIV l[j])[i]? := by
  rw [← gQ l j h, List.getElem?_take, if_pos hi, List.getElem?_drop]
/-- The tree at a cell. -/
def growT (l : List CellD) : Nat → Nat → Tree
  | 0, _ => .nil
  | f + 1, i => match l[i]? with
    | none => .nil
    | some c => .node c.k c.n c.a c.b (c.kids.map fun x => growT l f x.toNat)
def below (l : List CellD) : Prop := ∀ i (h : i < l.length), ∀ x ∈ l[i].kids, 0 ≤ x ∧ x < (i : Int)
theorem aBg (l : List CellD) (f i : Nat) (h : i < f) (hi : i < l.length) : ∃ cs, (growT l f i).iv = .ptr cs 0 := by
  cases f with
  | zero => omega
  | succ f => rw [growT, List.getElem?_eq_getElem hi]; exact ⟨_, rfl⟩
theorem aCw (l : List Tree) (t : Tree) : Tree.ivs (l ++ [t]) = Tree.ivs l ++ [t.iv] := by rw [dC, dC, List.map_append]; rfl
set_option maxHeartbeats 16000000 in
set_option maxRecDepth 10000 in
theorem aEc (l : List CellD) (hb : below l) (hlen : l.length ≤ 8192) (hk : ∀ c ∈ l, c.kids.length ≤ 8192) : ∀ (f i : Nat), i < f → i < l.length →
    ACalls Tryz.prog 24 [.imm (.agg [.sl false l.length (cellIVs l)]), .imm (.lit (.int .i64 (i : Int)))] [] (.imm (growT l f i).iv) [] := by
  intro f
  induction f with
  | zero => intro i h; omega
  | succ f ih =>
    intro i hif hil
    have hT : growT l (f + 1) i = .node l[i].k l[i].n l[i].a l[i].b (l[i].kids.map fun x => growT l f x.toNat) := by
      rw [growT, List.getElem?_eq_getElem hil]
    rw [hT]
    have hrow := gQ l i hil
    have hbi := hb i hil
    have hki := hk l[i] (List.getElem_mem hil)
    generalize hc : l[i] = c at *
    change _ = [IV.lit (.int .i64 c.k), .lit (.int .i64 c.n), .lit (.string c.a), .lit (.string c.b), .sl c.f c.kids.length (intIVs c.kids)] at hrow
    refine cK Tryz.func24 rfl rfl (nb rfl) rfl ?_
    repeat' (first | refine aE ?_ | (refine aG ?_;  first | refine aB tabOk rfl rfl rfl (nb rfl) rfl ?_ | refine lQ tabOk rfl rfl rfl (nb rfl) rfl rfl rfl hrow rfl ?_ | refine eP tabOk rfl rfl rfl (nb rfl) rfl rfl rfl rfl rfl ?_ | refine kS (t := 34) rfl rfl rfl (nb rfl) rfl rfl rfl rfl rfl rfl rfl ?_ | refine aT tabOk rfl rfl (nb rfl) rfl ?_ | refine cL tabOk rfl rfl rfl (nb rfl) rfl rfl rfl rfl rfl rfl ?_ | refine bK tabOk rfl rfl rfl (nb rfl) rfl rfl rfl rfl ?_ | refine bG tabOk rfl rfl rfl rfl rfl rfl rfl rfl rfl rfl rfl ?_ | refine bB tabOk rfl rfl rfl (nb rfl) rfl rfl rfl rfl (by first | assumption | omega) ?_) | (refine aK ?_;  first | refine aF ?_ | refine aL ?_ | refine aR ?_))
    have hTs : ∀ j (hj : j < c.kids.length), Tree.ivs ((c.kids.take (j + 1)).map fun x => growT l f x.toNat) = Tree.ivs ((c.kids.take j).map fun x => growT l f x.toNat) ++ [(growT l f (c.kids[j]).toNat).iv] := fun j hj => by
      rw [List.take_succ_eq_append_getElem hj, List.map_append, List.map_singleton, aCw]
    refine cP (fH (h0 := 22) (k0 := 4) 500 25 1 rfl rfl (by simp) rfl rfl) ?_
    refine bZ (ι := {j : Nat // j ≤ c.kids.length}) (fun j => S.f ⟨[(7, .imm (.lit (.int .i64 (j.1 : Int)))), (6, .obj 22 0), (5, .obj 5 0), (2, .imm (.ptr [.sl false l.length (cellIVs l)] 0))], [(500, .arr 25 1 j.1 (Tree.ivs ((c.kids.take j.1).map fun x => growT l f x.toNat))), (22, .cells [.imm (.lit (.int .i64 c.k)), .imm (.lit (.int .i64 c.n)), .imm (.lit (.string c.a)), .imm (.lit (.string c.b)), .ref 500 j.1]), (5, .cells [.imm (.lit (.int .i64 c.k)), .imm (.lit (.int .i64 c.n)), .imm (.lit (.string c.a)), .imm (.lit (.string c.b)), .imm (.sl c.f c.kids.length (intIVs c.kids))])]⟩) (fun j => c.kids.length - j.1) ⟨0, Nat.zero_le _⟩ (bT (by repeat' first | exact trivial | refine ⟨rfl, ?_⟩) (by repeat' first | exact trivial | refine ⟨rfl, ?_⟩)) ?_
    rintro ⟨j, hj⟩
    dsimp only
    by_cases hlt : j < c.kids.length
    · have hx := hbi c.kids[j] (List.getElem_mem hlt)
      have hcall := ih (c.kids[j]).toNat (by omega) (by omega)
      have hxe : ((c.kids[j]).toNat : Int) = c.kids[j] := Int.toNat_of_nonneg hx.1
      rw [hxe] at hcall
      obtain ⟨pc, hpc⟩ := aBg l f (c.kids[j]).toNat (by omega) (by omega)
      have hTj := hTs j hlt
      rw [hpc] at hcall hTj
      repeat' (first | refine aE ?_ | (refine aG ?_;  first | refine aB tabOk rfl rfl rfl (nb rfl) rfl ?_ | (refine aI rfl rfl rfl (nb rfl) rfl rfl rfl (fun hq => ?_) (fun hq => ?_) <;> (first | (simp only [sD, sE, sB, sC, sN, sM, sT, sF] at hq; try (exfalso; omega)) | skip)) | refine aD rfl rfl (nb rfl) rfl rfl rfl rfl (hcall) ?_ | refine bA tabOk rfl rfl rfl (nb rfl) rfl rfl rfl (rF _ _ hlt) ?_ | refine cI tabOk rfl rfl rfl (nb rfl) rfl rfl rfl rfl rfl rfl rfl (by first | omega | decide) rfl (by first | omega | (dsimp only; omega)) (by first | omega | (dsimp only; omega)) ?_ | refine bO rfl rfl rfl (nb rfl) rfl rfl (by omega) ?_ | refine bS tabOk rfl rfl rfl (nb rfl) rfl rfl rfl rfl rfl rfl rfl rfl rfl ?_ | refine aT tabOk rfl rfl (nb rfl) rfl ?_ | refine bK tabOk rfl rfl rfl (nb rfl) rfl rfl rfl rfl ?_ | refine bG tabOk rfl rfl rfl rfl rfl rfl rfl rfl rfl rfl rfl ?_ | refine bB tabOk rfl rfl rfl (nb rfl) rfl rfl rfl rfl (by first | assumption | omega) ?_) | (refine aK ?_;  first | refine aF ?_ | refine aL ?_ | refine bD ?_ | refine aR ?_ | refine aS ?_ | refine aC (b := true) rfl (fun _ => ?_) nTf | refine aQ mixed (by kernel_rfl) ?_) | (refine aJ ?_;  first | refine aU ?_) | (refine aP ?_;  first | refine bM ?_) | refine bC (aZ (by kernel_rfl)) ?_)
      refine ⟨⟨j + 1, hlt⟩, (by show c.kids.length - (j + 1) < c.kids.length - j; omega), ?_⟩
      dsimp only
      rw [hTj]
      exact (bT (by repeat' first | exact trivial | refine ⟨rfl, ?_⟩) (by repeat' first | exact trivial | refine ⟨rfl, ?_⟩))
    · have ej : j = c.kids.length := by omega
      subst ej
      repeat' (first | refine aE ?_ | (refine aG ?_;  first | refine aB tabOk rfl rfl rfl (nb rfl) rfl ?_ | (refine aI rfl rfl rfl (nb rfl) rfl rfl rfl (fun hq => ?_) (fun hq => ?_) <;> (first | (simp only [sD, sE, sB, sC, sN, sM, sT, sF] at hq; try (exfalso; omega)) | skip)) | refine aT tabOk rfl rfl (nb rfl) rfl ?_ | refine bK tabOk rfl rfl rfl (nb rfl) rfl rfl rfl rfl ?_) | (refine aK ?_;  first | refine aF ?_ | refine aL ?_ | refine aM ?_ | refine bQ ?_ | refine aC (b := false) rfl nFt (fun _ => ?_)) | (refine aJ ?_;  first | refine aU ?_ | refine bH ?_) | (refine aP ?_;  first | refine bE ?_))
      have hlen : (c.kids.map fun x => growT l f x.toNat).length = c.kids.length := by simp
      rw [List.take_length]
      refine dS ((Imp.of_le (σ' := S.f ⟨[(4, .obj 22 0)], [(500, .arr 25 1 c.kids.length (Tree.ivs (c.kids.map fun x => growT l f x.toNat))), (22, .cells [.imm (.lit (.int .i64 c.k)), .imm (.lit (.int .i64 c.n)), .imm (.lit (.string c.a)), .imm (.lit (.string c.b)), .ref 500 c.kids.length])]⟩) (bT (by repeat' first | exact trivial | refine ⟨rfl, ?_⟩) (by repeat' first | exact trivial | refine ⟨rfl, ?_⟩))).trans ((cM (g := 500) rfl (by repeat' first | exact trivial | exact fun _ => rfl | refine ⟨?_, ?_⟩) (by repeat' first | exact trivial | exact fun _ => rfl | refine ⟨?_, ?_⟩)).trans (dU (g := 22) rfl rfl))) ?_
      refine aO (by first | exact .inl rfl | exact .inr rfl) (aW rfl (aA rfl)) rfl ?_
      show AV.imm _ = AV.imm _
      rw [Tree.iv, hlen]
      rfl
end Go.Proofs.YtocaohipfiapkaaGreatDoor.Ab
namespace Go.Proofs.YtocaohipfiapkaaGreatDoor.Ab
set_option linter.unusedVariables false
set_option linter.unusedSimpArgs false
open Go.RowKit
attribute [local irreducible] AWP AOps AExit AThen ABlock ANoGoto FeetOk
def allK : List CellD → List Int
  | [] => []
  | c :: l => c.kids ++ allK l
theorem wM : ∀ l m : List CellD, allK (l ++ m) = allK l ++ allK m
  | [], m => rfl
  | c :: l, m => by rw [List.cons_append, allK, allK, wM l m, List.append_assoc]
theorem tL (l : List CellD) (i : Nat) (h : i < l.length) : allK (l.take (i + 1)) = allK (l.take i) ++ l[i].kids := by
  rw [List.take_succ_eq_append_getElem h, wM]
  simp [allK]
theorem wN (K : Nat) : ∀ l : List CellD, (∀ c ∈ l, c.kids.length ≤ K) → (allK l).length ≤ l.length * K
  | [], _ => by simp [allK]
  | c :: l, h => by
    have h1 := h c List.mem_cons_self
    have h2 := wN K l (fun d hd => h d (List.mem_cons_of_mem _ hd))
    rw [allK, List.length_append, List.length_cons, Nat.add_mul]
    omega
def cntIVs (n : Nat) (l : List Int) : List IV := (List.range n).map fun (j : Nat) => .lit (.int .i64 ((l.count (j : Int) : Nat) : Int))
theorem aCx (n : Nat) : List.replicate n (IV.lit (.int .i64 0)) = cntIVs n [] := by
  apply List.ext_getElem
  · simp [cntIVs]
  · intro i h1 h2
    simp [cntIVs]
theorem aAn (n : Nat) (l : List Int) (x : Int) (h0 : 0 ≤ x) (h : x < (n : Int)) : (cntIVs n l)[x.toNat * 1]? = some (.lit (.int .i64 ((l.count x : Nat) : Int))) := by
  unfold cntIVs
  rw [Nat.mul_one, List.getElem?_map, List.getElem?_range (by omega)]
  rw [Option.map_some, Int.toNat_of_nonneg h0]
theorem aDz (n : Nat) (l : List Int) (x : Int) (h0 : 0 ≤ x) (h : x < (n : Int)) : (cntIVs n l).set (x.toNat * 1) (.lit (.int .i64 ((l.count x + 1 : Nat) : Int))) = cntIVs n (l ++ [x]) := by
  rw [Nat.mul_one]
  apply List.ext_getElem
  · simp [cntIVs]
  · intro i h1 h2
    rw [List.getElem_set]
    by_cases e : x.toNat = i
    · rw [if_pos e]
      have ex : x = (i : Int) := by omega
      subst ex
      simp [cntIVs, List.count_append]
    · rw [if_neg e]
      have ne : ¬ x = (i : Int) := by omega
      simp [cntIVs, List.count_append, List.count_singleton, ne]
def once (l : List CellD) : Prop := ∀ j : Nat, j < l.length - 1 → (allK l).count (j : Int) = 1
open Classical in
/-- What is made of a row of cells; what is told of it. -/
noncomputable def openR (l : List CellD) : Tree × Int :=
  if l.length = 0 then (.nil, 1) else if 8192 < l.length then (.nil, 3) else if below l ∧ once l then (growT l l.length (l.length - 1), 0) else (.nil, 16)
theorem aDA {l : List CellD} {i k : Nat} (hi : i < l.length) (hk : k < l[i].kids.length) (h : l[i].kids[k] < 0 ∨ (i : Int) ≤ l[i].kids[k]) : ¬ below l := fun hb => by
  have := hb i hi _ (List.getElem_mem hk)
  omega
theorem aBh {l : List CellD} {i : Nat} (hi : i < l.length) : (cellIVs l)[i * 5 + 4]? = some (.sl l[i].f l[i].kids.length (intIVs l[i].kids)) := by
  rw [zA l i 4 hi (by omega)]; rfl
set_option maxHeartbeats 16000000 in
set_option maxRecDepth 10000 in
theorem aEd (l : List CellD) (hk : ∀ c ∈ l, c.kids.length ≤ 8192) :
    ACalls Tryz.prog 11 [.imm (.agg [.sl false l.length (cellIVs l)])] [] (.imm (.tup [(openR l).1.iv, .lit (.int .i64 (openR l).2)])) [] := by
  have hR : openR l = openR l := rfl
  conv at hR => rhs; unfold openR
  generalize openR l = R at *
  by_cases h0 : l.length = 0
  · rw [if_pos h0] at hR
    subst hR
    refine aH Tryz.func11 rfl rfl (nb rfl) rfl ?_
    repeat' (first | refine aE ?_ | (refine aG ?_;  first | refine aB tabOk rfl rfl rfl (nb rfl) rfl ?_ | (refine aI rfl rfl rfl (nb rfl) rfl rfl rfl (fun hq => ?_) (fun hq => ?_) <;> (first | (simp only [sD, sE, sB, sC, sN, sM, sT, sF] at hq; try (exfalso; omega)) | skip)) | refine aT tabOk rfl rfl (nb rfl) rfl ?_) | (refine aK ?_;  first | refine aF ?_ | refine aL ?_ | refine aM ?_ | refine aC (b := true) rfl (fun _ => ?_) nTf) | (refine aJ ?_;  first | refine aN ?_))
    all_goals first
      | (exfalso; omega)
      | (refine aO (by first | exact .inl rfl | exact .inr rfl) (aV rfl (aA rfl) (aA rfl)) rfl ?_; rfl)
  · rw [if_neg h0] at hR
    by_cases h1 : 8192 < l.length
    · rw [if_pos h1] at hR
      subst hR
      refine aH Tryz.func11 rfl rfl (nb rfl) rfl ?_
      repeat' (first | refine aE ?_ | (refine aG ?_;  first | refine aB tabOk rfl rfl rfl (nb rfl) rfl ?_ | (refine aI rfl rfl rfl (nb rfl) rfl rfl rfl (fun hq => ?_) (fun hq => ?_) <;> (first | (simp only [sD, sE, sB, sC, sN, sM, sT, sF] at hq; try (exfalso; omega)) | skip)) | refine aT tabOk rfl rfl (nb rfl) rfl ?_) | (refine aK ?_;  first | refine aF ?_ | refine aL ?_ | refine aM ?_ | refine aS ?_ | refine aC (b := true) rfl (fun _ => ?_) nTf | refine aC (b := false) rfl nFt (fun _ => ?_)) | (refine aJ ?_;  first | refine aU ?_ | refine aN ?_))
      all_goals first
        | (exfalso; omega)
        | (refine aO (by first | exact .inl rfl | exact .inr rfl) (aV rfl (aA rfl) (aA rfl)) rfl ?_; rfl)
    · rw [if_neg h1] at hR
      have hbad : ¬ (below l ∧ once l) → R = (.nil, 16) := fun h => by rw [hR, if_neg h]
      have hgood : below l ∧ once l → R = (growT l l.length (l.length - 1), 0) := fun h => by rw [hR, if_pos h]
      clear hR
      have hcz := aCx l.length
      have hlimit : ∀ m : List Int, m.length ≤ 67108864 → ∀ x, m.count x < 9223372036854775807 := fun m hm x => by
        have := List.count_le_length (l := m) (a := x)
        omega
      have hpre : ∀ i, (allK (l.take i)).length ≤ l.length * 8192 := fun i => Nat.le_trans (wN 8192 _ (fun c hc => hk c (List.mem_of_mem_take hc))) (Nat.mul_le_mul_right _ (by rw [List.length_take]; omega))
      refine aH Tryz.func11 rfl rfl (nb rfl) rfl ?_
      repeat' (first | refine aE ?_ | (refine aG ?_;  first | refine aB tabOk rfl rfl rfl (nb rfl) rfl ?_ | (refine aI rfl rfl rfl (nb rfl) rfl rfl rfl (fun hq => ?_) (fun hq => ?_) <;> (first | (simp only [sD, sE, sB, sC, sN, sM, sT, sF] at hq; try (exfalso; omega)) | skip)) | refine qM 600 tabOk rfl rfl rfl (nb rfl) rfl rfl rfl rfl rfl rfl rfl (by simp only [slMax]; omega) (by dsimp only; omega) (by simp) rfl rfl ?_ | refine aT tabOk rfl rfl (nb rfl) rfl ?_) | (refine aK ?_;  first | refine aF ?_ | refine aL ?_ | refine aR ?_ | refine aS ?_ | refine aC (b := false) rfl nFt (fun _ => ?_)) | (refine aJ ?_;  first | refine aU ?_))
      all_goals first | (exfalso; omega) | skip
      rw [hcz]
      refine bZ (ι := {i : Nat // i ≤ l.length ∧ ∀ j (h : j < l.length), j < i → ∀ x ∈ l[j].kids, 0 ≤ x ∧ x < (j : Int)}) (fun i => S.f ⟨[(6, .imm (.lit (.int .i64 (i.1 : Int)))), (5, .ref 600 l.length), (4, .imm (.lit (.int .i64 (l.length : Int)))), (1, .imm (.ptr [.sl false l.length (cellIVs l)] 0))], [(600, .arr 3 1 l.length (cntIVs l.length (allK (l.take i.1))))]⟩) (fun i => l.length - i.1) ⟨0, Nat.zero_le _, fun j h h2 => by omega⟩ (bT (by repeat' first | exact trivial | refine ⟨rfl, ?_⟩) (by repeat' first | exact trivial | refine ⟨rfl, ?_⟩)) ?_
      rintro ⟨i, hi, hpr⟩
      dsimp only
      by_cases hil : i < l.length
      · have hck := aBh hil
        have hki := hk _ (List.getElem_mem hil)
        have hstep := tL l i hil
        repeat' (first | refine aE ?_ | (refine aG ?_;  first | refine aB tabOk rfl rfl rfl (nb rfl) rfl ?_ | (refine aI rfl rfl rfl (nb rfl) rfl rfl rfl (fun hq => ?_) (fun hq => ?_) <;> (first | (simp only [sD, sE, sB, sC, sN, sM, sT, sF] at hq; try (exfalso; omega)) | skip))) | (refine aK ?_;  first | refine aF ?_ | refine aL ?_ | refine aR ?_ | refine aS ?_ | refine aC (b := true) rfl (fun _ => ?_) nTf) | (refine aJ ?_;  first | refine aU ?_))
        have e0 : cntIVs l.length (allK (l.take i)) = cntIVs l.length (allK (l.take i) ++ l[i].kids.take 0) := by rw [List.take_zero, List.append_nil]
        rw [e0]
        refine bZ (ι := {k : Nat // k ≤ l[i].kids.length ∧ ∀ x ∈ l[i].kids.take k, 0 ≤ x ∧ x < (i : Int)}) (fun k => S.f ⟨[(7, .imm (.lit (.int .i64 (k.1 : Int)))), (6, .imm (.lit (.int .i64 (i : Int)))), (5, .ref 600 l.length), (4, .imm (.lit (.int .i64 (l.length : Int)))), (1, .imm (.ptr [.sl false l.length (cellIVs l)] 0))], [(600, .arr 3 1 l.length (cntIVs l.length (allK (l.take i) ++ l[i].kids.take k.1)))]⟩) (fun k => l[i].kids.length - k.1) ⟨0, Nat.zero_le _, fun x hx => by rw [List.take_zero] at hx; cases hx⟩ (bT (by repeat' first | exact trivial | refine ⟨rfl, ?_⟩) (by repeat' first | exact trivial | refine ⟨rfl, ?_⟩)) ?_
        rintro ⟨k, hkk, hkr⟩
        dsimp only
        by_cases hkl : k < l[i].kids.length
        · have hix := rF l[i].kids k hkl
          have hbk := @aDA l i k hil hkl
          have hnx : l[i].kids.take (k + 1) = l[i].kids.take k ++ [l[i].kids[k]] := List.take_succ_eq_append_getElem hkl
          have hpk : (allK (l.take i) ++ l[i].kids.take k).length ≤ 67108864 := by
            have := hpre i
            have h2 : l.length * 8192 ≤ 8192 * 8192 := Nat.mul_le_mul_right _ (by omega)
            have h3 : allK (l.take (i + 1)) = allK (l.take i) ++ l[i].kids := hstep
            have h4 := hpre (i + 1)
            rw [h3, List.length_append] at h4
            rw [List.length_append, List.length_take]
            omega
          have hcl := hlimit _ hpk l[i].kids[k]
          by_cases hx : 0 ≤ l[i].kids[k] ∧ l[i].kids[k] < (i : Int)
          · have hg1 := aAn l.length (allK (l.take i) ++ l[i].kids.take k) l[i].kids[k] hx.1 (by omega)
            have hs1 := aDz l.length (allK (l.take i) ++ l[i].kids.take k) l[i].kids[k] hx.1 (by omega)
            have hxe : l[i].kids[k] = ((l[i].kids[k]).toNat : Int) := (Int.toNat_of_nonneg hx.1).symm
            have hxl : (l[i].kids[k]).toNat < l.length := by omega
            have hkr2 : ∀ x ∈ l[i].kids.take (k + 1), 0 ≤ x ∧ x < (i : Int) := fun x hm => by
              rw [hnx, List.mem_append] at hm
              rcases hm with hm | hm
              · exact hkr x hm
              · rw [List.mem_singleton.1 hm]; exact hx
            rw [List.append_assoc, ← hnx] at hs1
            generalize (allK (l.take i) ++ l[i].kids.take k).count l[i].kids[k] = cn at *
            repeat' (first | refine aE ?_ | (refine aG ?_;  first | refine aB tabOk rfl rfl rfl (nb rfl) rfl ?_ | (refine aI rfl rfl rfl (nb rfl) rfl rfl rfl (fun hq => ?_) (fun hq => ?_) <;> (first | (simp only [sD, sE, sB, sC, sN, sM, sT, sF] at hq; try (exfalso; omega)) | skip)) | refine bA tabOk rfl rfl rfl (nb rfl) rfl rfl rfl hck ?_ | refine bA tabOk rfl rfl rfl (nb rfl) rfl rfl rfl hix ?_ | refine fE tabOk rfl rfl rfl (nb rfl) rfl rfl rfl rfl rfl rfl hxe hxl ?_ | refine jN tabOk rfl rfl rfl (nb rfl) rfl rfl rfl rfl (by omega) hg1 ?_ | refine bO rfl rfl rfl (nb rfl) rfl rfl hcl ?_ | refine mT tabOk rfl rfl rfl rfl rfl rfl rfl rfl rfl rfl (by omega) (by show (l[i].kids[k]).toNat * 1 < l.length * 1; omega) ?_ | refine bO rfl rfl rfl (nb rfl) rfl rfl (by omega) ?_ | refine aT tabOk rfl rfl (nb rfl) rfl ?_ | refine bB tabOk rfl rfl rfl (nb rfl) rfl rfl rfl rfl (by first | assumption | omega) ?_) | (refine aK ?_;  first | refine aF ?_ | refine aL ?_ | refine bD ?_ | refine aR ?_ | refine aS ?_ | refine aC (b := true) rfl (fun _ => ?_) nTf | refine aC (b := false) rfl nFt (fun _ => ?_)) | (refine aJ ?_;  first | refine aU ?_) | (refine aP ?_;  first | refine bM ?_))
            all_goals first | (exfalso; omega) | skip
            refine ⟨⟨k + 1, hkl, hkr2⟩, (by show l[i].kids.length - (k + 1) < l[i].kids.length - k; omega), ?_⟩
            dsimp only
            rw [← hs1]
            exact (bT (by repeat' first | exact trivial | refine ⟨rfl, ?_⟩) (by repeat' first | exact trivial | refine ⟨rfl, ?_⟩))
          · have e := hbad (fun h => hbk (by omega) h.1)
            subst e
            repeat' (first | refine aE ?_ | (refine aG ?_;  first | refine aB tabOk rfl rfl rfl (nb rfl) rfl ?_ | refine bL rfl rfl (nb rfl) ?_ | (refine aI rfl rfl rfl (nb rfl) rfl rfl rfl (fun hq => ?_) (fun hq => ?_) <;> (first | (simp only [sD, sE, sB, sC, sN, sM, sT, sF] at hq; try (exfalso; omega)) | skip)) | refine bA tabOk rfl rfl rfl (nb rfl) rfl rfl rfl hck ?_ | refine bA tabOk rfl rfl rfl (nb rfl) rfl rfl rfl hix ?_ | refine aT tabOk rfl rfl (nb rfl) rfl ?_ | refine bB tabOk rfl rfl rfl (nb rfl) rfl rfl rfl rfl (by first | assumption | omega) ?_) | (refine aK ?_;  first | refine aF ?_ | refine aL ?_ | refine aR ?_ | refine aM ?_ | refine aS ?_ | refine aC (b := true) rfl (fun _ => ?_) nTf) | (refine aJ ?_;  first | refine aU ?_ | refine aN ?_) | (refine aP ?_;  first | refine aX ?_))
            all_goals first
              | (exfalso; omega)
              | (refine aO (by first | exact .inl rfl | exact .inr rfl) (aV rfl (aA rfl) (aA rfl)) rfl ?_; rfl)
        · have ek : k = l[i].kids.length := by omega
          subst ek
          rw [List.take_length] at *
          rw [← hstep]
          have hpr2 : ∀ j (h : j < l.length), j < i + 1 → ∀ x ∈ l[j].kids, 0 ≤ x ∧ x < (j : Int) := fun j h hj x hx => by
            rcases Nat.lt_or_ge j i with h2 | h2
            · exact hpr j h h2 x hx
            · have e : j = i := by omega
              subst e
              exact hkr x hx
          repeat' (first | refine aE ?_ | (refine aG ?_;  first | refine aB tabOk rfl rfl rfl (nb rfl) rfl ?_ | (refine aI rfl rfl rfl (nb rfl) rfl rfl rfl (fun hq => ?_) (fun hq => ?_) <;> (first | (simp only [sD, sE, sB, sC, sN, sM, sT, sF] at hq; try (exfalso; omega)) | skip)) | refine bA tabOk rfl rfl rfl (nb rfl) rfl rfl rfl hck ?_ | refine bO rfl rfl rfl (nb rfl) rfl rfl (by omega) ?_ | refine aT tabOk rfl rfl (nb rfl) rfl ?_ | refine bB tabOk rfl rfl rfl (nb rfl) rfl rfl rfl rfl (by first | assumption | omega) ?_) | (refine aK ?_;  first | refine aF ?_ | refine aL ?_ | refine bD ?_ | refine bQ ?_ | refine aC (b := false) rfl nFt (fun _ => ?_)) | (refine aJ ?_;  first | refine aU ?_ | refine bH ?_) | (refine aP ?_;  first | refine bM ?_ | refine bE ?_))
          all_goals first
            | (exfalso; omega)
            | exact ⟨⟨i + 1, hil, hpr2⟩, (by show l.length - (i + 1) < l.length - i; omega), (bT (by repeat' first | exact trivial | refine ⟨rfl, ?_⟩) (by repeat' first | exact trivial | refine ⟨rfl, ?_⟩))⟩
      · have ei : i = l.length := by omega
        subst ei
        have hbl : below l := fun j h x hx => hpr j h h x hx
        rw [List.take_length]
        repeat' (first | refine aE ?_ | (refine aG ?_;  first | refine aB tabOk rfl rfl rfl (nb rfl) rfl ?_ | (refine aI rfl rfl rfl (nb rfl) rfl rfl rfl (fun hq => ?_) (fun hq => ?_) <;> (first | (simp only [sD, sE, sB, sC, sN, sM, sT, sF] at hq; try (exfalso; omega)) | skip))) | (refine aK ?_;  first | refine aF ?_ | refine aL ?_ | refine aR ?_ | refine bQ ?_ | refine aC (b := false) rfl nFt (fun _ => ?_)) | (refine aJ ?_;  first | refine aU ?_ | refine bH ?_) | (refine aP ?_;  first | refine bE ?_))
        refine bZ (ι := {j : Nat // j ≤ l.length - 1 ∧ ∀ q : Nat, q < j → (allK l).count (q : Int) = 1}) (fun j => S.f ⟨[(9, .imm (.lit (.int .i64 (j.1 : Int)))), (5, .ref 600 l.length), (4, .imm (.lit (.int .i64 (l.length : Int)))), (1, .imm (.ptr [.sl false l.length (cellIVs l)] 0))], [(600, .arr 3 1 l.length (cntIVs l.length (allK l)))]⟩) (fun j => l.length - j.1) ⟨0, Nat.zero_le _, fun q h => by omega⟩ (bT (by repeat' first | exact trivial | refine ⟨rfl, ?_⟩) (by repeat' first | exact trivial | refine ⟨rfl, ?_⟩)) ?_
        rintro ⟨j, hj, hone⟩
        dsimp only
        by_cases hjl : j < l.length - 1
        · have hg1 : (cntIVs l.length (allK l))[j * 1]? = some (.lit (.int .i64 (((allK l).count (j : Int) : Nat) : Int))) := aAn l.length (allK l) (j : Int) (by omega) (by omega)
          by_cases hc1 : (allK l).count (j : Int) = 1
          · rw [hc1] at hg1
            have hone2 : ∀ q : Nat, q < j + 1 → (allK l).count (q : Int) = 1 := fun q hq => by
              rcases Nat.lt_or_ge q j with h2 | h2
              · exact hone q h2
              · have e : q = j := by omega
                subst e
                exact hc1
            repeat' (first | refine aE ?_ | (refine aG ?_;  first | refine aB tabOk rfl rfl rfl (nb rfl) rfl ?_ | (refine aI rfl rfl rfl (nb rfl) rfl rfl rfl (fun hq => ?_) (fun hq => ?_) <;> (first | (simp only [sD, sE, sB, sC, sN, sM, sT, sF] at hq; try (exfalso; omega)) | skip)) | refine fE tabOk rfl rfl rfl (nb rfl) rfl rfl rfl rfl rfl rfl rfl (by omega) ?_ | refine jN tabOk rfl rfl rfl (nb rfl) rfl rfl rfl rfl (by omega) hg1 ?_ | refine bO rfl rfl rfl (nb rfl) rfl rfl (by omega) ?_ | refine cF rfl rfl rfl (nb rfl) rfl rfl rfl (by omega) (by omega) ?_) | (refine aK ?_;  first | refine aF ?_ | refine aL ?_ | refine bD ?_ | refine aR ?_ | refine aS ?_ | refine aC (b := true) rfl (fun _ => ?_) nTf | refine aC (b := false) rfl nFt (fun _ => ?_)) | (refine aJ ?_;  first | refine aU ?_) | (refine aP ?_;  first | refine bM ?_))
            all_goals first
              | (exfalso; omega)
              | exact absurd rfl (by assumption)
              | exact ⟨⟨j + 1, hjl, hone2⟩, (by show l.length - (j + 1) < l.length - j; omega), (bT (by repeat' first | exact trivial | refine ⟨rfl, ?_⟩) (by repeat' first | exact trivial | refine ⟨rfl, ?_⟩))⟩
          · have e := hbad (fun h => hc1 (h.2 j hjl))
            subst e
            repeat' (first | refine aE ?_ | (refine aG ?_;  first | refine aB tabOk rfl rfl rfl (nb rfl) rfl ?_ | (refine aI rfl rfl rfl (nb rfl) rfl rfl rfl (fun hq => ?_) (fun hq => ?_) <;> (first | (simp only [sD, sE, sB, sC, sN, sM, sT, sF] at hq; try (exfalso; omega)) | skip)) | refine fE tabOk rfl rfl rfl (nb rfl) rfl rfl rfl rfl rfl rfl rfl (by omega) ?_ | refine jN tabOk rfl rfl rfl (nb rfl) rfl rfl rfl rfl (by omega) hg1 ?_ | refine cF rfl rfl rfl (nb rfl) rfl rfl rfl (by omega) (by omega) ?_) | (refine aK ?_;  first | refine aF ?_ | refine aL ?_ | refine aR ?_ | refine aM ?_ | refine aS ?_ | refine aC (b := true) rfl (fun _ => ?_) nTf) | (refine aJ ?_;  first | refine aU ?_ | refine aN ?_) | (refine aP ?_;  first | refine aX ?_))
            all_goals first
              | (exfalso; omega)
              | (refine aO (by first | exact .inl rfl | exact .inr rfl) (aV rfl (aA rfl) (aA rfl)) rfl ?_; rfl)
        · have ej : j = l.length - 1 := by omega
          subst ej
          have e := hgood ⟨hbl, hone⟩
          subst e
          have hcall := aEc l hbl (by omega) hk l.length (l.length - 1) (by omega) (by omega)
          repeat' (first | refine aE ?_ | (refine aG ?_;  first | refine aB tabOk rfl rfl rfl (nb rfl) rfl ?_ | (refine aI rfl rfl rfl (nb rfl) rfl rfl rfl (fun hq => ?_) (fun hq => ?_) <;> (first | (simp only [sD, sE, sB, sC, sN, sM, sT, sF] at hq; try (exfalso; omega)) | skip)) | refine cF (z := ((l.length - 1 : Nat) : Int)) rfl rfl rfl (nb rfl) rfl rfl (by omega) (by omega) (by omega) ?_ | refine aD rfl rfl (nb rfl) rfl rfl rfl rfl (hcall) ?_) | (refine aK ?_;  first | refine aF ?_ | refine aL ?_ | refine aM ?_ | refine bQ ?_ | refine aC (b := false) rfl nFt (fun _ => ?_)) | (refine aJ ?_;  first | refine aU ?_ | refine bH ?_) | (refine aP ?_;  first | refine bE ?_))
          all_goals first
            | (exfalso; omega)
            | (refine aO (by first | exact .inl rfl | exact .inr rfl) (aV rfl (aA rfl) (aA rfl)) rfl ?_; rfl)
end Go.Proofs.YtocaohipfiapkaaGreatDoor.Ab
namespace Go.Proofs.YtocaohipfiapkaaGreatDoor.Ab
set_option linter.unusedVariables false
set_option linter.unusedSimpArgs false
open Go.RowKit
attribute [local irreducible] AWP AOps AExit AThen ABlock ANoGoto FeetOk
theorem jV (n K : Nat) : (if (K : Int) < (n : Int) then (K : Int) else (n : Int)) = ((min n K : Nat) : Int) := by split <;> omega
def cutB (K : Nat) (s : ByteArray) : ByteArray := s.extract 0 (min s.size K)
theorem tM (K : Nat) (s : ByteArray) : (cutB K s).size ≤ K := by unfold cutB; rw [ByteArray.size_extract]; omega
def fewCell (c : CellD) : CellD := ⟨decide (c.kids.length = 0), c.k, c.n, cutB 165 c.a, cutB 20 c.b, c.kids.take 12⟩
theorem aCy (l : List Int) : IV.sl false (min l.length 12 - 0) (((intIVs l).drop (0 * 1)).take ((min l.length 12 - 0) * 1)) = .sl false (l.take 12).length (intIVs (l.take 12)) := by
  unfold intIVs
  rw [Nat.zero_mul, List.drop_zero, Nat.sub_zero, Nat.mul_one, List.length_take, List.map_take, Nat.min_comm]
  congr 1
  conv => rhs; rw [List.take_eq_take_min, List.length_map]
theorem uX (l : List CellD) (c : CellD) : cellIVs (l ++ [c]) = cellIVs l ++ cellIV c := by
  rw [oW]
  show _ ++ (cellIV c ++ []) = _
  rw [List.append_nil]
def fewCells10 (l : List CellD) : List CellD := (l.take 60).map fewCell
set_option maxHeartbeats 16000000 in
set_option maxRecDepth 10000 in
theorem wO (l : List CellD) (hff : ∀ c ∈ l, c.f = false) : ACalls Tryz.prog 4 [.imm (.agg [.sl false l.length (cellIVs l)])] [] (.imm (openR (fewCells10 l)).1.iv) [] := by
  have hkids : ∀ c ∈ fewCells10 l, c.kids.length ≤ 8192 := fun c hc => by
    unfold fewCells10 at hc
    obtain ⟨d, _, rfl⟩ := List.mem_map.1 hc
    show (d.kids.take 12).length ≤ 8192
    rw [List.length_take]; omega
  have hopen := aEd (fewCells10 l) hkids
  refine aH Tryz.func4 rfl rfl (nb rfl) rfl ?_
  repeat' (first | refine aE ?_ | (refine aG ?_;  first | refine aB tabOk rfl rfl rfl (nb rfl) rfl ?_ | refine aT tabOk rfl rfl (nb rfl) rfl ?_ | refine cL tabOk rfl rfl rfl (nb rfl) rfl rfl rfl rfl rfl rfl ?_) | (refine aK ?_;  first | refine aF ?_ | refine aL ?_ | refine aR ?_))
  refine cP (fH (h0 := 3) (k0 := 0) 500 39 5 rfl rfl (by simp) rfl rfl) ?_
  refine bZ (ι := {i : Nat // i ≤ l.length ∧ i ≤ 60}) (fun i => S.f ⟨[(4, .imm (.lit (.int .i64 (i.1 : Int)))), (3, .obj 3 0), (1, .imm (.ptr [.sl false l.length (cellIVs l)] 0))], [(500, .arr 39 5 i.1 (cellIVs ((l.take i.1).map fewCell))), (3, .cells [.ref 500 i.1])]⟩) (fun i => l.length - i.1) ⟨0, Nat.zero_le _, Nat.zero_le _⟩ (bT (by repeat' first | exact trivial | refine ⟨rfl, ?_⟩) (by repeat' first | exact trivial | refine ⟨rfl, ?_⟩)) ?_
  rintro ⟨i, hi, hiK⟩
  dsimp only
  by_cases hgo : i < l.length ∧ i < 60
  · obtain ⟨hil, hik⟩ := hgo
    have hrow := gQ l i hil
    have hcf := hff l[i] (List.getElem_mem hil)
    have hnx : cellIVs ((l.take (i + 1)).map fewCell) = cellIVs ((l.take i).map fewCell) ++ cellIV (fewCell l[i]) := by
      rw [List.take_succ_eq_append_getElem hil, List.map_append, List.map_singleton, uX]
    generalize l[i] = c at *
    change _ = [IV.lit (.int .i64 c.k), .lit (.int .i64 c.n), .lit (.string c.a), .lit (.string c.b), .sl c.f c.kids.length (intIVs c.kids)] at hrow
    rw [hcf] at hrow
    have hkc := aCy c.kids
    by_cases hz : c.kids.length = 0
    · have hk0 : c.kids = [] := List.eq_nil_of_length_eq_zero hz
      have hfc : cellIV (fewCell c) = [IV.lit (.int .i64 c.k), .lit (.int .i64 c.n), .lit (.string (cutB 165 c.a)), .lit (.string (cutB 20 c.b)), .sl true 0 []] := by
        unfold fewCell cellIV
        rw [hk0]
        rfl
      rw [hk0] at hrow hkc
      rw [hfc] at hnx
      repeat' (first | refine aE ?_ | (refine aG ?_;  first | refine aB tabOk rfl rfl rfl (nb rfl) rfl ?_ | (refine aI rfl rfl rfl (nb rfl) rfl rfl rfl (fun hq => ?_) (fun hq => ?_) <;> (first | (simp only [sD, sE, sB, sC, sN, sM, sT, sF] at hq; try (exfalso; omega)) | skip)) | refine lQ tabOk rfl rfl rfl (nb rfl) rfl rfl rfl hrow rfl ?_ | refine hZ rfl rfl rfl (nb rfl) rfl rfl (jV c.a.size 165) ?_ | refine hZ rfl rfl rfl (nb rfl) rfl rfl (jV c.b.size 20) ?_ | refine hZ (r := 0) rfl rfl rfl (nb rfl) rfl rfl rfl ?_ | refine mQ (l := 0) (h := min c.a.size 165) (r := cutB 165 c.a) tabOk rfl rfl rfl (nb rfl) rfl rfl rfl rfl (by omega) (by omega) rfl ?_ | refine mQ (l := 0) (h := min c.b.size 20) (r := cutB 20 c.b) tabOk rfl rfl rfl (nb rfl) rfl rfl rfl rfl (by omega) (by omega) rfl ?_ | refine eK (l := 0) (h := 0) tabOk rfl rfl rfl (nb rfl) rfl rfl rfl rfl rfl (Nat.le_refl _) (Nat.zero_le _) rfl ?_ | refine uQ tabOk rfl rfl rfl (nb rfl) rfl rfl rfl rfl ?_ | refine cI tabOk rfl rfl rfl (nb rfl) rfl rfl rfl rfl rfl rfl rfl (by first | omega | decide) rfl (by first | omega | (dsimp only; omega)) (by first | omega | (dsimp only; omega)) ?_ | refine bO rfl rfl rfl (nb rfl) rfl rfl (by omega) ?_ | refine bS tabOk rfl rfl rfl (nb rfl) rfl rfl rfl rfl rfl rfl rfl rfl rfl ?_ | refine aT tabOk rfl rfl (nb rfl) rfl ?_ | refine cL tabOk rfl rfl rfl (nb rfl) rfl rfl rfl rfl rfl rfl ?_ | refine bK tabOk rfl rfl rfl (nb rfl) rfl rfl rfl rfl ?_ | refine bG tabOk rfl rfl rfl rfl rfl rfl rfl rfl rfl rfl rfl ?_ | refine bB tabOk rfl rfl rfl (nb rfl) rfl rfl rfl rfl (by first | assumption | omega) ?_) | (refine aK ?_;  first | refine aF ?_ | refine aL ?_ | refine bD ?_ | refine aR ?_ | refine aS ?_ | refine aC (b := true) rfl (fun _ => ?_) nTf | refine aQ mixed (by kernel_rfl) ?_) | (refine aJ ?_;  first | refine aU ?_) | (refine aP ?_;  first | refine bM ?_) | refine bC (aZ (by kernel_rfl)) ?_)
      refine ⟨⟨i + 1, hil, hik⟩, (by show l.length - (i + 1) < l.length - i; omega), ?_⟩
      dsimp only
      rw [hnx]
      exact (bT (by repeat' first | exact trivial | refine ⟨rfl, ?_⟩) (by repeat' first | exact trivial | refine ⟨rfl, ?_⟩))
    · have hfc : cellIV (fewCell c) = [IV.lit (.int .i64 c.k), .lit (.int .i64 c.n), .lit (.string (cutB 165 c.a)), .lit (.string (cutB 20 c.b)), .sl false (0 + (c.kids.take 12).length) (intIVs (c.kids.take 12))] := by
        unfold fewCell cellIV
        dsimp only
        rw [decide_eq_false hz, Nat.zero_add]
      have hkl : 0 < (c.kids.take 12).length := by rw [List.length_take]; omega
      have hkl2 : (c.kids.take 12).length ≤ 12 := by rw [List.length_take]; omega
      have hil2 := yZ (c.kids.take 12)
      rw [hfc] at hnx
      repeat' (first | refine aE ?_ | (refine aG ?_;  first | refine aB tabOk rfl rfl rfl (nb rfl) rfl ?_ | (refine aI rfl rfl rfl (nb rfl) rfl rfl rfl (fun hq => ?_) (fun hq => ?_) <;> (first | (simp only [sD, sE, sB, sC, sN, sM, sT, sF] at hq; try (exfalso; omega)) | skip)) | refine lQ tabOk rfl rfl rfl (nb rfl) rfl rfl rfl hrow rfl ?_ | refine hZ rfl rfl rfl (nb rfl) rfl rfl (jV c.a.size 165) ?_ | refine hZ rfl rfl rfl (nb rfl) rfl rfl (jV c.b.size 20) ?_ | refine mQ (l := 0) (h := min c.a.size 165) (r := cutB 165 c.a) tabOk rfl rfl rfl (nb rfl) rfl rfl rfl rfl (by omega) (by omega) rfl ?_ | refine mQ (l := 0) (h := min c.b.size 20) (r := cutB 20 c.b) tabOk rfl rfl rfl (nb rfl) rfl rfl rfl rfl (by omega) (by omega) rfl ?_ | refine hZ rfl rfl rfl (nb rfl) rfl rfl (jV c.kids.length 12) ?_ | refine eK (l := 0) (h := min c.kids.length 12) tabOk rfl rfl rfl (nb rfl) rfl rfl rfl rfl rfl (Nat.zero_le _) (by omega) hkc ?_ | refine pM (zs := intIVs (c.kids.take 12)) tabOk rfl rfl rfl (nb rfl) rfl rfl rfl rfl (.inl rfl) rfl rfl hkl (by rw [hil2]; exact (Nat.mul_one _).symm) (by omega) (by dsimp only; omega) rfl ?_ | refine cI tabOk rfl rfl rfl (nb rfl) rfl rfl rfl rfl rfl rfl rfl (by first | omega | decide) rfl (by first | omega | (dsimp only; omega)) (by first | omega | (dsimp only; omega)) ?_ | refine bO rfl rfl rfl (nb rfl) rfl rfl (by omega) ?_ | refine bS tabOk rfl rfl rfl (nb rfl) rfl rfl rfl rfl rfl rfl rfl rfl rfl ?_ | refine aT tabOk rfl rfl (nb rfl) rfl ?_ | refine cL tabOk rfl rfl rfl (nb rfl) rfl rfl rfl rfl rfl rfl ?_ | refine bK tabOk rfl rfl rfl (nb rfl) rfl rfl rfl rfl ?_ | refine bG tabOk rfl rfl rfl rfl rfl rfl rfl rfl rfl rfl rfl ?_ | refine bB tabOk rfl rfl rfl (nb rfl) rfl rfl rfl rfl (by first | assumption | omega) ?_) | (refine aK ?_;  first | refine aF ?_ | refine aL ?_ | refine bD ?_ | refine aR ?_ | refine aS ?_ | refine aC (b := true) rfl (fun _ => ?_) nTf | refine aQ mixed (by kernel_rfl) ?_) | (refine aJ ?_;  first | refine aU ?_) | (refine aP ?_;  first | refine bM ?_) | refine bC (aZ (by kernel_rfl)) ?_)
      refine ⟨⟨i + 1, hil, hik⟩, (by show l.length - (i + 1) < l.length - i; omega), ?_⟩
      dsimp only
      rw [hnx]
      exact (bT (by repeat' first | exact trivial | refine ⟨rfl, ?_⟩) (by repeat' first | exact trivial | refine ⟨rfl, ?_⟩))
  · have htk : (l.take i).map fewCell = fewCells10 l := by
      unfold fewCells10
      congr 1
      by_cases hK : i = 60
      · rw [hK]
      · rw [List.take_of_length_le (by omega), List.take_of_length_le (by omega)]
    have hfl : i = (fewCells10 l).length := by rw [← htk, List.length_map, List.length_take]; omega
    rw [htk]
    refine cP ((Imp.of_le (σ' := S.f ⟨[(4, .imm (.lit (.int .i64 (i : Int)))), (3, .obj 3 0), (1, .imm (.ptr [.sl false l.length (cellIVs l)] 0))], [(500, .arr 39 5 (fewCells10 l).length (cellIVs (fewCells10 l))), (3, .cells [.ref 500 (fewCells10 l).length])]⟩) (by rw [← hfl]; exact (bT (by repeat' first | exact trivial | refine ⟨rfl, ?_⟩) (by repeat' first | exact trivial | refine ⟨rfl, ?_⟩)))).trans (cM (g := 500) rfl (by repeat' first | exact trivial | exact fun _ => rfl | refine ⟨?_, ?_⟩) (by repeat' first | exact trivial | exact fun _ => rfl | refine ⟨?_, ?_⟩))) ?_
    generalize fewCells10 l = L at *
    generalize openR L = R at *
    obtain ⟨R1, R2⟩ := R
    dsimp only at *
    repeat' (first | refine aE ?_ | (refine aG ?_;  first | refine aB tabOk rfl rfl rfl (nb rfl) rfl ?_ | refine bL rfl rfl (nb rfl) ?_ | (refine aI rfl rfl rfl (nb rfl) rfl rfl rfl (fun hq => ?_) (fun hq => ?_) <;> (first | (simp only [sD, sE, sB, sC, sN, sM, sT, sF] at hq; try (exfalso; omega)) | skip)) | refine aD rfl rfl (nb rfl) rfl rfl rfl rfl (hopen) ?_ | refine aT tabOk rfl rfl (nb rfl) rfl ?_ | refine bK tabOk rfl rfl rfl (nb rfl) rfl rfl rfl rfl ?_) | (refine aK ?_;  first | refine aF ?_ | refine aL ?_ | refine aM ?_ | refine bQ ?_ | refine aC (b := false) rfl nFt (fun _ => ?_)) | (refine aJ ?_;  first | refine aU ?_ | refine bH ?_) | (refine aP ?_;  first | refine bE ?_))
    all_goals first
      | exact cW (by first | exact .inl rfl | exact .inr rfl) (aW rfl (aA rfl)) rfl
      | (exfalso; omega)
end Go.Proofs.YtocaohipfiapkaaGreatDoor.Ab
namespace Go.Proofs.YtocaohipfiapkaaGreatDoor.Ab
set_option linter.unusedVariables false
set_option linter.unusedSimpArgs false
open Go.RowKit
theorem rG (l : List CellD) (hb : below l) : ∀ (f f' i : Nat), i < f → i < f' → i < l.length → growT l f i = growT l f' i
  | 0, _, _, h, _, _ => by omega
  | f + 1, 0, _, _, h, _ => by omega
  | f + 1, f' + 1, i, h, h', hi => by
    rw [growT, growT, List.getElem?_eq_getElem hi]
    dsimp only
    congr 1
    refine List.map_congr_left fun x hx => ?_
    have := hb i hi x hx
    exact rG l hb f f' x.toNat (by omega) (by omega) (by omega)
theorem oX (l : List CellD) (hb : below l) : ∀ (f i : Nat), i < f → i < l.length → (growT l f i).whole = true
  | 0, _, h, _ => by omega
  | f + 1, i, h, hi => by
    rw [growT, List.getElem?_eq_getElem hi]
    show Tree.wholes (List.map _ _) = true
    have key : ∀ ks : List Int, (∀ x ∈ ks, 0 ≤ x ∧ x < (i : Int)) → Tree.wholes (ks.map fun x => growT l f x.toNat) = true := by
      intro ks
      induction ks with
      | nil => intro _; rfl
      | cons x ks ih =>
        intro hk
        have hx := hk x List.mem_cons_self
        rw [List.map_cons, Tree.wholes, oX l hb f x.toNat (by omega) (by omega), ih (fun y hy => hk y (List.mem_cons_of_mem _ hy))]
        rfl
    exact key _ (hb i hi)
theorem tN : ∀ ts : List Tree, Tree.sizes ts = (ts.map Tree.size).sum
  | [] => rfl
  | t :: ts => by rw [Tree.sizes, tN ts]; simp
theorem zB (l : List CellD) (hb : below l) (i : Nat) (hi : i < l.length) : (growT l l.length i).size = 1 + (l[i].kids.map fun x => (growT l l.length x.toNat).size).sum := by
  obtain ⟨f, hf⟩ : ∃ f, l.length = f + 1 := ⟨l.length - 1, by omega⟩
  conv => lhs; rw [hf]
  rw [growT, List.getElem?_eq_getElem hi]
  show 1 + Tree.sizes (List.map _ _) = _
  rw [tN, List.map_map]
  congr 2
  refine List.map_congr_left fun x hx => ?_
  have := hb i hi x hx
  show (growT l f x.toNat).size = _
  rw [rG l hb f l.length x.toNat (by omega) (by omega) (by omega)]
theorem aAo (l : List CellD) (hb : below l) : ∀ n, n ≤ l.length → ((List.range n).map fun i => (growT l l.length i).size).sum = n + ((allK (l.take n)).map fun x => (growT l l.length x.toNat).size).sum
  | 0, _ => by simp [allK]
  | n + 1, h => by
    rw [List.range_succ, List.map_append, List.sum_append, aAo l hb n (by omega), tL l n (by omega), List.map_append, List.sum_append, List.map_singleton, List.sum_singleton, zB l hb n (by omega)]
    omega
theorem aCz (l : List CellD) (x : Int) (h : x ∈ allK l) : ∃ i, ∃ hi : i < l.length, x ∈ l[i].kids := by
  induction l with
  | nil => cases h
  | cons c l ih =>
    rw [allK, List.mem_append] at h
    rcases h with h | h
    · exact ⟨0, by simp, h⟩
    · obtain ⟨i, hi, hx⟩ := ih h
      exact ⟨i + 1, by simpa using hi, by simpa using hx⟩
theorem aBi (l : List CellD) (hb : below l) (ho : once l) : List.Perm (allK l) ((List.range (l.length - 1)).map fun (j : Nat) => (j : Int)) := by
  rw [List.perm_iff_count]
  intro a
  by_cases h : 0 ≤ a ∧ a < ((l.length - 1 : Nat) : Int)
  · obtain ⟨j, rfl⟩ : ∃ j : Nat, a = (j : Int) := ⟨a.toNat, by omega⟩
    rw [ho j (by omega)]
    have hn : ((List.range (l.length - 1)).map fun (j : Nat) => (j : Int)).Nodup := by
      rw [List.nodup_iff_pairwise_ne, List.pairwise_map]
      exact List.nodup_range.imp (fun h1 h2 => h1 (by omega))
    rw [hn.count, if_pos]
    exact List.mem_map.2 ⟨j, List.mem_range.2 (by omega), rfl⟩
  · rw [List.count_eq_zero.2, List.count_eq_zero.2]
    · intro hm
      obtain ⟨j, hj, rfl⟩ := List.mem_map.1 hm
      rw [List.mem_range] at hj
      exact h ⟨by omega, by omega⟩
    · intro hm
      obtain ⟨i, hi, hx⟩ := aCz l a hm
      have := hb i hi a hx
      exact h ⟨this.1, by omega⟩
theorem aBj (l : List CellD) (hb : below l) (ho : once l) (h0 : 0 < l.length) : (growT l l.length (l.length - 1)).size = l.length := by
  have h1 := aAo l hb l.length (Nat.le_refl _)
  rw [List.take_length] at h1
  have h2 := ((aBi l hb ho).map (fun x => (growT l l.length x.toNat).size)).sum_nat
  rw [h2, List.map_map] at h1
  obtain ⟨n, hn⟩ : ∃ n, l.length = n + 1 := ⟨l.length - 1, by omega⟩
  have e : l.length - 1 = n := by omega
  rw [e] at h1 ⊢
  have h3 : (List.range l.length) = List.range n ++ [n] := by rw [hn, List.range_succ]
  rw [h3, List.map_append, List.sum_append, List.map_singleton, List.sum_singleton] at h1
  have h4 : ((fun x : Int => (growT l l.length x.toNat).size) ∘ fun (j : Nat) => (j : Int)) = fun i => (growT l l.length i).size := rfl
  rw [h4] at h1
  omega
theorem wP (l : List CellD) (A B : Nat) (hb : below l) (hc : ∀ c ∈ l, c.a.size ≤ A ∧ c.b.size ≤ B) : ∀ (f i : Nat), i < f → i < l.length → (growT l f i).wt ≤ (1 + A + B) * (growT l f i).size
  | 0, _, h, _ => by omega
  | f + 1, i, h, hi => by
    rw [growT, List.getElem?_eq_getElem hi]
    dsimp only
    have h1 := hc l[i] (List.getElem_mem hi)
    have key : ∀ ks : List Int, (∀ x ∈ ks, 0 ≤ x ∧ x < (i : Int)) → Tree.wts (ks.map fun x => growT l f x.toNat) ≤ (1 + A + B) * Tree.sizes (ks.map fun x => growT l f x.toNat) := by
      intro ks
      induction ks with
      | nil => intro _; exact Nat.zero_le _
      | cons x ks ih =>
        intro hk
        have hx := hk x List.mem_cons_self
        have h2 := wP l A B hb hc f x.toNat (by omega) (by omega)
        have h3 := ih (fun y hy => hk y (List.mem_cons_of_mem _ hy))
        rw [List.map_cons, Tree.wts, Tree.sizes, Nat.mul_add]
        omega
    have h4 := key _ (hb i hi)
    rw [Tree.wt, Tree.size, Nat.mul_add]
    omega
theorem zC (L : List CellD) (A B : Nat) (hc : ∀ c ∈ L, c.a.size ≤ A ∧ c.b.size ≤ B) : (openR L).1 = .nil ∨ ((openR L).1.whole = true ∧ (openR L).1.size ≤ L.length ∧ (openR L).1.wt ≤ (1 + A + B) * L.length) := by
  unfold openR
  split
  · exact .inl rfl
  · split
    · exact .inl rfl
    · split
      · rename_i h0 h1 h
        obtain ⟨hb, ho⟩ := h
        have hs := aBj L hb ho (by omega)
        have hw := wP L A B hb hc L.length (L.length - 1) (by omega) (by omega)
        rw [hs] at hw
        exact .inr ⟨oX L hb _ _ (by omega) (by omega), by rw [hs]; exact Nat.le_refl _, hw⟩
      · exact .inl rfl
theorem aCA (K : Nat) (l : List CellD) : ∀ c ∈ (l.take K).map fewCell, c.a.size ≤ 165 ∧ c.b.size ≤ 20 := fun c hc => by
  obtain ⟨d, _, rfl⟩ := List.mem_map.1 hc
  exact ⟨tM _ _, tM _ _⟩
theorem zD (l : List CellD) (hff : ∀ c ∈ l, c.f = false) : ∃ t : Tree, (t = .nil ∨ (t.whole = true ∧ t.size ≤ 60 ∧ t.wt ≤ 11160)) ∧ ACalls Tryz.prog 4 [.imm (.agg [.sl false l.length (cellIVs l)])] [] (.imm t.iv) [] := by
  refine ⟨_, ?_, wO l hff⟩
  rcases zC (fewCells10 l) 165 20 (aCA 60 l) with h | ⟨h1, h2, h3⟩
  · exact .inl h
  · have hl : (fewCells10 l).length ≤ 60 := by unfold fewCells10; rw [List.length_map, List.length_take]; omega
    exact .inr ⟨h1, by omega, by omega⟩
abbrev tyCell : Ty := .struct [.int .i64, .int .i64, .string, .string, .slice (.int .i64)]
abbrev tyTree : Ty := .struct [.slice tyCell]
theorem tO : ∀ (xs : List (List IV)), (∀ x ∈ xs, Fits (.int .i64) x) → ∃ l : List Int, l.length = xs.length ∧ xs.flatten = intIVs l
  | [], h => ⟨[], rfl, rfl⟩
  | x :: xs, h => by
    obtain ⟨l, h1, h2⟩ := tO xs (fun y hy => h y (List.mem_cons_of_mem _ hy))
    cases h x List.mem_cons_self with
    | int k n hn => exact ⟨n :: l, by simp [h1], by rw [List.flatten_cons, h2]; rfl⟩
theorem aBk {x : List IV} (h : Fits tyCell x) : ∃ c : CellD, c.f = false ∧ x = cellIV c := by
  cases h with
  | struct fs xs h =>
    cases h with
    | cons t ts x xs h1 h =>
      cases h1 with
      | int k n hn =>
        cases h with
        | cons t ts x xs h2 h =>
          cases h2 with
          | int k n2 hn2 =>
            cases h with
            | cons t ts x xs h3 h =>
              cases h3 with
              | string a ha =>
                cases h with
                | cons t ts x xs h4 h =>
                  cases h4 with
                  | string b hb =>
                    cases h with
                    | cons t ts x xs h5 h =>
                      cases h
                      cases h5 with
                      | slice e ys hy hys =>
                        obtain ⟨l, hl1, hl2⟩ := tO ys hys
                        refine ⟨⟨false, n, n2, a, b, l⟩, rfl, ?_⟩
                        rw [hl2, ← hl1]
                        rfl
theorem rH : ∀ (xs : List (List IV)), (∀ x ∈ xs, Fits tyCell x) → ∃ l : List CellD, l.length = xs.length ∧ xs.flatten = cellIVs l ∧ ∀ c ∈ l, c.f = false
  | [], h => ⟨[], rfl, rfl, fun c hc => by cases hc⟩
  | x :: xs, h => by
    obtain ⟨l, h1, h2, h3⟩ := rH xs (fun y hy => h y (List.mem_cons_of_mem _ hy))
    obtain ⟨c, hc, rfl⟩ := aBk (h x List.mem_cons_self)
    refine ⟨c :: l, by simp [h1], by rw [List.flatten_cons, h2]; rfl, fun d hd => ?_⟩
    rcases List.mem_cons.1 hd with rfl | hd
    · exact hc
    · exact h3 d hd
theorem aBl {x : IV} (h : FitsV tyTree x) : ∃ l : List CellD, x = .agg [.sl false l.length (cellIVs l)] ∧ ∀ c ∈ l, c.f = false := by
  obtain ⟨xs, rfl, h⟩ := h
  cases h with
  | struct fs xs h =>
    cases h with
    | cons t ts x xs h1 h =>
      cases h
      cases h1 with
      | slice e ys hy hys =>
        obtain ⟨l, h1, h2, h3⟩ := rH ys hys
        exact ⟨l, by rw [h2, ← h1]; rfl, h3⟩
end Go.Proofs.YtocaohipfiapkaaGreatDoor.Ab
namespace Go.Proofs.YtocaohipfiapkaaGreatDoor.Ab
set_option linter.unusedVariables false
set_option linter.unusedSimpArgs false
open Go.RowKit
attribute [local irreducible] AWP AOps AExit AThen ABlock ANoGoto FeetOk
instance : DecidableEq Tree := fun a b => decidable_of_iff (sameP a b = true) (nX a b)
abbrev lt : ByteArray := ⟨#[116, 58, 116]⟩
end Go.Proofs.YtocaohipfiapkaaGreatDoor.Ab
namespace Go.Proofs.YtocaohipfiapkaaGreatDoor.Ab
set_option linter.unusedVariables false
set_option linter.unusedSimpArgs false
open Go.RowKit
attribute [local irreducible] AWP AOps AExit AThen ABlock ANoGoto FeetOk
end Go.Proofs.YtocaohipfiapkaaGreatDoor.Ab
namespace Go.Proofs.YtocaohipfiapkaaGreatDoor.Ab
set_option linter.unusedVariables false
set_option linter.unusedSimpArgs false
open Go.RowKit
attribute [local irreducible] AWP AOps AExit AThen ABlock ANoGoto FeetOk
end Go.Proofs.YtocaohipfiapkaaGreatDoor.Ab
namespace Go.Proofs.YtocaohipfiapkaaGreatDoor.Ab
set_option linter.unusedVariables false
set_option linter.unusedSimpArgs false
open Go.RowKit
attribute [local irreducible] AWP AOps AExit AThen ABlock ANoGoto FeetOk
end Go.Proofs.YtocaohipfiapkaaGreatDoor.Ab
namespace Go.Proofs.YtocaohipfiapkaaGreatDoor.Ab
set_option linter.unusedVariables false
set_option linter.unusedSimpArgs false
open Go.RowKit
attribute [local irreducible] AWP AOps AExit AThen ABlock ANoGoto FeetOk
end Go.Proofs.YtocaohipfiapkaaGreatDoor.Ab
namespace Go.Proofs.YtocaohipfiapkaaGreatDoor.Ab
set_option linter.unusedVariables false
set_option linter.unusedSimpArgs false
open Go.RowKit
attribute [local irreducible] AWP AOps AExit AThen ABlock ANoGoto FeetOk
theorem tP (t : Tree) : t.whole = true → ∀ l : Int, (t.size : Int) ≤ l → wholeP t l = (0, l - t.size) := by
  induction t using Tree.ind with
  | h1 => intro h; simp [Tree.whole] at h
  | h2 k n a b kids ih =>
    intro h l hl
    have hz : (Tree.node k n a b kids).size = 1 + Tree.sizes kids := rfl
    rw [wholeP, if_neg (by omega)]
    have key : ∀ (ts : List Tree), (∀ t ∈ ts, t ∈ kids) → ∀ l : Int, (Tree.sizes ts : Int) ≤ l → wholePs ts l = (0, l - Tree.sizes ts) := by
      intro ts
      induction ts with
      | nil => intro _ l _; simp [wholePs, Tree.sizes]
      | cons x ts ihs =>
        intro hm l hl
        rw [Tree.sizes] at hl
        have hx := ih x (hm x List.mem_cons_self) (bF h (hm x List.mem_cons_self)) l (by omega)
        rw [wholePs, hx, if_pos rfl, ihs (fun t ht => hm t (List.mem_cons_of_mem _ ht)) _ (by omega), Tree.sizes]
        congr 1
        omega
    rw [key kids (fun t ht => ht) _ (by omega), hz]
    congr 1
    omega
theorem gB (form : Tree → Bool) (t : Tree) (h : t.whole = true) (hs : t.size ≤ 65536) : checkP form t = if form t = true then 0 else 16 := by
  unfold checkP
  rw [tP t h 65536 (by omega), if_pos rfl]
end Go.Proofs.YtocaohipfiapkaaGreatDoor.Ab
namespace Go.Proofs.YtocaohipfiapkaaGreatDoor.Ab
set_option linter.unusedVariables false
set_option linter.unusedSimpArgs false
open Go.RowKit
attribute [local irreducible] AWP AOps AExit AThen ABlock ANoGoto FeetOk
end Go.Proofs.YtocaohipfiapkaaGreatDoor.Ab
namespace Go.Proofs.YtocaohipfiapkaaGreatDoor.Ab
set_option linter.unusedVariables false
set_option linter.unusedSimpArgs false
open Go.RowKit
attribute [local irreducible] AWP AOps AExit AThen ABlock ANoGoto FeetOk
end Go.Proofs.YtocaohipfiapkaaGreatDoor.Ab
namespace Go.Proofs.YtocaohipfiapkaaGreatDoor.Ab
set_option linter.unusedVariables false
set_option linter.unusedSimpArgs false
open Go.RowKit
attribute [local irreducible] AWP AOps AExit AThen ABlock ANoGoto FeetOk
end Go.Proofs.YtocaohipfiapkaaGreatDoor.Ab
namespace Go.Proofs.YtocaohipfiapkaaGreatDoor.Ab
set_option linter.unusedVariables false
set_option linter.unusedSimpArgs false
open Go.RowKit
attribute [local irreducible] AWP AOps AExit AThen ABlock ANoGoto FeetOk
section
variable {P : Program} {T : Tab} {keep : List Nat} {N : Nat} {ops : Array Oper} {K : List Foot → SF → Prop} {o : Oper} {rest : List Oper} {ks : List Foot} {s : List (Nat × AV)} {m : Mem} {d : Nat}
/-- A boxed value, by a name that was reserved. -/
theorem aBm (g : Nat) {t : Nat} {x : Operand} {y : AV} (ho : o.op = .box t x) (hw : wantedA ops o (S.f ⟨s, m⟩) = some true) (hd : o.dst = some d) (hN : d < N) (hx : (S.f ⟨s, m⟩).ev x = some y) (h1 : y.cells.all AV.one = true) (hg : m.get g = some .fut) (hy : (AV.namesL y.cells).contains g = false)
    {cs : List AV} (hcs : y.cells = cs) (k : AOps P keep N ops K rest (⟨[g], false, false⟩ :: ks) (S.f ⟨(d, .obj g 0) :: s, m.put g (.cells cs)⟩)) : AOps P keep N ops K (o :: rest) ks (S.f ⟨s, m⟩) := by
  subst hcs
  exact jJ hw hd hN (lO g ho hx h1 (by simpa using hy)).fut hg k
end
section
variable {σ : Type} (V : Int → Int → σ → Tree × σ) (B : σ → Prop)
theorem nY {k : Int} (n d : Int) (s : σ) {a b : ByteArray} (kids : List Tree) (hk : ¬ k = 110) : walkS V (.node k n a b kids) d s = (.node k n a b (walkSs V kids (d + bindsP k) s).1, (walkSs V kids (d + bindsP k) s).2) := by
  by_cases h : kids.length = 0
  · have e0 : kids = [] := List.eq_nil_of_length_eq_zero h
    subst e0
    rw [gH _ _ _ _ hk, gJ]
  · rw [gI _ _ _ _ hk h]
end
/-- What is told of what was made anew: it, or nil. -/
def told (R : Tree × Bool) : Tree := if R.2 = true then R.1 else .nil
end Go.Proofs.YtocaohipfiapkaaGreatDoor.Ab
namespace Go.Proofs.YtocaohipfiapkaaGreatDoor.Ab
set_option linter.unusedVariables false
set_option linter.unusedSimpArgs false
open Go.RowKit
attribute [local irreducible] AWP AOps AExit AThen ABlock ANoGoto FeetOk
end Go.Proofs.YtocaohipfiapkaaGreatDoor.Ab
namespace Go.Proofs.YtocaohipfiapkaaGreatDoor.Ab
set_option linter.unusedVariables false
set_option linter.unusedSimpArgs false
open Go.RowKit
attribute [local irreducible] AWP AOps AExit AThen ABlock ANoGoto FeetOk
mutual
/-- How often a variable stands in a tree, within so many binders. -/
def cntP (i : Int) : Tree → Int → Nat
  | .nil, _ => 0
  | .node k n _ _ kids, d => (if k = 110 ∧ d ≤ n ∧ n - d = i then 1 else 0) + cntPs i kids (d + bindsP k)
def cntPs (i : Int) : List Tree → Int → Nat
  | [], _ => 0
  | t :: ts, d => cntP i t d + cntPs i ts d
end
end Go.Proofs.YtocaohipfiapkaaGreatDoor.Ab
namespace Go.Proofs.YtocaohipfiapkaaGreatDoor.Ab
set_option linter.unusedVariables false
set_option linter.unusedSimpArgs false
open Go.RowKit
attribute [local irreducible] AWP AOps AExit AThen ABlock ANoGoto FeetOk
end Go.Proofs.YtocaohipfiapkaaGreatDoor.Ab
namespace Go.Proofs.YtocaohipfiapkaaGreatDoor.Ab
set_option linter.unusedVariables false
set_option linter.unusedSimpArgs false
open Go.RowKit
attribute [local irreducible] AWP AOps AExit AThen ABlock ANoGoto FeetOk
end Go.Proofs.YtocaohipfiapkaaGreatDoor.Ab
namespace Go.Proofs.YtocaohipfiapkaaGreatDoor.Ab
set_option linter.unusedVariables false
set_option linter.unusedSimpArgs false
open Go.RowKit
attribute [local irreducible] AWP AOps AExit AThen ABlock ANoGoto FeetOk
end Go.Proofs.YtocaohipfiapkaaGreatDoor.Ab
namespace Go.Proofs.YtocaohipfiapkaaGreatDoor.Ab
set_option linter.unusedVariables false
set_option linter.unusedSimpArgs false
/-- What is a signature, an abstract one, a functor's. -/
def tForm (t : Tree) : Prop := isSigP t = true ∨ isExP t = true ∨ isFunP t = true
theorem aCB {t : Tree} (h : sformP t = true) : tForm t := by
  unfold sformP at h
  simp only [Bool.or_eq_true] at h
  exact h
theorem uY {t : Tree} (h : isExP t = true) : ∃ n a b c, t = .node 164 n a b [c] ∧ 0 ≤ n ∧ n ≤ 8192 ∧ isSigP c = true := by
  cases t with
  | nil => simp [isExP] at h
  | node k n a b kids =>
    by_cases h1 : kids.length = 1
    · obtain ⟨c, rfl⟩ := one_of h1
      have hk := aBe h
      have hk : k = 164 := hk
      subst hk
      simp only [isExP, Bool.and_eq_true] at h
      have hn := tK h.1.2
      exact ⟨n, a, b, c, rfl, hn.1, hn.2, h.2⟩
    · rw [wG h1] at h; cases h
theorem wQ {t : Tree} (h : isFunP t = true) : ∃ n a b c e, t = .node 165 n a b [c, e] ∧ 0 ≤ n ∧ n ≤ 8192 ∧ isSigP c = true ∧ isExP e = true := by
  cases t with
  | nil => simp [isFunP] at h
  | node k n a b kids =>
    by_cases h1 : kids.length = 2
    · obtain ⟨c, e, rfl⟩ := two h1
      have hk := yY h
      have hk : k = 165 := hk
      subst hk
      simp only [isFunP, Bool.and_eq_true] at h
      have hn := tK h.1.2
      exact ⟨n, a, b, c, e, rfl, hn.1, hn.2, h.2.1, h.2.2⟩
    · rw [tJ h1] at h; cases h
theorem aBn (t : Tree) : t.whole = true → ∀ l : Int, (wholeP t l).1 = 0 ∨ (wholeP t l).1 = 3 := by
  induction t using Tree.ind with
  | h1 => intro h; simp [Tree.whole] at h
  | h2 k n a b kids ih =>
    intro hw l
    rw [wholeP]
    split
    · exact .inr rfl
    · have key : ∀ ls : List Tree, (∀ t ∈ ls, t ∈ kids) → ∀ l : Int, (wholePs ls l).1 = 0 ∨ (wholePs ls l).1 = 3 := by
        intro ls
        induction ls with
        | nil => intro _ l; rw [wholePs]; exact .inl rfl
        | cons t ts ih2 =>
          intro hm l
          rw [wholePs]
          split
          · exact ih2 (fun t' h' => hm t' (by simp [h'])) _
          · exact ih t (hm t (by simp)) (bF hw (hm t (by simp))) l
      exact key kids (fun _ h => h) _
theorem rI (t : Tree) (hw : t.whole = true) (l : Int) (hl : 0 ≤ l) (hs : l < t.size) : (wholeP t l).1 = 3 := by
  rcases aBn t hw l with h | h
  · have h1 := oQ t l hl h
    have h2 := fO t l hl h
    omega
  · exact h
theorem wR (t : Tree) (hw : t.whole = true) : sizedP t 0 = if (t.size : Int) > 65536 then (.nil, 3) else (t, 0) := by
  unfold sizedP
  rw [if_neg (by simp)]
  by_cases h : (t.size : Int) > 65536
  · rw [if_pos h, if_pos (by rw [rI t hw 65536 (by omega) h]; decide), rI t hw 65536 (by omega) h]
  · rw [if_neg h, if_neg (by rw [tP t hw 65536 (by omega)]; simp)]
end Go.Proofs.YtocaohipfiapkaaGreatDoor.Ab
namespace Go.Proofs.YtocaohipfiapkaaGreatDoor.Ab
set_option linter.unusedVariables false
set_option linter.unusedSimpArgs false
mutual
/-- A tree with other variables: g of their numbers and of the binders around. -/
def mapV (g : Int → Int → Int) : Tree → Int → Tree
  | .nil, _ => .nil
  | .node k n a b kids, d => if k = 110 then varT (g n d) else .node k n a b (mapVs g kids (d + bindsP k))
def mapVs (g : Int → Int → Int) : List Tree → Int → List Tree
  | [], _ => []
  | t :: ts, d => mapV g t d :: mapVs g ts d
end
mutual
/-- Does it hold of each variable? -/
def allV (p : Int → Int → Bool) : Tree → Int → Bool
  | .nil, _ => true
  | .node k n _ _ kids, d => if k = 110 then p n d else allVs p kids (d + bindsP k)
def allVs (p : Int → Int → Bool) : List Tree → Int → Bool
  | [], _ => true
  | t :: ts, d => allV p t d && allVs p ts d
end
theorem tQ (g : Int → Int → Int) (d : Int) : ∀ l : List Tree, mapVs g l d = l.map fun t => mapV g t d
  | [] => by rw [mapVs]; rfl
  | t :: ts => by rw [mapVs, tQ g d ts]; rfl
theorem tR (p : Int → Int → Bool) (d : Int) : ∀ l : List Tree, allVs p l d = l.all fun t => allV p t d
  | [] => by rw [allVs]; rfl
  | t :: ts => by rw [allVs, tR p d ts]; rfl
theorem eD (g : Int → Int → Int) {k n : Int} {a b : ByteArray} {kids : List Tree} (d : Int) (hk : ¬ k = 110) : mapV g (.node k n a b kids) d = .node k n a b (kids.map fun t => mapV g t (d + bindsP k)) := by rw [mapV, if_neg hk, tQ]
theorem jW (g : Int → Int → Int) {n : Int} {a b : ByteArray} {kids : List Tree} (d : Int) : mapV g (.node 110 n a b kids) d = varT (g n d) := by rw [mapV, if_pos rfl]
theorem eE (p : Int → Int → Bool) {k n : Int} {a b : ByteArray} {kids : List Tree} (d : Int) (hk : ¬ k = 110) : allV p (.node k n a b kids) d = kids.all fun t => allV p t (d + bindsP k) := by rw [allV, if_neg hk, tR]
theorem jX (p : Int → Int → Bool) {n : Int} {a b : ByteArray} {kids : List Tree} (d : Int) : allV p (.node 110 n a b kids) d = p n d := by rw [allV, if_pos rfl]
theorem zE (p : Int → Int → Bool) (g g' : Int → Int → Int) (t : Tree) : ∀ d, okVars t = true → allV p t d = true → (∀ n x, 0 ≤ n → n ≤ 65536 → d ≤ x → p n x = true → g n x = g' n x) → mapV g t d = mapV g' t d := by
  induction t using Tree.ind with
  | h1 => intro d h; simp [okVars] at h
  | h2 k n a b kids ih =>
    intro d hv hp hg
    by_cases hk : k = 110
    · subst hk
      obtain ⟨q1, q2, _⟩ := dV rfl hv
      rw [jX] at hp
      rw [jW, jW, hg n d q1 q2 (Int.le_refl _) hp]
    · rw [eE _ _ hk, List.all_eq_true] at hp
      have hvs := dP hk hv
      have hb := eY k
      rw [eD _ _ hk, eD _ _ hk]
      congr 1
      exact List.map_congr_left fun t ht => ih t ht _ (hvs t ht) (hp t ht) fun n x h1 h2 h3 h4 => hg n x h1 h2 (by omega) h4
theorem rJ (p q : Int → Int → Bool) (t : Tree) : ∀ d, okVars t = true → allV p t d = true → (∀ n x, 0 ≤ n → n ≤ 65536 → d ≤ x → p n x = true → q n x = true) → allV q t d = true := by
  induction t using Tree.ind with
  | h1 => intro d h; simp [okVars] at h
  | h2 k n a b kids ih =>
    intro d hv hp hg
    by_cases hk : k = 110
    · subst hk
      obtain ⟨q1, q2, _⟩ := dV rfl hv
      rw [jX] at hp ⊢
      exact hg n d q1 q2 (Int.le_refl _) hp
    · have hvs := dP hk hv
      have hb := eY k
      rw [eE _ _ hk, List.all_eq_true] at hp ⊢
      exact fun t ht => ih t ht _ (hvs t ht) (hp t ht) fun n x h1 h2 h3 h4 => hg n x h1 h2 (by omega) h4
theorem aDB (t : Tree) : ∀ d, okVars t = true → mapV (fun n _ => n) t d = t := by
  induction t using Tree.ind with
  | h1 => intro d h; simp [okVars] at h
  | h2 k n a b kids ih =>
    intro d hv
    by_cases hk : k = 110
    · obtain ⟨_, _, rfl, rfl, rfl⟩ := dV hk hv
      subst hk
      exact jW _ _
    · have hvs := dP hk hv
      rw [eD _ _ hk]
      congr 1
      conv => rhs; rw [← List.map_id kids]
      exact List.map_congr_left fun t ht => ih t ht _ (hvs t ht)
theorem aBo (g : Int → Int → Int) (t : Tree) (d : Int) (hk : t.kind ≠ 110) : (mapV g t d).name = t.name := by
  cases t with
  | nil => rw [mapV]
  | node k n a b kids =>
    have hk : ¬ k = 110 := hk
    rw [eD _ _ hk]; rfl
theorem rK (f : Tree → Tree) : ∀ l : List Tree, (∀ t ∈ l, (f t).name = t.name) → risingP (l.map f) = risingP l
  | [], _ => rfl
  | [t], _ => by simp [risingP]
  | t :: u :: r, h => by
    have ih := rK f (u :: r) fun t' h' => h t' (by simp [h'])
    rw [List.map_cons] at ih
    rw [List.map_cons, List.map_cons, risingP, risingP, h t (by simp), h u (by simp), ih]
theorem mY (f : Tree → Tree) : ∀ l : List Tree, (∀ t ∈ l, (f t).name = t.name) → distinctP (l.map f) = distinctP l
  | [], _ => rfl
  | t :: r, h => by
    have ih := mY f r fun t' h' => h t' (by simp [h'])
    have e : ((r.map f).any fun u => eqB u.name t.name) = (r.any fun u => eqB u.name t.name) := by
      rw [List.any_map]
      refine Bool.eq_iff_iff.2 ?_
      rw [List.any_eq_true, List.any_eq_true]
      exact ⟨fun ⟨u, h1, h2⟩ => ⟨u, h1, by have : eqB (f u).name t.name = true := h2; rwa [h u (by simp [h1])] at this⟩, fun ⟨u, h1, h2⟩ => ⟨u, h1, by show eqB (f u).name t.name = true; rw [h u (by simp [h1])]; exact h2⟩⟩
    rw [List.map_cons, distinctP, distinctP, h t (by simp), e, ih]
theorem aBp (g : Int → Int → Int) (t : Tree) : ∀ d, isKindP t = true → mapV g t d = t := by
  induction t using Tree.ind with
  | h1 => intro d h; simp [isKindP] at h
  | h2 k n a b kids ih =>
    intro d h
    rw [isKindP] at h
    by_cases k0 : k = 100
    · rw [if_pos k0, Bool.and_eq_true] at h
      have e0 : kids = [] := List.eq_nil_of_length_eq_zero (by simpa using h.2)
      subst e0
      rw [eD _ _ (by omega)]; rfl
    · rw [if_neg k0] at h
      by_cases k1 : k = 101
      · rw [if_pos k1, Bool.and_eq_true, dI] at h
        rw [eD _ _ (by omega)]
        congr 1
        conv => rhs; rw [← List.map_id kids]
        refine List.map_congr_left fun t ht => ih t ht _ ?_
        have := List.all_eq_true.1 h.2 (isKindP t) (List.mem_map.2 ⟨t, ht, rfl⟩)
        simpa using this
      · rw [if_neg k1] at h; cases h
theorem aBq (p : Int → Int → Bool) (t : Tree) : ∀ d, isKindP t = true → allV p t d = true := by
  induction t using Tree.ind with
  | h1 => intro d h; simp [isKindP] at h
  | h2 k n a b kids ih =>
    intro d h
    rw [isKindP] at h
    by_cases k0 : k = 100
    · rw [if_pos k0, Bool.and_eq_true] at h
      have e0 : kids = [] := List.eq_nil_of_length_eq_zero (by simpa using h.2)
      subst e0
      rw [eE _ _ (by omega)]; rfl
    · rw [if_neg k0] at h
      by_cases k1 : k = 101
      · rw [if_pos k1, Bool.and_eq_true, dI] at h
        rw [eE _ _ (by omega), List.all_eq_true]
        intro t ht
        refine ih t ht _ ?_
        have := List.all_eq_true.1 h.2 (isKindP t) (List.mem_map.2 ⟨t, ht, rfl⟩)
        simpa using this
      · rw [if_neg k1] at h; cases h
/-- A constructor stays one, where its variables stay within what may be. -/
theorem aCC (g : Int → Int → Int) (t : Tree) : ∀ d, isConP t = true → allV (fun n x => decide (0 ≤ g n x ∧ g n x ≤ 65536)) t d = true → isConP (mapV g t d) = true := by
  induction t using Tree.sind with
  | h t ih =>
    intro d h hp
    cases t with
    | nil => simp [isConP] at h
    | node k n a b kids =>
      rw [isConP, Bool.and_eq_true] at h
      obtain ⟨hb, h⟩ := h
      by_cases k0 : k = 110
      · subst k0
        rw [jX, decide_eq_true_eq] at hp
        rw [jW]
        unfold varT
        rw [isConP, if_pos rfl]
        have hbare : bareP (g n d) emptyB emptyB false ((110 : Int) == 110) = true := by
          unfold bareP
          rw [(dO _ _).2 rfl]
          simp
        rw [hbare, decide_eq_true (by omega : g n d ≥ 0), decide_eq_true hp.2]
        rfl
      · rw [eE _ _ k0, List.all_eq_true] at hp
        rw [eD _ _ k0, isConP, hb, if_neg k0]
        rw [if_neg k0] at h
        have kid : ∀ t ∈ kids, isConP t = true → isConP (mapV g t (d + bindsP k)) = true := fun t ht hc => ih t (bN ht) _ hc (hp t ht)
        have named : ∀ kind : Int, kind ≠ 110 → bindsP kind = 0 → ∀ t ∈ kids, okNamed kind t = true → okNamed kind (mapV g t (d + bindsP k)) = true ∧ (mapV g t (d + bindsP k)).name = t.name := fun kind hkd hbd t ht ho => by
          have hp1 := hp t ht
          have hz := bN (k := k) (n := n) (a := a) (b := b) ht
          cases t with
          | nil => simp [okNamed] at ho
          | node k' n' a' b' ks =>
            simp only [okNamed, Bool.and_eq_true, beq_iff_eq] at ho
            obtain ⟨⟨⟨rfl, h1⟩, h2⟩, h3⟩ := ho
            refine ⟨?_, aBo _ _ _ hkd⟩
            by_cases hl : ks.length = 1
            · obtain ⟨c, rfl⟩ := one_of hl
              rw [eE _ _ hkd, List.all_eq_true] at hp1
              rw [eD _ _ hkd]
              simp only [okNamed, List.map_cons, List.map_nil, isCon1, Bool.and_eq_true, beq_iff_eq]
              have hz2 := bN (k := k') (n := n') (a := a') (b := b') (kids := [c]) (t := c) (by simp)
              exact ⟨⟨⟨trivial, h1⟩, h2⟩, ih c (by omega) _ (by simpa [isCon1] using h3) (hp1 c (by simp))⟩
            · rw [eX hl] at h3; cases h3
        rw [Bool.true_and]
        by_cases k1 : k = 111 ∨ k = 112 ∨ k = 113
        · rw [if_pos k1] at h ⊢
          rw [List.length_map]; exact h
        · rw [if_neg k1] at h ⊢
          by_cases k2 : k = 114 ∨ k = 120
          · rw [if_pos k2, Bool.and_eq_true, eL] at h ⊢
            refine ⟨by rw [List.length_map]; exact h.1, ?_⟩
            rw [List.all_eq_true] at h ⊢
            intro u hu
            obtain ⟨t, ht, rfl⟩ := List.mem_map.1 hu
            exact kid t ht (h.2 t ht)
          · rw [if_neg k2] at h ⊢
            by_cases k3 : k = 115
            · rw [if_pos k3, Bool.and_eq_true, cZ, List.all_eq_true] at h ⊢
              have hn := fun t ht => named 116 (by decide) (by decide) t ht (h.1 t ht)
              refine ⟨fun u hu => ?_, ?_⟩
              · obtain ⟨t, ht, rfl⟩ := List.mem_map.1 hu
                exact (hn t ht).1
              · rw [rK _ _ fun t ht => (hn t ht).2]; exact h.2
            · rw [if_neg k3] at h ⊢
              by_cases k4 : k = 117 ∨ k = 118 ∨ k = 119
              · rw [if_pos k4] at h ⊢
                by_cases h2 : kids.length = 2
                · obtain ⟨x, y, rfl⟩ := two h2
                  simp only [isCon2, Bool.and_eq_true] at h
                  simp only [List.map_cons, List.map_nil, isCon2, Bool.and_eq_true]
                  exact ⟨by rw [aBp _ _ _ h.1]; exact h.1, kid y (by simp) h.2⟩
                · rw [eQ h2] at h; cases h
              · rw [if_neg k4] at h ⊢
                by_cases k5 : k = 121
                · rw [if_pos k5, Bool.and_eq_true, Bool.and_eq_true, cZ, List.all_eq_true] at h ⊢
                  have hn := fun t ht => named 122 (by decide) (by decide) t ht (h.1.2 t ht)
                  refine ⟨⟨by rw [List.length_map]; exact h.1.1, fun u hu => ?_⟩, ?_⟩
                  · obtain ⟨t, ht, rfl⟩ := List.mem_map.1 hu
                    exact (hn t ht).1
                  · rw [mY _ _ fun t ht => (hn t ht).2]; exact h.2
                · rw [if_neg k5] at h; cases h
/-- What Shift makes of a variable's number, and where it may. -/
def shG (b f : Int) (n d : Int) : Int := if n < d ∨ n - d < f then n else n + b
def okG (b f : Int) (n d : Int) : Bool := decide (n < d ∨ n - d < f ∨ (d - n ≤ b ∧ b ≤ 65536 - n))
theorem aBr (b f n d : Int) (s : Bool) : (shiftV b f n d s).2 = (s && okG b f n d) ∧ ((s && okG b f n d) = true → (shiftV b f n d s).1 = varT (shG b f n d)) := by
  unfold shiftV okG shG
  by_cases h1 : n < d ∨ n - d < f
  · rw [if_pos h1, if_pos h1, decide_eq_true (by omega)]
    exact ⟨by simp, fun _ => rfl⟩
  · rw [if_neg h1, if_neg h1]
    by_cases h2 : s = true ∧ d - n ≤ b ∧ b ≤ 65536 - n
    · rw [if_pos h2, decide_eq_true (by omega), h2.1]
      exact ⟨rfl, fun _ => rfl⟩
    · rw [if_neg h2]
      have : (s && decide (n < d ∨ n - d < f ∨ (d - n ≤ b ∧ b ≤ 65536 - n))) = false := by
        cases s with
        | false => rfl
        | true =>
          rw [Bool.true_and, decide_eq_false_iff_not]
          intro h3
          exact h2 ⟨rfl, by omega⟩
      rw [this]
      exact ⟨rfl, fun h => by cases h⟩
theorem aCD (b f : Int) (t : Tree) : ∀ d s, okVars t = true → (walkS (shiftV b f) t d s).2 = (s && allV (okG b f) t d) ∧ ((s && allV (okG b f) t d) = true → (walkS (shiftV b f) t d s).1 = mapV (shG b f) t d) := by
  induction t using Tree.ind with
  | h1 => intro d s h; simp [okVars] at h
  | h2 k n a b' kids ih =>
    intro d s hv
    by_cases hk : k = 110
    · subst hk
      rw [eZ, jX, jW]
      exact aBr b f n d s
    · have hvs := dP hk hv
      rw [nY _ _ _ _ kids hk, eE _ _ hk, eD _ _ hk]
      have key : ∀ l : List Tree, (∀ t ∈ l, t ∈ kids) → ∀ s, (walkSs (shiftV b f) l (d + bindsP k) s).2 = (s && l.all fun t => allV (okG b f) t (d + bindsP k)) ∧ ((s && l.all fun t => allV (okG b f) t (d + bindsP k)) = true → (walkSs (shiftV b f) l (d + bindsP k) s).1 = l.map fun t => mapV (shG b f) t (d + bindsP k)) := by
        intro l
        induction l with
        | nil => intro _ s; rw [walkSs]; simp
        | cons t ts ih2 =>
          intro hm s
          obtain ⟨g1, g2⟩ := ih t (hm t (by simp)) (d + bindsP k) s (hvs t (hm t (by simp)))
          obtain ⟨g3, g4⟩ := ih2 (fun t' h' => hm t' (by simp [h'])) (walkS (shiftV b f) t (d + bindsP k) s).2
          rw [walkSs, List.all_cons, List.map_cons]
          dsimp only
          rw [g1] at g3 g4
          rw [Bool.and_assoc] at g3 g4
          refine ⟨by rw [g1]; exact g3, fun h => ?_⟩
          rw [g1, g4 h]
          rw [← Bool.and_assoc, Bool.and_eq_true] at h
          rw [g2 h.1]
      obtain ⟨g1, g2⟩ := key kids (fun _ h => h) s
      exact ⟨g1, fun h => by dsimp only; rw [g2 h]⟩
theorem tS (t : Tree) (hc : checkP isConP t = 0) (b f : Int) (hf : 0 ≤ f) : shiftP t b f = if allV (okG b f) t 0 = true then (mapV (shG b f) t 0, 0) else (.nil, 2) := by
  obtain ⟨_, _, hcon⟩ := bI hc
  obtain ⟨g1, g2⟩ := aCD b f t 0 true (dR t hcon)
  rw [Bool.true_and] at g1 g2
  unfold shiftP
  rw [if_pos hc, decide_eq_true hf, g1]
  by_cases h : allV (okG b f) t 0 = true
  · rw [if_pos h, if_pos h, g2 h]
  · rw [if_neg h, if_neg h]
theorem tT (c : Tree) (hc : checkP isConP c = 0) (b f : Int) (hf : 0 ≤ f) (h : (shiftP c b f).2 = 0) : isConP (shiftP c b f).1 = true := by
  obtain ⟨_, _, hcon⟩ := bI hc
  rw [tS c hc b f hf] at h ⊢
  by_cases ha : allV (okG b f) c 0 = true
  · rw [if_pos ha]
    refine aCC _ c 0 hcon (rJ _ _ c 0 (dR c hcon) ha fun n x h1 h2 h3 h4 => ?_)
    unfold okG at h4
    rw [decide_eq_true_eq] at h4 ⊢
    unfold shG
    split <;> omega
  · rw [if_neg ha] at h; cases h
end Go.Proofs.YtocaohipfiapkaaGreatDoor.Ab
namespace Go.Proofs.YtocaohipfiapkaaGreatDoor.Ab
set_option linter.unusedVariables false
set_option linter.unusedSimpArgs false
attribute [local irreducible] AWP AOps AExit AThen ABlock ANoGoto FeetOk
set_option maxHeartbeats 8000000 in
set_option maxRecDepth 10000 in
theorem aDC {σ : Type} (V : Int → Int → σ → Tree × σ) (F : FuncId) (X0 X1 : σ → IV) (J : σ → Prop)
    (hV : ∀ (n d : Int) s, J s → 0 ≤ n → n ≤ 65536 → 0 ≤ d → d ≤ 100000000 → ACalls Tryz.prog F ([.imm (varT n).iv, .imm (.lit (.int .i64 d)), .obj 1000 0, .obj 1001 0]) [(1000, .cells [.imm (X0 s)]), (1001, .cells [.imm (X1 s)])] (.imm (V n d s).1.iv) [(1000, .cells [.imm (X0 ((V n d s).2))]), (1001, .cells [.imm (X1 ((V n d s).2))])] ∧ J (V n d s).2 ∧ (V n d s).1 ≠ .nil) (t : Tree) :
    ∀ (d : Int) s, okVars t = true → t.whole = true → 0 ≤ d → d + t.size ≤ 100000000 → J s → ACalls Tryz.prog 67 [.imm t.iv, .imm (.lit (.int .i64 d)), .func F [] [.obj 1000 0, .obj 1001 0]] [(1000, .cells [.imm (X0 s)]), (1001, .cells [.imm (X1 s)])] (.imm (walkS V t d s).1.iv) [(1000, .cells [.imm (X0 ((walkS V t d s).2))]), (1001, .cells [.imm (X1 ((walkS V t d s).2))])] ∧ J (walkS V t d s).2 ∧ (walkS V t d s).1 ≠ .nil := by
  induction t using Tree.ind with
  | h1 => intro d s _ h; simp [Tree.whole] at h
  | h2 k n a b kids ih =>
    intro d s hv hw hd hs hJ
    have hl := cG kids hw
    have hsz : (Tree.node k n a b kids).size = 1 + Tree.sizes kids := by rw [Tree.size]
    rw [hsz] at hs
    by_cases k110 : k = 110
    · obtain ⟨q1, q2, rfl, rfl, rfl⟩ := dV k110 hv
      subst k110
      have hc := hV n d s hJ q1 q2 hd (by omega)
      rw [eZ]
      refine ⟨?_, hc.2⟩
      have hc := hc.1
      generalize V n d s = R at *
      obtain ⟨R1, R2⟩ := R
      dsimp only at hc ⊢
      refine bX [1000, 1001] Tryz.func67 rfl rfl (nb rfl) rfl rfl ?_
      repeat' (first | refine aE ?_ | (refine aG ?_;  first | refine aB tabOk rfl rfl rfl (nb rfl) rfl ?_ | (refine aI rfl rfl rfl (nb rfl) rfl rfl rfl (fun hq => ?_) (fun hq => ?_) <;> (first | (simp only [sD, sE, sB, sC, sN, sM, sT, sF] at hq; try (exfalso; omega)) | skip)) | refine bW rfl rfl (nb rfl) rfl rfl rfl rfl hc (by repeat' first | exact trivial | refine ⟨rfl, ?_⟩) rfl (by show ([1000, 1001] : List Nat).Nodup; decide) ?_) | (refine aK ?_;  first | refine aF ?_ | refine aL ?_ | refine aM ?_ | refine aC (b := true) rfl (fun _ => ?_) nTf) | (refine aJ ?_;  first | refine aN ?_))
      all_goals first
        | exact absurd rfl (by assumption)
        | (refine cB (cA (by first | exact .inl rfl | exact .inr rfl) (aW rfl (aA rfl)) rfl (by repeat' first | exact trivial | refine ⟨rfl, ?_⟩) rfl ?_); rfl)
    · by_cases hk0 : kids.length = 0
      · have e0 : kids = [] := List.eq_nil_of_length_eq_zero hk0
        subst e0
        rw [gH _ _ _ _ k110]
        refine ⟨?_, hJ, by simp⟩
        refine bX [1000, 1001] Tryz.func67 rfl rfl (nb rfl) rfl rfl ?_
        repeat' (first | refine aE ?_ | (refine aG ?_;  first | refine aB tabOk rfl rfl rfl (nb rfl) rfl ?_ | (refine aI rfl rfl rfl (nb rfl) rfl rfl rfl (fun hq => ?_) (fun hq => ?_) <;> (first | (simp only [sD, sE, sB, sC, sN, sM, sT, sF] at hq; try (exfalso; omega)) | skip)) | refine aT tabOk rfl rfl (nb rfl) rfl ?_) | (refine aK ?_;  first | refine aF ?_ | refine aL ?_ | refine aM ?_ | refine aS ?_ | refine aC (b := true) rfl (fun _ => ?_) nTf | refine aC (b := false) rfl nFt (fun _ => ?_)) | (refine aJ ?_;  first | refine aU ?_ | refine aN ?_))
        all_goals first
          | exact absurd rfl (by assumption)
          | exact absurd (by assumption) k110
          | (refine cB (cA (by first | exact .inl rfl | exact .inr rfl) (aW rfl (aA rfl)) rfl (by repeat' first | exact trivial | refine ⟨rfl, ?_⟩) rfl ?_); rfl)
      · rw [gI _ _ _ _ k110 hk0]
        dsimp only
        have hb := eY k
        have hvs := dP k110 hv
        have hind : ∀ j (h : j < kids.length) s', J s' → ACalls Tryz.prog 67 [.imm kids[j].iv, .imm (.lit (.int .i64 (d + bindsP k))), .func F [] [.obj 1000 0, .obj 1001 0]] [(1000, .cells [.imm (X0 s')]), (1001, .cells [.imm (X1 s')])] (.imm (walkS V kids[j] (d + bindsP k) s').1.iv) [(1000, .cells [.imm (X0 ((walkS V kids[j] (d + bindsP k) s').2))]), (1001, .cells [.imm (X1 ((walkS V kids[j] (d + bindsP k) s').2))])] ∧ J (walkS V kids[j] (d + bindsP k) s').2 ∧ (walkS V kids[j] (d + bindsP k) s').1 ≠ .nil := fun j h s' hJ' => by
          have hm := List.getElem_mem h
          have hz := cU hm
          exact ih _ hm _ s' (hvs _ hm) (bF hw hm) (by omega) (by omega) hJ'
        clear ih
        have hJs : ∀ j, j ≤ kids.length → J (walkSs V (kids.take j) (d + bindsP k) s).2 := by
          intro j
          induction j with
          | zero => intro _; rw [List.take_zero, gJ]; exact hJ
          | succ j ihj =>
            intro hj
            rw [eR V (d + bindsP k) s hj]
            exact (hind j hj _ (ihj (by omega))).2.1
        have hJe := hJs kids.length (Nat.le_refl _)
        rw [List.take_length] at hJe
        refine ⟨?_, hJe, by simp⟩
        clear hJe
        have cb := uS k n a b kids
        refine bX [1000, 1001] Tryz.func67 rfl rfl (nb rfl) rfl rfl ?_
        repeat' (first | refine aE ?_ | (refine aG ?_;  first | refine aB tabOk rfl rfl rfl (nb rfl) rfl ?_ | (refine aI rfl rfl rfl (nb rfl) rfl rfl rfl (fun hq => ?_) (fun hq => ?_) <;> (first | (simp only [sD, sE, sB, sC, sN, sM, sT, sF] at hq; try (exfalso; omega)) | skip)) | refine aT tabOk rfl rfl (nb rfl) rfl ?_ | refine cL tabOk rfl rfl rfl (nb rfl) rfl rfl rfl rfl rfl rfl ?_ | refine bG tabOk rfl rfl rfl rfl rfl rfl rfl rfl rfl rfl rfl ?_) | (refine aK ?_;  first | refine aF ?_ | refine aL ?_ | refine aR ?_ | refine aS ?_ | refine aC (b := false) rfl nFt (fun _ => ?_)) | (refine aJ ?_;  first | refine aU ?_))
        all_goals first
          | exact absurd (by assumption) k110
          | (exfalso; omega)
          | skip
        refine cP (fH (h0 := 7) (k0 := 4) 500 25 1 rfl rfl (by simp) rfl rfl) ?_
        refine bZ (ι := {j : Nat // j ≤ kids.length}) (fun j => S.f ⟨[(35, .imm (.lit (.int .i64 (j.1 : Int)))), (34, .imm (.lit (.int .i64 (kids.length : Int)))), (33, .imm (.sl false kids.length (Tree.ivs kids))), (7, .obj 7 0), (0, .imm (Tree.iv (.node k n a b kids))), (1, .imm (.lit (.int .i64 d))), (2, .func F [] [.obj 1000 0, .obj 1001 0])], (500, .arr 25 1 j.1 (Tree.ivs (walkSs V (kids.take j.1) (d + bindsP k) s).1)) :: (7, .cells [.imm (.lit (.int .i64 k)), .imm (.lit (.int .i64 n)), .imm (.lit (.string a)), .imm (.lit (.string b)), .ref 500 j.1]) :: [(1000, .cells [.imm (X0 ((walkSs V (kids.take j.1) (d + bindsP k) s).2))]), (1001, .cells [.imm (X1 ((walkSs V (kids.take j.1) (d + bindsP k) s).2))])]⟩) (fun j => kids.length - j.1) ⟨0, Nat.zero_le _⟩ (bT (by repeat' first | exact trivial | refine ⟨rfl, ?_⟩) (by repeat' first | exact trivial | refine ⟨rfl, ?_⟩)) ?_
        rintro ⟨j, hj⟩
        dsimp only
        by_cases hlt : j < kids.length
        · have hget := cC kids j hlt
          have hnx := eR V (d + bindsP k) s hlt
          obtain ⟨hc, _, hnn⟩ := hind j hlt _ (hJs j hj)
          obtain ⟨pc, hpc⟩ := bR hnn
          rw [hpc] at hc
          have hll := dW V (kids.take j) (d + bindsP k) s
          rw [List.length_take, Nat.min_eq_left hj] at hll
          have hiv : Tree.ivs (walkSs V (kids.take (j + 1)) (d + bindsP k) s).1 = Tree.ivs (walkSs V (kids.take j) (d + bindsP k) s).1 ++ [(walkS V kids[j] (d + bindsP k) (walkSs V (kids.take j) (d + bindsP k) s).2).1.iv] := by
            rw [hnx, dC, dC, List.map_append]; rfl
          rw [hpc] at hiv
          clear hpc hnn
          have hst : (walkSs V (kids.take (j + 1)) (d + bindsP k) s).2 = (walkS V kids[j] (d + bindsP k) (walkSs V (kids.take j) (d + bindsP k) s).2).2 := by rw [hnx]
          clear hnx hind hJs
          have hil := dG (walkSs V (kids.take j) (d + bindsP k) s).1
          rw [hll] at hil
          generalize walkS V kids[j] (d + bindsP k) (walkSs V (kids.take j) (d + bindsP k) s).2 = W at *
          generalize walkSs V (kids.take j) (d + bindsP k) s = Z at *
          obtain ⟨W1, W2⟩ := W
          obtain ⟨Z1, Z2⟩ := Z
          dsimp only at *
          generalize Tree.ivs Z1 = ZI at *
          generalize hsum : d + bindsP k = dk at *
          repeat' (first | refine aE ?_ | (refine aG ?_;  first | refine aB tabOk rfl rfl rfl (nb rfl) rfl ?_ | (refine aI rfl rfl rfl (nb rfl) rfl rfl rfl (fun hq => ?_) (fun hq => ?_) <;> (first | (simp only [sD, sE, sB, sC, sN, sM, sT, sF] at hq; try (exfalso; omega)) | skip)) | refine bA tabOk rfl rfl rfl (nb rfl) rfl rfl rfl hget ?_ | refine aD rfl rfl (nb rfl) rfl rfl rfl rfl (cb) ?_ | refine cO (z := dk) rfl rfl rfl (nb rfl) rfl rfl hsum (by omega) (by omega) ?_ | refine bW rfl rfl (nb rfl) rfl rfl rfl rfl hc (by repeat' first | exact trivial | refine ⟨rfl, ?_⟩) rfl (by show ([1000, 1001] : List Nat).Nodup; decide) ?_ | refine cI tabOk rfl rfl rfl (nb rfl) rfl rfl rfl rfl rfl rfl rfl (by first | omega | decide) rfl (by first | omega | (dsimp only; omega)) (by first | omega | (dsimp only; omega)) ?_ | refine bO rfl rfl rfl (nb rfl) rfl rfl (by omega) ?_ | refine bS tabOk rfl rfl rfl (nb rfl) rfl rfl rfl rfl rfl rfl rfl rfl rfl ?_ | refine bK tabOk rfl rfl rfl (nb rfl) rfl rfl rfl rfl ?_ | refine bG tabOk rfl rfl rfl rfl rfl rfl rfl rfl rfl rfl rfl ?_ | refine bB tabOk rfl rfl rfl (nb rfl) rfl rfl rfl rfl (by first | assumption | omega) ?_) | (refine aK ?_;  first | refine aF ?_ | refine aL ?_ | refine bD ?_ | refine aR ?_ | refine aS ?_ | refine aC (b := true) rfl (fun _ => ?_) nTf | refine aQ mixed (by kernel_rfl) ?_) | (refine aJ ?_;  first | refine aU ?_) | (refine aP ?_;  first | refine bM ?_) | refine bC (aZ (by kernel_rfl)) ?_)
          all_goals first
            | (exfalso; omega)
            | (refine ⟨⟨j + 1, hlt⟩, (by show kids.length - (j + 1) < kids.length - j; omega), ?_⟩; dsimp only; rw [hiv, hst]; exact (bT (by repeat' first | exact trivial | refine ⟨rfl, ?_⟩) (by repeat' first | exact trivial | refine ⟨rfl, ?_⟩)))
        · have ej : j = kids.length := by omega
          subst ej
          rw [List.take_length]
          have hll := dW V kids (d + bindsP k) s
          clear hind hJs
          generalize walkSs V kids (d + bindsP k) s = Z at *
          obtain ⟨Z1, Z2⟩ := Z
          dsimp only at *
          have hiv : (Tree.node k n a b Z1).iv = .ptr [.lit (.int .i64 k), .lit (.int .i64 n), .lit (.string a), .lit (.string b), .sl false kids.length (Tree.ivs Z1)] 0 := by rw [Tree.iv, hll]
          rw [hiv]
          generalize Tree.ivs Z1 = ZI at *
          repeat' (first | refine aE ?_ | (refine aG ?_;  first | refine aB tabOk rfl rfl rfl (nb rfl) rfl ?_ | (refine aI rfl rfl rfl (nb rfl) rfl rfl rfl (fun hq => ?_) (fun hq => ?_) <;> (first | (simp only [sD, sE, sB, sC, sN, sM, sT, sF] at hq; try (exfalso; omega)) | skip))) | (refine aK ?_;  first | refine aF ?_ | refine aL ?_ | refine aM ?_ | refine bQ ?_ | refine aC (b := false) rfl nFt (fun _ => ?_)) | (refine aJ ?_;  first | refine aU ?_ | refine bH ?_) | (refine aP ?_;  first | refine bE ?_))
          all_goals first
            | (exfalso; omega)
            | (refine nS ((Imp.of_le (σ' := S.f ⟨[(6, .obj 7 0)], (500, .arr 25 1 kids.length ZI) :: (7, .cells [.imm (.lit (.int .i64 k)), .imm (.lit (.int .i64 n)), .imm (.lit (.string a)), .imm (.lit (.string b)), .ref 500 kids.length]) :: [(1000, .cells [.imm (X0 Z2)]), (1001, .cells [.imm (X1 Z2)])]⟩) (bT (by repeat' first | exact trivial | refine ⟨rfl, ?_⟩) (by repeat' first | exact trivial | refine ⟨rfl, ?_⟩))).trans ((cM (g := 500) rfl (by repeat' first | exact trivial | exact fun _ => rfl | refine ⟨?_, ?_⟩) (by repeat' first | exact trivial | exact fun _ => rfl | refine ⟨?_, ?_⟩)).trans (dU (g := 7) rfl rfl))) ?_
               refine cA (by first | exact .inl rfl | exact .inr rfl) (aW rfl (aA rfl)) rfl (by repeat' first | exact trivial | refine ⟨rfl, ?_⟩) rfl rfl)
end Go.Proofs.YtocaohipfiapkaaGreatDoor.Ab
namespace Go.Proofs.YtocaohipfiapkaaGreatDoor.Ab
set_option linter.unusedVariables false
set_option linter.unusedSimpArgs false
/-- What Occurs makes of a variable. -/
def occV (i n d : Int) (s : Bool) : Tree × Bool := (varT n, s || decide (0 ≤ i ∧ d ≤ n ∧ n - d = i))
def occP (c : Tree) (i : Int) : Bool := decide (checkP isConP c = 0) && decide (0 ≤ i ∧ 0 < cntP i c 0)
theorem aDD (i : Int) (t : Tree) : ∀ d s, okVars t = true → (walkS (occV i) t d s).2 = (s || decide (0 ≤ i ∧ 0 < cntP i t d)) := by
  induction t using Tree.ind with
  | h1 => intro d s h; simp [okVars] at h
  | h2 k n a b kids ih =>
    intro d s hv
    by_cases hk : k = 110
    · obtain ⟨_, _, rfl, rfl, rfl⟩ := dV hk hv
      subst hk
      rw [eZ, cntP, cntPs]
      unfold occV
      dsimp only
      congr 1
      by_cases h : d ≤ n ∧ n - d = i
      · rw [if_pos ⟨rfl, h⟩]
        exact decide_eq_decide.2 ⟨fun h1 => ⟨h1.1, by omega⟩, fun h1 => ⟨h1.1, h⟩⟩
      · rw [if_neg fun h1 => h h1.2]
        exact decide_eq_decide.2 ⟨fun h1 => absurd h1.2 h, fun h1 => absurd h1.2 (by omega)⟩
    · have hvs := dP hk hv
      rw [nY _ _ _ _ kids hk, cntP, if_neg fun h1 => hk h1.1, Nat.zero_add]
      have key : ∀ l : List Tree, (∀ t ∈ l, t ∈ kids) → ∀ s, (walkSs (occV i) l (d + bindsP k) s).2 = (s || decide (0 ≤ i ∧ 0 < cntPs i l (d + bindsP k))) := by
        intro l
        induction l with
        | nil => intro _ s; rw [walkSs, cntPs]; simp
        | cons t ts ih2 =>
          intro hm s
          rw [walkSs, cntPs]
          dsimp only
          rw [ih2 (fun t' h' => hm t' (by simp [h'])), ih t (hm t (by simp)) _ _ (hvs t (hm t (by simp))), Bool.or_assoc]
          congr 1
          rw [← Bool.decide_or]
          exact decide_eq_decide.2 (by omega)
      exact key kids (fun _ h => h) s
end Go.Proofs.YtocaohipfiapkaaGreatDoor.Ab
namespace Go.Proofs.YtocaohipfiapkaaGreatDoor.Ab
set_option linter.unusedVariables false
set_option linter.unusedSimpArgs false
def starK : Tree := .node 100 0 emptyB emptyB []
def kid1 : Tree → Tree
  | .node _ _ _ _ (_ :: c :: _) => c
  | _ => .nil
/-- One more that must be a type. -/
def star1 (R S : Tree × Int) : Tree × Int := if R.2 ≠ 0 then (.nil, R.2) else if R.1.kind ≠ 100 then (.nil, 10) else S
def lam1 (K : Tree) (R : Tree × Int) : Tree × Int := if R.2 ≠ 0 then (.nil, R.2) else (.node 101 0 emptyB emptyB [K, R.1], 0)
def app1 (F X : Tree × Int) : Tree × Int := if F.2 ≠ 0 then (.nil, F.2) else if X.2 ≠ 0 then (.nil, X.2) else if F.1.kind ≠ 101 ∨ sameP (kid0 F.1) X.1 = false then (.nil, 10) else (kid1 F.1, 0)
mutual
/-- Does a sum's own variable stand but where it may? -/
def placedP : Tree → Bool
  | .nil => true
  | .node k n a b kids => if k = 110 then true else if k = 115 then placedFs kids else !(occP (.node k n a b kids) 0)
def placedFs : List Tree → Bool
  | [] => true
  | t :: ts => placedF t && placedFs ts
def placedF : Tree → Bool
  | .nil => true
  | .node _ _ _ _ ks => placedH ks
def placedH : List Tree → Bool
  | [] => true
  | c :: _ => placedP c
end
def fitsP (kids : List Tree) : Int := if placedFs kids = true then 0 else 15
def sum1 (kids : List Tree) (R : Tree × Int) : Tree × Int := if R.2 ≠ 0 then (.nil, R.2) else if fitsP kids ≠ 0 then (.nil, fitsP kids) else (starK, 0)
mutual
/-- The kind of a constructor, and the error. -/
def kindP : Tree → List Tree → Tree × Int
  | .nil, _ => (.nil, 0)
  | .node k n _ _ kids, ctx =>
    if k = 110 then (if n ≥ (ctx.length : Int) then (.nil, 8) else (ctx.getD n.toNat .nil, 0))
    else if k = 114 then starsP kids ctx
    else if k = 115 then starsF kids ctx
    else if k = 117 ∨ k = 118 then bindK kids ctx
    else if k = 119 then lamK kids ctx
    else if k = 120 then appK kids ctx
    else if k = 121 then sum1 kids (starsF kids (starK :: ctx))
    else (starK, 0)
def starsP : List Tree → List Tree → Tree × Int
  | [], _ => (starK, 0)
  | t :: ts, ctx => star1 (kindP t ctx) (starsP ts ctx)
def starsF : List Tree → List Tree → Tree × Int
  | [], _ => (starK, 0)
  | t :: ts, ctx => star1 (kindF t ctx) (starsF ts ctx)
def kindF : Tree → List Tree → Tree × Int
  | .nil, _ => (.nil, 0)
  | .node _ _ _ _ ks, ctx => kindH ks ctx
def kindH : List Tree → List Tree → Tree × Int
  | [], _ => (.nil, 0)
  | c :: _, ctx => kindP c ctx
def bindK : List Tree → List Tree → Tree × Int
  | [K, c], ctx => star1 (kindP c (K :: ctx)) (starK, 0)
  | _, _ => (.nil, 0)
def lamK : List Tree → List Tree → Tree × Int
  | [K, c], ctx => lam1 K (kindP c (K :: ctx))
  | _, _ => (.nil, 0)
def appK : List Tree → List Tree → Tree × Int
  | [f, x], ctx => app1 (kindP f ctx) (kindP x ctx)
  | _, _ => (.nil, 0)
end
/-- Kinds of a context. -/
def okCtx (ctx : List Tree) : Prop := ∀ t ∈ ctx, isKindP t = true ∧ t.whole = true
theorem iR {K : Tree} {ctx : List Tree} (h1 : isKindP K = true) (h2 : K.whole = true) (h : okCtx ctx) : okCtx (K :: ctx) := fun t ht => by
  rcases List.mem_cons.1 ht with rfl | ht
  · exact ⟨h1, h2⟩
  · exact h t ht
theorem lV : isKindP starK = true := by decide +kernel
theorem rL {k n : Int} {a b : ByteArray} {kids : List Tree} (h : isKindP (.node k n a b kids) = true) (hk : k = 101) : ∃ x y, kids = [x, y] ∧ isKindP x = true ∧ isKindP y = true := by
  subst hk
  rw [isKindP, if_neg (by decide), if_pos rfl, Bool.and_eq_true, Bool.and_eq_true, dI] at h
  have hl : kids.length = 2 := by have := h.1.2; simp at this; omega
  obtain ⟨x, y, rfl⟩ := two hl
  have h2 := h.2
  simp at h2
  exact ⟨x, y, rfl, h2.1, h2.2⟩
/-- A con has the parts that its kind asks for. -/
theorem dJ {k n : Int} {a b : ByteArray} {kids : List Tree} (h : isConP (.node k n a b kids) = true) :
    (k = 110 → 0 ≤ n ∧ n ≤ 65536 ∧ kids = []) ∧ ((k = 114 ∨ k = 120) → ∃ x y, kids = [x, y] ∧ isConP x = true ∧ isConP y = true) ∧ (k = 115 → ∀ t ∈ kids, ∃ n' a' b' c, t = .node 116 n' a' b' [c] ∧ isConP c = true) ∧
    ((k = 117 ∨ k = 118 ∨ k = 119) → ∃ x y, kids = [x, y] ∧ isKindP x = true ∧ isConP y = true) ∧ (k = 121 → ∀ t ∈ kids, ∃ n' a' b' c, t = .node 122 n' a' b' [c] ∧ isConP c = true) := by
  have hv := dR _ h
  rw [isConP, Bool.and_eq_true] at h
  obtain ⟨_, h⟩ := h
  have named : ∀ kind : Int, (∀ t ∈ kids, okNamed kind t = true) → ∀ t ∈ kids, ∃ n' a' b' c, t = .node kind n' a' b' [c] ∧ isConP c = true := fun kind hn t ht => by
    have ho := hn t ht
    cases t with
    | nil => simp [okNamed] at ho
    | node k' n' a' b' ks =>
      simp only [okNamed, Bool.and_eq_true, beq_iff_eq] at ho
      obtain ⟨⟨⟨rfl, _⟩, _⟩, h3⟩ := ho
      by_cases hl : ks.length = 1
      · obtain ⟨c, rfl⟩ := one_of hl
        exact ⟨n', a', b', c, rfl, by simpa [isCon1] using h3⟩
      · rw [eX hl] at h3; cases h3
  refine ⟨fun hk => ?_, fun hk => ?_, fun hk => ?_, fun hk => ?_, fun hk => ?_⟩
  · obtain ⟨q1, q2, _, _, q5⟩ := dV hk hv
    exact ⟨q1, q2, q5⟩
  · rw [if_neg (by omega), if_neg (by omega), if_pos hk, Bool.and_eq_true, eL] at h
    have hl : kids.length = 2 := by have := h.1; simp at this; omega
    obtain ⟨x, y, rfl⟩ := two hl
    have := h.2
    simp at this
    exact ⟨x, y, rfl, this.1, this.2⟩
  · rw [if_neg (by omega), if_neg (by omega), if_neg (by omega), if_pos hk, Bool.and_eq_true, cZ, List.all_eq_true] at h
    exact named 116 h.1
  · rw [if_neg (by omega), if_neg (by omega), if_neg (by omega), if_neg (by omega), if_pos hk] at h
    by_cases h2 : kids.length = 2
    · obtain ⟨x, y, rfl⟩ := two h2
      simp only [isCon2, Bool.and_eq_true] at h
      exact ⟨x, y, rfl, h.1, h.2⟩
    · rw [eQ h2] at h; cases h
  · rw [if_neg (by omega), if_neg (by omega), if_neg (by omega), if_neg (by omega), if_neg (by omega), if_pos hk, Bool.and_eq_true, Bool.and_eq_true, cZ, List.all_eq_true] at h
    exact named 122 h.1.2
end Go.Proofs.YtocaohipfiapkaaGreatDoor.Ab
namespace Go.Proofs.YtocaohipfiapkaaGreatDoor.Ab
set_option linter.unusedVariables false
set_option linter.unusedSimpArgs false
open Go.RowKit
/-- A kind of a constructor in a context, and the error. -/
def KindP (ks : List Tree) (c : Tree) : Tree × Int := if checkP isConP c ≠ 0 then (.nil, checkP isConP c) else kindP c ks
def starE (ks : List Tree) (c : Tree) : Int := if (KindP ks c).2 = 0 ∧ (KindP ks c).1.kind ≠ 100 then 10 else (KindP ks c).2
def starT (ks : List Tree) (c : Tree) : Tree × Int := if starE ks c ≠ 0 then (.nil, starE ks c) else normalP 1000 c
def filledP (n by_ : Tree) : Tree × Int := if (substP n 0 by_).2 ≠ 0 then (.nil, (substP n 0 by_).2) else normalP 1000 (substP n 0 by_).1
/-- All of a context's types under one more variable. -/
def shiftsP : List Tree → List Tree × Int
  | [] => ([], 0)
  | t :: ts => if (shiftP t 1 0).2 ≠ 0 then ([], (shiftP t 1 0).2) else if (shiftsP ts).2 ≠ 0 then ([], (shiftsP ts).2) else ((shiftP t 1 0).1 :: (shiftsP ts).1, 0)
def asP (R : Tree × Int) (kind : Int) : Tree × Int := if R.2 = 0 ∧ R.1.kind ≠ kind then (.nil, 11) else R
def tyT (k : Int) (kids : List Tree) : Tree := .node k 0 emptyB emptyB kids
def kidsOf : Tree → List Tree
  | .nil => []
  | .node _ _ _ _ kids => kids
def partP : List Tree → ByteArray → Option Tree
  | [], _ => none
  | t :: ts, l => if eqB t.name l = true then some (kid0 t) else partP ts l
def tlam1 (K : Tree) (e : Int) (R : Tree × Int) : Tree × Int := if e ≠ 0 then (.nil, e) else if R.2 ≠ 0 then (.nil, R.2) else (tyT 117 [K, R.1], 0)
def let1 (X Y : Tree × Int) : Tree × Int := if X.2 ≠ 0 then (.nil, X.2) else Y
def lamT1 (A B : Tree × Int) : Tree × Int := if A.2 ≠ 0 then (.nil, A.2) else if B.2 ≠ 0 then (.nil, B.2) else (tyT 114 [A.1, B.1], 0)
def appT1 (F X : Tree × Int) : Tree × Int := if F.2 ≠ 0 then (.nil, F.2) else if X.2 ≠ 0 then (.nil, X.2) else if F.1.kind ≠ 114 ∨ sameP (kid0 F.1) X.1 = false then (.nil, 11) else (kid1 F.1, 0)
def rec1 (L : List Tree × Int) : Tree × Int := if L.2 ≠ 0 then (.nil, L.2) else (tyT 115 L.1, 0)
def consP (R : Tree × Int) (L : List Tree × Int) : List Tree × Int := if R.2 ≠ 0 then ([], R.2) else if L.2 ≠ 0 then ([], L.2) else (R.1 :: L.1, 0)
def field1 (a : ByteArray) (R : Tree × Int) : Tree × Int := if R.2 ≠ 0 then (.nil, R.2) else (.node 116 0 a emptyB [R.1], 0)
def part1 (e : Int) (T : Tree) (a : ByteArray) : Tree × Int := match partP (kidsOf T) a with
  | none => (.nil, e)
  | some p => (p, 0)
def proj1 (a : ByteArray) (R : Tree × Int) : Tree × Int := if (asP R 115).2 ≠ 0 then (.nil, (asP R 115).2) else part1 11 R.1 a
def tapp1 (R K : Tree × Int) (C : Tree) : Tree × Int := if R.2 ≠ 0 then (.nil, R.2) else if K.2 ≠ 0 then (.nil, K.2) else if R.1.kind ≠ 117 ∨ sameP (kid0 R.1) K.1 = false then (.nil, 11) else filledP (kid1 R.1) C
def alike1 (A : Tree) (B : Tree × Int) (S : Tree) : Tree × Int := if B.2 ≠ 0 then (.nil, B.2) else if sameP A B.1 = false then (.nil, 11) else (S, 0)
def pack1 (T K A : Tree × Int) (C : Tree) : Tree × Int := if T.2 ≠ 0 then (.nil, T.2) else if K.2 ≠ 0 then (.nil, K.2) else if A.2 ≠ 0 then (.nil, A.2) else if T.1.kind ≠ 118 ∨ sameP (kid0 T.1) K.1 = false then (.nil, 11) else alike1 A.1 (filledP (kid1 T.1) C) T.1
def unpack1 (T : Tree × Int) (e : Int) (B : Tree × Int) : Tree × Int := if (asP T 118).2 ≠ 0 then (.nil, (asP T 118).2) else if e ≠ 0 then (.nil, e) else if B.2 ≠ 0 then (.nil, B.2) else if occP B.1 0 = true then (.nil, 11) else shiftP B.1 (-1) 0
def choice1 (A B C : Tree × Int) : Tree × Int := if A.2 ≠ 0 then (.nil, A.2) else if B.2 ≠ 0 then (.nil, B.2) else if C.2 ≠ 0 then (.nil, C.2) else if A.1.kind ≠ 112 ∨ sameP B.1 C.1 = false then (.nil, 11) else (B.1, 0)
def op1 (n : Int) (A B : Tree × Int) : Tree × Int := if A.2 ≠ 0 then (.nil, A.2) else if B.2 ≠ 0 then (.nil, B.2) else if A.1.kind ≠ 111 ∨ B.1.kind ≠ 111 then (.nil, 11) else if n ≤ 3 then (tyT 111 [], 0) else (tyT 112 [], 0)
def in2 (A : Tree) (S : Tree) : Option Tree → Tree × Int
  | none => (.nil, 14)
  | some p => alike1 A (filledP p S) S
def in1 (a : ByteArray) (S A : Tree × Int) : Tree × Int := if S.2 ≠ 0 then (.nil, S.2) else if A.2 ≠ 0 then (.nil, A.2) else if S.1.kind ≠ 121 then (.nil, 11) else in2 A.1 S.1 (partP (kidsOf S.1) a)
def namesEq : List Tree → List Tree → Bool
  | [], [] => true
  | t :: ts, u :: us => eqB t.name u.name && namesEq ts us
  | _, _ => false
def alikeP (l : List Tree) (t : Tree) : Tree × Int := if (l.any fun s => !sameP s t) = true then (.nil, 11) else (t, 0)
def arm1 (A R : Tree × Int) (L : List Tree × Int) : List Tree × Int := if A.2 ≠ 0 then ([], A.2) else consP R L
def arms1 (S : Tree) (l : List Tree) (L : List Tree × Int) : List Tree × Int := if namesEq (kidsOf S) l = false then ([], 14) else L
def case1 (S : Tree × Int) (L : List Tree × Int) : Tree × Int := if (asP S 121).2 ≠ 0 then (.nil, (asP S 121).2) else if L.2 ≠ 0 then (.nil, L.2) else alikeP L.1 (L.1.headD .nil)
def fold1 (S T : Tree × Int) (L : List Tree × Int) : Tree × Int := if (asP S 121).2 ≠ 0 then (.nil, (asP S 121).2) else if T.2 ≠ 0 then (.nil, T.2) else if L.2 ≠ 0 then (.nil, L.2) else alikeP L.1 T.1
mutual
/-- The type of a term, and the error. -/
def ofP : Tree → List Tree → List Tree → Tree × Int
  | .nil, _, _ => (.nil, 0)
  | .node k n a _ kids, ks, ts =>
    if k = 130 then (if n ≥ (ts.length : Int) then (.nil, 8) else normalP 1000 (ts.getD n.toNat .nil))
    else if k = 131 then (tyT 111 [], 0)
    else if k = 132 then (tyT 112 [], 0)
    else if k = 133 then (tyT 113 [], 0)
    else if k = 139 then ofTLam kids ks ts
    else if k = 143 then ofLet kids ks ts
    else if k = 134 then ofLam kids ks ts
    else if k = 135 then ofApp kids ks ts
    else if k = 136 then rec1 (ofRec kids ks ts)
    else if k = 138 then proj1 a (ofH kids ks ts)
    else if k = 140 then ofTApp kids ks ts
    else if k = 141 then ofPack kids ks ts
    else if k = 142 then ofUnpack kids ks ts
    else if k = 144 then ofIf kids ks ts
    else if k = 145 then ofOp n kids ks ts
    else if k = 146 then ofIn a kids ks ts
    else if k = 147 then ofCase kids ks ts
    else ofFold kids ks ts
termination_by structural x => x
def ofH : List Tree → List Tree → List Tree → Tree × Int
  | x :: _, ks, ts => ofP x ks ts
  | [], _, _ => (.nil, 0)
termination_by structural x => x
def ofTLam : List Tree → List Tree → List Tree → Tree × Int
  | [K, x], ks, ts => tlam1 K (shiftsP ts).2 (ofP x (K :: ks) (shiftsP ts).1)
  | _, _, _ => (.nil, 0)
termination_by structural x => x
def ofLet : List Tree → List Tree → List Tree → Tree × Int
  | [x, y], ks, ts => let1 (ofP x ks ts) (ofP y ks ((ofP x ks ts).1 :: ts))
  | _, _, _ => (.nil, 0)
termination_by structural x => x
def ofLam : List Tree → List Tree → List Tree → Tree × Int
  | [T, y], ks, ts => lamT1 (starT ks T) (ofP y ks ((starT ks T).1 :: ts))
  | _, _, _ => (.nil, 0)
termination_by structural x => x
def ofApp : List Tree → List Tree → List Tree → Tree × Int
  | [f, x], ks, ts => appT1 (ofP f ks ts) (ofP x ks ts)
  | _, _, _ => (.nil, 0)
termination_by structural x => x
def ofRec : List Tree → List Tree → List Tree → List Tree × Int
  | [], _, _ => ([], 0)
  | t :: l, ks, ts => consP (ofField t ks ts) (ofRec l ks ts)
termination_by structural x => x
def ofField : Tree → List Tree → List Tree → Tree × Int
  | .nil, _, _ => (.nil, 0)
  | .node _ _ a _ ys, ks, ts => field1 a (ofH ys ks ts)
termination_by structural x => x
def ofTApp : List Tree → List Tree → List Tree → Tree × Int
  | [x, C], ks, ts => tapp1 (ofP x ks ts) (KindP ks C) C
  | _, _, _ => (.nil, 0)
termination_by structural x => x
def ofPack : List Tree → List Tree → List Tree → Tree × Int
  | [C, x, T], ks, ts => pack1 (starT ks T) (KindP ks C) (ofP x ks ts) C
  | _, _, _ => (.nil, 0)
termination_by structural x => x
def ofUnpack : List Tree → List Tree → List Tree → Tree × Int
  | [x, y], ks, ts => unpack1 (ofP x ks ts) (shiftsP ts).2 (ofP y (kid0 (ofP x ks ts).1 :: ks) (kid1 (ofP x ks ts).1 :: (shiftsP ts).1))
  | _, _, _ => (.nil, 0)
termination_by structural x => x
def ofIf : List Tree → List Tree → List Tree → Tree × Int
  | [x, y, z], ks, ts => choice1 (ofP x ks ts) (ofP y ks ts) (ofP z ks ts)
  | _, _, _ => (.nil, 0)
termination_by structural x => x
def ofOp (n : Int) : List Tree → List Tree → List Tree → Tree × Int
  | [x, y], ks, ts => op1 n (ofP x ks ts) (ofP y ks ts)
  | _, _, _ => (.nil, 0)
termination_by structural x => x
def ofIn (a : ByteArray) : List Tree → List Tree → List Tree → Tree × Int
  | [T, x], ks, ts => in1 a (starT ks T) (ofP x ks ts)
  | _, _, _ => (.nil, 0)
termination_by structural x => x
def ofCase : List Tree → List Tree → List Tree → Tree × Int
  | x :: arms, ks, ts => case1 (ofP x ks ts) (arms1 (ofP x ks ts).1 arms (ofArms arms (kidsOf (ofP x ks ts).1) (ofP x ks ts).1 ks ts))
  | _, _, _ => (.nil, 0)
termination_by structural x => x
def ofFold : List Tree → List Tree → List Tree → Tree × Int
  | x :: T :: arms, ks, ts => fold1 (ofP x ks ts) (starT ks T) (arms1 (ofP x ks ts).1 arms (ofArms arms (kidsOf (ofP x ks ts).1) (starT ks T).1 ks ts))
  | _, _, _ => (.nil, 0)
termination_by structural x => x
def ofArms : List Tree → List Tree → Tree → List Tree → List Tree → List Tree × Int
  | [], _, _, _, _ => ([], 0)
  | t :: l, cs, self, ks, ts => arm1 (filledP (kid0 (cs.headD .nil)) self) (ofArm t ks ((filledP (kid0 (cs.headD .nil)) self).1 :: ts)) (ofArms l cs.tail self ks ts)
termination_by structural x => x
def ofArm : Tree → List Tree → List Tree → Tree × Int
  | .nil, _, _ => (.nil, 0)
  | .node _ _ _ _ ys, ks, ts => ofH ys ks ts
termination_by structural x => x
end
theorem lI : ∀ x y : List UInt8, Op.bytesLess y x = false → x ≠ y → Op.bytesLess x y = true
  | [], [], _, h => absurd rfl h
  | [], _ :: _, _, _ => by simp [Op.bytesLess]
  | _ :: _, [], h, _ => by simp [Op.bytesLess] at h
  | x :: xs, y :: ys, h, hn => by
    simp only [Op.bytesLess, Bool.or_eq_false_iff, Bool.and_eq_false_iff, decide_eq_false_iff_not, beq_eq_false_iff_ne, Bool.or_eq_true, Bool.and_eq_true, decide_eq_true_eq, beq_iff_eq] at h ⊢
    by_cases e : x = y
    · subst e
      right
      refine ⟨rfl, lI xs ys ?_ fun e => hn (by rw [e])⟩
      rcases h.2 with h2 | h2
      · exact absurd rfl h2
      · exact h2
    · left
      rcases Nat.lt_or_ge x.toNat y.toNat with h1 | h1
      · exact h1
      · exact absurd (show y < x from Nat.lt_of_le_of_ne h1 fun h2 => e (UInt8.toNat_inj.1 h2.symm)) h.1
end Go.Proofs.YtocaohipfiapkaaGreatDoor.Ab
namespace Go.Proofs.YtocaohipfiapkaaGreatDoor.Ab
set_option linter.unusedVariables false
set_option linter.unusedSimpArgs false
open Go.RowKit Go.Lib
attribute [local irreducible] AWP AOps AExit AThen ABlock ANoGoto FeetOk
theorem aBs {w : World} {M : Nat → Prop} {β : Nat → Value} {x y : IV} {vs : List Value} (h : RepAL w M β [.imm x, .imm y] vs) : ∃ u v, vs = [u, v] ∧ Rep w M x u ∧ Rep w M y v := by
  match vs, h with
  | [u, v], h =>
    rw [RepAL, RepAL, RepA, RepA] at h
    exact ⟨u, v, rfl, h.1, h.2.1⟩
  | [], h => rw [RepAL] at h; exact h.elim
  | [u], h => rw [RepAL, RepAL] at h; exact h.2.elim
  | u :: v :: x :: l, h => rw [RepAL, RepAL, RepAL] at h; exact h.2.2.elim
theorem aAp (n : Nat) (h0 : 0 < n) (hn : n ≤ 100000000) : ACalls Tryz.prog 109 [.imm (.lit (.slice none 0 0)), .imm (.lit (.int .i64 (n : Int)))] [(500, .fut)] (.ref 500 0) [(500, .arr 25 1 0 [])] := by
  refine ⟨⟨_, Tryz.func109, rfl, rfl⟩, fun w M β vs hamb hm hv => ?_⟩
  obtain ⟨u, v, rfl, hu, hv2⟩ := aBs hv
  rw [kU hu, kU hv2]
  obtain ⟨ei, he⟩ : ∃ ei, (tab : Tab).at 25 = some ei := ⟨_, rfl⟩
  obtain ⟨_, jj, hjj, e1, e2, e3⟩ := tabOk _ _ he
  have hsz : ei.size = 1 := by cases he; rfl
  have hby : ei.bytes ≤ 64 := by cases he; decide
  have hzc : ei.zero.cells.size = 1 := by cases he; rfl
  have hfut : β 500 = .tuple #[] := hm.ok 500 .fut rfl
  have hj1 : jj.size = 1 := by rw [e1, hsz]
  have hjb : jj.bytes = ei.bytes := e2
  refine (Any8.slices_Grow_grow (P := Tryz.prog) Tryz.growN jj ei.zero hjj e3 (by omega) none 0 0 n [] w (Nat.le_refl _) (by omega) (by rw [hjb, Nat.zero_add]; have := Nat.mul_le_mul hn hby; omega) (by omega) (by simp) (fun _ => rfl) (fun a h => by cases h)).mono fun e w' ⟨hev, hw⟩ => ?_
  rw [Nat.zero_add] at hev hw
  have hge := grownCap_ge w n 0 25
  have hcm : grownCap w n 0 25 ≤ maxLen := grownCap_le_maxLen w n 0 25 (by simp only [maxLen]; omega)
  have hev : e = .returned (.slice (some ⟨w.heap.size, 0, none⟩) 0 (grownCap w n 0 25)) := hev
  have hw : w' = w.drew.alloc (.cells (#[] ++ Builtin.zeroCells ei.zero.cells n ++ Builtin.zeroCells ei.zero.cells (grownCap w n 0 25 - n)) 25) := hw
  generalize grownCap w n 0 25 = cp at *
  have hown : w'.ownsRow 0 25 1 (.slice (some ⟨w.heap.size, 0, none⟩) 0 cp) 0 [] := by
    rw [hw]
    refine ⟨rfl, .inr ⟨w.heap.size, _, _, rfl, Nat.zero_le _, heap_alloc_new w.drew _, Nat.zero_le _, hcm, ?_, rfl⟩⟩
    simp only [Array.size_append, size_zeroCells, hzc]
    simp
    omega
  have hbel : Below w.heap.size w w' := by rw [hw]; exact ((Below.refl _ _).drew).alloc (Nat.le_refl _) _
  let M' : Nat → Prop := fun b => (b < w.heap.size ∧ M b) ∨ b = w.heap.size
  let β' : Nat → Value := fun q => if q = 500 then .slice (some ⟨w.heap.size, 0, none⟩) 0 cp else β q
  have eg : β' 500 = .slice (some ⟨w.heap.size, 0, none⟩) 0 cp := by simp [β']
  have o1 : ∀ o, Mem.get [(500, o)] = one 500 o := fun o => by
    funext k
    simp only [Mem.get, one]
    by_cases hk : k = 500
    · subst hk; rfl
    · rw [if_neg (fun h => hk h.symm), if_neg hk]
  rw [o1, o1] at *
  refine ⟨_, hev, M', β', ?_, dM ⟨[], by rw [eg]; exact hown, rfl, by simp [RepL], by unfold slMax; omega, fun b hb => ?_⟩, ⟨hbel.os, hbel.tape, hbel.output, hbel.size, fun b hb _ => ⟨hbel.block b hb, ⟨fun h => by rcases h with h | h <;> first | exact h.2 | omega, fun h => .inl ⟨hb, h⟩⟩⟩⟩, fun q hk1 hk2 => ?_, fun q hk => ?_, fun b hb => ?_⟩
  · rw [RepA, eg]; exact ⟨Nat.le_refl _, fun _ => rfl, rfl⟩
  · rw [eg] at hb; simp only [blk, Option.some.injEq] at hb; exact .inr hb.symm
  · have : q ≠ 500 := fun e => by subst e; rw [cQ] at hk2; cases hk2
    simp [β', this]
  · by_cases e : q = 500
    · rw [e, hfut]; exact LeV.fut _
    · exact absurd (eJ _ e) hk
  · rw [dF, eg] at hb
    simp only [blk, Option.some.injEq] at hb
    right; omega
set_option maxHeartbeats 16000000 in
set_option maxRecDepth 10000 in
/-- One ahead of a list. -/
theorem rM (fa : Bool) (pk : List IV) (fb : Bool) (m : Nat) (cs : List IV) (hm : m ≤ 900000) (hc : cs.length = m) : ACalls Tryz.prog 77 [.imm (.sl fa 2 [.sl true 1 [.ptr pk 0], .sl fb m cs])] [] (.imm (.sl false (1 + m) (.ptr pk 0 :: cs))) [] := by
  have cg := aAp (1 + m) (by omega) (by omega)
  rw [show ((1 + m : Nat) : Int) = 1 + (m : Int) by omega] at cg
  refine cK Tryz.func77 rfl rfl (nb rfl) rfl ?_
  refine cP (eH 500 (by simp) rfl rfl) ?_
  repeat' (first | refine aE ?_ | (refine aG ?_;  first | refine aB tabOk rfl rfl rfl (nb rfl) rfl ?_ | refine aT tabOk rfl rfl (nb rfl) rfl ?_) | (refine aK ?_;  first | refine aF ?_ | refine aL ?_ | refine aR ?_))
  refine bZ (ι := {j : Nat // j ≤ 2}) (fun j => S.f ⟨[(11, .imm (.lit (.int .i64 (j.1 : Int)))), (10, .imm (.lit (.int .i64 2))), (9, .imm (.sl fa 2 [.sl true 1 [.ptr pk 0], .sl fb m cs])), (0, .imm (.sl fa 2 [.sl true 1 [.ptr pk 0], .sl fb m cs])), (3, .imm (.lit (.int .i64 (if j.1 = 0 then 0 else if j.1 = 1 then 1 else 1 + (m : Int)))))], [(500, .fut)]⟩) (fun j => 2 - j.1) ⟨0, Nat.zero_le _⟩ (bT (by repeat' first | exact trivial | refine ⟨rfl, ?_⟩) (by repeat' first | exact trivial | refine ⟨rfl, ?_⟩)) ?_
  rintro ⟨j, hj⟩
  dsimp only
  match j, hj with
  | 0, _ =>
    repeat' (first | refine aE ?_ | (refine aG ?_;  first | refine aB tabOk rfl rfl rfl (nb rfl) rfl ?_ | (refine aI rfl rfl rfl (nb rfl) rfl rfl rfl (fun hq => ?_) (fun hq => ?_) <;> (first | (simp only [sD, sE, sB, sC, sN, sM, sT, sF] at hq; try (exfalso; omega)) | skip)) | refine bO rfl rfl rfl (nb rfl) rfl rfl (by omega) ?_ | refine cO rfl rfl rfl (nb rfl) rfl rfl rfl (by omega) (by omega) ?_ | refine aT tabOk rfl rfl (nb rfl) rfl ?_ | refine bB tabOk rfl rfl rfl (nb rfl) rfl rfl rfl rfl (by first | assumption | omega) ?_) | (refine aK ?_;  first | refine aF ?_ | refine aL ?_ | refine bD ?_ | refine aR ?_ | refine aS ?_ | refine aC (b := true) rfl (fun _ => ?_) nTf | refine aC (b := false) rfl nFt (fun _ => ?_)) | (refine aJ ?_;  first | refine aU ?_) | (refine aP ?_;  first | refine bM ?_))
    all_goals first
      | (exfalso; omega)
      | exact ⟨⟨1, by omega⟩, (by show 2 - 1 < 2 - 0; omega), (bT (by repeat' first | exact trivial | refine ⟨rfl, ?_⟩) (by repeat' first | exact trivial | refine ⟨rfl, ?_⟩))⟩
  | 1, _ =>
    repeat' (first | refine aE ?_ | (refine aG ?_;  first | refine aB tabOk rfl rfl rfl (nb rfl) rfl ?_ | (refine aI rfl rfl rfl (nb rfl) rfl rfl rfl (fun hq => ?_) (fun hq => ?_) <;> (first | (simp only [sD, sE, sB, sC, sN, sM, sT, sF] at hq; try (exfalso; omega)) | skip)) | refine cO (z := 1 + (m : Int)) rfl rfl rfl (nb rfl) rfl rfl rfl (by omega) (by omega) ?_ | refine bO rfl rfl rfl (nb rfl) rfl rfl (by omega) ?_ | refine aT tabOk rfl rfl (nb rfl) rfl ?_ | refine bB tabOk rfl rfl rfl (nb rfl) rfl rfl rfl rfl (by first | assumption | omega) ?_) | (refine aK ?_;  first | refine aF ?_ | refine aL ?_ | refine bD ?_ | refine aR ?_ | refine aS ?_ | refine aC (b := true) rfl (fun _ => ?_) nTf | refine aC (b := false) rfl nFt (fun _ => ?_)) | (refine aJ ?_;  first | refine aU ?_) | (refine aP ?_;  first | refine bM ?_))
    all_goals first
      | (exfalso; omega)
      | exact ⟨⟨2, by omega⟩, (by show 2 - 2 < 2 - 1; omega), (bT (by repeat' first | exact trivial | refine ⟨rfl, ?_⟩) (by repeat' first | exact trivial | refine ⟨rfl, ?_⟩))⟩
  | 2, _ =>
    rw [if_neg (by decide), if_neg (by decide)]
    repeat' (first | refine aE ?_ | (refine aG ?_;  first | refine aB tabOk rfl rfl rfl (nb rfl) rfl ?_ | (refine aI rfl rfl rfl (nb rfl) rfl rfl rfl (fun hq => ?_) (fun hq => ?_) <;> (first | (simp only [sD, sE, sB, sC, sN, sM, sT, sF] at hq; try (exfalso; omega)) | skip)) | refine bW rfl rfl (nb rfl) rfl rfl rfl rfl cg (by repeat' first | exact trivial | refine ⟨rfl, ?_⟩) rfl (by show ([500] : List Nat).Nodup; decide) ?_ | refine aT tabOk rfl rfl (nb rfl) rfl ?_) | (refine aK ?_;  first | refine aF ?_ | refine aL ?_ | refine aR ?_ | refine bQ ?_ | refine aC (b := false) rfl nFt (fun _ => ?_)) | (refine aJ ?_;  first | refine aU ?_ | refine bH ?_) | (refine aP ?_;  first | refine bE ?_))
    all_goals first
      | (exfalso; omega)
      | skip
    refine bZ (ι := {j : Nat // j ≤ 2}) (fun j => S.f ⟨[(27, .imm (.lit (.int .i64 (j.1 : Int)))), (26, .imm (.lit (.int .i64 2))), (25, .imm (.sl fa 2 [.sl true 1 [.ptr pk 0], .sl fb m cs])), (6, .ref 500 (if j.1 = 0 then 0 else if j.1 = 1 then 1 else 1 + m))], [(500, .arr 25 1 (if j.1 = 0 then 0 else if j.1 = 1 then 1 else 1 + m) (if j.1 = 0 then [] else if j.1 = 1 then [.ptr pk 0] else .ptr pk 0 :: cs))]⟩) (fun j => 2 - j.1) ⟨0, Nat.zero_le _⟩ (bT (by repeat' first | exact trivial | refine ⟨rfl, ?_⟩) (by repeat' first | exact trivial | refine ⟨rfl, ?_⟩)) ?_
    rintro ⟨j, hj⟩
    dsimp only
    match j, hj with
    | 0, _ =>
      rw [if_pos rfl, if_pos rfl]
      repeat' (first | refine aE ?_ | (refine aG ?_;  first | refine aB tabOk rfl rfl rfl (nb rfl) rfl ?_ | (refine aI rfl rfl rfl (nb rfl) rfl rfl rfl (fun hq => ?_) (fun hq => ?_) <;> (first | (simp only [sD, sE, sB, sC, sN, sM, sT, sF] at hq; try (exfalso; omega)) | skip)) | refine cI tabOk rfl rfl rfl (nb rfl) rfl rfl rfl rfl rfl rfl rfl (by first | omega | decide) rfl (by first | omega | (dsimp only; omega)) (by first | omega | (dsimp only; omega)) ?_ | refine bO rfl rfl rfl (nb rfl) rfl rfl (by omega) ?_ | refine bB tabOk rfl rfl rfl (nb rfl) rfl rfl rfl rfl (by first | assumption | omega) ?_) | (refine aK ?_;  first | refine aF ?_ | refine aL ?_ | refine bD ?_ | refine aR ?_ | refine aS ?_ | refine aC (b := true) rfl (fun _ => ?_) nTf) | (refine aJ ?_;  first | refine aU ?_) | (refine aP ?_;  first | refine bM ?_))
      all_goals first
        | (exfalso; omega)
        | exact ⟨⟨1, by omega⟩, (by show 2 - 1 < 2 - 0; omega), (bT (by repeat' first | exact trivial | refine ⟨rfl, ?_⟩) (by repeat' first | exact trivial | refine ⟨rfl, ?_⟩))⟩
    | 1, _ =>
      rw [if_neg (by decide), if_pos rfl, if_neg (by decide), if_pos rfl]
      by_cases h0 : m = 0
      · subst h0
        have e0 : cs = [] := List.eq_nil_of_length_eq_zero hc
        subst e0
        repeat' (first | refine aE ?_ | (refine aG ?_;  first | refine aB tabOk rfl rfl rfl (nb rfl) rfl ?_ | (refine aI rfl rfl rfl (nb rfl) rfl rfl rfl (fun hq => ?_) (fun hq => ?_) <;> (first | (simp only [sD, sE, sB, sC, sN, sM, sT, sF] at hq; try (exfalso; omega)) | skip)) | refine qN tabOk rfl rfl rfl (nb rfl) rfl rfl rfl (.inl rfl) rfl ?_ | refine bO rfl rfl rfl (nb rfl) rfl rfl (by omega) ?_ | refine bB tabOk rfl rfl rfl (nb rfl) rfl rfl rfl rfl (by first | assumption | omega) ?_) | (refine aK ?_;  first | refine aF ?_ | refine aL ?_ | refine bD ?_ | refine aR ?_ | refine aS ?_ | refine aC (b := true) rfl (fun _ => ?_) nTf) | (refine aJ ?_;  first | refine aU ?_) | (refine aP ?_;  first | refine bM ?_))
        all_goals first
          | (exfalso; omega)
          | exact ⟨⟨2, by omega⟩, (by show 2 - 2 < 2 - 1; omega), (bT (by repeat' first | exact trivial | refine ⟨rfl, ?_⟩) (by repeat' first | exact trivial | refine ⟨rfl, ?_⟩))⟩
      · repeat' (first | refine aE ?_ | (refine aG ?_;  first | refine aB tabOk rfl rfl rfl (nb rfl) rfl ?_ | (refine aI rfl rfl rfl (nb rfl) rfl rfl rfl (fun hq => ?_) (fun hq => ?_) <;> (first | (simp only [sD, sE, sB, sC, sN, sM, sT, sF] at hq; try (exfalso; omega)) | skip)) | refine cI tabOk rfl rfl rfl (nb rfl) rfl rfl rfl rfl rfl rfl rfl (by omega) (hc.trans (Nat.mul_one m).symm) (by first | omega | (dsimp only; omega)) (by first | omega | (dsimp only; omega)) ?_ | refine bO rfl rfl rfl (nb rfl) rfl rfl (by omega) ?_ | refine bB tabOk rfl rfl rfl (nb rfl) rfl rfl rfl rfl (by first | assumption | omega) ?_) | (refine aK ?_;  first | refine aF ?_ | refine aL ?_ | refine bD ?_ | refine aR ?_ | refine aS ?_ | refine aC (b := true) rfl (fun _ => ?_) nTf) | (refine aJ ?_;  first | refine aU ?_) | (refine aP ?_;  first | refine bM ?_))
        all_goals first
          | (exfalso; omega)
          | exact ⟨⟨2, by omega⟩, (by show 2 - 2 < 2 - 1; omega), (bT (by repeat' first | exact trivial | refine ⟨rfl, ?_⟩) (by repeat' first | exact trivial | refine ⟨rfl, ?_⟩))⟩
    | 2, _ =>
      rw [if_neg (by decide), if_neg (by decide), if_neg (by decide), if_neg (by decide)]
      repeat' (first | refine aE ?_ | (refine aG ?_;  first | refine aB tabOk rfl rfl rfl (nb rfl) rfl ?_ | (refine aI rfl rfl rfl (nb rfl) rfl rfl rfl (fun hq => ?_) (fun hq => ?_) <;> (first | (simp only [sD, sE, sB, sC, sN, sM, sT, sF] at hq; try (exfalso; omega)) | skip))) | (refine aK ?_;  first | refine aF ?_ | refine aL ?_ | refine aM ?_ | refine bQ ?_ | refine aC (b := false) rfl nFt (fun _ => ?_)) | (refine aJ ?_;  first | refine aU ?_ | refine bH ?_) | (refine aP ?_;  first | refine bE ?_))
      all_goals first
        | (exfalso; omega)
        | (refine dS ((Imp.of_le (σ' := S.f ⟨[(2, .ref 500 (1 + m))], [(500, .arr 25 1 (1 + m) (.ptr pk 0 :: cs))]⟩) (bT (by repeat' first | exact trivial | refine ⟨rfl, ?_⟩) (by repeat' first | exact trivial | refine ⟨rfl, ?_⟩))).trans (cM (g := 500) rfl (by repeat' first | exact trivial | exact fun _ => rfl | refine ⟨?_, ?_⟩) (by repeat' first | exact trivial | exact fun _ => rfl | refine ⟨?_, ?_⟩))) ?_
           refine aO (by first | exact .inl rfl | exact .inr rfl) (aW rfl (aA rfl)) rfl ?_; rfl)
    | j + 3, h => omega
  | j + 3, h => omega
end Go.Proofs.YtocaohipfiapkaaGreatDoor.Ab
namespace Go.Proofs.YtocaohipfiapkaaGreatDoor.Ab
set_option linter.unusedVariables false
set_option linter.unusedSimpArgs false
open Go.RowKit
attribute [local irreducible] AWP AOps AExit AThen ABlock ANoGoto FeetOk
set_option maxHeartbeats 8000000 in
set_option maxRecDepth 10000 in
theorem aEe (i n d : Int) (s : Bool) (hn0 : 0 ≤ n) (hn : n ≤ 65536) (hd0 : 0 ≤ d) (hd : d ≤ 100000000) :
    ACalls Tryz.prog 141 [.imm (varT n).iv, .imm (.lit (.int .i64 d)), .obj 1000 0, .obj 1001 0] [(1000, .cells [.imm (.lit (.bool s))]), (1001, .cells [.imm (.lit (.int .i64 i))])]
      (.imm (occV i n d s).1.iv) [(1000, .cells [.imm (.lit (.bool (occV i n d s).2))]), (1001, .cells [.imm (.lit (.int .i64 i))])] := by
  cases s with
  | true =>
    have e : occV i n d true = (varT n, true) := rfl
    rw [e]
    unfold varT
    refine bX [1000, 1001] Tryz.func141 rfl rfl (nb rfl) rfl rfl ?_
    repeat' (first | refine aE ?_ | (refine aG ?_;  first | refine aB tabOk rfl rfl rfl (nb rfl) rfl ?_ | refine bL rfl rfl (nb rfl) ?_ | refine bK tabOk rfl rfl rfl (nb rfl) rfl rfl rfl rfl ?_ | refine bG tabOk rfl rfl rfl rfl rfl rfl rfl rfl rfl rfl rfl ?_) | (refine aK ?_;  first | refine aF ?_ | refine aL ?_ | refine aM ?_ | refine aQ mixed (by kernel_rfl) ?_) | (refine aJ ?_;  first | refine aU ?_) | refine bC (aZ (by kernel_rfl)) ?_)
    all_goals first
      | exact absurd rfl (by assumption)
      | (exfalso; omega)
      | (refine cB (cA (by first | exact .inl rfl | exact .inr rfl) (aW rfl (aA rfl)) rfl (by repeat' first | exact trivial | refine ⟨rfl, ?_⟩) rfl ?_); rfl)
  | false =>
    by_cases h : 0 ≤ i ∧ d ≤ n ∧ n - d = i
    · have e : occV i n d false = (varT n, true) := by unfold occV; rw [decide_eq_true h]; rfl
      rw [e]
      unfold varT
      obtain ⟨h1, h2, h3⟩ := h
      refine bX [1000, 1001] Tryz.func141 rfl rfl (nb rfl) rfl rfl ?_
      repeat' (first | refine aE ?_ | (refine aG ?_;  first | refine aB tabOk rfl rfl rfl (nb rfl) rfl ?_ | (refine aI rfl rfl rfl (nb rfl) rfl rfl rfl (fun hq => ?_) (fun hq => ?_) <;> (first | (simp only [sD, sE, sB, sC, sN, sM, sT, sF] at hq; try (exfalso; omega)) | skip)) | refine cF rfl rfl rfl (nb rfl) rfl rfl rfl (by omega) (by omega) ?_ | refine bK tabOk rfl rfl rfl (nb rfl) rfl rfl rfl rfl ?_ | refine bG tabOk rfl rfl rfl rfl rfl rfl rfl rfl rfl rfl rfl ?_) | (refine aK ?_;  first | refine aF ?_ | refine aL ?_ | refine aM ?_ | refine aQ mixed (by kernel_rfl) ?_) | (refine aJ ?_;  first | refine aU ?_) | refine bC (aZ (by kernel_rfl)) ?_)
      all_goals first
        | exact absurd rfl (by assumption)
        | (exfalso; omega)
        | (refine cB (cA (by first | exact .inl rfl | exact .inr rfl) (aW rfl (aA rfl)) rfl (by repeat' first | exact trivial | refine ⟨rfl, ?_⟩) rfl ?_); rfl)
    · have e : occV i n d false = (varT n, false) := by unfold occV; rw [decide_eq_false h]; rfl
      rw [e]
      unfold varT
      refine bX [1000, 1001] Tryz.func141 rfl rfl (nb rfl) rfl rfl ?_
      repeat' (first | refine aE ?_ | (refine aG ?_;  first | refine aB tabOk rfl rfl rfl (nb rfl) rfl ?_ | refine bL rfl rfl (nb rfl) ?_ | (refine aI rfl rfl rfl (nb rfl) rfl rfl rfl (fun hq => ?_) (fun hq => ?_) <;> (first | (simp only [sD, sE, sB, sC, sN, sM, sT, sF] at hq; try (exfalso; omega)) | skip)) | refine cF rfl rfl rfl (nb rfl) rfl rfl rfl (by omega) (by omega) ?_ | refine bK tabOk rfl rfl rfl (nb rfl) rfl rfl rfl rfl ?_ | refine bG tabOk rfl rfl rfl rfl rfl rfl rfl rfl rfl rfl rfl ?_) | (refine aK ?_;  first | refine aF ?_ | refine aL ?_ | refine aM ?_ | refine aQ mixed (by kernel_rfl) ?_) | (refine aJ ?_;  first | refine aU ?_) | refine bC (aZ (by kernel_rfl)) ?_)
      all_goals first
        | exact absurd rfl (by assumption)
        | (exfalso; omega)
        | (refine cB (cA (by first | exact .inl rfl | exact .inr rfl) (aW rfl (aA rfl)) rfl (by repeat' first | exact trivial | refine ⟨rfl, ?_⟩) rfl ?_); rfl)
set_option maxHeartbeats 8000000 in
set_option maxRecDepth 10000 in
theorem wS (t : Tree) (i : Int) (hs : t.size ≤ 100000000) : ACalls Tryz.prog 126 [.imm t.iv, .imm (.lit (.int .i64 i))] [] (.imm (.lit (.bool (occP t i)))) [] := by
  have c1 := eA t hs
  unfold occP
  by_cases hc : checkP isConP t = 0
  · rw [decide_eq_true hc, Bool.true_and]
    obtain ⟨hw, hz, hf⟩ := bI hc
    have hv := dR t hf
    have cw := (aDC (σ := Bool) (occV i) 141 (fun s => .lit (.bool s)) (fun _ => .lit (.int .i64 i)) (fun _ => True)
      (fun n d s _ h1 h2 h3 h4 => ⟨aEe i n d s h1 h2 h3 h4, trivial, by unfold occV varT; simp⟩) t 0 false hv hw (Int.le_refl _) (by omega) trivial).1
    rw [aDD i t 0 false hv, Bool.false_or] at cw
    rw [hc] at c1
    generalize decide (0 ≤ i ∧ 0 < cntP i t 0) = Q at *
    generalize (walkS (occV i) t 0 false).1 = W at *
    clear hc hw hz hf hv
    refine aH Tryz.func126 rfl rfl (nb rfl) rfl ?_
    repeat' (first | refine aE ?_ | (refine aG ?_;  first | refine aB tabOk rfl rfl rfl (nb rfl) rfl ?_ | (refine aI rfl rfl rfl (nb rfl) rfl rfl rfl (fun hq => ?_) (fun hq => ?_) <;> (first | (simp only [sD, sE, sB, sC, sN, sM, sT, sF] at hq; try (exfalso; omega)) | skip)) | refine aD rfl rfl (nb rfl) rfl rfl rfl rfl (c1) ?_ | refine cH 1001 (d := 3) rfl rfl rfl (nb rfl) rfl rfl rfl rfl rfl rfl rfl ?_ | refine cD 1000 tabOk rfl rfl rfl (nb rfl) rfl rfl rfl rfl rfl rfl ?_ | refine bW rfl rfl (nb rfl) rfl rfl rfl rfl cw (by repeat' first | exact trivial | refine ⟨rfl, ?_⟩) rfl (by show ([1000, 1001] : List Nat).Nodup; decide) ?_ | refine bK tabOk rfl rfl rfl (nb rfl) rfl rfl rfl rfl ?_ | refine bG tabOk rfl rfl rfl rfl rfl rfl rfl rfl rfl rfl rfl ?_) | (refine aK ?_;  first | refine aF ?_ | refine aL ?_ | refine bD ?_ | refine aM ?_ | refine aC (b := true) rfl (fun _ => ?_) nTf) | (refine aJ ?_;  first | refine aU ?_))
    all_goals first
      | exact absurd rfl (by assumption)
      | (exfalso; omega)
      | (refine aO (by first | exact .inl rfl | exact .inr rfl) (aW rfl (aA rfl)) rfl ?_; rfl)
  · rw [decide_eq_false hc, Bool.false_and]
    generalize checkP isConP t = C at *
    refine aH Tryz.func126 rfl rfl (nb rfl) rfl ?_
    repeat' (first | refine aE ?_ | (refine aG ?_;  first | refine aB tabOk rfl rfl rfl (nb rfl) rfl ?_ | (refine aI rfl rfl rfl (nb rfl) rfl rfl rfl (fun hq => ?_) (fun hq => ?_) <;> (first | (simp only [sD, sE, sB, sC, sN, sM, sT, sF] at hq; try (exfalso; omega)) | skip)) | refine aD rfl rfl (nb rfl) rfl rfl rfl rfl (c1) ?_ | refine cH 1001 (d := 3) rfl rfl rfl (nb rfl) rfl rfl rfl rfl rfl rfl rfl ?_ | refine cD 1000 tabOk rfl rfl rfl (nb rfl) rfl rfl rfl rfl rfl rfl ?_ | refine bK tabOk rfl rfl rfl (nb rfl) rfl rfl rfl rfl ?_ | refine bG tabOk rfl rfl rfl rfl rfl rfl rfl rfl rfl rfl rfl ?_) | (refine aK ?_;  first | refine aF ?_ | refine aL ?_ | refine aM ?_ | refine aS ?_ | refine aC (b := false) rfl nFt (fun _ => ?_)) | (refine aJ ?_;  first | refine aU ?_))
    all_goals first
      | exact absurd (by assumption) hc
      | (exfalso; omega)
      | (refine aO (by first | exact .inl rfl | exact .inr rfl) (aW rfl (aA rfl)) rfl ?_; rfl)
end Go.Proofs.YtocaohipfiapkaaGreatDoor.Ab
namespace Go.Proofs.YtocaohipfiapkaaGreatDoor.Ab
set_option linter.unusedVariables false
set_option linter.unusedSimpArgs false
open Go.RowKit
attribute [local irreducible] AWP AOps AExit AThen ABlock ANoGoto FeetOk
theorem mZ : starK.iv = .ptr [.lit (.int .i64 100), .lit (.int .i64 0), .lit (.string ⟨#[]⟩), .lit (.string ⟨#[]⟩), .sl false 0 []] 0 := rfl
set_option maxHeartbeats 4000000 in
set_option maxRecDepth 10000 in
theorem aAq : ACalls Tryz.prog 51 [] [] (.imm starK.iv) [] := by
  refine aH Tryz.func51 rfl rfl (nb rfl) rfl ?_
  repeat' (first | refine aE ?_ | (refine aG ?_;  first | refine aB tabOk rfl rfl rfl (nb rfl) rfl ?_ | refine aT tabOk rfl rfl (nb rfl) rfl ?_) | (refine aK ?_;  first | refine aF ?_ | refine aM ?_))
  all_goals (refine aO (by first | exact .inl rfl | exact .inr rfl) (aW rfl (aA rfl)) rfl ?_; rfl)
set_option maxHeartbeats 4000000 in
set_option maxRecDepth 10000 in
theorem aBt (t : Tree) (i : Int) (hs : t.size ≤ 100000000) : ACalls Tryz.prog 111 [.imm t.iv, .imm (.lit (.int .i64 i))] [] (.imm (.lit (.bool (occP t i)))) [] := by
  have c1 := wS t i hs
  refine aH Tryz.func111 rfl rfl (nb rfl) rfl ?_
  repeat' (first | refine aE ?_ | (refine aG ?_;  first | refine aB tabOk rfl rfl rfl (nb rfl) rfl ?_ | refine aD rfl rfl (nb rfl) rfl rfl rfl rfl (c1) ?_) | (refine aK ?_;  first | refine aF ?_ | refine aM ?_))
  all_goals (refine aO (by first | exact .inl rfl | exact .inr rfl) (aW rfl (aA rfl)) rfl ?_; rfl)
/-- What lies in fields, in cases. -/
def innerP (kids : List Tree) : List Tree := kids.map kid0
set_option maxHeartbeats 8000000 in
set_option maxRecDepth 10000 in
theorem aDE (k n : Int) (a b : ByteArray) (kids : List Tree) (hl : kids.length ≤ 900000) (hk : ∀ t ∈ kids, ∃ k' n' a' b' c, t = .node k' n' a' b' [c] ∧ c.whole = true) :
    ACalls Tryz.prog 48 [.imm (Tree.iv (.node k n a b kids))] [] (.imm (.sl false (innerP kids).length (Tree.ivs (innerP kids)))) [] := by
  have hlen : (innerP kids).length = kids.length := List.length_map ..
  rw [hlen]
  refine cK Tryz.func48 rfl rfl (nb rfl) rfl ?_
  repeat' (first | refine aE ?_ | (refine aG ?_;  first | refine aB tabOk rfl rfl rfl (nb rfl) rfl ?_ | refine aT tabOk rfl rfl (nb rfl) rfl ?_) | (refine aK ?_;  first | refine aF ?_ | refine aL ?_ | refine aR ?_))
  refine cP (mL (t := 3) 500 25 1 rfl (by simp) rfl rfl) ?_
  refine bZ (ι := {j : Nat // j ≤ kids.length}) (fun j => S.f ⟨[(11, .imm (.lit (.int .i64 (j.1 : Int)))), (10, .imm (.lit (.int .i64 (kids.length : Int)))), (9, .imm (.sl false kids.length (Tree.ivs kids))), (3, .ref 500 j.1)], [(500, .arr 25 1 j.1 (Tree.ivs (innerP (kids.take j.1))))]⟩) (fun j => kids.length - j.1) ⟨0, Nat.zero_le _⟩ (bT (by repeat' first | exact trivial | refine ⟨rfl, ?_⟩) (by repeat' first | exact trivial | refine ⟨rfl, ?_⟩)) ?_
  rintro ⟨j, hj⟩
  dsimp only
  by_cases hlt : j < kids.length
  · have hget := cC kids j hlt
    obtain ⟨k', n', a', b', c, e, hcw⟩ := hk _ (List.getElem_mem hlt)
    obtain ⟨pc, hpc⟩ := bR (bJ hcw)
    have hnx : Tree.ivs (innerP (kids.take (j + 1))) = Tree.ivs (innerP (kids.take j)) ++ [.ptr pc 0] := by
      unfold innerP
      rw [List.take_succ_eq_append_getElem hlt, List.map_append, dC, dC, List.map_append, e]
      show _ ++ [c.iv] = _
      rw [hpc]
    have hil := dG (innerP (kids.take j))
    unfold innerP at hil
    rw [List.length_map, List.length_take, Nat.min_eq_left hj] at hil
    rw [e] at hget
    have en : (Tree.node k' n' a' b' [c]).iv = .ptr [.lit (.int .i64 k'), .lit (.int .i64 n'), .lit (.string a'), .lit (.string b'), .sl false 1 [.ptr pc 0]] 0 := by
      rw [Tree.iv, Tree.ivs, Tree.ivs, hpc]; rfl
    rw [en] at hget
    change (Tree.ivs (innerP (kids.take j))).length = j at hil
    clear hk
    generalize Tree.ivs (innerP (kids.take j)) = ZI at *
    repeat' (first | refine aE ?_ | (refine aG ?_;  first | refine aB tabOk rfl rfl rfl (nb rfl) rfl ?_ | (refine aI rfl rfl rfl (nb rfl) rfl rfl rfl (fun hq => ?_) (fun hq => ?_) <;> (first | (simp only [sD, sE, sB, sC, sN, sM, sT, sF] at hq; try (exfalso; omega)) | skip)) | refine bA tabOk rfl rfl rfl (nb rfl) rfl rfl rfl hget ?_ | refine cI tabOk rfl rfl rfl (nb rfl) rfl rfl rfl rfl rfl rfl rfl (by first | omega | decide) rfl (by first | omega | (dsimp only; omega)) (by first | omega | (dsimp only; omega)) ?_ | refine bO rfl rfl rfl (nb rfl) rfl rfl (by omega) ?_ | refine bS tabOk rfl rfl rfl (nb rfl) rfl rfl rfl rfl rfl rfl rfl rfl rfl ?_ | refine bB tabOk rfl rfl rfl (nb rfl) rfl rfl rfl rfl (by first | assumption | omega) ?_ | refine aY tabOk rfl rfl rfl (nb rfl) rfl rfl rfl rfl (by first | rfl | omega) (by first | omega | simp) ?_) | (refine aK ?_;  first | refine aF ?_ | refine aL ?_ | refine bD ?_ | refine aR ?_ | refine aS ?_ | refine aC (b := true) rfl (fun _ => ?_) nTf) | (refine aJ ?_;  first | refine aU ?_) | (refine aP ?_;  first | refine bM ?_))
    all_goals first
      | (exfalso; omega)
      | (refine ⟨⟨j + 1, hlt⟩, (by show kids.length - (j + 1) < kids.length - j; omega), ?_⟩; dsimp only; rw [hnx]; exact (bT (by repeat' first | exact trivial | refine ⟨rfl, ?_⟩) (by repeat' first | exact trivial | refine ⟨rfl, ?_⟩)))
  · have ej : j = kids.length := by omega
    subst ej
    rw [List.take_length]
    generalize Tree.ivs (innerP kids) = ZI at *
    repeat' (first | refine aE ?_ | (refine aG ?_;  first | refine aB tabOk rfl rfl rfl (nb rfl) rfl ?_ | (refine aI rfl rfl rfl (nb rfl) rfl rfl rfl (fun hq => ?_) (fun hq => ?_) <;> (first | (simp only [sD, sE, sB, sC, sN, sM, sT, sF] at hq; try (exfalso; omega)) | skip))) | (refine aK ?_;  first | refine aF ?_ | refine aL ?_ | refine aM ?_ | refine bQ ?_ | refine aC (b := false) rfl nFt (fun _ => ?_)) | (refine aJ ?_;  first | refine aU ?_ | refine bH ?_) | (refine aP ?_;  first | refine bE ?_))
    all_goals first
      | (exfalso; omega)
      | (refine dS ((Imp.of_le (σ' := S.f ⟨[(2, .ref 500 kids.length)], [(500, .arr 25 1 kids.length ZI)]⟩) (bT (by repeat' first | exact trivial | refine ⟨rfl, ?_⟩) (by repeat' first | exact trivial | refine ⟨rfl, ?_⟩))).trans (cM (g := 500) rfl (by repeat' first | exact trivial | exact fun _ => rfl | refine ⟨?_, ?_⟩) (by repeat' first | exact trivial | exact fun _ => rfl | refine ⟨?_, ?_⟩))) ?_
         refine aO (by first | exact .inl rfl | exact .inr rfl) (aW rfl (aA rfl)) rfl ?_; rfl)
end Go.Proofs.YtocaohipfiapkaaGreatDoor.Ab
namespace Go.Proofs.YtocaohipfiapkaaGreatDoor.Ab
set_option linter.unusedVariables false
set_option linter.unusedSimpArgs false
open Go.RowKit
attribute [local irreducible] AWP AOps AExit AThen ABlock ANoGoto FeetOk
theorem nA : ∀ l : List Tree, placedFs l = !(l.any fun t => !placedF t)
  | [] => rfl
  | t :: ts => by rw [placedFs, nA ts, List.any_cons]; cases placedF t <;> simp
set_option maxHeartbeats 4000000 in
set_option maxRecDepth 10000 in
theorem aBu (k n : Int) (a b : ByteArray) (c : Tree) (q : Bool)
    (h : ACalls Tryz.prog 78 [.imm c.iv] [] (.imm (.lit (.bool q))) []) :
    ACalls Tryz.prog 110 [.imm (Tree.iv (.node k n a b [c]))] [] (.imm (.lit (.bool (!q)))) [] := by
  refine aH Tryz.func110 rfl rfl (nb rfl) rfl ?_
  repeat' (first | refine aE ?_ | (refine aG ?_;  first | refine aB tabOk rfl rfl rfl (nb rfl) rfl ?_ | refine aD rfl rfl (nb rfl) rfl rfl rfl rfl (h) ?_ | refine aY tabOk rfl rfl rfl (nb rfl) rfl rfl rfl rfl (by first | rfl | omega) (by first | omega | simp) ?_) | (refine aK ?_;  first | refine aF ?_ | refine aM ?_))
  all_goals (refine aO (by first | exact .inl rfl | exact .inr rfl) (aW rfl (aA rfl)) rfl ?_; rfl)
set_option maxHeartbeats 8000000 in
set_option maxRecDepth 10000 in
theorem aCE (t : Tree) : isConP t = true → t.whole = true → t.size ≤ 100000000 → ACalls Tryz.prog 78 [.imm t.iv] [] (.imm (.lit (.bool (placedP t)))) [] := by
  induction t using Tree.sind with
  | h t ih =>
    intro hf hw hs
    have c2 := aBt t 0 hs
    obtain ⟨k, n, a, b, kids, rfl⟩ := bY hw
    have hl : kids.length < 1000000000 := by have := cG kids hw; simp only [Tree.size] at hs; omega
    rw [placedP]
    by_cases h1 : k = 110
    · subst h1
      rw [if_pos rfl]
      clear c2 ih
      refine aH Tryz.func78 rfl rfl (nb rfl) rfl ?_
      repeat' (first | refine aE ?_ | (refine aG ?_;  first | refine aB tabOk rfl rfl rfl (nb rfl) rfl ?_ | (refine aI rfl rfl rfl (nb rfl) rfl rfl rfl (fun hq => ?_) (fun hq => ?_) <;> (first | (simp only [sD, sE, sB, sC, sN, sM, sT, sF] at hq; try (exfalso; omega)) | skip))) | (refine aK ?_;  first | refine aF ?_ | refine aL ?_ | refine aR ?_ | refine aM ?_ | refine aC (b := true) rfl (fun _ => ?_) nTf) | (refine aJ ?_;  first | refine aN ?_) | (refine aP ?_;  first | refine aX ?_))
      all_goals first
        | exact absurd rfl (by assumption)
        | (exfalso; omega)
        | (refine aO (by first | exact .inl rfl | exact .inr rfl) (aW rfl (aA rfl)) rfl ?_; rfl)
    · rw [if_neg h1]
      by_cases h2 : k = 115
      · subst h2
        rw [if_pos rfl]
        have hp := (dJ hf).2.2.1 rfl
        have c1 := jD kids 110 (fun t => !placedF t) hl fun j h => by
          have hm := List.getElem_mem h
          obtain ⟨n', a', b', c, e, hc⟩ := hp _ hm
          have hz := bN (k := 115) (n := n) (a := a) (b := b) hm
          have hwj := bF hw hm
          try dsimp only
          rw [e] at hz hwj ⊢
          have hz2 := bN (k := 116) (n := n') (a := a') (b := b') (kids := [c]) (t := c) (by simp)
          rw [placedF, placedH]
          exact aBu 116 n' a' b' c _ (ih c (by omega) hc (bF hwj (by simp)) (by omega))
        rw [nA]
        generalize (kids.any fun t => !placedF t) = Q at *
        clear c2 ih
        refine aH Tryz.func78 rfl rfl (nb rfl) rfl ?_
        repeat' (first | refine aE ?_ | (refine aG ?_;  first | refine aB tabOk rfl rfl rfl (nb rfl) rfl ?_ | (refine aI rfl rfl rfl (nb rfl) rfl rfl rfl (fun hq => ?_) (fun hq => ?_) <;> (first | (simp only [sD, sE, sB, sC, sN, sM, sT, sF] at hq; try (exfalso; omega)) | skip)) | refine aD rfl rfl (nb rfl) rfl rfl rfl rfl (c1) ?_) | (refine aK ?_;  first | refine aF ?_ | refine aL ?_ | refine aR ?_ | refine aM ?_ | refine aC (b := true) rfl (fun _ => ?_) nTf | refine aC (b := false) rfl nFt (fun _ => ?_)) | (refine aJ ?_;  first | refine aN ?_) | (refine aP ?_;  first | refine aX ?_))
        all_goals first
          | exact absurd rfl (by assumption)
          | (exfalso; omega)
          | (refine aO (by first | exact .inl rfl | exact .inr rfl) (aW rfl (aA rfl)) rfl ?_; rfl)
      · rw [if_neg h2]
        generalize occP (.node k n a b kids) 0 = Q at *
        clear ih
        refine aH Tryz.func78 rfl rfl (nb rfl) rfl ?_
        repeat' (first | refine aE ?_ | (refine aG ?_;  first | refine aB tabOk rfl rfl rfl (nb rfl) rfl ?_ | (refine aI rfl rfl rfl (nb rfl) rfl rfl rfl (fun hq => ?_) (fun hq => ?_) <;> (first | (simp only [sD, sE, sB, sC, sN, sM, sT, sF] at hq; try (exfalso; omega)) | skip)) | refine aD rfl rfl (nb rfl) rfl rfl rfl rfl (c2) ?_) | (refine aK ?_;  first | refine aF ?_ | refine aL ?_ | refine aR ?_ | refine aM ?_ | refine aS ?_ | refine aC (b := false) rfl nFt (fun _ => ?_)) | (refine aJ ?_;  first | refine aU ?_) | (refine aP ?_;  first | refine bM ?_))
        all_goals first
          | exact absurd rfl (by assumption)
          | (exfalso; omega)
          | (refine aO (by first | exact .inl rfl | exact .inr rfl) (aW rfl (aA rfl)) rfl ?_; rfl)
set_option maxHeartbeats 8000000 in
set_option maxRecDepth 10000 in
theorem aEf (k n : Int) (a b : ByteArray) (kids : List Tree) (hl : kids.length ≤ 900000) (hk : ∀ t ∈ kids, ∃ n' a' b' c, t = .node 122 n' a' b' [c] ∧ c.whole = true ∧ isConP c = true ∧ c.size ≤ 100000000) :
    ACalls Tryz.prog 52 [.imm (Tree.iv (.node k n a b kids))] [] (.imm (.lit (.int .i64 (fitsP kids)))) [] := by
  generalize hR : fitsP kids = Q
  refine aH Tryz.func52 rfl rfl (nb rfl) rfl ?_
  repeat' (first | refine aE ?_ | (refine aG ?_;  first | refine aB tabOk rfl rfl rfl (nb rfl) rfl ?_ | refine aT tabOk rfl rfl (nb rfl) rfl ?_) | (refine aK ?_;  first | refine aF ?_ | refine aL ?_ | refine aR ?_))
  refine bZ (ι := {j : Nat // j ≤ kids.length ∧ fitsP (kids.drop j) = Q}) (fun j => S.f ⟨[(10, .imm (.lit (.int .i64 (j.1 : Int)))), (9, .imm (.lit (.int .i64 (kids.length : Int)))), (8, .imm (.sl false kids.length (Tree.ivs kids)))], []⟩) (fun j => kids.length - j.1) ⟨0, Nat.zero_le _, hR⟩ (bT (by repeat' first | exact trivial | refine ⟨rfl, ?_⟩) (by repeat' first | exact trivial | refine ⟨rfl, ?_⟩)) ?_
  clear hR
  rintro ⟨j, hj, hR⟩
  dsimp only
  by_cases hlt : j < kids.length
  · have hget := cC kids j hlt
    obtain ⟨n', a', b', c, e, hcw, hcf, hcs⟩ := hk _ (List.getElem_mem hlt)
    have hc := aCE c hcf hcw hcs
    rw [List.drop_eq_getElem_cons hlt, e] at hR
    rw [e] at hget
    unfold fitsP at hR
    rw [placedFs, placedF, placedH] at hR
    clear hk
    cases hp : placedP c with
    | true =>
      rw [hp, Bool.true_and] at hR
      rw [hp] at hc
      repeat' (first | refine aE ?_ | (refine aG ?_;  first | refine aB tabOk rfl rfl rfl (nb rfl) rfl ?_ | (refine aI rfl rfl rfl (nb rfl) rfl rfl rfl (fun hq => ?_) (fun hq => ?_) <;> (first | (simp only [sD, sE, sB, sC, sN, sM, sT, sF] at hq; try (exfalso; omega)) | skip)) | refine bA tabOk rfl rfl rfl (nb rfl) rfl rfl rfl hget ?_ | refine aD rfl rfl (nb rfl) rfl rfl rfl rfl (hc) ?_ | refine bO rfl rfl rfl (nb rfl) rfl rfl (by omega) ?_ | refine bB tabOk rfl rfl rfl (nb rfl) rfl rfl rfl rfl (by first | assumption | omega) ?_ | refine aY tabOk rfl rfl rfl (nb rfl) rfl rfl rfl rfl (by first | rfl | omega) (by first | omega | simp) ?_) | (refine aK ?_;  first | refine aF ?_ | refine aL ?_ | refine bD ?_ | refine aR ?_ | refine aS ?_ | refine aC (b := true) rfl (fun _ => ?_) nTf | refine aC (b := false) rfl nFt (fun _ => ?_)) | (refine aJ ?_;  first | refine aU ?_) | (refine aP ?_;  first | refine bM ?_))
      all_goals first
        | (exfalso; omega)
        | exact ⟨⟨j + 1, hlt, hR⟩, (by show kids.length - (j + 1) < kids.length - j; omega), (bT (by repeat' first | exact trivial | refine ⟨rfl, ?_⟩) (by repeat' first | exact trivial | refine ⟨rfl, ?_⟩))⟩
    | false =>
      rw [hp, Bool.false_and, if_neg (by decide)] at hR
      rw [hp] at hc
      subst hR
      repeat' (first | refine aE ?_ | (refine aG ?_;  first | refine aB tabOk rfl rfl rfl (nb rfl) rfl ?_ | (refine aI rfl rfl rfl (nb rfl) rfl rfl rfl (fun hq => ?_) (fun hq => ?_) <;> (first | (simp only [sD, sE, sB, sC, sN, sM, sT, sF] at hq; try (exfalso; omega)) | skip)) | refine bA tabOk rfl rfl rfl (nb rfl) rfl rfl rfl hget ?_ | refine aD rfl rfl (nb rfl) rfl rfl rfl rfl (hc) ?_ | refine bB tabOk rfl rfl rfl (nb rfl) rfl rfl rfl rfl (by first | assumption | omega) ?_ | refine aY tabOk rfl rfl rfl (nb rfl) rfl rfl rfl rfl (by first | rfl | omega) (by first | omega | simp) ?_) | (refine aK ?_;  first | refine aF ?_ | refine aL ?_ | refine aR ?_ | refine aM ?_ | refine aS ?_ | refine aC (b := true) rfl (fun _ => ?_) nTf) | (refine aJ ?_;  first | refine aU ?_ | refine aN ?_) | (refine aP ?_;  first | refine aX ?_))
      all_goals first
        | (exfalso; omega)
        | (refine aO (by first | exact .inl rfl | exact .inr rfl) (aW rfl (aA rfl)) rfl ?_; rfl)
  · have ej : j = kids.length := by omega
    subst ej
    rw [List.drop_length] at hR
    unfold fitsP at hR
    rw [placedFs, if_pos rfl] at hR
    subst hR
    repeat' (first | refine aE ?_ | (refine aG ?_;  first | refine aB tabOk rfl rfl rfl (nb rfl) rfl ?_ | (refine aI rfl rfl rfl (nb rfl) rfl rfl rfl (fun hq => ?_) (fun hq => ?_) <;> (first | (simp only [sD, sE, sB, sC, sN, sM, sT, sF] at hq; try (exfalso; omega)) | skip))) | (refine aK ?_;  first | refine aF ?_ | refine aL ?_ | refine aM ?_ | refine bQ ?_ | refine aC (b := false) rfl nFt (fun _ => ?_)) | (refine aJ ?_;  first | refine aU ?_ | refine bH ?_) | (refine aP ?_;  first | refine bE ?_))
    all_goals first
      | (exfalso; omega)
      | (refine aO (by first | exact .inl rfl | exact .inr rfl) (aW rfl (aA rfl)) rfl ?_; rfl)
/-- Do all come to types? -/
def starsG : List (Tree × Int) → Tree × Int
  | [] => (starK, 0)
  | R :: Rs => star1 R (starsG Rs)
theorem lW (ctx : List Tree) : ∀ l : List Tree, starsP l ctx = starsG (l.map fun t => kindP t ctx)
  | [] => by rw [starsP]; rfl
  | t :: ts => by rw [starsP, lW ctx ts]; rfl
theorem lX (ctx : List Tree) : ∀ l : List Tree, starsF l ctx = starsG (l.map fun t => kindF t ctx)
  | [] => by rw [starsF]; rfl
  | t :: ts => by rw [starsF, lX ctx ts]; rfl
set_option maxHeartbeats 8000000 in
set_option maxRecDepth 10000 in
theorem uZ (X : IV) (f : Bool) (l : List Tree) (R : Tree → Tree × Int) (hl : l.length ≤ 900000)
    (hR : ∀ t ∈ l, (R t).2 = 0 → (R t).1.whole = true)
    (h : ∀ t ∈ l, ACalls Tryz.prog 26 [.imm X, .imm t.iv] [] (.imm (.tup [(R t).1.iv, .lit (.int .i64 (R t).2)])) []) :
    ACalls Tryz.prog 47 [.imm X, .imm (.sl f l.length (Tree.ivs l))] [] (.imm (.tup [(starsG (l.map R)).1.iv, .lit (.int .i64 (starsG (l.map R)).2)])) [] := by
  generalize hQ : starsG (l.map R) = Q
  refine aH Tryz.func47 rfl rfl (nb rfl) rfl ?_
  repeat' (first | refine aE ?_ | (refine aG ?_;  first | refine aB tabOk rfl rfl rfl (nb rfl) rfl ?_ | refine aT tabOk rfl rfl (nb rfl) rfl ?_) | (refine aK ?_;  first | refine aF ?_ | refine aL ?_ | refine aR ?_))
  refine bZ (ι := {j : Nat // j ≤ l.length ∧ starsG ((l.drop j).map R) = Q}) (fun j => S.f ⟨[(12, .imm (.lit (.int .i64 (j.1 : Int)))), (11, .imm (.lit (.int .i64 (l.length : Int)))), (10, .imm (.sl f l.length (Tree.ivs l))), (0, .imm X)], []⟩) (fun j => l.length - j.1) ⟨0, Nat.zero_le _, hQ⟩ (bT (by repeat' first | exact trivial | refine ⟨rfl, ?_⟩) (by repeat' first | exact trivial | refine ⟨rfl, ?_⟩)) ?_
  clear hQ
  rintro ⟨j, hj, hQ⟩
  dsimp only
  by_cases hlt : j < l.length
  · have hget := cC l j hlt
    have hm := List.getElem_mem hlt
    have hc := h _ hm
    have hw := hR _ hm
    rw [List.drop_eq_getElem_cons hlt, List.map_cons, starsG] at hQ
    generalize l[j] = t at *
    generalize R t = r at *
    unfold star1 at hQ
    by_cases h0 : r.2 = 0
    · rw [if_neg (by simpa using h0)] at hQ
      obtain ⟨k, n, a, b, ks, hk⟩ := bY (hw h0)
      obtain ⟨r1, r2⟩ := r
      dsimp only at hk h0
      subst hk h0
      rw [Tree.kind] at hQ
      by_cases h1 : k = 100
      · rw [if_neg (by simpa using h1)] at hQ
        clear h hR hw
        repeat' (first | refine aE ?_ | (refine aG ?_;  first | refine aB tabOk rfl rfl rfl (nb rfl) rfl ?_ | (refine aI rfl rfl rfl (nb rfl) rfl rfl rfl (fun hq => ?_) (fun hq => ?_) <;> (first | (simp only [sD, sE, sB, sC, sN, sM, sT, sF] at hq; try (exfalso; omega)) | skip)) | refine bA tabOk rfl rfl rfl (nb rfl) rfl rfl rfl hget ?_ | refine aD rfl rfl (nb rfl) rfl rfl rfl rfl (hc) ?_ | refine bO rfl rfl rfl (nb rfl) rfl rfl (by omega) ?_ | refine bB tabOk rfl rfl rfl (nb rfl) rfl rfl rfl rfl (by first | assumption | omega) ?_) | (refine aK ?_;  first | refine aF ?_ | refine aL ?_ | refine bD ?_ | refine aR ?_ | refine aS ?_ | refine aC (b := true) rfl (fun _ => ?_) nTf | refine aC (b := false) rfl nFt (fun _ => ?_)) | (refine aJ ?_;  first | refine aU ?_) | (refine aP ?_;  first | refine bM ?_))
        all_goals first
          | (exfalso; omega)
          | exact absurd rfl (by assumption)
          | exact ⟨⟨j + 1, hlt, hQ⟩, (by show l.length - (j + 1) < l.length - j; omega), (bT (by repeat' first | exact trivial | refine ⟨rfl, ?_⟩) (by repeat' first | exact trivial | refine ⟨rfl, ?_⟩))⟩
      · rw [if_pos h1] at hQ
        subst hQ
        clear h hR hw
        repeat' (first | refine aE ?_ | (refine aG ?_;  first | refine aB tabOk rfl rfl rfl (nb rfl) rfl ?_ | (refine aI rfl rfl rfl (nb rfl) rfl rfl rfl (fun hq => ?_) (fun hq => ?_) <;> (first | (simp only [sD, sE, sB, sC, sN, sM, sT, sF] at hq; try (exfalso; omega)) | skip)) | refine bA tabOk rfl rfl rfl (nb rfl) rfl rfl rfl hget ?_ | refine aD rfl rfl (nb rfl) rfl rfl rfl rfl (hc) ?_ | refine bB tabOk rfl rfl rfl (nb rfl) rfl rfl rfl rfl (by first | assumption | omega) ?_) | (refine aK ?_;  first | refine aF ?_ | refine aL ?_ | refine aR ?_ | refine aM ?_ | refine aS ?_ | refine aC (b := true) rfl (fun _ => ?_) nTf | refine aC (b := false) rfl nFt (fun _ => ?_)) | (refine aJ ?_;  first | refine aU ?_ | refine aN ?_) | (refine aP ?_;  first | refine aX ?_))
        all_goals first
          | (exfalso; omega)
          | exact absurd rfl (by assumption)
          | (refine aO (by first | exact .inl rfl | exact .inr rfl) (aV rfl (aA rfl) (aA rfl)) rfl ?_; rfl)
    · rw [if_pos h0] at hQ
      subst hQ
      clear h hR hw
      generalize r.1.iv = RI at *
      generalize r.2 = re at *
      repeat' (first | refine aE ?_ | (refine aG ?_;  first | refine aB tabOk rfl rfl rfl (nb rfl) rfl ?_ | (refine aI rfl rfl rfl (nb rfl) rfl rfl rfl (fun hq => ?_) (fun hq => ?_) <;> (first | (simp only [sD, sE, sB, sC, sN, sM, sT, sF] at hq; try (exfalso; omega)) | skip)) | refine bA tabOk rfl rfl rfl (nb rfl) rfl rfl rfl hget ?_ | refine aD rfl rfl (nb rfl) rfl rfl rfl rfl (hc) ?_ | refine bB tabOk rfl rfl rfl (nb rfl) rfl rfl rfl rfl (by first | assumption | omega) ?_) | (refine aK ?_;  first | refine aF ?_ | refine aL ?_ | refine aR ?_ | refine aM ?_ | refine aS ?_ | refine aC (b := true) rfl (fun _ => ?_) nTf) | (refine aJ ?_;  first | refine aU ?_ | refine aN ?_) | (refine aP ?_;  first | refine aX ?_))
      all_goals first
        | (exfalso; omega)
        | exact absurd rfl (by assumption)
        | (refine aO (by first | exact .inl rfl | exact .inr rfl) (aV rfl (aA rfl) (aA rfl)) rfl ?_; rfl)
  · have ej : j = l.length := by omega
    subst ej
    rw [List.drop_length, List.map_nil, starsG] at hQ
    subst hQ
    have c1 := aAq
    clear h hR
    repeat' (first | refine aE ?_ | (refine aG ?_;  first | refine aB tabOk rfl rfl rfl (nb rfl) rfl ?_ | (refine aI rfl rfl rfl (nb rfl) rfl rfl rfl (fun hq => ?_) (fun hq => ?_) <;> (first | (simp only [sD, sE, sB, sC, sN, sM, sT, sF] at hq; try (exfalso; omega)) | skip)) | refine aD rfl rfl (nb rfl) rfl rfl rfl rfl (c1) ?_) | (refine aK ?_;  first | refine aF ?_ | refine aL ?_ | refine aM ?_ | refine bQ ?_ | refine aC (b := false) rfl nFt (fun _ => ?_)) | (refine aJ ?_;  first | refine aU ?_ | refine bH ?_) | (refine aP ?_;  first | refine bE ?_))
    all_goals first
      | (exfalso; omega)
      | (refine aO (by first | exact .inl rfl | exact .inr rfl) (aV rfl (aA rfl) (aA rfl)) rfl ?_; rfl)
end Go.Proofs.YtocaohipfiapkaaGreatDoor.Ab
namespace Go.Proofs.YtocaohipfiapkaaGreatDoor.Ab
set_option linter.unusedVariables false
set_option linter.unusedSimpArgs false
open Go.RowKit
attribute [local irreducible] AWP AOps AExit AThen ABlock ANoGoto FeetOk
/-- What holds a list of trees: the list, or nil for none. -/
def rowIV (X : IV) (l : List Tree) : Prop := (∃ f, X = .sl f l.length (Tree.ivs l)) ∨ (l = [] ∧ X = .lit (.slice none 0 0))
theorem iD (f : Bool) (l : List Tree) : rowIV (.sl f l.length (Tree.ivs l)) l := .inl ⟨f, rfl⟩
theorem nZ : rowIV (.lit (.slice none 0 0)) [] := .inr ⟨rfl, rfl⟩
set_option maxHeartbeats 16000000 in
set_option maxRecDepth 10000 in
/-- One ahead of nil. -/
theorem aBv (fa : Bool) (pk : List IV) : ACalls Tryz.prog 77 [.imm (.sl fa 2 [.sl true 1 [.ptr pk 0], .lit (.slice none 0 0)])] [] (.imm (.sl false 1 [.ptr pk 0])) [] := by
  have cg := aAp 1 (by omega) (by omega)
  refine cK Tryz.func77 rfl rfl (nb rfl) rfl ?_
  refine cP (eH 500 (by simp) rfl rfl) ?_
  repeat' (first | refine aE ?_ | (refine aG ?_;  first | refine aB tabOk rfl rfl rfl (nb rfl) rfl ?_ | refine aT tabOk rfl rfl (nb rfl) rfl ?_) | (refine aK ?_;  first | refine aF ?_ | refine aL ?_ | refine aR ?_))
  refine bZ (ι := {j : Nat // j ≤ 2}) (fun j => S.f ⟨[(11, .imm (.lit (.int .i64 (j.1 : Int)))), (10, .imm (.lit (.int .i64 2))), (9, .imm (.sl fa 2 [.sl true 1 [.ptr pk 0], .lit (.slice none 0 0)])), (0, .imm (.sl fa 2 [.sl true 1 [.ptr pk 0], .lit (.slice none 0 0)])), (3, .imm (.lit (.int .i64 (if j.1 = 0 then 0 else 1))))], [(500, .fut)]⟩) (fun j => 2 - j.1) ⟨0, Nat.zero_le _⟩ (bT (by repeat' first | exact trivial | refine ⟨rfl, ?_⟩) (by repeat' first | exact trivial | refine ⟨rfl, ?_⟩)) ?_
  rintro ⟨j, hj⟩
  dsimp only
  match j, hj with
  | 0, _ =>
    repeat' (first | refine aE ?_ | (refine aG ?_;  first | refine aB tabOk rfl rfl rfl (nb rfl) rfl ?_ | (refine aI rfl rfl rfl (nb rfl) rfl rfl rfl (fun hq => ?_) (fun hq => ?_) <;> (first | (simp only [sD, sE, sB, sC, sN, sM, sT, sF] at hq; try (exfalso; omega)) | skip)) | refine bO rfl rfl rfl (nb rfl) rfl rfl (by omega) ?_ | refine cO rfl rfl rfl (nb rfl) rfl rfl rfl (by omega) (by omega) ?_ | refine aT tabOk rfl rfl (nb rfl) rfl ?_ | refine bB tabOk rfl rfl rfl (nb rfl) rfl rfl rfl rfl (by first | assumption | omega) ?_) | (refine aK ?_;  first | refine aF ?_ | refine aL ?_ | refine bD ?_ | refine aR ?_ | refine aS ?_ | refine aC (b := true) rfl (fun _ => ?_) nTf | refine aC (b := false) rfl nFt (fun _ => ?_)) | (refine aJ ?_;  first | refine aU ?_) | (refine aP ?_;  first | refine bM ?_))
    all_goals first
      | (exfalso; omega)
      | exact ⟨⟨1, by omega⟩, (by show 2 - 1 < 2 - 0; omega), (bT (by repeat' first | exact trivial | refine ⟨rfl, ?_⟩) (by repeat' first | exact trivial | refine ⟨rfl, ?_⟩))⟩
  | 1, _ =>
    rw [if_neg (by decide)]
    repeat' (first | refine aE ?_ | (refine aG ?_;  first | refine aB tabOk rfl rfl rfl (nb rfl) rfl ?_ | (refine aI rfl rfl rfl (nb rfl) rfl rfl rfl (fun hq => ?_) (fun hq => ?_) <;> (first | (simp only [sD, sE, sB, sC, sN, sM, sT, sF] at hq; try (exfalso; omega)) | skip)) | refine bO rfl rfl rfl (nb rfl) rfl rfl (by omega) ?_ | refine cO rfl rfl rfl (nb rfl) rfl rfl rfl (by omega) (by omega) ?_ | refine aT tabOk rfl rfl (nb rfl) rfl ?_ | refine bB tabOk rfl rfl rfl (nb rfl) rfl rfl rfl rfl (by first | assumption | omega) ?_) | (refine aK ?_;  first | refine aF ?_ | refine aL ?_ | refine bD ?_ | refine aR ?_ | refine aS ?_ | refine aC (b := true) rfl (fun _ => ?_) nTf | refine aC (b := false) rfl nFt (fun _ => ?_)) | (refine aJ ?_;  first | refine aU ?_) | (refine aP ?_;  first | refine bM ?_))
    all_goals first
      | (exfalso; omega)
      | exact ⟨⟨2, by omega⟩, (by show 2 - 2 < 2 - 1; omega), (bT (by repeat' first | exact trivial | refine ⟨rfl, ?_⟩) (by repeat' first | exact trivial | refine ⟨rfl, ?_⟩))⟩
  | 2, _ =>
    rw [if_neg (by decide)]
    repeat' (first | refine aE ?_ | (refine aG ?_;  first | refine aB tabOk rfl rfl rfl (nb rfl) rfl ?_ | (refine aI rfl rfl rfl (nb rfl) rfl rfl rfl (fun hq => ?_) (fun hq => ?_) <;> (first | (simp only [sD, sE, sB, sC, sN, sM, sT, sF] at hq; try (exfalso; omega)) | skip)) | refine bW rfl rfl (nb rfl) rfl rfl rfl rfl cg (by repeat' first | exact trivial | refine ⟨rfl, ?_⟩) rfl (by show ([500] : List Nat).Nodup; decide) ?_ | refine aT tabOk rfl rfl (nb rfl) rfl ?_) | (refine aK ?_;  first | refine aF ?_ | refine aL ?_ | refine aR ?_ | refine bQ ?_ | refine aC (b := false) rfl nFt (fun _ => ?_)) | (refine aJ ?_;  first | refine aU ?_ | refine bH ?_) | (refine aP ?_;  first | refine bE ?_))
    all_goals first
      | (exfalso; omega)
      | skip
    refine bZ (ι := {j : Nat // j ≤ 2}) (fun j => S.f ⟨[(27, .imm (.lit (.int .i64 (j.1 : Int)))), (26, .imm (.lit (.int .i64 2))), (25, .imm (.sl fa 2 [.sl true 1 [.ptr pk 0], .lit (.slice none 0 0)])), (6, .ref 500 (if j.1 = 0 then 0 else 1))], [(500, .arr 25 1 (if j.1 = 0 then 0 else 1) (if j.1 = 0 then [] else [.ptr pk 0]))]⟩) (fun j => 2 - j.1) ⟨0, Nat.zero_le _⟩ (bT (by repeat' first | exact trivial | refine ⟨rfl, ?_⟩) (by repeat' first | exact trivial | refine ⟨rfl, ?_⟩)) ?_
    rintro ⟨j, hj⟩
    dsimp only
    match j, hj with
    | 0, _ =>
      rw [if_pos rfl, if_pos rfl]
      repeat' (first | refine aE ?_ | (refine aG ?_;  first | refine aB tabOk rfl rfl rfl (nb rfl) rfl ?_ | (refine aI rfl rfl rfl (nb rfl) rfl rfl rfl (fun hq => ?_) (fun hq => ?_) <;> (first | (simp only [sD, sE, sB, sC, sN, sM, sT, sF] at hq; try (exfalso; omega)) | skip)) | refine cI tabOk rfl rfl rfl (nb rfl) rfl rfl rfl rfl rfl rfl rfl (by first | omega | decide) rfl (by first | omega | (dsimp only; omega)) (by first | omega | (dsimp only; omega)) ?_ | refine bO rfl rfl rfl (nb rfl) rfl rfl (by omega) ?_ | refine bB tabOk rfl rfl rfl (nb rfl) rfl rfl rfl rfl (by first | assumption | omega) ?_) | (refine aK ?_;  first | refine aF ?_ | refine aL ?_ | refine bD ?_ | refine aR ?_ | refine aS ?_ | refine aC (b := true) rfl (fun _ => ?_) nTf) | (refine aJ ?_;  first | refine aU ?_) | (refine aP ?_;  first | refine bM ?_))
      all_goals first
        | (exfalso; omega)
        | exact ⟨⟨1, by omega⟩, (by show 2 - 1 < 2 - 0; omega), (bT (by repeat' first | exact trivial | refine ⟨rfl, ?_⟩) (by repeat' first | exact trivial | refine ⟨rfl, ?_⟩))⟩
    | 1, _ =>
      rw [if_neg (by decide), if_neg (by decide)]
      repeat' (first | refine aE ?_ | (refine aG ?_;  first | refine aB tabOk rfl rfl rfl (nb rfl) rfl ?_ | (refine aI rfl rfl rfl (nb rfl) rfl rfl rfl (fun hq => ?_) (fun hq => ?_) <;> (first | (simp only [sD, sE, sB, sC, sN, sM, sT, sF] at hq; try (exfalso; omega)) | skip)) | refine qN (f := true) (ys := []) tabOk rfl rfl rfl (nb rfl) rfl rfl rfl (.inr rfl) rfl ?_ | refine bO rfl rfl rfl (nb rfl) rfl rfl (by omega) ?_ | refine bB tabOk rfl rfl rfl (nb rfl) rfl rfl rfl rfl (by first | assumption | omega) ?_) | (refine aK ?_;  first | refine aF ?_ | refine aL ?_ | refine bD ?_ | refine aR ?_ | refine aS ?_ | refine aC (b := true) rfl (fun _ => ?_) nTf) | (refine aJ ?_;  first | refine aU ?_) | (refine aP ?_;  first | refine bM ?_))
      all_goals first
        | (exfalso; omega)
        | exact ⟨⟨2, by omega⟩, (by show 2 - 2 < 2 - 1; omega), (bT (by repeat' first | exact trivial | refine ⟨rfl, ?_⟩) (by repeat' first | exact trivial | refine ⟨rfl, ?_⟩))⟩
    | 2, _ =>
      rw [if_neg (by decide), if_neg (by decide)]
      repeat' (first | refine aE ?_ | (refine aG ?_;  first | refine aB tabOk rfl rfl rfl (nb rfl) rfl ?_ | (refine aI rfl rfl rfl (nb rfl) rfl rfl rfl (fun hq => ?_) (fun hq => ?_) <;> (first | (simp only [sD, sE, sB, sC, sN, sM, sT, sF] at hq; try (exfalso; omega)) | skip))) | (refine aK ?_;  first | refine aF ?_ | refine aL ?_ | refine aM ?_ | refine bQ ?_ | refine aC (b := false) rfl nFt (fun _ => ?_)) | (refine aJ ?_;  first | refine aU ?_ | refine bH ?_) | (refine aP ?_;  first | refine bE ?_))
      all_goals first
        | (exfalso; omega)
        | (refine dS ((Imp.of_le (σ' := S.f ⟨[(2, .ref 500 1)], [(500, .arr 25 1 1 [.ptr pk 0])]⟩) (bT (by repeat' first | exact trivial | refine ⟨rfl, ?_⟩) (by repeat' first | exact trivial | refine ⟨rfl, ?_⟩))).trans (cM (g := 500) rfl (by repeat' first | exact trivial | exact fun _ => rfl | refine ⟨?_, ?_⟩) (by repeat' first | exact trivial | exact fun _ => rfl | refine ⟨?_, ?_⟩))) ?_
           refine aO (by first | exact .inl rfl | exact .inr rfl) (aW rfl (aA rfl)) rfl ?_; rfl)
    | j + 3, h => omega
  | j + 3, h => omega
theorem aBw {X : IV} {ctx : List Tree} (fa : Bool) (pk : List IV) (hX : rowIV X ctx) (hl : ctx.length ≤ 900000) : ACalls Tryz.prog 77 [.imm (.sl fa 2 [.sl true 1 [.ptr pk 0], X])] [] (.imm (.sl false (1 + ctx.length) (.ptr pk 0 :: Tree.ivs ctx))) [] := by
  rcases hX with ⟨f, rfl⟩ | ⟨rfl, rfl⟩
  · exact rM fa pk f ctx.length (Tree.ivs ctx) hl (dG ctx)
  · exact aBv fa pk
set_option maxHeartbeats 4000000 in
set_option maxRecDepth 10000 in
theorem rN {X : IV} {ctx : List Tree} (K : Tree) (hK : K.whole = true) (hX : rowIV X ctx) (hl : ctx.length ≤ 900000) : ACalls Tryz.prog 49 [.imm K.iv, .imm X] [] (.imm (.sl false (K :: ctx).length (Tree.ivs (K :: ctx)))) [] := by
  obtain ⟨pk, hpk⟩ := bR (bJ hK)
  have c1 := aBw true pk hX hl
  have e : IV.sl false (K :: ctx).length (Tree.ivs (K :: ctx)) = .sl false (1 + ctx.length) (.ptr pk 0 :: Tree.ivs ctx) := by
    rw [Tree.ivs, hpk, List.length_cons, Nat.add_comm]
  rw [e, hpk]
  rcases hX with ⟨f, rfl⟩ | ⟨rfl, rfl⟩
  · generalize Tree.ivs ctx = Z at *
    refine aH Tryz.func49 rfl rfl (nb rfl) rfl ?_
    repeat' (first | refine aE ?_ | (refine aG ?_;  first | refine aB tabOk rfl rfl rfl (nb rfl) rfl ?_ | refine aD rfl rfl (nb rfl) rfl rfl rfl rfl (c1) ?_ | refine bS tabOk rfl rfl rfl (nb rfl) rfl rfl rfl rfl rfl rfl rfl rfl rfl ?_) | (refine aK ?_;  first | refine aF ?_ | refine aM ?_))
    all_goals (refine aO (by first | exact .inl rfl | exact .inr rfl) (aW rfl (aA rfl)) rfl ?_; rfl)
  · generalize Tree.ivs [] = Z at *
    refine aH Tryz.func49 rfl rfl (nb rfl) rfl ?_
    repeat' (first | refine aE ?_ | (refine aG ?_;  first | refine aB tabOk rfl rfl rfl (nb rfl) rfl ?_ | refine aD rfl rfl (nb rfl) rfl rfl rfl rfl (c1) ?_ | refine bS tabOk rfl rfl rfl (nb rfl) rfl rfl rfl rfl rfl rfl rfl rfl rfl ?_) | (refine aK ?_;  first | refine aF ?_ | refine aM ?_))
    all_goals (refine aO (by first | exact .inl rfl | exact .inr rfl) (aW rfl (aA rfl)) rfl ?_; rfl)
theorem oY : ∀ l : List (Tree × Int), (starsG l).2 = 0 → (starsG l).1 = starK
  | [], _ => rfl
  | R :: Rs, h => by
    rw [starsG] at h ⊢
    unfold star1 at h ⊢
    split at h
    · rename_i h1; exact absurd h h1
    · rename_i h1
      rw [if_neg h1]
      split at h
      · cases h
      · rename_i h2; rw [if_neg h2]; exact oY Rs h
/-- A kind that is told: whole, a kind, not too large. -/
def fineK (B : Nat) (R : Tree × Int) : Prop := R.2 = 0 → isKindP R.1 = true ∧ R.1.whole = true ∧ R.1.size ≤ B
theorem zF (B : Nat) (h : 1 ≤ B) : fineK B (starK, 0) := fun _ => ⟨lV, rfl, by show 1 ≤ B; exact h⟩
theorem iS {B : Nat} (h : 1 ≤ B) (l : List (Tree × Int)) : fineK B (starsG l) := fun h0 => by
  rw [oY l h0]
  exact ⟨lV, rfl, h⟩
theorem eN (t : Tree) : ∀ (ctx : List Tree) (B : Nat), isConP t = true → t.whole = true → okCtx ctx → (∀ c ∈ ctx, c.size ≤ B) → 1 ≤ B → fineK (2 * t.size + B) (kindP t ctx) := by
  induction t using Tree.sind with
  | h t ih =>
    intro ctx B hf hw ho hB h1
    obtain ⟨k, n, a, b, kids, rfl⟩ := bY hw
    obtain ⟨p1, p2, p3, p4, p5⟩ := dJ hf
    rw [kindP]
    have hz : 1 ≤ (Tree.node k n a b kids).size := by simp only [Tree.size]; omega
    have hS := zF (2 * (Tree.node k n a b kids).size + B) (by omega)
    by_cases e0 : k = 110
    · rw [if_pos e0]
      obtain ⟨q1, q2, q3⟩ := p1 e0
      split
      · intro h; cases h
      · rename_i hn
        intro _
        have hlt : n.toNat < ctx.length := by omega
        have e : ctx.getD n.toNat .nil = ctx[n.toNat] := by simp [List.getD, hlt]
        dsimp only
        rw [e]
        have hm := List.getElem_mem hlt
        have := hB _ hm
        exact ⟨(ho _ hm).1, (ho _ hm).2, by omega⟩
    · rw [if_neg e0]
      by_cases e1 : k = 114
      · rw [if_pos e1, lW]; exact iS (by omega) _
      · rw [if_neg e1]
        by_cases e2 : k = 115
        · rw [if_pos e2, lX]; exact iS (by omega) _
        · rw [if_neg e2]
          by_cases e3 : k = 117 ∨ k = 118
          · rw [if_pos e3]
            obtain ⟨x, y, rfl, hx, hy⟩ := p4 (by omega)
            rw [bindK]
            have := iS (B := 2 * (Tree.node k n a b [x, y]).size + B) (by omega) [kindP y (x :: ctx)]
            exact this
          · rw [if_neg e3]
            by_cases e4 : k = 119
            · rw [if_pos e4]
              obtain ⟨x, y, rfl, hx, hy⟩ := p4 (by omega)
              have wx := bF hw (t := x) (by simp)
              have wy := bF hw (t := y) (by simp)
              have sz : (Tree.node k n a b [x, y]).size = x.size + y.size + 1 := by simp only [Tree.size, Tree.sizes]; omega
              have hi := ih y (by omega) (x :: ctx) (B + x.size) hy wy (iR hx wx ho) (fun c hc => by
                rcases List.mem_cons.1 hc with rfl | hc
                · omega
                · have := hB c hc; omega) (by omega)
              rw [lamK]
              unfold lam1
              intro h
              split at h
              · rename_i h3; exact absurd h h3
              · rename_i h3
                obtain ⟨g1, g2, g3⟩ := hi (by simpa using h3)
                rw [if_neg h3]
                refine ⟨?_, ?_, ?_⟩
                · rw [isKindP, if_neg (by decide), if_pos rfl, dI, List.map_cons, List.map_cons, hx, g1, show bareP 0 emptyB emptyB false false = true by decide +kernel]; rfl
                · show Tree.wholes [_, _] = true
                  rw [Tree.wholes, Tree.wholes, wx, g2]; rfl
                · rw [sz]
                  simp only [Tree.size, Tree.sizes]
                  omega
            · rw [if_neg e4]
              by_cases e5 : k = 120
              · rw [if_pos e5]
                obtain ⟨x, y, rfl, hx, hy⟩ := p2 (by omega)
                have wx := bF hw (t := x) (by simp)
                have sz : (Tree.node k n a b [x, y]).size = x.size + y.size + 1 := by simp only [Tree.size, Tree.sizes]; omega
                have hi := ih x (by omega) ctx B hx wx ho hB h1
                rw [appK]
                unfold app1
                intro h
                split at h
                · rename_i h3; exact absurd h h3
                · rename_i h3
                  split at h
                  · rename_i h4; exact absurd h h4
                  · rename_i h4
                    split at h
                    · cases h
                    · rename_i h5
                      rw [if_neg h3, if_neg h4, if_neg h5]
                      obtain ⟨g1, g2, g3⟩ := hi (by simpa using h3)
                      generalize kindP x ctx = F at *
                      obtain ⟨F1, F2⟩ := F
                      dsimp only at g1 g2 g3 h5
                      obtain ⟨k', n', a', b', ks, rfl⟩ := bY g2
                      have hk : k' = 101 := by
                        by_cases hk : k' = 101
                        · exact hk
                        · exact absurd (.inl hk) h5
                      obtain ⟨u, v, rfl, hu, hv⟩ := rL g1 hk
                      have wv := bF g2 (t := v) (by simp)
                      have sv := bN (k := k') (n := n') (a := a') (b := b') (kids := [u, v]) (t := v) (by simp)
                      exact ⟨hv, wv, by show v.size ≤ _; omega⟩
              · rw [if_neg e5]
                by_cases e6 : k = 121
                · rw [if_pos e6]
                  unfold sum1
                  intro h
                  split at h
                  · rename_i h3; exact absurd h h3
                  · rename_i h3
                    split at h
                    · rename_i h4; exact absurd h h4
                    · rename_i h4; rw [if_neg h3, if_neg h4]; exact hS rfl
                · rw [if_neg e6]; exact hS
set_option maxHeartbeats 8000000 in
set_option maxRecDepth 10000 in
theorem aDF (X : IV) (k n : Int) (a b : ByteArray) (f x : Tree) (F G : Tree × Int) (hf : f.whole = true) (hx : x.whole = true)
    (cf : ACalls Tryz.prog 26 [.imm X, .imm f.iv] [] (.imm (.tup [F.1.iv, .lit (.int .i64 F.2)])) [])
    (cx : ACalls Tryz.prog 26 [.imm X, .imm x.iv] [] (.imm (.tup [G.1.iv, .lit (.int .i64 G.2)])) [])
    (gF : fineK 100000000 F) (gG : fineK 100000000 G) :
    ACalls Tryz.prog 50 [.imm X, .imm (Tree.iv (.node k n a b [f, x]))] [] (.imm (.tup [(app1 F G).1.iv, .lit (.int .i64 (app1 F G).2)])) [] := by
  obtain ⟨pf, hpf⟩ := bR (bJ hf)
  obtain ⟨px, hpx⟩ := bR (bJ hx)
  rw [Tree.iv, Tree.ivs, Tree.ivs, Tree.ivs, hpf, hpx]
  rw [hpf] at cf
  rw [hpx] at cx
  unfold app1
  obtain ⟨F1, F2⟩ := F
  obtain ⟨G1, G2⟩ := G
  dsimp only at *
  by_cases h1 : F2 = 0
  · rw [if_neg (by simpa using h1)]
    by_cases h2 : G2 = 0
    · rw [if_neg (by simpa using h2)]
      obtain ⟨f1, f2, f3⟩ := gF h1
      obtain ⟨g1, g2, g3⟩ := gG h2
      subst h1 h2
      obtain ⟨k', n', a', b', ks, rfl⟩ := bY f2
      rw [Tree.kind]
      by_cases hk : k' = 101
      · obtain ⟨u, v, rfl, hu, hv⟩ := rL f1 hk
        subst hk
        have wu := bF f2 (t := u) (by simp)
        have wv := bF f2 (t := v) (by simp)
        have su := bN (k := 101) (n := n') (a := a') (b := b') (kids := [u, v]) (t := u) (by simp)
        have cs := iQ u G1 (.inr wu) (.inr g2) (by dsimp only at f3; omega) g3
        have e0 : kid0 (.node 101 n' a' b' [u, v]) = u := rfl
        have e1 : kid1 (.node 101 n' a' b' [u, v]) = v := rfl
        rw [e0, e1]
        obtain ⟨pu, hpu⟩ := bR (bJ wu)
        obtain ⟨pv, hpv⟩ := bR (bJ wv)
        rw [Tree.iv, Tree.ivs, Tree.ivs, Tree.ivs, hpu, hpv] at cf
        rw [hpu] at cs
        cases hs : sameP u G1 with
        | true =>
          rw [hs] at cs
          rw [if_neg (by simp), hpv]
          generalize G1.iv = gi at *
          clear gF gG f1 f2 f3 g1 g2 g3
          refine aH Tryz.func50 rfl rfl (nb rfl) rfl ?_
          repeat' (first | refine aE ?_ | (refine aG ?_;  first | refine aB tabOk rfl rfl rfl (nb rfl) rfl ?_ | (refine aI rfl rfl rfl (nb rfl) rfl rfl rfl (fun hq => ?_) (fun hq => ?_) <;> (first | (simp only [sD, sE, sB, sC, sN, sM, sT, sF] at hq; try (exfalso; omega)) | skip)) | refine aD rfl rfl (nb rfl) rfl rfl rfl rfl (cf) ?_ | refine aD rfl rfl (nb rfl) rfl rfl rfl rfl (cx) ?_ | refine aD rfl rfl (nb rfl) rfl rfl rfl rfl (cs) ?_ | refine aY tabOk rfl rfl rfl (nb rfl) rfl rfl rfl rfl (by first | rfl | omega) (by first | omega | simp) ?_) | (refine aK ?_;  first | refine aF ?_ | refine aL ?_ | refine aR ?_ | refine aM ?_ | refine aS ?_ | refine aC (b := false) rfl nFt (fun _ => ?_)) | (refine aJ ?_;  first | refine aU ?_) | (refine aP ?_;  first | refine bM ?_))
          all_goals first
            | (exfalso; omega)
            | exact absurd rfl (by assumption)
            | (refine aO (by first | exact .inl rfl | exact .inr rfl) (aV rfl (aA rfl) (aA rfl)) rfl ?_; rfl)
        | false =>
          rw [hs] at cs
          rw [if_pos (.inr rfl)]
          generalize G1.iv = gi at *
          clear gF gG f1 f2 f3 g1 g2 g3
          refine aH Tryz.func50 rfl rfl (nb rfl) rfl ?_
          repeat' (first | refine aE ?_ | (refine aG ?_;  first | refine aB tabOk rfl rfl rfl (nb rfl) rfl ?_ | (refine aI rfl rfl rfl (nb rfl) rfl rfl rfl (fun hq => ?_) (fun hq => ?_) <;> (first | (simp only [sD, sE, sB, sC, sN, sM, sT, sF] at hq; try (exfalso; omega)) | skip)) | refine aD rfl rfl (nb rfl) rfl rfl rfl rfl (cf) ?_ | refine aD rfl rfl (nb rfl) rfl rfl rfl rfl (cx) ?_ | refine aD rfl rfl (nb rfl) rfl rfl rfl rfl (cs) ?_ | refine aY tabOk rfl rfl rfl (nb rfl) rfl rfl rfl rfl (by first | rfl | omega) (by first | omega | simp) ?_) | (refine aK ?_;  first | refine aF ?_ | refine aL ?_ | refine aR ?_ | refine aM ?_ | refine aS ?_ | refine aC (b := true) rfl (fun _ => ?_) nTf | refine aC (b := false) rfl nFt (fun _ => ?_)) | (refine aJ ?_;  first | refine aU ?_ | refine aN ?_) | (refine aP ?_;  first | refine aX ?_))
          all_goals first
            | (exfalso; omega)
            | exact absurd rfl (by assumption)
            | (refine aO (by first | exact .inl rfl | exact .inr rfl) (aV rfl (aA rfl) (aA rfl)) rfl ?_; rfl)
      · rw [if_pos (.inl hk)]
        rw [Tree.iv] at cf
        generalize Tree.ivs ks = Z at *
        generalize G1.iv = gi at *
        clear gF gG f1 f2 f3 g1 g2 g3
        refine aH Tryz.func50 rfl rfl (nb rfl) rfl ?_
        repeat' (first | refine aE ?_ | (refine aG ?_;  first | refine aB tabOk rfl rfl rfl (nb rfl) rfl ?_ | refine bL rfl rfl (nb rfl) ?_ | (refine aI rfl rfl rfl (nb rfl) rfl rfl rfl (fun hq => ?_) (fun hq => ?_) <;> (first | (simp only [sD, sE, sB, sC, sN, sM, sT, sF] at hq; try (exfalso; omega)) | skip)) | refine aD rfl rfl (nb rfl) rfl rfl rfl rfl (cf) ?_ | refine aD rfl rfl (nb rfl) rfl rfl rfl rfl (cx) ?_ | refine aY tabOk rfl rfl rfl (nb rfl) rfl rfl rfl rfl (by first | rfl | omega) (by first | omega | simp) ?_) | (refine aK ?_;  first | refine aF ?_ | refine aL ?_ | refine aR ?_ | refine aM ?_ | refine aS ?_ | refine aC (b := true) rfl (fun _ => ?_) nTf | refine aC (b := false) rfl nFt (fun _ => ?_)) | (refine aJ ?_;  first | refine aU ?_ | refine aN ?_) | (refine aP ?_;  first | refine aX ?_))
        all_goals first
          | (exfalso; omega)
          | exact absurd rfl (by assumption)
          | (refine aO (by first | exact .inl rfl | exact .inr rfl) (aV rfl (aA rfl) (aA rfl)) rfl ?_; rfl)
    · rw [if_pos h2]
      subst h1
      generalize G1.iv = gi at *
      generalize F1.iv = fi at *
      clear gF gG
      refine aH Tryz.func50 rfl rfl (nb rfl) rfl ?_
      repeat' (first | refine aE ?_ | (refine aG ?_;  first | refine aB tabOk rfl rfl rfl (nb rfl) rfl ?_ | (refine aI rfl rfl rfl (nb rfl) rfl rfl rfl (fun hq => ?_) (fun hq => ?_) <;> (first | (simp only [sD, sE, sB, sC, sN, sM, sT, sF] at hq; try (exfalso; omega)) | skip)) | refine aD rfl rfl (nb rfl) rfl rfl rfl rfl (cf) ?_ | refine aD rfl rfl (nb rfl) rfl rfl rfl rfl (cx) ?_ | refine aY tabOk rfl rfl rfl (nb rfl) rfl rfl rfl rfl (by first | rfl | omega) (by first | omega | simp) ?_) | (refine aK ?_;  first | refine aF ?_ | refine aL ?_ | refine aR ?_ | refine aM ?_ | refine aS ?_ | refine aC (b := true) rfl (fun _ => ?_) nTf | refine aC (b := false) rfl nFt (fun _ => ?_)) | (refine aJ ?_;  first | refine aU ?_ | refine aN ?_) | (refine aP ?_;  first | refine aX ?_))
      all_goals first
        | (exfalso; omega)
        | exact absurd rfl (by assumption)
        | (refine aO (by first | exact .inl rfl | exact .inr rfl) (aV rfl (aA rfl) (aA rfl)) rfl ?_; rfl)
  · rw [if_pos h1]
    generalize F1.iv = fi at *
    clear gF gG
    refine aH Tryz.func50 rfl rfl (nb rfl) rfl ?_
    repeat' (first | refine aE ?_ | (refine aG ?_;  first | refine aB tabOk rfl rfl rfl (nb rfl) rfl ?_ | (refine aI rfl rfl rfl (nb rfl) rfl rfl rfl (fun hq => ?_) (fun hq => ?_) <;> (first | (simp only [sD, sE, sB, sC, sN, sM, sT, sF] at hq; try (exfalso; omega)) | skip)) | refine aD rfl rfl (nb rfl) rfl rfl rfl rfl (cf) ?_ | refine aY tabOk rfl rfl rfl (nb rfl) rfl rfl rfl rfl (by first | rfl | omega) (by first | omega | simp) ?_) | (refine aK ?_;  first | refine aF ?_ | refine aL ?_ | refine aM ?_ | refine aC (b := true) rfl (fun _ => ?_) nTf) | (refine aJ ?_;  first | refine aN ?_))
    all_goals first
      | (exfalso; omega)
      | exact absurd rfl (by assumption)
      | (refine aO (by first | exact .inl rfl | exact .inr rfl) (aV rfl (aA rfl) (aA rfl)) rfl ?_; rfl)
end Go.Proofs.YtocaohipfiapkaaGreatDoor.Ab
namespace Go.Proofs.YtocaohipfiapkaaGreatDoor.Ab
set_option linter.unusedVariables false
set_option linter.unusedSimpArgs false
open Go.RowKit
theorem fD {l : List Tree} (h : isT_ct l = true) : ∃ T x, l = [T, x] ∧ checkP isConP T = 0 ∧ isTermP x = true := by
  match l, h with
  | [x, y], h => rw [isT_ct, Bool.and_eq_true] at h; exact ⟨x, y, rfl, beq_iff_eq.1 h.1, h.2⟩
  | [], h => rw [isT_ct] at h; cases h; all_goals simp
  | [x], h => rw [isT_ct] at h; cases h; all_goals simp
  | x :: y :: z :: r, h => rw [isT_ct] at h; cases h; all_goals simp
theorem lY {l : List Tree} (h : isT_kt l = true) : ∃ T x, l = [T, x] ∧ checkP isKindP T = 0 ∧ isTermP x = true := by
  match l, h with
  | [x, y], h => rw [isT_kt, Bool.and_eq_true] at h; exact ⟨x, y, rfl, beq_iff_eq.1 h.1, h.2⟩
  | [], h => rw [isT_kt] at h; cases h; all_goals simp
  | [x], h => rw [isT_kt] at h; cases h; all_goals simp
  | x :: y :: z :: r, h => rw [isT_kt] at h; cases h; all_goals simp
theorem dH {l : List Tree} (h : isT_tt l = true) : ∃ x y, l = [x, y] ∧ isTermP x = true ∧ isTermP y = true := by
  match l, h with
  | [x, y], h => rw [isT_tt, Bool.and_eq_true] at h; exact ⟨x, y, rfl, h.1, h.2⟩
  | [], h => rw [isT_tt] at h; cases h; all_goals simp
  | [x], h => rw [isT_tt] at h; cases h; all_goals simp
  | x :: y :: z :: r, h => rw [isT_tt] at h; cases h; all_goals simp
theorem lZ {l : List Tree} (h : isT_tc l = true) : ∃ x T, l = [x, T] ∧ isTermP x = true ∧ checkP isConP T = 0 := by
  match l, h with
  | [x, y], h => rw [isT_tc, Bool.and_eq_true] at h; exact ⟨x, y, rfl, h.1, beq_iff_eq.1 h.2⟩
  | [], h => rw [isT_tc] at h; cases h; all_goals simp
  | [x], h => rw [isT_tc] at h; cases h; all_goals simp
  | x :: y :: z :: r, h => rw [isT_tc] at h; cases h; all_goals simp
theorem kW {l : List Tree} (h : isT_t l = true) : ∃ x, l = [x] ∧ isTermP x = true := by
  match l, h with
  | [x], h => rw [isT_t] at h; exact ⟨x, rfl, h⟩
  | [], h => rw [isT_t] at h; cases h; all_goals simp
  | x :: y :: r, h => rw [isT_t] at h; cases h; all_goals simp
theorem jY {l : List Tree} (h : isT_ctc l = true) : ∃ C x T, l = [C, x, T] ∧ checkP isConP C = 0 ∧ isTermP x = true ∧ checkP isConP T = 0 := by
  match l, h with
  | [x, y, z], h => rw [isT_ctc, Bool.and_eq_true, Bool.and_eq_true] at h; exact ⟨x, y, z, rfl, beq_iff_eq.1 h.1.1, h.1.2, beq_iff_eq.1 h.2⟩
  | [], h => rw [isT_ctc] at h; cases h; all_goals simp
  | [x], h => rw [isT_ctc] at h; cases h; all_goals simp
  | [x, y], h => rw [isT_ctc] at h; cases h; all_goals simp
  | x :: y :: z :: w :: r, h => rw [isT_ctc] at h; cases h; all_goals simp
theorem jZ {l : List Tree} (h : isT_ttt l = true) : ∃ x y z, l = [x, y, z] ∧ isTermP x = true ∧ isTermP y = true ∧ isTermP z = true := by
  match l, h with
  | [x, y, z], h => rw [isT_ttt, Bool.and_eq_true, Bool.and_eq_true] at h; exact ⟨x, y, z, rfl, h.1.1, h.1.2, h.2⟩
  | [], h => rw [isT_ttt] at h; cases h; all_goals simp
  | [x], h => rw [isT_ttt] at h; cases h; all_goals simp
  | [x, y], h => rw [isT_ttt] at h; cases h; all_goals simp
  | x :: y :: z :: w :: r, h => rw [isT_ttt] at h; cases h; all_goals simp
/-- Fields, arms. -/
def armForm (kind : Int) (t : Tree) : Prop := ∃ a x, t = .node kind 0 a emptyB [x] ∧ isTermP x = true ∧ labelP a = true
theorem wT {kind : Int} {t : Tree} (h : okField kind t = true) : armForm kind t := by
  cases t with
  | nil => simp [okField] at h
  | node k n a b ks =>
    simp only [okField, Bool.and_eq_true, beq_iff_eq, dO] at h
    obtain ⟨⟨⟨⟨rfl, rfl⟩, rfl⟩, hl⟩, h⟩ := h
    obtain ⟨x, rfl, hx⟩ := kW h
    exact ⟨a, x, rfl, hx, hl⟩
theorem kA {kind : Int} {l : List Tree} (h : fieldsP l kind = true) : ∀ t ∈ l, armForm kind t := by
  rw [jU, List.all_eq_true] at h
  exact fun t ht => wT (h t ht)
theorem mA {l : List Tree} (h : isT_ta l = true) : ∃ x arms, l = x :: arms ∧ arms ≠ [] ∧ isTermP x = true ∧ ∀ t ∈ arms, armForm 149 t := by
  match l, h with
  | x :: y :: r, h => rw [isT_ta, Bool.and_eq_true, Bool.and_eq_true] at h; exact ⟨x, y :: r, rfl, by simp, h.1, kA h.2.1⟩
  | [], h => rw [isT_ta] at h; cases h; all_goals simp
  | [x], h => rw [isT_ta] at h; cases h; all_goals simp
theorem kB {l : List Tree} (h : isT_tca l = true) : ∃ x T arms, l = x :: T :: arms ∧ arms ≠ [] ∧ isTermP x = true ∧ checkP isConP T = 0 ∧ ∀ t ∈ arms, armForm 149 t := by
  match l, h with
  | x :: T :: y :: r, h => rw [isT_tca, Bool.and_eq_true, Bool.and_eq_true, Bool.and_eq_true] at h; exact ⟨x, T, y :: r, rfl, by simp, h.1.1, beq_iff_eq.1 h.1.2, kA h.2.1⟩
  | [], h => rw [isT_tca] at h; cases h; all_goals simp
  | [x], h => rw [isT_tca] at h; cases h; all_goals simp
  | [x, y], h => rw [isT_tca] at h; cases h; all_goals simp
theorem lJ : ∀ l : List Tree, steadyP l = true → distinctP l = true → risingP l = true
  | [], _, _ => rfl
  | [_], _, _ => rfl
  | t :: u :: r, h1, h2 => by
    rw [steadyP, Bool.and_eq_true, Bool.not_eq_true'] at h1
    rw [distinctP, Bool.and_eq_true, Bool.not_eq_true'] at h2
    rw [risingP, Bool.and_eq_true]
    refine ⟨?_, lJ (u :: r) h1.2 h2.2⟩
    unfold ltB at h1 ⊢
    refine lI _ _ h1.1 fun e => ?_
    have h3 := h2.1
    rw [List.any_cons, Bool.or_eq_false_iff] at h3
    have : eqB u.name t.name = true := by unfold eqB; rw [e]; exact beq_self_eq_true _
    rw [this] at h3
    cases h3.1
/-- A term has the parts that its kind asks for. -/
theorem mB {k n : Int} {a b : ByteArray} {kids : List Tree} (h : isTermP (.node k n a b kids) = true) :
    (k = 130 → 0 ≤ n ∧ n ≤ 65536 ∧ kids = []) ∧ (k = 139 → isT_kt kids = true) ∧ ((k = 134 ∨ k = 146) → isT_ct kids = true) ∧ ((k = 135 ∨ k = 142 ∨ k = 143 ∨ k = 145) → isT_tt kids = true) ∧
    (k = 136 → (∀ t ∈ kids, armForm 137 t) ∧ risingP kids = true) ∧ (k = 138 → isT_t kids = true) ∧ (k = 140 → isT_tc kids = true) ∧ (k = 141 → isT_ctc kids = true) ∧ (k = 144 → isT_ttt kids = true) ∧ (k = 147 → isT_ta kids = true) ∧ (k = 148 → isT_tca kids = true) ∧
    (k = 130 ∨ k = 131 ∨ k = 132 ∨ k = 133 ∨ k = 134 ∨ k = 135 ∨ k = 136 ∨ k = 138 ∨ k = 139 ∨ k = 140 ∨ k = 141 ∨ k = 142 ∨ k = 143 ∨ k = 144 ∨ k = 145 ∨ k = 146 ∨ k = 147 ∨ k = 148) := by
  rw [isTermP, Bool.and_eq_true] at h
  obtain ⟨hh, h⟩ := h
  refine ⟨fun e => ?_, fun e => ?_, fun e => ?_, fun e => ?_, fun e => ?_, fun e => ?_, fun e => ?_, fun e => ?_, fun e => ?_, fun e => ?_, fun e => ?_, ?_⟩
  · subst e
    rw [if_pos (by omega), List.isEmpty_iff] at h
    simp only [headP, Bool.and_eq_true, numberP] at hh
    have hn := hh.2
    simp at hn
    exact ⟨by omega, by omega, h⟩
  · subst e; simpa using h
  · rcases e with rfl | rfl <;> simpa using h
  · rcases e with rfl | rfl | rfl | rfl <;> simpa using h
  · subst e
    simp at h
    exact ⟨kA h.1.1, lJ _ h.2 h.1.2⟩
  · subst e; simpa using h
  · subst e; simpa using h
  · subst e; simpa using h
  · subst e; simpa using h
  · subst e; simpa using h
  · subst e; simpa using h
  · by_cases h1 : k = 130 ∨ k = 131 ∨ k = 132 ∨ k = 133 ∨ k = 134 ∨ k = 135 ∨ k = 136 ∨ k = 138 ∨ k = 139 ∨ k = 140 ∨ k = 141 ∨ k = 142 ∨ k = 143 ∨ k = 144 ∨ k = 145 ∨ k = 146 ∨ k = 147 ∨ k = 148
    · exact h1
    · rw [if_neg (by omega), if_neg (by omega), if_neg (by omega), if_neg (by omega), if_neg (by omega), if_neg (by omega), if_neg (by omega), if_neg (by omega), if_neg (by omega), if_neg (by omega), if_neg (by omega), if_neg (by omega)] at h
      cases h
end Go.Proofs.YtocaohipfiapkaaGreatDoor.Ab
