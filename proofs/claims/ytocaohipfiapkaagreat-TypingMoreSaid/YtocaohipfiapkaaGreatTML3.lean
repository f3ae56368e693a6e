/- Words, walks and laws under the claim's statement: what it uses of them. No condition of its own. -/
import Derived.Test.YtocaohipfiapkaaGreatTML2
import Derived.Test.YtocaohipfiapkaaGreatTML0
import Derived.Test.YtocaohipfiapkaaGreatTML1
import Derived.Test.YtocaohipfiapkaaGreatTMP0
import Derived.Laws.BytesArg
import Derived.Test.YtocaohipfiapkaaGreatTMS0
import Derived.Test.YtocaohipfiapkaaGreatTMAb1
import Derived.Test.YtocaohipfiapkaaGreatTMAb0
namespace Go.Proofs.YtocaohipfiapkaaGreat.Ab
set_option linter.unusedVariables false
set_option linter.unusedSimpArgs false
open Go.RowKit
attribute [local irreducible] AWP AOps AExit AThen ABlock ANoGoto FeetOk
/-- The type of a term in a context, and the error. -/
def TypeP (ks ts : List Tree) (n : Tree) : Tree × Int :=
  if tcheckP n ≠ 0 then (.nil, tcheckP n) else if (ks.any fun K => decide (checkP isKindP K ≠ 0)) = true ∨ (ts.any fun T => decide (starE ks T ≠ 0)) = true then (.nil, 2) else ofP n ks ts
set_option maxHeartbeats 4000000 in
set_option maxRecDepth 10000 in
theorem aCt (K : Tree) (hs : K.size ≤ 100000000) : ACalls Tryz.prog 13 [.imm K.iv] [] (.imm (.lit (.bool (decide (checkP isKindP K ≠ 0))))) [] := by
  have c1 := oX K hs
  generalize checkP isKindP K = e at *
  generalize K.iv = ki at *
  by_cases h : e = 0
  · subst h
    refine aJ Tryz.func13 rfl rfl (nb rfl) rfl ?_
    repeat' (first | refine aG ?_ | (refine aI ?_;  first | refine aC tabOk rfl rfl rfl (nb rfl) rfl ?_ | (refine aK rfl rfl rfl (nb rfl) rfl rfl rfl (fun hq => ?_) (fun hq => ?_) <;> (first | (simp only [sD, sE, sB, sC, sN, sM, sT, sF] at hq; try (exfalso; omega)) | skip)) | refine aD rfl rfl (nb rfl) rfl rfl rfl rfl (c1) ?_) | (refine aN ?_;  first | refine aH ?_ | refine aT ?_))
    all_goals first
      | exact absurd rfl (by assumption)
      | (refine aU (by first | exact .inl rfl | exact .inr rfl) (bC rfl (aA rfl)) rfl ?_; rfl)
  · rw [show decide (e ≠ 0) = true from decide_eq_true h]
    refine aJ Tryz.func13 rfl rfl (nb rfl) rfl ?_
    repeat' (first | refine aG ?_ | (refine aI ?_;  first | refine aC tabOk rfl rfl rfl (nb rfl) rfl ?_ | (refine aK rfl rfl rfl (nb rfl) rfl rfl rfl (fun hq => ?_) (fun hq => ?_) <;> (first | (simp only [sD, sE, sB, sC, sN, sM, sT, sF] at hq; try (exfalso; omega)) | skip)) | refine aD rfl rfl (nb rfl) rfl rfl rfl rfl (c1) ?_) | (refine aN ?_;  first | refine aH ?_ | refine aT ?_))
    all_goals first
      | exact absurd (by assumption) h
      | (refine aU (by first | exact .inl rfl | exact .inr rfl) (bC rfl (aA rfl)) rfl ?_; rfl)
set_option maxHeartbeats 4000000 in
set_option maxRecDepth 10000 in
theorem aBg (ks : List Tree) (hk : okK ks) (hl : ks.length ≤ 90000) (T : Tree) (hs : T.size ≤ 100000000) :
    ACalls Tryz.prog 15 [.imm T.iv, .obj 1001 0] [(1001, .cells [.imm (.sl false ks.length (Tree.ivs ks))])] (.imm (.lit (.bool (decide (starE ks T ≠ 0))))) [(1001, .cells [.imm (.sl false ks.length (Tree.ivs ks))])] := by
  have c1 := xC (dY false ks) hk (by omega) T hs
  generalize starE ks T = e at *
  generalize T.iv = ti at *
  generalize Tree.ivs ks = KI at *
  generalize ks.length = kl at *
  by_cases h : e = 0
  · subst h
    refine bZ [1001] Tryz.func15 rfl rfl (nb rfl) rfl rfl ?_
    repeat' (first | refine aG ?_ | (refine aI ?_;  first | refine aC tabOk rfl rfl rfl (nb rfl) rfl ?_ | (refine aK rfl rfl rfl (nb rfl) rfl rfl rfl (fun hq => ?_) (fun hq => ?_) <;> (first | (simp only [sD, sE, sB, sC, sN, sM, sT, sF] at hq; try (exfalso; omega)) | skip)) | refine aD rfl rfl (nb rfl) rfl rfl rfl rfl (c1) ?_ | refine bM tabOk rfl rfl rfl (nb rfl) rfl rfl rfl rfl ?_) | (refine aN ?_;  first | refine aH ?_ | refine aT ?_))
    all_goals first
      | exact absurd rfl (by assumption)
      | (refine cG (cF (by first | exact .inl rfl | exact .inr rfl) (bC rfl (aA rfl)) rfl (by repeat' first | exact trivial | refine ⟨rfl, ?_⟩) rfl ?_); rfl)
  · rw [show decide (e ≠ 0) = true from decide_eq_true h]
    refine bZ [1001] Tryz.func15 rfl rfl (nb rfl) rfl rfl ?_
    repeat' (first | refine aG ?_ | (refine aI ?_;  first | refine aC tabOk rfl rfl rfl (nb rfl) rfl ?_ | (refine aK rfl rfl rfl (nb rfl) rfl rfl rfl (fun hq => ?_) (fun hq => ?_) <;> (first | (simp only [sD, sE, sB, sC, sN, sM, sT, sF] at hq; try (exfalso; omega)) | skip)) | refine aD rfl rfl (nb rfl) rfl rfl rfl rfl (c1) ?_ | refine bM tabOk rfl rfl rfl (nb rfl) rfl rfl rfl rfl ?_) | (refine aN ?_;  first | refine aH ?_ | refine aT ?_))
    all_goals first
      | exact absurd (by assumption) h
      | (refine cG (cF (by first | exact .inl rfl | exact .inr rfl) (bC rfl (aA rfl)) rfl (by repeat' first | exact trivial | refine ⟨rfl, ?_⟩) rfl ?_); rfl)
theorem lB {t : Tree} (h : tcheckP t = 0) : isTermP t = true ∧ t.whole = true ∧ t.size ≤ 65536 := by
  unfold tcheckP at h
  obtain ⟨h1, h2, h3⟩ := bQ h
  exact ⟨h3, h1, h2⟩
theorem mO {ks : List Tree} {c : Tree} (h : starE ks c = 0) : checkP isConP c = 0 := by
  by_cases h2 : checkP isConP c = 0
  · exact h2
  · have e : KindP ks c = (.nil, checkP isConP c) := by unfold KindP; rw [if_pos h2]
    unfold starE at h
    rw [e] at h
    dsimp only at h
    rw [if_neg fun h3 => h2 h3.1] at h
    exact absurd h h2
set_option maxHeartbeats 8000000 in
set_option maxRecDepth 10000 in
theorem aBR (ks ts : List Tree) (n : Tree) (hn : n.size ≤ 1500) (hkl : ks.length ≤ 80000) (htl : ts.length ≤ 800000) (hk : ∀ K ∈ ks, K.size ≤ 100000000) (ht : ∀ T ∈ ts, T.size ≤ 100000000) :
    ACalls Tryz.prog 7 [.imm (.sl false ks.length (Tree.ivs ks)), .imm (.sl false ts.length (Tree.ivs ts)), .imm n.iv] [] (.imm (.tup [(TypeP ks ts n).1.iv, .lit (.int .i64 (TypeP ks ts n).2)])) [] := by
  have c1 := wU n (by omega)
  unfold TypeP
  by_cases h1 : tcheckP n = 0
  · obtain ⟨w1, w2, _⟩ := lB h1
    have c2 := iT ks 13 (fun K => decide (checkP isKindP K ≠ 0)) (by omega) fun j h => aCt _ (hk _ (List.getElem_mem h))
    rw [h1] at c1
    rw [if_neg (by simpa using h1)]
    cases hb : (ks.any fun K => decide (checkP isKindP K ≠ 0)) with
    | true =>
      rw [hb] at c2
      rw [if_pos (.inl rfl)]
      generalize n.iv = ni at *
      generalize Tree.ivs ks = KI at *
      generalize Tree.ivs ts = TI at *
      clear hk ht
      refine cL Tryz.func7 rfl rfl (nb rfl) rfl ?_
      repeat' (first | refine aG ?_ | (refine aI ?_;  first | refine aC tabOk rfl rfl rfl (nb rfl) rfl ?_ | refine cA rfl rfl (nb rfl) ?_ | (refine aK rfl rfl rfl (nb rfl) rfl rfl rfl (fun hq => ?_) (fun hq => ?_) <;> (first | (simp only [sD, sE, sB, sC, sN, sM, sT, sF] at hq; try (exfalso; omega)) | skip)) | refine cK 1001 (d := 3) rfl rfl rfl (nb rfl) rfl rfl rfl rfl rfl rfl rfl ?_ | refine aD rfl rfl (nb rfl) rfl rfl rfl rfl (c1) ?_ | refine aD rfl rfl (nb rfl) rfl rfl rfl rfl (c2) ?_ | refine bM tabOk rfl rfl rfl (nb rfl) rfl rfl rfl rfl ?_) | (refine aN ?_;  first | refine aH ?_ | refine aQ ?_ | refine aT ?_ | refine aZ ?_ | refine aE (b := true) rfl (fun _ => ?_) nTf | refine aE (b := false) rfl nFt (fun _ => ?_)) | (refine aM ?_;  first | refine bA ?_ | refine aV ?_))
      all_goals first | (exfalso; omega) | exact absurd rfl (by assumption) | (refine cM (aU (by first | exact .inl rfl | exact .inr rfl) (bB rfl (aA rfl) (aA rfl)) rfl ?_); rfl)
    | false =>
      rw [hb] at c2
      have hok : okK ks := fun K hK => by
        have h := List.any_eq_false.1 hb K hK
        simpa using h
      have c3 := iS ts 15 (.sl false ks.length (Tree.ivs ks)) (fun T => decide (starE ks T ≠ 0)) (by omega) fun j h => aBg ks hok (by omega) _ (ht _ (List.getElem_mem h))
      cases hl : (ts.any fun T => decide (starE ks T ≠ 0)) with
      | true =>
        rw [hl] at c3
        rw [if_pos (.inr rfl)]
        generalize n.iv = ni at *
        generalize Tree.ivs ks = KI at *
        generalize Tree.ivs ts = TI at *
        clear hk ht hok
        refine cL Tryz.func7 rfl rfl (nb rfl) rfl ?_
        repeat' (first | refine aG ?_ | (refine aI ?_;  first | refine aC tabOk rfl rfl rfl (nb rfl) rfl ?_ | (refine aK rfl rfl rfl (nb rfl) rfl rfl rfl (fun hq => ?_) (fun hq => ?_) <;> (first | (simp only [sD, sE, sB, sC, sN, sM, sT, sF] at hq; try (exfalso; omega)) | skip)) | refine cK 1001 (d := 3) rfl rfl rfl (nb rfl) rfl rfl rfl rfl rfl rfl rfl ?_ | refine aD rfl rfl (nb rfl) rfl rfl rfl rfl (c1) ?_ | refine aD rfl rfl (nb rfl) rfl rfl rfl rfl (c2) ?_ | refine cD rfl rfl (nb rfl) rfl rfl rfl rfl c3 (by repeat' first | exact trivial | refine ⟨rfl, ?_⟩) rfl (by show ([1001] : List Nat).Nodup; decide) ?_ | refine bM tabOk rfl rfl rfl (nb rfl) rfl rfl rfl rfl ?_) | (refine aN ?_;  first | refine aH ?_ | refine aQ ?_ | refine aT ?_ | refine aZ ?_ | refine aE (b := true) rfl (fun _ => ?_) nTf | refine aE (b := false) rfl nFt (fun _ => ?_)) | (refine aM ?_;  first | refine bA ?_ | refine aV ?_))
        all_goals first | (exfalso; omega) | exact absurd rfl (by assumption) | (refine cM (aU (by first | exact .inl rfl | exact .inr rfl) (bB rfl (aA rfl) (aA rfl)) rfl ?_); rfl)
      | false =>
        rw [hl] at c3
        rw [if_neg (by simp)]
        have c4 := aBf n ks ts w1 w2 hn hok (by omega) (by omega) fun T hT => by
          have h := List.any_eq_false.1 hl T hT
          exact ⟨(bQ (mO (by simpa using h))).1, ht T hT⟩
        unfold cIV at c4
        generalize ofP n ks ts = Q at *
        obtain ⟨Q1, Q2⟩ := Q
        dsimp only at *
        generalize Q1.iv = qi at *
        generalize n.iv = ni at *
        generalize Tree.ivs ks = KI at *
        generalize Tree.ivs ts = TI at *
        clear hk ht hok
        refine cL Tryz.func7 rfl rfl (nb rfl) rfl ?_
        repeat' (first | refine aG ?_ | (refine aI ?_;  first | refine aC tabOk rfl rfl rfl (nb rfl) rfl ?_ | (refine aK rfl rfl rfl (nb rfl) rfl rfl rfl (fun hq => ?_) (fun hq => ?_) <;> (first | (simp only [sD, sE, sB, sC, sN, sM, sT, sF] at hq; try (exfalso; omega)) | skip)) | refine cK 1001 (d := 3) rfl rfl rfl (nb rfl) rfl rfl rfl rfl rfl rfl rfl ?_ | refine aD rfl rfl (nb rfl) rfl rfl rfl rfl (c1) ?_ | refine aD rfl rfl (nb rfl) rfl rfl rfl rfl (c2) ?_ | refine cD rfl rfl (nb rfl) rfl rfl rfl rfl c3 (by repeat' first | exact trivial | refine ⟨rfl, ?_⟩) rfl (by show ([1001] : List Nat).Nodup; decide) ?_ | refine aD rfl rfl (nb rfl) rfl rfl rfl rfl (c4) ?_ | refine aY tabOk rfl rfl (nb rfl) rfl ?_ | refine bM tabOk rfl rfl rfl (nb rfl) rfl rfl rfl rfl ?_) | (refine aN ?_;  first | refine aH ?_ | refine aQ ?_ | refine aT ?_ | refine aZ ?_ | refine aE (b := false) rfl nFt (fun _ => ?_)) | (refine aM ?_;  first | refine bA ?_))
        all_goals first | (exfalso; omega) | exact absurd rfl (by assumption) | (refine cM (aU (by first | exact .inl rfl | exact .inr rfl) (bB rfl (aA rfl) (aA rfl)) rfl ?_); rfl)
  · rw [if_pos h1]
    generalize tcheckP n = e at *
    generalize n.iv = ni at *
    generalize Tree.ivs ks = KI at *
    generalize Tree.ivs ts = TI at *
    clear hk ht
    refine cL Tryz.func7 rfl rfl (nb rfl) rfl ?_
    repeat' (first | refine aG ?_ | (refine aI ?_;  first | refine aC tabOk rfl rfl rfl (nb rfl) rfl ?_ | (refine aK rfl rfl rfl (nb rfl) rfl rfl rfl (fun hq => ?_) (fun hq => ?_) <;> (first | (simp only [sD, sE, sB, sC, sN, sM, sT, sF] at hq; try (exfalso; omega)) | skip)) | refine cK 1001 (d := 3) rfl rfl rfl (nb rfl) rfl rfl rfl rfl rfl rfl rfl ?_ | refine aD rfl rfl (nb rfl) rfl rfl rfl rfl (c1) ?_) | (refine aN ?_;  first | refine aH ?_ | refine aQ ?_ | refine aT ?_ | refine aE (b := true) rfl (fun _ => ?_) nTf) | (refine aM ?_;  first | refine aV ?_))
    all_goals first | (exfalso; omega) | exact absurd rfl (by assumption) | (refine cM (aU (by first | exact .inl rfl | exact .inr rfl) (bB rfl (aA rfl) (aA rfl)) rfl ?_); rfl)
theorem aCL (t : Tree) : t.iv.nz = t.iv := by cases t <;> rw [Tree.iv] <;> rfl
theorem vG {X : IV} {l : List Tree} (h : rowIV X l) : X.nz = .sl false l.length (Tree.ivs l) := by
  rcases h with ⟨f, rfl⟩ | ⟨rfl, rfl⟩
  · cases f <;> rfl
  · rw [Tree.ivs]; rfl
theorem mC {X Y : IV} {ks ts : List Tree} (hX : rowIV X ks) (hY : rowIV Y ts) (n : Tree) (hn : n.size ≤ 1500) (hkl : ks.length ≤ 80000) (htl : ts.length ≤ 800000) (hk : ∀ K ∈ ks, K.size ≤ 100000000) (ht : ∀ T ∈ ts, T.size ≤ 100000000) :
    ACalls Tryz.prog 7 [.imm X, .imm Y, .imm n.iv] [] (.imm (.tup [(TypeP ks ts n).1.iv, .lit (.int .i64 (TypeP ks ts n).2)])) [] := by
  refine zL ?_
  show ACalls _ _ [.imm X.nz, .imm Y.nz, .imm n.iv.nz] _ _ _
  rw [vG hX, vG hY, aCL]
  exact aBR ks ts n hn hkl htl hk ht
set_option maxHeartbeats 4000000 in
set_option maxRecDepth 10000 in
theorem aBh (n : Tree) (hn : n.size ≤ 1500) : ACalls Tryz.prog 19 [.imm n.iv] [] (.imm (.tup [(TypeP [] [] n).1.iv, .lit (.int .i64 (TypeP [] [] n).2)])) [] := by
  have c1 := mC kA kA n hn (by decide) (by decide) (fun K h => (List.not_mem_nil h).elim) fun K h => (List.not_mem_nil h).elim
  generalize TypeP [] [] n = Q at *
  obtain ⟨Q1, Q2⟩ := Q
  dsimp only at *
  generalize Q1.iv = qi at *
  generalize n.iv = ni at *
  refine aJ Tryz.func19 rfl rfl (nb rfl) rfl ?_
  repeat' (first | refine aG ?_ | (refine aI ?_;  first | refine aC tabOk rfl rfl rfl (nb rfl) rfl ?_ | refine aD rfl rfl (nb rfl) rfl rfl rfl rfl (c1) ?_) | (refine aN ?_;  first | refine aH ?_ | refine aT ?_))
  all_goals first | (exfalso; omega) | exact absurd rfl (by assumption) | (refine aU (by first | exact .inl rfl | exact .inr rfl) (bB rfl (aA rfl) (aA rfl)) rfl ?_; rfl)
end Go.Proofs.YtocaohipfiapkaaGreat.Ab
namespace Go.Proofs.YtocaohipfiapkaaGreat.Ab
set_option linter.unusedVariables false
set_option linter.unusedSimpArgs false
open Go.RowKit
theorem fE {R S : Tree × Int} (h : (star1 R S).2 = 0) : R.2 = 0 ∧ R.1.kind = 100 ∧ S.2 = 0 ∧ star1 R S = S := by
  unfold star1 at h ⊢
  split at h
  · rename_i h1; exact absurd h h1
  · rename_i h1
    split at h
    · cases h
    · rename_i h2
      rw [if_neg h1, if_neg h2]
      exact ⟨by simpa using h1, by simpa using h2, h, rfl⟩
/-- More kinds behind. -/
theorem aAg (ks' : List Tree) (c : Tree) : ∀ ks, isConP c = true → (kindP c ks).2 = 0 → kindP c (ks ++ ks') = kindP c ks := by
  induction c using Tree.sind with
  | h c ih =>
    intro ks hf h
    cases c with
    | nil => rw [isConP] at hf; cases hf
    | node k n a b kids =>
      obtain ⟨q0, q1, q2, q3, q4⟩ := eB hf
      rw [kindP] at h ⊢
      rw [kindP]
      have hfld : ∀ (kd : Int) (ctx : List Tree) (l : List Tree), (∀ t ∈ l, t ∈ kids) → (∀ t ∈ kids, ∃ n' a' b' c, t = .node kd n' a' b' [c] ∧ isConP c = true) → (starsF l ctx).2 = 0 → starsF l (ctx ++ ks') = starsF l ctx := by
        intro kd ctx l
        induction l with
        | nil => intro _ _ _; rw [starsF, starsF]
        | cons t l ih2 =>
          intro hm hall h0
          rw [starsF] at h0 ⊢
          obtain ⟨g1, g2, g3, g4⟩ := fE h0
          have hmt := hm t (by simp)
          have hz := bR (k := k) (n := n) (a := a) (b := b) hmt
          obtain ⟨n', a', b', c, rfl, hc⟩ := hall t hmt
          have hz2 := bR (k := kd) (n := n') (a := a') (b := b') (kids := [c]) (t := c) (by simp)
          rw [kindF, kindH] at g1 ⊢
          rw [ih c (by omega) ctx hc g1, ih2 (fun t ht => hm t (by simp [ht])) hall g3]
          rw [starsF, kindF, kindH]
      by_cases k0 : k = 110
      · rw [if_pos k0] at h ⊢
        rw [if_pos k0]
        obtain ⟨n0, _, _⟩ := q0 k0
        by_cases hn : n ≥ (ks.length : Int)
        · rw [if_pos hn] at h; cases h
        · rw [if_neg hn, if_neg (by rw [List.length_append]; omega), List.getD_eq_getElem?_getD, List.getElem?_append_left (by omega), ← List.getD_eq_getElem?_getD]
      rw [if_neg k0] at h ⊢
      rw [if_neg k0]
      by_cases k1 : k = 114
      · rw [if_pos k1] at h ⊢
        rw [if_pos k1]
        obtain ⟨x, y, rfl, hx, hy⟩ := q1 (.inl k1)
        rw [starsP, starsP, starsP] at h ⊢
        obtain ⟨g1, g2, g3, g4⟩ := fE h
        obtain ⟨g5, _, _, _⟩ := fE g3
        rw [ih x (bR (by simp)) ks hx g1, ih y (bR (by simp)) ks hy g5]
        rw [starsP, starsP, starsP]
      rw [if_neg k1] at h ⊢
      rw [if_neg k1]
      by_cases k2 : k = 115
      · rw [if_pos k2] at h ⊢
        rw [if_pos k2]
        exact hfld 116 ks kids (fun _ h => h) (q2 k2) h
      rw [if_neg k2] at h ⊢
      rw [if_neg k2]
      by_cases k3 : k = 117 ∨ k = 118
      · rw [if_pos k3] at h ⊢
        rw [if_pos k3]
        obtain ⟨K, y, rfl, hK, hy⟩ := q3 (by omega)
        rw [bindK] at h ⊢
        obtain ⟨g1, _⟩ := fE h
        have := ih y (bR (by simp)) (K :: ks) hy g1
        rw [List.cons_append] at this
        rw [this, bindK]
      rw [if_neg k3] at h ⊢
      rw [if_neg k3]
      by_cases k4 : k = 119
      · rw [if_pos k4] at h ⊢
        rw [if_pos k4]
        obtain ⟨K, y, rfl, hK, hy⟩ := q3 (by omega)
        rw [lamK] at h ⊢
        have g1 : (kindP y (K :: ks)).2 = 0 := by
          unfold lam1 at h
          split at h
          · rename_i h1; exact absurd h h1
          · rename_i h1; simpa using h1
        have := ih y (bR (by simp)) (K :: ks) hy g1
        rw [List.cons_append] at this
        rw [this, lamK]
      rw [if_neg k4] at h ⊢
      rw [if_neg k4]
      by_cases k5 : k = 120
      · rw [if_pos k5] at h ⊢
        rw [if_pos k5]
        obtain ⟨x, y, rfl, hx, hy⟩ := q1 (.inr k5)
        rw [appK] at h ⊢
        have g : (kindP x ks).2 = 0 ∧ (kindP y ks).2 = 0 := by
          unfold app1 at h
          split at h
          · rename_i h1; exact absurd h h1
          · rename_i h1
            split at h
            · rename_i h2; exact absurd h h2
            · rename_i h2; exact ⟨by simpa using h1, by simpa using h2⟩
        rw [ih x (bR (by simp)) ks hx g.1, ih y (bR (by simp)) ks hy g.2, appK]
      rw [if_neg k5] at h ⊢
      rw [if_neg k5]
      by_cases k6 : k = 121
      · rw [if_pos k6] at h ⊢
        rw [if_pos k6]
        have g : (starsF kids (starK :: ks)).2 = 0 := by
          unfold sum1 at h
          split at h
          · rename_i h1; exact absurd h h1
          · rename_i h1; simpa using h1
        have := hfld 122 (starK :: ks) kids (fun _ h => h) (q4 k6) g
        rw [List.cons_append] at this
        rw [this]
      rw [if_neg k6, if_neg k6]
/-- What has a kind has no variables but those of its context. -/
theorem aAh (B : Int) (c : Tree) : ∀ (ks : List Tree) (d : Int), isConP c = true → (kindP c ks).2 = 0 → (ks.length : Int) = d + B → allV (fun n x => decide (n < x + B)) c d = true := by
  induction c using Tree.sind with
  | h c ih =>
    intro ks d hf h hd
    cases c with
    | nil => rw [isConP] at hf; cases hf
    | node k n a b kids =>
      obtain ⟨q0, q1, q2, q3, q4⟩ := eB hf
      rw [kindP] at h
      have hfld : ∀ (kd : Int) (ctx : List Tree) (e : Int) (l : List Tree), kd = 116 ∨ kd = 122 → (ctx.length : Int) = e + B → (∀ t ∈ l, t ∈ kids) → (∀ t ∈ kids, ∃ n' a' b' c, t = .node kd n' a' b' [c] ∧ isConP c = true) → (starsF l ctx).2 = 0 → (l.all fun t => allV (fun n x => decide (n < x + B)) t e) = true := by
        intro kd ctx e l hkd hce
        induction l with
        | nil => intro _ _ _; rfl
        | cons t l ih2 =>
          intro hm hall h0
          rw [starsF] at h0
          obtain ⟨g1, g2, g3, g4⟩ := fE h0
          have hmt := hm t (by simp)
          have hz := bR (k := k) (n := n) (a := a) (b := b) hmt
          obtain ⟨n', a', b', c, rfl, hc⟩ := hall t hmt
          have hz2 := bR (k := kd) (n := n') (a := a') (b := b') (kids := [c]) (t := c) (by simp)
          rw [kindF, kindH] at g1
          have hb : bindsP kd = 0 := by rcases hkd with rfl | rfl <;> rfl
          rw [List.all_cons, ih2 (fun t ht => hm t (by simp [ht])) hall g3, Bool.and_true, dO _ _ (by omega), hb, Int.add_zero, List.all_cons, List.all_nil, Bool.and_true]
          exact ih c (by omega) ctx e hc g1 hce
      by_cases k0 : k = 110
      · rw [if_pos k0] at h
        subst k0
        rw [gB]
        by_cases hn : n ≥ (ks.length : Int)
        · rw [if_pos hn] at h; cases h
        · exact decide_eq_true (by omega)
      rw [if_neg k0] at h
      rw [dO _ _ k0]
      by_cases k1 : k = 114
      · rw [if_pos k1] at h
        obtain ⟨x, y, rfl, hx, hy⟩ := q1 (.inl k1)
        rw [starsP, starsP, starsP] at h
        obtain ⟨g1, g2, g3, g4⟩ := fE h
        obtain ⟨g5, _, _, _⟩ := fE g3
        subst k1
        rw [show bindsP 114 = 0 from rfl, Int.add_zero, List.all_cons, List.all_cons, List.all_nil, Bool.and_true, ih x (bR (by simp)) ks d hx g1 hd, ih y (bR (by simp)) ks d hy g5 hd]
        rfl
      rw [if_neg k1] at h
      by_cases k2 : k = 115
      · rw [if_pos k2] at h
        subst k2
        rw [show bindsP 115 = 0 from rfl, Int.add_zero]
        exact hfld 116 ks d kids (.inl rfl) hd (fun _ h => h) (q2 rfl) h
      rw [if_neg k2] at h
      have hbind : ∀ K y : Tree, kids = [K, y] → isKindP K = true → isConP y = true → bindsP k = 1 → (kindP y (K :: ks)).2 = 0 → (kids.all fun t => allV (fun n x => decide (n < x + B)) t (d + bindsP k)) = true := fun K y e hK hy hb g1 => by
        subst e
        rw [hb, List.all_cons, List.all_cons, List.all_nil, Bool.and_true, zW _ _ _ hK, Bool.true_and]
        exact ih y (bR (by simp)) (K :: ks) (d + 1) hy g1 (by rw [List.length_cons]; omega)
      by_cases k3 : k = 117 ∨ k = 118
      · rw [if_pos k3] at h
        obtain ⟨K, y, e, hK, hy⟩ := q3 (by omega)
        refine hbind K y e hK hy (by rcases k3 with rfl | rfl <;> rfl) ?_
        rw [e, bindK] at h
        exact (fE h).1
      rw [if_neg k3] at h
      by_cases k4 : k = 119
      · rw [if_pos k4] at h
        obtain ⟨K, y, e, hK, hy⟩ := q3 (by omega)
        refine hbind K y e hK hy (by subst k4; rfl) ?_
        rw [e, lamK] at h
        unfold lam1 at h
        split at h
        · rename_i h1; exact absurd h h1
        · rename_i h1; simpa using h1
      rw [if_neg k4] at h
      by_cases k5 : k = 120
      · rw [if_pos k5] at h
        obtain ⟨x, y, rfl, hx, hy⟩ := q1 (.inr k5)
        rw [appK] at h
        have g : (kindP x ks).2 = 0 ∧ (kindP y ks).2 = 0 := by
          unfold app1 at h
          split at h
          · rename_i h1; exact absurd h h1
          · rename_i h1
            split at h
            · rename_i h2; exact absurd h h2
            · rename_i h2; exact ⟨by simpa using h1, by simpa using h2⟩
        subst k5
        rw [show bindsP 120 = 0 from rfl, Int.add_zero, List.all_cons, List.all_cons, List.all_nil, Bool.and_true, ih x (bR (by simp)) ks d hx g.1 hd, ih y (bR (by simp)) ks d hy g.2 hd]
        rfl
      rw [if_neg k5] at h
      by_cases k6 : k = 121
      · rw [if_pos k6] at h
        have g : (starsF kids (starK :: ks)).2 = 0 := by
          unfold sum1 at h
          split at h
          · rename_i h1; exact absurd h h1
          · rename_i h1; simpa using h1
        subst k6
        rw [show bindsP 121 = 1 from rfl]
        exact hfld 122 (starK :: ks) (d + 1) kids (.inr rfl) (by rw [List.length_cons]; omega) (fun _ h => h) (q4 rfl) g
      · -- leaves
        have hk : kids = [] := by
          rw [isConP, Bool.and_eq_true] at hf
          have h2 := hf.2
          rw [if_neg k0] at h2
          by_cases k7 : k = 111 ∨ k = 112 ∨ k = 113
          · rw [if_pos k7] at h2
            exact List.eq_nil_of_length_eq_zero (by simpa using h2)
          · rw [if_neg k7, if_neg (by omega), if_neg (by omega), if_neg (by omega), if_neg (by omega)] at h2
            cases h2
        rw [hk]; rfl
theorem aAi (p q : Int → Int → Bool) (t : Tree) : ∀ d, okVars t = true → allV p t d = true → (∀ n x, 0 ≤ n → d ≤ x → x ≤ d + t.size → p n x = true → q n x = true) → allV q t d = true := by
  induction t using Tree.sind with
  | h t ih =>
    intro d hv hp hg
    cases t with
    | nil => rw [allV]
    | node k n a b kids =>
      by_cases hk : k = 110
      · subst hk
        obtain ⟨q1, q2, _⟩ := dS rfl hv
        rw [gB] at hp ⊢
        exact hg n d q1 (Int.le_refl _) (by omega) hp
      · have hvs := dM hk hv
        have hb := fT k
        rw [dO _ _ hk, List.all_eq_true] at hp ⊢
        intro t ht
        have hz := bR (k := k) (n := n) (a := a) (b := b) ht
        exact ih t hz _ (hvs t ht) (hp t ht) fun n x h1 h2 h3 h4 => hg n x h1 (by omega) (by omega) h4
theorem mP {ks : List Tree} (ks' : List Tree) {c : Tree} (h : (KindP ks c).2 = 0) : KindP (ks ++ ks') c = KindP ks c := by
  unfold KindP at h ⊢
  by_cases hc : checkP isConP c = 0
  · rw [if_neg (by simpa using hc)] at h ⊢
    rw [if_neg (by simpa using hc)]
    exact aAg ks' c ks (bQ hc).2.2 h
  · rw [if_pos hc] at h; exact absurd h hc
theorem qA {ks : List Tree} {c : Tree} (h : starE ks c = 0) : (KindP ks c).2 = 0 := by
  unfold starE at h
  split at h
  · cases h
  · exact h
theorem xF {ks : List Tree} (ks' : List Tree) {c : Tree} (h : starE ks c = 0) : starE (ks ++ ks') c = 0 := by
  unfold starE
  rw [mP ks' (qA h)]
  exact h
theorem iP {ks : List Tree} (ks' : List Tree) {c : Tree} (h : (starT ks c).2 = 0) : starT (ks ++ ks') c = starT ks c := by
  have h1 : starE ks c = 0 := by
    unfold starT at h
    split at h
    · rename_i h1; exact absurd h h1
    · rename_i h1; simpa using h1
  unfold starT
  rw [xF ks' h1, h1]
/-- A type that may be shifted. -/
def goodT (B : Int) (T : Tree) : Prop := checkP isConP T = 0 ∧ allV (fun n _ => decide (n ≤ B)) T 0 = true
theorem xG {B : Int} {T : Tree} (hB : B ≤ 65000) (h : goodT B T) : (shiftP T 1 0).2 = 0 ∧ goodT (B + 1) (shiftP T 1 0).1 := by
  obtain ⟨hc, ha⟩ := h
  obtain ⟨hw, hs, hf⟩ := bQ hc
  have hv := dN T hf
  have hok : allV (okG 1 0) T 0 = true := pP _ _ T 0 hv ha fun n x h0 h1 h2 h3 => by
    unfold okG
    have h3 : n ≤ B := by simpa using h3
    exact decide_eq_true (by omega)
  have e := rM T hc 1 0 (Int.le_refl _)
  rw [if_pos hok] at e
  refine ⟨by rw [e], ?_, ?_⟩
  · have h1 := rN T hc 1 0 (Int.le_refl _) (by rw [e])
    rw [e] at h1 ⊢
    rw [rI isConP _ (wZ _ T 0 hw) (by rw [zT _ T 0 hv]; exact hs), if_pos h1]
  · rw [e]
    have hm := aAR (fun n _ => decide (n ≤ B + 1)) (shG 1 0) 0 T 0
    rw [Int.add_zero] at hm
    rw [show allV (fun n _ => decide (n ≤ B + 1)) (mapV (shG 1 0) T 0, (0 : Int)).1 0 = allV (fun n _ => decide (n ≤ B + 1)) (mapV (shG 1 0) T 0) 0 from rfl, hm]
    refine pP _ _ T 0 hv ha fun n x h0 h1 h2 h3 => ?_
    have h3 : n ≤ B := by simpa using h3
    refine decide_eq_true ?_
    unfold shG
    split <;> omega
theorem jR : ∀ (ts' : List Tree) {B : Int}, B ≤ 65000 → (∀ T ∈ ts', goodT B T) → (shiftsP ts').2 = 0 ∧ ∀ T ∈ (shiftsP ts').1, goodT (B + 1) T
  | [], B, _, _ => ⟨rfl, fun T h => (List.not_mem_nil h).elim⟩
  | T :: ts', B, hB, h => by
    obtain ⟨g1, g2⟩ := xG hB (h T (by simp))
    obtain ⟨g3, g4⟩ := jR ts' hB fun T hT => h T (by simp [hT])
    rw [shiftsP, if_neg (by simpa using g1), if_neg (by simpa using g3)]
    refine ⟨rfl, fun U hU => ?_⟩
    rcases List.mem_cons.1 hU with rfl | hU
    · exact g2
    · exact g4 U hU
theorem lC : ∀ (ts ts' : List Tree), (shiftsP ts).2 = 0 → (shiftsP ts').2 = 0 → shiftsP (ts ++ ts') = ((shiftsP ts).1 ++ (shiftsP ts').1, 0)
  | [], ts', _, h => by rw [List.nil_append, shiftsP.eq_1, List.nil_append, ← h]
  | T :: ts, ts', h, h' => by
    rw [shiftsP] at h
    split at h
    · rename_i h1; exact absurd h h1
    · rename_i h1
      split at h
      · rename_i h2; exact absurd h h2
      · rename_i h2
        have ih := lC ts ts' (by simpa using h2) h'
        rw [List.cons_append, shiftsP, if_neg h1, ih, if_neg (by simp), shiftsP, if_neg h1, if_neg h2]
        rfl
end Go.Proofs.YtocaohipfiapkaaGreat.Ab
namespace Go.Proofs.YtocaohipfiapkaaGreat.Ab
set_option linter.unusedVariables false
set_option linter.unusedSimpArgs false
open Go.RowKit
theorem yF (ks' : List Tree) (t : Tree) : ∀ (ks ts ts' : List Tree) (B : Int), isTermP t = true → t.whole = true → (ofP t ks ts).2 = 0 → (∀ T ∈ ts', goodT B T) → B + t.size ≤ 65000 → ofP t (ks ++ ks') (ts ++ ts') = ofP t ks ts := by
  induction t using Tree.sind with
  | h t ih =>
    intro ks ts ts' B hf hw h0 hg hB
    obtain ⟨k, n, a, b, kids, rfl⟩ := cJ hw
    obtain ⟨p0, p1, p2, p3, p4, p5, p6, p7, p8, p9, p10, pk⟩ := iN hf
    have hwk : ∀ t ∈ kids, t.whole = true := fun t h => bL hw h
    have hgo : ∀ x ∈ kids, isTermP x = true → ∀ (ks ts ts' : List Tree) (B' : Int), B' ≤ B + 1 → (ofP x ks ts).2 = 0 → (∀ T ∈ ts', goodT B' T) → ofP x (ks ++ ks') (ts ++ ts') = ofP x ks ts := fun x hx h ks ts ts' B' hb h0 hg => by
      have hz := bR (k := k) (n := n) (a := a) (b := b) hx
      exact ih x hz ks ts ts' B' h (hwk x hx) h0 hg (by omega)
    have h1 : ∀ x ∈ kids, isTermP x = true → (ofP x ks ts).2 = 0 → ofP x (ks ++ ks') (ts ++ ts') = ofP x ks ts := fun x hx h h0 => hgo x hx h ks ts ts' B (by omega) h0 hg
    have h2 : ∀ (T x : Tree), x ∈ kids → isTermP x = true → (ofP x ks (T :: ts)).2 = 0 → ofP x (ks ++ ks') (T :: (ts ++ ts')) = ofP x ks (T :: ts) := fun T x hx h h0 => hgo x hx h ks (T :: ts) ts' B (by omega) h0 hg
    by_cases e0 : k = 130
    · subst e0
      rw [ofP, ofP, if_pos rfl, if_pos rfl]
      rw [ofP, if_pos rfl] at h0
      obtain ⟨n0, _, _⟩ := p0 rfl
      by_cases hn : n ≥ (ts.length : Int)
      · rw [if_pos hn] at h0; cases h0
      · rw [if_neg hn, if_neg (by rw [List.length_append]; omega), List.getD_eq_getElem?_getD, List.getElem?_append_left (by omega), ← List.getD_eq_getElem?_getD]
    by_cases e1 : k = 131
    · subst e1; rw [ofP, ofP]; rfl
    by_cases e2 : k = 132
    · subst e2; rw [ofP, ofP]; rfl
    by_cases e3 : k = 133
    · subst e3; rw [ofP, ofP]; rfl
    by_cases e4 : k = 139
    · subst e4
      obtain ⟨K, x, rfl, hK, hx⟩ := iK (p1 rfl)
      have e : ∀ ks ts, ofP (.node 139 n a b [K, x]) ks ts = tlam1 K (shiftsP ts).2 (ofP x (K :: ks) (shiftsP ts).1) := fun ks ts => by rw [ofP]; rfl
      rw [e] at h0 ⊢
      rw [e]
      unfold tlam1 at h0
      split at h0
      · rename_i h; exact absurd h0 h
      · rename_i h
        split at h0
        · rename_i h; exact absurd h0 h
        · rename_i h3
          have hs : (shiftsP ts).2 = 0 := by simpa using h
          obtain ⟨g1, g2⟩ := jR ts' (by omega) hg
          have hq := hgo x (by simp) hx (K :: ks) (shiftsP ts).1 (shiftsP ts').1 (B + 1) (by omega) (by simpa using h3) g2
          rw [List.cons_append] at hq
          rw [lC ts ts' hs g1, hq, hs]
    by_cases e5 : k = 143
    · subst e5
      obtain ⟨x, y, rfl, hx, hy⟩ := cZ (p3 (by decide))
      have e : ∀ ks ts, ofP (.node 143 n a b [x, y]) ks ts = let1 (ofP x ks ts) (ofP y ks ((ofP x ks ts).1 :: ts)) := fun ks ts => by rw [ofP]; rfl
      rw [e] at h0 ⊢
      rw [e]
      unfold let1 at h0
      split at h0
      · rename_i h; exact absurd h0 h
      · rename_i h
        rw [h1 x (by simp) hx (by simpa using h), h2 _ y (by simp) hy h0]
    by_cases e6 : k = 134
    · subst e6
      obtain ⟨T, y, rfl, hT, hy⟩ := dZ (p2 (by decide))
      have e : ∀ ks ts, ofP (.node 134 n a b [T, y]) ks ts = lamT1 (starT ks T) (ofP y ks ((starT ks T).1 :: ts)) := fun ks ts => by rw [ofP]; rfl
      rw [e] at h0 ⊢
      rw [e]
      unfold lamT1 at h0
      split at h0
      · rename_i h; exact absurd h0 h
      · rename_i h
        split at h0
        · rename_i h; exact absurd h0 h
        · rename_i h3
          rw [iP ks' (by simpa using h), h2 _ y (by simp) hy (by simpa using h3)]
    by_cases e7 : k = 135
    · subst e7
      obtain ⟨x, y, rfl, hx, hy⟩ := cZ (p3 (by decide))
      have e : ∀ ks ts, ofP (.node 135 n a b [x, y]) ks ts = appT1 (ofP x ks ts) (ofP y ks ts) := fun ks ts => by rw [ofP]; rfl
      rw [e] at h0 ⊢
      rw [e]
      unfold appT1 at h0
      split at h0
      · rename_i h; exact absurd h0 h
      · rename_i h
        split at h0
        · rename_i h; exact absurd h0 h
        · rename_i h3
          rw [h1 x (by simp) hx (by simpa using h), h1 y (by simp) hy (by simpa using h3)]
    by_cases e8 : k = 136
    · subst e8
      obtain ⟨q1, q2⟩ := p4 rfl
      have e : ∀ ks ts, ofP (.node 136 n a b kids) ks ts = rec1 (ofRec kids ks ts) := fun ks ts => by rw [ofP]; rfl
      rw [e] at h0 ⊢
      rw [e]
      have key : ∀ l : List Tree, (∀ t ∈ l, t ∈ kids) → (ofRec l ks ts).2 = 0 → ofRec l (ks ++ ks') (ts ++ ts') = ofRec l ks ts := by
        intro l
        induction l with
        | nil => intro _ _; rw [ofRec, ofRec]
        | cons t l ih2 =>
          intro hm h
          rw [ofRec] at h ⊢
          obtain ⟨g1, g2, g3⟩ := eO h
          have hmt := hm t (by simp)
          have hz := bR (k := 136) (n := n) (a := a) (b := b) hmt
          have hwt := hwk t hmt
          obtain ⟨a', x, rfl, hx, hl⟩ := q1 t hmt
          have hz2 := bR (k := 137) (n := 0) (a := a') (b := emptyB) (kids := [x]) (t := x) (by simp)
          have ef : ∀ ks ts, ofField (.node 137 0 a' emptyB [x]) ks ts = field1 a' (ofP x ks ts) := fun ks ts => by rw [ofField, ofH]
          rw [ef] at g1 ⊢
          have gx : (ofP x ks ts).2 = 0 := by
            unfold field1 at g1
            split at g1
            · rename_i h; exact absurd g1 h
            · rename_i h; simpa using h
          rw [ih x (by omega) ks ts ts' B hx (bL hwt (by simp)) gx hg (by omega), ih2 (fun t ht => hm t (by simp [ht])) g2]
          rw [ofRec, ef]
      unfold rec1 at h0
      split at h0
      · rename_i h; exact absurd h0 h
      · rename_i h
        rw [key kids (fun _ h => h) (by simpa using h)]
    by_cases e9 : k = 138
    · subst e9
      obtain ⟨x, rfl, hx⟩ := hD (p5 rfl)
      have e : ∀ ks ts, ofP (.node 138 n a b [x]) ks ts = proj1 a (ofP x ks ts) := fun ks ts => by rw [ofP]; rfl
      rw [e] at h0 ⊢
      rw [e]
      unfold proj1 at h0
      split at h0
      · rename_i h; exact absurd h0 h
      · rename_i h
        rw [h1 x (by simp) hx (eU (by simpa using h)).1]
    by_cases e10 : k = 140
    · subst e10
      obtain ⟨x, C, rfl, hx, hC⟩ := iL (p6 rfl)
      have e : ∀ ks ts, ofP (.node 140 n a b [x, C]) ks ts = tapp1 (ofP x ks ts) (KindP ks C) C := fun ks ts => by rw [ofP]; rfl
      rw [e] at h0 ⊢
      rw [e]
      unfold tapp1 at h0
      split at h0
      · rename_i h; exact absurd h0 h
      · rename_i h
        split at h0
        · rename_i h; exact absurd h0 h
        · rename_i h3
          rw [h1 x (by simp) hx (by simpa using h), mP ks' (by simpa using h3)]
    by_cases e11 : k = 141
    · subst e11
      obtain ⟨C, x, T, rfl, hC, hx, hT⟩ := gJ (p7 rfl)
      have e : ∀ ks ts, ofP (.node 141 n a b [C, x, T]) ks ts = pack1 (starT ks T) (KindP ks C) (ofP x ks ts) C := fun ks ts => by rw [ofP]; rfl
      rw [e] at h0 ⊢
      rw [e]
      unfold pack1 at h0
      split at h0
      · rename_i h; exact absurd h0 h
      · rename_i h
        split at h0
        · rename_i h; exact absurd h0 h
        · rename_i h3
          split at h0
          · rename_i h; exact absurd h0 h
          · rename_i h4
            rw [iP ks' (by simpa using h), mP ks' (by simpa using h3), h1 x (by simp) hx (by simpa using h4)]
    by_cases e12 : k = 142
    · subst e12
      obtain ⟨x, y, rfl, hx, hy⟩ := cZ (p3 (by decide))
      have e : ∀ ks ts, ofP (.node 142 n a b [x, y]) ks ts = unpack1 (ofP x ks ts) (shiftsP ts).2 (ofP y (kid0 (ofP x ks ts).1 :: ks) (kid1 (ofP x ks ts).1 :: (shiftsP ts).1)) := fun ks ts => by rw [ofP]; rfl
      rw [e] at h0 ⊢
      rw [e]
      unfold unpack1 at h0
      split at h0
      · rename_i h; exact absurd h0 h
      · rename_i h
        split at h0
        · rename_i h; exact absurd h0 h
        · rename_i h3
          split at h0
          · rename_i h; exact absurd h0 h
          · rename_i h4
            have hs : (shiftsP ts).2 = 0 := by simpa using h3
            obtain ⟨g1, g2⟩ := jR ts' (by omega) hg
            rw [h1 x (by simp) hx (eU (by simpa using h)).1, lC ts ts' hs g1]
            have hq := hgo y (by simp) hy (kid0 (ofP x ks ts).1 :: ks) (kid1 (ofP x ks ts).1 :: (shiftsP ts).1) (shiftsP ts').1 (B + 1) (by omega) (by simpa using h4) g2
            rw [List.cons_append, List.cons_append] at hq
            rw [hq, hs]
    by_cases e13 : k = 144
    · subst e13
      obtain ⟨x, y, z, rfl, hx, hy, hz⟩ := gK (p8 rfl)
      have e : ∀ ks ts, ofP (.node 144 n a b [x, y, z]) ks ts = choice1 (ofP x ks ts) (ofP y ks ts) (ofP z ks ts) := fun ks ts => by rw [ofP]; rfl
      rw [e] at h0 ⊢
      rw [e]
      unfold choice1 at h0
      split at h0
      · rename_i h; exact absurd h0 h
      · rename_i h
        split at h0
        · rename_i h; exact absurd h0 h
        · rename_i h3
          split at h0
          · rename_i h; exact absurd h0 h
          · rename_i h4
            rw [h1 x (by simp) hx (by simpa using h), h1 y (by simp) hy (by simpa using h3), h1 z (by simp) hz (by simpa using h4)]
    by_cases e14 : k = 145
    · subst e14
      obtain ⟨x, y, rfl, hx, hy⟩ := cZ (p3 (by decide))
      have e : ∀ ks ts, ofP (.node 145 n a b [x, y]) ks ts = op1 n (ofP x ks ts) (ofP y ks ts) := fun ks ts => by rw [ofP]; rfl
      rw [e] at h0 ⊢
      rw [e]
      unfold op1 at h0
      split at h0
      · rename_i h; exact absurd h0 h
      · rename_i h
        split at h0
        · rename_i h; exact absurd h0 h
        · rename_i h3
          rw [h1 x (by simp) hx (by simpa using h), h1 y (by simp) hy (by simpa using h3)]
    by_cases e15 : k = 146
    · subst e15
      obtain ⟨T, x, rfl, hT, hx⟩ := dZ (p2 (by decide))
      have e : ∀ ks ts, ofP (.node 146 n a b [T, x]) ks ts = in1 a (starT ks T) (ofP x ks ts) := fun ks ts => by rw [ofP]; rfl
      rw [e] at h0 ⊢
      rw [e]
      unfold in1 at h0
      split at h0
      · rename_i h; exact absurd h0 h
      · rename_i h
        split at h0
        · rename_i h; exact absurd h0 h
        · rename_i h3
          rw [iP ks' (by simpa using h), h1 x (by simp) hx (by simpa using h3)]
    have harms : ∀ (self : Tree) (l cs : List Tree), (∀ t ∈ l, t ∈ kids ∧ armForm 149 t) → (ofArms l cs self ks ts).2 = 0 → ofArms l cs self (ks ++ ks') (ts ++ ts') = ofArms l cs self ks ts := by
      intro self l
      induction l with
      | nil => intro cs _ _; rw [ofArms, ofArms]
      | cons t l ih2 =>
        intro cs hm h
        rw [ofArms] at h ⊢
        unfold arm1 at h
        split at h
        · rename_i h1; exact absurd h h1
        · rename_i h3
          obtain ⟨g1, g2, g3⟩ := eO h
          obtain ⟨hmt, a', x, rfl, hx, hl⟩ := hm t (by simp)
          have hz := bR (k := k) (n := n) (a := a) (b := b) hmt
          have hwt := hwk _ hmt
          have hz2 := bR (k := 149) (n := 0) (a := a') (b := emptyB) (kids := [x]) (t := x) (by simp)
          have ea : ∀ ks ts, ofArm (.node 149 0 a' emptyB [x]) ks ts = ofP x ks ts := fun ks ts => by rw [ofArm, ofH]
          rw [ea] at g1 ⊢
          have hq := ih x (by omega) ks ((filledP (kid0 (cs.headD .nil)) self).1 :: ts) ts' B hx (bL hwt (by simp)) g1 hg (by omega)
          rw [List.cons_append] at hq
          rw [hq, ih2 cs.tail (fun t ht => hm t (by simp [ht])) g2]
          rw [ofArms, ea]
    have hlen : ∀ (S : Tree) (l : List Tree) (L : List Tree × Int), (arms1 S l L).2 = 0 → L.2 = 0 := fun S l L h => by
      unfold arms1 at h
      split at h
      · cases h
      · exact h
    by_cases e16 : k = 147
    · subst e16
      obtain ⟨x, arms, rfl, hne, hx, ha⟩ := iM (p9 rfl)
      have e : ∀ ks ts, ofP (.node 147 n a b (x :: arms)) ks ts = case1 (ofP x ks ts) (arms1 (ofP x ks ts).1 arms (ofArms arms (kidsOf (ofP x ks ts).1) (ofP x ks ts).1 ks ts)) := fun ks ts => by rw [ofP]; rfl
      rw [e] at h0 ⊢
      rw [e]
      unfold case1 at h0
      split at h0
      · rename_i h; exact absurd h0 h
      · rename_i h
        split at h0
        · rename_i h; exact absurd h0 h
        · rename_i h3
          rw [h1 x (by simp) hx (eU (by simpa using h)).1, harms _ arms _ (fun t ht => ⟨by simp [ht], ha t ht⟩) (hlen _ _ _ (by simpa using h3))]
    · have e17 : k = 148 := by omega
      subst e17
      obtain ⟨x, T, arms, rfl, hne, hx, hT, ha⟩ := gL (p10 rfl)
      have e : ∀ ks ts, ofP (.node 148 n a b (x :: T :: arms)) ks ts = fold1 (ofP x ks ts) (starT ks T) (arms1 (ofP x ks ts).1 arms (ofArms arms (kidsOf (ofP x ks ts).1) (starT ks T).1 ks ts)) := fun ks ts => by rw [ofP]; rfl
      rw [e] at h0 ⊢
      rw [e]
      unfold fold1 at h0
      split at h0
      · rename_i h; exact absurd h0 h
      · rename_i h
        split at h0
        · rename_i h; exact absurd h0 h
        · rename_i h3
          split at h0
          · rename_i h; exact absurd h0 h
          · rename_i h4
            rw [h1 x (by simp) hx (eU (by simpa using h)).1, iP ks' (by simpa using h3), harms _ arms _ (fun t ht => ⟨by simp [ht], ha t ht⟩) (hlen _ _ _ (by simpa using h4))]
theorem aBi : checkP isKindP starK = 0 := by decide +kernel
/-- The law, in plain words. -/
theorem vH {ks : List Tree} {n m : Tree} (hks : ks.length ≤ 4) (hn : n.size ≤ 80) (hm : m.size ≤ 60) (h : (TypeP ks [] n).2 = 0) (hs : starE ks m = 0) :
    TypeP ks [m] n = TypeP ks [] n ∧ TypeP (ks ++ [starK]) [] n = TypeP ks [] n := by
  unfold TypeP at h ⊢
  split at h
  · rename_i h1; exact absurd h h1
  · rename_i h1
    rw [if_neg h1, if_neg h1, if_neg h1]
    have h1' : tcheckP n = 0 := by simpa using h1
    obtain ⟨w1, w2, _⟩ := lB h1'
    split at h
    · cases h
    · rename_i h2
      rw [if_neg h2]
      have hb : (ks.any fun K => decide (checkP isKindP K ≠ 0)) = false := by
        cases hq : (ks.any fun K => decide (checkP isKindP K ≠ 0)) with
        | false => rfl
        | true => exact absurd (.inl hq) h2
      have hc := mO hs
      obtain ⟨mw, ms, mf⟩ := bQ hc
      have hk0 : (kindP m ks).2 = 0 := by
        have := qA hs
        unfold KindP at this
        rw [if_neg (by simpa using hc)] at this
        exact this
      have hv := aAh (ks.length : Int) m ks 0 mf hk0 (by omega)
      have hgood : goodT 64 m := ⟨hc, aAi _ _ m 0 (dN m mf) hv fun n x h0 hx1 hx2 hp => by
        have hp : n < x + (ks.length : Int) := by simpa using hp
        exact decide_eq_true (by omega)⟩
      refine ⟨?_, ?_⟩
      · rw [if_neg]
        · have := yF [] n ks [] [m] 64 w1 w2 h (fun T hT => by rw [List.mem_singleton.1 hT]; exact hgood) (by omega)
          rw [List.append_nil] at this
          exact this
        · rw [hb]
          simp [hs]
      · rw [if_neg]
        · have := yF [starK] n ks [] [] 0 w1 w2 h (fun T hT => (List.not_mem_nil hT).elim) (by omega)
          exact this
        · rw [List.any_append, hb]
          simp [aBi]
end Go.Proofs.YtocaohipfiapkaaGreat.Ab
namespace Go.Proofs.YtocaohipfiapkaaGreat.RP
set_option linter.unusedVariables false
set_option linter.unusedSimpArgs false
open Go.RowKit Go.Lib Go.Proofs.YtocaohipfiapkaaGreatW.PrintWords Go.Proofs.YtocaohipfiapkaaGreatW.PrintLast Go.Proofs.YtocaohipfiapkaaGreatW.PrintMore Go.Proofs.YtocaohipfiapkaaGreat.PAll
theorem w64 {x : Int} (h0 : -9223372036854775808 ≤ x) (h1 : x ≤ 9223372036854775807) : wrap64 x = x := by unfold wrap64; omega
theorem w64s (a : Nat) (h : a ≤ 9000000) : wrap64 ((a : Int) + 1) = ((a + 1 : Nat) : Int) := by rw [w64] <;> omega
theorem aBS (a b : ByteArray) : (a ++ b).data.toList = a.data.toList ++ b.data.toList := by simp
theorem tI (a : ByteArray) : a.data.toList.length = a.size := Array.length_toList
theorem eP (a b : ByteArray) : (a ++ b).size = a.size + b.size := by rw [← tI, aBS, List.length_append, tI, tI]
theorem aBj (A M B : List Int) (a b : Int) :
    (((A ++ (a :: (M ++ [b])) ++ B).set A.length b).set (A.length + M.length + 1) a) = (A ++ [b]) ++ M ++ (a :: B) := by
  rw [List.append_assoc, List.set_append_right _ _ (Nat.le_refl _), Nat.sub_self]
  rw [List.set_append_right _ _ (by omega)]
  have e : A.length + M.length + 1 - A.length = M.length + 1 := by omega
  rw [e]
  simp only [List.cons_append, List.set_cons_zero, List.set_cons_succ, List.append_assoc, List.nil_append, List.singleton_append]
  rw [List.set_append_right _ _ (Nat.le_refl _), Nat.sub_self]
  simp
theorem aCu : ∀ (d : Nat) (A M B : List Int) (k : Nat), A.length = B.length → M.length ≤ d → d + 1 ≤ k → A.length + M.length ≤ 1000000 →
    slices_Reverse_byte_byte.l0 k (A ++ M ++ B) (A.length : Int) (((A.length : Int) + (M.length : Int)) - 1) = some (A ++ M.reverse ++ B) := by
  intro d
  induction d with
  | zero =>
    intro A M B k h h1 h2 h3
    obtain ⟨k, rfl⟩ : ∃ m, k = m + 1 := ⟨k - 1, by omega⟩
    have e : M = [] := List.eq_nil_of_length_eq_zero (by omega)
    subst e
    simp only [slices_Reverse_byte_byte.l0]
    rw [if_neg (by simp; omega)]
    rfl
  | succ d ih =>
    intro A M B k h h1 h2 h3
    obtain ⟨k, rfl⟩ : ∃ m, k = m + 1 := ⟨k - 1, by omega⟩
    simp only [slices_Reverse_byte_byte.l0]
    cases M with
    | nil => rw [if_neg (by simp; omega)]; rfl
    | cons a T =>
      rcases List.eq_nil_or_concat T with rfl | ⟨M, b, rfl⟩
      · rw [if_neg (by simp)]; rfl
      · simp only [List.length_cons, List.length_append, List.length_nil, List.concat_eq_append] at h1 h3 ⊢
        have e1 : ((A.length : Int) + ((M.length + (0 + 1) + 1 : Nat) : Int) - 1) = ((A.length + M.length + 1 : Nat) : Int) := by omega
        rw [e1, if_pos (by omega), if_pos (by omega), if_pos (by omega), if_pos (by omega), if_pos (by omega)]
        have r1 : rd (A ++ a :: (M ++ [b]) ++ B) ((A.length + M.length + 1 : Nat) : Int) = b := by
          unfold rd
          rw [Int.toNat_natCast, List.append_assoc, List.getD_eq_getElem?_getD, List.getElem?_append_right (by omega)]
          have e : A.length + M.length + 1 - A.length = M.length + 1 := by omega
          rw [e]
          simp
        have r2 : rd (A ++ a :: (M ++ [b]) ++ B) (A.length : Int) = a := by
          unfold rd
          rw [Int.toNat_natCast, List.append_assoc, List.getD_eq_getElem?_getD, List.getElem?_append_right (by omega), Nat.sub_self]
          simp
        rw [r1, r2, Int.toNat_natCast, Int.toNat_natCast, aBj, w64s _ (by omega)]
        have e2 : wrap64 (((A.length + M.length + 1 : Nat) : Int) - 1) = ((A ++ [b]).length : Int) + (M.length : Int) - 1 := by
          rw [w64 (by omega) (by omega), List.length_append]; simp; omega
        have e3 : ((A.length + 1 : Nat) : Int) = ((A ++ [b]).length : Int) := by rw [List.length_append]; simp
        rw [e2, e3, ih (A ++ [b]) M (a :: B) k (by simp [h]) (by omega) (by omega) (by simp; omega)]
        simp
theorem aCv (l : List Int) (k : Nat) (hk : l.length + 1 ≤ k) (hl : l.length ≤ 1000000) : slices_Reverse_byte_byte.f k l = some l.reverse := by
  unfold slices_Reverse_byte_byte.f
  have h := aCu l.length [] l [] k rfl (Nat.le_refl _) hk (by simpa using hl)
  rw [w64 (by omega) (by omega)]
  simp only [List.nil_append, List.append_nil, List.length_nil] at h
  have e : (((0 : Nat) : Int) + (l.length : Int) - 1) = (l.length : Int) - 1 := by omega
  rw [e] at h
  exact h
/-- The digits of a number, the last one first. -/
def digL : Nat → Nat → List Int
  | 0, _ => []
  | f + 1, m => (48 + ((m % 10 : Nat) : Int)) :: if m / 10 = 0 then [] else digL f (m / 10)
def signP (n : Int) : ByteArray := if n < 0 then ⟨#[126]⟩ else ⟨#[]⟩
def numP (n : Int) : ByteArray := signP n ++ strOfNums (digL 20 n.natAbs).reverse
theorem aBk {n : Int} (h0 : 0 ≤ n) (h1 : n < 18446744073709551616) : IntKind.u64.wrap n = n := by rw [IntKind.wrap_u64]; omega
theorem rP (sg : ByteArray) (hsg : sg.size ≤ 1) : ∀ (f m : Nat) (acc : List Int) (k : Nat), m < 10 ^ f → 1 ≤ f → f ≤ 20 → acc.length + f ≤ 100 → f + 110 ≤ k → m < 18446744073709551616 →
    lexer_Number.l0 k (m : Int) sg acc true = some (sg ++ strOfNums (acc ++ digL f m).reverse) := by
  intro f
  induction f with
  | zero => intro m acc k _ h; omega
  | succ f ih =>
    intro m acc k h1 h2 h2' h3 hk hm
    obtain ⟨k, rfl⟩ : ∃ j, k = j + 1 := ⟨k - 1, by omega⟩
    have ed : Int.tdiv (m : Int) 10 = ((m / 10 : Nat) : Int) := by
      rw [Int.tdiv_eq_ediv_of_nonneg (by omega)]; omega
    have em : Int.tmod (m : Int) 10 = ((m % 10 : Nat) : Int) := by
      rw [Int.tmod_eq_emod_of_nonneg (by omega)]; omega
    simp only [lexer_Number.l0]
    rw [if_pos trivial, if_pos (by omega), ed, em, aBk (by omega) (by omega), aBk (by omega) (by omega)]
    have e2 : (48 + ((m % 10 : Nat) : Int)) % 256 = 48 + ((m % 10 : Nat) : Int) := by omega
    rw [e2]
    by_cases h : m / 10 = 0
    · rw [h]
      obtain ⟨k, rfl⟩ : ∃ j, k = j + 1 := ⟨k - 1, by omega⟩
      have e0 : decide (((0 : Nat) : Int) > 0) = false := rfl
      simp only [lexer_Number.l0, e0]
      rw [if_neg (by simp), aCv _ k (by simp; omega) (by simp; omega)]
      simp only [Option.bind_some]
      have e3 : digL (f + 1) m = [48 + ((m % 10 : Nat) : Int)] := by unfold digL; rw [if_pos h]
      rw [e3, if_pos]
      rw [strOfNums_size]
      simp
      omega
    · have e0 : decide (((m / 10 : Nat) : Int) > 0) = true := decide_eq_true (by omega)
      rw [e0]
      have hf : 1 ≤ f := by
        cases f with
        | zero => omega
        | succ f => omega
      rw [ih (m / 10) (acc ++ [48 + ((m % 10 : Nat) : Int)]) k (by rw [Nat.pow_succ] at h1; omega) hf (by omega) (by simp; omega) (by omega) (by omega)]
      have e3 : digL (f + 1) m = (48 + ((m % 10 : Nat) : Int)) :: digL f (m / 10) := by unfold digL; rw [if_neg h]; cases f <;> rfl
      rw [e3]
      simp
theorem aAj (n : Int) (h0 : -9223372036854775808 ≤ n) (h1 : n ≤ 9223372036854775807) : lexer_Number.f 200 n = some (numP n) := by
  unfold lexer_Number.f numP signP
  by_cases hn : n < 0
  · rw [if_pos hn, if_pos hn]
    have e : IntKind.u64.wrap (-(IntKind.u64.wrap n)) = ((n.natAbs : Nat) : Int) := by
      rw [IntKind.wrap_u64, IntKind.wrap_u64]; omega
    rw [e]
    simp only [lexer_Number.j0]
    rw [rP _ (by decide) 20 n.natAbs [] _ (Nat.lt_of_lt_of_le (show n.natAbs < 100000000000000000000 by omega) (by decide)) (by omega) (by omega) (by simp) (by omega) (by omega)]
    rfl
  · rw [if_neg hn, if_neg hn]
    have e : IntKind.u64.wrap n = ((n.natAbs : Nat) : Int) := by rw [IntKind.wrap_u64]; omega
    rw [e]
    simp only [lexer_Number.j0]
    rw [rP _ (by decide) 20 n.natAbs [] _ (Nat.lt_of_lt_of_le (show n.natAbs < 100000000000000000000 by omega) (by decide)) (by omega) (by omega) (by simp) (by omega) (by omega)]
    rfl
end Go.Proofs.YtocaohipfiapkaaGreat.RP
namespace Go.Proofs.YtocaohipfiapkaaGreat.Ab
set_option linter.unusedVariables false
set_option linter.unusedSimpArgs false
open Go.RowKit Go.Lib Go.Proofs.YtocaohipfiapkaaGreatW.PrintWords Go.Proofs.YtocaohipfiapkaaGreatW.PrintLast Go.Proofs.YtocaohipfiapkaaGreatW.PrintMore Go.Proofs.YtocaohipfiapkaaGreat.RP Go.Proofs.YtocaohipfiapkaaGreat.PAll
theorem vI {P : Program} {f : FuncId} {l : List Value} {r : Value} (he : Enters P f) (h1 : r.oneCell' = true)
    (h : ∀ w M, Amb w M → Calls P f l.toArray w fun e w' => e = .returned r ∧ Below w.heap.size w w') : ACalls P f (l.map fun v => .imm (.lit v)) [] (.imm (.lit r)) [] := by
  have := yW (P := P) (f := f) (args := l.map .lit) (r := .lit r) he (fun w M vs ha hv => by
    rw [lM hv]
    exact (h w M ha).mono fun e w' ⟨h2, h3⟩ => ⟨r, h2, h3, wF h1⟩)
  rw [List.map_map] at this
  exact this
theorem aBl (n : Int) (h0 : -9223372036854775808 ≤ n) (h1 : n ≤ 9223372036854775807) : ACalls Tryz.prog 68 [.imm (.lit (.int .i64 n))] [] (.imm (.lit (.string (numP n)))) [] :=
  vI (l := [.int .i64 n]) ⟨_, Tryz.func68, rfl, rfl⟩ rfl (fun w M ha => lexer_Number.calls 200 n _ w (aAj n h0 h1))
end Go.Proofs.YtocaohipfiapkaaGreat.Ab
namespace Go.Proofs.YtocaohipfiapkaaGreat.Ab
set_option linter.unusedVariables false
set_option linter.unusedSimpArgs false
open Go.RowKit Go.Proofs.YtocaohipfiapkaaGreat.RP
attribute [local irreducible] AWP AOps AExit AThen ABlock ANoGoto FeetOk
abbrev sStar : ByteArray := ⟨#[42]⟩
abbrev sV0 : ByteArray := ⟨#[36, 48]⟩
/-- ( $0 -> $0 ) -/
abbrev sArr : ByteArray := ⟨#[40, 32, 36, 48, 32, 45, 62, 32, 36, 48, 32, 41]⟩
/-- ( all * . ( $0 -> $0 ) ) -/
abbrev sAll : ByteArray := ⟨#[40, 32, 97, 108, 108, 32, 42, 32, 46, 32, 40, 32, 36, 48, 32, 45, 62, 32, 36, 48, 32, 41, 32, 41]⟩
abbrev tStar : Tree := .node 100 0 emptyB emptyB []
abbrev tV0 : Tree := .node 110 0 emptyB emptyB []
abbrev tArr : Tree := .node 114 0 emptyB emptyB [tV0, tV0]
abbrev tAll : Tree := .node 117 0 emptyB emptyB [tStar, tArr]
set_option maxHeartbeats 4000000 in
set_option maxRecDepth 10000 in
theorem xH : ACalls Tryz.prog 35 [.imm (Tree.iv tStar)] [] (.imm (.lit (.string sStar))) [] := by
  refine aJ Tryz.func35 rfl rfl (nb rfl) rfl ?_
  repeat' (first | refine aG ?_ | (refine aI ?_;  first | refine aC tabOk rfl rfl rfl (nb rfl) rfl ?_ | (refine aK rfl rfl rfl (nb rfl) rfl rfl rfl (fun hq => ?_) (fun hq => ?_) <;> (first | (simp only [sD, sE, sB, sC, sN, sM, sT, sF] at hq; try (exfalso; omega)) | skip)) | refine aY tabOk rfl rfl (nb rfl) rfl ?_) | (refine aN ?_;  first | refine aH ?_ | refine aQ ?_ | refine aX ?_ | refine aT ?_ | refine aE (b := true) rfl (fun _ => ?_) nTf) | (refine aM ?_;  first | refine aV ?_) | (refine aW ?_;  first | refine bD ?_))
  all_goals first
    | exact absurd rfl (by assumption)
    | (exfalso; omega)
    | (refine aU (by first | exact .inl rfl | exact .inr rfl) (bC rfl (aA rfl)) rfl ?_; rfl)
set_option maxHeartbeats 4000000 in
set_option maxRecDepth 10000 in
theorem aBm : ACalls Tryz.prog 35 [.imm (Tree.iv tV0)] [] (.imm (.lit (.string sV0))) [] := by
  have c1 := aBl 0 (by decide) (by decide)
  rw [show numP 0 = ⟨#[48]⟩ by decide +kernel] at c1
  have s1 : (⟨#[36]⟩ : ByteArray).size = 1 := rfl
  have s2 : (⟨#[48]⟩ : ByteArray).size = 1 := rfl
  refine aJ Tryz.func35 rfl rfl (nb rfl) rfl ?_
  repeat' (first | refine aG ?_ | (refine aI ?_;  first | refine aC tabOk rfl rfl rfl (nb rfl) rfl ?_ | (refine aK rfl rfl rfl (nb rfl) rfl rfl rfl (fun hq => ?_) (fun hq => ?_) <;> (first | (simp only [sD, sE, sB, sC, sN, sM, sT, sF] at hq; try (exfalso; omega)) | skip)) | refine aD rfl rfl (nb rfl) rfl rfl rfl rfl (c1) ?_ | refine gH rfl rfl rfl (nb rfl) rfl rfl (by first | omega | (simp only [eP]; omega)) ?_ | refine aY tabOk rfl rfl (nb rfl) rfl ?_) | (refine aN ?_;  first | refine aH ?_ | refine aQ ?_ | refine bI ?_ | refine aX ?_ | refine aT ?_ | refine aE (b := true) rfl (fun _ => ?_) nTf | refine aE (b := false) rfl nFt (fun _ => ?_)) | (refine aM ?_;  first | refine bA ?_ | refine aV ?_) | (refine aW ?_;  first | refine bD ?_))
  all_goals first
    | exact absurd rfl (by assumption)
    | (exfalso; omega)
    | (refine aU (by first | exact .inl rfl | exact .inr rfl) (bC rfl (aA rfl)) rfl ?_; rfl)
set_option maxHeartbeats 4000000 in
set_option maxRecDepth 10000 in
theorem rQ (k n : Int) (a b : ByteArray) (px py : List IV) (bt sx sy : ByteArray) (h1 : sx.size ≤ 100) (h2 : bt.size ≤ 100) (h3 : sy.size ≤ 100)
    (c1 : ACalls Tryz.prog 35 [.imm (.ptr px 0)] [] (.imm (.lit (.string sx))) []) (c2 : ACalls Tryz.prog 35 [.imm (.ptr py 0)] [] (.imm (.lit (.string sy))) []) :
    ACalls Tryz.prog 67 [.imm (.lit (.string bt)), .obj 1001 0] [(1001, .cells [.imm (.ptr [.lit (.int .i64 k), .lit (.int .i64 n), .lit (.string a), .lit (.string b), .sl false 2 [.ptr px 0, .ptr py 0]] 0)])] (.imm (.lit (.string ((sx ++ bt) ++ sy))))
      [(1001, .cells [.imm (.ptr [.lit (.int .i64 k), .lit (.int .i64 n), .lit (.string a), .lit (.string b), .sl false 2 [.ptr px 0, .ptr py 0]] 0)])] := by
  refine bZ [1001] Tryz.func67 rfl rfl (nb rfl) rfl rfl ?_
  repeat' (first | refine aG ?_ | (refine aI ?_;  first | refine aC tabOk rfl rfl rfl (nb rfl) rfl ?_ | refine aD rfl rfl (nb rfl) rfl rfl rfl rfl (c1) ?_ | refine aD rfl rfl (nb rfl) rfl rfl rfl rfl (c2) ?_ | refine gH rfl rfl rfl (nb rfl) rfl rfl (by first | omega | (simp only [eP]; omega)) ?_ | refine bM tabOk rfl rfl rfl (nb rfl) rfl rfl rfl rfl ?_ | refine bE tabOk rfl rfl rfl (nb rfl) rfl rfl rfl rfl (by first | rfl | omega) (by first | omega | simp) ?_) | (refine aN ?_;  first | refine aH ?_ | refine aQ ?_ | refine aT ?_ | refine aR mixed (by kernel_rfl) ?_) | (refine aM ?_;  first | refine bA ?_) | refine bG (bF (by kernel_rfl)) ?_)
  all_goals (refine cG (cF (by first | exact .inl rfl | exact .inr rfl) (bC rfl (aA rfl)) rfl (by repeat' first | exact trivial | refine ⟨rfl, ?_⟩) rfl ?_); rfl)
set_option maxHeartbeats 8000000 in
set_option maxRecDepth 10000 in
theorem aAk : ACalls Tryz.prog 35 [.imm (Tree.iv tArr)] [] (.imm (.lit (.string sArr))) [] := by
  obtain ⟨px, hpx⟩ := bT (show tV0 ≠ .nil by intro h; cases h)
  have c0 := aBm
  rw [hpx] at c0
  have hc := rQ 114 0 emptyB emptyB px px ⟨#[32, 45, 62, 32]⟩ sV0 sV0 (by decide) (by decide) (by decide) c0 c0
  rw [show (sV0 ++ (⟨#[32, 45, 62, 32]⟩ : ByteArray)) ++ sV0 = ⟨#[36, 48, 32, 45, 62, 32, 36, 48]⟩ by decide +kernel] at hc
  rw [dH 114 0 emptyB emptyB hpx hpx]
  have s1 : (⟨#[40, 32]⟩ : ByteArray).size = 2 := rfl
  have s2 : (⟨#[36, 48, 32, 45, 62, 32, 36, 48]⟩ : ByteArray).size = 8 := rfl
  have s3 : (⟨#[32, 41]⟩ : ByteArray).size = 2 := rfl
  refine aJ Tryz.func35 rfl rfl (nb rfl) rfl ?_
  repeat' (first | refine aG ?_ | (refine aI ?_;  first | refine aC tabOk rfl rfl rfl (nb rfl) rfl ?_ | (refine aK rfl rfl rfl (nb rfl) rfl rfl rfl (fun hq => ?_) (fun hq => ?_) <;> (first | (simp only [sD, sE, sB, sC, sN, sM, sT, sF] at hq; try (exfalso; omega)) | skip)) | refine cK 1001 (d := 1) rfl rfl rfl (nb rfl) rfl rfl rfl rfl rfl rfl rfl ?_ | refine cD rfl rfl (nb rfl) rfl rfl rfl rfl hc (by repeat' first | exact trivial | refine ⟨rfl, ?_⟩) rfl (by show ([1001] : List Nat).Nodup; decide) ?_ | refine gH rfl rfl rfl (nb rfl) rfl rfl (by first | omega | (simp only [eP]; omega)) ?_ | refine bM tabOk rfl rfl rfl (nb rfl) rfl rfl rfl rfl ?_) | (refine aN ?_;  first | refine aH ?_ | refine aQ ?_ | refine bI ?_ | refine aX ?_ | refine aT ?_ | refine aE (b := true) rfl (fun _ => ?_) nTf | refine aE (b := false) rfl nFt (fun _ => ?_)) | (refine aM ?_;  first | refine bA ?_ | refine aV ?_) | (refine aW ?_;  first | refine bD ?_))
  all_goals first
    | exact absurd rfl (by assumption)
    | (exfalso; omega)
    | (refine aU (by first | exact .inl rfl | exact .inr rfl) (bC rfl (aA rfl)) rfl ?_; rfl)
set_option maxHeartbeats 8000000 in
set_option maxRecDepth 10000 in
theorem aAl : ACalls Tryz.prog 35 [.imm (Tree.iv tAll)] [] (.imm (.lit (.string sAll))) [] := by
  obtain ⟨px, hpx⟩ := bT (show tStar ≠ .nil by intro h; cases h)
  obtain ⟨py, hpy⟩ := bT (show tArr ≠ .nil by intro h; cases h)
  have c0 := xH
  have c1 := aAk
  rw [hpx] at c0
  rw [hpy] at c1
  have hc := rQ 117 0 emptyB emptyB px py ⟨#[32, 46, 32]⟩ sStar sArr (by decide) (by decide) (by decide) c0 c1
  rw [show (sStar ++ (⟨#[32, 46, 32]⟩ : ByteArray)) ++ sArr = ⟨#[42, 32, 46, 32, 40, 32, 36, 48, 32, 45, 62, 32, 36, 48, 32, 41]⟩ by decide +kernel] at hc
  rw [dH 117 0 emptyB emptyB hpx hpy]
  have s1 : (⟨#[40, 32, 97, 108, 108, 32]⟩ : ByteArray).size = 6 := rfl
  have s2 : (⟨#[42, 32, 46, 32, 40, 32, 36, 48, 32, 45, 62, 32, 36, 48, 32, 41]⟩ : ByteArray).size = 16 := rfl
  have s3 : (⟨#[32, 41]⟩ : ByteArray).size = 2 := rfl
  refine aJ Tryz.func35 rfl rfl (nb rfl) rfl ?_
  repeat' (first | refine aG ?_ | (refine aI ?_;  first | refine aC tabOk rfl rfl rfl (nb rfl) rfl ?_ | (refine aK rfl rfl rfl (nb rfl) rfl rfl rfl (fun hq => ?_) (fun hq => ?_) <;> (first | (simp only [sD, sE, sB, sC, sN, sM, sT, sF] at hq; try (exfalso; omega)) | skip)) | refine cK 1001 (d := 1) rfl rfl rfl (nb rfl) rfl rfl rfl rfl rfl rfl rfl ?_ | refine cD rfl rfl (nb rfl) rfl rfl rfl rfl hc (by repeat' first | exact trivial | refine ⟨rfl, ?_⟩) rfl (by show ([1001] : List Nat).Nodup; decide) ?_ | refine gH rfl rfl rfl (nb rfl) rfl rfl (by first | omega | (simp only [eP]; omega)) ?_ | refine bM tabOk rfl rfl rfl (nb rfl) rfl rfl rfl rfl ?_) | (refine aN ?_;  first | refine aH ?_ | refine aQ ?_ | refine bI ?_ | refine aX ?_ | refine aT ?_ | refine aE (b := true) rfl (fun _ => ?_) nTf | refine aE (b := false) rfl nFt (fun _ => ?_)) | (refine aM ?_;  first | refine bA ?_ | refine aV ?_) | (refine aW ?_;  first | refine bD ?_))
  all_goals first
    | exact absurd rfl (by assumption)
    | (exfalso; omega)
    | (refine aU (by first | exact .inl rfl | exact .inr rfl) (bC rfl (aA rfl)) rfl ?_; rfl)
theorem xI : checkP isConP tAll = 0 := by decide +kernel
set_option maxHeartbeats 4000000 in
set_option maxRecDepth 10000 in
theorem aAm : ACalls Tryz.prog 20 [.imm (Tree.iv tAll)] [] (.imm (.lit (.string sAll))) [] := by
  have c1 := eM tAll (by decide)
  rw [xI] at c1
  have c2 := aAl
  generalize Tree.iv tAll = X at *
  refine aJ Tryz.func20 rfl rfl (nb rfl) rfl ?_
  repeat' (first | refine aG ?_ | (refine aI ?_;  first | refine aC tabOk rfl rfl rfl (nb rfl) rfl ?_ | refine cA rfl rfl (nb rfl) ?_ | (refine aK rfl rfl rfl (nb rfl) rfl rfl rfl (fun hq => ?_) (fun hq => ?_) <;> (first | (simp only [sD, sE, sB, sC, sN, sM, sT, sF] at hq; try (exfalso; omega)) | skip)) | refine aD rfl rfl (nb rfl) rfl rfl rfl rfl (c1) ?_ | refine aD rfl rfl (nb rfl) rfl rfl rfl rfl (c2) ?_) | (refine aN ?_;  first | refine aH ?_ | refine aQ ?_ | refine aT ?_ | refine aZ ?_ | refine aE (b := false) rfl nFt (fun _ => ?_)) | (refine aM ?_;  first | refine bA ?_))
  all_goals first
    | exact absurd rfl (by assumption)
    | (refine aU (by first | exact .inl rfl | exact .inr rfl) (bC rfl (aA rfl)) rfl ?_; rfl)
abbrev tLam : Tree := .node 134 0 emptyB emptyB [tV0, .node 130 0 emptyB emptyB []]
abbrev tTLam : Tree := .node 139 0 emptyB emptyB [tStar, tLam]
set_option maxRecDepth 100000 in
theorem aBT : TypeP [] [] tTLam = (tAll, 0) := by decide +kernel
set_option maxHeartbeats 8000000 in
set_option maxRecDepth 10000 in
theorem kC : ACalls Tryz.prog 9 [] [] (.imm (.lit (.bool true))) [] := by
  have c1 := aBh tTLam (by decide)
  rw [aBT] at c1
  have c2 := aAm
  dsimp only at c1
  generalize Tree.iv tAll = X at *
  refine aJ Tryz.func9 rfl rfl (nb rfl) rfl ?_
  repeat' (first | refine aG ?_ | (refine aI ?_;  first | refine aC tabOk rfl rfl rfl (nb rfl) rfl ?_ | (refine aK rfl rfl rfl (nb rfl) rfl rfl rfl (fun hq => ?_) (fun hq => ?_) <;> (first | (simp only [sD, sE, sB, sC, sN, sM, sT, sF] at hq; try (exfalso; omega)) | skip)) | refine aD rfl rfl (nb rfl) rfl rfl rfl rfl (c1) ?_ | refine aD rfl rfl (nb rfl) rfl rfl rfl rfl (c2) ?_ | refine cI tabOk rfl rfl rfl (nb rfl) rfl rfl rfl rfl rfl rfl rfl rfl rfl ?_ | refine aY tabOk rfl rfl (nb rfl) rfl ?_) | (refine aN ?_;  first | refine aH ?_ | refine aT ?_))
  all_goals first
    | exact dW (by first | exact .inl rfl | exact .inr rfl) (bC rfl (aA rfl)) rfl
    | exact absurd rfl (by assumption)
    | (exfalso; omega)
end Go.Proofs.YtocaohipfiapkaaGreat.Ab
namespace Go.Proofs.YtocaohipfiapkaaGreat.Ab
set_option linter.unusedVariables false
set_option linter.unusedSimpArgs false
open Go.RowKit
attribute [local irreducible] AWP AOps AExit AThen ABlock ANoGoto FeetOk
theorem rR (l : List CellD) (hff : ∀ c ∈ l, c.f = false) : ∃ t : Tree, t.size ≤ 60 ∧ ACalls Tryz.prog 6 [.imm (.agg [.sl false l.length (cellIVs l)])] [] (.imm t.iv) [] := by
  obtain ⟨t, h, c⟩ := wY l hff
  rcases h with rfl | ⟨h1, h2, h3⟩
  · exact ⟨_, by simp [Tree.size], c⟩
  · exact ⟨t, h2, c⟩
theorem aAn (l : List CellD) (hff : ∀ c ∈ l, c.f = false) : ∃ t : Tree, t.size ≤ 80 ∧ ACalls Tryz.prog 5 [.imm (.agg [.sl false l.length (cellIVs l)])] [] (.imm t.iv) [] := by
  obtain ⟨t, h, c⟩ := wX l hff
  rcases h with rfl | ⟨h1, h2, h3⟩
  · exact ⟨_, by simp [Tree.size], c⟩
  · exact ⟨t, h2, c⟩
/-- The cells of a list of lists of cells. -/
def rowsIV (L : List (List CellD)) : List IV := L.map fun l => .sl false l.length (cellIVs l)
theorem aBU (L : List (List CellD)) (j : Nat) (h : j < L.length) : ((rowsIV L).drop (j * 1)).take 1 = [.sl false L[j].length (cellIVs L[j])] := by
  have hl : j < (rowsIV L).length := by unfold rowsIV; rw [List.length_map]; exact h
  rw [Nat.mul_one, List.drop_eq_getElem_cons hl, List.take_succ_cons, List.take_zero]
  congr 1
  exact List.getElem_map ..
theorem aAo {x : IV} (h : FitsV (.slice tyTree) x) : ∃ L : List (List CellD), x = .sl false L.length (rowsIV L) ∧ ∀ l ∈ L, ∀ c ∈ l, c.f = false := by
  cases h with
  | slice e ys hy hys =>
    have key : ∀ ys : List (List IV), (∀ y ∈ ys, Fits tyTree y) → ∃ L : List (List CellD), L.length = ys.length ∧ ys.flatten = rowsIV L ∧ ∀ l ∈ L, ∀ c ∈ l, c.f = false := by
      intro ys
      induction ys with
      | nil => intro _; exact ⟨[], rfl, rfl, fun l hl => (List.not_mem_nil hl).elim⟩
      | cons y ys ih =>
        intro hall
        obtain ⟨L, h1, h2, h3⟩ := ih fun z hz => hall z (by simp [hz])
        obtain ⟨l, e, hl⟩ := mJ (x := .agg y) ⟨y, rfl, hall y (by simp)⟩
        cases e
        refine ⟨l :: L, by simp [h1], by rw [List.flatten_cons, h2]; rfl, fun m hm => ?_⟩
        rcases List.mem_cons.1 hm with rfl | hm
        · exact hl
        · exact h3 m hm
    obtain ⟨L, h1, h2, h3⟩ := key ys hys
    exact ⟨L, by rw [h2, ← h1], h3⟩
set_option maxHeartbeats 16000000 in
set_option maxRecDepth 10000 in
theorem aAp (L : List (List CellD)) (hL : ∀ l ∈ L, ∀ c ∈ l, c.f = false) : ∃ ks : List Tree, ks.length ≤ 4 ∧ (∀ K ∈ ks, K.size ≤ 60) ∧
    ACalls Tryz.prog 4 [.imm (.sl false L.length (rowsIV L))] [] (.imm (.sl false ks.length (Tree.ivs ks))) [] := by
  have hT : ∀ j (h : j < L.length), ∃ t : Tree, t.size ≤ 60 ∧ ACalls Tryz.prog 6 [.imm (.agg [.sl false L[j].length (cellIVs L[j])])] [] (.imm t.iv) [] := fun j h => rR L[j] (hL _ (List.getElem_mem h))
  obtain ⟨T, hTT⟩ : ∃ T : Nat → Tree, ∀ j (h : j < L.length), (T j).size ≤ 60 ∧ ACalls Tryz.prog 6 [.imm (.agg [.sl false L[j].length (cellIVs L[j])])] [] (.imm (T j).iv) [] :=
    ⟨fun j => if h : j < L.length then Classical.choose (hT j h) else .nil, fun j h => by dsimp only; rw [dif_pos h]; exact Classical.choose_spec (hT j h)⟩
  obtain ⟨M, hM⟩ : ∃ M, M = min L.length 4 := ⟨_, rfl⟩
  have hM1 : M ≤ L.length := by omega
  have hM2 : M ≤ 4 := by omega
  have hM3 : M = L.length ∨ M = 4 := by omega
  refine ⟨(List.range M).map T, by simp [hM2], fun K hK => ?_, ?_⟩
  · obtain ⟨j, hj, rfl⟩ := List.mem_map.1 hK
    exact (hTT j (by have := List.mem_range.1 hj; omega)).1
  rw [List.length_map, List.length_range]
  clear hT hM hL
  refine cL Tryz.func4 rfl rfl (nb rfl) rfl ?_
  repeat' (first | refine aG ?_ | (refine aI ?_;  first | refine aC tabOk rfl rfl rfl (nb rfl) rfl ?_) | (refine aN ?_;  first | refine aH ?_ | refine aQ ?_ | refine aX ?_))
  refine cW (nW (t := 3) 500 28 1 rfl (by simp) rfl rfl) ?_
  refine cH (ι := {j : Nat // j ≤ M}) (fun j => S.f ⟨[(4, .imm (.lit (.int .i64 (j.1 : Int)))), (0, .imm (.sl false L.length (rowsIV L))), (3, .ref 500 j.1)], [(500, .arr 28 1 j.1 (Tree.ivs ((List.range j.1).map T)))]⟩) (fun j => M - j.1) ⟨0, Nat.zero_le _⟩ (bW (by repeat' first | exact trivial | refine ⟨rfl, ?_⟩) (by repeat' first | exact trivial | refine ⟨rfl, ?_⟩)) ?_
  rintro ⟨j, hj⟩
  dsimp only
  by_cases hlt : j < M
  · have hrow := aBU L j (by omega)
    have c1 := (hTT j (by omega)).2
    have hnx : Tree.ivs ((List.range (j + 1)).map T) = Tree.ivs ((List.range j).map T) ++ [(T j).iv] := by rw [List.range_succ, List.map_append, cX, cX, List.map_append]; rfl
    have hil := dD ((List.range j).map T)
    rw [List.length_map, List.length_range] at hil
    have hq : (T j).iv = .lit (.pointer none) ∨ ∃ p, (T j).iv = .ptr p 0 := by
      cases T j with
      | nil => exact .inl (by rw [Tree.iv])
      | node k n a b kids => exact .inr ⟨_, by rw [Tree.iv]⟩
    generalize Tree.ivs ((List.range j).map T) = AI at *
    rcases hq with hq | ⟨p, hq⟩
    all_goals
      rw [hq] at c1 hnx
      repeat' (first | refine aG ?_ | (refine aI ?_;  first | refine aC tabOk rfl rfl rfl (nb rfl) rfl ?_ | (refine aK rfl rfl rfl (nb rfl) rfl rfl rfl (fun hq => ?_) (fun hq => ?_) <;> (first | (simp only [sD, sE, sB, sC, sN, sM, sT, sF] at hq; try (exfalso; omega)) | skip)) | refine eT tabOk rfl rfl rfl (nb rfl) rfl rfl rfl hrow rfl ?_ | refine aD rfl rfl (nb rfl) rfl rfl rfl rfl (c1) ?_ | refine cN tabOk rfl rfl rfl (nb rfl) rfl rfl rfl rfl rfl rfl rfl (by first | omega | decide) rfl (by first | omega | (dsimp only; omega)) (by first | omega | (dsimp only; omega)) ?_ | refine bX rfl rfl rfl (nb rfl) rfl rfl (by omega) ?_ | refine cI tabOk rfl rfl rfl (nb rfl) rfl rfl rfl rfl rfl rfl rfl rfl rfl ?_ | refine aY tabOk rfl rfl (nb rfl) rfl ?_ | refine bH tabOk rfl rfl rfl (nb rfl) rfl rfl rfl rfl (by first | assumption | omega) ?_) | (refine aN ?_;  first | refine aH ?_ | refine aQ ?_ | refine bI ?_ | refine aX ?_ | refine aZ ?_ | refine aE (b := true) rfl (fun _ => ?_) nTf) | (refine aM ?_;  first | refine bA ?_) | (refine aW ?_;  first | refine bS ?_))
      all_goals first
        | (exfalso; omega)
        | exact absurd rfl (by assumption)
        | (refine ⟨⟨j + 1, hlt⟩, (by show M - (j + 1) < M - j; omega), ?_⟩; dsimp only; rw [hnx]; exact (bW (by repeat' first | exact trivial | refine ⟨rfl, ?_⟩) (by repeat' first | exact trivial | refine ⟨rfl, ?_⟩)))
  · have ej : j = M := by omega
    subst ej
    generalize Tree.ivs ((List.range j).map T) = AI at *
    clear hTT
    repeat' (first | refine aG ?_ | (refine aI ?_;  first | refine aC tabOk rfl rfl rfl (nb rfl) rfl ?_ | refine cA rfl rfl (nb rfl) ?_ | (refine aK rfl rfl rfl (nb rfl) rfl rfl rfl (fun hq => ?_) (fun hq => ?_) <;> (first | (simp only [sD, sE, sB, sC, sN, sM, sT, sF] at hq; try (exfalso; omega)) | skip)) | refine aY tabOk rfl rfl (nb rfl) rfl ?_) | (refine aN ?_;  first | refine aH ?_ | refine aQ ?_ | refine aT ?_ | refine bY ?_ | refine aE (b := false) rfl nFt (fun _ => ?_)) | (refine aM ?_;  first | refine bA ?_ | refine bN ?_) | (refine aW ?_;  first | refine bJ ?_))
    all_goals first
      | (exfalso; omega)
      | exact absurd rfl (by assumption)
      | (refine dU ((Imp.of_le (σ' := S.f ⟨[(2, .ref 500 j)], [(500, .arr 28 1 j AI)]⟩) (bW (by repeat' first | exact trivial | refine ⟨rfl, ?_⟩) (by repeat' first | exact trivial | refine ⟨rfl, ?_⟩))).trans (cU (g := 500) rfl (by repeat' first | exact trivial | exact fun _ => rfl | refine ⟨?_, ?_⟩) (by repeat' first | exact trivial | exact fun _ => rfl | refine ⟨?_, ?_⟩))) ?_
         refine aU (by first | exact .inl rfl | exact .inr rfl) (bC rfl (aA rfl)) rfl ?_; rfl)
set_option maxHeartbeats 16000000 in
set_option maxRecDepth 10000 in
theorem tJ (L : List (List CellD)) (l m : List CellD) (hL : ∀ l ∈ L, ∀ c ∈ l, c.f = false) (hl : ∀ c ∈ l, c.f = false) (hm : ∀ c ∈ m, c.f = false) :
    ACalls Tryz.prog 3 [.imm (.sl false L.length (rowsIV L)), .imm (.agg [.sl false l.length (cellIVs l)]), .imm (.agg [.sl false m.length (cellIVs m)])] [] (.imm (.lit (.bool true))) [] := by
  obtain ⟨ks, k1, k2, d0⟩ := aAp L hL
  obtain ⟨n, n1, d1⟩ := aAn l hl
  obtain ⟨w, w1, d2⟩ := rR m hm
  have cT := mC (dY false ks) kA n (by omega) (by omega) (by decide) (fun K h => by have := k2 K h; omega) (fun K h => (List.not_mem_nil h).elim)
  have hok : (TypeP ks [] n).2 = 0 → okK ks ∧ (TypeP ks [] n).1.whole = true ∧ (TypeP ks [] n).1.size ≤ 100000000 := fun h => by
    unfold TypeP at h ⊢
    split at h
    · rename_i h1; exact absurd h h1
    · rename_i h1
      rw [if_neg h1]
      split at h
      · cases h
      · rename_i h2
        rw [if_neg h2]
        obtain ⟨g1, g2, _⟩ := lB (show tcheckP n = 0 by simpa using h1)
        obtain ⟨g3, g4, g5⟩ := uY _ _ _ g1 g2 h
        refine ⟨fun K hK => ?_, g4, by omega⟩
        by_cases hc : checkP isKindP K = 0
        · exact hc
        · exact absurd (.inl (List.any_eq_true.2 ⟨K, hK, decide_eq_true hc⟩)) h2
  have hlaw := fun (h : (TypeP ks [] n).2 = 0) (hs : starE ks w = 0) => vH k1 n1 w1 h hs
  have cB := fun (hs : starE ks w = 0) => mC (dY false ks) (dY true [w]) n (by omega) (by omega) (by rw [List.length_singleton]; decide) (fun K h => by have := k2 K h; omega) (fun K h => by rw [List.mem_singleton.1 h]; omega)
  have cC := mC (dY false (ks ++ [starK])) kA n (by omega) (by rw [List.length_append, List.length_singleton]; omega) (by decide) (fun K h => by
    rcases List.mem_append.1 h with h | h
    · have := k2 K h; omega
    · rw [List.mem_singleton.1 h]; decide) (fun K h => (List.not_mem_nil h).elim)
  have hiv : Tree.ivs (ks ++ [starK]) = Tree.ivs ks ++ [.ptr [.lit (.int .i64 100), .lit (.int .i64 0), .lit (.string ⟨#[]⟩), .lit (.string ⟨#[]⟩), .sl false 0 []] 0] := by
    rw [cX, cX, List.map_append, List.map_cons]
    unfold starK
    rw [Tree.iv, Tree.ivs]
    rfl
  rw [hiv, List.length_append, List.length_singleton] at cC
  have hil := dD ks
  have hS := fun (hk : okK ks) => xC (dY false ks) hk (by omega) w (by omega)
  by_cases h1 : (TypeP ks [] n).2 = 0
  · obtain ⟨q1, q2, q3⟩ := hok h1
    replace hS := hS q1
    by_cases h2 : starE ks w = 0
    · obtain ⟨e1, e2⟩ := hlaw h1 h2
      replace cB := cB h2
      have hwc := (bQ (mO h2)).1
      obtain ⟨pw, hpw⟩ := bT (bK hwc)
      rw [show Tree.ivs [w] = [.ptr pw 0] by rw [Tree.ivs, Tree.ivs, hpw], List.length_singleton] at cB
      rw [hpw] at d2 hS
      rw [e1] at cB
      rw [e2] at cC
      rw [h2] at hS
      have cs := iH (TypeP ks [] n).1 (TypeP ks [] n).1 (.inr q2) (.inr q2) q3 q3
      rw [(rD _ _).2 rfl] at cs
      clear hok hlaw e1 e2
      generalize TypeP ks [] n = Q at *
      obtain ⟨Q1, Q2⟩ := Q
      dsimp only at *
      subst h1
      generalize Q1.iv = qi at *
      generalize n.iv = ni at *
      generalize hKI : Tree.ivs ks = KI at *
      by_cases h0 : ks.length = 0
      · have hks : ks = [] := List.eq_nil_of_length_eq_zero h0
        subst hks
        rw [Tree.ivs] at hKI
        subst hKI
        simp only [List.length_nil, List.nil_append, Nat.zero_add] at *
        refine cL Tryz.func3 rfl rfl (nb rfl) rfl ?_
        repeat' (first | refine aG ?_ | (refine aI ?_;  first | refine aC tabOk rfl rfl rfl (nb rfl) rfl ?_ | (refine aK rfl rfl rfl (nb rfl) rfl rfl rfl (fun hq => ?_) (fun hq => ?_) <;> (first | (simp only [sD, sE, sB, sC, sN, sM, sT, sF] at hq; try (exfalso; omega)) | skip)) | refine aD rfl rfl (nb rfl) rfl rfl rfl rfl (d0) ?_ | refine aD rfl rfl (nb rfl) rfl rfl rfl rfl (d1) ?_ | refine aD rfl rfl (nb rfl) rfl rfl rfl rfl (d2) ?_ | refine aD rfl rfl (nb rfl) rfl rfl rfl rfl (cT) ?_ | refine aD rfl rfl (nb rfl) rfl rfl rfl rfl (hS) ?_ | refine aD rfl rfl (nb rfl) rfl rfl rfl rfl (cB) ?_ | refine aD rfl rfl (nb rfl) rfl rfl rfl rfl (cC) ?_ | refine aD rfl rfl (nb rfl) rfl rfl rfl rfl (cs) ?_ | refine aD rfl rfl (nb rfl) rfl rfl rfl rfl (kC) ?_ | refine iB tabOk rfl rfl rfl (nb rfl) rfl rfl rfl rfl ?_ | refine fG tabOk rfl rfl rfl (nb rfl) rfl rfl rfl rfl (.inl rfl) rfl rfl (by decide) rfl (by decide) (by decide) rfl ?_ | refine cI tabOk rfl rfl rfl (nb rfl) rfl rfl rfl rfl rfl rfl rfl rfl rfl ?_ | refine aY tabOk rfl rfl (nb rfl) rfl ?_) | (refine aN ?_;  first | refine aH ?_ | refine aQ ?_ | refine aT ?_ | refine aZ ?_ | refine aE (b := false) rfl nFt (fun _ => ?_) | refine aR mixed (by kernel_rfl) ?_) | (refine aM ?_;  first | refine bA ?_) | refine bG (bF (by kernel_rfl)) ?_)
        all_goals first
          | exact absurd rfl (by assumption)
          | (exfalso; omega)
          | (refine cM (aU (by first | exact .inl rfl | exact .inr rfl) (bC rfl (aA rfl)) rfl ?_); rfl)
      · rw [show ks.length + 1 = 0 + ks.length + 1 by omega] at cC
        refine cL Tryz.func3 rfl rfl (nb rfl) rfl ?_
        repeat' (first | refine aG ?_ | (refine aI ?_;  first | refine aC tabOk rfl rfl rfl (nb rfl) rfl ?_ | (refine aK rfl rfl rfl (nb rfl) rfl rfl rfl (fun hq => ?_) (fun hq => ?_) <;> (first | (simp only [sD, sE, sB, sC, sN, sM, sT, sF] at hq; try (exfalso; omega)) | skip)) | refine aD rfl rfl (nb rfl) rfl rfl rfl rfl (d0) ?_ | refine aD rfl rfl (nb rfl) rfl rfl rfl rfl (d1) ?_ | refine aD rfl rfl (nb rfl) rfl rfl rfl rfl (d2) ?_ | refine aD rfl rfl (nb rfl) rfl rfl rfl rfl (cT) ?_ | refine aD rfl rfl (nb rfl) rfl rfl rfl rfl (hS) ?_ | refine aD rfl rfl (nb rfl) rfl rfl rfl rfl (cB) ?_ | refine aD rfl rfl (nb rfl) rfl rfl rfl rfl (cC) ?_ | refine aD rfl rfl (nb rfl) rfl rfl rfl rfl (cs) ?_ | refine aD rfl rfl (nb rfl) rfl rfl rfl rfl (kC) ?_ | refine uG 500 tabOk rfl rfl rfl (nb rfl) rfl rfl rfl rfl rfl rfl rfl (Nat.pos_of_ne_zero h0) (by rw [hil]; exact (Nat.mul_one _).symm) (by omega) (by dsimp only; omega) (by simp) rfl rfl ?_ | refine wM tabOk rfl rfl rfl (nb rfl) rfl rfl rfl rfl rfl rfl (by decide) rfl (by omega) (by dsimp only; omega) ?_ | refine cI tabOk rfl rfl rfl (nb rfl) rfl rfl rfl rfl rfl rfl rfl rfl rfl ?_ | refine aY tabOk rfl rfl (nb rfl) rfl ?_) | (refine aN ?_;  first | refine aH ?_ | refine aQ ?_ | refine aT ?_ | refine aZ ?_ | refine aE (b := false) rfl nFt (fun _ => ?_) | refine aR mixed (by kernel_rfl) ?_) | (refine aM ?_;  first | refine bA ?_) | refine bG (bF (by kernel_rfl)) ?_)
        all_goals first
          | exact absurd rfl (by assumption)
          | (exfalso; omega)
          | (refine cM (aU (by first | exact .inl rfl | exact .inr rfl) (bC rfl (aA rfl)) rfl ?_); rfl)
    · clear hok hlaw cB cC
      generalize starE ks w = se at *
      generalize TypeP ks [] n = Q at *
      obtain ⟨Q1, Q2⟩ := Q
      dsimp only at *
      subst h1
      generalize Q1.iv = qi at *
      generalize n.iv = ni at *
      generalize w.iv = wi at *
      generalize Tree.ivs ks = KI at *
      refine cL Tryz.func3 rfl rfl (nb rfl) rfl ?_
      repeat' (first | refine aG ?_ | (refine aI ?_;  first | refine aC tabOk rfl rfl rfl (nb rfl) rfl ?_ | (refine aK rfl rfl rfl (nb rfl) rfl rfl rfl (fun hq => ?_) (fun hq => ?_) <;> (first | (simp only [sD, sE, sB, sC, sN, sM, sT, sF] at hq; try (exfalso; omega)) | skip)) | refine aD rfl rfl (nb rfl) rfl rfl rfl rfl (d0) ?_ | refine aD rfl rfl (nb rfl) rfl rfl rfl rfl (d1) ?_ | refine aD rfl rfl (nb rfl) rfl rfl rfl rfl (d2) ?_ | refine aD rfl rfl (nb rfl) rfl rfl rfl rfl (cT) ?_ | refine aD rfl rfl (nb rfl) rfl rfl rfl rfl (hS) ?_ | refine aD rfl rfl (nb rfl) rfl rfl rfl rfl (kC) ?_ | refine aY tabOk rfl rfl (nb rfl) rfl ?_) | (refine aN ?_;  first | refine aH ?_ | refine aQ ?_ | refine aT ?_ | refine aE (b := true) rfl (fun _ => ?_) nTf | refine aR mixed (by kernel_rfl) ?_) | (refine aM ?_;  first | refine bA ?_ | refine aV ?_) | refine bG (bF (by kernel_rfl)) ?_)
      all_goals first
        | exact absurd rfl (by assumption)
        | exact absurd (by assumption) h2
        | (exfalso; omega)
        | (refine cM (aU (by first | exact .inl rfl | exact .inr rfl) (bC rfl (aA rfl)) rfl ?_); rfl)
  · clear hok hlaw cB cC hS
    generalize TypeP ks [] n = Q at *
    obtain ⟨Q1, Q2⟩ := Q
    dsimp only at *
    generalize Q1.iv = qi at *
    generalize n.iv = ni at *
    generalize w.iv = wi at *
    generalize Tree.ivs ks = KI at *
    refine cL Tryz.func3 rfl rfl (nb rfl) rfl ?_
    repeat' (first | refine aG ?_ | (refine aI ?_;  first | refine aC tabOk rfl rfl rfl (nb rfl) rfl ?_ | refine cA rfl rfl (nb rfl) ?_ | (refine aK rfl rfl rfl (nb rfl) rfl rfl rfl (fun hq => ?_) (fun hq => ?_) <;> (first | (simp only [sD, sE, sB, sC, sN, sM, sT, sF] at hq; try (exfalso; omega)) | skip)) | refine aD rfl rfl (nb rfl) rfl rfl rfl rfl (d0) ?_ | refine aD rfl rfl (nb rfl) rfl rfl rfl rfl (d1) ?_ | refine aD rfl rfl (nb rfl) rfl rfl rfl rfl (d2) ?_ | refine aD rfl rfl (nb rfl) rfl rfl rfl rfl (cT) ?_ | refine aD rfl rfl (nb rfl) rfl rfl rfl rfl (kC) ?_ | refine aY tabOk rfl rfl (nb rfl) rfl ?_) | (refine aN ?_;  first | refine aH ?_ | refine aQ ?_ | refine aT ?_ | refine aE (b := true) rfl (fun _ => ?_) nTf | refine aR mixed (by kernel_rfl) ?_) | (refine aM ?_;  first | refine bA ?_ | refine aV ?_) | refine bG (bF (by kernel_rfl)) ?_)
    all_goals first
      | exact absurd rfl (by assumption)
      | exact absurd (by assumption) h1
      | (exfalso; omega)
      | (refine cM (aU (by first | exact .inl rfl | exact .inr rfl) (bC rfl (aA rfl)) rfl ?_); rfl)
theorem TypingMore_law (xs : List IV) (h : FitsAll [.slice tyTree, tyTree, tyTree] xs) : ACalls Tryz.prog 3 (xs.map .imm) [] (.imm (.lit (.bool true))) [] := by
  cases h with
  | cons h0 h =>
    cases h with
    | cons h1 h =>
      cases h with
      | cons h2 h =>
        cases h
        obtain ⟨L, rfl, hL⟩ := aAo h0
        obtain ⟨l, rfl, hl⟩ := mJ h1
        obtain ⟨m, rfl, hm⟩ := mJ h2
        exact tJ L l m hL hl hm
end Go.Proofs.YtocaohipfiapkaaGreat.Ab
