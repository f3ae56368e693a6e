/- Words, walks and laws under the claim's statement: what it uses of them. No condition of its own. -/
import Derived.Test.YtlbemgokilhdnaaCL1
import Derived.Sort.Walk0
namespace Go.Proofs.Ytlbemgokilhdnaa.Ab
set_option linter.unusedVariables false
set_option linter.unusedSimpArgs false
attribute [local irreducible] AWP AOps AExit AThen ABlock ANoGoto FeetOk
def Tree.kids : Tree → List Tree
  | .nil => []
  | .node _ _ _ _ ks => ks
mutual
/-- Is a (the second one) enough for b (the first one)? -/
def subP : Tree → Tree → Bool
  | .nil, _ => false
  | .node k n x y kids, a => decide (a.kind = k) && (if k ≠ 162 then sameP a (.node k n x y kids) else subPs kids a)
def subPs : List Tree → Tree → Bool
  | [], _ => true
  | t :: ts, a => subK t a && subPs ts a
def subK : Tree → Tree → Bool
  | .nil, _ => false
  | .node _ _ name _ ks, a => (fieldP name a.kids).2 && sub1 ks (fieldP name a.kids).1
def sub1 : List Tree → Tree → Bool
  | [c], f => subP c f
  | _, _ => false
end
theorem sO (l : List Tree) (a : Tree) : subPs l a = l.all fun t => subK t a := by
  induction l with
  | nil => simp [subPs]
  | cons t ts ih => simp [subPs, ih]
/-- A field's form. -/
theorem dA {t : Tree} (h : okSField t = true) : ∃ n a b c, t = .node 163 n a b [c] ∧ isSigP c = true := by
  cases t with
  | nil => simp [okSField] at h
  | node k n a b ks =>
    simp only [okSField, Bool.and_eq_true, beq_iff_eq] at h
    obtain ⟨⟨⟨rfl, _⟩, _⟩, h⟩ := h
    by_cases h1 : ks.length = 1
    · obtain ⟨c, rfl⟩ := cY h1
      exact ⟨n, a, b, c, rfl, by simpa [sigOne] using h⟩
    · rw [fR h1] at h; cases h
/-- A signature's kids: a constructor, or fields. -/
theorem dH {k n : Int} {a b : ByteArray} {kids : List Tree} (h : isSigP (.node k n a b kids) = true) : ((k = 160 ∨ k = 161) ∧ ∃ c, kids = [c] ∧ checkP isConP c = 0) ∨ (k = 162 ∧ (∀ t ∈ kids, okSField t = true) ∧ risingP kids = true) := by
  rw [isSigP, Bool.and_eq_true] at h
  have h := h.2
  by_cases c1 : k = 160 ∨ k = 161
  · rw [if_pos c1] at h
    by_cases h1 : kids.length = 1
    · obtain ⟨c, rfl⟩ := cY h1
      exact .inl ⟨c1, c, rfl, by simpa [sig1] using h⟩
    · rw [kP h1] at h; cases h
  · rw [if_neg c1] at h
    by_cases c2 : k = 162
    · rw [if_pos c2, Bool.and_eq_true, dX] at h
      exact .inr ⟨c2, fun t ht => List.all_eq_true.1 h.1 t ht, h.2⟩
    · rw [if_neg c2] at h; cases h
theorem oX {c : Tree} (h : checkP isConP c = 0) : c.kind ≠ 163 := by
  obtain ⟨_, _, hf⟩ := cD h
  cases c with
  | nil => simp [isConP] at hf
  | node k n a b ks =>
    intro e
    have e : k = 163 := e
    subst e
    rw [isConP, Bool.and_eq_true] at hf
    have := hf.2
    rw [if_neg (by decide), if_neg (by decide), if_neg (by decide), if_neg (by decide), if_neg (by decide), if_neg (by decide)] at this
    cases this
theorem gP {t : Tree} (h : isSigP t = true) : ∀ u ∈ t.kids, u.kind = 163 → ∃ n' a' b' c, u = .node 163 n' a' b' [c] := by
  cases t with
  | nil => simp [isSigP] at h
  | node k n a b kids =>
    intro u hu hk
    rcases dH h with ⟨_, c, rfl, hc⟩ | ⟨_, hf, _⟩
    · have e : u = c := List.mem_singleton.1 hu
      subst e
      exact absurd hk (oX hc)
    · obtain ⟨n', a', b', c, e, _⟩ := dA (hf u hu)
      exact ⟨n', a', b', c, e⟩
/-- What stands at a label of a signature is one, and less than it. -/
theorem iF {t : Tree} (h : isSigP t = true) (hw : t.whole = true) (label : ByteArray) (hf : (fieldP label t.kids).2 = true) : isSigP (fieldP label t.kids).1 = true ∧ (fieldP label t.kids).1.whole = true ∧ (fieldP label t.kids).1.size < t.size := by
  cases t with
  | nil => simp [isSigP] at h
  | node k n a b kids =>
    change (fieldP label kids).2 = true at hf
    show isSigP (fieldP label kids).1 = true ∧ (fieldP label kids).1.whole = true ∧ (fieldP label kids).1.size < _
    rcases gO label kids 0 with ⟨_, h2⟩ | ⟨i, h1, _, h3, h4⟩
    · rw [h2] at hf; cases hf
    · rw [h3]
      dsimp only
      have hm := List.getElem_mem h1
      have hz := cH (k := k) (n := n) (a := a) (b := b) hm
      have hwk := bY hw hm
      unfold isLab at h4
      rw [Bool.and_eq_true, decide_eq_true_eq] at h4
      rcases dH h with ⟨_, c, rfl, hc⟩ | ⟨_, hfs, _⟩
      · have e := List.mem_singleton.1 hm
        rw [e] at h4
        exact absurd h4.1 (oX hc)
      · obtain ⟨n', a', b', c, e, hc⟩ := dA (hfs _ hm)
        rw [e] at hz hwk ⊢
        have hz2 := cH (k := 163) (n := n') (a := a') (b := b') (kids := [c]) (t := c) (by simp)
        show isSigP c = true ∧ c.whole = true ∧ c.size < _
        exact ⟨hc, bY hwk (by simp), by omega⟩
set_option maxHeartbeats 16000000 in
set_option maxRecDepth 10000 in
theorem wJ (b : Tree) : ∀ a : Tree, isSigP a = true → isSigP b = true → a.whole = true → b.whole = true → a.size ≤ 1000000 → b.size ≤ 1000000 → ACalls Try.prog 39 [.imm a.iv, .imm b.iv] [] (.imm (.lit (.bool (subP b a)))) [] := by
  induction b using Tree.sind with
  | h b ih =>
    intro a ha hb hwa hwb hsa hsb
    have hfk := gP ha
    have hfs := iF ha hwa
    obtain ⟨k, n, x, y, kids, rfl⟩ := cL hwb
    obtain ⟨k', n', x', y', kids', rfl⟩ := cL hwa
    have hl : kids.length < 1000000000 := by have := cA kids hwb; simp only [Tree.size] at hsb; omega
    have hl' : kids'.length < 1000000000 := by have := cA kids' hwa; simp only [Tree.size] at hsa; omega
    have cs := wB (.node k' n' x' y' kids') (.node k n x y kids) (.inr hwa) (.inr hwb) hsa hsb
    obtain ⟨q, hQ0⟩ : ∃ q, subP (.node k n x y kids) (.node k' n' x' y' kids') = q := ⟨_, rfl⟩
    rw [hQ0]
    rw [subP] at hQ0
    by_cases hk : k' = k
    · rw [show decide ((Tree.node k' n' x' y' kids').kind = k) = true from decide_eq_true hk, Bool.true_and] at hQ0
      by_cases h162 : k = 162
      · rw [if_neg (by simpa using h162)] at hQ0
        subst h162
        subst hk
        have hfd : ∀ t ∈ kids, okSField t = true := by
          rcases dH hb with ⟨h, _⟩ | ⟨_, h, _⟩
          · omega
          · exact h
        have hcall : ∀ label, ACalls Try.prog 68 [.imm (Tree.iv (.node 162 n' x' y' kids')), .imm (.lit (.string label))] [] (.imm (.tup [(fieldP label kids').1.iv, .lit (.bool (fieldP label kids').2)])) [] := fun label => rB 162 n' x' y' kids' label hwa hl' hfk
        rw [sO] at hQ0
        clear cs
        refine bR Try.func39 rfl rfl (nb rfl) rfl ?_
        repeat' (first | refine bG ?_ | (refine bJ ?_; first | refine aR tabOk rfl rfl rfl (nb rfl) rfl ?_ | refine aZ rfl rfl (nb rfl) ?_ | (refine bI rfl rfl rfl (nb rfl) rfl rfl rfl (fun hq => ?_) (fun hq => ?_) <;> (first | (simp only [sD, sE, sB, sC, sN, sM, sT, sF] at hq; try (exfalso; omega)) | skip)) | refine aD rfl rfl rfl (nb rfl) rfl rfl (by omega) ?_ | refine bC rfl rfl rfl (nb rfl) rfl rfl rfl (by omega) (by omega) ?_ | refine bD rfl rfl rfl (nb rfl) rfl rfl rfl (by omega) (by omega) ?_ | refine bB tabOk rfl rfl rfl (nb rfl) rfl rfl rfl rfl rfl rfl rfl rfl rfl ?_ | refine aT tabOk rfl rfl (nb rfl) rfl ?_ | refine aN tabOk rfl rfl rfl (nb rfl) rfl rfl rfl rfl rfl rfl ?_ | refine aO tabOk rfl rfl rfl (nb rfl) rfl rfl rfl rfl ?_ | refine aK tabOk rfl rfl rfl rfl rfl rfl rfl rfl rfl rfl rfl ?_ | refine aP tabOk rfl rfl rfl (nb rfl) rfl rfl rfl rfl (by first | assumption | omega) ?_ | refine aH tabOk rfl rfl rfl (nb rfl) rfl rfl rfl rfl (by first | rfl | omega) (by first | omega | simp) ?_ | refine aB tabOk rfl rfl rfl (nb rfl) rfl rfl rfl (by assumption) ?_ | refine aB tabOk rfl rfl rfl (nb rfl) rfl rfl rfl (bM _ _ (by first | assumption | omega)) ?_ | refine aD rfl rfl rfl (nb rfl) rfl rfl (by omega) ?_ | ((fail_if_success (refine aE (b := true) rfl rfl rfl ?_)); (fail_if_success (refine aE (b := false) rfl rfl rfl ?_)); refine aQ rfl rfl rfl (fun hq => ?_) (fun hq => ?_) <;> first | subst hq | (first | (simp only [sD, sE, sB, sC, sN, sM, sT, sF] at hq; try (exfalso; omega)) | skip)) | fail) | (refine bQ ?_; first | refine bH ?_ | refine bN ?_ | refine aL ?_ | refine aX ?_ | refine bO ?_ | refine bF ?_ | refine bE ?_ | refine aA (b := true) rfl (fun _ => ?_) nTf | refine aA (b := false) rfl nFt (fun _ => ?_) | refine aY ?_ | refine aW ?_ | refine aU mixed (by kernel_rfl) ?_ | refine aC mixed (by kernel_rfl) ?_ | (refine aA rfl (fun hq => ?_) (fun hq => ?_) <;> first | subst hq | (first | (simp only [sD, sE, sB, sC, sN, sM, sT, sF] at hq; try (exfalso; omega)) | skip)) | fail) | (refine bK ?_; first | refine bT ?_ | refine aI ?_ | refine aM ?_ | fail) | (refine bA ?_; first | refine bP ?_ | refine aF ?_ | refine aG (by decide) ?_ | refine aJ ?_ | fail) | refine bL (aV (by kernel_rfl)) ?_ | fail)
        all_goals first
          | exact absurd rfl (by assumption)
          | (exfalso; omega)
          | skip
        refine cJ (ι := {j : Nat // j ≤ kids.length ∧ ∀ i (hi : i < kids.length), i < j → subK kids[i] (.node 162 n' x' y' kids') = true}) (fun j => S.f ⟨[(31, .imm (.lit (.int .i64 (j.1 : Int)))), (30, .imm (.lit (.int .i64 (kids.length : Int)))), (29, .imm (.sl false kids.length (Tree.ivs kids))), (0, .imm (Tree.iv (.node 162 n' x' y' kids')))], []⟩) (fun j => kids.length - j.1) ⟨0, Nat.zero_le _, fun i _ hi => absurd hi (Nat.not_lt_zero _)⟩ (cB (by repeat' first | exact trivial | refine ⟨rfl, ?_⟩) (by repeat' first | exact trivial | refine ⟨rfl, ?_⟩)) ?_
        rintro ⟨j, hj, hok⟩
        dsimp only
        by_cases hlt : j < kids.length
        · have hm := List.getElem_mem hlt
          have hz := cH (k := 162) (n := n) (a := x) (b := y) hm
          have hwk := bY hwb hm
          have hget := bM kids j hlt
          have hbad : subK kids[j] (.node 162 n' x' y' kids') = false → q = false := fun h => by rw [← hQ0]; exact eG hlt h
          have hgood : subK kids[j] (.node 162 n' x' y' kids') = true → ∀ i (hi : i < kids.length), i < j + 1 → subK kids[i] (.node 162 n' x' y' kids') = true := fun hb i hi hij => by
            by_cases e : i = j
            · subst e; exact hb
            · exact hok i hi (by omega)
          obtain ⟨n1, a1, b1, c, e, hc⟩ := dA (hfd _ hm)
          rw [e] at hz hwk hget hbad hgood
          have hz2 := cH (k := 163) (n := n1) (a := a1) (b := b1) (kids := [c]) (t := c) (by simp)
          have hwc := bY hwk (List.mem_singleton.2 rfl)
          have hK : subK (.node 163 n1 a1 b1 [c]) (.node 162 n' x' y' kids') = ((fieldP a1 kids').2 && subP c (fieldP a1 kids').1) := by rw [subK, sub1]; rfl
          rw [hK] at hbad hgood
          have hff := hfs a1
          change (fieldP a1 kids').2 = true → isSigP (fieldP a1 kids').1 = true ∧ (fieldP a1 kids').1.whole = true ∧ (fieldP a1 kids').1.size < _ at hff
          have cf := hcall a1
          have cr := fun (h1 : isSigP (fieldP a1 kids').1 = true) (h2 : (fieldP a1 kids').1.whole = true) (h3 : (fieldP a1 kids').1.size ≤ 1000000) => ih c (by omega) (fieldP a1 kids').1 h1 hc h2 hwc h3 (by omega)
          clear ih hcall hfs hfd hfk hQ0 hK e
          generalize fieldP a1 kids' = FP at *
          obtain ⟨F1, F2⟩ := FP
          dsimp only at *
          cases F2 with
          | false =>
            have e1 := hbad rfl
            subst e1
            repeat' (first | refine bG ?_ | (refine bJ ?_; first | refine aR tabOk rfl rfl rfl (nb rfl) rfl ?_ | refine aZ rfl rfl (nb rfl) ?_ | (refine bI rfl rfl rfl (nb rfl) rfl rfl rfl (fun hq => ?_) (fun hq => ?_) <;> (first | (simp only [sD, sE, sB, sC, sN, sM, sT, sF] at hq; try (exfalso; omega)) | skip))| refine aB tabOk rfl rfl rfl (nb rfl) rfl rfl rfl hget ?_ | refine bS rfl rfl (nb rfl) rfl rfl rfl rfl (cf) ?_ | refine aD rfl rfl rfl (nb rfl) rfl rfl (by omega) ?_ | refine bC rfl rfl rfl (nb rfl) rfl rfl rfl (by omega) (by omega) ?_ | refine bD rfl rfl rfl (nb rfl) rfl rfl rfl (by omega) (by omega) ?_ | refine bB tabOk rfl rfl rfl (nb rfl) rfl rfl rfl rfl rfl rfl rfl rfl rfl ?_ | refine aT tabOk rfl rfl (nb rfl) rfl ?_ | refine aN tabOk rfl rfl rfl (nb rfl) rfl rfl rfl rfl rfl rfl ?_ | refine aO tabOk rfl rfl rfl (nb rfl) rfl rfl rfl rfl ?_ | refine aK tabOk rfl rfl rfl rfl rfl rfl rfl rfl rfl rfl rfl ?_ | refine aP tabOk rfl rfl rfl (nb rfl) rfl rfl rfl rfl (by first | assumption | omega) ?_ | refine aH tabOk rfl rfl rfl (nb rfl) rfl rfl rfl rfl (by first | rfl | omega) (by first | omega | simp) ?_ | refine aB tabOk rfl rfl rfl (nb rfl) rfl rfl rfl (by assumption) ?_ | refine aB tabOk rfl rfl rfl (nb rfl) rfl rfl rfl (bM _ _ (by first | assumption | omega)) ?_ | refine aD rfl rfl rfl (nb rfl) rfl rfl (by omega) ?_ | ((fail_if_success (refine aE (b := true) rfl rfl rfl ?_)); (fail_if_success (refine aE (b := false) rfl rfl rfl ?_)); refine aQ rfl rfl rfl (fun hq => ?_) (fun hq => ?_) <;> first | subst hq | (first | (simp only [sD, sE, sB, sC, sN, sM, sT, sF] at hq; try (exfalso; omega)) | skip)) | fail) | (refine bQ ?_; first | refine bH ?_ | refine bN ?_ | refine aL ?_ | refine aX ?_ | refine bO ?_ | refine bF ?_ | refine bE ?_ | refine aA (b := true) rfl (fun _ => ?_) nTf | refine aA (b := false) rfl nFt (fun _ => ?_) | refine aY ?_ | refine aW ?_ | refine aU mixed (by kernel_rfl) ?_ | refine aC mixed (by kernel_rfl) ?_ | (refine aA rfl (fun hq => ?_) (fun hq => ?_) <;> first | subst hq | (first | (simp only [sD, sE, sB, sC, sN, sM, sT, sF] at hq; try (exfalso; omega)) | skip)) | fail) | (refine bK ?_; first | refine bT ?_ | refine aI ?_ | refine aM ?_ | fail) | (refine bA ?_; first | refine bP ?_ | refine aF ?_ | refine aG (by decide) ?_ | refine aJ ?_ | fail) | refine bL (aV (by kernel_rfl)) ?_ | fail)
            all_goals first
              | exact absurd rfl (by assumption)
              | (exfalso; omega)
              | (refine bV (by first | exact .inl rfl | exact .inr rfl) (bU rfl (aS rfl)) rfl ?_; rfl)
          | true =>
            obtain ⟨g1, g2, g3⟩ := hff rfl
            have cr := cr g1 g2 (by omega)
            cases hS : subP c F1 with
            | false =>
              rw [hS] at cr hbad
              have e1 := hbad rfl
              subst e1
              repeat' (first | refine bG ?_ | (refine bJ ?_; first | refine aR tabOk rfl rfl rfl (nb rfl) rfl ?_ | refine aZ rfl rfl (nb rfl) ?_ | (refine bI rfl rfl rfl (nb rfl) rfl rfl rfl (fun hq => ?_) (fun hq => ?_) <;> (first | (simp only [sD, sE, sB, sC, sN, sM, sT, sF] at hq; try (exfalso; omega)) | skip))| refine aB tabOk rfl rfl rfl (nb rfl) rfl rfl rfl hget ?_ | refine bS rfl rfl (nb rfl) rfl rfl rfl rfl (cf) ?_ | refine bS rfl rfl (nb rfl) rfl rfl rfl rfl (cr) ?_ | refine aD rfl rfl rfl (nb rfl) rfl rfl (by omega) ?_ | refine bC rfl rfl rfl (nb rfl) rfl rfl rfl (by omega) (by omega) ?_ | refine bD rfl rfl rfl (nb rfl) rfl rfl rfl (by omega) (by omega) ?_ | refine bB tabOk rfl rfl rfl (nb rfl) rfl rfl rfl rfl rfl rfl rfl rfl rfl ?_ | refine aT tabOk rfl rfl (nb rfl) rfl ?_ | refine aN tabOk rfl rfl rfl (nb rfl) rfl rfl rfl rfl rfl rfl ?_ | refine aO tabOk rfl rfl rfl (nb rfl) rfl rfl rfl rfl ?_ | refine aK tabOk rfl rfl rfl rfl rfl rfl rfl rfl rfl rfl rfl ?_ | refine aP tabOk rfl rfl rfl (nb rfl) rfl rfl rfl rfl (by first | assumption | omega) ?_ | refine aH tabOk rfl rfl rfl (nb rfl) rfl rfl rfl rfl (by first | rfl | omega) (by first | omega | simp) ?_ | refine aB tabOk rfl rfl rfl (nb rfl) rfl rfl rfl (by assumption) ?_ | refine aB tabOk rfl rfl rfl (nb rfl) rfl rfl rfl (bM _ _ (by first | assumption | omega)) ?_ | refine aD rfl rfl rfl (nb rfl) rfl rfl (by omega) ?_ | ((fail_if_success (refine aE (b := true) rfl rfl rfl ?_)); (fail_if_success (refine aE (b := false) rfl rfl rfl ?_)); refine aQ rfl rfl rfl (fun hq => ?_) (fun hq => ?_) <;> first | subst hq | (first | (simp only [sD, sE, sB, sC, sN, sM, sT, sF] at hq; try (exfalso; omega)) | skip)) | fail) | (refine bQ ?_; first | refine bH ?_ | refine bN ?_ | refine aL ?_ | refine aX ?_ | refine bO ?_ | refine bF ?_ | refine bE ?_ | refine aA (b := true) rfl (fun _ => ?_) nTf | refine aA (b := false) rfl nFt (fun _ => ?_) | refine aY ?_ | refine aW ?_ | refine aU mixed (by kernel_rfl) ?_ | refine aC mixed (by kernel_rfl) ?_ | (refine aA rfl (fun hq => ?_) (fun hq => ?_) <;> first | subst hq | (first | (simp only [sD, sE, sB, sC, sN, sM, sT, sF] at hq; try (exfalso; omega)) | skip)) | fail) | (refine bK ?_; first | refine bT ?_ | refine aI ?_ | refine aM ?_ | fail) | (refine bA ?_; first | refine bP ?_ | refine aF ?_ | refine aG (by decide) ?_ | refine aJ ?_ | fail) | refine bL (aV (by kernel_rfl)) ?_ | fail)
              all_goals first
                | exact absurd rfl (by assumption)
                | (exfalso; omega)
                | (refine bV (by first | exact .inl rfl | exact .inr rfl) (bU rfl (aS rfl)) rfl ?_; rfl)
            | true =>
              rw [hS] at cr hgood
              have hg := hgood rfl
              repeat' (first | refine bG ?_ | (refine bJ ?_; first | refine aR tabOk rfl rfl rfl (nb rfl) rfl ?_ | refine aZ rfl rfl (nb rfl) ?_ | (refine bI rfl rfl rfl (nb rfl) rfl rfl rfl (fun hq => ?_) (fun hq => ?_) <;> (first | (simp only [sD, sE, sB, sC, sN, sM, sT, sF] at hq; try (exfalso; omega)) | skip))| refine aB tabOk rfl rfl rfl (nb rfl) rfl rfl rfl hget ?_ | refine bS rfl rfl (nb rfl) rfl rfl rfl rfl (cf) ?_ | refine bS rfl rfl (nb rfl) rfl rfl rfl rfl (cr) ?_ | refine aD rfl rfl rfl (nb rfl) rfl rfl (by omega) ?_ | refine bC rfl rfl rfl (nb rfl) rfl rfl rfl (by omega) (by omega) ?_ | refine bD rfl rfl rfl (nb rfl) rfl rfl rfl (by omega) (by omega) ?_ | refine bB tabOk rfl rfl rfl (nb rfl) rfl rfl rfl rfl rfl rfl rfl rfl rfl ?_ | refine aT tabOk rfl rfl (nb rfl) rfl ?_ | refine aN tabOk rfl rfl rfl (nb rfl) rfl rfl rfl rfl rfl rfl ?_ | refine aO tabOk rfl rfl rfl (nb rfl) rfl rfl rfl rfl ?_ | refine aK tabOk rfl rfl rfl rfl rfl rfl rfl rfl rfl rfl rfl ?_ | refine aP tabOk rfl rfl rfl (nb rfl) rfl rfl rfl rfl (by first | assumption | omega) ?_ | refine aH tabOk rfl rfl rfl (nb rfl) rfl rfl rfl rfl (by first | rfl | omega) (by first | omega | simp) ?_ | refine aB tabOk rfl rfl rfl (nb rfl) rfl rfl rfl (by assumption) ?_ | refine aB tabOk rfl rfl rfl (nb rfl) rfl rfl rfl (bM _ _ (by first | assumption | omega)) ?_ | refine aD rfl rfl rfl (nb rfl) rfl rfl (by omega) ?_ | ((fail_if_success (refine aE (b := true) rfl rfl rfl ?_)); (fail_if_success (refine aE (b := false) rfl rfl rfl ?_)); refine aQ rfl rfl rfl (fun hq => ?_) (fun hq => ?_) <;> first | subst hq | (first | (simp only [sD, sE, sB, sC, sN, sM, sT, sF] at hq; try (exfalso; omega)) | skip)) | fail) | (refine bQ ?_; first | refine bH ?_ | refine bN ?_ | refine aL ?_ | refine aX ?_ | refine bO ?_ | refine bF ?_ | refine bE ?_ | refine aA (b := true) rfl (fun _ => ?_) nTf | refine aA (b := false) rfl nFt (fun _ => ?_) | refine aY ?_ | refine aW ?_ | refine aU mixed (by kernel_rfl) ?_ | refine aC mixed (by kernel_rfl) ?_ | (refine aA rfl (fun hq => ?_) (fun hq => ?_) <;> first | subst hq | (first | (simp only [sD, sE, sB, sC, sN, sM, sT, sF] at hq; try (exfalso; omega)) | skip)) | fail) | (refine bK ?_; first | refine bT ?_ | refine aI ?_ | refine aM ?_ | fail) | (refine bA ?_; first | refine bP ?_ | refine aF ?_ | refine aG (by decide) ?_ | refine aJ ?_ | fail) | refine bL (aV (by kernel_rfl)) ?_ | fail)
              all_goals first
                | exact absurd rfl (by assumption)
                | (exfalso; omega)
                | exact ⟨⟨j + 1, hlt, hg⟩, (by show kids.length - (j + 1) < kids.length - j; omega), (cB (by repeat' first | exact trivial | refine ⟨rfl, ?_⟩) (by repeat' first | exact trivial | refine ⟨rfl, ?_⟩))⟩
        · have e1 : q = true := by rw [← hQ0]; exact dT fun i hi => hok i hi (by omega)
          subst e1
          repeat' (first | refine bG ?_ | (refine bJ ?_; first | refine aR tabOk rfl rfl rfl (nb rfl) rfl ?_ | refine aZ rfl rfl (nb rfl) ?_ | (refine bI rfl rfl rfl (nb rfl) rfl rfl rfl (fun hq => ?_) (fun hq => ?_) <;> (first | (simp only [sD, sE, sB, sC, sN, sM, sT, sF] at hq; try (exfalso; omega)) | skip)) | refine aD rfl rfl rfl (nb rfl) rfl rfl (by omega) ?_ | refine bC rfl rfl rfl (nb rfl) rfl rfl rfl (by omega) (by omega) ?_ | refine bD rfl rfl rfl (nb rfl) rfl rfl rfl (by omega) (by omega) ?_ | refine bB tabOk rfl rfl rfl (nb rfl) rfl rfl rfl rfl rfl rfl rfl rfl rfl ?_ | refine aT tabOk rfl rfl (nb rfl) rfl ?_ | refine aN tabOk rfl rfl rfl (nb rfl) rfl rfl rfl rfl rfl rfl ?_ | refine aO tabOk rfl rfl rfl (nb rfl) rfl rfl rfl rfl ?_ | refine aK tabOk rfl rfl rfl rfl rfl rfl rfl rfl rfl rfl rfl ?_ | refine aP tabOk rfl rfl rfl (nb rfl) rfl rfl rfl rfl (by first | assumption | omega) ?_ | refine aH tabOk rfl rfl rfl (nb rfl) rfl rfl rfl rfl (by first | rfl | omega) (by first | omega | simp) ?_ | refine aB tabOk rfl rfl rfl (nb rfl) rfl rfl rfl (by assumption) ?_ | refine aB tabOk rfl rfl rfl (nb rfl) rfl rfl rfl (bM _ _ (by first | assumption | omega)) ?_ | refine aD rfl rfl rfl (nb rfl) rfl rfl (by omega) ?_ | ((fail_if_success (refine aE (b := true) rfl rfl rfl ?_)); (fail_if_success (refine aE (b := false) rfl rfl rfl ?_)); refine aQ rfl rfl rfl (fun hq => ?_) (fun hq => ?_) <;> first | subst hq | (first | (simp only [sD, sE, sB, sC, sN, sM, sT, sF] at hq; try (exfalso; omega)) | skip)) | fail) | (refine bQ ?_; first | refine bH ?_ | refine bN ?_ | refine aL ?_ | refine aX ?_ | refine bO ?_ | refine bF ?_ | refine bE ?_ | refine aA (b := true) rfl (fun _ => ?_) nTf | refine aA (b := false) rfl nFt (fun _ => ?_) | refine aY ?_ | refine aW ?_ | refine aU mixed (by kernel_rfl) ?_ | refine aC mixed (by kernel_rfl) ?_ | (refine aA rfl (fun hq => ?_) (fun hq => ?_) <;> first | subst hq | (first | (simp only [sD, sE, sB, sC, sN, sM, sT, sF] at hq; try (exfalso; omega)) | skip)) | fail) | (refine bK ?_; first | refine bT ?_ | refine aI ?_ | refine aM ?_ | fail) | (refine bA ?_; first | refine bP ?_ | refine aF ?_ | refine aG (by decide) ?_ | refine aJ ?_ | fail) | refine bL (aV (by kernel_rfl)) ?_ | fail)
          all_goals first
            | (exfalso; omega)
            | (refine bV (by first | exact .inl rfl | exact .inr rfl) (bU rfl (aS rfl)) rfl ?_; rfl)
      · rw [if_pos h162] at hQ0
        rw [hQ0] at cs
        clear ih
        refine bR Try.func39 rfl rfl (nb rfl) rfl ?_
        repeat' (first | refine bG ?_ | (refine bJ ?_; first | refine aR tabOk rfl rfl rfl (nb rfl) rfl ?_ | refine aZ rfl rfl (nb rfl) ?_ | (refine bI rfl rfl rfl (nb rfl) rfl rfl rfl (fun hq => ?_) (fun hq => ?_) <;> (first | (simp only [sD, sE, sB, sC, sN, sM, sT, sF] at hq; try (exfalso; omega)) | skip))| refine bS rfl rfl (nb rfl) rfl rfl rfl rfl (cs) ?_ | refine aD rfl rfl rfl (nb rfl) rfl rfl (by omega) ?_ | refine bC rfl rfl rfl (nb rfl) rfl rfl rfl (by omega) (by omega) ?_ | refine bD rfl rfl rfl (nb rfl) rfl rfl rfl (by omega) (by omega) ?_ | refine bB tabOk rfl rfl rfl (nb rfl) rfl rfl rfl rfl rfl rfl rfl rfl rfl ?_ | refine aT tabOk rfl rfl (nb rfl) rfl ?_ | refine aN tabOk rfl rfl rfl (nb rfl) rfl rfl rfl rfl rfl rfl ?_ | refine aO tabOk rfl rfl rfl (nb rfl) rfl rfl rfl rfl ?_ | refine aK tabOk rfl rfl rfl rfl rfl rfl rfl rfl rfl rfl rfl ?_ | refine aP tabOk rfl rfl rfl (nb rfl) rfl rfl rfl rfl (by first | assumption | omega) ?_ | refine aH tabOk rfl rfl rfl (nb rfl) rfl rfl rfl rfl (by first | rfl | omega) (by first | omega | simp) ?_ | refine aB tabOk rfl rfl rfl (nb rfl) rfl rfl rfl (by assumption) ?_ | refine aB tabOk rfl rfl rfl (nb rfl) rfl rfl rfl (bM _ _ (by first | assumption | omega)) ?_ | refine aD rfl rfl rfl (nb rfl) rfl rfl (by omega) ?_ | ((fail_if_success (refine aE (b := true) rfl rfl rfl ?_)); (fail_if_success (refine aE (b := false) rfl rfl rfl ?_)); refine aQ rfl rfl rfl (fun hq => ?_) (fun hq => ?_) <;> first | subst hq | (first | (simp only [sD, sE, sB, sC, sN, sM, sT, sF] at hq; try (exfalso; omega)) | skip)) | fail) | (refine bQ ?_; first | refine bH ?_ | refine bN ?_ | refine aL ?_ | refine aX ?_ | refine bO ?_ | refine bF ?_ | refine bE ?_ | refine aA (b := true) rfl (fun _ => ?_) nTf | refine aA (b := false) rfl nFt (fun _ => ?_) | refine aY ?_ | refine aW ?_ | refine aU mixed (by kernel_rfl) ?_ | refine aC mixed (by kernel_rfl) ?_ | (refine aA rfl (fun hq => ?_) (fun hq => ?_) <;> first | subst hq | (first | (simp only [sD, sE, sB, sC, sN, sM, sT, sF] at hq; try (exfalso; omega)) | skip)) | fail) | (refine bK ?_; first | refine bT ?_ | refine aI ?_ | refine aM ?_ | fail) | (refine bA ?_; first | refine bP ?_ | refine aF ?_ | refine aG (by decide) ?_ | refine aJ ?_ | fail) | refine bL (aV (by kernel_rfl)) ?_ | fail)
        all_goals first
          | exact absurd hk (by assumption)
          | (exfalso; omega)
          | (refine bV (by first | exact .inl rfl | exact .inr rfl) (bU rfl (aS rfl)) rfl ?_; rfl)
    · rw [show decide ((Tree.node k' n' x' y' kids').kind = k) = false from decide_eq_false hk, Bool.false_and] at hQ0
      subst hQ0
      clear ih cs
      refine bR Try.func39 rfl rfl (nb rfl) rfl ?_
      repeat' (first | refine bG ?_ | (refine bJ ?_; first | refine aR tabOk rfl rfl rfl (nb rfl) rfl ?_ | refine aZ rfl rfl (nb rfl) ?_ | (refine bI rfl rfl rfl (nb rfl) rfl rfl rfl (fun hq => ?_) (fun hq => ?_) <;> (first | (simp only [sD, sE, sB, sC, sN, sM, sT, sF] at hq; try (exfalso; omega)) | skip)) | refine aD rfl rfl rfl (nb rfl) rfl rfl (by omega) ?_ | refine bC rfl rfl rfl (nb rfl) rfl rfl rfl (by omega) (by omega) ?_ | refine bD rfl rfl rfl (nb rfl) rfl rfl rfl (by omega) (by omega) ?_ | refine bB tabOk rfl rfl rfl (nb rfl) rfl rfl rfl rfl rfl rfl rfl rfl rfl ?_ | refine aT tabOk rfl rfl (nb rfl) rfl ?_ | refine aN tabOk rfl rfl rfl (nb rfl) rfl rfl rfl rfl rfl rfl ?_ | refine aO tabOk rfl rfl rfl (nb rfl) rfl rfl rfl rfl ?_ | refine aK tabOk rfl rfl rfl rfl rfl rfl rfl rfl rfl rfl rfl ?_ | refine aP tabOk rfl rfl rfl (nb rfl) rfl rfl rfl rfl (by first | assumption | omega) ?_ | refine aH tabOk rfl rfl rfl (nb rfl) rfl rfl rfl rfl (by first | rfl | omega) (by first | omega | simp) ?_ | refine aB tabOk rfl rfl rfl (nb rfl) rfl rfl rfl (by assumption) ?_ | refine aB tabOk rfl rfl rfl (nb rfl) rfl rfl rfl (bM _ _ (by first | assumption | omega)) ?_ | refine aD rfl rfl rfl (nb rfl) rfl rfl (by omega) ?_ | ((fail_if_success (refine aE (b := true) rfl rfl rfl ?_)); (fail_if_success (refine aE (b := false) rfl rfl rfl ?_)); refine aQ rfl rfl rfl (fun hq => ?_) (fun hq => ?_) <;> first | subst hq | (first | (simp only [sD, sE, sB, sC, sN, sM, sT, sF] at hq; try (exfalso; omega)) | skip)) | fail) | (refine bQ ?_; first | refine bH ?_ | refine bN ?_ | refine aL ?_ | refine aX ?_ | refine bO ?_ | refine bF ?_ | refine bE ?_ | refine aA (b := true) rfl (fun _ => ?_) nTf | refine aA (b := false) rfl nFt (fun _ => ?_) | refine aY ?_ | refine aW ?_ | refine aU mixed (by kernel_rfl) ?_ | refine aC mixed (by kernel_rfl) ?_ | (refine aA rfl (fun hq => ?_) (fun hq => ?_) <;> first | subst hq | (first | (simp only [sD, sE, sB, sC, sN, sM, sT, sF] at hq; try (exfalso; omega)) | skip)) | fail) | (refine bK ?_; first | refine bT ?_ | refine aI ?_ | refine aM ?_ | fail) | (refine bA ?_; first | refine bP ?_ | refine aF ?_ | refine aG (by decide) ?_ | refine aJ ?_ | fail) | refine bL (aV (by kernel_rfl)) ?_ | fail)
      all_goals first
        | exact absurd (by assumption) hk
        | (refine bV (by first | exact .inl rfl | exact .inr rfl) (bU rfl (aS rfl)) rfl ?_; rfl)
end Go.Proofs.Ytlbemgokilhdnaa.Ab
namespace Go.Proofs.Ytlbemgokilhdnaa.Ab
set_option linter.unusedVariables false
set_option linter.unusedSimpArgs false
attribute [local irreducible] AWP AOps AExit AThen ABlock ANoGoto FeetOk
/-- How many constructors a node of a signature binds in its kids. -/
def sbindsP (k n : Int) : Int := if k = 164 ∨ k = 165 then n else 0
set_option maxRecDepth 10000 in
theorem oY (k n : Int) (a b : ByteArray) (kids : List Tree) : ACalls Try.prog 138 [.imm (Tree.iv (.node k n a b kids))] [] (.imm (.lit (.int .i64 (sbindsP k n)))) [] := by
  refine bR Try.func138 rfl rfl (nb rfl) rfl ?_
  repeat' (first | refine bG ?_ | (refine bJ ?_; first | refine aR tabOk rfl rfl rfl (nb rfl) rfl ?_ | refine aZ rfl rfl (nb rfl) ?_ | (refine bI rfl rfl rfl (nb rfl) rfl rfl rfl (fun hq => ?_) (fun hq => ?_) <;> (first | (simp only [sD, sE, sB, sC, sN, sM, sT, sF] at hq; try (exfalso; omega)) | skip)) | refine aD rfl rfl rfl (nb rfl) rfl rfl (by omega) ?_ | refine bC rfl rfl rfl (nb rfl) rfl rfl rfl (by omega) (by omega) ?_ | refine bD rfl rfl rfl (nb rfl) rfl rfl rfl (by omega) (by omega) ?_ | refine bB tabOk rfl rfl rfl (nb rfl) rfl rfl rfl rfl rfl rfl rfl rfl rfl ?_ | refine aT tabOk rfl rfl (nb rfl) rfl ?_ | refine aN tabOk rfl rfl rfl (nb rfl) rfl rfl rfl rfl rfl rfl ?_ | refine aO tabOk rfl rfl rfl (nb rfl) rfl rfl rfl rfl ?_ | refine aK tabOk rfl rfl rfl rfl rfl rfl rfl rfl rfl rfl rfl ?_ | refine aP tabOk rfl rfl rfl (nb rfl) rfl rfl rfl rfl (by first | assumption | omega) ?_ | refine aH tabOk rfl rfl rfl (nb rfl) rfl rfl rfl rfl (by first | rfl | omega) (by first | omega | simp) ?_ | refine aB tabOk rfl rfl rfl (nb rfl) rfl rfl rfl (by assumption) ?_ | refine aB tabOk rfl rfl rfl (nb rfl) rfl rfl rfl (bM _ _ (by first | assumption | omega)) ?_ | refine aD rfl rfl rfl (nb rfl) rfl rfl (by omega) ?_ | ((fail_if_success (refine aE (b := true) rfl rfl rfl ?_)); (fail_if_success (refine aE (b := false) rfl rfl rfl ?_)); refine aQ rfl rfl rfl (fun hq => ?_) (fun hq => ?_) <;> first | subst hq | (first | (simp only [sD, sE, sB, sC, sN, sM, sT, sF] at hq; try (exfalso; omega)) | skip)) | fail) | (refine bQ ?_; first | refine bH ?_ | refine bN ?_ | refine aL ?_ | refine aX ?_ | refine bO ?_ | refine bF ?_ | refine bE ?_ | refine aA (b := true) rfl (fun _ => ?_) nTf | refine aA (b := false) rfl nFt (fun _ => ?_) | refine aY ?_ | refine aW ?_ | refine aU mixed (by kernel_rfl) ?_ | refine aC mixed (by kernel_rfl) ?_ | (refine aA rfl (fun hq => ?_) (fun hq => ?_) <;> first | subst hq | (first | (simp only [sD, sE, sB, sC, sN, sM, sT, sF] at hq; try (exfalso; omega)) | skip)) | fail) | (refine bK ?_; first | refine bT ?_ | refine aI ?_ | refine aM ?_ | fail) | (refine bA ?_; first | refine bP ?_ | refine aF ?_ | refine aG (by decide) ?_ | refine aJ ?_ | fail) | refine bL (aV (by kernel_rfl)) ?_ | fail)
  all_goals (refine bV (by first | exact .inl rfl | exact .inr rfl) (bU rfl (aS rfl)) rfl ?_; refine fE ?_; unfold sbindsP; first | (rw [if_pos (by omega)]; done) | (rw [if_neg (by omega)]; done))
mutual
/-- Is a tree one of signatures, down to constructors that are checked, with so many binders around at most? -/
def okW : Tree → Int → Bool
  | .nil, _ => false
  | .node k n a b kids, B => if k < 160 then checkP isConP (.node k n a b kids) == 0 else decide (0 ≤ sbindsP k n ∧ sbindsP k n ≤ B) && okWs kids (B - sbindsP k n)
def okWs : List Tree → Int → Bool
  | [], _ => true
  | t :: ts, B => okW t B && okWs ts B
end
theorem lQ {B : Int} : ∀ {l : List Tree}, okWs l B = true → ∀ t ∈ l, okW t B = true
  | x :: xs, h, t, ht => by
    simp only [okWs, Bool.and_eq_true] at h
    rcases List.mem_cons.1 ht with rfl | ht
    · exact h.1
    · exact lQ h.2 t ht
theorem rC {B : Int} : ∀ {l : List Tree}, (∀ t ∈ l, okW t B = true) → okWs l B = true
  | [], _ => by rw [okWs]
  | x :: xs, h => by
    simp only [okWs, Bool.and_eq_true]
    exact ⟨h x (by simp), rC fun t ht => h t (by simp [ht])⟩
theorem rD {c : Tree} (h : checkP isConP c = 0) : ∃ k n a b ks, c = .node k n a b ks ∧ k < 160 := by
  obtain ⟨_, _, hf⟩ := cD h
  cases c with
  | nil => simp [isConP] at hf
  | node k n a b ks =>
    refine ⟨k, n, a, b, ks, rfl, ?_⟩
    rw [isConP, Bool.and_eq_true] at hf
    have := hf.2
    by_cases h1 : k < 160
    · exact h1
    · rw [if_neg (by omega), if_neg (by omega), if_neg (by omega), if_neg (by omega), if_neg (by omega), if_neg (by omega)] at this
      cases this
theorem vJ {c : Tree} (h : checkP isConP c = 0) (B : Int) : okW c B = true := by
  obtain ⟨k, n, a, b, ks, rfl, hk⟩ := rD h
  rw [okW, if_pos hk, h]
  rfl
theorem nV (t : Tree) : isSigP t = true → ∀ B : Int, 0 ≤ B → okW t B = true := by
  induction t using Tree.sind with
  | h t ih =>
    intro h B hB
    cases t with
    | nil => simp [isSigP] at h
    | node k n a b kids =>
      rcases dH h with ⟨hk, c, rfl, hc⟩ | ⟨hk, hf, _⟩
      · have h0 : sbindsP k n = 0 := by unfold sbindsP; rw [if_neg (by omega)]
        rw [okW, if_neg (by omega), h0, decide_eq_true (by omega), Bool.true_and, okWs, okWs, vJ hc, Bool.and_true]
      · have h0 : sbindsP k n = 0 := by unfold sbindsP; rw [if_neg (by omega)]
        rw [okW, if_neg (by omega), h0, decide_eq_true (by omega), Bool.true_and]
        refine rC fun u hu => ?_
        have hz := cH (k := k) (n := n) (a := a) (b := b) hu
        obtain ⟨n', a', b', c, rfl, hc⟩ := dA (hf u hu)
        have hz2 := cH (k := 163) (n := n') (a := a') (b := b') (kids := [c]) (t := c) (by simp)
        have h1 : sbindsP 163 n' = 0 := by unfold sbindsP; rw [if_neg (by omega)]
        rw [okW, if_neg (by omega), h1, decide_eq_true (by omega), Bool.true_and, okWs, okWs, ih c (by omega) hc _ (by omega), Bool.and_true]
theorem jN {n : Int} {a b : ByteArray} {nm : Bool} (h : sbareP n a b nm true = true) : 0 ≤ n ∧ n ≤ 8192 := by
  simp only [sbareP, Bool.true_and, Bool.and_eq_true, Bool.or_eq_true, decide_eq_true_eq, beq_iff_eq] at h
  omega
theorem tY {t : Tree} (h : isExP t = true) (B : Int) (hB : 8192 ≤ B) : okW t B = true := by
  unfold isExP at h
  split at h
  · rename_i k n a b c
    simp only [Bool.and_eq_true, beq_iff_eq] at h
    obtain ⟨⟨rfl, h1⟩, h2⟩ := h
    have h3 := jN h1
    have h0 : sbindsP 164 n = n := by unfold sbindsP; rw [if_pos (by omega)]
    rw [okW, if_neg (by omega), h0, decide_eq_true (by omega), Bool.true_and, okWs, okWs, nV c h2 _ (by omega), Bool.and_true]
  · cases h
theorem vK {t : Tree} (h : isFunP t = true) (B : Int) (hB : 16384 ≤ B) : okW t B = true := by
  unfold isFunP at h
  split at h
  · rename_i k n a b x y
    simp only [Bool.and_eq_true, beq_iff_eq] at h
    obtain ⟨⟨rfl, h1⟩, h2, h3⟩ := h
    have h4 := jN h1
    have h0 : sbindsP 165 n = n := by unfold sbindsP; rw [if_pos (by omega)]
    rw [okW, if_neg (by omega), h0, decide_eq_true (by omega), Bool.true_and, okWs, okWs, okWs, nV x h2 _ (by omega), tY h3 _ (by omega), Bool.and_true, Bool.and_true]
  · cases h
theorem oZ {t : Tree} (h : sformP t = true) : okW t 16384 = true := by
  unfold sformP at h
  rw [Bool.or_eq_true, Bool.or_eq_true] at h
  rcases h with h | h | h
  · exact nV t h _ (by omega)
  · exact tY h _ (by omega)
  · exact vK h _ (by omega)
mutual
/-- A signature made anew, its constructors as C says; the error. -/
def swalkP (C : Tree → Int → Tree × Int) : Tree → Int → Tree × Int
  | .nil, _ => (.nil, 0)
  | .node k n a b kids, d => if k < 160 then C (.node k n a b kids) d else if (swalkPs C kids (d + sbindsP k n)).2 ≠ 0 then (.nil, (swalkPs C kids (d + sbindsP k n)).2) else (.node k n a b (swalkPs C kids (d + sbindsP k n)).1, 0)
def swalkPs (C : Tree → Int → Tree × Int) : List Tree → Int → List Tree × Int
  | [], _ => ([], 0)
  | t :: ts, d => if (swalkP C t d).2 ≠ 0 then ([], (swalkP C t d).2) else if (swalkPs C ts d).2 ≠ 0 then ([], (swalkPs C ts d).2) else ((swalkP C t d).1 :: (swalkPs C ts d).1, 0)
end
section
variable (C : Tree → Int → Tree × Int)
theorem iX (d : Int) (t : Tree) : ∀ (l : List Tree), (swalkPs C l d).2 = 0 → (swalkP C t d).2 = 0 → swalkPs C (l ++ [t]) d = ((swalkPs C l d).1 ++ [(swalkP C t d).1], 0)
  | [], _, h => by
    simp [swalkPs, h]
  | x :: l, h1, h2 => by
    rw [swalkPs] at h1
    by_cases c1 : (swalkP C x d).2 ≠ 0
    · rw [if_pos c1] at h1; exact absurd h1 c1
    · rw [if_neg c1] at h1
      by_cases c2 : (swalkPs C l d).2 ≠ 0
      · rw [if_pos c2] at h1; exact absurd h1 c2
      · have ih := iX d t l (by omega) h2
        rw [List.cons_append, swalkPs, if_neg c1, ih, swalkPs, if_neg c1, if_neg c2]
        simp
theorem iY (d : Int) {l : List Tree} {j : Nat} (hj : j < l.length) (h : (swalkPs C (l.take j) d).2 = 0) (h2 : (swalkP C l[j] d).2 ≠ 0) : (swalkPs C l d).2 = (swalkP C l[j] d).2 := by
  induction l generalizing j with
  | nil => simp at hj
  | cons x l ih =>
    cases j with
    | zero =>
      rw [List.getElem_cons_zero] at h2 ⊢
      rw [swalkPs, if_pos h2]
    | succ j =>
      rw [List.getElem_cons_succ] at h2 ⊢
      rw [List.take_succ_cons, swalkPs] at h
      by_cases c1 : (swalkP C x d).2 ≠ 0
      · rw [if_pos c1] at h; exact absurd h c1
      · rw [if_neg c1] at h
        by_cases c2 : (swalkPs C (l.take j) d).2 ≠ 0
        · rw [if_pos c2] at h; exact absurd h c2
        · have := ih (by simpa using hj) (by omega) h2
          rw [swalkPs, if_neg c1, if_pos (by rw [this]; exact h2)]
          exact this
theorem iZ (d : Int) {l : List Tree} {j : Nat} (hj : j < l.length) (h1 : (swalkPs C (l.take j) d).2 = 0) (h2 : (swalkP C l[j] d).2 = 0) : swalkPs C (l.take (j + 1)) d = ((swalkPs C (l.take j) d).1 ++ [(swalkP C l[j] d).1], 0) := by
  rw [List.take_succ_eq_append_getElem hj]
  exact iX C d _ _ h1 h2
theorem eI (d : Int) : ∀ (l : List Tree), (swalkPs C l d).2 = 0 → (swalkPs C l d).1.length = l.length
  | [], _ => by rw [swalkPs]
  | x :: l, h => by
    rw [swalkPs] at h ⊢
    by_cases c1 : (swalkP C x d).2 ≠ 0
    · rw [if_pos c1] at h; exact absurd h c1
    · rw [if_neg c1] at h ⊢
      by_cases c2 : (swalkPs C l d).2 ≠ 0
      · rw [if_pos c2] at h; exact absurd h c2
      · rw [if_neg c2, List.length_cons, List.length_cons, eI d l (by omega)]
end
set_option maxHeartbeats 8000000 in
set_option maxRecDepth 10000 in
theorem tZ (C : Tree → Int → Tree × Int) (F : FuncId) 
    (hC : ∀ (t : Tree) (d : Int), checkP isConP t = 0 → 0 ≤ d → d ≤ 20000 → ACalls Try.prog F ([.imm t.iv, .imm (.lit (.int .i64 d))]) [] (.imm (.tup [(C t d).1.iv, .lit (.int .i64 (C t d).2)])) [] ∧ ((C t d).2 = 0 → (C t d).1 ≠ .nil)) (t : Tree) :
    ∀ (d B : Int), okW t B = true → t.whole = true → 0 ≤ d → d + B ≤ 20000 → 0 ≤ B → t.size ≤ 1000000 → ACalls Try.prog 128 [.imm t.iv, .imm (.lit (.int .i64 d)), .imm (.func F [] [])] [] (.imm (.tup [(swalkP C t d).1.iv, .lit (.int .i64 (swalkP C t d).2)])) [] ∧ ((swalkP C t d).2 = 0 → (swalkP C t d).1 ≠ .nil) := by
  induction t using Tree.ind with
  | h1 => intro d B _ h; simp [Tree.whole] at h
  | h2 k n a b kids ih =>
    intro d B hv hw hd hs hB0 hsz
    have hl := cA kids hw
    simp only [Tree.size] at hsz
    rw [okW] at hv
    by_cases k160 : k < 160
    · rw [if_pos k160] at hv
      obtain ⟨hc, hne⟩ := hC (.node k n a b kids) d (by simpa using hv) hd (by omega)
      rw [swalkP, if_pos k160]
      refine ⟨?_, hne⟩
      clear hne ih hC
      generalize C (.node k n a b kids) d = R at *
      obtain ⟨R1, R2⟩ := R
      dsimp only at hc ⊢
      refine cG [] Try.func128 rfl rfl (nb rfl) rfl rfl ?_
      repeat' (first | refine bG ?_ | (refine bJ ?_; first | refine aR tabOk rfl rfl rfl (nb rfl) rfl ?_ | refine aZ rfl rfl (nb rfl) ?_ | (refine bI rfl rfl rfl (nb rfl) rfl rfl rfl (fun hq => ?_) (fun hq => ?_) <;> (first | (simp only [sD, sE, sB, sC, sN, sM, sT, sF] at hq; try (exfalso; omega)) | skip))| refine cC rfl rfl (nb rfl) rfl rfl rfl rfl hc (by repeat' first | exact trivial | refine ⟨rfl, ?_⟩) rfl (by show ([] : List Nat).Nodup; decide) ?_ | refine aD rfl rfl rfl (nb rfl) rfl rfl (by omega) ?_ | refine bC rfl rfl rfl (nb rfl) rfl rfl rfl (by omega) (by omega) ?_ | refine bD rfl rfl rfl (nb rfl) rfl rfl rfl (by omega) (by omega) ?_ | refine bB tabOk rfl rfl rfl (nb rfl) rfl rfl rfl rfl rfl rfl rfl rfl rfl ?_ | refine aT tabOk rfl rfl (nb rfl) rfl ?_ | refine aN tabOk rfl rfl rfl (nb rfl) rfl rfl rfl rfl rfl rfl ?_ | refine aO tabOk rfl rfl rfl (nb rfl) rfl rfl rfl rfl ?_ | refine aK tabOk rfl rfl rfl rfl rfl rfl rfl rfl rfl rfl rfl ?_ | refine aP tabOk rfl rfl rfl (nb rfl) rfl rfl rfl rfl (by first | assumption | omega) ?_ | refine aH tabOk rfl rfl rfl (nb rfl) rfl rfl rfl rfl (by first | rfl | omega) (by first | omega | simp) ?_ | refine aB tabOk rfl rfl rfl (nb rfl) rfl rfl rfl (by assumption) ?_ | refine aB tabOk rfl rfl rfl (nb rfl) rfl rfl rfl (bM _ _ (by first | assumption | omega)) ?_ | refine aD rfl rfl rfl (nb rfl) rfl rfl (by omega) ?_ | ((fail_if_success (refine aE (b := true) rfl rfl rfl ?_)); (fail_if_success (refine aE (b := false) rfl rfl rfl ?_)); refine aQ rfl rfl rfl (fun hq => ?_) (fun hq => ?_) <;> first | subst hq | (first | (simp only [sD, sE, sB, sC, sN, sM, sT, sF] at hq; try (exfalso; omega)) | skip)) | fail) | (refine bQ ?_; first | refine bH ?_ | refine bN ?_ | refine aL ?_ | refine aX ?_ | refine bO ?_ | refine bF ?_ | refine bE ?_ | refine aA (b := true) rfl (fun _ => ?_) nTf | refine aA (b := false) rfl nFt (fun _ => ?_) | refine aY ?_ | refine aW ?_ | refine aU mixed (by kernel_rfl) ?_ | refine aC mixed (by kernel_rfl) ?_ | (refine aA rfl (fun hq => ?_) (fun hq => ?_) <;> first | subst hq | (first | (simp only [sD, sE, sB, sC, sN, sM, sT, sF] at hq; try (exfalso; omega)) | skip)) | fail) | (refine bK ?_; first | refine bT ?_ | refine aI ?_ | refine aM ?_ | fail) | (refine bA ?_; first | refine bP ?_ | refine aF ?_ | refine aG (by decide) ?_ | refine aJ ?_ | fail) | refine bL (aV (by kernel_rfl)) ?_ | fail)
      all_goals first
        | (exfalso; omega)
        | (refine cK (cF (by first | exact .inl rfl | exact .inr rfl) (bX rfl (aS rfl) (aS rfl)) rfl (by repeat' first | exact trivial | refine ⟨rfl, ?_⟩) rfl ?_); rfl)
    · rw [if_neg k160, Bool.and_eq_true, decide_eq_true_eq] at hv
      obtain ⟨⟨hb0, hb1⟩, hks⟩ := hv
      have cb := oY k n a b kids
      rw [swalkP, if_neg k160]
      generalize hdd : d + sbindsP k n = dd at *
      have hind : ∀ j (h : j < kids.length), ACalls Try.prog 128 [.imm kids[j].iv, .imm (.lit (.int .i64 dd)), .imm (.func F [] [])] [] (.imm (.tup [(swalkP C kids[j] dd).1.iv, .lit (.int .i64 (swalkP C kids[j] dd).2)])) [] ∧ ((swalkP C kids[j] dd).2 = 0 → (swalkP C kids[j] dd).1 ≠ .nil) := fun j h => by
        have hm := List.getElem_mem h
        have hz := cP hm
        exact ih _ hm dd (B - sbindsP k n) (lQ hks _ hm) (bY hw hm) (by omega) (by omega) (by omega) (by omega)
      clear ih hks
      refine ⟨?_, fun h => by split at h; exact absurd h (by assumption); rename_i h0; rw [if_neg h0]; simp⟩
      generalize sbindsP k n = sb at *
      generalize hR : (if (swalkPs C kids dd).2 ≠ 0 then (Tree.nil, (swalkPs C kids dd).2) else (.node k n a b (swalkPs C kids dd).1, 0)) = R
      refine cG [] Try.func128 rfl rfl (nb rfl) rfl rfl ?_
      repeat' (first | refine bG ?_ | (refine bJ ?_; first | refine aR tabOk rfl rfl rfl (nb rfl) rfl ?_ | refine aZ rfl rfl (nb rfl) ?_ | (refine bI rfl rfl rfl (nb rfl) rfl rfl rfl (fun hq => ?_) (fun hq => ?_) <;> (first | (simp only [sD, sE, sB, sC, sN, sM, sT, sF] at hq; try (exfalso; omega)) | skip)) | refine aD rfl rfl rfl (nb rfl) rfl rfl (by omega) ?_ | refine bC rfl rfl rfl (nb rfl) rfl rfl rfl (by omega) (by omega) ?_ | refine bD rfl rfl rfl (nb rfl) rfl rfl rfl (by omega) (by omega) ?_ | refine bB tabOk rfl rfl rfl (nb rfl) rfl rfl rfl rfl rfl rfl rfl rfl rfl ?_ | refine aT tabOk rfl rfl (nb rfl) rfl ?_ | refine aN tabOk rfl rfl rfl (nb rfl) rfl rfl rfl rfl rfl rfl ?_ | refine aO tabOk rfl rfl rfl (nb rfl) rfl rfl rfl rfl ?_ | refine aK tabOk rfl rfl rfl rfl rfl rfl rfl rfl rfl rfl rfl ?_ | refine aP tabOk rfl rfl rfl (nb rfl) rfl rfl rfl rfl (by first | assumption | omega) ?_ | refine aH tabOk rfl rfl rfl (nb rfl) rfl rfl rfl rfl (by first | rfl | omega) (by first | omega | simp) ?_ | refine aB tabOk rfl rfl rfl (nb rfl) rfl rfl rfl (by assumption) ?_ | refine aB tabOk rfl rfl rfl (nb rfl) rfl rfl rfl (bM _ _ (by first | assumption | omega)) ?_ | refine aD rfl rfl rfl (nb rfl) rfl rfl (by omega) ?_ | ((fail_if_success (refine aE (b := true) rfl rfl rfl ?_)); (fail_if_success (refine aE (b := false) rfl rfl rfl ?_)); refine aQ rfl rfl rfl (fun hq => ?_) (fun hq => ?_) <;> first | subst hq | (first | (simp only [sD, sE, sB, sC, sN, sM, sT, sF] at hq; try (exfalso; omega)) | skip)) | fail) | (refine bQ ?_; first | refine bH ?_ | refine bN ?_ | refine aL ?_ | refine aX ?_ | refine bO ?_ | refine bF ?_ | refine bE ?_ | refine aA (b := true) rfl (fun _ => ?_) nTf | refine aA (b := false) rfl nFt (fun _ => ?_) | refine aY ?_ | refine aW ?_ | refine aU mixed (by kernel_rfl) ?_ | refine aC mixed (by kernel_rfl) ?_ | (refine aA rfl (fun hq => ?_) (fun hq => ?_) <;> first | subst hq | (first | (simp only [sD, sE, sB, sC, sN, sM, sT, sF] at hq; try (exfalso; omega)) | skip)) | fail) | (refine bK ?_; first | refine bT ?_ | refine aI ?_ | refine aM ?_ | fail) | (refine bA ?_; first | refine bP ?_ | refine aF ?_ | refine aG (by decide) ?_ | refine aJ ?_ | fail) | refine bL (aV (by kernel_rfl)) ?_ | fail)
      all_goals first
        | (exfalso; omega)
        | skip
      refine dQ (dW (h0 := 8) (k0 := 4) 500 25 1 rfl rfl (by simp) rfl rfl) ?_
      refine cJ (ι := {j : Nat // j ≤ kids.length ∧ (swalkPs C (kids.take j) dd).2 = 0}) (fun j => S.f ⟨[(33, .imm (.lit (.int .i64 (j.1 : Int)))), (32, .imm (.lit (.int .i64 (kids.length : Int)))), (31, .imm (.sl false kids.length (Tree.ivs kids))), (8, .obj 8 0), (0, .imm (Tree.iv (.node k n a b kids))), (1, .imm (.lit (.int .i64 d))), (2, .imm (.func F [] []))], (500, .arr 25 1 j.1 (Tree.ivs (swalkPs C (kids.take j.1) dd).1)) :: (8, .cells [.imm (.lit (.int .i64 k)), .imm (.lit (.int .i64 n)), .imm (.lit (.string a)), .imm (.lit (.string b)), .ref 500 j.1]) :: []⟩) (fun j => kids.length - j.1) ⟨0, Nat.zero_le _, by rw [List.take_zero, swalkPs]⟩ (cB (by repeat' first | exact trivial | refine ⟨rfl, ?_⟩) (by repeat' first | exact trivial | refine ⟨rfl, ?_⟩)) ?_
      rintro ⟨j, hj, hok⟩
      dsimp only
      by_cases hlt : j < kids.length
      · have hget := bM kids j hlt
        obtain ⟨hc, hnn⟩ := hind j hlt
        have hll := eI C dd (kids.take j) hok
        rw [List.length_take, Nat.min_eq_left hj] at hll
        have hst := iY C dd hlt hok
        have htk := iZ C dd hlt hok
        clear hind hC
        have hil := dN (swalkPs C (kids.take j) dd).1
        rw [hll] at hil
        generalize swalkPs C (kids.take j) dd = Z at *
        obtain ⟨Z1, Z2⟩ := Z
        generalize swalkP C kids[j] dd = W at *
        obtain ⟨W1, W2⟩ := W
        dsimp only at *
        by_cases h0 : W2 = 0
        · subst h0
          have htk := htk rfl
          obtain ⟨pc, hpc⟩ := dU (hnn rfl)
          rw [hpc] at hc
          have hiv : Tree.ivs (swalkPs C (kids.take (j + 1)) dd).1 = Tree.ivs Z1 ++ [.ptr pc 0] := by
            rw [htk, cT, cT, List.map_append, ← hpc]; rfl
          have hok2 : (swalkPs C (kids.take (j + 1)) dd).2 = 0 := by rw [htk]
          generalize Tree.ivs Z1 = ZI at *
          repeat' (first | refine bG ?_ | (refine bJ ?_; first | refine aR tabOk rfl rfl rfl (nb rfl) rfl ?_ | refine aZ rfl rfl (nb rfl) ?_ | (refine bI rfl rfl rfl (nb rfl) rfl rfl rfl (fun hq => ?_) (fun hq => ?_) <;> (first | (simp only [sD, sE, sB, sC, sN, sM, sT, sF] at hq; try (exfalso; omega)) | skip))| refine aB tabOk rfl rfl rfl (nb rfl) rfl rfl rfl hget ?_ | refine bS rfl rfl (nb rfl) rfl rfl rfl rfl (cb) ?_ | refine bC (z := dd) rfl rfl rfl (nb rfl) rfl rfl hdd (by omega) (by omega) ?_ | refine cC rfl rfl (nb rfl) rfl rfl rfl rfl hc (by repeat' first | exact trivial | refine ⟨rfl, ?_⟩) rfl (by show ([] : List Nat).Nodup; decide) ?_ | refine cR tabOk rfl rfl rfl (nb rfl) rfl rfl rfl rfl rfl rfl rfl (by first | omega | decide) rfl (by first | omega | (dsimp only; omega)) (by first | omega | (dsimp only; omega)) ?_ | refine aD rfl rfl rfl (nb rfl) rfl rfl (by omega) ?_ | refine bC rfl rfl rfl (nb rfl) rfl rfl rfl (by omega) (by omega) ?_ | refine bD rfl rfl rfl (nb rfl) rfl rfl rfl (by omega) (by omega) ?_ | refine bB tabOk rfl rfl rfl (nb rfl) rfl rfl rfl rfl rfl rfl rfl rfl rfl ?_ | refine aT tabOk rfl rfl (nb rfl) rfl ?_ | refine aN tabOk rfl rfl rfl (nb rfl) rfl rfl rfl rfl rfl rfl ?_ | refine aO tabOk rfl rfl rfl (nb rfl) rfl rfl rfl rfl ?_ | refine aK tabOk rfl rfl rfl rfl rfl rfl rfl rfl rfl rfl rfl ?_ | refine aP tabOk rfl rfl rfl (nb rfl) rfl rfl rfl rfl (by first | assumption | omega) ?_ | refine aH tabOk rfl rfl rfl (nb rfl) rfl rfl rfl rfl (by first | rfl | omega) (by first | omega | simp) ?_ | refine aB tabOk rfl rfl rfl (nb rfl) rfl rfl rfl (by assumption) ?_ | refine aB tabOk rfl rfl rfl (nb rfl) rfl rfl rfl (bM _ _ (by first | assumption | omega)) ?_ | refine aD rfl rfl rfl (nb rfl) rfl rfl (by omega) ?_ | ((fail_if_success (refine aE (b := true) rfl rfl rfl ?_)); (fail_if_success (refine aE (b := false) rfl rfl rfl ?_)); refine aQ rfl rfl rfl (fun hq => ?_) (fun hq => ?_) <;> first | subst hq | (first | (simp only [sD, sE, sB, sC, sN, sM, sT, sF] at hq; try (exfalso; omega)) | skip)) | fail) | (refine bQ ?_; first | refine bH ?_ | refine bN ?_ | refine aL ?_ | refine aX ?_ | refine bO ?_ | refine bF ?_ | refine bE ?_ | refine aA (b := true) rfl (fun _ => ?_) nTf | refine aA (b := false) rfl nFt (fun _ => ?_) | refine aY ?_ | refine aW ?_ | refine aU mixed (by kernel_rfl) ?_ | refine aC mixed (by kernel_rfl) ?_ | (refine aA rfl (fun hq => ?_) (fun hq => ?_) <;> first | subst hq | (first | (simp only [sD, sE, sB, sC, sN, sM, sT, sF] at hq; try (exfalso; omega)) | skip)) | fail) | (refine bK ?_; first | refine bT ?_ | refine aI ?_ | refine aM ?_ | fail) | (refine bA ?_; first | refine bP ?_ | refine aF ?_ | refine aG (by decide) ?_ | refine aJ ?_ | fail) | refine bL (aV (by kernel_rfl)) ?_ | fail)
          all_goals first
            | exact absurd rfl (by assumption)
            | (exfalso; omega)
            | (refine ⟨⟨j + 1, hlt, hok2⟩, (by show kids.length - (j + 1) < kids.length - j; omega), ?_⟩; dsimp only; rw [hiv]; exact (cB (by repeat' first | exact trivial | refine ⟨rfl, ?_⟩) (by repeat' first | exact trivial | refine ⟨rfl, ?_⟩)))
        · have hs2 := hst h0
          rw [hs2, if_pos h0] at hR
          subst hR
          repeat' (first | refine bG ?_ | (refine bJ ?_; first | refine aR tabOk rfl rfl rfl (nb rfl) rfl ?_ | refine aZ rfl rfl (nb rfl) ?_ | (refine bI rfl rfl rfl (nb rfl) rfl rfl rfl (fun hq => ?_) (fun hq => ?_) <;> (first | (simp only [sD, sE, sB, sC, sN, sM, sT, sF] at hq; try (exfalso; omega)) | skip))| refine aB tabOk rfl rfl rfl (nb rfl) rfl rfl rfl hget ?_ | refine bS rfl rfl (nb rfl) rfl rfl rfl rfl (cb) ?_ | refine bC (z := dd) rfl rfl rfl (nb rfl) rfl rfl hdd (by omega) (by omega) ?_ | refine cC rfl rfl (nb rfl) rfl rfl rfl rfl hc (by repeat' first | exact trivial | refine ⟨rfl, ?_⟩) rfl (by show ([] : List Nat).Nodup; decide) ?_ | refine aD rfl rfl rfl (nb rfl) rfl rfl (by omega) ?_ | refine bC rfl rfl rfl (nb rfl) rfl rfl rfl (by omega) (by omega) ?_ | refine bD rfl rfl rfl (nb rfl) rfl rfl rfl (by omega) (by omega) ?_ | refine bB tabOk rfl rfl rfl (nb rfl) rfl rfl rfl rfl rfl rfl rfl rfl rfl ?_ | refine aT tabOk rfl rfl (nb rfl) rfl ?_ | refine aN tabOk rfl rfl rfl (nb rfl) rfl rfl rfl rfl rfl rfl ?_ | refine aO tabOk rfl rfl rfl (nb rfl) rfl rfl rfl rfl ?_ | refine aK tabOk rfl rfl rfl rfl rfl rfl rfl rfl rfl rfl rfl ?_ | refine aP tabOk rfl rfl rfl (nb rfl) rfl rfl rfl rfl (by first | assumption | omega) ?_ | refine aH tabOk rfl rfl rfl (nb rfl) rfl rfl rfl rfl (by first | rfl | omega) (by first | omega | simp) ?_ | refine aB tabOk rfl rfl rfl (nb rfl) rfl rfl rfl (by assumption) ?_ | refine aB tabOk rfl rfl rfl (nb rfl) rfl rfl rfl (bM _ _ (by first | assumption | omega)) ?_ | refine aD rfl rfl rfl (nb rfl) rfl rfl (by omega) ?_ | ((fail_if_success (refine aE (b := true) rfl rfl rfl ?_)); (fail_if_success (refine aE (b := false) rfl rfl rfl ?_)); refine aQ rfl rfl rfl (fun hq => ?_) (fun hq => ?_) <;> first | subst hq | (first | (simp only [sD, sE, sB, sC, sN, sM, sT, sF] at hq; try (exfalso; omega)) | skip)) | fail) | (refine bQ ?_; first | refine bH ?_ | refine bN ?_ | refine aL ?_ | refine aX ?_ | refine bO ?_ | refine bF ?_ | refine bE ?_ | refine aA (b := true) rfl (fun _ => ?_) nTf | refine aA (b := false) rfl nFt (fun _ => ?_) | refine aY ?_ | refine aW ?_ | refine aU mixed (by kernel_rfl) ?_ | refine aC mixed (by kernel_rfl) ?_ | (refine aA rfl (fun hq => ?_) (fun hq => ?_) <;> first | subst hq | (first | (simp only [sD, sE, sB, sC, sN, sM, sT, sF] at hq; try (exfalso; omega)) | skip)) | fail) | (refine bK ?_; first | refine bT ?_ | refine aI ?_ | refine aM ?_ | fail) | (refine bA ?_; first | refine bP ?_ | refine aF ?_ | refine aG (by decide) ?_ | refine aJ ?_ | fail) | refine bL (aV (by kernel_rfl)) ?_ | fail)
          all_goals first
            | exact absurd (by assumption) h0
            | (exfalso; omega)
            | (refine cK (cF (by first | exact .inl rfl | exact .inr rfl) (bX rfl (aS rfl) (aS rfl)) rfl (by repeat' first | exact trivial | refine ⟨rfl, ?_⟩) rfl ?_); rfl)
      · have ej : j = kids.length := by omega
        subst ej
        rw [List.take_length] at hok ⊢
        rw [if_neg (by simpa using hok)] at hR
        subst hR
        have hll := eI C dd kids hok
        clear hind hC
        generalize swalkPs C kids dd = Z at *
        obtain ⟨Z1, Z2⟩ := Z
        dsimp only at *
        have hiv : (Tree.node k n a b Z1).iv = .ptr [.lit (.int .i64 k), .lit (.int .i64 n), .lit (.string a), .lit (.string b), .sl false kids.length (Tree.ivs Z1)] 0 := by rw [Tree.iv, hll]
        rw [hiv]
        generalize Tree.ivs Z1 = ZI at *
        repeat' (first | refine bG ?_ | (refine bJ ?_; first | refine aR tabOk rfl rfl rfl (nb rfl) rfl ?_ | refine aZ rfl rfl (nb rfl) ?_ | (refine bI rfl rfl rfl (nb rfl) rfl rfl rfl (fun hq => ?_) (fun hq => ?_) <;> (first | (simp only [sD, sE, sB, sC, sN, sM, sT, sF] at hq; try (exfalso; omega)) | skip)) | refine aD rfl rfl rfl (nb rfl) rfl rfl (by omega) ?_ | refine bC rfl rfl rfl (nb rfl) rfl rfl rfl (by omega) (by omega) ?_ | refine bD rfl rfl rfl (nb rfl) rfl rfl rfl (by omega) (by omega) ?_ | refine bB tabOk rfl rfl rfl (nb rfl) rfl rfl rfl rfl rfl rfl rfl rfl rfl ?_ | refine aT tabOk rfl rfl (nb rfl) rfl ?_ | refine aN tabOk rfl rfl rfl (nb rfl) rfl rfl rfl rfl rfl rfl ?_ | refine aO tabOk rfl rfl rfl (nb rfl) rfl rfl rfl rfl ?_ | refine aK tabOk rfl rfl rfl rfl rfl rfl rfl rfl rfl rfl rfl ?_ | refine aP tabOk rfl rfl rfl (nb rfl) rfl rfl rfl rfl (by first | assumption | omega) ?_ | refine aH tabOk rfl rfl rfl (nb rfl) rfl rfl rfl rfl (by first | rfl | omega) (by first | omega | simp) ?_ | refine aB tabOk rfl rfl rfl (nb rfl) rfl rfl rfl (by assumption) ?_ | refine aB tabOk rfl rfl rfl (nb rfl) rfl rfl rfl (bM _ _ (by first | assumption | omega)) ?_ | refine aD rfl rfl rfl (nb rfl) rfl rfl (by omega) ?_ | ((fail_if_success (refine aE (b := true) rfl rfl rfl ?_)); (fail_if_success (refine aE (b := false) rfl rfl rfl ?_)); refine aQ rfl rfl rfl (fun hq => ?_) (fun hq => ?_) <;> first | subst hq | (first | (simp only [sD, sE, sB, sC, sN, sM, sT, sF] at hq; try (exfalso; omega)) | skip)) | fail) | (refine bQ ?_; first | refine bH ?_ | refine bN ?_ | refine aL ?_ | refine aX ?_ | refine bO ?_ | refine bF ?_ | refine bE ?_ | refine aA (b := true) rfl (fun _ => ?_) nTf | refine aA (b := false) rfl nFt (fun _ => ?_) | refine aY ?_ | refine aW ?_ | refine aU mixed (by kernel_rfl) ?_ | refine aC mixed (by kernel_rfl) ?_ | (refine aA rfl (fun hq => ?_) (fun hq => ?_) <;> first | subst hq | (first | (simp only [sD, sE, sB, sC, sN, sM, sT, sF] at hq; try (exfalso; omega)) | skip)) | fail) | (refine bK ?_; first | refine bT ?_ | refine aI ?_ | refine aM ?_ | fail) | (refine bA ?_; first | refine bP ?_ | refine aF ?_ | refine aG (by decide) ?_ | refine aJ ?_ | fail) | refine bL (aV (by kernel_rfl)) ?_ | fail)
        all_goals first
          | (exfalso; omega)
          | (refine fO ((Imp.of_le (σ' := S.f ⟨[(6, .obj 8 0), (7, .imm (.lit (.int .i64 0)))], (500, .arr 25 1 kids.length ZI) :: (8, .cells [.imm (.lit (.int .i64 k)), .imm (.lit (.int .i64 n)), .imm (.lit (.string a)), .imm (.lit (.string b)), .ref 500 kids.length]) :: []⟩) (cB (by repeat' first | exact trivial | refine ⟨rfl, ?_⟩) (by repeat' first | exact trivial | refine ⟨rfl, ?_⟩))).trans ((cZ (g := 500) rfl (by repeat' first | exact trivial | exact fun _ => rfl | refine ⟨?_, ?_⟩) (by repeat' first | exact trivial | exact fun _ => rfl | refine ⟨?_, ?_⟩)).trans (dJ (g := 8) rfl rfl))) ?_
             refine cF (by first | exact .inl rfl | exact .inr rfl) (bX rfl (aS rfl) (aS rfl)) rfl (by repeat' first | exact trivial | refine ⟨rfl, ?_⟩) rfl rfl)
set_option maxHeartbeats 8000000 in
set_option maxRecDepth 10000 in
theorem uA (C : Tree → Int → Tree × Int) (F : FuncId) (x0 x1 : IV)
    (hC : ∀ (t : Tree) (d : Int), checkP isConP t = 0 → 0 ≤ d → d ≤ 20000 → ACalls Try.prog F ([.imm t.iv, .imm (.lit (.int .i64 d)), .obj 1000 0, .obj 1001 0]) [(1000, .cells [.imm x0]), (1001, .cells [.imm x1])] (.imm (.tup [(C t d).1.iv, .lit (.int .i64 (C t d).2)])) [(1000, .cells [.imm x0]), (1001, .cells [.imm x1])] ∧ ((C t d).2 = 0 → (C t d).1 ≠ .nil)) (t : Tree) :
    ∀ (d B : Int), okW t B = true → t.whole = true → 0 ≤ d → d + B ≤ 20000 → 0 ≤ B → t.size ≤ 1000000 → ACalls Try.prog 128 [.imm t.iv, .imm (.lit (.int .i64 d)), .func F [] [.obj 1000 0, .obj 1001 0]] [(1000, .cells [.imm x0]), (1001, .cells [.imm x1])] (.imm (.tup [(swalkP C t d).1.iv, .lit (.int .i64 (swalkP C t d).2)])) [(1000, .cells [.imm x0]), (1001, .cells [.imm x1])] ∧ ((swalkP C t d).2 = 0 → (swalkP C t d).1 ≠ .nil) := by
  induction t using Tree.ind with
  | h1 => intro d B _ h; simp [Tree.whole] at h
  | h2 k n a b kids ih =>
    intro d B hv hw hd hs hB0 hsz
    have hl := cA kids hw
    simp only [Tree.size] at hsz
    rw [okW] at hv
    by_cases k160 : k < 160
    · rw [if_pos k160] at hv
      obtain ⟨hc, hne⟩ := hC (.node k n a b kids) d (by simpa using hv) hd (by omega)
      rw [swalkP, if_pos k160]
      refine ⟨?_, hne⟩
      clear hne ih hC
      generalize C (.node k n a b kids) d = R at *
      obtain ⟨R1, R2⟩ := R
      dsimp only at hc ⊢
      refine cG [1000, 1001] Try.func128 rfl rfl (nb rfl) rfl rfl ?_
      repeat' (first | refine bG ?_ | (refine bJ ?_; first | refine aR tabOk rfl rfl rfl (nb rfl) rfl ?_ | refine aZ rfl rfl (nb rfl) ?_ | (refine bI rfl rfl rfl (nb rfl) rfl rfl rfl (fun hq => ?_) (fun hq => ?_) <;> (first | (simp only [sD, sE, sB, sC, sN, sM, sT, sF] at hq; try (exfalso; omega)) | skip))| refine cC rfl rfl (nb rfl) rfl rfl rfl rfl hc (by repeat' first | exact trivial | refine ⟨rfl, ?_⟩) rfl (by show ([1000, 1001] : List Nat).Nodup; decide) ?_ | refine aD rfl rfl rfl (nb rfl) rfl rfl (by omega) ?_ | refine bC rfl rfl rfl (nb rfl) rfl rfl rfl (by omega) (by omega) ?_ | refine bD rfl rfl rfl (nb rfl) rfl rfl rfl (by omega) (by omega) ?_ | refine bB tabOk rfl rfl rfl (nb rfl) rfl rfl rfl rfl rfl rfl rfl rfl rfl ?_ | refine aT tabOk rfl rfl (nb rfl) rfl ?_ | refine aN tabOk rfl rfl rfl (nb rfl) rfl rfl rfl rfl rfl rfl ?_ | refine aO tabOk rfl rfl rfl (nb rfl) rfl rfl rfl rfl ?_ | refine aK tabOk rfl rfl rfl rfl rfl rfl rfl rfl rfl rfl rfl ?_ | refine aP tabOk rfl rfl rfl (nb rfl) rfl rfl rfl rfl (by first | assumption | omega) ?_ | refine aH tabOk rfl rfl rfl (nb rfl) rfl rfl rfl rfl (by first | rfl | omega) (by first | omega | simp) ?_ | refine aB tabOk rfl rfl rfl (nb rfl) rfl rfl rfl (by assumption) ?_ | refine aB tabOk rfl rfl rfl (nb rfl) rfl rfl rfl (bM _ _ (by first | assumption | omega)) ?_ | refine aD rfl rfl rfl (nb rfl) rfl rfl (by omega) ?_ | ((fail_if_success (refine aE (b := true) rfl rfl rfl ?_)); (fail_if_success (refine aE (b := false) rfl rfl rfl ?_)); refine aQ rfl rfl rfl (fun hq => ?_) (fun hq => ?_) <;> first | subst hq | (first | (simp only [sD, sE, sB, sC, sN, sM, sT, sF] at hq; try (exfalso; omega)) | skip)) | fail) | (refine bQ ?_; first | refine bH ?_ | refine bN ?_ | refine aL ?_ | refine aX ?_ | refine bO ?_ | refine bF ?_ | refine bE ?_ | refine aA (b := true) rfl (fun _ => ?_) nTf | refine aA (b := false) rfl nFt (fun _ => ?_) | refine aY ?_ | refine aW ?_ | refine aU mixed (by kernel_rfl) ?_ | refine aC mixed (by kernel_rfl) ?_ | (refine aA rfl (fun hq => ?_) (fun hq => ?_) <;> first | subst hq | (first | (simp only [sD, sE, sB, sC, sN, sM, sT, sF] at hq; try (exfalso; omega)) | skip)) | fail) | (refine bK ?_; first | refine bT ?_ | refine aI ?_ | refine aM ?_ | fail) | (refine bA ?_; first | refine bP ?_ | refine aF ?_ | refine aG (by decide) ?_ | refine aJ ?_ | fail) | refine bL (aV (by kernel_rfl)) ?_ | fail)
      all_goals first
        | (exfalso; omega)
        | (refine cK (cF (by first | exact .inl rfl | exact .inr rfl) (bX rfl (aS rfl) (aS rfl)) rfl (by repeat' first | exact trivial | refine ⟨rfl, ?_⟩) rfl ?_); rfl)
    · rw [if_neg k160, Bool.and_eq_true, decide_eq_true_eq] at hv
      obtain ⟨⟨hb0, hb1⟩, hks⟩ := hv
      have cb := oY k n a b kids
      rw [swalkP, if_neg k160]
      generalize hdd : d + sbindsP k n = dd at *
      have hind : ∀ j (h : j < kids.length), ACalls Try.prog 128 [.imm kids[j].iv, .imm (.lit (.int .i64 dd)), .func F [] [.obj 1000 0, .obj 1001 0]] [(1000, .cells [.imm x0]), (1001, .cells [.imm x1])] (.imm (.tup [(swalkP C kids[j] dd).1.iv, .lit (.int .i64 (swalkP C kids[j] dd).2)])) [(1000, .cells [.imm x0]), (1001, .cells [.imm x1])] ∧ ((swalkP C kids[j] dd).2 = 0 → (swalkP C kids[j] dd).1 ≠ .nil) := fun j h => by
        have hm := List.getElem_mem h
        have hz := cP hm
        exact ih _ hm dd (B - sbindsP k n) (lQ hks _ hm) (bY hw hm) (by omega) (by omega) (by omega) (by omega)
      clear ih hks
      refine ⟨?_, fun h => by split at h; exact absurd h (by assumption); rename_i h0; rw [if_neg h0]; simp⟩
      generalize sbindsP k n = sb at *
      generalize hR : (if (swalkPs C kids dd).2 ≠ 0 then (Tree.nil, (swalkPs C kids dd).2) else (.node k n a b (swalkPs C kids dd).1, 0)) = R
      refine cG [1000, 1001] Try.func128 rfl rfl (nb rfl) rfl rfl ?_
      repeat' (first | refine bG ?_ | (refine bJ ?_; first | refine aR tabOk rfl rfl rfl (nb rfl) rfl ?_ | refine aZ rfl rfl (nb rfl) ?_ | (refine bI rfl rfl rfl (nb rfl) rfl rfl rfl (fun hq => ?_) (fun hq => ?_) <;> (first | (simp only [sD, sE, sB, sC, sN, sM, sT, sF] at hq; try (exfalso; omega)) | skip)) | refine aD rfl rfl rfl (nb rfl) rfl rfl (by omega) ?_ | refine bC rfl rfl rfl (nb rfl) rfl rfl rfl (by omega) (by omega) ?_ | refine bD rfl rfl rfl (nb rfl) rfl rfl rfl (by omega) (by omega) ?_ | refine bB tabOk rfl rfl rfl (nb rfl) rfl rfl rfl rfl rfl rfl rfl rfl rfl ?_ | refine aT tabOk rfl rfl (nb rfl) rfl ?_ | refine aN tabOk rfl rfl rfl (nb rfl) rfl rfl rfl rfl rfl rfl ?_ | refine aO tabOk rfl rfl rfl (nb rfl) rfl rfl rfl rfl ?_ | refine aK tabOk rfl rfl rfl rfl rfl rfl rfl rfl rfl rfl rfl ?_ | refine aP tabOk rfl rfl rfl (nb rfl) rfl rfl rfl rfl (by first | assumption | omega) ?_ | refine aH tabOk rfl rfl rfl (nb rfl) rfl rfl rfl rfl (by first | rfl | omega) (by first | omega | simp) ?_ | refine aB tabOk rfl rfl rfl (nb rfl) rfl rfl rfl (by assumption) ?_ | refine aB tabOk rfl rfl rfl (nb rfl) rfl rfl rfl (bM _ _ (by first | assumption | omega)) ?_ | refine aD rfl rfl rfl (nb rfl) rfl rfl (by omega) ?_ | ((fail_if_success (refine aE (b := true) rfl rfl rfl ?_)); (fail_if_success (refine aE (b := false) rfl rfl rfl ?_)); refine aQ rfl rfl rfl (fun hq => ?_) (fun hq => ?_) <;> first | subst hq | (first | (simp only [sD, sE, sB, sC, sN, sM, sT, sF] at hq; try (exfalso; omega)) | skip)) | fail) | (refine bQ ?_; first | refine bH ?_ | refine bN ?_ | refine aL ?_ | refine aX ?_ | refine bO ?_ | refine bF ?_ | refine bE ?_ | refine aA (b := true) rfl (fun _ => ?_) nTf | refine aA (b := false) rfl nFt (fun _ => ?_) | refine aY ?_ | refine aW ?_ | refine aU mixed (by kernel_rfl) ?_ | refine aC mixed (by kernel_rfl) ?_ | (refine aA rfl (fun hq => ?_) (fun hq => ?_) <;> first | subst hq | (first | (simp only [sD, sE, sB, sC, sN, sM, sT, sF] at hq; try (exfalso; omega)) | skip)) | fail) | (refine bK ?_; first | refine bT ?_ | refine aI ?_ | refine aM ?_ | fail) | (refine bA ?_; first | refine bP ?_ | refine aF ?_ | refine aG (by decide) ?_ | refine aJ ?_ | fail) | refine bL (aV (by kernel_rfl)) ?_ | fail)
      all_goals first
        | (exfalso; omega)
        | skip
      refine dQ (dW (h0 := 8) (k0 := 4) 500 25 1 rfl rfl (by simp) rfl rfl) ?_
      refine cJ (ι := {j : Nat // j ≤ kids.length ∧ (swalkPs C (kids.take j) dd).2 = 0}) (fun j => S.f ⟨[(33, .imm (.lit (.int .i64 (j.1 : Int)))), (32, .imm (.lit (.int .i64 (kids.length : Int)))), (31, .imm (.sl false kids.length (Tree.ivs kids))), (8, .obj 8 0), (0, .imm (Tree.iv (.node k n a b kids))), (1, .imm (.lit (.int .i64 d))), (2, .func F [] [.obj 1000 0, .obj 1001 0])], (500, .arr 25 1 j.1 (Tree.ivs (swalkPs C (kids.take j.1) dd).1)) :: (8, .cells [.imm (.lit (.int .i64 k)), .imm (.lit (.int .i64 n)), .imm (.lit (.string a)), .imm (.lit (.string b)), .ref 500 j.1]) :: [(1000, .cells [.imm x0]), (1001, .cells [.imm x1])]⟩) (fun j => kids.length - j.1) ⟨0, Nat.zero_le _, by rw [List.take_zero, swalkPs]⟩ (cB (by repeat' first | exact trivial | refine ⟨rfl, ?_⟩) (by repeat' first | exact trivial | refine ⟨rfl, ?_⟩)) ?_
      rintro ⟨j, hj, hok⟩
      dsimp only
      by_cases hlt : j < kids.length
      · have hget := bM kids j hlt
        obtain ⟨hc, hnn⟩ := hind j hlt
        have hll := eI C dd (kids.take j) hok
        rw [List.length_take, Nat.min_eq_left hj] at hll
        have hst := iY C dd hlt hok
        have htk := iZ C dd hlt hok
        clear hind hC
        have hil := dN (swalkPs C (kids.take j) dd).1
        rw [hll] at hil
        generalize swalkPs C (kids.take j) dd = Z at *
        obtain ⟨Z1, Z2⟩ := Z
        generalize swalkP C kids[j] dd = W at *
        obtain ⟨W1, W2⟩ := W
        dsimp only at *
        by_cases h0 : W2 = 0
        · subst h0
          have htk := htk rfl
          obtain ⟨pc, hpc⟩ := dU (hnn rfl)
          rw [hpc] at hc
          have hiv : Tree.ivs (swalkPs C (kids.take (j + 1)) dd).1 = Tree.ivs Z1 ++ [.ptr pc 0] := by
            rw [htk, cT, cT, List.map_append, ← hpc]; rfl
          have hok2 : (swalkPs C (kids.take (j + 1)) dd).2 = 0 := by rw [htk]
          generalize Tree.ivs Z1 = ZI at *
          repeat' (first | refine bG ?_ | (refine bJ ?_; first | refine aR tabOk rfl rfl rfl (nb rfl) rfl ?_ | refine aZ rfl rfl (nb rfl) ?_ | (refine bI rfl rfl rfl (nb rfl) rfl rfl rfl (fun hq => ?_) (fun hq => ?_) <;> (first | (simp only [sD, sE, sB, sC, sN, sM, sT, sF] at hq; try (exfalso; omega)) | skip))| refine aB tabOk rfl rfl rfl (nb rfl) rfl rfl rfl hget ?_ | refine bS rfl rfl (nb rfl) rfl rfl rfl rfl (cb) ?_ | refine bC (z := dd) rfl rfl rfl (nb rfl) rfl rfl hdd (by omega) (by omega) ?_ | refine cC rfl rfl (nb rfl) rfl rfl rfl rfl hc (by repeat' first | exact trivial | refine ⟨rfl, ?_⟩) rfl (by show ([1000, 1001] : List Nat).Nodup; decide) ?_ | refine cR tabOk rfl rfl rfl (nb rfl) rfl rfl rfl rfl rfl rfl rfl (by first | omega | decide) rfl (by first | omega | (dsimp only; omega)) (by first | omega | (dsimp only; omega)) ?_ | refine aD rfl rfl rfl (nb rfl) rfl rfl (by omega) ?_ | refine bC rfl rfl rfl (nb rfl) rfl rfl rfl (by omega) (by omega) ?_ | refine bD rfl rfl rfl (nb rfl) rfl rfl rfl (by omega) (by omega) ?_ | refine bB tabOk rfl rfl rfl (nb rfl) rfl rfl rfl rfl rfl rfl rfl rfl rfl ?_ | refine aT tabOk rfl rfl (nb rfl) rfl ?_ | refine aN tabOk rfl rfl rfl (nb rfl) rfl rfl rfl rfl rfl rfl ?_ | refine aO tabOk rfl rfl rfl (nb rfl) rfl rfl rfl rfl ?_ | refine aK tabOk rfl rfl rfl rfl rfl rfl rfl rfl rfl rfl rfl ?_ | refine aP tabOk rfl rfl rfl (nb rfl) rfl rfl rfl rfl (by first | assumption | omega) ?_ | refine aH tabOk rfl rfl rfl (nb rfl) rfl rfl rfl rfl (by first | rfl | omega) (by first | omega | simp) ?_ | refine aB tabOk rfl rfl rfl (nb rfl) rfl rfl rfl (by assumption) ?_ | refine aB tabOk rfl rfl rfl (nb rfl) rfl rfl rfl (bM _ _ (by first | assumption | omega)) ?_ | refine aD rfl rfl rfl (nb rfl) rfl rfl (by omega) ?_ | ((fail_if_success (refine aE (b := true) rfl rfl rfl ?_)); (fail_if_success (refine aE (b := false) rfl rfl rfl ?_)); refine aQ rfl rfl rfl (fun hq => ?_) (fun hq => ?_) <;> first | subst hq | (first | (simp only [sD, sE, sB, sC, sN, sM, sT, sF] at hq; try (exfalso; omega)) | skip)) | fail) | (refine bQ ?_; first | refine bH ?_ | refine bN ?_ | refine aL ?_ | refine aX ?_ | refine bO ?_ | refine bF ?_ | refine bE ?_ | refine aA (b := true) rfl (fun _ => ?_) nTf | refine aA (b := false) rfl nFt (fun _ => ?_) | refine aY ?_ | refine aW ?_ | refine aU mixed (by kernel_rfl) ?_ | refine aC mixed (by kernel_rfl) ?_ | (refine aA rfl (fun hq => ?_) (fun hq => ?_) <;> first | subst hq | (first | (simp only [sD, sE, sB, sC, sN, sM, sT, sF] at hq; try (exfalso; omega)) | skip)) | fail) | (refine bK ?_; first | refine bT ?_ | refine aI ?_ | refine aM ?_ | fail) | (refine bA ?_; first | refine bP ?_ | refine aF ?_ | refine aG (by decide) ?_ | refine aJ ?_ | fail) | refine bL (aV (by kernel_rfl)) ?_ | fail)
          all_goals first
            | exact absurd rfl (by assumption)
            | (exfalso; omega)
            | (refine ⟨⟨j + 1, hlt, hok2⟩, (by show kids.length - (j + 1) < kids.length - j; omega), ?_⟩; dsimp only; rw [hiv]; exact (cB (by repeat' first | exact trivial | refine ⟨rfl, ?_⟩) (by repeat' first | exact trivial | refine ⟨rfl, ?_⟩)))
        · have hs2 := hst h0
          rw [hs2, if_pos h0] at hR
          subst hR
          repeat' (first | refine bG ?_ | (refine bJ ?_; first | refine aR tabOk rfl rfl rfl (nb rfl) rfl ?_ | refine aZ rfl rfl (nb rfl) ?_ | (refine bI rfl rfl rfl (nb rfl) rfl rfl rfl (fun hq => ?_) (fun hq => ?_) <;> (first | (simp only [sD, sE, sB, sC, sN, sM, sT, sF] at hq; try (exfalso; omega)) | skip))| refine aB tabOk rfl rfl rfl (nb rfl) rfl rfl rfl hget ?_ | refine bS rfl rfl (nb rfl) rfl rfl rfl rfl (cb) ?_ | refine bC (z := dd) rfl rfl rfl (nb rfl) rfl rfl hdd (by omega) (by omega) ?_ | refine cC rfl rfl (nb rfl) rfl rfl rfl rfl hc (by repeat' first | exact trivial | refine ⟨rfl, ?_⟩) rfl (by show ([1000, 1001] : List Nat).Nodup; decide) ?_ | refine aD rfl rfl rfl (nb rfl) rfl rfl (by omega) ?_ | refine bC rfl rfl rfl (nb rfl) rfl rfl rfl (by omega) (by omega) ?_ | refine bD rfl rfl rfl (nb rfl) rfl rfl rfl (by omega) (by omega) ?_ | refine bB tabOk rfl rfl rfl (nb rfl) rfl rfl rfl rfl rfl rfl rfl rfl rfl ?_ | refine aT tabOk rfl rfl (nb rfl) rfl ?_ | refine aN tabOk rfl rfl rfl (nb rfl) rfl rfl rfl rfl rfl rfl ?_ | refine aO tabOk rfl rfl rfl (nb rfl) rfl rfl rfl rfl ?_ | refine aK tabOk rfl rfl rfl rfl rfl rfl rfl rfl rfl rfl rfl ?_ | refine aP tabOk rfl rfl rfl (nb rfl) rfl rfl rfl rfl (by first | assumption | omega) ?_ | refine aH tabOk rfl rfl rfl (nb rfl) rfl rfl rfl rfl (by first | rfl | omega) (by first | omega | simp) ?_ | refine aB tabOk rfl rfl rfl (nb rfl) rfl rfl rfl (by assumption) ?_ | refine aB tabOk rfl rfl rfl (nb rfl) rfl rfl rfl (bM _ _ (by first | assumption | omega)) ?_ | refine aD rfl rfl rfl (nb rfl) rfl rfl (by omega) ?_ | ((fail_if_success (refine aE (b := true) rfl rfl rfl ?_)); (fail_if_success (refine aE (b := false) rfl rfl rfl ?_)); refine aQ rfl rfl rfl (fun hq => ?_) (fun hq => ?_) <;> first | subst hq | (first | (simp only [sD, sE, sB, sC, sN, sM, sT, sF] at hq; try (exfalso; omega)) | skip)) | fail) | (refine bQ ?_; first | refine bH ?_ | refine bN ?_ | refine aL ?_ | refine aX ?_ | refine bO ?_ | refine bF ?_ | refine bE ?_ | refine aA (b := true) rfl (fun _ => ?_) nTf | refine aA (b := false) rfl nFt (fun _ => ?_) | refine aY ?_ | refine aW ?_ | refine aU mixed (by kernel_rfl) ?_ | refine aC mixed (by kernel_rfl) ?_ | (refine aA rfl (fun hq => ?_) (fun hq => ?_) <;> first | subst hq | (first | (simp only [sD, sE, sB, sC, sN, sM, sT, sF] at hq; try (exfalso; omega)) | skip)) | fail) | (refine bK ?_; first | refine bT ?_ | refine aI ?_ | refine aM ?_ | fail) | (refine bA ?_; first | refine bP ?_ | refine aF ?_ | refine aG (by decide) ?_ | refine aJ ?_ | fail) | refine bL (aV (by kernel_rfl)) ?_ | fail)
          all_goals first
            | exact absurd (by assumption) h0
            | (exfalso; omega)
            | (refine cK (cF (by first | exact .inl rfl | exact .inr rfl) (bX rfl (aS rfl) (aS rfl)) rfl (by repeat' first | exact trivial | refine ⟨rfl, ?_⟩) rfl ?_); rfl)
      · have ej : j = kids.length := by omega
        subst ej
        rw [List.take_length] at hok ⊢
        rw [if_neg (by simpa using hok)] at hR
        subst hR
        have hll := eI C dd kids hok
        clear hind hC
        generalize swalkPs C kids dd = Z at *
        obtain ⟨Z1, Z2⟩ := Z
        dsimp only at *
        have hiv : (Tree.node k n a b Z1).iv = .ptr [.lit (.int .i64 k), .lit (.int .i64 n), .lit (.string a), .lit (.string b), .sl false kids.length (Tree.ivs Z1)] 0 := by rw [Tree.iv, hll]
        rw [hiv]
        generalize Tree.ivs Z1 = ZI at *
        repeat' (first | refine bG ?_ | (refine bJ ?_; first | refine aR tabOk rfl rfl rfl (nb rfl) rfl ?_ | refine aZ rfl rfl (nb rfl) ?_ | (refine bI rfl rfl rfl (nb rfl) rfl rfl rfl (fun hq => ?_) (fun hq => ?_) <;> (first | (simp only [sD, sE, sB, sC, sN, sM, sT, sF] at hq; try (exfalso; omega)) | skip)) | refine aD rfl rfl rfl (nb rfl) rfl rfl (by omega) ?_ | refine bC rfl rfl rfl (nb rfl) rfl rfl rfl (by omega) (by omega) ?_ | refine bD rfl rfl rfl (nb rfl) rfl rfl rfl (by omega) (by omega) ?_ | refine bB tabOk rfl rfl rfl (nb rfl) rfl rfl rfl rfl rfl rfl rfl rfl rfl ?_ | refine aT tabOk rfl rfl (nb rfl) rfl ?_ | refine aN tabOk rfl rfl rfl (nb rfl) rfl rfl rfl rfl rfl rfl ?_ | refine aO tabOk rfl rfl rfl (nb rfl) rfl rfl rfl rfl ?_ | refine aK tabOk rfl rfl rfl rfl rfl rfl rfl rfl rfl rfl rfl ?_ | refine aP tabOk rfl rfl rfl (nb rfl) rfl rfl rfl rfl (by first | assumption | omega) ?_ | refine aH tabOk rfl rfl rfl (nb rfl) rfl rfl rfl rfl (by first | rfl | omega) (by first | omega | simp) ?_ | refine aB tabOk rfl rfl rfl (nb rfl) rfl rfl rfl (by assumption) ?_ | refine aB tabOk rfl rfl rfl (nb rfl) rfl rfl rfl (bM _ _ (by first | assumption | omega)) ?_ | refine aD rfl rfl rfl (nb rfl) rfl rfl (by omega) ?_ | ((fail_if_success (refine aE (b := true) rfl rfl rfl ?_)); (fail_if_success (refine aE (b := false) rfl rfl rfl ?_)); refine aQ rfl rfl rfl (fun hq => ?_) (fun hq => ?_) <;> first | subst hq | (first | (simp only [sD, sE, sB, sC, sN, sM, sT, sF] at hq; try (exfalso; omega)) | skip)) | fail) | (refine bQ ?_; first | refine bH ?_ | refine bN ?_ | refine aL ?_ | refine aX ?_ | refine bO ?_ | refine bF ?_ | refine bE ?_ | refine aA (b := true) rfl (fun _ => ?_) nTf | refine aA (b := false) rfl nFt (fun _ => ?_) | refine aY ?_ | refine aW ?_ | refine aU mixed (by kernel_rfl) ?_ | refine aC mixed (by kernel_rfl) ?_ | (refine aA rfl (fun hq => ?_) (fun hq => ?_) <;> first | subst hq | (first | (simp only [sD, sE, sB, sC, sN, sM, sT, sF] at hq; try (exfalso; omega)) | skip)) | fail) | (refine bK ?_; first | refine bT ?_ | refine aI ?_ | refine aM ?_ | fail) | (refine bA ?_; first | refine bP ?_ | refine aF ?_ | refine aG (by decide) ?_ | refine aJ ?_ | fail) | refine bL (aV (by kernel_rfl)) ?_ | fail)
        all_goals first
          | (exfalso; omega)
          | (refine fO ((Imp.of_le (σ' := S.f ⟨[(6, .obj 8 0), (7, .imm (.lit (.int .i64 0)))], (500, .arr 25 1 kids.length ZI) :: (8, .cells [.imm (.lit (.int .i64 k)), .imm (.lit (.int .i64 n)), .imm (.lit (.string a)), .imm (.lit (.string b)), .ref 500 kids.length]) :: [(1000, .cells [.imm x0]), (1001, .cells [.imm x1])]⟩) (cB (by repeat' first | exact trivial | refine ⟨rfl, ?_⟩) (by repeat' first | exact trivial | refine ⟨rfl, ?_⟩))).trans ((cZ (g := 500) rfl (by repeat' first | exact trivial | exact fun _ => rfl | refine ⟨?_, ?_⟩) (by repeat' first | exact trivial | exact fun _ => rfl | refine ⟨?_, ?_⟩)).trans (dJ (g := 8) rfl rfl))) ?_
             refine cF (by first | exact .inl rfl | exact .inr rfl) (bX rfl (aS rfl) (aS rfl)) rfl (by repeat' first | exact trivial | refine ⟨rfl, ?_⟩) rfl rfl)
end Go.Proofs.Ytlbemgokilhdnaa.Ab
namespace Go.Proofs.Ytlbemgokilhdnaa.Ab
set_option linter.unusedVariables false
set_option linter.unusedSimpArgs false
attribute [local irreducible] AWP AOps AExit AThen ABlock ANoGoto FeetOk
/-- What sem.Subst makes of a constructor. -/
def ssubC (i : Int) (by_ : Tree) (t : Tree) (d : Int) : Tree × Int :=
  if i > 65536 then (t, 0) else if (shiftP by_ d 0).2 ≠ 0 then (.nil, 3) else substP t (i + d) (shiftP by_ d 0).1
set_option maxHeartbeats 8000000 in
set_option maxRecDepth 10000 in
theorem vL (i : Int) (by_ : Tree) (pb : List IV) (hpb : by_.iv = .ptr pb 0) (hbs : by_.size ≤ 1000000) (t : Tree) (d : Int) (hi : 0 ≤ i) (ht : checkP isConP t = 0) (hd0 : 0 ≤ d) (hd : d ≤ 20000) :
    ACalls Try.prog 129 [.imm t.iv, .imm (.lit (.int .i64 d)), .obj 1000 0, .obj 1001 0] [(1000, .cells [.imm (.lit (.int .i64 i))]), (1001, .cells [.imm (.ptr pb 0)])] (.imm (.tup [(ssubC i by_ t d).1.iv, .lit (.int .i64 (ssubC i by_ t d).2)])) [(1000, .cells [.imm (.lit (.int .i64 i))]), (1001, .cells [.imm (.ptr pb 0)])] := by
  obtain ⟨hw, hz, hf⟩ := cD ht
  obtain ⟨Q, hQ⟩ : ∃ Q, ssubC i by_ t d = Q := ⟨_, rfl⟩
  rw [hQ]
  unfold ssubC at hQ
  by_cases h1 : i > 65536
  · rw [if_pos h1] at hQ
    subst hQ
    refine cG [1000, 1001] Try.func129 rfl rfl (nb rfl) rfl rfl ?_
    repeat' (first | refine bG ?_ | (refine bJ ?_; first | refine aR tabOk rfl rfl rfl (nb rfl) rfl ?_ | refine aZ rfl rfl (nb rfl) ?_ | (refine bI rfl rfl rfl (nb rfl) rfl rfl rfl (fun hq => ?_) (fun hq => ?_) <;> (first | (simp only [sD, sE, sB, sC, sN, sM, sT, sF] at hq; try (exfalso; omega)) | skip)) | refine aD rfl rfl rfl (nb rfl) rfl rfl (by omega) ?_ | refine bC rfl rfl rfl (nb rfl) rfl rfl rfl (by omega) (by omega) ?_ | refine bD rfl rfl rfl (nb rfl) rfl rfl rfl (by omega) (by omega) ?_ | refine bB tabOk rfl rfl rfl (nb rfl) rfl rfl rfl rfl rfl rfl rfl rfl rfl ?_ | refine aT tabOk rfl rfl (nb rfl) rfl ?_ | refine aN tabOk rfl rfl rfl (nb rfl) rfl rfl rfl rfl rfl rfl ?_ | refine aO tabOk rfl rfl rfl (nb rfl) rfl rfl rfl rfl ?_ | refine aK tabOk rfl rfl rfl rfl rfl rfl rfl rfl rfl rfl rfl ?_ | refine aP tabOk rfl rfl rfl (nb rfl) rfl rfl rfl rfl (by first | assumption | omega) ?_ | refine aH tabOk rfl rfl rfl (nb rfl) rfl rfl rfl rfl (by first | rfl | omega) (by first | omega | simp) ?_ | refine aB tabOk rfl rfl rfl (nb rfl) rfl rfl rfl (by assumption) ?_ | refine aB tabOk rfl rfl rfl (nb rfl) rfl rfl rfl (bM _ _ (by first | assumption | omega)) ?_ | refine aD rfl rfl rfl (nb rfl) rfl rfl (by omega) ?_ | ((fail_if_success (refine aE (b := true) rfl rfl rfl ?_)); (fail_if_success (refine aE (b := false) rfl rfl rfl ?_)); refine aQ rfl rfl rfl (fun hq => ?_) (fun hq => ?_) <;> first | subst hq | (first | (simp only [sD, sE, sB, sC, sN, sM, sT, sF] at hq; try (exfalso; omega)) | skip)) | fail) | (refine bQ ?_; first | refine bH ?_ | refine bN ?_ | refine aL ?_ | refine aX ?_ | refine bO ?_ | refine bF ?_ | refine bE ?_ | refine aA (b := true) rfl (fun _ => ?_) nTf | refine aA (b := false) rfl nFt (fun _ => ?_) | refine aY ?_ | refine aW ?_ | refine aU mixed (by kernel_rfl) ?_ | refine aC mixed (by kernel_rfl) ?_ | (refine aA rfl (fun hq => ?_) (fun hq => ?_) <;> first | subst hq | (first | (simp only [sD, sE, sB, sC, sN, sM, sT, sF] at hq; try (exfalso; omega)) | skip)) | fail) | (refine bK ?_; first | refine bT ?_ | refine aI ?_ | refine aM ?_ | fail) | (refine bA ?_; first | refine bP ?_ | refine aF ?_ | refine aG (by decide) ?_ | refine aJ ?_ | fail) | refine bL (aV (by kernel_rfl)) ?_ | fail)
    all_goals first
      | (exfalso; omega)
      | (refine cK (cF (by first | exact .inl rfl | exact .inr rfl) (bX rfl (aS rfl) (aS rfl)) rfl (by repeat' first | exact trivial | refine ⟨rfl, ?_⟩) rfl ?_); rfl)
  · rw [if_neg h1] at hQ
    have c1 := nR by_ d 0 hbs
    rw [hpb] at c1
    have hfn := gM by_ d 0
    by_cases h2 : (shiftP by_ d 0).2 = 0
    · rw [if_neg (by simpa using h2)] at hQ
      rw [h2] at c1
      obtain ⟨g1, g2, _⟩ := hfn h2
      have c2 := vH t (i + d) (shiftP by_ d 0).1 (by omega) (by omega)
      rw [hQ] at c2
      clear hQ hfn h2 hpb g1 g2
      generalize (shiftP by_ d 0).1 = Z at *
      obtain ⟨Q1, Q2⟩ := Q
      dsimp only at *
      refine cG [1000, 1001] Try.func129 rfl rfl (nb rfl) rfl rfl ?_
      repeat' (first | refine bG ?_ | (refine bJ ?_; first | refine aR tabOk rfl rfl rfl (nb rfl) rfl ?_ | refine aZ rfl rfl (nb rfl) ?_ | (refine bI rfl rfl rfl (nb rfl) rfl rfl rfl (fun hq => ?_) (fun hq => ?_) <;> (first | (simp only [sD, sE, sB, sC, sN, sM, sT, sF] at hq; try (exfalso; omega)) | skip))| refine bS rfl rfl (nb rfl) rfl rfl rfl rfl (c1) ?_ | refine bS rfl rfl (nb rfl) rfl rfl rfl rfl (c2) ?_ | refine bC (z := i + d) rfl rfl rfl (nb rfl) rfl rfl rfl (by omega) (by omega) ?_ | refine aD rfl rfl rfl (nb rfl) rfl rfl (by omega) ?_ | refine bC rfl rfl rfl (nb rfl) rfl rfl rfl (by omega) (by omega) ?_ | refine bD rfl rfl rfl (nb rfl) rfl rfl rfl (by omega) (by omega) ?_ | refine bB tabOk rfl rfl rfl (nb rfl) rfl rfl rfl rfl rfl rfl rfl rfl rfl ?_ | refine aT tabOk rfl rfl (nb rfl) rfl ?_ | refine aN tabOk rfl rfl rfl (nb rfl) rfl rfl rfl rfl rfl rfl ?_ | refine aO tabOk rfl rfl rfl (nb rfl) rfl rfl rfl rfl ?_ | refine aK tabOk rfl rfl rfl rfl rfl rfl rfl rfl rfl rfl rfl ?_ | refine aP tabOk rfl rfl rfl (nb rfl) rfl rfl rfl rfl (by first | assumption | omega) ?_ | refine aH tabOk rfl rfl rfl (nb rfl) rfl rfl rfl rfl (by first | rfl | omega) (by first | omega | simp) ?_ | refine aB tabOk rfl rfl rfl (nb rfl) rfl rfl rfl (by assumption) ?_ | refine aB tabOk rfl rfl rfl (nb rfl) rfl rfl rfl (bM _ _ (by first | assumption | omega)) ?_ | refine aD rfl rfl rfl (nb rfl) rfl rfl (by omega) ?_ | ((fail_if_success (refine aE (b := true) rfl rfl rfl ?_)); (fail_if_success (refine aE (b := false) rfl rfl rfl ?_)); refine aQ rfl rfl rfl (fun hq => ?_) (fun hq => ?_) <;> first | subst hq | (first | (simp only [sD, sE, sB, sC, sN, sM, sT, sF] at hq; try (exfalso; omega)) | skip)) | fail) | (refine bQ ?_; first | refine bH ?_ | refine bN ?_ | refine aL ?_ | refine aX ?_ | refine bO ?_ | refine bF ?_ | refine bE ?_ | refine aA (b := true) rfl (fun _ => ?_) nTf | refine aA (b := false) rfl nFt (fun _ => ?_) | refine aY ?_ | refine aW ?_ | refine aU mixed (by kernel_rfl) ?_ | refine aC mixed (by kernel_rfl) ?_ | (refine aA rfl (fun hq => ?_) (fun hq => ?_) <;> first | subst hq | (first | (simp only [sD, sE, sB, sC, sN, sM, sT, sF] at hq; try (exfalso; omega)) | skip)) | fail) | (refine bK ?_; first | refine bT ?_ | refine aI ?_ | refine aM ?_ | fail) | (refine bA ?_; first | refine bP ?_ | refine aF ?_ | refine aG (by decide) ?_ | refine aJ ?_ | fail) | refine bL (aV (by kernel_rfl)) ?_ | fail)
      all_goals first
        | exact absurd rfl (by assumption)
        | (exfalso; omega)
        | (refine cK (cF (by first | exact .inl rfl | exact .inr rfl) (bX rfl (aS rfl) (aS rfl)) rfl (by repeat' first | exact trivial | refine ⟨rfl, ?_⟩) rfl ?_); rfl)
    · rw [if_pos h2] at hQ
      subst hQ
      clear hfn hpb
      generalize (shiftP by_ d 0).1 = Z at *
      generalize (shiftP by_ d 0).2 = Z2 at *
      refine cG [1000, 1001] Try.func129 rfl rfl (nb rfl) rfl rfl ?_
      repeat' (first | refine bG ?_ | (refine bJ ?_; first | refine aR tabOk rfl rfl rfl (nb rfl) rfl ?_ | refine aZ rfl rfl (nb rfl) ?_ | (refine bI rfl rfl rfl (nb rfl) rfl rfl rfl (fun hq => ?_) (fun hq => ?_) <;> (first | (simp only [sD, sE, sB, sC, sN, sM, sT, sF] at hq; try (exfalso; omega)) | skip))| refine bS rfl rfl (nb rfl) rfl rfl rfl rfl (c1) ?_ | refine aD rfl rfl rfl (nb rfl) rfl rfl (by omega) ?_ | refine bC rfl rfl rfl (nb rfl) rfl rfl rfl (by omega) (by omega) ?_ | refine bD rfl rfl rfl (nb rfl) rfl rfl rfl (by omega) (by omega) ?_ | refine bB tabOk rfl rfl rfl (nb rfl) rfl rfl rfl rfl rfl rfl rfl rfl rfl ?_ | refine aT tabOk rfl rfl (nb rfl) rfl ?_ | refine aN tabOk rfl rfl rfl (nb rfl) rfl rfl rfl rfl rfl rfl ?_ | refine aO tabOk rfl rfl rfl (nb rfl) rfl rfl rfl rfl ?_ | refine aK tabOk rfl rfl rfl rfl rfl rfl rfl rfl rfl rfl rfl ?_ | refine aP tabOk rfl rfl rfl (nb rfl) rfl rfl rfl rfl (by first | assumption | omega) ?_ | refine aH tabOk rfl rfl rfl (nb rfl) rfl rfl rfl rfl (by first | rfl | omega) (by first | omega | simp) ?_ | refine aB tabOk rfl rfl rfl (nb rfl) rfl rfl rfl (by assumption) ?_ | refine aB tabOk rfl rfl rfl (nb rfl) rfl rfl rfl (bM _ _ (by first | assumption | omega)) ?_ | refine aD rfl rfl rfl (nb rfl) rfl rfl (by omega) ?_ | ((fail_if_success (refine aE (b := true) rfl rfl rfl ?_)); (fail_if_success (refine aE (b := false) rfl rfl rfl ?_)); refine aQ rfl rfl rfl (fun hq => ?_) (fun hq => ?_) <;> first | subst hq | (first | (simp only [sD, sE, sB, sC, sN, sM, sT, sF] at hq; try (exfalso; omega)) | skip)) | fail) | (refine bQ ?_; first | refine bH ?_ | refine bN ?_ | refine aL ?_ | refine aX ?_ | refine bO ?_ | refine bF ?_ | refine bE ?_ | refine aA (b := true) rfl (fun _ => ?_) nTf | refine aA (b := false) rfl nFt (fun _ => ?_) | refine aY ?_ | refine aW ?_ | refine aU mixed (by kernel_rfl) ?_ | refine aC mixed (by kernel_rfl) ?_ | (refine aA rfl (fun hq => ?_) (fun hq => ?_) <;> first | subst hq | (first | (simp only [sD, sE, sB, sC, sN, sM, sT, sF] at hq; try (exfalso; omega)) | skip)) | fail) | (refine bK ?_; first | refine bT ?_ | refine aI ?_ | refine aM ?_ | fail) | (refine bA ?_; first | refine bP ?_ | refine aF ?_ | refine aG (by decide) ?_ | refine aJ ?_ | fail) | refine bL (aV (by kernel_rfl)) ?_ | fail)
      all_goals first
        | exact absurd (by assumption) h2
        | (exfalso; omega)
        | (refine cK (cF (by first | exact .inl rfl | exact .inr rfl) (bX rfl (aS rfl) (aS rfl)) rfl (by repeat' first | exact trivial | refine ⟨rfl, ?_⟩) rfl ?_); rfl)
theorem uB (i : Int) (by_ : Tree) (t : Tree) (d : Int) (ht : checkP isConP t = 0) (h : (ssubC i by_ t d).2 = 0) : (ssubC i by_ t d).1 ≠ .nil := by
  unfold ssubC at h ⊢
  split
  · exact dF (cD ht).1
  · rename_i h1
    rw [if_neg h1] at h
    split
    · rename_i h2; rw [if_pos h2] at h; cases h
    · rename_i h2
      rw [if_neg h2] at h
      exact dF (oT _ _ _ h).1
/-- What sized tells. -/
def sizedP (t : Tree) (e : Int) : Tree × Int := if e ≠ 0 then (.nil, e) else if (wholeP t 65536).1 ≠ 0 then (.nil, (wholeP t 65536).1) else (t, 0)
set_option maxHeartbeats 4000000 in
set_option maxRecDepth 10000 in
theorem vM (t : Tree) (e : Int) (hs : t.size ≤ 1000000) : ACalls Try.prog 127 [.imm t.iv, .imm (.lit (.int .i64 e))] [] (.imm (.tup [(sizedP t e).1.iv, .lit (.int .i64 (sizedP t e).2)])) [] := by
  have c1 := lM t 65536 hs (by omega) (by omega)
  unfold sizedP
  generalize wholeP t 65536 = W at *
  obtain ⟨W1, W2⟩ := W
  dsimp only at *
  by_cases h0 : e = 0
  · subst h0
    rw [if_neg (by simp)]
    by_cases h1 : W1 = 0
    · subst h1
      rw [if_neg (by simp)]
      refine bR Try.func127 rfl rfl (nb rfl) rfl ?_
      repeat' (first | refine bG ?_ | (refine bJ ?_; first | refine aR tabOk rfl rfl rfl (nb rfl) rfl ?_ | refine aZ rfl rfl (nb rfl) ?_ | (refine bI rfl rfl rfl (nb rfl) rfl rfl rfl (fun hq => ?_) (fun hq => ?_) <;> (first | (simp only [sD, sE, sB, sC, sN, sM, sT, sF] at hq; try (exfalso; omega)) | skip))| refine cN 1000 tabOk rfl rfl rfl (nb rfl) rfl rfl rfl rfl rfl rfl ?_ | refine cC rfl rfl (nb rfl) rfl rfl rfl rfl (c1) (by exact ⟨rfl, trivial⟩) rfl (by simp) ?_ | refine aD rfl rfl rfl (nb rfl) rfl rfl (by omega) ?_ | refine bC rfl rfl rfl (nb rfl) rfl rfl rfl (by omega) (by omega) ?_ | refine bD rfl rfl rfl (nb rfl) rfl rfl rfl (by omega) (by omega) ?_ | refine bB tabOk rfl rfl rfl (nb rfl) rfl rfl rfl rfl rfl rfl rfl rfl rfl ?_ | refine aT tabOk rfl rfl (nb rfl) rfl ?_ | refine aN tabOk rfl rfl rfl (nb rfl) rfl rfl rfl rfl rfl rfl ?_ | refine aO tabOk rfl rfl rfl (nb rfl) rfl rfl rfl rfl ?_ | refine aK tabOk rfl rfl rfl rfl rfl rfl rfl rfl rfl rfl rfl ?_ | refine aP tabOk rfl rfl rfl (nb rfl) rfl rfl rfl rfl (by first | assumption | omega) ?_ | refine aH tabOk rfl rfl rfl (nb rfl) rfl rfl rfl rfl (by first | rfl | omega) (by first | omega | simp) ?_ | refine aB tabOk rfl rfl rfl (nb rfl) rfl rfl rfl (by assumption) ?_ | refine aB tabOk rfl rfl rfl (nb rfl) rfl rfl rfl (bM _ _ (by first | assumption | omega)) ?_ | refine aD rfl rfl rfl (nb rfl) rfl rfl (by omega) ?_ | ((fail_if_success (refine aE (b := true) rfl rfl rfl ?_)); (fail_if_success (refine aE (b := false) rfl rfl rfl ?_)); refine aQ rfl rfl rfl (fun hq => ?_) (fun hq => ?_) <;> first | subst hq | (first | (simp only [sD, sE, sB, sC, sN, sM, sT, sF] at hq; try (exfalso; omega)) | skip)) | fail) | (refine bQ ?_; first | refine bH ?_ | refine bN ?_ | refine aL ?_ | refine aX ?_ | refine bO ?_ | refine bF ?_ | refine bE ?_ | refine aA (b := true) rfl (fun _ => ?_) nTf | refine aA (b := false) rfl nFt (fun _ => ?_) | refine aY ?_ | refine aW ?_ | refine aU mixed (by kernel_rfl) ?_ | refine aC mixed (by kernel_rfl) ?_ | (refine aA rfl (fun hq => ?_) (fun hq => ?_) <;> first | subst hq | (first | (simp only [sD, sE, sB, sC, sN, sM, sT, sF] at hq; try (exfalso; omega)) | skip)) | fail) | (refine bK ?_; first | refine bT ?_ | refine aI ?_ | refine aM ?_ | fail) | (refine bA ?_; first | refine bP ?_ | refine aF ?_ | refine aG (by decide) ?_ | refine aJ ?_ | fail) | refine bL (aV (by kernel_rfl)) ?_ | fail)
      all_goals first
        | exact absurd rfl (by assumption)
        | (refine bV (by first | exact .inl rfl | exact .inr rfl) (bX rfl (aS rfl) (aS rfl)) rfl ?_; rfl)
    · rw [if_pos h1]
      refine bR Try.func127 rfl rfl (nb rfl) rfl ?_
      repeat' (first | refine bG ?_ | (refine bJ ?_; first | refine aR tabOk rfl rfl rfl (nb rfl) rfl ?_ | refine aZ rfl rfl (nb rfl) ?_ | (refine bI rfl rfl rfl (nb rfl) rfl rfl rfl (fun hq => ?_) (fun hq => ?_) <;> (first | (simp only [sD, sE, sB, sC, sN, sM, sT, sF] at hq; try (exfalso; omega)) | skip))| refine cN 1000 tabOk rfl rfl rfl (nb rfl) rfl rfl rfl rfl rfl rfl ?_ | refine cC rfl rfl (nb rfl) rfl rfl rfl rfl (c1) (by exact ⟨rfl, trivial⟩) rfl (by simp) ?_ | refine aD rfl rfl rfl (nb rfl) rfl rfl (by omega) ?_ | refine bC rfl rfl rfl (nb rfl) rfl rfl rfl (by omega) (by omega) ?_ | refine bD rfl rfl rfl (nb rfl) rfl rfl rfl (by omega) (by omega) ?_ | refine bB tabOk rfl rfl rfl (nb rfl) rfl rfl rfl rfl rfl rfl rfl rfl rfl ?_ | refine aT tabOk rfl rfl (nb rfl) rfl ?_ | refine aN tabOk rfl rfl rfl (nb rfl) rfl rfl rfl rfl rfl rfl ?_ | refine aO tabOk rfl rfl rfl (nb rfl) rfl rfl rfl rfl ?_ | refine aK tabOk rfl rfl rfl rfl rfl rfl rfl rfl rfl rfl rfl ?_ | refine aP tabOk rfl rfl rfl (nb rfl) rfl rfl rfl rfl (by first | assumption | omega) ?_ | refine aH tabOk rfl rfl rfl (nb rfl) rfl rfl rfl rfl (by first | rfl | omega) (by first | omega | simp) ?_ | refine aB tabOk rfl rfl rfl (nb rfl) rfl rfl rfl (by assumption) ?_ | refine aB tabOk rfl rfl rfl (nb rfl) rfl rfl rfl (bM _ _ (by first | assumption | omega)) ?_ | refine aD rfl rfl rfl (nb rfl) rfl rfl (by omega) ?_ | ((fail_if_success (refine aE (b := true) rfl rfl rfl ?_)); (fail_if_success (refine aE (b := false) rfl rfl rfl ?_)); refine aQ rfl rfl rfl (fun hq => ?_) (fun hq => ?_) <;> first | subst hq | (first | (simp only [sD, sE, sB, sC, sN, sM, sT, sF] at hq; try (exfalso; omega)) | skip)) | fail) | (refine bQ ?_; first | refine bH ?_ | refine bN ?_ | refine aL ?_ | refine aX ?_ | refine bO ?_ | refine bF ?_ | refine bE ?_ | refine aA (b := true) rfl (fun _ => ?_) nTf | refine aA (b := false) rfl nFt (fun _ => ?_) | refine aY ?_ | refine aW ?_ | refine aU mixed (by kernel_rfl) ?_ | refine aC mixed (by kernel_rfl) ?_ | (refine aA rfl (fun hq => ?_) (fun hq => ?_) <;> first | subst hq | (first | (simp only [sD, sE, sB, sC, sN, sM, sT, sF] at hq; try (exfalso; omega)) | skip)) | fail) | (refine bK ?_; first | refine bT ?_ | refine aI ?_ | refine aM ?_ | fail) | (refine bA ?_; first | refine bP ?_ | refine aF ?_ | refine aG (by decide) ?_ | refine aJ ?_ | fail) | refine bL (aV (by kernel_rfl)) ?_ | fail)
      all_goals first
        | exact absurd (by assumption) h1
        | exact absurd rfl (by assumption)
        | (refine bV (by first | exact .inl rfl | exact .inr rfl) (bX rfl (aS rfl) (aS rfl)) rfl ?_; rfl)
  · rw [if_pos h0]
    refine bR Try.func127 rfl rfl (nb rfl) rfl ?_
    repeat' (first | refine bG ?_ | (refine bJ ?_; first | refine aR tabOk rfl rfl rfl (nb rfl) rfl ?_ | refine aZ rfl rfl (nb rfl) ?_ | (refine bI rfl rfl rfl (nb rfl) rfl rfl rfl (fun hq => ?_) (fun hq => ?_) <;> (first | (simp only [sD, sE, sB, sC, sN, sM, sT, sF] at hq; try (exfalso; omega)) | skip))| refine cN 1000 tabOk rfl rfl rfl (nb rfl) rfl rfl rfl rfl rfl rfl ?_ | refine aD rfl rfl rfl (nb rfl) rfl rfl (by omega) ?_ | refine bC rfl rfl rfl (nb rfl) rfl rfl rfl (by omega) (by omega) ?_ | refine bD rfl rfl rfl (nb rfl) rfl rfl rfl (by omega) (by omega) ?_ | refine bB tabOk rfl rfl rfl (nb rfl) rfl rfl rfl rfl rfl rfl rfl rfl rfl ?_ | refine aT tabOk rfl rfl (nb rfl) rfl ?_ | refine aN tabOk rfl rfl rfl (nb rfl) rfl rfl rfl rfl rfl rfl ?_ | refine aO tabOk rfl rfl rfl (nb rfl) rfl rfl rfl rfl ?_ | refine aK tabOk rfl rfl rfl rfl rfl rfl rfl rfl rfl rfl rfl ?_ | refine aP tabOk rfl rfl rfl (nb rfl) rfl rfl rfl rfl (by first | assumption | omega) ?_ | refine aH tabOk rfl rfl rfl (nb rfl) rfl rfl rfl rfl (by first | rfl | omega) (by first | omega | simp) ?_ | refine aB tabOk rfl rfl rfl (nb rfl) rfl rfl rfl (by assumption) ?_ | refine aB tabOk rfl rfl rfl (nb rfl) rfl rfl rfl (bM _ _ (by first | assumption | omega)) ?_ | refine aD rfl rfl rfl (nb rfl) rfl rfl (by omega) ?_ | ((fail_if_success (refine aE (b := true) rfl rfl rfl ?_)); (fail_if_success (refine aE (b := false) rfl rfl rfl ?_)); refine aQ rfl rfl rfl (fun hq => ?_) (fun hq => ?_) <;> first | subst hq | (first | (simp only [sD, sE, sB, sC, sN, sM, sT, sF] at hq; try (exfalso; omega)) | skip)) | fail) | (refine bQ ?_; first | refine bH ?_ | refine bN ?_ | refine aL ?_ | refine aX ?_ | refine bO ?_ | refine bF ?_ | refine bE ?_ | refine aA (b := true) rfl (fun _ => ?_) nTf | refine aA (b := false) rfl nFt (fun _ => ?_) | refine aY ?_ | refine aW ?_ | refine aU mixed (by kernel_rfl) ?_ | refine aC mixed (by kernel_rfl) ?_ | (refine aA rfl (fun hq => ?_) (fun hq => ?_) <;> first | subst hq | (first | (simp only [sD, sE, sB, sC, sN, sM, sT, sF] at hq; try (exfalso; omega)) | skip)) | fail) | (refine bK ?_; first | refine bT ?_ | refine aI ?_ | refine aM ?_ | fail) | (refine bA ?_; first | refine bP ?_ | refine aF ?_ | refine aG (by decide) ?_ | refine aJ ?_ | fail) | refine bL (aV (by kernel_rfl)) ?_ | fail)
    all_goals first
      | exact absurd (by assumption) h0
      | (refine bV (by first | exact .inl rfl | exact .inr rfl) (bX rfl (aS rfl) (aS rfl)) rfl ?_; rfl)
/-- What sem.Subst tells. -/
def ssubstP (t : Tree) (i : Int) (by_ : Tree) : Tree × Int :=
  if checkP sformP t ≠ 0 then (.nil, checkP sformP t)
  else if checkP isConP by_ ≠ 0 then (.nil, checkP isConP by_)
  else if i < 0 then (.nil, 2)
  else sizedP (swalkP (ssubC i by_) t 0).1 (swalkP (ssubC i by_) t 0).2
set_option maxHeartbeats 16000000 in
set_option maxRecDepth 10000 in
theorem uC (t : Tree) (i : Int) (by_ : Tree) (hs : t.size ≤ 1000000) (hbs : by_.size ≤ 1000000) (hrs : (swalkP (ssubC i by_) t 0).1.size ≤ 1000000) :
    ACalls Try.prog 106 [.imm t.iv, .imm (.lit (.int .i64 i)), .imm by_.iv] [] (.imm (.tup [(ssubstP t i by_).1.iv, .lit (.int .i64 (ssubstP t i by_).2)])) [] := by
  have c1 := dO t hs
  have c2 := dV by_ hbs
  obtain ⟨Q, hQ⟩ : ∃ Q, ssubstP t i by_ = Q := ⟨_, rfl⟩
  rw [hQ]
  unfold ssubstP at hQ
  by_cases hc : checkP sformP t = 0
  · rw [if_neg (by simpa using hc)] at hQ
    rw [hc] at c1
    by_cases hb : checkP isConP by_ = 0
    · rw [if_neg (by simpa using hb)] at hQ
      rw [hb] at c2
      obtain ⟨bw, bz, _⟩ := cD hb
      obtain ⟨pb, hpb⟩ := dU (dF bw)
      by_cases hi : i < 0
      · rw [if_pos hi] at hQ
        subst hQ
        rw [hpb] at c2 ⊢
        refine bR Try.func106 rfl rfl (nb rfl) rfl ?_
        repeat' (first | refine bG ?_ | (refine bJ ?_; first | refine aR tabOk rfl rfl rfl (nb rfl) rfl ?_ | refine aZ rfl rfl (nb rfl) ?_ | (refine bI rfl rfl rfl (nb rfl) rfl rfl rfl (fun hq => ?_) (fun hq => ?_) <;> (first | (simp only [sD, sE, sB, sC, sN, sM, sT, sF] at hq; try (exfalso; omega)) | skip))| refine bS rfl rfl (nb rfl) rfl rfl rfl rfl (c1) ?_ | refine bS rfl rfl (nb rfl) rfl rfl rfl rfl (c2) ?_ | refine cM 1000 (d := 4) rfl rfl rfl (nb rfl) rfl rfl rfl rfl rfl rfl rfl ?_ | refine cM 1001 (d := 5) rfl rfl rfl (nb rfl) rfl rfl rfl rfl rfl rfl rfl ?_ | refine aD rfl rfl rfl (nb rfl) rfl rfl (by omega) ?_ | refine bC rfl rfl rfl (nb rfl) rfl rfl rfl (by omega) (by omega) ?_ | refine bD rfl rfl rfl (nb rfl) rfl rfl rfl (by omega) (by omega) ?_ | refine bB tabOk rfl rfl rfl (nb rfl) rfl rfl rfl rfl rfl rfl rfl rfl rfl ?_ | refine aT tabOk rfl rfl (nb rfl) rfl ?_ | refine aN tabOk rfl rfl rfl (nb rfl) rfl rfl rfl rfl rfl rfl ?_ | refine aO tabOk rfl rfl rfl (nb rfl) rfl rfl rfl rfl ?_ | refine aK tabOk rfl rfl rfl rfl rfl rfl rfl rfl rfl rfl rfl ?_ | refine aP tabOk rfl rfl rfl (nb rfl) rfl rfl rfl rfl (by first | assumption | omega) ?_ | refine aH tabOk rfl rfl rfl (nb rfl) rfl rfl rfl rfl (by first | rfl | omega) (by first | omega | simp) ?_ | refine aB tabOk rfl rfl rfl (nb rfl) rfl rfl rfl (by assumption) ?_ | refine aB tabOk rfl rfl rfl (nb rfl) rfl rfl rfl (bM _ _ (by first | assumption | omega)) ?_ | refine aD rfl rfl rfl (nb rfl) rfl rfl (by omega) ?_ | ((fail_if_success (refine aE (b := true) rfl rfl rfl ?_)); (fail_if_success (refine aE (b := false) rfl rfl rfl ?_)); refine aQ rfl rfl rfl (fun hq => ?_) (fun hq => ?_) <;> first | subst hq | (first | (simp only [sD, sE, sB, sC, sN, sM, sT, sF] at hq; try (exfalso; omega)) | skip)) | fail) | (refine bQ ?_; first | refine bH ?_ | refine bN ?_ | refine aL ?_ | refine aX ?_ | refine bO ?_ | refine bF ?_ | refine bE ?_ | refine aA (b := true) rfl (fun _ => ?_) nTf | refine aA (b := false) rfl nFt (fun _ => ?_) | refine aY ?_ | refine aW ?_ | refine aU mixed (by kernel_rfl) ?_ | refine aC mixed (by kernel_rfl) ?_ | (refine aA rfl (fun hq => ?_) (fun hq => ?_) <;> first | subst hq | (first | (simp only [sD, sE, sB, sC, sN, sM, sT, sF] at hq; try (exfalso; omega)) | skip)) | fail) | (refine bK ?_; first | refine bT ?_ | refine aI ?_ | refine aM ?_ | fail) | (refine bA ?_; first | refine bP ?_ | refine aF ?_ | refine aG (by decide) ?_ | refine aJ ?_ | fail) | refine bL (aV (by kernel_rfl)) ?_ | fail)
        all_goals first
          | exact absurd rfl (by assumption)
          | (exfalso; omega)
          | (refine bV (by first | exact .inl rfl | exact .inr rfl) (bX rfl (aS rfl) (aS rfl)) rfl ?_; rfl)
      · rw [if_neg hi] at hQ
        obtain ⟨hw, hz, hf⟩ := cD hc
        have cw := (uA (ssubC i by_) 129 (.lit (.int .i64 i)) (.ptr pb 0) (fun t' d h1 h2 h3 => ⟨vL i by_ pb hpb hbs t' d (by omega) h1 h2 h3, uB i by_ t' d h1⟩) t 0 16384 (oZ hf) hw (Int.le_refl _) (by omega) (by omega) hs).1
        have c3 := vM (swalkP (ssubC i by_) t 0).1 (swalkP (ssubC i by_) t 0).2 hrs
        rw [hQ] at c3
        rw [hpb] at c2 ⊢
        clear hc hb hw hf hQ bw hrs
        generalize swalkP (ssubC i by_) t 0 = W at *
        obtain ⟨W1, W2⟩ := W
        obtain ⟨Q1, Q2⟩ := Q
        dsimp only at *
        refine bR Try.func106 rfl rfl (nb rfl) rfl ?_
        repeat' (first | refine bG ?_ | (refine bJ ?_; first | refine aR tabOk rfl rfl rfl (nb rfl) rfl ?_ | refine aZ rfl rfl (nb rfl) ?_ | (refine bI rfl rfl rfl (nb rfl) rfl rfl rfl (fun hq => ?_) (fun hq => ?_) <;> (first | (simp only [sD, sE, sB, sC, sN, sM, sT, sF] at hq; try (exfalso; omega)) | skip))| refine bS rfl rfl (nb rfl) rfl rfl rfl rfl (c1) ?_ | refine bS rfl rfl (nb rfl) rfl rfl rfl rfl (c2) ?_ | refine bS rfl rfl (nb rfl) rfl rfl rfl rfl (c3) ?_ | refine cM 1000 (d := 4) rfl rfl rfl (nb rfl) rfl rfl rfl rfl rfl rfl rfl ?_ | refine cM 1001 (d := 5) rfl rfl rfl (nb rfl) rfl rfl rfl rfl rfl rfl rfl ?_ | refine cC rfl rfl (nb rfl) rfl rfl rfl rfl cw (by repeat' first | exact trivial | refine ⟨rfl, ?_⟩) rfl (by show ([1000, 1001] : List Nat).Nodup; decide) ?_ | refine aD rfl rfl rfl (nb rfl) rfl rfl (by omega) ?_ | refine bC rfl rfl rfl (nb rfl) rfl rfl rfl (by omega) (by omega) ?_ | refine bD rfl rfl rfl (nb rfl) rfl rfl rfl (by omega) (by omega) ?_ | refine bB tabOk rfl rfl rfl (nb rfl) rfl rfl rfl rfl rfl rfl rfl rfl rfl ?_ | refine aT tabOk rfl rfl (nb rfl) rfl ?_ | refine aN tabOk rfl rfl rfl (nb rfl) rfl rfl rfl rfl rfl rfl ?_ | refine aO tabOk rfl rfl rfl (nb rfl) rfl rfl rfl rfl ?_ | refine aK tabOk rfl rfl rfl rfl rfl rfl rfl rfl rfl rfl rfl ?_ | refine aP tabOk rfl rfl rfl (nb rfl) rfl rfl rfl rfl (by first | assumption | omega) ?_ | refine aH tabOk rfl rfl rfl (nb rfl) rfl rfl rfl rfl (by first | rfl | omega) (by first | omega | simp) ?_ | refine aB tabOk rfl rfl rfl (nb rfl) rfl rfl rfl (by assumption) ?_ | refine aB tabOk rfl rfl rfl (nb rfl) rfl rfl rfl (bM _ _ (by first | assumption | omega)) ?_ | refine aD rfl rfl rfl (nb rfl) rfl rfl (by omega) ?_ | ((fail_if_success (refine aE (b := true) rfl rfl rfl ?_)); (fail_if_success (refine aE (b := false) rfl rfl rfl ?_)); refine aQ rfl rfl rfl (fun hq => ?_) (fun hq => ?_) <;> first | subst hq | (first | (simp only [sD, sE, sB, sC, sN, sM, sT, sF] at hq; try (exfalso; omega)) | skip)) | fail) | (refine bQ ?_; first | refine bH ?_ | refine bN ?_ | refine aL ?_ | refine aX ?_ | refine bO ?_ | refine bF ?_ | refine bE ?_ | refine aA (b := true) rfl (fun _ => ?_) nTf | refine aA (b := false) rfl nFt (fun _ => ?_) | refine aY ?_ | refine aW ?_ | refine aU mixed (by kernel_rfl) ?_ | refine aC mixed (by kernel_rfl) ?_ | (refine aA rfl (fun hq => ?_) (fun hq => ?_) <;> first | subst hq | (first | (simp only [sD, sE, sB, sC, sN, sM, sT, sF] at hq; try (exfalso; omega)) | skip)) | fail) | (refine bK ?_; first | refine bT ?_ | refine aI ?_ | refine aM ?_ | fail) | (refine bA ?_; first | refine bP ?_ | refine aF ?_ | refine aG (by decide) ?_ | refine aJ ?_ | fail) | refine bL (aV (by kernel_rfl)) ?_ | fail)
        all_goals first
          | exact absurd rfl (by assumption)
          | (exfalso; omega)
          | (refine bV (by first | exact .inl rfl | exact .inr rfl) (bX rfl (aS rfl) (aS rfl)) rfl ?_; rfl)
    · rw [if_pos hb] at hQ
      subst hQ
      generalize checkP isConP by_ = C at *
      obtain ⟨y, hy, hy1⟩ : ∃ y, by_.iv = y ∧ (y = .lit (.pointer none) ∨ ∃ p, y = .ptr p 0) := by
        cases by_ with
        | nil => exact ⟨_, rfl, .inl rfl⟩
        | node k n a b ks => exact ⟨_, rfl, .inr ⟨_, by rw [Tree.iv]⟩⟩
      rw [hy] at c2 ⊢
      clear hrs
      rcases hy1 with rfl | ⟨p, rfl⟩ <;>
      (refine bR Try.func106 rfl rfl (nb rfl) rfl ?_
       repeat' (first | refine bG ?_ | (refine bJ ?_; first | refine aR tabOk rfl rfl rfl (nb rfl) rfl ?_ | refine aZ rfl rfl (nb rfl) ?_ | (refine bI rfl rfl rfl (nb rfl) rfl rfl rfl (fun hq => ?_) (fun hq => ?_) <;> (first | (simp only [sD, sE, sB, sC, sN, sM, sT, sF] at hq; try (exfalso; omega)) | skip))| refine bS rfl rfl (nb rfl) rfl rfl rfl rfl (c1) ?_ | refine bS rfl rfl (nb rfl) rfl rfl rfl rfl (c2) ?_ | refine cM 1000 (d := 4) rfl rfl rfl (nb rfl) rfl rfl rfl rfl rfl rfl rfl ?_ | refine cM 1001 (d := 5) rfl rfl rfl (nb rfl) rfl rfl rfl rfl rfl rfl rfl ?_ | refine aD rfl rfl rfl (nb rfl) rfl rfl (by omega) ?_ | refine bC rfl rfl rfl (nb rfl) rfl rfl rfl (by omega) (by omega) ?_ | refine bD rfl rfl rfl (nb rfl) rfl rfl rfl (by omega) (by omega) ?_ | refine bB tabOk rfl rfl rfl (nb rfl) rfl rfl rfl rfl rfl rfl rfl rfl rfl ?_ | refine aT tabOk rfl rfl (nb rfl) rfl ?_ | refine aN tabOk rfl rfl rfl (nb rfl) rfl rfl rfl rfl rfl rfl ?_ | refine aO tabOk rfl rfl rfl (nb rfl) rfl rfl rfl rfl ?_ | refine aK tabOk rfl rfl rfl rfl rfl rfl rfl rfl rfl rfl rfl ?_ | refine aP tabOk rfl rfl rfl (nb rfl) rfl rfl rfl rfl (by first | assumption | omega) ?_ | refine aH tabOk rfl rfl rfl (nb rfl) rfl rfl rfl rfl (by first | rfl | omega) (by first | omega | simp) ?_ | refine aB tabOk rfl rfl rfl (nb rfl) rfl rfl rfl (by assumption) ?_ | refine aB tabOk rfl rfl rfl (nb rfl) rfl rfl rfl (bM _ _ (by first | assumption | omega)) ?_ | refine aD rfl rfl rfl (nb rfl) rfl rfl (by omega) ?_ | ((fail_if_success (refine aE (b := true) rfl rfl rfl ?_)); (fail_if_success (refine aE (b := false) rfl rfl rfl ?_)); refine aQ rfl rfl rfl (fun hq => ?_) (fun hq => ?_) <;> first | subst hq | (first | (simp only [sD, sE, sB, sC, sN, sM, sT, sF] at hq; try (exfalso; omega)) | skip)) | fail) | (refine bQ ?_; first | refine bH ?_ | refine bN ?_ | refine aL ?_ | refine aX ?_ | refine bO ?_ | refine bF ?_ | refine bE ?_ | refine aA (b := true) rfl (fun _ => ?_) nTf | refine aA (b := false) rfl nFt (fun _ => ?_) | refine aY ?_ | refine aW ?_ | refine aU mixed (by kernel_rfl) ?_ | refine aC mixed (by kernel_rfl) ?_ | (refine aA rfl (fun hq => ?_) (fun hq => ?_) <;> first | subst hq | (first | (simp only [sD, sE, sB, sC, sN, sM, sT, sF] at hq; try (exfalso; omega)) | skip)) | fail) | (refine bK ?_; first | refine bT ?_ | refine aI ?_ | refine aM ?_ | fail) | (refine bA ?_; first | refine bP ?_ | refine aF ?_ | refine aG (by decide) ?_ | refine aJ ?_ | fail) | refine bL (aV (by kernel_rfl)) ?_ | fail)
       all_goals first
         | exact absurd rfl (by assumption)
         | exact absurd (by assumption) hb
         | (exfalso; omega)
         | (refine bV (by first | exact .inl rfl | exact .inr rfl) (bX rfl (aS rfl) (aS rfl)) rfl ?_; rfl))
  · rw [if_pos hc] at hQ
    subst hQ
    generalize checkP sformP t = C at *
    obtain ⟨y, hy, hy1⟩ : ∃ y, by_.iv = y ∧ (y = .lit (.pointer none) ∨ ∃ p, y = .ptr p 0) := by
      cases by_ with
      | nil => exact ⟨_, rfl, .inl rfl⟩
      | node k n a b ks => exact ⟨_, rfl, .inr ⟨_, by rw [Tree.iv]⟩⟩
    rw [hy]
    clear hrs
    rcases hy1 with rfl | ⟨p, rfl⟩ <;>
    (refine bR Try.func106 rfl rfl (nb rfl) rfl ?_
     repeat' (first | refine bG ?_ | (refine bJ ?_; first | refine aR tabOk rfl rfl rfl (nb rfl) rfl ?_ | refine aZ rfl rfl (nb rfl) ?_ | (refine bI rfl rfl rfl (nb rfl) rfl rfl rfl (fun hq => ?_) (fun hq => ?_) <;> (first | (simp only [sD, sE, sB, sC, sN, sM, sT, sF] at hq; try (exfalso; omega)) | skip))| refine bS rfl rfl (nb rfl) rfl rfl rfl rfl (c1) ?_ | refine cM 1000 (d := 4) rfl rfl rfl (nb rfl) rfl rfl rfl rfl rfl rfl rfl ?_ | refine cM 1001 (d := 5) rfl rfl rfl (nb rfl) rfl rfl rfl rfl rfl rfl rfl ?_ | refine aD rfl rfl rfl (nb rfl) rfl rfl (by omega) ?_ | refine bC rfl rfl rfl (nb rfl) rfl rfl rfl (by omega) (by omega) ?_ | refine bD rfl rfl rfl (nb rfl) rfl rfl rfl (by omega) (by omega) ?_ | refine bB tabOk rfl rfl rfl (nb rfl) rfl rfl rfl rfl rfl rfl rfl rfl rfl ?_ | refine aT tabOk rfl rfl (nb rfl) rfl ?_ | refine aN tabOk rfl rfl rfl (nb rfl) rfl rfl rfl rfl rfl rfl ?_ | refine aO tabOk rfl rfl rfl (nb rfl) rfl rfl rfl rfl ?_ | refine aK tabOk rfl rfl rfl rfl rfl rfl rfl rfl rfl rfl rfl ?_ | refine aP tabOk rfl rfl rfl (nb rfl) rfl rfl rfl rfl (by first | assumption | omega) ?_ | refine aH tabOk rfl rfl rfl (nb rfl) rfl rfl rfl rfl (by first | rfl | omega) (by first | omega | simp) ?_ | refine aB tabOk rfl rfl rfl (nb rfl) rfl rfl rfl (by assumption) ?_ | refine aB tabOk rfl rfl rfl (nb rfl) rfl rfl rfl (bM _ _ (by first | assumption | omega)) ?_ | refine aD rfl rfl rfl (nb rfl) rfl rfl (by omega) ?_ | ((fail_if_success (refine aE (b := true) rfl rfl rfl ?_)); (fail_if_success (refine aE (b := false) rfl rfl rfl ?_)); refine aQ rfl rfl rfl (fun hq => ?_) (fun hq => ?_) <;> first | subst hq | (first | (simp only [sD, sE, sB, sC, sN, sM, sT, sF] at hq; try (exfalso; omega)) | skip)) | fail) | (refine bQ ?_; first | refine bH ?_ | refine bN ?_ | refine aL ?_ | refine aX ?_ | refine bO ?_ | refine bF ?_ | refine bE ?_ | refine aA (b := true) rfl (fun _ => ?_) nTf | refine aA (b := false) rfl nFt (fun _ => ?_) | refine aY ?_ | refine aW ?_ | refine aU mixed (by kernel_rfl) ?_ | refine aC mixed (by kernel_rfl) ?_ | (refine aA rfl (fun hq => ?_) (fun hq => ?_) <;> first | subst hq | (first | (simp only [sD, sE, sB, sC, sN, sM, sT, sF] at hq; try (exfalso; omega)) | skip)) | fail) | (refine bK ?_; first | refine bT ?_ | refine aI ?_ | refine aM ?_ | fail) | (refine bA ?_; first | refine bP ?_ | refine aF ?_ | refine aG (by decide) ?_ | refine aJ ?_ | fail) | refine bL (aV (by kernel_rfl)) ?_ | fail)
     all_goals first
       | exact absurd rfl (by assumption)
       | exact absurd (by assumption) hc
       | (exfalso; omega)
       | (refine bV (by first | exact .inl rfl | exact .inr rfl) (bX rfl (aS rfl) (aS rfl)) rfl ?_; rfl))
/-- Are a signature's types small? -/
def smallC (t : Tree) (_ : Int) : Tree × Int := if (t.size : Int) > 512 then (.nil, 3) else (t, 0)
def ssmallP (t : Tree) : Int := if checkP sformP t ≠ 0 then checkP sformP t else (swalkP smallC t 0).2
set_option maxHeartbeats 4000000 in
set_option maxRecDepth 10000 in
theorem uD (t : Tree) (d : Int) (ht : checkP isConP t = 0) : ACalls Try.prog 130 [.imm t.iv, .imm (.lit (.int .i64 d))] [] (.imm (.tup [(smallC t d).1.iv, .lit (.int .i64 (smallC t d).2)])) [] := by
  obtain ⟨hw, hz, hf⟩ := cD ht
  have c1 := qH t (by omega) (.inr hw)
  unfold smallC
  by_cases h : (t.size : Int) > 512
  · rw [if_pos h]
    refine bR Try.func130 rfl rfl (nb rfl) rfl ?_
    repeat' (first | refine bG ?_ | (refine bJ ?_; first | refine aR tabOk rfl rfl rfl (nb rfl) rfl ?_ | refine aZ rfl rfl (nb rfl) ?_ | (refine bI rfl rfl rfl (nb rfl) rfl rfl rfl (fun hq => ?_) (fun hq => ?_) <;> (first | (simp only [sD, sE, sB, sC, sN, sM, sT, sF] at hq; try (exfalso; omega)) | skip))| refine bS rfl rfl (nb rfl) rfl rfl rfl rfl (c1) ?_ | refine aD rfl rfl rfl (nb rfl) rfl rfl (by omega) ?_ | refine bC rfl rfl rfl (nb rfl) rfl rfl rfl (by omega) (by omega) ?_ | refine bD rfl rfl rfl (nb rfl) rfl rfl rfl (by omega) (by omega) ?_ | refine bB tabOk rfl rfl rfl (nb rfl) rfl rfl rfl rfl rfl rfl rfl rfl rfl ?_ | refine aT tabOk rfl rfl (nb rfl) rfl ?_ | refine aN tabOk rfl rfl rfl (nb rfl) rfl rfl rfl rfl rfl rfl ?_ | refine aO tabOk rfl rfl rfl (nb rfl) rfl rfl rfl rfl ?_ | refine aK tabOk rfl rfl rfl rfl rfl rfl rfl rfl rfl rfl rfl ?_ | refine aP tabOk rfl rfl rfl (nb rfl) rfl rfl rfl rfl (by first | assumption | omega) ?_ | refine aH tabOk rfl rfl rfl (nb rfl) rfl rfl rfl rfl (by first | rfl | omega) (by first | omega | simp) ?_ | refine aB tabOk rfl rfl rfl (nb rfl) rfl rfl rfl (by assumption) ?_ | refine aB tabOk rfl rfl rfl (nb rfl) rfl rfl rfl (bM _ _ (by first | assumption | omega)) ?_ | refine aD rfl rfl rfl (nb rfl) rfl rfl (by omega) ?_ | ((fail_if_success (refine aE (b := true) rfl rfl rfl ?_)); (fail_if_success (refine aE (b := false) rfl rfl rfl ?_)); refine aQ rfl rfl rfl (fun hq => ?_) (fun hq => ?_) <;> first | subst hq | (first | (simp only [sD, sE, sB, sC, sN, sM, sT, sF] at hq; try (exfalso; omega)) | skip)) | fail) | (refine bQ ?_; first | refine bH ?_ | refine bN ?_ | refine aL ?_ | refine aX ?_ | refine bO ?_ | refine bF ?_ | refine bE ?_ | refine aA (b := true) rfl (fun _ => ?_) nTf | refine aA (b := false) rfl nFt (fun _ => ?_) | refine aY ?_ | refine aW ?_ | refine aU mixed (by kernel_rfl) ?_ | refine aC mixed (by kernel_rfl) ?_ | (refine aA rfl (fun hq => ?_) (fun hq => ?_) <;> first | subst hq | (first | (simp only [sD, sE, sB, sC, sN, sM, sT, sF] at hq; try (exfalso; omega)) | skip)) | fail) | (refine bK ?_; first | refine bT ?_ | refine aI ?_ | refine aM ?_ | fail) | (refine bA ?_; first | refine bP ?_ | refine aF ?_ | refine aG (by decide) ?_ | refine aJ ?_ | fail) | refine bL (aV (by kernel_rfl)) ?_ | fail)
    all_goals first
      | (exfalso; omega)
      | (refine bV (by first | exact .inl rfl | exact .inr rfl) (bX rfl (aS rfl) (aS rfl)) rfl ?_; rfl)
  · rw [if_neg h]
    refine bR Try.func130 rfl rfl (nb rfl) rfl ?_
    repeat' (first | refine bG ?_ | (refine bJ ?_; first | refine aR tabOk rfl rfl rfl (nb rfl) rfl ?_ | refine aZ rfl rfl (nb rfl) ?_ | (refine bI rfl rfl rfl (nb rfl) rfl rfl rfl (fun hq => ?_) (fun hq => ?_) <;> (first | (simp only [sD, sE, sB, sC, sN, sM, sT, sF] at hq; try (exfalso; omega)) | skip))| refine bS rfl rfl (nb rfl) rfl rfl rfl rfl (c1) ?_ | refine aD rfl rfl rfl (nb rfl) rfl rfl (by omega) ?_ | refine bC rfl rfl rfl (nb rfl) rfl rfl rfl (by omega) (by omega) ?_ | refine bD rfl rfl rfl (nb rfl) rfl rfl rfl (by omega) (by omega) ?_ | refine bB tabOk rfl rfl rfl (nb rfl) rfl rfl rfl rfl rfl rfl rfl rfl rfl ?_ | refine aT tabOk rfl rfl (nb rfl) rfl ?_ | refine aN tabOk rfl rfl rfl (nb rfl) rfl rfl rfl rfl rfl rfl ?_ | refine aO tabOk rfl rfl rfl (nb rfl) rfl rfl rfl rfl ?_ | refine aK tabOk rfl rfl rfl rfl rfl rfl rfl rfl rfl rfl rfl ?_ | refine aP tabOk rfl rfl rfl (nb rfl) rfl rfl rfl rfl (by first | assumption | omega) ?_ | refine aH tabOk rfl rfl rfl (nb rfl) rfl rfl rfl rfl (by first | rfl | omega) (by first | omega | simp) ?_ | refine aB tabOk rfl rfl rfl (nb rfl) rfl rfl rfl (by assumption) ?_ | refine aB tabOk rfl rfl rfl (nb rfl) rfl rfl rfl (bM _ _ (by first | assumption | omega)) ?_ | refine aD rfl rfl rfl (nb rfl) rfl rfl (by omega) ?_ | ((fail_if_success (refine aE (b := true) rfl rfl rfl ?_)); (fail_if_success (refine aE (b := false) rfl rfl rfl ?_)); refine aQ rfl rfl rfl (fun hq => ?_) (fun hq => ?_) <;> first | subst hq | (first | (simp only [sD, sE, sB, sC, sN, sM, sT, sF] at hq; try (exfalso; omega)) | skip)) | fail) | (refine bQ ?_; first | refine bH ?_ | refine bN ?_ | refine aL ?_ | refine aX ?_ | refine bO ?_ | refine bF ?_ | refine bE ?_ | refine aA (b := true) rfl (fun _ => ?_) nTf | refine aA (b := false) rfl nFt (fun _ => ?_) | refine aY ?_ | refine aW ?_ | refine aU mixed (by kernel_rfl) ?_ | refine aC mixed (by kernel_rfl) ?_ | (refine aA rfl (fun hq => ?_) (fun hq => ?_) <;> first | subst hq | (first | (simp only [sD, sE, sB, sC, sN, sM, sT, sF] at hq; try (exfalso; omega)) | skip)) | fail) | (refine bK ?_; first | refine bT ?_ | refine aI ?_ | refine aM ?_ | fail) | (refine bA ?_; first | refine bP ?_ | refine aF ?_ | refine aG (by decide) ?_ | refine aJ ?_ | fail) | refine bL (aV (by kernel_rfl)) ?_ | fail)
    all_goals first
      | (exfalso; omega)
      | (refine bV (by first | exact .inl rfl | exact .inr rfl) (bX rfl (aS rfl) (aS rfl)) rfl ?_; rfl)
set_option maxHeartbeats 8000000 in
set_option maxRecDepth 10000 in
theorem vN (t : Tree) (hs : t.size ≤ 1000000) : ACalls Try.prog 107 [.imm t.iv] [] (.imm (.lit (.int .i64 (ssmallP t)))) [] := by
  have c1 := dO t hs
  unfold ssmallP
  by_cases hc : checkP sformP t = 0
  · rw [if_neg (by simpa using hc)]
    rw [hc] at c1
    obtain ⟨hw, hz, hf⟩ := cD hc
    have cw := (tZ smallC 130 (fun t' d h1 _ _ => ⟨uD t' d h1, fun h => by unfold smallC at h ⊢; split at h; cases h; rename_i h2; rw [if_neg h2]; exact dF (cD h1).1⟩) t 0 16384 (oZ hf) hw (Int.le_refl _) (by omega) (by omega) hs).1
    generalize swalkP smallC t 0 = W at *
    obtain ⟨W1, W2⟩ := W
    dsimp only at *
    refine bR Try.func107 rfl rfl (nb rfl) rfl ?_
    repeat' (first | refine bG ?_ | (refine bJ ?_; first | refine aR tabOk rfl rfl rfl (nb rfl) rfl ?_ | refine aZ rfl rfl (nb rfl) ?_ | (refine bI rfl rfl rfl (nb rfl) rfl rfl rfl (fun hq => ?_) (fun hq => ?_) <;> (first | (simp only [sD, sE, sB, sC, sN, sM, sT, sF] at hq; try (exfalso; omega)) | skip))| refine bS rfl rfl (nb rfl) rfl rfl rfl rfl (c1) ?_ | refine bS rfl rfl (nb rfl) rfl rfl rfl rfl (cw) ?_ | refine aD rfl rfl rfl (nb rfl) rfl rfl (by omega) ?_ | refine bC rfl rfl rfl (nb rfl) rfl rfl rfl (by omega) (by omega) ?_ | refine bD rfl rfl rfl (nb rfl) rfl rfl rfl (by omega) (by omega) ?_ | refine bB tabOk rfl rfl rfl (nb rfl) rfl rfl rfl rfl rfl rfl rfl rfl rfl ?_ | refine aT tabOk rfl rfl (nb rfl) rfl ?_ | refine aN tabOk rfl rfl rfl (nb rfl) rfl rfl rfl rfl rfl rfl ?_ | refine aO tabOk rfl rfl rfl (nb rfl) rfl rfl rfl rfl ?_ | refine aK tabOk rfl rfl rfl rfl rfl rfl rfl rfl rfl rfl rfl ?_ | refine aP tabOk rfl rfl rfl (nb rfl) rfl rfl rfl rfl (by first | assumption | omega) ?_ | refine aH tabOk rfl rfl rfl (nb rfl) rfl rfl rfl rfl (by first | rfl | omega) (by first | omega | simp) ?_ | refine aB tabOk rfl rfl rfl (nb rfl) rfl rfl rfl (by assumption) ?_ | refine aB tabOk rfl rfl rfl (nb rfl) rfl rfl rfl (bM _ _ (by first | assumption | omega)) ?_ | refine aD rfl rfl rfl (nb rfl) rfl rfl (by omega) ?_ | ((fail_if_success (refine aE (b := true) rfl rfl rfl ?_)); (fail_if_success (refine aE (b := false) rfl rfl rfl ?_)); refine aQ rfl rfl rfl (fun hq => ?_) (fun hq => ?_) <;> first | subst hq | (first | (simp only [sD, sE, sB, sC, sN, sM, sT, sF] at hq; try (exfalso; omega)) | skip)) | fail) | (refine bQ ?_; first | refine bH ?_ | refine bN ?_ | refine aL ?_ | refine aX ?_ | refine bO ?_ | refine bF ?_ | refine bE ?_ | refine aA (b := true) rfl (fun _ => ?_) nTf | refine aA (b := false) rfl nFt (fun _ => ?_) | refine aY ?_ | refine aW ?_ | refine aU mixed (by kernel_rfl) ?_ | refine aC mixed (by kernel_rfl) ?_ | (refine aA rfl (fun hq => ?_) (fun hq => ?_) <;> first | subst hq | (first | (simp only [sD, sE, sB, sC, sN, sM, sT, sF] at hq; try (exfalso; omega)) | skip)) | fail) | (refine bK ?_; first | refine bT ?_ | refine aI ?_ | refine aM ?_ | fail) | (refine bA ?_; first | refine bP ?_ | refine aF ?_ | refine aG (by decide) ?_ | refine aJ ?_ | fail) | refine bL (aV (by kernel_rfl)) ?_ | fail)
    all_goals first
      | exact absurd rfl (by assumption)
      | (refine bV (by first | exact .inl rfl | exact .inr rfl) (bU rfl (aS rfl)) rfl ?_; rfl)
  · rw [if_pos hc]
    generalize checkP sformP t = C at *
    refine bR Try.func107 rfl rfl (nb rfl) rfl ?_
    repeat' (first | refine bG ?_ | (refine bJ ?_; first | refine aR tabOk rfl rfl rfl (nb rfl) rfl ?_ | refine aZ rfl rfl (nb rfl) ?_ | (refine bI rfl rfl rfl (nb rfl) rfl rfl rfl (fun hq => ?_) (fun hq => ?_) <;> (first | (simp only [sD, sE, sB, sC, sN, sM, sT, sF] at hq; try (exfalso; omega)) | skip))| refine bS rfl rfl (nb rfl) rfl rfl rfl rfl (c1) ?_ | refine aD rfl rfl rfl (nb rfl) rfl rfl (by omega) ?_ | refine bC rfl rfl rfl (nb rfl) rfl rfl rfl (by omega) (by omega) ?_ | refine bD rfl rfl rfl (nb rfl) rfl rfl rfl (by omega) (by omega) ?_ | refine bB tabOk rfl rfl rfl (nb rfl) rfl rfl rfl rfl rfl rfl rfl rfl rfl ?_ | refine aT tabOk rfl rfl (nb rfl) rfl ?_ | refine aN tabOk rfl rfl rfl (nb rfl) rfl rfl rfl rfl rfl rfl ?_ | refine aO tabOk rfl rfl rfl (nb rfl) rfl rfl rfl rfl ?_ | refine aK tabOk rfl rfl rfl rfl rfl rfl rfl rfl rfl rfl rfl ?_ | refine aP tabOk rfl rfl rfl (nb rfl) rfl rfl rfl rfl (by first | assumption | omega) ?_ | refine aH tabOk rfl rfl rfl (nb rfl) rfl rfl rfl rfl (by first | rfl | omega) (by first | omega | simp) ?_ | refine aB tabOk rfl rfl rfl (nb rfl) rfl rfl rfl (by assumption) ?_ | refine aB tabOk rfl rfl rfl (nb rfl) rfl rfl rfl (bM _ _ (by first | assumption | omega)) ?_ | refine aD rfl rfl rfl (nb rfl) rfl rfl (by omega) ?_ | ((fail_if_success (refine aE (b := true) rfl rfl rfl ?_)); (fail_if_success (refine aE (b := false) rfl rfl rfl ?_)); refine aQ rfl rfl rfl (fun hq => ?_) (fun hq => ?_) <;> first | subst hq | (first | (simp only [sD, sE, sB, sC, sN, sM, sT, sF] at hq; try (exfalso; omega)) | skip)) | fail) | (refine bQ ?_; first | refine bH ?_ | refine bN ?_ | refine aL ?_ | refine aX ?_ | refine bO ?_ | refine bF ?_ | refine bE ?_ | refine aA (b := true) rfl (fun _ => ?_) nTf | refine aA (b := false) rfl nFt (fun _ => ?_) | refine aY ?_ | refine aW ?_ | refine aU mixed (by kernel_rfl) ?_ | refine aC mixed (by kernel_rfl) ?_ | (refine aA rfl (fun hq => ?_) (fun hq => ?_) <;> first | subst hq | (first | (simp only [sD, sE, sB, sC, sN, sM, sT, sF] at hq; try (exfalso; omega)) | skip)) | fail) | (refine bK ?_; first | refine bT ?_ | refine aI ?_ | refine aM ?_ | fail) | (refine bA ?_; first | refine bP ?_ | refine aF ?_ | refine aG (by decide) ?_ | refine aJ ?_ | fail) | refine bL (aV (by kernel_rfl)) ?_ | fail)
    all_goals first
      | exact absurd (by assumption) hc
      | (refine bV (by first | exact .inl rfl | exact .inr rfl) (bU rfl (aS rfl)) rfl ?_; rfl)
end Go.Proofs.Ytlbemgokilhdnaa.Ab
namespace Go.Proofs.Ytlbemgokilhdnaa.Ab
set_option linter.unusedVariables false
set_option linter.unusedSimpArgs false
open Go.RowKit
attribute [local irreducible] AWP AOps AExit AThen ABlock ANoGoto FeetOk
set_option maxHeartbeats 4000000 in
set_option maxRecDepth 10000 in
theorem lR (k n : Int) (a b : ByteArray) (kids : List Tree) (nm : Bool) : ACalls Try.prog 119 [.imm (Tree.iv (.node k n a b kids)), .imm (.lit (.bool nm))] [] (.imm (.lit (.bool (bareP n a b nm false)))) [] := by
  cases nm <;>
  (refine bR Try.func119 rfl rfl (nb rfl) rfl ?_
   repeat' (first | refine bG ?_ | (refine bJ ?_; first | refine aR tabOk rfl rfl rfl (nb rfl) rfl ?_ | refine aZ rfl rfl (nb rfl) ?_ | (refine bI rfl rfl rfl (nb rfl) rfl rfl rfl (fun hq => ?_) (fun hq => ?_) <;> (first | (simp only [sD, sE, sB, sC, sN, sM, sT, sF] at hq; try (exfalso; omega)) | skip)) | refine aD rfl rfl rfl (nb rfl) rfl rfl (by omega) ?_ | refine bC rfl rfl rfl (nb rfl) rfl rfl rfl (by omega) (by omega) ?_ | refine bD rfl rfl rfl (nb rfl) rfl rfl rfl (by omega) (by omega) ?_ | refine bB tabOk rfl rfl rfl (nb rfl) rfl rfl rfl rfl rfl rfl rfl rfl rfl ?_ | refine aT tabOk rfl rfl (nb rfl) rfl ?_ | refine aN tabOk rfl rfl rfl (nb rfl) rfl rfl rfl rfl rfl rfl ?_ | refine aO tabOk rfl rfl rfl (nb rfl) rfl rfl rfl rfl ?_ | refine aK tabOk rfl rfl rfl rfl rfl rfl rfl rfl rfl rfl rfl ?_ | refine aP tabOk rfl rfl rfl (nb rfl) rfl rfl rfl rfl (by first | assumption | omega) ?_ | refine aH tabOk rfl rfl rfl (nb rfl) rfl rfl rfl rfl (by first | rfl | omega) (by first | omega | simp) ?_ | refine aB tabOk rfl rfl rfl (nb rfl) rfl rfl rfl (by assumption) ?_ | refine aB tabOk rfl rfl rfl (nb rfl) rfl rfl rfl (bM _ _ (by first | assumption | omega)) ?_ | refine aD rfl rfl rfl (nb rfl) rfl rfl (by omega) ?_ | ((fail_if_success (refine aE (b := true) rfl rfl rfl ?_)); (fail_if_success (refine aE (b := false) rfl rfl rfl ?_)); refine aQ rfl rfl rfl (fun hq => ?_) (fun hq => ?_) <;> first | subst hq | (first | (simp only [sD, sE, sB, sC, sN, sM, sT, sF] at hq; try (exfalso; omega)) | skip)) | fail) | (refine bQ ?_; first | refine bH ?_ | refine bN ?_ | refine aL ?_ | refine aX ?_ | refine bO ?_ | refine bF ?_ | refine bE ?_ | refine aA (b := true) rfl (fun _ => ?_) nTf | refine aA (b := false) rfl nFt (fun _ => ?_) | refine aY ?_ | refine aW ?_ | refine aU mixed (by kernel_rfl) ?_ | refine aC mixed (by kernel_rfl) ?_ | (refine aA rfl (fun hq => ?_) (fun hq => ?_) <;> first | subst hq | (first | (simp only [sD, sE, sB, sC, sN, sM, sT, sF] at hq; try (exfalso; omega)) | skip)) | fail) | (refine bK ?_; first | refine bT ?_ | refine aI ?_ | refine aM ?_ | fail) | (refine bA ?_; first | refine bP ?_ | refine aF ?_ | refine aG (by decide) ?_ | refine aJ ?_ | fail) | refine bL (aV (by kernel_rfl)) ?_ | fail)
   all_goals (refine bV (by first | exact .inl rfl | exact .inr rfl) (bU rfl (aS rfl)) rfl ?_; refine cE ?_; simp_all [bareP, eqB, emptyB]))
set_option maxHeartbeats 4000000 in
set_option maxRecDepth 10000 in
theorem rE (t : Tree) (h : t.whole = true) : ACalls Try.prog 121 [.imm t.iv] [] (.imm (.lit (.bool (isKindP t)))) [] := by
  induction t using Tree.ind with
  | h1 => simp [Tree.whole] at h
  | h2 k n a b kids ih =>
    refine bR Try.func121 rfl rfl (nb rfl) rfl ?_
    repeat' (first | refine bG ?_ | (refine bJ ?_; first | refine aR tabOk rfl rfl rfl (nb rfl) rfl ?_ | refine aZ rfl rfl (nb rfl) ?_ | (refine bI rfl rfl rfl (nb rfl) rfl rfl rfl (fun hq => ?_) (fun hq => ?_) <;> (first | (simp only [sD, sE, sB, sC, sN, sM, sT, sF] at hq; try (exfalso; omega)) | skip))| (refine bW rfl rfl rfl (nb rfl) rfl rfl rfl (lR _ _ _ _ _ _) (fun hq => ?_) (fun hq => ?_)) | (refine bW rfl rfl rfl (nb rfl) rfl rfl rfl (ih _ (List.getElem_mem _) (bY h (List.getElem_mem _))) (fun hq => ?_) (fun hq => ?_)) | refine aD rfl rfl rfl (nb rfl) rfl rfl (by omega) ?_ | refine bC rfl rfl rfl (nb rfl) rfl rfl rfl (by omega) (by omega) ?_ | refine bD rfl rfl rfl (nb rfl) rfl rfl rfl (by omega) (by omega) ?_ | refine bB tabOk rfl rfl rfl (nb rfl) rfl rfl rfl rfl rfl rfl rfl rfl rfl ?_ | refine aT tabOk rfl rfl (nb rfl) rfl ?_ | refine aN tabOk rfl rfl rfl (nb rfl) rfl rfl rfl rfl rfl rfl ?_ | refine aO tabOk rfl rfl rfl (nb rfl) rfl rfl rfl rfl ?_ | refine aK tabOk rfl rfl rfl rfl rfl rfl rfl rfl rfl rfl rfl ?_ | refine aP tabOk rfl rfl rfl (nb rfl) rfl rfl rfl rfl (by first | assumption | omega) ?_ | refine aH tabOk rfl rfl rfl (nb rfl) rfl rfl rfl rfl (by first | rfl | omega) (by first | omega | simp) ?_ | refine aB tabOk rfl rfl rfl (nb rfl) rfl rfl rfl (by assumption) ?_ | refine aB tabOk rfl rfl rfl (nb rfl) rfl rfl rfl (bM _ _ (by first | assumption | omega)) ?_ | refine aD rfl rfl rfl (nb rfl) rfl rfl (by omega) ?_ | ((fail_if_success (refine aE (b := true) rfl rfl rfl ?_)); (fail_if_success (refine aE (b := false) rfl rfl rfl ?_)); refine aQ rfl rfl rfl (fun hq => ?_) (fun hq => ?_) <;> first | subst hq | (first | (simp only [sD, sE, sB, sC, sN, sM, sT, sF] at hq; try (exfalso; omega)) | skip)) | fail) | (refine bQ ?_; first | refine bH ?_ | refine bN ?_ | refine aL ?_ | refine aX ?_ | refine bO ?_ | refine bF ?_ | refine bE ?_ | refine aA (b := true) rfl (fun _ => ?_) nTf | refine aA (b := false) rfl nFt (fun _ => ?_) | refine aY ?_ | refine aW ?_ | refine aU mixed (by kernel_rfl) ?_ | refine aC mixed (by kernel_rfl) ?_ | (refine aA rfl (fun hq => ?_) (fun hq => ?_) <;> first | subst hq | (first | (simp only [sD, sE, sB, sC, sN, sM, sT, sF] at hq; try (exfalso; omega)) | skip)) | fail) | (refine bK ?_; first | refine bT ?_ | refine aI ?_ | refine aM ?_ | fail) | (refine bA ?_; first | refine bP ?_ | refine aF ?_ | refine aG (by decide) ?_ | refine aJ ?_ | fail) | refine bL (aV (by kernel_rfl)) ?_ | fail)
    all_goals (refine bV (by first | exact .inl rfl | exact .inr rfl) (bU rfl (aS rfl)) rfl ?_; refine cE ?_; by_cases h2 : kids.length = 2 <;> first | (obtain ⟨x, y, rfl⟩ := two h2; simp_all [isKindP, isKindPs]; done) | (simp_all [isKindP]; done) | (simp_all [isKindP]; omega))
theorem pA (l : List UInt8) : ¬ l < l := List.lt_irrefl l
def gtB (u v : ByteArray) : Bool := !(ltB u v || eqB u v)
def okPair (rise : Bool) (u v : ByteArray) : Bool := !(eqB u v) && (!rise || !(gtB u v))
theorem qL {u v : ByteArray} (h : ltB u v = true) : eqB u v = false := by
  unfold ltB at h
  rw [bytesLess_eq, decide_eq_true_eq] at h
  unfold eqB
  refine beq_eq_false_iff_ne.2 fun e => ?_
  rw [e] at h
  exact pA _ h
theorem mY {u v x : ByteArray} (h : ltB u v = true) (h2 : ltB v x = true) : ltB u x = true := by
  unfold ltB at *
  rw [bytesLess_eq, decide_eq_true_eq] at *
  exact List.lt_trans h h2
theorem kE (u v : ByteArray) : okPair true u v = ltB u v := by
  unfold okPair gtB
  cases h : ltB u v with
  | true => rw [qL h]; rfl
  | false => cases eqB u v <;> rfl
theorem lS (u v : ByteArray) : okPair false u v = !(eqB u v) := by unfold okPair; simp
theorem lT (u v : ByteArray) : eqB u v = eqB v u := by
  unfold eqB
  rw [Bool.eq_iff_iff, beq_iff_eq, beq_iff_eq]
  exact ⟨Eq.symm, Eq.symm⟩
def pairsP (rise : Bool) (l : List Tree) : Bool := if rise = true then risingP l else distinctP l
theorem iG {l : List Tree} (h : risingP l = true) : ∀ (d i : Nat) (hi : i + d + 1 < l.length), ltB (l[i]'(by omega)).name l[i + d + 1].name = true
  | 0, i, hi => (cS l).1 h i hi
  | d + 1, i, hi => mY (iG h d i (by omega)) ((cS l).1 h (i + d + 1) (by omega))
theorem lU (rise : Bool) (l : List Tree) : pairsP rise l = true ↔ ∀ i j (hij : i < j) (hj : j < l.length), okPair rise (l[i]'(by omega)).name l[j].name = true := by
  unfold pairsP
  cases rise with
  | true =>
    rw [if_pos rfl]
    constructor
    · intro h i j hij hj
      rw [kE]
      have e : j = i + (j - i - 1) + 1 := by omega
      have := iG h (j - i - 1) i (by omega)
      have e2 : l[j] = l[i + (j - i - 1) + 1]'(by omega) := by congr 1
      rw [e2]
      exact this
    · intro h
      rw [cS]
      intro i hi
      have := h i (i + 1) (by omega) hi
      rw [kE] at this
      exact this
  | false =>
    rw [if_neg (by simp), dE]
    constructor
    · intro h i j hij hj
      rw [lS, lT, h i j hij hj]
      rfl
    · intro h i j hij hj
      have := h i j hij hj
      rw [lS, lT] at this
      simpa using this
def labelsB (l : List Tree) (kind : Int) (rise : Bool) : Bool := namedPs l kind && pairsP rise l
theorem gQ (l : List Tree) (kind : Int) (rise : Bool) : labelsB l kind rise = true ↔ (∀ q (hq : q < l.length), okNamed kind l[q] = true) ∧ ∀ i j (hij : i < j) (hj : j < l.length), okPair rise (l[i]'(by omega)).name l[j].name = true := by
  unfold labelsB
  rw [Bool.and_eq_true, lU, eF]
  constructor
  · rintro ⟨h1, h2⟩
    exact ⟨fun q hq => List.all_eq_true.1 h1 _ (List.getElem_mem hq), h2⟩
  · rintro ⟨h1, h2⟩
    exact ⟨dT h1, h2⟩
end Go.Proofs.Ytlbemgokilhdnaa.Ab
namespace Go.Proofs.Ytlbemgokilhdnaa.Ab
set_option linter.unusedVariables false
set_option linter.unusedSimpArgs false
attribute [local irreducible] AWP AOps AExit AThen ABlock ANoGoto FeetOk
def plainP (t : Tree) : Bool := decide (t.kind ≠ 164) && decide (t.kind ≠ 165)
set_option maxRecDepth 10000 in
theorem kQ (t : Tree) (hw : t.whole = true) : ACalls Try.prog 38 [.imm t.iv] [] (.imm (.lit (.bool (plainP t)))) [] := by
  obtain ⟨k, n, a, b, kids, rfl⟩ := cL hw
  have e : plainP (.node k n a b kids) = (decide (k ≠ 164) && decide (k ≠ 165)) := rfl
  rw [e]
  refine bR Try.func38 rfl rfl (nb rfl) rfl ?_
  repeat' (first | refine bG ?_ | (refine bJ ?_; first | refine aR tabOk rfl rfl rfl (nb rfl) rfl ?_ | refine aZ rfl rfl (nb rfl) ?_ | (refine bI rfl rfl rfl (nb rfl) rfl rfl rfl (fun hq => ?_) (fun hq => ?_) <;> (first | (simp only [sD, sE, sB, sC, sN, sM, sT, sF] at hq; try (exfalso; omega)) | skip)) | refine aD rfl rfl rfl (nb rfl) rfl rfl (by omega) ?_ | refine bC rfl rfl rfl (nb rfl) rfl rfl rfl (by omega) (by omega) ?_ | refine bD rfl rfl rfl (nb rfl) rfl rfl rfl (by omega) (by omega) ?_ | refine bB tabOk rfl rfl rfl (nb rfl) rfl rfl rfl rfl rfl rfl rfl rfl rfl ?_ | refine aT tabOk rfl rfl (nb rfl) rfl ?_ | refine aN tabOk rfl rfl rfl (nb rfl) rfl rfl rfl rfl rfl rfl ?_ | refine aO tabOk rfl rfl rfl (nb rfl) rfl rfl rfl rfl ?_ | refine aK tabOk rfl rfl rfl rfl rfl rfl rfl rfl rfl rfl rfl ?_ | refine aP tabOk rfl rfl rfl (nb rfl) rfl rfl rfl rfl (by first | assumption | omega) ?_ | refine aH tabOk rfl rfl rfl (nb rfl) rfl rfl rfl rfl (by first | rfl | omega) (by first | omega | simp) ?_ | refine aB tabOk rfl rfl rfl (nb rfl) rfl rfl rfl (by assumption) ?_ | refine aB tabOk rfl rfl rfl (nb rfl) rfl rfl rfl (bM _ _ (by first | assumption | omega)) ?_ | refine aD rfl rfl rfl (nb rfl) rfl rfl (by omega) ?_ | ((fail_if_success (refine aE (b := true) rfl rfl rfl ?_)); (fail_if_success (refine aE (b := false) rfl rfl rfl ?_)); refine aQ rfl rfl rfl (fun hq => ?_) (fun hq => ?_) <;> first | subst hq | (first | (simp only [sD, sE, sB, sC, sN, sM, sT, sF] at hq; try (exfalso; omega)) | skip)) | fail) | (refine bQ ?_; first | refine bH ?_ | refine bN ?_ | refine aL ?_ | refine aX ?_ | refine bO ?_ | refine bF ?_ | refine bE ?_ | refine aA (b := true) rfl (fun _ => ?_) nTf | refine aA (b := false) rfl nFt (fun _ => ?_) | refine aY ?_ | refine aW ?_ | refine aU mixed (by kernel_rfl) ?_ | refine aC mixed (by kernel_rfl) ?_ | (refine aA rfl (fun hq => ?_) (fun hq => ?_) <;> first | subst hq | (first | (simp only [sD, sE, sB, sC, sN, sM, sT, sF] at hq; try (exfalso; omega)) | skip)) | fail) | (refine bK ?_; first | refine bT ?_ | refine aI ?_ | refine aM ?_ | fail) | (refine bA ?_; first | refine bP ?_ | refine aF ?_ | refine aG (by decide) ?_ | refine aJ ?_ | fail) | refine bL (aV (by kernel_rfl)) ?_ | fail)
  all_goals (refine bV (by first | exact .inl rfl | exact .inr rfl) (bU rfl (aS rfl)) rfl ?_; refine cE ?_; simp_all)
theorem sP {t : Tree} (h : isExP t = true) : t.kind = 164 := by
  unfold isExP at h
  split at h
  · simp only [Bool.and_eq_true, beq_iff_eq] at h; exact h.1.1
  · cases h
theorem lV {t : Tree} (h : isFunP t = true) : t.kind = 165 := by
  unfold isFunP at h
  split at h
  · simp only [Bool.and_eq_true, beq_iff_eq] at h; exact h.1.1
  · cases h
theorem eR {t : Tree} (hc : checkP sformP t = 0) (hp : plainP t = true) : isSigP t = true := by
  obtain ⟨_, _, hf⟩ := cD hc
  unfold plainP at hp
  rw [Bool.and_eq_true, decide_eq_true_eq, decide_eq_true_eq] at hp
  unfold sformP at hf
  rw [Bool.or_eq_true, Bool.or_eq_true] at hf
  rcases hf with h | h | h
  · exact h
  · exact absurd (sP h) hp.1
  · exact absurd (lV h) hp.2
theorem sQ {t : Tree} (h : isSigP t = true) : plainP t = true := by
  cases t with
  | nil => simp [isSigP] at h
  | node k n a b kids =>
    unfold plainP
    have : k = 160 ∨ k = 161 ∨ k = 162 := by
      rcases dH h with ⟨h, _⟩ | ⟨h, _⟩ <;> omega
    rw [decide_eq_true (show (Tree.node k n a b kids).kind ≠ 164 from fun e => by have e : k = 164 := e; omega), decide_eq_true (show (Tree.node k n a b kids).kind ≠ 165 from fun e => by have e : k = 165 := e; omega)]
    rfl
/-- What match.Sub tells. -/
def mSubP (a b : Tree) : Int := if checkP sformP a ≠ 0 then checkP sformP a else if checkP sformP b ≠ 0 then checkP sformP b else if (plainP a && plainP b) = true then (if subP b a = true then 0 else 12) else 16
set_option maxHeartbeats 8000000 in
set_option maxRecDepth 10000 in
theorem uE (a b : Tree) (hsa : a.size ≤ 1000000) (hsb : b.size ≤ 1000000) : ACalls Try.prog 17 [.imm a.iv, .imm b.iv] [] (.imm (.lit (.int .i64 (mSubP a b)))) [] := by
  have c1 := dO a hsa
  have c2 := dO b hsb
  obtain ⟨Q, hQ⟩ : ∃ Q, mSubP a b = Q := ⟨_, rfl⟩
  rw [hQ]
  unfold mSubP at hQ
  by_cases hca : checkP sformP a = 0
  · rw [if_neg (by simpa using hca)] at hQ
    rw [hca] at c1
    by_cases hcb : checkP sformP b = 0
    · rw [if_neg (by simpa using hcb)] at hQ
      rw [hcb] at c2
      have hwa := (cD hca).1
      have hwb := (cD hcb).1
      have c3 := kQ a hwa
      have c4 := kQ b hwb
      have c5 := fun (h1 : plainP a = true) (h2 : plainP b = true) => wJ b a (eR hca h1) (eR hcb h2) hwa hwb hsa hsb
      generalize plainP a = PA at *
      generalize plainP b = PB at *
      generalize subP b a = SB at *
      cases PA with
      | false =>
        subst hQ
        clear c5
        refine bR Try.func17 rfl rfl (nb rfl) rfl ?_
        repeat' (first | refine bG ?_ | (refine bJ ?_; first | refine aR tabOk rfl rfl rfl (nb rfl) rfl ?_ | refine aZ rfl rfl (nb rfl) ?_ | (refine bI rfl rfl rfl (nb rfl) rfl rfl rfl (fun hq => ?_) (fun hq => ?_) <;> (first | (simp only [sD, sE, sB, sC, sN, sM, sT, sF] at hq; try (exfalso; omega)) | skip))| refine bS rfl rfl (nb rfl) rfl rfl rfl rfl (c1) ?_ | refine bS rfl rfl (nb rfl) rfl rfl rfl rfl (c2) ?_ | refine bS rfl rfl (nb rfl) rfl rfl rfl rfl (c3) ?_ | refine bS rfl rfl (nb rfl) rfl rfl rfl rfl (c4) ?_ | refine aD rfl rfl rfl (nb rfl) rfl rfl (by omega) ?_ | refine bC rfl rfl rfl (nb rfl) rfl rfl rfl (by omega) (by omega) ?_ | refine bD rfl rfl rfl (nb rfl) rfl rfl rfl (by omega) (by omega) ?_ | refine bB tabOk rfl rfl rfl (nb rfl) rfl rfl rfl rfl rfl rfl rfl rfl rfl ?_ | refine aT tabOk rfl rfl (nb rfl) rfl ?_ | refine aN tabOk rfl rfl rfl (nb rfl) rfl rfl rfl rfl rfl rfl ?_ | refine aO tabOk rfl rfl rfl (nb rfl) rfl rfl rfl rfl ?_ | refine aK tabOk rfl rfl rfl rfl rfl rfl rfl rfl rfl rfl rfl ?_ | refine aP tabOk rfl rfl rfl (nb rfl) rfl rfl rfl rfl (by first | assumption | omega) ?_ | refine aH tabOk rfl rfl rfl (nb rfl) rfl rfl rfl rfl (by first | rfl | omega) (by first | omega | simp) ?_ | refine aB tabOk rfl rfl rfl (nb rfl) rfl rfl rfl (by assumption) ?_ | refine aB tabOk rfl rfl rfl (nb rfl) rfl rfl rfl (bM _ _ (by first | assumption | omega)) ?_ | refine aD rfl rfl rfl (nb rfl) rfl rfl (by omega) ?_ | ((fail_if_success (refine aE (b := true) rfl rfl rfl ?_)); (fail_if_success (refine aE (b := false) rfl rfl rfl ?_)); refine aQ rfl rfl rfl (fun hq => ?_) (fun hq => ?_) <;> first | subst hq | (first | (simp only [sD, sE, sB, sC, sN, sM, sT, sF] at hq; try (exfalso; omega)) | skip)) | fail) | (refine bQ ?_; first | refine bH ?_ | refine bN ?_ | refine aL ?_ | refine aX ?_ | refine bO ?_ | refine bF ?_ | refine bE ?_ | refine aA (b := true) rfl (fun _ => ?_) nTf | refine aA (b := false) rfl nFt (fun _ => ?_) | refine aY ?_ | refine aW ?_ | refine aU mixed (by kernel_rfl) ?_ | refine aC mixed (by kernel_rfl) ?_ | (refine aA rfl (fun hq => ?_) (fun hq => ?_) <;> first | subst hq | (first | (simp only [sD, sE, sB, sC, sN, sM, sT, sF] at hq; try (exfalso; omega)) | skip)) | fail) | (refine bK ?_; first | refine bT ?_ | refine aI ?_ | refine aM ?_ | fail) | (refine bA ?_; first | refine bP ?_ | refine aF ?_ | refine aG (by decide) ?_ | refine aJ ?_ | fail) | refine bL (aV (by kernel_rfl)) ?_ | fail)
        all_goals first
          | exact absurd rfl (by assumption)
          | (refine bV (by first | exact .inl rfl | exact .inr rfl) (bU rfl (aS rfl)) rfl ?_; rfl)
      | true =>
        cases PB with
        | false =>
          subst hQ
          clear c5
          refine bR Try.func17 rfl rfl (nb rfl) rfl ?_
          repeat' (first | refine bG ?_ | (refine bJ ?_; first | refine aR tabOk rfl rfl rfl (nb rfl) rfl ?_ | refine aZ rfl rfl (nb rfl) ?_ | (refine bI rfl rfl rfl (nb rfl) rfl rfl rfl (fun hq => ?_) (fun hq => ?_) <;> (first | (simp only [sD, sE, sB, sC, sN, sM, sT, sF] at hq; try (exfalso; omega)) | skip))| refine bS rfl rfl (nb rfl) rfl rfl rfl rfl (c1) ?_ | refine bS rfl rfl (nb rfl) rfl rfl rfl rfl (c2) ?_ | refine bS rfl rfl (nb rfl) rfl rfl rfl rfl (c3) ?_ | refine bS rfl rfl (nb rfl) rfl rfl rfl rfl (c4) ?_ | refine aD rfl rfl rfl (nb rfl) rfl rfl (by omega) ?_ | refine bC rfl rfl rfl (nb rfl) rfl rfl rfl (by omega) (by omega) ?_ | refine bD rfl rfl rfl (nb rfl) rfl rfl rfl (by omega) (by omega) ?_ | refine bB tabOk rfl rfl rfl (nb rfl) rfl rfl rfl rfl rfl rfl rfl rfl rfl ?_ | refine aT tabOk rfl rfl (nb rfl) rfl ?_ | refine aN tabOk rfl rfl rfl (nb rfl) rfl rfl rfl rfl rfl rfl ?_ | refine aO tabOk rfl rfl rfl (nb rfl) rfl rfl rfl rfl ?_ | refine aK tabOk rfl rfl rfl rfl rfl rfl rfl rfl rfl rfl rfl ?_ | refine aP tabOk rfl rfl rfl (nb rfl) rfl rfl rfl rfl (by first | assumption | omega) ?_ | refine aH tabOk rfl rfl rfl (nb rfl) rfl rfl rfl rfl (by first | rfl | omega) (by first | omega | simp) ?_ | refine aB tabOk rfl rfl rfl (nb rfl) rfl rfl rfl (by assumption) ?_ | refine aB tabOk rfl rfl rfl (nb rfl) rfl rfl rfl (bM _ _ (by first | assumption | omega)) ?_ | refine aD rfl rfl rfl (nb rfl) rfl rfl (by omega) ?_ | ((fail_if_success (refine aE (b := true) rfl rfl rfl ?_)); (fail_if_success (refine aE (b := false) rfl rfl rfl ?_)); refine aQ rfl rfl rfl (fun hq => ?_) (fun hq => ?_) <;> first | subst hq | (first | (simp only [sD, sE, sB, sC, sN, sM, sT, sF] at hq; try (exfalso; omega)) | skip)) | fail) | (refine bQ ?_; first | refine bH ?_ | refine bN ?_ | refine aL ?_ | refine aX ?_ | refine bO ?_ | refine bF ?_ | refine bE ?_ | refine aA (b := true) rfl (fun _ => ?_) nTf | refine aA (b := false) rfl nFt (fun _ => ?_) | refine aY ?_ | refine aW ?_ | refine aU mixed (by kernel_rfl) ?_ | refine aC mixed (by kernel_rfl) ?_ | (refine aA rfl (fun hq => ?_) (fun hq => ?_) <;> first | subst hq | (first | (simp only [sD, sE, sB, sC, sN, sM, sT, sF] at hq; try (exfalso; omega)) | skip)) | fail) | (refine bK ?_; first | refine bT ?_ | refine aI ?_ | refine aM ?_ | fail) | (refine bA ?_; first | refine bP ?_ | refine aF ?_ | refine aG (by decide) ?_ | refine aJ ?_ | fail) | refine bL (aV (by kernel_rfl)) ?_ | fail)
          all_goals first
            | exact absurd rfl (by assumption)
            | (refine bV (by first | exact .inl rfl | exact .inr rfl) (bU rfl (aS rfl)) rfl ?_; rfl)
        | true =>
          have c5 := c5 rfl rfl
          cases SB <;>
          (subst hQ
           refine bR Try.func17 rfl rfl (nb rfl) rfl ?_
           repeat' (first | refine bG ?_ | (refine bJ ?_; first | refine aR tabOk rfl rfl rfl (nb rfl) rfl ?_ | refine aZ rfl rfl (nb rfl) ?_ | (refine bI rfl rfl rfl (nb rfl) rfl rfl rfl (fun hq => ?_) (fun hq => ?_) <;> (first | (simp only [sD, sE, sB, sC, sN, sM, sT, sF] at hq; try (exfalso; omega)) | skip))| refine bS rfl rfl (nb rfl) rfl rfl rfl rfl (c1) ?_ | refine bS rfl rfl (nb rfl) rfl rfl rfl rfl (c2) ?_ | refine bS rfl rfl (nb rfl) rfl rfl rfl rfl (c3) ?_ | refine bS rfl rfl (nb rfl) rfl rfl rfl rfl (c4) ?_ | refine bS rfl rfl (nb rfl) rfl rfl rfl rfl (c5) ?_ | refine aD rfl rfl rfl (nb rfl) rfl rfl (by omega) ?_ | refine bC rfl rfl rfl (nb rfl) rfl rfl rfl (by omega) (by omega) ?_ | refine bD rfl rfl rfl (nb rfl) rfl rfl rfl (by omega) (by omega) ?_ | refine bB tabOk rfl rfl rfl (nb rfl) rfl rfl rfl rfl rfl rfl rfl rfl rfl ?_ | refine aT tabOk rfl rfl (nb rfl) rfl ?_ | refine aN tabOk rfl rfl rfl (nb rfl) rfl rfl rfl rfl rfl rfl ?_ | refine aO tabOk rfl rfl rfl (nb rfl) rfl rfl rfl rfl ?_ | refine aK tabOk rfl rfl rfl rfl rfl rfl rfl rfl rfl rfl rfl ?_ | refine aP tabOk rfl rfl rfl (nb rfl) rfl rfl rfl rfl (by first | assumption | omega) ?_ | refine aH tabOk rfl rfl rfl (nb rfl) rfl rfl rfl rfl (by first | rfl | omega) (by first | omega | simp) ?_ | refine aB tabOk rfl rfl rfl (nb rfl) rfl rfl rfl (by assumption) ?_ | refine aB tabOk rfl rfl rfl (nb rfl) rfl rfl rfl (bM _ _ (by first | assumption | omega)) ?_ | refine aD rfl rfl rfl (nb rfl) rfl rfl (by omega) ?_ | ((fail_if_success (refine aE (b := true) rfl rfl rfl ?_)); (fail_if_success (refine aE (b := false) rfl rfl rfl ?_)); refine aQ rfl rfl rfl (fun hq => ?_) (fun hq => ?_) <;> first | subst hq | (first | (simp only [sD, sE, sB, sC, sN, sM, sT, sF] at hq; try (exfalso; omega)) | skip)) | fail) | (refine bQ ?_; first | refine bH ?_ | refine bN ?_ | refine aL ?_ | refine aX ?_ | refine bO ?_ | refine bF ?_ | refine bE ?_ | refine aA (b := true) rfl (fun _ => ?_) nTf | refine aA (b := false) rfl nFt (fun _ => ?_) | refine aY ?_ | refine aW ?_ | refine aU mixed (by kernel_rfl) ?_ | refine aC mixed (by kernel_rfl) ?_ | (refine aA rfl (fun hq => ?_) (fun hq => ?_) <;> first | subst hq | (first | (simp only [sD, sE, sB, sC, sN, sM, sT, sF] at hq; try (exfalso; omega)) | skip)) | fail) | (refine bK ?_; first | refine bT ?_ | refine aI ?_ | refine aM ?_ | fail) | (refine bA ?_; first | refine bP ?_ | refine aF ?_ | refine aG (by decide) ?_ | refine aJ ?_ | fail) | refine bL (aV (by kernel_rfl)) ?_ | fail)
           all_goals first
             | exact absurd rfl (by assumption)
             | (refine bV (by first | exact .inl rfl | exact .inr rfl) (bU rfl (aS rfl)) rfl ?_; rfl))
    · rw [if_pos hcb] at hQ
      subst hQ
      generalize checkP sformP b = C at *
      refine bR Try.func17 rfl rfl (nb rfl) rfl ?_
      repeat' (first | refine bG ?_ | (refine bJ ?_; first | refine aR tabOk rfl rfl rfl (nb rfl) rfl ?_ | refine aZ rfl rfl (nb rfl) ?_ | (refine bI rfl rfl rfl (nb rfl) rfl rfl rfl (fun hq => ?_) (fun hq => ?_) <;> (first | (simp only [sD, sE, sB, sC, sN, sM, sT, sF] at hq; try (exfalso; omega)) | skip))| refine bS rfl rfl (nb rfl) rfl rfl rfl rfl (c1) ?_ | refine bS rfl rfl (nb rfl) rfl rfl rfl rfl (c2) ?_ | refine aD rfl rfl rfl (nb rfl) rfl rfl (by omega) ?_ | refine bC rfl rfl rfl (nb rfl) rfl rfl rfl (by omega) (by omega) ?_ | refine bD rfl rfl rfl (nb rfl) rfl rfl rfl (by omega) (by omega) ?_ | refine bB tabOk rfl rfl rfl (nb rfl) rfl rfl rfl rfl rfl rfl rfl rfl rfl ?_ | refine aT tabOk rfl rfl (nb rfl) rfl ?_ | refine aN tabOk rfl rfl rfl (nb rfl) rfl rfl rfl rfl rfl rfl ?_ | refine aO tabOk rfl rfl rfl (nb rfl) rfl rfl rfl rfl ?_ | refine aK tabOk rfl rfl rfl rfl rfl rfl rfl rfl rfl rfl rfl ?_ | refine aP tabOk rfl rfl rfl (nb rfl) rfl rfl rfl rfl (by first | assumption | omega) ?_ | refine aH tabOk rfl rfl rfl (nb rfl) rfl rfl rfl rfl (by first | rfl | omega) (by first | omega | simp) ?_ | refine aB tabOk rfl rfl rfl (nb rfl) rfl rfl rfl (by assumption) ?_ | refine aB tabOk rfl rfl rfl (nb rfl) rfl rfl rfl (bM _ _ (by first | assumption | omega)) ?_ | refine aD rfl rfl rfl (nb rfl) rfl rfl (by omega) ?_ | ((fail_if_success (refine aE (b := true) rfl rfl rfl ?_)); (fail_if_success (refine aE (b := false) rfl rfl rfl ?_)); refine aQ rfl rfl rfl (fun hq => ?_) (fun hq => ?_) <;> first | subst hq | (first | (simp only [sD, sE, sB, sC, sN, sM, sT, sF] at hq; try (exfalso; omega)) | skip)) | fail) | (refine bQ ?_; first | refine bH ?_ | refine bN ?_ | refine aL ?_ | refine aX ?_ | refine bO ?_ | refine bF ?_ | refine bE ?_ | refine aA (b := true) rfl (fun _ => ?_) nTf | refine aA (b := false) rfl nFt (fun _ => ?_) | refine aY ?_ | refine aW ?_ | refine aU mixed (by kernel_rfl) ?_ | refine aC mixed (by kernel_rfl) ?_ | (refine aA rfl (fun hq => ?_) (fun hq => ?_) <;> first | subst hq | (first | (simp only [sD, sE, sB, sC, sN, sM, sT, sF] at hq; try (exfalso; omega)) | skip)) | fail) | (refine bK ?_; first | refine bT ?_ | refine aI ?_ | refine aM ?_ | fail) | (refine bA ?_; first | refine bP ?_ | refine aF ?_ | refine aG (by decide) ?_ | refine aJ ?_ | fail) | refine bL (aV (by kernel_rfl)) ?_ | fail)
      all_goals first
        | exact absurd rfl (by assumption)
        | exact absurd (by assumption) hcb
        | (refine bV (by first | exact .inl rfl | exact .inr rfl) (bU rfl (aS rfl)) rfl ?_; rfl)
  · rw [if_pos hca] at hQ
    subst hQ
    generalize checkP sformP a = C at *
    refine bR Try.func17 rfl rfl (nb rfl) rfl ?_
    repeat' (first | refine bG ?_ | (refine bJ ?_; first | refine aR tabOk rfl rfl rfl (nb rfl) rfl ?_ | refine aZ rfl rfl (nb rfl) ?_ | (refine bI rfl rfl rfl (nb rfl) rfl rfl rfl (fun hq => ?_) (fun hq => ?_) <;> (first | (simp only [sD, sE, sB, sC, sN, sM, sT, sF] at hq; try (exfalso; omega)) | skip))| refine bS rfl rfl (nb rfl) rfl rfl rfl rfl (c1) ?_ | refine aD rfl rfl rfl (nb rfl) rfl rfl (by omega) ?_ | refine bC rfl rfl rfl (nb rfl) rfl rfl rfl (by omega) (by omega) ?_ | refine bD rfl rfl rfl (nb rfl) rfl rfl rfl (by omega) (by omega) ?_ | refine bB tabOk rfl rfl rfl (nb rfl) rfl rfl rfl rfl rfl rfl rfl rfl rfl ?_ | refine aT tabOk rfl rfl (nb rfl) rfl ?_ | refine aN tabOk rfl rfl rfl (nb rfl) rfl rfl rfl rfl rfl rfl ?_ | refine aO tabOk rfl rfl rfl (nb rfl) rfl rfl rfl rfl ?_ | refine aK tabOk rfl rfl rfl rfl rfl rfl rfl rfl rfl rfl rfl ?_ | refine aP tabOk rfl rfl rfl (nb rfl) rfl rfl rfl rfl (by first | assumption | omega) ?_ | refine aH tabOk rfl rfl rfl (nb rfl) rfl rfl rfl rfl (by first | rfl | omega) (by first | omega | simp) ?_ | refine aB tabOk rfl rfl rfl (nb rfl) rfl rfl rfl (by assumption) ?_ | refine aB tabOk rfl rfl rfl (nb rfl) rfl rfl rfl (bM _ _ (by first | assumption | omega)) ?_ | refine aD rfl rfl rfl (nb rfl) rfl rfl (by omega) ?_ | ((fail_if_success (refine aE (b := true) rfl rfl rfl ?_)); (fail_if_success (refine aE (b := false) rfl rfl rfl ?_)); refine aQ rfl rfl rfl (fun hq => ?_) (fun hq => ?_) <;> first | subst hq | (first | (simp only [sD, sE, sB, sC, sN, sM, sT, sF] at hq; try (exfalso; omega)) | skip)) | fail) | (refine bQ ?_; first | refine bH ?_ | refine bN ?_ | refine aL ?_ | refine aX ?_ | refine bO ?_ | refine bF ?_ | refine bE ?_ | refine aA (b := true) rfl (fun _ => ?_) nTf | refine aA (b := false) rfl nFt (fun _ => ?_) | refine aY ?_ | refine aW ?_ | refine aU mixed (by kernel_rfl) ?_ | refine aC mixed (by kernel_rfl) ?_ | (refine aA rfl (fun hq => ?_) (fun hq => ?_) <;> first | subst hq | (first | (simp only [sD, sE, sB, sC, sN, sM, sT, sF] at hq; try (exfalso; omega)) | skip)) | fail) | (refine bK ?_; first | refine bT ?_ | refine aI ?_ | refine aM ?_ | fail) | (refine bA ?_; first | refine bP ?_ | refine aF ?_ | refine aG (by decide) ?_ | refine aJ ?_ | fail) | refine bL (aV (by kernel_rfl)) ?_ | fail)
    all_goals first
      | exact absurd (by assumption) hca
      | (refine bV (by first | exact .inl rfl | exact .inr rfl) (bU rfl (aS rfl)) rfl ?_; rfl)
end Go.Proofs.Ytlbemgokilhdnaa.Ab
namespace Go.Proofs.Ytlbemgokilhdnaa.Ab
set_option linter.unusedVariables false
set_option linter.unusedSimpArgs false
open Go.RowKit
attribute [local irreducible] AWP AOps AExit AThen ABlock ANoGoto FeetOk
theorem sR {P : Program} {f : FuncId} {args : List AV} {m m' : Mem} {r : AV} (h : ACalls P f (args.map AV.nz) m r m') : ACalls P f args m r m' :=
  ⟨h.enters, fun w M β vs ha hm hv => h.go w M β vs ha hm hv.nz⟩
mutual
/-- The labels to the first type that is a variable. -/
def wayP : Tree → Int → List ByteArray → List ByteArray × Bool
  | .nil, _, _ => ([], false)
  | .node k _ _ _ kids, i, ls => if k = 161 then way1 kids i ls else if k = 162 then wayPs kids i ls else ([], false)
def way1 : List Tree → Int → List ByteArray → List ByteArray × Bool
  | [.node k n _ _ _], i, ls => (ls, decide (k = 110) && decide (n = i))
  | _, _, _ => ([], false)
def wayPs : List Tree → Int → List ByteArray → List ByteArray × Bool
  | [], _, _ => ([], false)
  | t :: ts, i, ls => if (wayK t i ls).2 = true then ((wayK t i ls).1, true) else wayPs ts i ls
def wayK : Tree → Int → List ByteArray → List ByteArray × Bool
  | .nil, _, _ => ([], false)
  | .node _ _ name _ ks, i, ls => wayO ks i (ls ++ [name])
def wayO : List Tree → Int → List ByteArray → List ByteArray × Bool
  | [c], i, ls => wayP c i ls
  | _, _, _ => ([], false)
end
theorem vO (l : List ByteArray) (x : ByteArray) : strs (l ++ [x]) = strs l ++ [.lit (.string x)] := by simp [strs]
theorem rF (l : List ByteArray) : (strs l).length = l.length := by unfold strs; simp
theorem vP (l : List ByteArray) (j : Nat) (h : j < l.length) : (strs l)[j * 1]? = some (.lit (.string l[j])) := by unfold strs; simp [h]
set_option maxHeartbeats 16000000 in
set_option maxRecDepth 10000 in
theorem wK (t : Tree) : ∀ (i : Int) (ls : List ByteArray), isSigP t = true → t.whole = true → ls.length + t.size ≤ 1000000 → ACalls Try.prog 103 [.imm t.iv, .imm (.lit (.int .i64 i)), .imm (.sl false ls.length (strs ls))] [] (.imm (.tup [.sl false (wayP t i ls).1.length (strs (wayP t i ls).1), .lit (.bool (wayP t i ls).2)])) [] := by
  induction t using Tree.sind with
  | h t ih =>
    intro i ls hsg hw hsz
    obtain ⟨k, n, a, b, kids, rfl⟩ := cL hw
    have hl : kids.length < 1000000000 := by have := cA kids hw; simp only [Tree.size] at hsz; omega
    obtain ⟨Q, hQ⟩ : ∃ Q, wayP (.node k n a b kids) i ls = Q := ⟨_, rfl⟩
    rw [hQ]
    rw [wayP] at hQ
    rcases dH hsg with ⟨hk, c, rfl, hc⟩ | ⟨hk, hf, _⟩
    · obtain ⟨k1, n1, a1, b1, ks1, rfl, _⟩ := rD hc
      by_cases h161 : k = 161
      · rw [if_pos h161, way1] at hQ
        subst hQ
        subst h161
        clear ih
        refine bR Try.func103 rfl rfl (nb rfl) rfl ?_
        repeat' (first | refine bG ?_ | (refine bJ ?_; first | refine aR tabOk rfl rfl rfl (nb rfl) rfl ?_ | refine aZ rfl rfl (nb rfl) ?_ | (refine bI rfl rfl rfl (nb rfl) rfl rfl rfl (fun hq => ?_) (fun hq => ?_) <;> (first | (simp only [sD, sE, sB, sC, sN, sM, sT, sF] at hq; try (exfalso; omega)) | skip)) | refine aD rfl rfl rfl (nb rfl) rfl rfl (by omega) ?_ | refine bC rfl rfl rfl (nb rfl) rfl rfl rfl (by omega) (by omega) ?_ | refine bD rfl rfl rfl (nb rfl) rfl rfl rfl (by omega) (by omega) ?_ | refine bB tabOk rfl rfl rfl (nb rfl) rfl rfl rfl rfl rfl rfl rfl rfl rfl ?_ | refine aT tabOk rfl rfl (nb rfl) rfl ?_ | refine aN tabOk rfl rfl rfl (nb rfl) rfl rfl rfl rfl rfl rfl ?_ | refine aO tabOk rfl rfl rfl (nb rfl) rfl rfl rfl rfl ?_ | refine aK tabOk rfl rfl rfl rfl rfl rfl rfl rfl rfl rfl rfl ?_ | refine aP tabOk rfl rfl rfl (nb rfl) rfl rfl rfl rfl (by first | assumption | omega) ?_ | refine aH tabOk rfl rfl rfl (nb rfl) rfl rfl rfl rfl (by first | rfl | omega) (by first | omega | simp) ?_ | refine aB tabOk rfl rfl rfl (nb rfl) rfl rfl rfl (by assumption) ?_ | refine aB tabOk rfl rfl rfl (nb rfl) rfl rfl rfl (bM _ _ (by first | assumption | omega)) ?_ | refine aD rfl rfl rfl (nb rfl) rfl rfl (by omega) ?_ | ((fail_if_success (refine aE (b := true) rfl rfl rfl ?_)); (fail_if_success (refine aE (b := false) rfl rfl rfl ?_)); refine aQ rfl rfl rfl (fun hq => ?_) (fun hq => ?_) <;> first | subst hq | (first | (simp only [sD, sE, sB, sC, sN, sM, sT, sF] at hq; try (exfalso; omega)) | skip)) | fail) | (refine bQ ?_; first | refine bH ?_ | refine bN ?_ | refine aL ?_ | refine aX ?_ | refine bO ?_ | refine bF ?_ | refine bE ?_ | refine aA (b := true) rfl (fun _ => ?_) nTf | refine aA (b := false) rfl nFt (fun _ => ?_) | refine aY ?_ | refine aW ?_ | refine aU mixed (by kernel_rfl) ?_ | refine aC mixed (by kernel_rfl) ?_ | (refine aA rfl (fun hq => ?_) (fun hq => ?_) <;> first | subst hq | (first | (simp only [sD, sE, sB, sC, sN, sM, sT, sF] at hq; try (exfalso; omega)) | skip)) | fail) | (refine bK ?_; first | refine bT ?_ | refine aI ?_ | refine aM ?_ | fail) | (refine bA ?_; first | refine bP ?_ | refine aF ?_ | refine aG (by decide) ?_ | refine aJ ?_ | fail) | refine bL (aV (by kernel_rfl)) ?_ | fail)
        all_goals first
          | exact absurd rfl (by assumption)
          | (exfalso; omega)
          | (refine bV (by first | exact .inl rfl | exact .inr rfl) (bX rfl (aS rfl) (aS rfl)) rfl ?_; first | rfl | (rw [decide_eq_true (by assumption), decide_eq_true (by assumption)]; rfl) | (rw [decide_eq_false (by assumption)]; rfl) | (rw [decide_eq_true (by assumption), decide_eq_false (by assumption)]; rfl))
      · rw [if_neg h161, if_neg (by omega)] at hQ
        subst hQ
        clear ih
        refine bR Try.func103 rfl rfl (nb rfl) rfl ?_
        repeat' (first | refine bG ?_ | (refine bJ ?_; first | refine aR tabOk rfl rfl rfl (nb rfl) rfl ?_ | refine aZ rfl rfl (nb rfl) ?_ | (refine bI rfl rfl rfl (nb rfl) rfl rfl rfl (fun hq => ?_) (fun hq => ?_) <;> (first | (simp only [sD, sE, sB, sC, sN, sM, sT, sF] at hq; try (exfalso; omega)) | skip)) | refine aD rfl rfl rfl (nb rfl) rfl rfl (by omega) ?_ | refine bC rfl rfl rfl (nb rfl) rfl rfl rfl (by omega) (by omega) ?_ | refine bD rfl rfl rfl (nb rfl) rfl rfl rfl (by omega) (by omega) ?_ | refine bB tabOk rfl rfl rfl (nb rfl) rfl rfl rfl rfl rfl rfl rfl rfl rfl ?_ | refine aT tabOk rfl rfl (nb rfl) rfl ?_ | refine aN tabOk rfl rfl rfl (nb rfl) rfl rfl rfl rfl rfl rfl ?_ | refine aO tabOk rfl rfl rfl (nb rfl) rfl rfl rfl rfl ?_ | refine aK tabOk rfl rfl rfl rfl rfl rfl rfl rfl rfl rfl rfl ?_ | refine aP tabOk rfl rfl rfl (nb rfl) rfl rfl rfl rfl (by first | assumption | omega) ?_ | refine aH tabOk rfl rfl rfl (nb rfl) rfl rfl rfl rfl (by first | rfl | omega) (by first | omega | simp) ?_ | refine aB tabOk rfl rfl rfl (nb rfl) rfl rfl rfl (by assumption) ?_ | refine aB tabOk rfl rfl rfl (nb rfl) rfl rfl rfl (bM _ _ (by first | assumption | omega)) ?_ | refine aD rfl rfl rfl (nb rfl) rfl rfl (by omega) ?_ | ((fail_if_success (refine aE (b := true) rfl rfl rfl ?_)); (fail_if_success (refine aE (b := false) rfl rfl rfl ?_)); refine aQ rfl rfl rfl (fun hq => ?_) (fun hq => ?_) <;> first | subst hq | (first | (simp only [sD, sE, sB, sC, sN, sM, sT, sF] at hq; try (exfalso; omega)) | skip)) | fail) | (refine bQ ?_; first | refine bH ?_ | refine bN ?_ | refine aL ?_ | refine aX ?_ | refine bO ?_ | refine bF ?_ | refine bE ?_ | refine aA (b := true) rfl (fun _ => ?_) nTf | refine aA (b := false) rfl nFt (fun _ => ?_) | refine aY ?_ | refine aW ?_ | refine aU mixed (by kernel_rfl) ?_ | refine aC mixed (by kernel_rfl) ?_ | (refine aA rfl (fun hq => ?_) (fun hq => ?_) <;> first | subst hq | (first | (simp only [sD, sE, sB, sC, sN, sM, sT, sF] at hq; try (exfalso; omega)) | skip)) | fail) | (refine bK ?_; first | refine bT ?_ | refine aI ?_ | refine aM ?_ | fail) | (refine bA ?_; first | refine bP ?_ | refine aF ?_ | refine aG (by decide) ?_ | refine aJ ?_ | fail) | refine bL (aV (by kernel_rfl)) ?_ | fail)
        all_goals first
          | exact absurd (by assumption) h161
          | (exfalso; omega)
          | (refine bV (by first | exact .inl rfl | exact .inr rfl) (bX rfl (cW (aS rfl)) (cW (aS rfl))) rfl ?_; rfl)
    · subst hk
      rw [if_neg (by decide), if_pos rfl] at hQ
      refine bR Try.func103 rfl rfl (nb rfl) rfl ?_
      repeat' (first | refine bG ?_ | (refine bJ ?_; first | refine aR tabOk rfl rfl rfl (nb rfl) rfl ?_ | refine aZ rfl rfl (nb rfl) ?_ | (refine bI rfl rfl rfl (nb rfl) rfl rfl rfl (fun hq => ?_) (fun hq => ?_) <;> (first | (simp only [sD, sE, sB, sC, sN, sM, sT, sF] at hq; try (exfalso; omega)) | skip)) | refine aD rfl rfl rfl (nb rfl) rfl rfl (by omega) ?_ | refine bC rfl rfl rfl (nb rfl) rfl rfl rfl (by omega) (by omega) ?_ | refine bD rfl rfl rfl (nb rfl) rfl rfl rfl (by omega) (by omega) ?_ | refine bB tabOk rfl rfl rfl (nb rfl) rfl rfl rfl rfl rfl rfl rfl rfl rfl ?_ | refine aT tabOk rfl rfl (nb rfl) rfl ?_ | refine aN tabOk rfl rfl rfl (nb rfl) rfl rfl rfl rfl rfl rfl ?_ | refine aO tabOk rfl rfl rfl (nb rfl) rfl rfl rfl rfl ?_ | refine aK tabOk rfl rfl rfl rfl rfl rfl rfl rfl rfl rfl rfl ?_ | refine aP tabOk rfl rfl rfl (nb rfl) rfl rfl rfl rfl (by first | assumption | omega) ?_ | refine aH tabOk rfl rfl rfl (nb rfl) rfl rfl rfl rfl (by first | rfl | omega) (by first | omega | simp) ?_ | refine aB tabOk rfl rfl rfl (nb rfl) rfl rfl rfl (by assumption) ?_ | refine aB tabOk rfl rfl rfl (nb rfl) rfl rfl rfl (bM _ _ (by first | assumption | omega)) ?_ | refine aD rfl rfl rfl (nb rfl) rfl rfl (by omega) ?_ | ((fail_if_success (refine aE (b := true) rfl rfl rfl ?_)); (fail_if_success (refine aE (b := false) rfl rfl rfl ?_)); refine aQ rfl rfl rfl (fun hq => ?_) (fun hq => ?_) <;> first | subst hq | (first | (simp only [sD, sE, sB, sC, sN, sM, sT, sF] at hq; try (exfalso; omega)) | skip)) | fail) | (refine bQ ?_; first | refine bH ?_ | refine bN ?_ | refine aL ?_ | refine aX ?_ | refine bO ?_ | refine bF ?_ | refine bE ?_ | refine aA (b := true) rfl (fun _ => ?_) nTf | refine aA (b := false) rfl nFt (fun _ => ?_) | refine aY ?_ | refine aW ?_ | refine aU mixed (by kernel_rfl) ?_ | refine aC mixed (by kernel_rfl) ?_ | (refine aA rfl (fun hq => ?_) (fun hq => ?_) <;> first | subst hq | (first | (simp only [sD, sE, sB, sC, sN, sM, sT, sF] at hq; try (exfalso; omega)) | skip)) | fail) | (refine bK ?_; first | refine bT ?_ | refine aI ?_ | refine aM ?_ | fail) | (refine bA ?_; first | refine bP ?_ | refine aF ?_ | refine aG (by decide) ?_ | refine aJ ?_ | fail) | refine bL (aV (by kernel_rfl)) ?_ | fail)
      all_goals first
        | exact absurd rfl (by assumption)
        | (exfalso; omega)
        | skip
      refine cJ (ι := {j : Nat // j ≤ kids.length ∧ wayPs (kids.drop j) i ls = Q}) (fun j => S.f ⟨[(51, .imm (.lit (.int .i64 (j.1 : Int)))), (50, .imm (.lit (.int .i64 (kids.length : Int)))), (49, .imm (.sl false kids.length (Tree.ivs kids))), (1, .imm (.lit (.int .i64 i))), (2, .imm (.sl false ls.length (strs ls)))], []⟩) (fun j => kids.length - j.1) ⟨0, Nat.zero_le _, hQ⟩ (cB (by repeat' first | exact trivial | refine ⟨rfl, ?_⟩) (by repeat' first | exact trivial | refine ⟨rfl, ?_⟩)) ?_
      clear hQ
      rintro ⟨j, hj, hR⟩
      dsimp only
      by_cases hlt : j < kids.length
      · have hm := List.getElem_mem hlt
        have hz := cH (k := 162) (n := n) (a := a) (b := b) hm
        have hwk := bY hw hm
        have hget := bM kids j hlt
        rw [List.drop_eq_getElem_cons hlt, wayPs] at hR
        obtain ⟨n1, a1, b1, c, e, hc⟩ := dA (hf _ hm)
        rw [e] at hz hwk hget hR
        rw [wayK, wayO] at hR
        have hz2 := cH (k := 163) (n := n1) (a := a1) (b := b1) (kids := [c]) (t := c) (by simp)
        have hln : (ls ++ [a1]).length = ls.length + 1 := by simp
        have hcall := ih c (by omega) i (ls ++ [a1]) hc (bY hwk (List.mem_singleton.2 rfl)) (by rw [hln]; omega)
        rw [hln] at hcall
        have hsn := (vO ls a1).symm
        have hsl := rF ls
        have h3 : IV.sl true (ls.length - 0) (((strs ls).drop (0 * 1)).take ((ls.length - 0) * 1)) = .sl true ls.length (strs ls) := by
          rw [Nat.zero_mul, List.drop_zero, Nat.sub_zero, Nat.mul_one, List.take_of_length_le (by omega)]
        clear ih e
        generalize wayP c i (ls ++ [a1]) = W at *
        obtain ⟨W1, W2⟩ := W
        dsimp only at *
        cases W2 with
        | true =>
          rw [if_pos rfl] at hR
          subst hR
          repeat' (first | refine bG ?_ | (refine bJ ?_; first | refine aR tabOk rfl rfl rfl (nb rfl) rfl ?_ | refine aZ rfl rfl (nb rfl) ?_ | (refine bI rfl rfl rfl (nb rfl) rfl rfl rfl (fun hq => ?_) (fun hq => ?_) <;> (first | (simp only [sD, sE, sB, sC, sN, sM, sT, sF] at hq; try (exfalso; omega)) | skip))| refine aB tabOk rfl rfl rfl (nb rfl) rfl rfl rfl hget ?_ | refine jW (l := 0) (h := ls.length) tabOk rfl rfl rfl (nb rfl) rfl rfl rfl rfl rfl rfl (Nat.zero_le _) (Nat.le_refl _) h3 ?_ | refine dS (zs := strs (ls ++ [a1])) tabOk rfl rfl rfl (nb rfl) rfl rfl rfl rfl (.inl rfl) (by rw [hsl]; exact (Nat.mul_one _).symm) rfl (by omega) rfl (by omega) (by dsimp only; omega) hsn ?_ | refine bS rfl rfl (nb rfl) rfl rfl rfl rfl (hcall) ?_ | refine aD rfl rfl rfl (nb rfl) rfl rfl (by omega) ?_ | refine bC rfl rfl rfl (nb rfl) rfl rfl rfl (by omega) (by omega) ?_ | refine bD rfl rfl rfl (nb rfl) rfl rfl rfl (by omega) (by omega) ?_ | refine bB tabOk rfl rfl rfl (nb rfl) rfl rfl rfl rfl rfl rfl rfl rfl rfl ?_ | refine aT tabOk rfl rfl (nb rfl) rfl ?_ | refine aN tabOk rfl rfl rfl (nb rfl) rfl rfl rfl rfl rfl rfl ?_ | refine aO tabOk rfl rfl rfl (nb rfl) rfl rfl rfl rfl ?_ | refine aK tabOk rfl rfl rfl rfl rfl rfl rfl rfl rfl rfl rfl ?_ | refine aP tabOk rfl rfl rfl (nb rfl) rfl rfl rfl rfl (by first | assumption | omega) ?_ | refine aH tabOk rfl rfl rfl (nb rfl) rfl rfl rfl rfl (by first | rfl | omega) (by first | omega | simp) ?_ | refine aB tabOk rfl rfl rfl (nb rfl) rfl rfl rfl (by assumption) ?_ | refine aB tabOk rfl rfl rfl (nb rfl) rfl rfl rfl (bM _ _ (by first | assumption | omega)) ?_ | refine aD rfl rfl rfl (nb rfl) rfl rfl (by omega) ?_ | ((fail_if_success (refine aE (b := true) rfl rfl rfl ?_)); (fail_if_success (refine aE (b := false) rfl rfl rfl ?_)); refine aQ rfl rfl rfl (fun hq => ?_) (fun hq => ?_) <;> first | subst hq | (first | (simp only [sD, sE, sB, sC, sN, sM, sT, sF] at hq; try (exfalso; omega)) | skip)) | fail) | (refine bQ ?_; first | refine bH ?_ | refine bN ?_ | refine aL ?_ | refine aX ?_ | refine bO ?_ | refine bF ?_ | refine bE ?_ | refine aA (b := true) rfl (fun _ => ?_) nTf | refine aA (b := false) rfl nFt (fun _ => ?_) | refine aY ?_ | refine aW ?_ | refine aU mixed (by kernel_rfl) ?_ | refine aC mixed (by kernel_rfl) ?_ | (refine aA rfl (fun hq => ?_) (fun hq => ?_) <;> first | subst hq | (first | (simp only [sD, sE, sB, sC, sN, sM, sT, sF] at hq; try (exfalso; omega)) | skip)) | fail) | (refine bK ?_; first | refine bT ?_ | refine aI ?_ | refine aM ?_ | fail) | (refine bA ?_; first | refine bP ?_ | refine aF ?_ | refine aG (by decide) ?_ | refine aJ ?_ | fail) | refine bL (aV (by kernel_rfl)) ?_ | fail)
          all_goals first
            | (exfalso; omega)
            | (refine bV (by first | exact .inl rfl | exact .inr rfl) (bX rfl (aS rfl) (aS rfl)) rfl ?_; rfl)
        | false =>
          rw [if_neg (by simp)] at hR
          repeat' (first | refine bG ?_ | (refine bJ ?_; first | refine aR tabOk rfl rfl rfl (nb rfl) rfl ?_ | refine aZ rfl rfl (nb rfl) ?_ | (refine bI rfl rfl rfl (nb rfl) rfl rfl rfl (fun hq => ?_) (fun hq => ?_) <;> (first | (simp only [sD, sE, sB, sC, sN, sM, sT, sF] at hq; try (exfalso; omega)) | skip))| refine aB tabOk rfl rfl rfl (nb rfl) rfl rfl rfl hget ?_ | refine jW (l := 0) (h := ls.length) tabOk rfl rfl rfl (nb rfl) rfl rfl rfl rfl rfl rfl (Nat.zero_le _) (Nat.le_refl _) h3 ?_ | refine dS (zs := strs (ls ++ [a1])) tabOk rfl rfl rfl (nb rfl) rfl rfl rfl rfl (.inl rfl) (by rw [hsl]; exact (Nat.mul_one _).symm) rfl (by omega) rfl (by omega) (by dsimp only; omega) hsn ?_ | refine bS rfl rfl (nb rfl) rfl rfl rfl rfl (hcall) ?_ | refine aD rfl rfl rfl (nb rfl) rfl rfl (by omega) ?_ | refine bC rfl rfl rfl (nb rfl) rfl rfl rfl (by omega) (by omega) ?_ | refine bD rfl rfl rfl (nb rfl) rfl rfl rfl (by omega) (by omega) ?_ | refine bB tabOk rfl rfl rfl (nb rfl) rfl rfl rfl rfl rfl rfl rfl rfl rfl ?_ | refine aT tabOk rfl rfl (nb rfl) rfl ?_ | refine aN tabOk rfl rfl rfl (nb rfl) rfl rfl rfl rfl rfl rfl ?_ | refine aO tabOk rfl rfl rfl (nb rfl) rfl rfl rfl rfl ?_ | refine aK tabOk rfl rfl rfl rfl rfl rfl rfl rfl rfl rfl rfl ?_ | refine aP tabOk rfl rfl rfl (nb rfl) rfl rfl rfl rfl (by first | assumption | omega) ?_ | refine aH tabOk rfl rfl rfl (nb rfl) rfl rfl rfl rfl (by first | rfl | omega) (by first | omega | simp) ?_ | refine aB tabOk rfl rfl rfl (nb rfl) rfl rfl rfl (by assumption) ?_ | refine aB tabOk rfl rfl rfl (nb rfl) rfl rfl rfl (bM _ _ (by first | assumption | omega)) ?_ | refine aD rfl rfl rfl (nb rfl) rfl rfl (by omega) ?_ | ((fail_if_success (refine aE (b := true) rfl rfl rfl ?_)); (fail_if_success (refine aE (b := false) rfl rfl rfl ?_)); refine aQ rfl rfl rfl (fun hq => ?_) (fun hq => ?_) <;> first | subst hq | (first | (simp only [sD, sE, sB, sC, sN, sM, sT, sF] at hq; try (exfalso; omega)) | skip)) | fail) | (refine bQ ?_; first | refine bH ?_ | refine bN ?_ | refine aL ?_ | refine aX ?_ | refine bO ?_ | refine bF ?_ | refine bE ?_ | refine aA (b := true) rfl (fun _ => ?_) nTf | refine aA (b := false) rfl nFt (fun _ => ?_) | refine aY ?_ | refine aW ?_ | refine aU mixed (by kernel_rfl) ?_ | refine aC mixed (by kernel_rfl) ?_ | (refine aA rfl (fun hq => ?_) (fun hq => ?_) <;> first | subst hq | (first | (simp only [sD, sE, sB, sC, sN, sM, sT, sF] at hq; try (exfalso; omega)) | skip)) | fail) | (refine bK ?_; first | refine bT ?_ | refine aI ?_ | refine aM ?_ | fail) | (refine bA ?_; first | refine bP ?_ | refine aF ?_ | refine aG (by decide) ?_ | refine aJ ?_ | fail) | refine bL (aV (by kernel_rfl)) ?_ | fail)
          all_goals first
            | (exfalso; omega)
            | exact ⟨⟨j + 1, hlt, hR⟩, (by show kids.length - (j + 1) < kids.length - j; omega), (cB (by repeat' first | exact trivial | refine ⟨rfl, ?_⟩) (by repeat' first | exact trivial | refine ⟨rfl, ?_⟩))⟩
      · have ej : j = kids.length := by omega
        subst ej
        rw [List.drop_length, wayPs] at hR
        subst hR
        repeat' (first | refine bG ?_ | (refine bJ ?_; first | refine aR tabOk rfl rfl rfl (nb rfl) rfl ?_ | refine aZ rfl rfl (nb rfl) ?_ | (refine bI rfl rfl rfl (nb rfl) rfl rfl rfl (fun hq => ?_) (fun hq => ?_) <;> (first | (simp only [sD, sE, sB, sC, sN, sM, sT, sF] at hq; try (exfalso; omega)) | skip)) | refine aD rfl rfl rfl (nb rfl) rfl rfl (by omega) ?_ | refine bC rfl rfl rfl (nb rfl) rfl rfl rfl (by omega) (by omega) ?_ | refine bD rfl rfl rfl (nb rfl) rfl rfl rfl (by omega) (by omega) ?_ | refine bB tabOk rfl rfl rfl (nb rfl) rfl rfl rfl rfl rfl rfl rfl rfl rfl ?_ | refine aT tabOk rfl rfl (nb rfl) rfl ?_ | refine aN tabOk rfl rfl rfl (nb rfl) rfl rfl rfl rfl rfl rfl ?_ | refine aO tabOk rfl rfl rfl (nb rfl) rfl rfl rfl rfl ?_ | refine aK tabOk rfl rfl rfl rfl rfl rfl rfl rfl rfl rfl rfl ?_ | refine aP tabOk rfl rfl rfl (nb rfl) rfl rfl rfl rfl (by first | assumption | omega) ?_ | refine aH tabOk rfl rfl rfl (nb rfl) rfl rfl rfl rfl (by first | rfl | omega) (by first | omega | simp) ?_ | refine aB tabOk rfl rfl rfl (nb rfl) rfl rfl rfl (by assumption) ?_ | refine aB tabOk rfl rfl rfl (nb rfl) rfl rfl rfl (bM _ _ (by first | assumption | omega)) ?_ | refine aD rfl rfl rfl (nb rfl) rfl rfl (by omega) ?_ | ((fail_if_success (refine aE (b := true) rfl rfl rfl ?_)); (fail_if_success (refine aE (b := false) rfl rfl rfl ?_)); refine aQ rfl rfl rfl (fun hq => ?_) (fun hq => ?_) <;> first | subst hq | (first | (simp only [sD, sE, sB, sC, sN, sM, sT, sF] at hq; try (exfalso; omega)) | skip)) | fail) | (refine bQ ?_; first | refine bH ?_ | refine bN ?_ | refine aL ?_ | refine aX ?_ | refine bO ?_ | refine bF ?_ | refine bE ?_ | refine aA (b := true) rfl (fun _ => ?_) nTf | refine aA (b := false) rfl nFt (fun _ => ?_) | refine aY ?_ | refine aW ?_ | refine aU mixed (by kernel_rfl) ?_ | refine aC mixed (by kernel_rfl) ?_ | (refine aA rfl (fun hq => ?_) (fun hq => ?_) <;> first | subst hq | (first | (simp only [sD, sE, sB, sC, sN, sM, sT, sF] at hq; try (exfalso; omega)) | skip)) | fail) | (refine bK ?_; first | refine bT ?_ | refine aI ?_ | refine aM ?_ | fail) | (refine bA ?_; first | refine bP ?_ | refine aF ?_ | refine aG (by decide) ?_ | refine aJ ?_ | fail) | refine bL (aV (by kernel_rfl)) ?_ | fail)
        all_goals first
          | (exfalso; omega)
          | (refine bV (by first | exact .inl rfl | exact .inr rfl) (bX rfl (cW (aS rfl)) (cW (aS rfl))) rfl ?_; rfl)
end Go.Proofs.Ytlbemgokilhdnaa.Ab
namespace Go.Proofs.Ytlbemgokilhdnaa.Ab
set_option linter.unusedVariables false
set_option linter.unusedSimpArgs false
open Go.RowKit
attribute [local irreducible] AWP AOps AExit AThen ABlock ANoGoto FeetOk
def Tree.num : Tree → Int
  | .nil => 0
  | .node _ n _ _ _ => n
/-- Down by labels, as long as there is something. -/
def downP : List ByteArray → Tree × Bool → Tree × Bool
  | [], p => p
  | s :: l, p => if p.2 = true then downP l (fieldP s p.1.kids) else downP l p
theorem vQ (t : Tree) (h : isSigP t = true) (hw : t.whole = true) (hs : t.size ≤ 1000000) (label : ByteArray) : ACalls Try.prog 68 [.imm t.iv, .imm (.lit (.string label))] [] (.imm (.tup [(fieldP label t.kids).1.iv, .lit (.bool (fieldP label t.kids).2)])) [] := by
  have hk := gP h
  obtain ⟨k, n, a, b, kids, rfl⟩ := cL hw
  exact rB k n a b kids label hw (by have := cA kids hw; simp only [Tree.size] at hs; omega) hk
theorem jA : ∀ (l : List ByteArray) (p : Tree × Bool), (p.2 = true → isSigP p.1 = true ∧ p.1.whole = true ∧ p.1.size ≤ 1000000) → (downP l p).2 = true → isSigP (downP l p).1 = true ∧ (downP l p).1.whole = true ∧ (downP l p).1.size ≤ 1000000
  | [], p, h, h2 => h h2
  | s :: l, p, h, h2 => by
    rw [downP] at h2 ⊢
    by_cases c : p.2 = true
    · rw [if_pos c] at h2 ⊢
      obtain ⟨g1, g2, g3⟩ := h c
      exact jA l _ (fun hf => by have := iF g1 g2 s hf; exact ⟨this.1, this.2.1, by omega⟩) h2
    · rw [if_neg c] at h2 ⊢
      exact jA l p h h2
/-- What an abstract type is. -/
def witP (kid sig : Tree) (i : Int) : Option Tree :=
  if (downP (wayP kid i []).1 (sig, (wayP kid i []).2)).2 = true ∧ (downP (wayP kid i []).1 (sig, (wayP kid i []).2)).1.kind = 161 then some (kid0 (downP (wayP kid i []).1 (sig, (wayP kid i []).2)).1) else none
def witsP (kid sig : Tree) : Nat → Int → List Tree → List Tree × Int
  | 0, _, acc => (acc, 0)
  | f + 1, i, acc => match witP kid sig i with
    | none => ([], 12)
    | some c => witsP kid sig f (i + 1) (acc ++ [c])
def witnessP (sig ex : Tree) : List Tree × Int :=
  if checkP sformP sig ≠ 0 then ([], checkP sformP sig) else if checkP sformP ex ≠ 0 then ([], checkP sformP ex)
  else if plainP sig = true ∧ ex.kind = 164 then witsP (kid0 ex) sig ex.num.toNat 0 [] else ([], 16)
theorem rG {t : Tree} (hc : checkP sformP t = 0) (hk : t.kind = 164) : ∃ n a b c, t = .node 164 n a b [c] ∧ isSigP c = true ∧ 0 ≤ n ∧ n ≤ 8192 := by
  obtain ⟨_, _, hf⟩ := cD hc
  unfold sformP at hf
  rw [Bool.or_eq_true, Bool.or_eq_true] at hf
  rcases hf with h | h | h
  · have := sQ h
    unfold plainP at this
    rw [Bool.and_eq_true, decide_eq_true_eq] at this
    exact absurd hk this.1
  · cases t with
    | nil => simp [isExP] at h
    | node k n a b kids =>
      by_cases h1 : kids.length = 1
      · obtain ⟨c, rfl⟩ := cY h1
        rw [isExP] at h
        simp only [Bool.and_eq_true, beq_iff_eq] at h
        have := jN h.1.2
        have e : k = 164 := h.1.1
        subst e
        exact ⟨n, a, b, c, rfl, h.2, this.1, this.2⟩
      · rw [lL h1] at h; cases h
  · rw [lV h] at hk; omega
theorem sig161 {t : Tree} (h : isSigP t = true) (hk : t.kind = 161) : ∃ n a b c, t = .node 161 n a b [c] ∧ checkP isConP c = 0 := by
  cases t with
  | nil => simp [isSigP] at h
  | node k n a b kids =>
    have hk : k = 161 := hk
    subst hk
    rcases dH h with ⟨_, c, rfl, hc⟩ | ⟨h, _⟩
    · exact ⟨n, a, b, c, rfl, hc⟩
    · omega
theorem uF {kid sig c : Tree} {i : Int} (hs : isSigP sig = true ∧ sig.whole = true ∧ sig.size ≤ 1000000) (h : witP kid sig i = some c) : checkP isConP c = 0 := by
  unfold witP at h
  split at h
  · rename_i hc
    obtain ⟨g1, _, _⟩ := jA _ (sig, (wayP kid i []).2) (fun _ => hs) hc.1
    obtain ⟨n, a, b, c', e, hcc⟩ := sig161 g1 hc.2
    cases h
    rw [e]
    exact hcc
  · cases h
theorem uG (t : Tree) : ∀ (i : Int) (ls : List ByteArray), ls.length + t.size ≤ 1000000 → (wayP t i ls).1.length ≤ 1000000 := by
  induction t using Tree.sind with
  | h t ih =>
    intro i ls hs
    cases t with
    | nil => simp [wayP]
    | node k n a b kids =>
      rw [wayP]
      split
      · unfold way1
        split
        · simp only [Tree.size] at hs; dsimp only; omega
        · simp
      · split
        · have key : ∀ l : List Tree, (∀ t ∈ l, t ∈ kids) → (wayPs l i ls).1.length ≤ 1000000 := by
            intro l
            induction l with
            | nil => intro _; simp [wayPs]
            | cons x l ihl =>
              intro hm
              rw [wayPs]
              split
              · have hx := hm x (by simp)
                have hz := cH (k := k) (n := n) (a := a) (b := b) hx
                cases x with
                | nil => simp [wayK]
                | node k1 n1 a1 b1 ks1 =>
                  rw [wayK]
                  by_cases h1 : ks1.length = 1
                  · obtain ⟨c, rfl⟩ := cY h1
                    rw [wayO]
                    have hz2 := cH (k := k1) (n := n1) (a := a1) (b := b1) (kids := [c]) (t := c) (by simp)
                    exact ih c (by omega) i _ (by rw [List.length_append, List.length_singleton]; omega)
                  · match ks1, h1 with
                    | [], _ => simp [wayO]
                    | [x], h1 => simp at h1
                    | x :: y :: r, _ => simp [wayO]
              · exact ihl fun t ht => hm t (by simp [ht])
          exact key kids fun _ h => h
        · simp
set_option maxHeartbeats 16000000 in
set_option maxRecDepth 10000 in
theorem sS (sig ex : Tree) (hss : sig.size ≤ 400000) (hse : ex.size ≤ 400000) : ACalls Try.prog 69 [.imm sig.iv, .imm ex.iv] [] (.imm (.tup [.sl false (witnessP sig ex).1.length (Tree.ivs (witnessP sig ex).1), .lit (.int .i64 (witnessP sig ex).2)])) [] := by
  have c1 := dO sig (by omega)
  have c2 := dO ex (by omega)
  obtain ⟨Q, hQ⟩ : ∃ Q, witnessP sig ex = Q := ⟨_, rfl⟩
  rw [hQ]
  unfold witnessP at hQ
  by_cases hca : checkP sformP sig = 0
  · rw [if_neg (by simpa using hca)] at hQ
    rw [hca] at c1
    by_cases hcb : checkP sformP ex = 0
    · rw [if_neg (by simpa using hcb)] at hQ
      rw [hcb] at c2
      have hwa := (cD hca).1
      have hwb := (cD hcb).1
      have c3 := kQ sig hwa
      by_cases hp : plainP sig = true ∧ ex.kind = 164
      · rw [if_pos hp] at hQ
        obtain ⟨hp1, hp2⟩ := hp
        rw [hp1] at c3
        have hsg := eR hca hp1
        obtain ⟨N, a, b, kid, rfl, hkid, hN0, hN1⟩ := rG hcb hp2
        have hkw := bY hwb (List.mem_singleton.2 rfl)
        have hksz := cH (k := 164) (n := N) (a := a) (b := b) (kids := [kid]) (t := kid) (by simp)
        obtain ⟨pk, hpk⟩ := dU (dF hkw)
        have hway : ∀ i : Int, ACalls Try.prog 103 [.imm kid.iv, .imm (.lit (.int .i64 i)), .imm (.lit (.slice none 0 0))] [] (.imm (.tup [.sl false (wayP kid i []).1.length (strs (wayP kid i []).1), .lit (.bool (wayP kid i []).2)])) [] := fun i => by
          have h := wK kid i [] hkid hkw (by rw [List.length_nil]; omega)
          refine sR ?_
          rw [hpk] at h ⊢
          exact h
        change witsP kid sig N.toNat 0 [] = Q at hQ
        have hcb' := hcb
        clear hca hp2 hpk hp1
        refine dD Try.func69 rfl rfl (nb rfl) rfl ?_
        repeat' (first | refine bG ?_ | (refine bJ ?_; first | refine aR tabOk rfl rfl rfl (nb rfl) rfl ?_ | refine aZ rfl rfl (nb rfl) ?_ | (refine bI rfl rfl rfl (nb rfl) rfl rfl rfl (fun hq => ?_) (fun hq => ?_) <;> (first | (simp only [sD, sE, sB, sC, sN, sM, sT, sF] at hq; try (exfalso; omega)) | skip))| refine bS rfl rfl (nb rfl) rfl rfl rfl rfl (c1) ?_ | refine bS rfl rfl (nb rfl) rfl rfl rfl rfl (c2) ?_ | refine bS rfl rfl (nb rfl) rfl rfl rfl rfl (c3) ?_ | refine aD rfl rfl rfl (nb rfl) rfl rfl (by omega) ?_ | refine bC rfl rfl rfl (nb rfl) rfl rfl rfl (by omega) (by omega) ?_ | refine bD rfl rfl rfl (nb rfl) rfl rfl rfl (by omega) (by omega) ?_ | refine bB tabOk rfl rfl rfl (nb rfl) rfl rfl rfl rfl rfl rfl rfl rfl rfl ?_ | refine aT tabOk rfl rfl (nb rfl) rfl ?_ | refine aN tabOk rfl rfl rfl (nb rfl) rfl rfl rfl rfl rfl rfl ?_ | refine aO tabOk rfl rfl rfl (nb rfl) rfl rfl rfl rfl ?_ | refine aK tabOk rfl rfl rfl rfl rfl rfl rfl rfl rfl rfl rfl ?_ | refine aP tabOk rfl rfl rfl (nb rfl) rfl rfl rfl rfl (by first | assumption | omega) ?_ | refine aH tabOk rfl rfl rfl (nb rfl) rfl rfl rfl rfl (by first | rfl | omega) (by first | omega | simp) ?_ | refine aB tabOk rfl rfl rfl (nb rfl) rfl rfl rfl (by assumption) ?_ | refine aB tabOk rfl rfl rfl (nb rfl) rfl rfl rfl (bM _ _ (by first | assumption | omega)) ?_ | refine aD rfl rfl rfl (nb rfl) rfl rfl (by omega) ?_ | ((fail_if_success (refine aE (b := true) rfl rfl rfl ?_)); (fail_if_success (refine aE (b := false) rfl rfl rfl ?_)); refine aQ rfl rfl rfl (fun hq => ?_) (fun hq => ?_) <;> first | subst hq | (first | (simp only [sD, sE, sB, sC, sN, sM, sT, sF] at hq; try (exfalso; omega)) | skip)) | fail) | (refine bQ ?_; first | refine bH ?_ | refine bN ?_ | refine aL ?_ | refine aX ?_ | refine bO ?_ | refine bF ?_ | refine bE ?_ | refine aA (b := true) rfl (fun _ => ?_) nTf | refine aA (b := false) rfl nFt (fun _ => ?_) | refine aY ?_ | refine aW ?_ | refine aU mixed (by kernel_rfl) ?_ | refine aC mixed (by kernel_rfl) ?_ | (refine aA rfl (fun hq => ?_) (fun hq => ?_) <;> first | subst hq | (first | (simp only [sD, sE, sB, sC, sN, sM, sT, sF] at hq; try (exfalso; omega)) | skip)) | fail) | (refine bK ?_; first | refine bT ?_ | refine aI ?_ | refine aM ?_ | fail) | (refine bA ?_; first | refine bP ?_ | refine aF ?_ | refine aG (by decide) ?_ | refine aJ ?_ | fail) | refine bL (aV (by kernel_rfl)) ?_ | fail)
        all_goals first
          | exact absurd rfl (by assumption)
          | (exfalso; omega)
          | skip
        refine dQ (vA (t := 8) 500 25 1 rfl (by simp) rfl rfl) ?_
        refine cJ (ι := {x : Nat × List Tree // (x.1 : Int) ≤ N ∧ x.2.length = x.1 ∧ witsP kid sig (N.toNat - x.1) (x.1 : Int) x.2 = Q}) (fun x => S.f ⟨[(39, .imm (.lit (.int .i64 (x.1.1 : Int)))), (38, .imm (.lit (.int .i64 N))), (8, .ref 500 x.1.2.length), (0, .imm sig.iv), (1, .imm (Tree.iv (.node 164 N a b [kid])))], [(500, .arr 25 1 x.1.2.length (Tree.ivs x.1.2))]⟩) (fun x => N.toNat - x.1.1) ⟨(0, []), hN0, rfl, hQ⟩ (cB (by repeat' first | exact trivial | refine ⟨rfl, ?_⟩) (by repeat' first | exact trivial | refine ⟨rfl, ?_⟩)) ?_
        clear hQ
        rintro ⟨⟨i, acc⟩, hi, hacc, hR⟩
        have hi : (i : Int) ≤ N := hi
        have hacc : acc.length = i := hacc
        have hR : witsP kid sig (N.toNat - i) (i : Int) acc = Q := hR
        dsimp only
        by_cases hlt : (i : Int) < N
        · obtain ⟨f, hf⟩ : ∃ f, N.toNat - i = f + 1 := ⟨N.toNat - i - 1, by omega⟩
          rw [hf, witsP] at hR
          have hcon := fun c => uF (kid := kid) (c := c) (i := (i : Int)) ⟨hsg, hwa, by omega⟩
          have cw := hway (i : Int)
          have hf2 : N.toNat - (i + 1) = f := by omega
          have hds := fun l p h h2 => jA l p h h2
          have hwlen := rF (wayP kid (i : Int) []).1
          have hwit : witP kid sig (i : Int) = if (downP (wayP kid (i : Int) []).1 (sig, (wayP kid (i : Int) []).2)).2 = true ∧ (downP (wayP kid (i : Int) []).1 (sig, (wayP kid (i : Int) []).2)).1.kind = 161 then some (kid0 (downP (wayP kid (i : Int) []).1 (sig, (wayP kid (i : Int) []).2)).1) else none := rfl
          have hwl := uG kid (i : Int) [] (by rw [List.length_nil]; omega)
          clear hway hf
          generalize wayP kid (i : Int) [] = W at *
          obtain ⟨w, ok⟩ := W
          dsimp only at *
          repeat' (first | refine bG ?_ | (refine bJ ?_; first | refine aR tabOk rfl rfl rfl (nb rfl) rfl ?_ | refine aZ rfl rfl (nb rfl) ?_ | (refine bI rfl rfl rfl (nb rfl) rfl rfl rfl (fun hq => ?_) (fun hq => ?_) <;> (first | (simp only [sD, sE, sB, sC, sN, sM, sT, sF] at hq; try (exfalso; omega)) | skip))| refine bS rfl rfl (nb rfl) rfl rfl rfl rfl (cw) ?_ | refine aD rfl rfl rfl (nb rfl) rfl rfl (by omega) ?_ | refine bC rfl rfl rfl (nb rfl) rfl rfl rfl (by omega) (by omega) ?_ | refine bD rfl rfl rfl (nb rfl) rfl rfl rfl (by omega) (by omega) ?_ | refine bB tabOk rfl rfl rfl (nb rfl) rfl rfl rfl rfl rfl rfl rfl rfl rfl ?_ | refine aT tabOk rfl rfl (nb rfl) rfl ?_ | refine aN tabOk rfl rfl rfl (nb rfl) rfl rfl rfl rfl rfl rfl ?_ | refine aO tabOk rfl rfl rfl (nb rfl) rfl rfl rfl rfl ?_ | refine aK tabOk rfl rfl rfl rfl rfl rfl rfl rfl rfl rfl rfl ?_ | refine aP tabOk rfl rfl rfl (nb rfl) rfl rfl rfl rfl (by first | assumption | omega) ?_ | refine aH tabOk rfl rfl rfl (nb rfl) rfl rfl rfl rfl (by first | rfl | omega) (by first | omega | simp) ?_ | refine aB tabOk rfl rfl rfl (nb rfl) rfl rfl rfl (by assumption) ?_ | refine aB tabOk rfl rfl rfl (nb rfl) rfl rfl rfl (bM _ _ (by first | assumption | omega)) ?_ | refine aD rfl rfl rfl (nb rfl) rfl rfl (by omega) ?_ | ((fail_if_success (refine aE (b := true) rfl rfl rfl ?_)); (fail_if_success (refine aE (b := false) rfl rfl rfl ?_)); refine aQ rfl rfl rfl (fun hq => ?_) (fun hq => ?_) <;> first | subst hq | (first | (simp only [sD, sE, sB, sC, sN, sM, sT, sF] at hq; try (exfalso; omega)) | skip)) | fail) | (refine bQ ?_; first | refine bH ?_ | refine bN ?_ | refine aL ?_ | refine aX ?_ | refine bO ?_ | refine bF ?_ | refine bE ?_ | refine aA (b := true) rfl (fun _ => ?_) nTf | refine aA (b := false) rfl nFt (fun _ => ?_) | refine aY ?_ | refine aW ?_ | refine aU mixed (by kernel_rfl) ?_ | refine aC mixed (by kernel_rfl) ?_ | (refine aA rfl (fun hq => ?_) (fun hq => ?_) <;> first | subst hq | (first | (simp only [sD, sE, sB, sC, sN, sM, sT, sF] at hq; try (exfalso; omega)) | skip)) | fail) | (refine bK ?_; first | refine bT ?_ | refine aI ?_ | refine aM ?_ | fail) | (refine bA ?_; first | refine bP ?_ | refine aF ?_ | refine aG (by decide) ?_ | refine aJ ?_ | fail) | refine bL (aV (by kernel_rfl)) ?_ | fail)
          all_goals first
            | (exfalso; omega)
            | skip
          refine cJ (ι := {x : Nat × Tree × Bool // x.1 ≤ w.length ∧ (x.2.2 = true → isSigP x.2.1 = true ∧ x.2.1.whole = true ∧ x.2.1.size ≤ 1000000) ∧ downP (w.drop x.1) x.2 = downP w (sig, ok)}) (fun x => S.f ⟨[(56, .imm (.lit (.int .i64 (x.1.1 : Int)))), (55, .imm (.lit (.int .i64 (w.length : Int)))), (54, .imm (.sl false w.length (strs w))), (12, .imm x.1.2.1.iv), (11, .imm (.lit (.bool x.1.2.2))), (39, .imm (.lit (.int .i64 (i : Int)))), (38, .imm (.lit (.int .i64 N))), (8, .ref 500 acc.length), (0, .imm sig.iv), (1, .imm (Tree.iv (.node 164 N a b [kid])))], [(500, .arr 25 1 acc.length (Tree.ivs acc))]⟩) (fun x => w.length - x.1.1) ⟨(0, sig, ok), Nat.zero_le _, fun _ => ⟨hsg, hwa, by show sig.size ≤ 1000000; omega⟩, rfl⟩ (cB (by repeat' first | exact trivial | refine ⟨rfl, ?_⟩) (by repeat' first | exact trivial | refine ⟨rfl, ?_⟩)) ?_
          rintro ⟨⟨q, t, okq⟩, hq, hok, hD⟩
          have hq : q ≤ w.length := hq
          have hok : okq = true → isSigP t = true ∧ t.whole = true ∧ t.size ≤ 1000000 := hok
          have hD : downP (w.drop q) (t, okq) = downP w (sig, ok) := hD
          dsimp only
          by_cases hqlt : q < w.length
          · have hget := vP w q hqlt
            rw [List.drop_eq_getElem_cons hqlt, downP] at hD
            cases okq with
            | true =>
              rw [if_pos rfl] at hD
              obtain ⟨g1, g2, g3⟩ := hok rfl
              have cf := vQ t g1 g2 g3 w[q]
              have hfn := iF g1 g2 w[q]
              change downP _ (fieldP w[q] t.kids) = _ at hD
              generalize fieldP w[q] t.kids = FP at *
              obtain ⟨F1, F2⟩ := FP
              dsimp only at *
              clear hcon hwit hds cw c1 c3
              repeat' (first | refine bG ?_ | (refine bJ ?_; first | refine aR tabOk rfl rfl rfl (nb rfl) rfl ?_ | refine aZ rfl rfl (nb rfl) ?_ | (refine bI rfl rfl rfl (nb rfl) rfl rfl rfl (fun hq => ?_) (fun hq => ?_) <;> (first | (simp only [sD, sE, sB, sC, sN, sM, sT, sF] at hq; try (exfalso; omega)) | skip))| refine aB tabOk rfl rfl rfl (nb rfl) rfl rfl rfl hget ?_ | refine bS rfl rfl (nb rfl) rfl rfl rfl rfl (cf) ?_ | refine aD rfl rfl rfl (nb rfl) rfl rfl (by omega) ?_ | refine bC rfl rfl rfl (nb rfl) rfl rfl rfl (by omega) (by omega) ?_ | refine bD rfl rfl rfl (nb rfl) rfl rfl rfl (by omega) (by omega) ?_ | refine bB tabOk rfl rfl rfl (nb rfl) rfl rfl rfl rfl rfl rfl rfl rfl rfl ?_ | refine aT tabOk rfl rfl (nb rfl) rfl ?_ | refine aN tabOk rfl rfl rfl (nb rfl) rfl rfl rfl rfl rfl rfl ?_ | refine aO tabOk rfl rfl rfl (nb rfl) rfl rfl rfl rfl ?_ | refine aK tabOk rfl rfl rfl rfl rfl rfl rfl rfl rfl rfl rfl ?_ | refine aP tabOk rfl rfl rfl (nb rfl) rfl rfl rfl rfl (by first | assumption | omega) ?_ | refine aH tabOk rfl rfl rfl (nb rfl) rfl rfl rfl rfl (by first | rfl | omega) (by first | omega | simp) ?_ | refine aB tabOk rfl rfl rfl (nb rfl) rfl rfl rfl (by assumption) ?_ | refine aB tabOk rfl rfl rfl (nb rfl) rfl rfl rfl (bM _ _ (by first | assumption | omega)) ?_ | refine aD rfl rfl rfl (nb rfl) rfl rfl (by omega) ?_ | ((fail_if_success (refine aE (b := true) rfl rfl rfl ?_)); (fail_if_success (refine aE (b := false) rfl rfl rfl ?_)); refine aQ rfl rfl rfl (fun hq => ?_) (fun hq => ?_) <;> first | subst hq | (first | (simp only [sD, sE, sB, sC, sN, sM, sT, sF] at hq; try (exfalso; omega)) | skip)) | fail) | (refine bQ ?_; first | refine bH ?_ | refine bN ?_ | refine aL ?_ | refine aX ?_ | refine bO ?_ | refine bF ?_ | refine bE ?_ | refine aA (b := true) rfl (fun _ => ?_) nTf | refine aA (b := false) rfl nFt (fun _ => ?_) | refine aY ?_ | refine aW ?_ | refine aU mixed (by kernel_rfl) ?_ | refine aC mixed (by kernel_rfl) ?_ | (refine aA rfl (fun hq => ?_) (fun hq => ?_) <;> first | subst hq | (first | (simp only [sD, sE, sB, sC, sN, sM, sT, sF] at hq; try (exfalso; omega)) | skip)) | fail) | (refine bK ?_; first | refine bT ?_ | refine aI ?_ | refine aM ?_ | fail) | (refine bA ?_; first | refine bP ?_ | refine aF ?_ | refine aG (by decide) ?_ | refine aJ ?_ | fail) | refine bL (aV (by kernel_rfl)) ?_ | fail)
              all_goals first
                | exact absurd rfl (by assumption)
                | (exfalso; omega)
                | exact ⟨⟨(q + 1, F1, F2), hqlt, fun h => by have := hfn h; exact ⟨this.1, this.2.1, by dsimp only; omega⟩, hD⟩, (by show w.length - (q + 1) < w.length - q; omega), (cB (by repeat' first | exact trivial | refine ⟨rfl, ?_⟩) (by repeat' first | exact trivial | refine ⟨rfl, ?_⟩))⟩
            | false =>
              rw [if_neg (by simp)] at hD
              clear hcon hwit hds cw c1 c3
              repeat' (first | refine bG ?_ | (refine bJ ?_; first | refine aR tabOk rfl rfl rfl (nb rfl) rfl ?_ | refine aZ rfl rfl (nb rfl) ?_ | (refine bI rfl rfl rfl (nb rfl) rfl rfl rfl (fun hq => ?_) (fun hq => ?_) <;> (first | (simp only [sD, sE, sB, sC, sN, sM, sT, sF] at hq; try (exfalso; omega)) | skip))| refine aB tabOk rfl rfl rfl (nb rfl) rfl rfl rfl hget ?_ | refine aD rfl rfl rfl (nb rfl) rfl rfl (by omega) ?_ | refine bC rfl rfl rfl (nb rfl) rfl rfl rfl (by omega) (by omega) ?_ | refine bD rfl rfl rfl (nb rfl) rfl rfl rfl (by omega) (by omega) ?_ | refine bB tabOk rfl rfl rfl (nb rfl) rfl rfl rfl rfl rfl rfl rfl rfl rfl ?_ | refine aT tabOk rfl rfl (nb rfl) rfl ?_ | refine aN tabOk rfl rfl rfl (nb rfl) rfl rfl rfl rfl rfl rfl ?_ | refine aO tabOk rfl rfl rfl (nb rfl) rfl rfl rfl rfl ?_ | refine aK tabOk rfl rfl rfl rfl rfl rfl rfl rfl rfl rfl rfl ?_ | refine aP tabOk rfl rfl rfl (nb rfl) rfl rfl rfl rfl (by first | assumption | omega) ?_ | refine aH tabOk rfl rfl rfl (nb rfl) rfl rfl rfl rfl (by first | rfl | omega) (by first | omega | simp) ?_ | refine aB tabOk rfl rfl rfl (nb rfl) rfl rfl rfl (by assumption) ?_ | refine aB tabOk rfl rfl rfl (nb rfl) rfl rfl rfl (bM _ _ (by first | assumption | omega)) ?_ | refine aD rfl rfl rfl (nb rfl) rfl rfl (by omega) ?_ | ((fail_if_success (refine aE (b := true) rfl rfl rfl ?_)); (fail_if_success (refine aE (b := false) rfl rfl rfl ?_)); refine aQ rfl rfl rfl (fun hq => ?_) (fun hq => ?_) <;> first | subst hq | (first | (simp only [sD, sE, sB, sC, sN, sM, sT, sF] at hq; try (exfalso; omega)) | skip)) | fail) | (refine bQ ?_; first | refine bH ?_ | refine bN ?_ | refine aL ?_ | refine aX ?_ | refine bO ?_ | refine bF ?_ | refine bE ?_ | refine aA (b := true) rfl (fun _ => ?_) nTf | refine aA (b := false) rfl nFt (fun _ => ?_) | refine aY ?_ | refine aW ?_ | refine aU mixed (by kernel_rfl) ?_ | refine aC mixed (by kernel_rfl) ?_ | (refine aA rfl (fun hq => ?_) (fun hq => ?_) <;> first | subst hq | (first | (simp only [sD, sE, sB, sC, sN, sM, sT, sF] at hq; try (exfalso; omega)) | skip)) | fail) | (refine bK ?_; first | refine bT ?_ | refine aI ?_ | refine aM ?_ | fail) | (refine bA ?_; first | refine bP ?_ | refine aF ?_ | refine aG (by decide) ?_ | refine aJ ?_ | fail) | refine bL (aV (by kernel_rfl)) ?_ | fail)
              all_goals first
                | exact absurd rfl (by assumption)
                | (exfalso; omega)
                | exact ⟨⟨(q + 1, t, false), hqlt, (fun h => by cases h), hD⟩, (by show w.length - (q + 1) < w.length - q; omega), (cB (by repeat' first | exact trivial | refine ⟨rfl, ?_⟩) (by repeat' first | exact trivial | refine ⟨rfl, ?_⟩))⟩
          · have eq : w.drop q = [] := List.drop_eq_nil_of_le (by omega)
            rw [eq, downP] at hD
            rw [← hD] at hwit
            dsimp only at hwit
            cases okq with
            | false =>
              rw [if_neg (by simp)] at hwit
              rw [hwit] at hR
              have hR : ([], 12) = Q := hR
              subst hR
              clear hcon hwit hds cw c1 c3
              repeat' (first | refine bG ?_ | (refine bJ ?_; first | refine aR tabOk rfl rfl rfl (nb rfl) rfl ?_ | refine aZ rfl rfl (nb rfl) ?_ | (refine bI rfl rfl rfl (nb rfl) rfl rfl rfl (fun hq => ?_) (fun hq => ?_) <;> (first | (simp only [sD, sE, sB, sC, sN, sM, sT, sF] at hq; try (exfalso; omega)) | skip)) | refine aD rfl rfl rfl (nb rfl) rfl rfl (by omega) ?_ | refine bC rfl rfl rfl (nb rfl) rfl rfl rfl (by omega) (by omega) ?_ | refine bD rfl rfl rfl (nb rfl) rfl rfl rfl (by omega) (by omega) ?_ | refine bB tabOk rfl rfl rfl (nb rfl) rfl rfl rfl rfl rfl rfl rfl rfl rfl ?_ | refine aT tabOk rfl rfl (nb rfl) rfl ?_ | refine aN tabOk rfl rfl rfl (nb rfl) rfl rfl rfl rfl rfl rfl ?_ | refine aO tabOk rfl rfl rfl (nb rfl) rfl rfl rfl rfl ?_ | refine aK tabOk rfl rfl rfl rfl rfl rfl rfl rfl rfl rfl rfl ?_ | refine aP tabOk rfl rfl rfl (nb rfl) rfl rfl rfl rfl (by first | assumption | omega) ?_ | refine aH tabOk rfl rfl rfl (nb rfl) rfl rfl rfl rfl (by first | rfl | omega) (by first | omega | simp) ?_ | refine aB tabOk rfl rfl rfl (nb rfl) rfl rfl rfl (by assumption) ?_ | refine aB tabOk rfl rfl rfl (nb rfl) rfl rfl rfl (bM _ _ (by first | assumption | omega)) ?_ | refine aD rfl rfl rfl (nb rfl) rfl rfl (by omega) ?_ | ((fail_if_success (refine aE (b := true) rfl rfl rfl ?_)); (fail_if_success (refine aE (b := false) rfl rfl rfl ?_)); refine aQ rfl rfl rfl (fun hq => ?_) (fun hq => ?_) <;> first | subst hq | (first | (simp only [sD, sE, sB, sC, sN, sM, sT, sF] at hq; try (exfalso; omega)) | skip)) | fail) | (refine bQ ?_; first | refine bH ?_ | refine bN ?_ | refine aL ?_ | refine aX ?_ | refine bO ?_ | refine bF ?_ | refine bE ?_ | refine aA (b := true) rfl (fun _ => ?_) nTf | refine aA (b := false) rfl nFt (fun _ => ?_) | refine aY ?_ | refine aW ?_ | refine aU mixed (by kernel_rfl) ?_ | refine aC mixed (by kernel_rfl) ?_ | (refine aA rfl (fun hq => ?_) (fun hq => ?_) <;> first | subst hq | (first | (simp only [sD, sE, sB, sC, sN, sM, sT, sF] at hq; try (exfalso; omega)) | skip)) | fail) | (refine bK ?_; first | refine bT ?_ | refine aI ?_ | refine aM ?_ | fail) | (refine bA ?_; first | refine bP ?_ | refine aF ?_ | refine aG (by decide) ?_ | refine aJ ?_ | fail) | refine bL (aV (by kernel_rfl)) ?_ | fail)
              all_goals first
                | exact absurd rfl (by assumption)
                | (exfalso; omega)
                | (refine dM ?_; refine bV (by first | exact .inl rfl | exact .inr rfl) (bX rfl (cW (aS rfl)) (cW (aS rfl))) rfl ?_; rfl)
            | true =>
              obtain ⟨g1, g2, g3⟩ := hok rfl
              by_cases hk : t.kind = 161
              · rw [if_pos ⟨rfl, hk⟩] at hwit
                obtain ⟨n', a', b', c, rfl, hcc⟩ := sig161 g1 hk
                have hwit : witP kid sig (i : Int) = some c := hwit
                rw [hwit] at hR
                have hR : witsP kid sig f ((i : Int) + 1) (acc ++ [c]) = Q := hR
                obtain ⟨pc, hpc⟩ := dU (dF (cD hcc).1)
                have hciv : (Tree.node 161 n' a' b' [c]).iv = .ptr [.lit (.int .i64 161), .lit (.int .i64 n'), .lit (.string a'), .lit (.string b'), .sl false 1 [.ptr pc 0]] 0 := by rw [Tree.iv, Tree.ivs, Tree.ivs, hpc]; rfl
                have hiv : Tree.ivs (acc ++ [c]) = Tree.ivs acc ++ [.ptr pc 0] := by rw [cT, cT, List.map_append, ← hpc]; rfl
                have hln : (acc ++ [c]).length = acc.length + 1 := by simp
                have hil := dN acc
                rw [hciv]
                clear hcon hwit hds cw c1 c3 hok hciv hpc
                repeat' (first | refine bG ?_ | (refine bJ ?_; first | refine aR tabOk rfl rfl rfl (nb rfl) rfl ?_ | refine aZ rfl rfl (nb rfl) ?_ | (refine bI rfl rfl rfl (nb rfl) rfl rfl rfl (fun hq => ?_) (fun hq => ?_) <;> (first | (simp only [sD, sE, sB, sC, sN, sM, sT, sF] at hq; try (exfalso; omega)) | skip))| refine cR tabOk rfl rfl rfl (nb rfl) rfl rfl rfl rfl rfl rfl rfl (by first | omega | decide) rfl (by first | omega | (dsimp only; omega)) (by first | omega | (dsimp only; omega)) ?_ | refine aD rfl rfl rfl (nb rfl) rfl rfl (by omega) ?_ | refine bC rfl rfl rfl (nb rfl) rfl rfl rfl (by omega) (by omega) ?_ | refine bD rfl rfl rfl (nb rfl) rfl rfl rfl (by omega) (by omega) ?_ | refine bB tabOk rfl rfl rfl (nb rfl) rfl rfl rfl rfl rfl rfl rfl rfl rfl ?_ | refine aT tabOk rfl rfl (nb rfl) rfl ?_ | refine aN tabOk rfl rfl rfl (nb rfl) rfl rfl rfl rfl rfl rfl ?_ | refine aO tabOk rfl rfl rfl (nb rfl) rfl rfl rfl rfl ?_ | refine aK tabOk rfl rfl rfl rfl rfl rfl rfl rfl rfl rfl rfl ?_ | refine aP tabOk rfl rfl rfl (nb rfl) rfl rfl rfl rfl (by first | assumption | omega) ?_ | refine aH tabOk rfl rfl rfl (nb rfl) rfl rfl rfl rfl (by first | rfl | omega) (by first | omega | simp) ?_ | refine aB tabOk rfl rfl rfl (nb rfl) rfl rfl rfl (by assumption) ?_ | refine aB tabOk rfl rfl rfl (nb rfl) rfl rfl rfl (bM _ _ (by first | assumption | omega)) ?_ | refine aD rfl rfl rfl (nb rfl) rfl rfl (by omega) ?_ | ((fail_if_success (refine aE (b := true) rfl rfl rfl ?_)); (fail_if_success (refine aE (b := false) rfl rfl rfl ?_)); refine aQ rfl rfl rfl (fun hq => ?_) (fun hq => ?_) <;> first | subst hq | (first | (simp only [sD, sE, sB, sC, sN, sM, sT, sF] at hq; try (exfalso; omega)) | skip)) | fail) | (refine bQ ?_; first | refine bH ?_ | refine bN ?_ | refine aL ?_ | refine aX ?_ | refine bO ?_ | refine bF ?_ | refine bE ?_ | refine aA (b := true) rfl (fun _ => ?_) nTf | refine aA (b := false) rfl nFt (fun _ => ?_) | refine aY ?_ | refine aW ?_ | refine aU mixed (by kernel_rfl) ?_ | refine aC mixed (by kernel_rfl) ?_ | (refine aA rfl (fun hq => ?_) (fun hq => ?_) <;> first | subst hq | (first | (simp only [sD, sE, sB, sC, sN, sM, sT, sF] at hq; try (exfalso; omega)) | skip)) | fail) | (refine bK ?_; first | refine bT ?_ | refine aI ?_ | refine aM ?_ | fail) | (refine bA ?_; first | refine bP ?_ | refine aF ?_ | refine aG (by decide) ?_ | refine aJ ?_ | fail) | refine bL (aV (by kernel_rfl)) ?_ | fail)
                all_goals first
                  | exact absurd rfl (by assumption)
                  | (exfalso; omega)
                  | (refine ⟨⟨(i + 1, acc ++ [c]), by show ((i + 1 : Nat) : Int) ≤ N; omega, by show (acc ++ [c]).length = i + 1; omega, by show witsP kid sig (N.toNat - (i + 1)) ((i + 1 : Nat) : Int) (acc ++ [c]) = Q; rw [hf2]; exact hR⟩, (by show N.toNat - (i + 1) < N.toNat - i; omega), ?_⟩; dsimp only; rw [hiv, hln]; exact (cB (by repeat' first | exact trivial | refine ⟨rfl, ?_⟩) (by repeat' first | exact trivial | refine ⟨rfl, ?_⟩)))
              · rw [if_neg (fun h => hk h.2)] at hwit
                rw [hwit] at hR
                have hR : ([], 12) = Q := hR
                subst hR
                obtain ⟨k', n', a', b', ks', rfl⟩ := cL g2
                have hk : k' ≠ 161 := hk
                clear hcon hwit hds cw c1 c3 hok
                repeat' (first | refine bG ?_ | (refine bJ ?_; first | refine aR tabOk rfl rfl rfl (nb rfl) rfl ?_ | refine aZ rfl rfl (nb rfl) ?_ | (refine bI rfl rfl rfl (nb rfl) rfl rfl rfl (fun hq => ?_) (fun hq => ?_) <;> (first | (simp only [sD, sE, sB, sC, sN, sM, sT, sF] at hq; try (exfalso; omega)) | skip)) | refine aD rfl rfl rfl (nb rfl) rfl rfl (by omega) ?_ | refine bC rfl rfl rfl (nb rfl) rfl rfl rfl (by omega) (by omega) ?_ | refine bD rfl rfl rfl (nb rfl) rfl rfl rfl (by omega) (by omega) ?_ | refine bB tabOk rfl rfl rfl (nb rfl) rfl rfl rfl rfl rfl rfl rfl rfl rfl ?_ | refine aT tabOk rfl rfl (nb rfl) rfl ?_ | refine aN tabOk rfl rfl rfl (nb rfl) rfl rfl rfl rfl rfl rfl ?_ | refine aO tabOk rfl rfl rfl (nb rfl) rfl rfl rfl rfl ?_ | refine aK tabOk rfl rfl rfl rfl rfl rfl rfl rfl rfl rfl rfl ?_ | refine aP tabOk rfl rfl rfl (nb rfl) rfl rfl rfl rfl (by first | assumption | omega) ?_ | refine aH tabOk rfl rfl rfl (nb rfl) rfl rfl rfl rfl (by first | rfl | omega) (by first | omega | simp) ?_ | refine aB tabOk rfl rfl rfl (nb rfl) rfl rfl rfl (by assumption) ?_ | refine aB tabOk rfl rfl rfl (nb rfl) rfl rfl rfl (bM _ _ (by first | assumption | omega)) ?_ | refine aD rfl rfl rfl (nb rfl) rfl rfl (by omega) ?_ | ((fail_if_success (refine aE (b := true) rfl rfl rfl ?_)); (fail_if_success (refine aE (b := false) rfl rfl rfl ?_)); refine aQ rfl rfl rfl (fun hq => ?_) (fun hq => ?_) <;> first | subst hq | (first | (simp only [sD, sE, sB, sC, sN, sM, sT, sF] at hq; try (exfalso; omega)) | skip)) | fail) | (refine bQ ?_; first | refine bH ?_ | refine bN ?_ | refine aL ?_ | refine aX ?_ | refine bO ?_ | refine bF ?_ | refine bE ?_ | refine aA (b := true) rfl (fun _ => ?_) nTf | refine aA (b := false) rfl nFt (fun _ => ?_) | refine aY ?_ | refine aW ?_ | refine aU mixed (by kernel_rfl) ?_ | refine aC mixed (by kernel_rfl) ?_ | (refine aA rfl (fun hq => ?_) (fun hq => ?_) <;> first | subst hq | (first | (simp only [sD, sE, sB, sC, sN, sM, sT, sF] at hq; try (exfalso; omega)) | skip)) | fail) | (refine bK ?_; first | refine bT ?_ | refine aI ?_ | refine aM ?_ | fail) | (refine bA ?_; first | refine bP ?_ | refine aF ?_ | refine aG (by decide) ?_ | refine aJ ?_ | fail) | refine bL (aV (by kernel_rfl)) ?_ | fail)
                all_goals first
                  | exact absurd rfl (by assumption)
                  | exact absurd (by assumption) hk
                  | (exfalso; omega)
                  | (refine dM ?_; refine bV (by first | exact .inl rfl | exact .inr rfl) (bX rfl (cW (aS rfl)) (cW (aS rfl))) rfl ?_; rfl)
        · have e0 : N.toNat - i = 0 := by omega
          rw [e0, witsP] at hR
          subst hR
          clear hway c1 c3
          refine dQ ((Imp.of_le (σ' := S.f ⟨[(39, .imm (.lit (.int .i64 (i : Int)))), (38, .imm (.lit (.int .i64 N))), (8, .ref 500 acc.length)], [(500, .arr 25 1 acc.length (Tree.ivs acc))]⟩) (cB (by repeat' first | exact trivial | refine ⟨rfl, ?_⟩) (by repeat' first | exact trivial | refine ⟨rfl, ?_⟩))).trans (cZ (g := 500) rfl (by repeat' first | exact trivial | exact fun _ => rfl | refine ⟨?_, ?_⟩) (by repeat' first | exact trivial | exact fun _ => rfl | refine ⟨?_, ?_⟩))) ?_
          repeat' (first | refine bG ?_ | (refine bJ ?_; first | refine aR tabOk rfl rfl rfl (nb rfl) rfl ?_ | refine aZ rfl rfl (nb rfl) ?_ | (refine bI rfl rfl rfl (nb rfl) rfl rfl rfl (fun hq => ?_) (fun hq => ?_) <;> (first | (simp only [sD, sE, sB, sC, sN, sM, sT, sF] at hq; try (exfalso; omega)) | skip)) | refine aD rfl rfl rfl (nb rfl) rfl rfl (by omega) ?_ | refine bC rfl rfl rfl (nb rfl) rfl rfl rfl (by omega) (by omega) ?_ | refine bD rfl rfl rfl (nb rfl) rfl rfl rfl (by omega) (by omega) ?_ | refine bB tabOk rfl rfl rfl (nb rfl) rfl rfl rfl rfl rfl rfl rfl rfl rfl ?_ | refine aT tabOk rfl rfl (nb rfl) rfl ?_ | refine aN tabOk rfl rfl rfl (nb rfl) rfl rfl rfl rfl rfl rfl ?_ | refine aO tabOk rfl rfl rfl (nb rfl) rfl rfl rfl rfl ?_ | refine aK tabOk rfl rfl rfl rfl rfl rfl rfl rfl rfl rfl rfl ?_ | refine aP tabOk rfl rfl rfl (nb rfl) rfl rfl rfl rfl (by first | assumption | omega) ?_ | refine aH tabOk rfl rfl rfl (nb rfl) rfl rfl rfl rfl (by first | rfl | omega) (by first | omega | simp) ?_ | refine aB tabOk rfl rfl rfl (nb rfl) rfl rfl rfl (by assumption) ?_ | refine aB tabOk rfl rfl rfl (nb rfl) rfl rfl rfl (bM _ _ (by first | assumption | omega)) ?_ | refine aD rfl rfl rfl (nb rfl) rfl rfl (by omega) ?_ | ((fail_if_success (refine aE (b := true) rfl rfl rfl ?_)); (fail_if_success (refine aE (b := false) rfl rfl rfl ?_)); refine aQ rfl rfl rfl (fun hq => ?_) (fun hq => ?_) <;> first | subst hq | (first | (simp only [sD, sE, sB, sC, sN, sM, sT, sF] at hq; try (exfalso; omega)) | skip)) | fail) | (refine bQ ?_; first | refine bH ?_ | refine bN ?_ | refine aL ?_ | refine aX ?_ | refine bO ?_ | refine bF ?_ | refine bE ?_ | refine aA (b := true) rfl (fun _ => ?_) nTf | refine aA (b := false) rfl nFt (fun _ => ?_) | refine aY ?_ | refine aW ?_ | refine aU mixed (by kernel_rfl) ?_ | refine aC mixed (by kernel_rfl) ?_ | (refine aA rfl (fun hq => ?_) (fun hq => ?_) <;> first | subst hq | (first | (simp only [sD, sE, sB, sC, sN, sM, sT, sF] at hq; try (exfalso; omega)) | skip)) | fail) | (refine bK ?_; first | refine bT ?_ | refine aI ?_ | refine aM ?_ | fail) | (refine bA ?_; first | refine bP ?_ | refine aF ?_ | refine aG (by decide) ?_ | refine aJ ?_ | fail) | refine bL (aV (by kernel_rfl)) ?_ | fail)
          all_goals first
            | (refine dM ?_; refine bV (by first | exact .inl rfl | exact .inr rfl) (bX rfl (aS rfl) (aS rfl)) rfl ?_; rfl)
            | (exfalso; omega)
      · rw [if_neg hp] at hQ
        subst hQ
        obtain ⟨k', n', a', b', ks', rfl⟩ := cL hwb
        have hp : plainP sig = true → k' ≠ 164 := fun h1 h2 => hp ⟨h1, h2⟩
        generalize plainP sig = PS at *
        cases PS with
        | false =>
          refine dD Try.func69 rfl rfl (nb rfl) rfl ?_
          repeat' (first | refine bG ?_ | (refine bJ ?_; first | refine aR tabOk rfl rfl rfl (nb rfl) rfl ?_ | refine aZ rfl rfl (nb rfl) ?_ | (refine bI rfl rfl rfl (nb rfl) rfl rfl rfl (fun hq => ?_) (fun hq => ?_) <;> (first | (simp only [sD, sE, sB, sC, sN, sM, sT, sF] at hq; try (exfalso; omega)) | skip))| refine bS rfl rfl (nb rfl) rfl rfl rfl rfl (c1) ?_ | refine bS rfl rfl (nb rfl) rfl rfl rfl rfl (c2) ?_ | refine bS rfl rfl (nb rfl) rfl rfl rfl rfl (c3) ?_ | refine aD rfl rfl rfl (nb rfl) rfl rfl (by omega) ?_ | refine bC rfl rfl rfl (nb rfl) rfl rfl rfl (by omega) (by omega) ?_ | refine bD rfl rfl rfl (nb rfl) rfl rfl rfl (by omega) (by omega) ?_ | refine bB tabOk rfl rfl rfl (nb rfl) rfl rfl rfl rfl rfl rfl rfl rfl rfl ?_ | refine aT tabOk rfl rfl (nb rfl) rfl ?_ | refine aN tabOk rfl rfl rfl (nb rfl) rfl rfl rfl rfl rfl rfl ?_ | refine aO tabOk rfl rfl rfl (nb rfl) rfl rfl rfl rfl ?_ | refine aK tabOk rfl rfl rfl rfl rfl rfl rfl rfl rfl rfl rfl ?_ | refine aP tabOk rfl rfl rfl (nb rfl) rfl rfl rfl rfl (by first | assumption | omega) ?_ | refine aH tabOk rfl rfl rfl (nb rfl) rfl rfl rfl rfl (by first | rfl | omega) (by first | omega | simp) ?_ | refine aB tabOk rfl rfl rfl (nb rfl) rfl rfl rfl (by assumption) ?_ | refine aB tabOk rfl rfl rfl (nb rfl) rfl rfl rfl (bM _ _ (by first | assumption | omega)) ?_ | refine aD rfl rfl rfl (nb rfl) rfl rfl (by omega) ?_ | ((fail_if_success (refine aE (b := true) rfl rfl rfl ?_)); (fail_if_success (refine aE (b := false) rfl rfl rfl ?_)); refine aQ rfl rfl rfl (fun hq => ?_) (fun hq => ?_) <;> first | subst hq | (first | (simp only [sD, sE, sB, sC, sN, sM, sT, sF] at hq; try (exfalso; omega)) | skip)) | fail) | (refine bQ ?_; first | refine bH ?_ | refine bN ?_ | refine aL ?_ | refine aX ?_ | refine bO ?_ | refine bF ?_ | refine bE ?_ | refine aA (b := true) rfl (fun _ => ?_) nTf | refine aA (b := false) rfl nFt (fun _ => ?_) | refine aY ?_ | refine aW ?_ | refine aU mixed (by kernel_rfl) ?_ | refine aC mixed (by kernel_rfl) ?_ | (refine aA rfl (fun hq => ?_) (fun hq => ?_) <;> first | subst hq | (first | (simp only [sD, sE, sB, sC, sN, sM, sT, sF] at hq; try (exfalso; omega)) | skip)) | fail) | (refine bK ?_; first | refine bT ?_ | refine aI ?_ | refine aM ?_ | fail) | (refine bA ?_; first | refine bP ?_ | refine aF ?_ | refine aG (by decide) ?_ | refine aJ ?_ | fail) | refine bL (aV (by kernel_rfl)) ?_ | fail)
          all_goals first
            | exact absurd rfl (by assumption)
            | (refine dM ?_; refine bV (by first | exact .inl rfl | exact .inr rfl) (bX rfl (cW (aS rfl)) (cW (aS rfl))) rfl ?_; rfl)
        | true =>
          have hp := hp rfl
          refine dD Try.func69 rfl rfl (nb rfl) rfl ?_
          repeat' (first | refine bG ?_ | (refine bJ ?_; first | refine aR tabOk rfl rfl rfl (nb rfl) rfl ?_ | refine aZ rfl rfl (nb rfl) ?_ | (refine bI rfl rfl rfl (nb rfl) rfl rfl rfl (fun hq => ?_) (fun hq => ?_) <;> (first | (simp only [sD, sE, sB, sC, sN, sM, sT, sF] at hq; try (exfalso; omega)) | skip))| refine bS rfl rfl (nb rfl) rfl rfl rfl rfl (c1) ?_ | refine bS rfl rfl (nb rfl) rfl rfl rfl rfl (c2) ?_ | refine bS rfl rfl (nb rfl) rfl rfl rfl rfl (c3) ?_ | refine aD rfl rfl rfl (nb rfl) rfl rfl (by omega) ?_ | refine bC rfl rfl rfl (nb rfl) rfl rfl rfl (by omega) (by omega) ?_ | refine bD rfl rfl rfl (nb rfl) rfl rfl rfl (by omega) (by omega) ?_ | refine bB tabOk rfl rfl rfl (nb rfl) rfl rfl rfl rfl rfl rfl rfl rfl rfl ?_ | refine aT tabOk rfl rfl (nb rfl) rfl ?_ | refine aN tabOk rfl rfl rfl (nb rfl) rfl rfl rfl rfl rfl rfl ?_ | refine aO tabOk rfl rfl rfl (nb rfl) rfl rfl rfl rfl ?_ | refine aK tabOk rfl rfl rfl rfl rfl rfl rfl rfl rfl rfl rfl ?_ | refine aP tabOk rfl rfl rfl (nb rfl) rfl rfl rfl rfl (by first | assumption | omega) ?_ | refine aH tabOk rfl rfl rfl (nb rfl) rfl rfl rfl rfl (by first | rfl | omega) (by first | omega | simp) ?_ | refine aB tabOk rfl rfl rfl (nb rfl) rfl rfl rfl (by assumption) ?_ | refine aB tabOk rfl rfl rfl (nb rfl) rfl rfl rfl (bM _ _ (by first | assumption | omega)) ?_ | refine aD rfl rfl rfl (nb rfl) rfl rfl (by omega) ?_ | ((fail_if_success (refine aE (b := true) rfl rfl rfl ?_)); (fail_if_success (refine aE (b := false) rfl rfl rfl ?_)); refine aQ rfl rfl rfl (fun hq => ?_) (fun hq => ?_) <;> first | subst hq | (first | (simp only [sD, sE, sB, sC, sN, sM, sT, sF] at hq; try (exfalso; omega)) | skip)) | fail) | (refine bQ ?_; first | refine bH ?_ | refine bN ?_ | refine aL ?_ | refine aX ?_ | refine bO ?_ | refine bF ?_ | refine bE ?_ | refine aA (b := true) rfl (fun _ => ?_) nTf | refine aA (b := false) rfl nFt (fun _ => ?_) | refine aY ?_ | refine aW ?_ | refine aU mixed (by kernel_rfl) ?_ | refine aC mixed (by kernel_rfl) ?_ | (refine aA rfl (fun hq => ?_) (fun hq => ?_) <;> first | subst hq | (first | (simp only [sD, sE, sB, sC, sN, sM, sT, sF] at hq; try (exfalso; omega)) | skip)) | fail) | (refine bK ?_; first | refine bT ?_ | refine aI ?_ | refine aM ?_ | fail) | (refine bA ?_; first | refine bP ?_ | refine aF ?_ | refine aG (by decide) ?_ | refine aJ ?_ | fail) | refine bL (aV (by kernel_rfl)) ?_ | fail)
          all_goals first
            | exact absurd rfl (by assumption)
            | exact absurd (by assumption) hp
            | (refine dM ?_; refine bV (by first | exact .inl rfl | exact .inr rfl) (bX rfl (cW (aS rfl)) (cW (aS rfl))) rfl ?_; rfl)
    · rw [if_pos hcb] at hQ
      subst hQ
      generalize checkP sformP ex = C at *
      refine dD Try.func69 rfl rfl (nb rfl) rfl ?_
      repeat' (first | refine bG ?_ | (refine bJ ?_; first | refine aR tabOk rfl rfl rfl (nb rfl) rfl ?_ | refine aZ rfl rfl (nb rfl) ?_ | (refine bI rfl rfl rfl (nb rfl) rfl rfl rfl (fun hq => ?_) (fun hq => ?_) <;> (first | (simp only [sD, sE, sB, sC, sN, sM, sT, sF] at hq; try (exfalso; omega)) | skip))| refine bS rfl rfl (nb rfl) rfl rfl rfl rfl (c1) ?_ | refine bS rfl rfl (nb rfl) rfl rfl rfl rfl (c2) ?_ | refine aD rfl rfl rfl (nb rfl) rfl rfl (by omega) ?_ | refine bC rfl rfl rfl (nb rfl) rfl rfl rfl (by omega) (by omega) ?_ | refine bD rfl rfl rfl (nb rfl) rfl rfl rfl (by omega) (by omega) ?_ | refine bB tabOk rfl rfl rfl (nb rfl) rfl rfl rfl rfl rfl rfl rfl rfl rfl ?_ | refine aT tabOk rfl rfl (nb rfl) rfl ?_ | refine aN tabOk rfl rfl rfl (nb rfl) rfl rfl rfl rfl rfl rfl ?_ | refine aO tabOk rfl rfl rfl (nb rfl) rfl rfl rfl rfl ?_ | refine aK tabOk rfl rfl rfl rfl rfl rfl rfl rfl rfl rfl rfl ?_ | refine aP tabOk rfl rfl rfl (nb rfl) rfl rfl rfl rfl (by first | assumption | omega) ?_ | refine aH tabOk rfl rfl rfl (nb rfl) rfl rfl rfl rfl (by first | rfl | omega) (by first | omega | simp) ?_ | refine aB tabOk rfl rfl rfl (nb rfl) rfl rfl rfl (by assumption) ?_ | refine aB tabOk rfl rfl rfl (nb rfl) rfl rfl rfl (bM _ _ (by first | assumption | omega)) ?_ | refine aD rfl rfl rfl (nb rfl) rfl rfl (by omega) ?_ | ((fail_if_success (refine aE (b := true) rfl rfl rfl ?_)); (fail_if_success (refine aE (b := false) rfl rfl rfl ?_)); refine aQ rfl rfl rfl (fun hq => ?_) (fun hq => ?_) <;> first | subst hq | (first | (simp only [sD, sE, sB, sC, sN, sM, sT, sF] at hq; try (exfalso; omega)) | skip)) | fail) | (refine bQ ?_; first | refine bH ?_ | refine bN ?_ | refine aL ?_ | refine aX ?_ | refine bO ?_ | refine bF ?_ | refine bE ?_ | refine aA (b := true) rfl (fun _ => ?_) nTf | refine aA (b := false) rfl nFt (fun _ => ?_) | refine aY ?_ | refine aW ?_ | refine aU mixed (by kernel_rfl) ?_ | refine aC mixed (by kernel_rfl) ?_ | (refine aA rfl (fun hq => ?_) (fun hq => ?_) <;> first | subst hq | (first | (simp only [sD, sE, sB, sC, sN, sM, sT, sF] at hq; try (exfalso; omega)) | skip)) | fail) | (refine bK ?_; first | refine bT ?_ | refine aI ?_ | refine aM ?_ | fail) | (refine bA ?_; first | refine bP ?_ | refine aF ?_ | refine aG (by decide) ?_ | refine aJ ?_ | fail) | refine bL (aV (by kernel_rfl)) ?_ | fail)
      all_goals first
        | exact absurd rfl (by assumption)
        | exact absurd (by assumption) hcb
        | (refine dM ?_; refine bV (by first | exact .inl rfl | exact .inr rfl) (bX rfl (cW (aS rfl)) (cW (aS rfl))) rfl ?_; rfl)
  · rw [if_pos hca] at hQ
    subst hQ
    generalize checkP sformP sig = C at *
    refine dD Try.func69 rfl rfl (nb rfl) rfl ?_
    repeat' (first | refine bG ?_ | (refine bJ ?_; first | refine aR tabOk rfl rfl rfl (nb rfl) rfl ?_ | refine aZ rfl rfl (nb rfl) ?_ | (refine bI rfl rfl rfl (nb rfl) rfl rfl rfl (fun hq => ?_) (fun hq => ?_) <;> (first | (simp only [sD, sE, sB, sC, sN, sM, sT, sF] at hq; try (exfalso; omega)) | skip))| refine bS rfl rfl (nb rfl) rfl rfl rfl rfl (c1) ?_ | refine aD rfl rfl rfl (nb rfl) rfl rfl (by omega) ?_ | refine bC rfl rfl rfl (nb rfl) rfl rfl rfl (by omega) (by omega) ?_ | refine bD rfl rfl rfl (nb rfl) rfl rfl rfl (by omega) (by omega) ?_ | refine bB tabOk rfl rfl rfl (nb rfl) rfl rfl rfl rfl rfl rfl rfl rfl rfl ?_ | refine aT tabOk rfl rfl (nb rfl) rfl ?_ | refine aN tabOk rfl rfl rfl (nb rfl) rfl rfl rfl rfl rfl rfl ?_ | refine aO tabOk rfl rfl rfl (nb rfl) rfl rfl rfl rfl ?_ | refine aK tabOk rfl rfl rfl rfl rfl rfl rfl rfl rfl rfl rfl ?_ | refine aP tabOk rfl rfl rfl (nb rfl) rfl rfl rfl rfl (by first | assumption | omega) ?_ | refine aH tabOk rfl rfl rfl (nb rfl) rfl rfl rfl rfl (by first | rfl | omega) (by first | omega | simp) ?_ | refine aB tabOk rfl rfl rfl (nb rfl) rfl rfl rfl (by assumption) ?_ | refine aB tabOk rfl rfl rfl (nb rfl) rfl rfl rfl (bM _ _ (by first | assumption | omega)) ?_ | refine aD rfl rfl rfl (nb rfl) rfl rfl (by omega) ?_ | ((fail_if_success (refine aE (b := true) rfl rfl rfl ?_)); (fail_if_success (refine aE (b := false) rfl rfl rfl ?_)); refine aQ rfl rfl rfl (fun hq => ?_) (fun hq => ?_) <;> first | subst hq | (first | (simp only [sD, sE, sB, sC, sN, sM, sT, sF] at hq; try (exfalso; omega)) | skip)) | fail) | (refine bQ ?_; first | refine bH ?_ | refine bN ?_ | refine aL ?_ | refine aX ?_ | refine bO ?_ | refine bF ?_ | refine bE ?_ | refine aA (b := true) rfl (fun _ => ?_) nTf | refine aA (b := false) rfl nFt (fun _ => ?_) | refine aY ?_ | refine aW ?_ | refine aU mixed (by kernel_rfl) ?_ | refine aC mixed (by kernel_rfl) ?_ | (refine aA rfl (fun hq => ?_) (fun hq => ?_) <;> first | subst hq | (first | (simp only [sD, sE, sB, sC, sN, sM, sT, sF] at hq; try (exfalso; omega)) | skip)) | fail) | (refine bK ?_; first | refine bT ?_ | refine aI ?_ | refine aM ?_ | fail) | (refine bA ?_; first | refine bP ?_ | refine aF ?_ | refine aG (by decide) ?_ | refine aJ ?_ | fail) | refine bL (aV (by kernel_rfl)) ?_ | fail)
    all_goals first
      | exact absurd (by assumption) hca
      | (refine dM ?_; refine bV (by first | exact .inl rfl | exact .inr rfl) (bX rfl (cW (aS rfl)) (cW (aS rfl))) rfl ?_; rfl)
end Go.Proofs.Ytlbemgokilhdnaa.Ab
