/- Words, walks and laws under the claim's statement: what it uses of them. No condition of its own. -/
import Derived.Test.YtocaohipfiapkaaGreatTML1
import Derived.Test.YtocaohipfiapkaaGreatTML0
namespace Go.Proofs.YtocaohipfiapkaaGreat.Ab
set_option linter.unusedVariables false
set_option linter.unusedSimpArgs false
open Go.RowKit
attribute [local irreducible] AWP AOps AExit AThen ABlock ANoGoto FeetOk
/-- A context of kinds that were checked. -/
def okK (ks : List Tree) : Prop := ∀ K ∈ ks, checkP isKindP K = 0
theorem yB {ks : List Tree} (h : okK ks) : okCtx ks := fun K hK => by
  obtain ⟨h1, _, h3⟩ := bQ (h K hK)
  exact ⟨h3, h1⟩
theorem uZ {ks : List Tree} (h : okK ks) : ∀ K ∈ ks, K.size ≤ 200000 := fun K hK => by
  obtain ⟨_, h2, _⟩ := bQ (h K hK)
  omega
set_option maxHeartbeats 16000000 in
set_option maxRecDepth 10000 in
theorem aAV {X : IV} {ks : List Tree} (hX : rowIV X ks) (hk : okK ks) (hl : ks.length ≤ 100000) (c : Tree) (hs : c.size ≤ 100000000) :
    ACalls Tryz.prog 18 [.imm X, .imm c.iv] [] (.imm (.tup [(KindP ks c).1.iv, .lit (.int .i64 (KindP ks c).2)])) [] := by
  have c1 := eM c hs
  have c2 : checkP isConP c = 0 → ACalls Tryz.prog 34 [.imm X, .imm c.iv] [] (.imm (.tup [(kindP c ks).1.iv, .lit (.int .i64 (kindP c ks).2)])) [] := fun h => by
    obtain ⟨h1, h2, h3⟩ := bQ h
    exact aCm c ks X h3 h1 hX (yB hk) (uZ hk) (by omega)
  unfold KindP
  generalize kindP c ks = Q at *
  generalize checkP isConP c = e at *
  rcases hX with ⟨f, rfl⟩ | ⟨rfl, rfl⟩
  · refine aJ Tryz.func18 rfl rfl (nb rfl) rfl ?_
    repeat' (first | refine aG ?_ | (refine aI ?_;  first | refine aC tabOk rfl rfl rfl (nb rfl) rfl ?_ | refine aY tabOk rfl rfl (nb rfl) rfl ?_) | (refine aN ?_;  first | refine aH ?_ | refine aQ ?_ | refine aX ?_))
    refine cH (ι := {j : Nat // j ≤ ks.length}) (fun j => S.f ⟨[(13, .imm (.lit (.int .i64 (j.1 : Int)))), (12, .imm (.lit (.int .i64 (ks.length : Int)))), (11, .imm (.sl f ks.length (Tree.ivs ks))), (0, .imm (.sl f ks.length (Tree.ivs ks))), (1, .imm c.iv), (6, .imm (.lit (.int .i64 0)))], []⟩) (fun j => ks.length - j.1) ⟨0, Nat.zero_le _⟩ (bW (by repeat' first | exact trivial | refine ⟨rfl, ?_⟩) (by repeat' first | exact trivial | refine ⟨rfl, ?_⟩)) ?_
    rintro ⟨j, hj⟩
    dsimp only
    by_cases hlt : j < ks.length
    · have hget := cS ks j hlt
      have hkj := hk _ (List.getElem_mem hlt)
      have c3 := oX ks[j] (by have := (bQ hkj).2.1; omega)
      rw [hkj] at c3
      generalize Tree.ivs ks = Z at *
      repeat' (first | refine aG ?_ | (refine aI ?_;  first | refine aC tabOk rfl rfl rfl (nb rfl) rfl ?_ | (refine aK rfl rfl rfl (nb rfl) rfl rfl rfl (fun hq => ?_) (fun hq => ?_) <;> (first | (simp only [sD, sE, sB, sC, sN, sM, sT, sF] at hq; try (exfalso; omega)) | skip)) | refine bO tabOk rfl rfl rfl (nb rfl) rfl rfl rfl hget ?_ | refine aD rfl rfl (nb rfl) rfl rfl rfl rfl (c3) ?_ | refine bX rfl rfl rfl (nb rfl) rfl rfl (by omega) ?_ | refine bH tabOk rfl rfl rfl (nb rfl) rfl rfl rfl rfl (by first | assumption | omega) ?_) | (refine aN ?_;  first | refine aH ?_ | refine aQ ?_ | refine bI ?_ | refine aX ?_ | refine aZ ?_ | refine aE (b := true) rfl (fun _ => ?_) nTf) | (refine aM ?_;  first | refine bA ?_) | (refine aW ?_;  first | refine bS ?_))
      all_goals first
        | (exfalso; omega)
        | exact absurd rfl (by assumption)
        | exact ⟨⟨j + 1, hlt⟩, (by show ks.length - (j + 1) < ks.length - j; omega), (bW (by repeat' first | exact trivial | refine ⟨rfl, ?_⟩) (by repeat' first | exact trivial | refine ⟨rfl, ?_⟩))⟩
    · have ej : j = ks.length := by omega
      subst ej
      generalize Tree.ivs ks = Z at *
      by_cases h0 : e = 0
      · have c4 := c2 h0
        subst h0
        rw [if_neg (by simp)]
        obtain ⟨Q1, Q2⟩ := Q
        dsimp only at *
        generalize Q1.iv = qi at *
        repeat' (first | refine aG ?_ | (refine aI ?_;  first | refine aC tabOk rfl rfl rfl (nb rfl) rfl ?_ | (refine aK rfl rfl rfl (nb rfl) rfl rfl rfl (fun hq => ?_) (fun hq => ?_) <;> (first | (simp only [sD, sE, sB, sC, sN, sM, sT, sF] at hq; try (exfalso; omega)) | skip)) | refine aD rfl rfl (nb rfl) rfl rfl rfl rfl (c1) ?_ | refine aD rfl rfl (nb rfl) rfl rfl rfl rfl (c4) ?_) | (refine aN ?_;  first | refine aH ?_ | refine aQ ?_ | refine aT ?_ | refine bY ?_ | refine aZ ?_ | refine aE (b := false) rfl nFt (fun _ => ?_)) | (refine aM ?_;  first | refine bA ?_ | refine bN ?_) | (refine aW ?_;  first | refine bJ ?_))
        all_goals first
          | (exfalso; omega)
          | exact absurd rfl (by assumption)
          | (refine aU (by first | exact .inl rfl | exact .inr rfl) (bB rfl (aA rfl) (aA rfl)) rfl ?_; rfl)
      · rw [if_pos h0]
        repeat' (first | refine aG ?_ | (refine aI ?_;  first | refine aC tabOk rfl rfl rfl (nb rfl) rfl ?_ | (refine aK rfl rfl rfl (nb rfl) rfl rfl rfl (fun hq => ?_) (fun hq => ?_) <;> (first | (simp only [sD, sE, sB, sC, sN, sM, sT, sF] at hq; try (exfalso; omega)) | skip)) | refine aD rfl rfl (nb rfl) rfl rfl rfl rfl (c1) ?_) | (refine aN ?_;  first | refine aH ?_ | refine aQ ?_ | refine aT ?_ | refine bY ?_ | refine aE (b := true) rfl (fun _ => ?_) nTf | refine aE (b := false) rfl nFt (fun _ => ?_)) | (refine aM ?_;  first | refine bA ?_ | refine bN ?_ | refine aV ?_) | (refine aW ?_;  first | refine bJ ?_))
        all_goals first
          | (exfalso; omega)
          | exact absurd rfl (by assumption)
          | (refine aU (by first | exact .inl rfl | exact .inr rfl) (bB rfl (aA rfl) (aA rfl)) rfl ?_; rfl)
  · refine aJ Tryz.func18 rfl rfl (nb rfl) rfl ?_
    repeat' (first | refine aG ?_ | (refine aI ?_;  first | refine aC tabOk rfl rfl rfl (nb rfl) rfl ?_ | refine aY tabOk rfl rfl (nb rfl) rfl ?_) | (refine aN ?_;  first | refine aH ?_ | refine aQ ?_ | refine aX ?_))
    refine cH (ι := Unit) (fun _ => S.f ⟨[(13, .imm (.lit (.int .i64 0))), (12, .imm (.lit (.int .i64 0))), (0, .imm (.lit (.slice none 0 0))), (1, .imm c.iv), (6, .imm (.lit (.int .i64 0)))], []⟩) (fun _ => 0) () (bW (by repeat' first | exact trivial | refine ⟨rfl, ?_⟩) (by repeat' first | exact trivial | refine ⟨rfl, ?_⟩)) ?_
    rintro ⟨⟩
    by_cases h0 : e = 0
    · have c4 := c2 h0
      subst h0
      rw [if_neg (by simp)]
      obtain ⟨Q1, Q2⟩ := Q
      dsimp only at *
      generalize Q1.iv = qi at *
      repeat' (first | refine aG ?_ | (refine aI ?_;  first | refine aC tabOk rfl rfl rfl (nb rfl) rfl ?_ | (refine aK rfl rfl rfl (nb rfl) rfl rfl rfl (fun hq => ?_) (fun hq => ?_) <;> (first | (simp only [sD, sE, sB, sC, sN, sM, sT, sF] at hq; try (exfalso; omega)) | skip)) | refine aD rfl rfl (nb rfl) rfl rfl rfl rfl (c1) ?_ | refine aD rfl rfl (nb rfl) rfl rfl rfl rfl (c4) ?_) | (refine aN ?_;  first | refine aH ?_ | refine aQ ?_ | refine aT ?_ | refine bY ?_ | refine aZ ?_ | refine aE (b := false) rfl nFt (fun _ => ?_)) | (refine aM ?_;  first | refine bA ?_ | refine bN ?_) | (refine aW ?_;  first | refine bJ ?_))
      all_goals first
        | (exfalso; omega)
        | exact absurd rfl (by assumption)
        | (refine aU (by first | exact .inl rfl | exact .inr rfl) (bB rfl (aA rfl) (aA rfl)) rfl ?_; rfl)
    · rw [if_pos h0]
      repeat' (first | refine aG ?_ | (refine aI ?_;  first | refine aC tabOk rfl rfl rfl (nb rfl) rfl ?_ | (refine aK rfl rfl rfl (nb rfl) rfl rfl rfl (fun hq => ?_) (fun hq => ?_) <;> (first | (simp only [sD, sE, sB, sC, sN, sM, sT, sF] at hq; try (exfalso; omega)) | skip)) | refine aD rfl rfl (nb rfl) rfl rfl rfl rfl (c1) ?_) | (refine aN ?_;  first | refine aH ?_ | refine aQ ?_ | refine aT ?_ | refine bY ?_ | refine aE (b := true) rfl (fun _ => ?_) nTf | refine aE (b := false) rfl nFt (fun _ => ?_)) | (refine aM ?_;  first | refine bA ?_ | refine bN ?_ | refine aV ?_) | (refine aW ?_;  first | refine bJ ?_))
      all_goals first
        | (exfalso; omega)
        | exact absurd rfl (by assumption)
        | (refine aU (by first | exact .inl rfl | exact .inr rfl) (bB rfl (aA rfl) (aA rfl)) rfl ?_; rfl)
theorem pW (ks : List Tree) (c : Tree) (hk : okK ks) : fineK 400000 (KindP ks c) := fun h => by
  unfold KindP at h ⊢
  split at h
  · rename_i h1; exact absurd h h1
  · rename_i h1
    rw [if_neg h1]
    obtain ⟨g1, g2, g3⟩ := bQ (show checkP isConP c = 0 by simpa using h1)
    obtain ⟨f1, f2, f3⟩ := eK c ks 200000 g3 g1 (yB hk) (uZ hk) (by omega) h
    exact ⟨f1, f2, by omega⟩
set_option maxHeartbeats 4000000 in
set_option maxRecDepth 10000 in
theorem xC {X : IV} {ks : List Tree} (hX : rowIV X ks) (hk : okK ks) (hl : ks.length ≤ 100000) (c : Tree) (hs : c.size ≤ 100000000) :
    ACalls Tryz.prog 8 [.imm X, .imm c.iv] [] (.imm (.lit (.int .i64 (starE ks c)))) [] := by
  have c1 := aAV hX hk hl c hs
  have hf := pW ks c hk
  unfold starE
  generalize KindP ks c = Q at *
  obtain ⟨Q1, Q2⟩ := Q
  dsimp only at *
  by_cases h0 : Q2 = 0
  · obtain ⟨g1, g2, g3⟩ := hf h0
    subst h0
    obtain ⟨k, n, a, b, ks', rfl⟩ := cJ g2
    rw [Tree.iv] at c1
    generalize Tree.ivs ks' = Z at *
    rw [Tree.kind]
    by_cases h1 : k = 100
    · subst h1
      rw [if_neg (by simp)]
      clear hf g1 g2 g3
      refine aJ Tryz.func8 rfl rfl (nb rfl) rfl ?_
      repeat' (first | refine aG ?_ | (refine aI ?_;  first | refine aC tabOk rfl rfl rfl (nb rfl) rfl ?_ | (refine aK rfl rfl rfl (nb rfl) rfl rfl rfl (fun hq => ?_) (fun hq => ?_) <;> (first | (simp only [sD, sE, sB, sC, sN, sM, sT, sF] at hq; try (exfalso; omega)) | skip)) | refine aD rfl rfl (nb rfl) rfl rfl rfl rfl (c1) ?_) | (refine aN ?_;  first | refine aH ?_ | refine aQ ?_ | refine aT ?_ | refine aZ ?_ | refine aE (b := false) rfl nFt (fun _ => ?_)) | (refine aM ?_;  first | refine bA ?_))
      all_goals first
        | (exfalso; omega)
        | exact absurd rfl (by assumption)
        | (refine aU (by first | exact .inl rfl | exact .inr rfl) (bC rfl (aA rfl)) rfl ?_; rfl)
    · rw [if_pos ⟨rfl, h1⟩]
      clear hf g1 g2 g3
      refine aJ Tryz.func8 rfl rfl (nb rfl) rfl ?_
      repeat' (first | refine aG ?_ | (refine aI ?_;  first | refine aC tabOk rfl rfl rfl (nb rfl) rfl ?_ | (refine aK rfl rfl rfl (nb rfl) rfl rfl rfl (fun hq => ?_) (fun hq => ?_) <;> (first | (simp only [sD, sE, sB, sC, sN, sM, sT, sF] at hq; try (exfalso; omega)) | skip)) | refine aD rfl rfl (nb rfl) rfl rfl rfl rfl (c1) ?_) | (refine aN ?_;  first | refine aH ?_ | refine aQ ?_ | refine aT ?_ | refine aE (b := true) rfl (fun _ => ?_) nTf) | (refine aM ?_;  first | refine aV ?_))
      all_goals first
        | (exfalso; omega)
        | exact absurd rfl (by assumption)
        | (refine aU (by first | exact .inl rfl | exact .inr rfl) (bC rfl (aA rfl)) rfl ?_; rfl)
  · rw [if_neg fun h => h0 h.1]
    generalize Q1.iv = qi at *
    clear hf
    refine aJ Tryz.func8 rfl rfl (nb rfl) rfl ?_
    repeat' (first | refine aG ?_ | (refine aI ?_;  first | refine aC tabOk rfl rfl rfl (nb rfl) rfl ?_ | refine cA rfl rfl (nb rfl) ?_ | (refine aK rfl rfl rfl (nb rfl) rfl rfl rfl (fun hq => ?_) (fun hq => ?_) <;> (first | (simp only [sD, sE, sB, sC, sN, sM, sT, sF] at hq; try (exfalso; omega)) | skip)) | refine aD rfl rfl (nb rfl) rfl rfl rfl rfl (c1) ?_) | (refine aN ?_;  first | refine aH ?_ | refine aQ ?_ | refine aT ?_ | refine aZ ?_ | refine aE (b := false) rfl nFt (fun _ => ?_)) | (refine aM ?_;  first | refine bA ?_))
    all_goals first
      | (exfalso; omega)
      | exact absurd rfl (by assumption)
      | (refine aU (by first | exact .inl rfl | exact .inr rfl) (bC rfl (aA rfl)) rfl ?_; rfl)
end Go.Proofs.YtocaohipfiapkaaGreat.Ab
namespace Go.Proofs.YtocaohipfiapkaaGreat.Ab
set_option linter.unusedVariables false
set_option linter.unusedSimpArgs false
open Go.RowKit
theorem vA {P : Program} {fn : Func} {r r' : AV} {e : Exit} {s : List (Nat × AV)} {m m0 m' : Mem} (he : e = .normal ∨ e = .ret) (hr : Results P fn (S.f ⟨s, m⟩) r') (hn : ∀ g ∈ r'.names, m'.get g ≠ none) (hl : LeM m m') (hm : m'.all (fun p => p.2.names.isEmpty) = true) (h : r' = r) : AExit P fn m0.get r m'.get e (S.f ⟨s, m⟩) := by
  subst h
  refine ⟨he, hr, fun g o hg => hl.get g o hg, fun g hg => .inr (hn g hg), fun g o hg k hk => ?_⟩
  have key : ∀ l : Mem, l.all (fun p => p.2.names.isEmpty) = true → l.get g = some o → o.names = [] := by
    intro l
    induction l with
    | nil => intro _ h; cases h
    | cons p l ih =>
      intro h1 h2
      rw [List.all_cons, Bool.and_eq_true] at h1
      simp only [Mem.get] at h2
      split at h2
      · cases h2; simpa using h1.1
      · exact ih h1.2 h2
  rw [key m' hm hg] at hk
  cases hk
attribute [local irreducible] AWP AOps AExit AThen ABlock ANoGoto FeetOk
/-- A context, as a struct of two lists. -/
abbrev cIV (ks ts : List Tree) : IV := .agg [.sl false ks.length (Tree.ivs ks), .sl false ts.length (Tree.ivs ts)]
set_option maxHeartbeats 4000000 in
set_option maxRecDepth 10000 in
theorem aAW (k : Int) (px py : List IV) (f : Bool) : ACalls Tryz.prog 29 [.imm (.lit (.int .i64 k)), .imm (.sl f 2 [.ptr px 0, .ptr py 0])] [] (.imm (.ptr [.lit (.int .i64 k), .lit (.int .i64 0), .lit (.string ⟨#[]⟩), .lit (.string ⟨#[]⟩), .sl false 2 [.ptr px 0, .ptr py 0]] 0)) [] := by
  cases f
  · refine aJ Tryz.func29 rfl rfl (nb rfl) rfl ?_
    repeat' (first | refine aG ?_ | (refine aI ?_;  first | refine aC tabOk rfl rfl rfl (nb rfl) rfl ?_ | refine aY tabOk rfl rfl (nb rfl) rfl ?_) | (refine aN ?_;  first | refine aH ?_ | refine aT ?_))
    all_goals (refine aU (by first | exact .inl rfl | exact .inr rfl) (bC rfl (aA rfl)) rfl ?_; rfl)
  · refine aJ Tryz.func29 rfl rfl (nb rfl) rfl ?_
    repeat' (first | refine aG ?_ | (refine aI ?_;  first | refine aC tabOk rfl rfl rfl (nb rfl) rfl ?_ | refine aY tabOk rfl rfl (nb rfl) rfl ?_) | (refine aN ?_;  first | refine aH ?_ | refine aT ?_))
    all_goals (refine aU (by first | exact .inl rfl | exact .inr rfl) (bC rfl (aA rfl)) rfl ?_; rfl)
set_option maxHeartbeats 4000000 in
set_option maxRecDepth 10000 in
theorem xD (k : Int) : ACalls Tryz.prog 29 [.imm (.lit (.int .i64 k)), .imm (.lit (.slice none 0 0))] [] (.imm (tyT k []).iv) [] := by
  show ACalls _ _ _ _ (.imm (.ptr [.lit (.int .i64 k), .lit (.int .i64 0), .lit (.string ⟨#[]⟩), .lit (.string ⟨#[]⟩), .sl false 0 []] 0)) _
  refine aJ Tryz.func29 rfl rfl (nb rfl) rfl ?_
  repeat' (first | refine aG ?_ | (refine aI ?_;  first | refine aC tabOk rfl rfl rfl (nb rfl) rfl ?_ | refine aY tabOk rfl rfl (nb rfl) rfl ?_) | (refine aN ?_;  first | refine aH ?_ | refine aT ?_))
  all_goals (refine aU (by first | exact .inl rfl | exact .inr rfl) (bC rfl (aA rfl)) rfl ?_; rfl)
set_option maxHeartbeats 4000000 in
set_option maxRecDepth 10000 in
/-- con, of which a variable is to be made. -/
theorem aCn (k : Int) : ACalls Tryz.prog 29 [.imm (.lit (.int .i64 k)), .imm (.lit (.slice none 0 0))] [(600, .fut)] (.obj 600 0)
    [(600, .cells [.imm (.lit (.int .i64 k)), .imm (.lit (.int .i64 0)), .imm (.lit (.string ⟨#[]⟩)), .imm (.lit (.string ⟨#[]⟩)), .imm (.lit (.slice none 0 0))])] := by
  refine bZ [600] Tryz.func29 rfl rfl (nb rfl) rfl rfl ?_
  repeat' (first | refine aG ?_ | (refine aI ?_;  first | refine aC tabOk rfl rfl rfl (nb rfl) rfl ?_ | refine gI (d := 7) tabOk rfl rfl rfl (nb rfl) rfl rfl rfl rfl rfl ?_ | refine zS 600 (d := 8) rfl rfl rfl (nb rfl) rfl rfl rfl rfl rfl ?_) | (refine aN ?_;  first | refine aH ?_ | refine aT ?_))
  all_goals
    (refine cG (vA (by first | exact .inl rfl | exact .inr rfl) (bC rfl (aA rfl)) (by intro g hg; rw [List.mem_singleton.1 hg]; simp [Mem.get]) (by repeat' first | exact trivial | refine ⟨rfl, ?_⟩) rfl ?_); rfl)
set_option maxHeartbeats 4000000 in
set_option maxRecDepth 10000 in
theorem lY (n b : Tree) (hs : n.size ≤ 100000000) (hb : b.size ≤ 100000000) : ACalls Tryz.prog 78 [.imm n.iv, .imm b.iv] [] (.imm (.tup [(filledP n b).1.iv, .lit (.int .i64 (filledP n b).2)])) [] := by
  have c1 := xW n 0 b hs hb
  have hf := fun h => (nC n 0 b h).2.1
  unfold filledP
  generalize substP n 0 b = R at *
  obtain ⟨R1, R2⟩ := R
  dsimp only at *
  by_cases h0 : R2 = 0
  · have c2 := pB R1 (by have := hf h0; omega)
    subst h0
    rw [if_neg (by simp)]
    generalize normalP 1000 R1 = Q at *
    obtain ⟨Q1, Q2⟩ := Q
    dsimp only at *
    generalize Q1.iv = qi at *
    generalize R1.iv = ri at *
    refine aJ Tryz.func78 rfl rfl (nb rfl) rfl ?_
    repeat' (first | refine aG ?_ | (refine aI ?_;  first | refine aC tabOk rfl rfl rfl (nb rfl) rfl ?_ | (refine aK rfl rfl rfl (nb rfl) rfl rfl rfl (fun hq => ?_) (fun hq => ?_) <;> (first | (simp only [sD, sE, sB, sC, sN, sM, sT, sF] at hq; try (exfalso; omega)) | skip)) | refine aD rfl rfl (nb rfl) rfl rfl rfl rfl (c1) ?_ | refine aD rfl rfl (nb rfl) rfl rfl rfl rfl (c2) ?_) | (refine aN ?_;  first | refine aH ?_ | refine aQ ?_ | refine aT ?_ | refine aZ ?_ | refine aE (b := false) rfl nFt (fun _ => ?_)) | (refine aM ?_;  first | refine bA ?_))
    all_goals first
      | (exfalso; omega)
      | exact absurd rfl (by assumption)
      | (refine aU (by first | exact .inl rfl | exact .inr rfl) (bB rfl (aA rfl) (aA rfl)) rfl ?_; rfl)
  · rw [if_pos h0]
    generalize R1.iv = ri at *
    refine aJ Tryz.func78 rfl rfl (nb rfl) rfl ?_
    repeat' (first | refine aG ?_ | (refine aI ?_;  first | refine aC tabOk rfl rfl rfl (nb rfl) rfl ?_ | (refine aK rfl rfl rfl (nb rfl) rfl rfl rfl (fun hq => ?_) (fun hq => ?_) <;> (first | (simp only [sD, sE, sB, sC, sN, sM, sT, sF] at hq; try (exfalso; omega)) | skip)) | refine aD rfl rfl (nb rfl) rfl rfl rfl rfl (c1) ?_) | (refine aN ?_;  first | refine aH ?_ | refine aQ ?_ | refine aT ?_ | refine aE (b := true) rfl (fun _ => ?_) nTf) | (refine aM ?_;  first | refine aV ?_))
    all_goals first
      | (exfalso; omega)
      | exact absurd rfl (by assumption)
      | (refine aU (by first | exact .inl rfl | exact .inr rfl) (bB rfl (aA rfl) (aA rfl)) rfl ?_; rfl)
set_option maxHeartbeats 4000000 in
set_option maxRecDepth 10000 in
theorem aBK (ks ts : List Tree) (hk : okK ks) (hl : ks.length ≤ 100000) (c : Tree) (hs : c.size ≤ 100000000) :
    ACalls Tryz.prog 75 [.imm (cIV ks ts), .imm c.iv] [] (.imm (.tup [(starT ks c).1.iv, .lit (.int .i64 (starT ks c).2)])) [] := by
  have c1 := xC (dY false ks) hk hl c hs
  have c2 := pB c hs
  unfold starT cIV
  generalize starE ks c = e at *
  generalize normalP 1000 c = Q at *
  obtain ⟨Q1, Q2⟩ := Q
  dsimp only at *
  generalize Tree.ivs ks = KI at *
  generalize Tree.ivs ts = TI at *
  generalize ks.length = kl at *
  generalize ts.length = tl at *
  by_cases h0 : e = 0
  · subst h0
    rw [if_neg (by simp)]
    dsimp only
    generalize Q1.iv = qi at *
    refine aJ Tryz.func75 rfl rfl (nb rfl) rfl ?_
    repeat' (first | refine aG ?_ | (refine aI ?_;  first | refine aC tabOk rfl rfl rfl (nb rfl) rfl ?_ | (refine aK rfl rfl rfl (nb rfl) rfl rfl rfl (fun hq => ?_) (fun hq => ?_) <;> (first | (simp only [sD, sE, sB, sC, sN, sM, sT, sF] at hq; try (exfalso; omega)) | skip)) | refine aD rfl rfl (nb rfl) rfl rfl rfl rfl (c1) ?_ | refine aD rfl rfl (nb rfl) rfl rfl rfl rfl (c2) ?_ | refine aY tabOk rfl rfl (nb rfl) rfl ?_) | (refine aN ?_;  first | refine aH ?_ | refine aQ ?_ | refine aT ?_ | refine aZ ?_ | refine aE (b := false) rfl nFt (fun _ => ?_)) | (refine aM ?_;  first | refine bA ?_))
    all_goals first
      | (exfalso; omega)
      | exact absurd rfl (by assumption)
      | (refine aU (by first | exact .inl rfl | exact .inr rfl) (bB rfl (aA rfl) (aA rfl)) rfl ?_; rfl)
  · rw [if_pos h0]
    refine aJ Tryz.func75 rfl rfl (nb rfl) rfl ?_
    repeat' (first | refine aG ?_ | (refine aI ?_;  first | refine aC tabOk rfl rfl rfl (nb rfl) rfl ?_ | (refine aK rfl rfl rfl (nb rfl) rfl rfl rfl (fun hq => ?_) (fun hq => ?_) <;> (first | (simp only [sD, sE, sB, sC, sN, sM, sT, sF] at hq; try (exfalso; omega)) | skip)) | refine aD rfl rfl (nb rfl) rfl rfl rfl rfl (c1) ?_ | refine aY tabOk rfl rfl (nb rfl) rfl ?_) | (refine aN ?_;  first | refine aH ?_ | refine aQ ?_ | refine aT ?_ | refine aE (b := true) rfl (fun _ => ?_) nTf) | (refine aM ?_;  first | refine aV ?_))
    all_goals first
      | (exfalso; omega)
      | exact absurd rfl (by assumption)
      | (refine aU (by first | exact .inl rfl | exact .inr rfl) (bB rfl (aA rfl) (aA rfl)) rfl ?_; rfl)
set_option maxHeartbeats 4000000 in
set_option maxRecDepth 10000 in
theorem as_a (ks ts : List Tree) (x : Tree) (R : Tree × Int) (kind : Int) (hw : R.2 = 0 → R.1.whole = true)
    (c1 : ACalls Tryz.prog 17 [.imm (cIV ks ts), .imm x.iv] [] (.imm (.tup [R.1.iv, .lit (.int .i64 R.2)])) []) :
    ACalls Tryz.prog 76 [.imm (cIV ks ts), .imm x.iv, .imm (.lit (.int .i64 kind))] [] (.imm (.tup [(asP R kind).1.iv, .lit (.int .i64 (asP R kind).2)])) [] := by
  obtain ⟨Q1, Q2⟩ := R
  unfold asP
  unfold cIV at *
  dsimp only at *
  generalize Tree.ivs ks = KI at *
  generalize Tree.ivs ts = TI at *
  generalize ks.length = kl at *
  generalize ts.length = tl at *
  by_cases h0 : Q2 = 0
  · obtain ⟨k, n, a, b, kids, rfl⟩ := cJ (hw h0)
    subst h0
    rw [Tree.kind]
    clear hw
    by_cases h1 : k = kind
    · rw [if_neg (by simpa using h1)]
      subst h1
      rw [Tree.iv] at *
      generalize Tree.ivs kids = Z at *
      refine aJ Tryz.func76 rfl rfl (nb rfl) rfl ?_
      repeat' (first | refine aG ?_ | (refine aI ?_;  first | refine aC tabOk rfl rfl rfl (nb rfl) rfl ?_ | (refine aK rfl rfl rfl (nb rfl) rfl rfl rfl (fun hq => ?_) (fun hq => ?_) <;> (first | (simp only [sD, sE, sB, sC, sN, sM, sT, sF] at hq; try (exfalso; omega)) | skip)) | refine aD rfl rfl (nb rfl) rfl rfl rfl rfl (c1) ?_ | refine aY tabOk rfl rfl (nb rfl) rfl ?_) | (refine aN ?_;  first | refine aH ?_ | refine aQ ?_ | refine aT ?_ | refine aZ ?_ | refine aE (b := false) rfl nFt (fun _ => ?_)) | (refine aM ?_;  first | refine bA ?_))
      all_goals first
        | (exfalso; omega)
        | exact absurd rfl (by assumption)
        | (refine aU (by first | exact .inl rfl | exact .inr rfl) (bB rfl (aA rfl) (aA rfl)) rfl ?_; rfl)
    · rw [if_pos ⟨rfl, h1⟩]
      rw [Tree.iv] at c1
      generalize Tree.ivs kids = Z at *
      refine aJ Tryz.func76 rfl rfl (nb rfl) rfl ?_
      repeat' (first | refine aG ?_ | (refine aI ?_;  first | refine aC tabOk rfl rfl rfl (nb rfl) rfl ?_ | (refine aK rfl rfl rfl (nb rfl) rfl rfl rfl (fun hq => ?_) (fun hq => ?_) <;> (first | (simp only [sD, sE, sB, sC, sN, sM, sT, sF] at hq; try (exfalso; omega)) | skip)) | refine aD rfl rfl (nb rfl) rfl rfl rfl rfl (c1) ?_ | refine aY tabOk rfl rfl (nb rfl) rfl ?_) | (refine aN ?_;  first | refine aH ?_ | refine aQ ?_ | refine aT ?_ | refine aE (b := true) rfl (fun _ => ?_) nTf) | (refine aM ?_;  first | refine aV ?_))
      all_goals first
        | (exfalso; omega)
        | exact absurd rfl (by assumption)
        | (refine aU (by first | exact .inl rfl | exact .inr rfl) (bB rfl (aA rfl) (aA rfl)) rfl ?_; rfl)
  · rw [if_neg fun h => h0 h.1]
    generalize Q1.iv = qi at *
    clear hw
    refine aJ Tryz.func76 rfl rfl (nb rfl) rfl ?_
    repeat' (first | refine aG ?_ | (refine aI ?_;  first | refine aC tabOk rfl rfl rfl (nb rfl) rfl ?_ | refine cA rfl rfl (nb rfl) ?_ | (refine aK rfl rfl rfl (nb rfl) rfl rfl rfl (fun hq => ?_) (fun hq => ?_) <;> (first | (simp only [sD, sE, sB, sC, sN, sM, sT, sF] at hq; try (exfalso; omega)) | skip)) | refine aD rfl rfl (nb rfl) rfl rfl rfl rfl (c1) ?_ | refine aY tabOk rfl rfl (nb rfl) rfl ?_) | (refine aN ?_;  first | refine aH ?_ | refine aQ ?_ | refine aT ?_ | refine aZ ?_ | refine aE (b := false) rfl nFt (fun _ => ?_)) | (refine aM ?_;  first | refine bA ?_))
    all_goals first
      | (exfalso; omega)
      | exact absurd rfl (by assumption)
      | (refine aU (by first | exact .inl rfl | exact .inr rfl) (bB rfl (aA rfl) (aA rfl)) rfl ?_; rfl)
end Go.Proofs.YtocaohipfiapkaaGreat.Ab
namespace Go.Proofs.YtocaohipfiapkaaGreat.Ab
set_option linter.unusedVariables false
set_option linter.unusedSimpArgs false
open Go.RowKit
attribute [local irreducible] AWP AOps AExit AThen ABlock ANoGoto FeetOk
/-- What was gathered, ahead of what is gathered yet. -/
def accP (acc : List Tree) (L : List Tree × Int) : List Tree × Int := if L.2 ≠ 0 then ([], L.2) else (acc ++ L.1, 0)
theorem mL {acc : List Tree} {R : Tree × Int} {L : List Tree × Int} (h : R.2 = 0) : accP acc (consP R L) = accP (acc ++ [R.1]) L := by
  by_cases h2 : L.2 = 0
  · simp [consP, accP, h, h2]
  · simp [consP, accP, h, h2]
theorem pX {acc : List Tree} {R : Tree × Int} {L : List Tree × Int} (h : R.2 ≠ 0) : accP acc (consP R L) = ([], R.2) := by
  simp [consP, accP, h]
theorem pY (acc : List Tree) : accP acc ([], 0) = (acc, 0) := by
  unfold accP
  simp
theorem mM (L : List Tree × Int) (h : L.2 ≠ 0 → L.1 = []) : accP [] L = L := by
  obtain ⟨l, e⟩ := L
  unfold accP
  dsimp only at *
  by_cases h2 : e = 0
  · simp [h2]
  · rw [if_pos h2, h h2]
theorem lZ (t : Tree) (ts : List Tree) : shiftsP (t :: ts) = consP (shiftP t 1 0) (shiftsP ts) := by rw [shiftsP]; rfl
theorem vB : ∀ ts : List Tree, (shiftsP ts).2 ≠ 0 → (shiftsP ts).1 = []
  | [], h => absurd rfl h
  | t :: ts, h => by
    rw [lZ] at h ⊢
    unfold consP at h ⊢
    split
    · rfl
    · rename_i h1
      rw [if_neg h1] at h
      split
      · rfl
      · rename_i h2; rw [if_neg h2] at h; exact absurd rfl h
set_option maxHeartbeats 8000000 in
set_option maxRecDepth 10000 in
theorem aAX (ks ts : List Tree) (T : Tree) (hT : T.whole = true) (hl : ts.length ≤ 900000) :
    ACalls Tryz.prog 31 [.imm (cIV ks ts), .imm T.iv] [] (.imm (cIV ks (T :: ts))) [] := by
  obtain ⟨pt, hpt⟩ := bT (bK hT)
  have c1 := pS true pt false ts.length (Tree.ivs ts) hl (dD ts)
  unfold cIV
  rw [Tree.ivs, hpt, List.length_cons, Nat.add_comm ts.length 1]
  generalize Tree.ivs ks = KI at *
  generalize Tree.ivs ts = TI at *
  generalize ks.length = kl at *
  generalize ts.length = tl at *
  refine aJ Tryz.func31 rfl rfl (nb rfl) rfl ?_
  repeat' (first | refine aG ?_ | (refine aI ?_;  first | refine aC tabOk rfl rfl rfl (nb rfl) rfl ?_ | refine aD rfl rfl (nb rfl) rfl rfl rfl rfl (c1) ?_ | refine cI tabOk rfl rfl rfl (nb rfl) rfl rfl rfl rfl rfl rfl rfl rfl rfl ?_ | refine aY tabOk rfl rfl (nb rfl) rfl ?_ | refine dC tabOk rfl rfl rfl (nb rfl) rfl rfl rfl rfl rfl rfl ?_ | refine bP tabOk rfl rfl rfl rfl rfl rfl rfl rfl rfl rfl rfl ?_) | (refine aN ?_;  first | refine aH ?_ | refine aQ ?_ | refine aT ?_ | refine aR mixed (by kernel_rfl) ?_) | (refine aM ?_;  first | refine bA ?_) | refine bG (bF (by kernel_rfl)) ?_)
  all_goals (refine aU (by first | exact .inl rfl | exact .inr rfl) (bC rfl (iV rfl rfl (tabOk _ _ rfl).1 rfl rfl)) rfl ?_; rfl)
set_option maxHeartbeats 16000000 in
set_option maxRecDepth 10000 in
theorem yC (ks ts : List Tree) (K : Tree) (hK : K.whole = true) (hkl : ks.length ≤ 900000) (hl : ts.length ≤ 900000) (ht : ∀ T ∈ ts, T.whole = true ∧ T.size ≤ 100000000) :
    ACalls Tryz.prog 30 [.imm (cIV ks ts), .imm K.iv] [] (.imm (.tup [if (shiftsP ts).2 ≠ 0 then cIV ks ts else cIV (K :: ks) (shiftsP ts).1, .lit (.int .i64 (shiftsP ts).2)])) [] := by
  obtain ⟨pk, hpk⟩ := bT (bK hK)
  have c1 := pS true pk false ks.length (Tree.ivs ks) hkl (dD ks)
  have hQ0 := mM (shiftsP ts) (vB ts)
  have hQl : (shiftsP ts).2 = 0 → (shiftsP ts).1.length = ts.length := fun h => (fN ts h).1
  generalize hQ : shiftsP ts = Q at *
  unfold cIV
  rw [Tree.ivs, hpk, List.length_cons, Nat.add_comm ks.length 1]
  generalize Tree.ivs ks = KI at *
  generalize ks.length = kl at *
  refine cL Tryz.func30 rfl rfl (nb rfl) rfl ?_
  repeat' (first | refine aG ?_ | (refine aI ?_;  first | refine aC tabOk rfl rfl rfl (nb rfl) rfl ?_ | refine gI (d := 17) tabOk rfl rfl rfl (nb rfl) rfl rfl rfl rfl rfl ?_ | refine aD rfl rfl (nb rfl) rfl rfl rfl rfl (c1) ?_ | refine cI tabOk rfl rfl rfl (nb rfl) rfl rfl rfl rfl rfl rfl rfl rfl rfl ?_ | refine aY tabOk rfl rfl (nb rfl) rfl ?_ | refine dC tabOk rfl rfl rfl (nb rfl) rfl rfl rfl rfl rfl rfl ?_ | refine bP tabOk rfl rfl rfl rfl rfl rfl rfl rfl rfl rfl rfl ?_) | (refine aN ?_;  first | refine aH ?_ | refine aQ ?_ | refine aX ?_))
  refine cW (eX (h0 := 6) (k0 := 1) 500 28 1 rfl rfl (by simp) rfl rfl) ?_
  refine cH (ι := {p : Nat × List Tree // p.1 ≤ ts.length ∧ p.2.length = p.1 ∧ accP p.2 (shiftsP (ts.drop p.1)) = Q}) (fun p => S.f ⟨[(21, .imm (.lit (.int .i64 (p.1.1 : Int)))), (20, .imm (.lit (.int .i64 (ts.length : Int)))), (19, .imm (.sl false ts.length (Tree.ivs ts))), (2, .imm (.ptr [.sl false kl KI, .sl false ts.length (Tree.ivs ts)] 0)), (6, .obj 6 0), (4, .obj 4 0)], [(500, .arr 28 1 p.1.1 (Tree.ivs p.1.2)), (6, .cells [.imm (.sl false (1 + kl) (.ptr pk 0 :: KI)), .ref 500 p.1.1]), (4, .cells [.imm (.lit (.slice none 0 0)), .imm (.lit (.slice none 0 0))])]⟩) (fun p => ts.length - p.1.1) ⟨(0, []), Nat.zero_le _, rfl, by rw [List.drop_zero, hQ]; exact hQ0⟩ (bW (by repeat' first | exact trivial | refine ⟨rfl, ?_⟩) (by repeat' first | exact trivial | refine ⟨rfl, ?_⟩)) ?_
  clear hQ0
  rintro ⟨⟨j, acc⟩, hj, hal, hac⟩
  dsimp only at hj hal hac ⊢
  by_cases hlt : j < ts.length
  · have hget := cS ts j hlt
    have hm := ht _ (List.getElem_mem hlt)
    have c2 := sX ts[j] 1 0 hm.2
    rw [List.drop_eq_getElem_cons hlt, lZ] at hac
    have hsf := eY ts[j] 1 0
    generalize shiftP ts[j] 1 0 = R at *
    obtain ⟨R1, R2⟩ := R
    dsimp only at *
    by_cases h0 : R2 = 0
    · rw [mL h0] at hac
      obtain ⟨g1, _, _⟩ := hsf h0
      obtain ⟨pr, hpr⟩ := bT (bK g1)
      subst h0
      rw [hpr] at c2
      have hnx : Tree.ivs (acc ++ [R1]) = Tree.ivs acc ++ [.ptr pr 0] := by rw [cX, cX, List.map_append, List.map_cons, hpr]; rfl
      have hil := dD acc
      rw [hal] at hil
      generalize hAI : Tree.ivs acc = AI at *
      clear ht hsf
      repeat' (first | refine aG ?_ | (refine aI ?_;  first | refine aC tabOk rfl rfl rfl (nb rfl) rfl ?_ | (refine aK rfl rfl rfl (nb rfl) rfl rfl rfl (fun hq => ?_) (fun hq => ?_) <;> (first | (simp only [sD, sE, sB, sC, sN, sM, sT, sF] at hq; try (exfalso; omega)) | skip)) | refine bO tabOk rfl rfl rfl (nb rfl) rfl rfl rfl hget ?_ | refine aD rfl rfl (nb rfl) rfl rfl rfl rfl (c2) ?_ | refine cN tabOk rfl rfl rfl (nb rfl) rfl rfl rfl rfl rfl rfl rfl (by first | omega | decide) rfl (by first | omega | (dsimp only; omega)) (by first | omega | (dsimp only; omega)) ?_ | refine bX rfl rfl rfl (nb rfl) rfl rfl (by omega) ?_ | refine cI tabOk rfl rfl rfl (nb rfl) rfl rfl rfl rfl rfl rfl rfl rfl rfl ?_ | refine bM tabOk rfl rfl rfl (nb rfl) rfl rfl rfl rfl ?_ | refine bP tabOk rfl rfl rfl rfl rfl rfl rfl rfl rfl rfl rfl ?_ | refine bH tabOk rfl rfl rfl (nb rfl) rfl rfl rfl rfl (by first | assumption | omega) ?_) | (refine aN ?_;  first | refine aH ?_ | refine aQ ?_ | refine bI ?_ | refine aX ?_ | refine aZ ?_ | refine aE (b := true) rfl (fun _ => ?_) nTf | refine aE (b := false) rfl nFt (fun _ => ?_)) | (refine aM ?_;  first | refine bA ?_) | (refine aW ?_;  first | refine bS ?_))
      all_goals first
        | (exfalso; omega)
        | exact absurd rfl (by assumption)
        | (refine ⟨⟨(j + 1, acc ++ [R1]), hlt, by rw [List.length_append, hal]; rfl, hac⟩, (by show ts.length - (j + 1) < ts.length - j; omega), ?_⟩; dsimp only; rw [hnx]; exact (bW (by repeat' first | exact trivial | refine ⟨rfl, ?_⟩) (by repeat' first | exact trivial | refine ⟨rfl, ?_⟩)))
    · rw [pX h0] at hac
      generalize R1.iv = ri at *
      subst hac
      dsimp only
      rw [if_pos h0]
      clear ht hsf
      generalize Tree.ivs acc = AI at *
      repeat' (first | refine aG ?_ | (refine aI ?_;  first | refine aC tabOk rfl rfl rfl (nb rfl) rfl ?_ | (refine aK rfl rfl rfl (nb rfl) rfl rfl rfl (fun hq => ?_) (fun hq => ?_) <;> (first | (simp only [sD, sE, sB, sC, sN, sM, sT, sF] at hq; try (exfalso; omega)) | skip)) | refine bO tabOk rfl rfl rfl (nb rfl) rfl rfl rfl hget ?_ | refine aD rfl rfl (nb rfl) rfl rfl rfl rfl (c2) ?_ | refine bP tabOk rfl rfl rfl rfl rfl rfl rfl rfl rfl rfl rfl ?_ | refine bH tabOk rfl rfl rfl (nb rfl) rfl rfl rfl rfl (by first | assumption | omega) ?_) | (refine aN ?_;  first | refine aH ?_ | refine aQ ?_ | refine aX ?_ | refine aT ?_ | refine aZ ?_ | refine aE (b := true) rfl (fun _ => ?_) nTf) | (refine aM ?_;  first | refine bA ?_ | refine aV ?_) | (refine aW ?_;  first | refine bD ?_))
      all_goals first
        | (exfalso; omega)
        | exact absurd rfl (by assumption)
        | (refine cM (aU (by first | exact .inl rfl | exact .inr rfl) (bB rfl (iV rfl rfl (tabOk _ _ rfl).1 rfl rfl) (aA rfl)) rfl ?_); rfl)
  · have ej : j = ts.length := by omega
    subst ej
    rw [List.drop_length, show shiftsP [] = ([], 0) from rfl, pY] at hac
    subst hac
    dsimp only
    rw [if_neg (by simp), hal]
    generalize Tree.ivs acc = AI at *
    generalize Tree.ivs ts = TI at *
    clear ht
    repeat' (first | refine aG ?_ | (refine aI ?_;  first | refine aC tabOk rfl rfl rfl (nb rfl) rfl ?_ | (refine aK rfl rfl rfl (nb rfl) rfl rfl rfl (fun hq => ?_) (fun hq => ?_) <;> (first | (simp only [sD, sE, sB, sC, sN, sM, sT, sF] at hq; try (exfalso; omega)) | skip)) | refine bM tabOk rfl rfl rfl (nb rfl) rfl rfl rfl rfl ?_ | refine bP tabOk rfl rfl rfl rfl rfl rfl rfl rfl rfl rfl rfl ?_) | (refine aN ?_;  first | refine aH ?_ | refine aQ ?_ | refine aT ?_ | refine bY ?_ | refine aE (b := false) rfl nFt (fun _ => ?_)) | (refine aM ?_;  first | refine bA ?_ | refine bN ?_) | (refine aW ?_;  first | refine bJ ?_))
    all_goals first
      | (exfalso; omega)
      | exact absurd rfl (by assumption)
      | (refine dU ((Imp.of_le (σ' := S.f ⟨[(4, .obj 4 0), (5, .imm (.lit (.int .i64 0)))], [(500, .arr 28 1 ts.length AI), (4, .cells [.imm (.sl false (1 + kl) (.ptr pk 0 :: KI)), .ref 500 ts.length])]⟩) (bW (by repeat' first | exact trivial | refine ⟨rfl, ?_⟩) (by repeat' first | exact trivial | refine ⟨rfl, ?_⟩))).trans (cU (g := 500) rfl (by repeat' first | exact trivial | exact fun _ => rfl | refine ⟨?_, ?_⟩) (by repeat' first | exact trivial | exact fun _ => rfl | refine ⟨?_, ?_⟩))) ?_
         refine aU (by first | exact .inl rfl | exact .inr rfl) (bB rfl (iV rfl rfl (tabOk _ _ rfl).1 rfl rfl) (aA rfl)) rfl ?_; rfl)
end Go.Proofs.YtocaohipfiapkaaGreat.Ab
namespace Go.Proofs.YtocaohipfiapkaaGreat.Ab
set_option linter.unusedVariables false
set_option linter.unusedSimpArgs false
open Go.RowKit
attribute [local irreducible] AWP AOps AExit AThen ABlock ANoGoto FeetOk
/-- Each has one part. -/
def onePart (kids : List Tree) : Prop := ∀ t ∈ kids, ∃ k' n' a' b' c, t = .node k' n' a' b' [c] ∧ c.whole = true
def partR (kids : List Tree) (a : ByteArray) : IV := match partP kids a with
  | none => .tup [.lit (.pointer none), .lit (.bool false)]
  | some p => .tup [p.iv, .lit (.bool true)]
set_option maxHeartbeats 8000000 in
set_option maxRecDepth 10000 in
theorem aAY (k n : Int) (a b : ByteArray) (kids : List Tree) (l : ByteArray) (hl : kids.length ≤ 100000000) (hp : onePart kids) :
    ACalls Tryz.prog 77 [.imm (Tree.iv (.node k n a b kids)), .imm (.lit (.string l))] [] (.imm (partR kids l)) [] := by
  generalize hQ : partR kids l = Q
  refine aJ Tryz.func77 rfl rfl (nb rfl) rfl ?_
  repeat' (first | refine aG ?_ | (refine aI ?_;  first | refine aC tabOk rfl rfl rfl (nb rfl) rfl ?_ | refine aY tabOk rfl rfl (nb rfl) rfl ?_) | (refine aN ?_;  first | refine aH ?_ | refine aQ ?_ | refine aX ?_))
  refine cH (ι := {j : Nat // j ≤ kids.length ∧ partR (kids.drop j) l = Q}) (fun j => S.f ⟨[(13, .imm (.lit (.int .i64 (j.1 : Int)))), (12, .imm (.lit (.int .i64 (kids.length : Int)))), (11, .imm (.sl false kids.length (Tree.ivs kids))), (1, .imm (.lit (.string l)))], []⟩) (fun j => kids.length - j.1) ⟨0, Nat.zero_le _, hQ⟩ (bW (by repeat' first | exact trivial | refine ⟨rfl, ?_⟩) (by repeat' first | exact trivial | refine ⟨rfl, ?_⟩)) ?_
  clear hQ
  rintro ⟨j, hj, hQ⟩
  dsimp only
  by_cases hlt : j < kids.length
  · have hget := cS kids j hlt
    obtain ⟨k', n', a', b', c, e, hcw⟩ := hp _ (List.getElem_mem hlt)
    obtain ⟨pc, hpc⟩ := bT (bK hcw)
    rw [List.drop_eq_getElem_cons hlt, e] at hQ
    rw [e, Tree.iv, Tree.ivs, Tree.ivs, hpc] at hget
    unfold partR at hQ
    rw [partP, Tree.name] at hQ
    change _ = some (IV.ptr [.lit (.int .i64 k'), .lit (.int .i64 n'), .lit (.string a'), .lit (.string b'), .sl false 1 [.ptr pc 0]] 0) at hget
    clear hp
    by_cases h : a'.toList = l.toList
    · rw [if_pos (by unfold eqB; exact beq_iff_eq.2 h), show kid0 (.node k' n' a' b' [c]) = c from rfl] at hQ
      dsimp only at hQ
      rw [hpc] at hQ
      subst hQ
      repeat' (first | refine aG ?_ | (refine aI ?_;  first | refine aC tabOk rfl rfl rfl (nb rfl) rfl ?_ | (refine aK rfl rfl rfl (nb rfl) rfl rfl rfl (fun hq => ?_) (fun hq => ?_) <;> (first | (simp only [sD, sE, sB, sC, sN, sM, sT, sF] at hq; try (exfalso; omega)) | skip)) | refine bO tabOk rfl rfl rfl (nb rfl) rfl rfl rfl hget ?_ | refine bX rfl rfl rfl (nb rfl) rfl rfl (by omega) ?_ | refine bH tabOk rfl rfl rfl (nb rfl) rfl rfl rfl rfl (by first | assumption | omega) ?_ | refine bE tabOk rfl rfl rfl (nb rfl) rfl rfl rfl rfl (by first | rfl | omega) (by first | omega | simp) ?_) | (refine aN ?_;  first | refine aH ?_ | refine aQ ?_ | refine bI ?_ | refine aX ?_ | refine aT ?_ | refine aZ ?_ | refine aE (b := true) rfl (fun _ => ?_) nTf | refine aE (b := false) rfl nFt (fun _ => ?_)) | (refine aM ?_;  first | refine bA ?_ | refine aV ?_) | (refine aW ?_;  first | refine bS ?_ | refine bD ?_))
      all_goals first
        | (exfalso; omega)
        | exact absurd h (by assumption)
        | (refine aU (by first | exact .inl rfl | exact .inr rfl) (bB rfl (aA rfl) (aA rfl)) rfl ?_; rfl)
    · rw [if_neg (show ¬ eqB a' l = true from fun h2 => h (beq_iff_eq.1 h2))] at hQ
      repeat' (first | refine aG ?_ | (refine aI ?_;  first | refine aC tabOk rfl rfl rfl (nb rfl) rfl ?_ | (refine aK rfl rfl rfl (nb rfl) rfl rfl rfl (fun hq => ?_) (fun hq => ?_) <;> (first | (simp only [sD, sE, sB, sC, sN, sM, sT, sF] at hq; try (exfalso; omega)) | skip)) | refine bO tabOk rfl rfl rfl (nb rfl) rfl rfl rfl hget ?_ | refine bX rfl rfl rfl (nb rfl) rfl rfl (by omega) ?_ | refine bH tabOk rfl rfl rfl (nb rfl) rfl rfl rfl rfl (by first | assumption | omega) ?_ | refine bE tabOk rfl rfl rfl (nb rfl) rfl rfl rfl rfl (by first | rfl | omega) (by first | omega | simp) ?_) | (refine aN ?_;  first | refine aH ?_ | refine aQ ?_ | refine bI ?_ | refine aX ?_ | refine aT ?_ | refine aZ ?_ | refine aE (b := true) rfl (fun _ => ?_) nTf | refine aE (b := false) rfl nFt (fun _ => ?_)) | (refine aM ?_;  first | refine bA ?_ | refine aV ?_) | (refine aW ?_;  first | refine bS ?_ | refine bD ?_))
      all_goals first
        | (exfalso; omega)
        | exact absurd (by assumption) h
        | exact ⟨⟨j + 1, hlt, hQ⟩, (by show kids.length - (j + 1) < kids.length - j; omega), (bW (by repeat' first | exact trivial | refine ⟨rfl, ?_⟩) (by repeat' first | exact trivial | refine ⟨rfl, ?_⟩))⟩
  · have ej : j = kids.length := by omega
    subst ej
    rw [List.drop_length] at hQ
    unfold partR at hQ
    rw [partP] at hQ
    subst hQ
    generalize Tree.ivs kids = Z at *
    repeat' (first | refine aG ?_ | (refine aI ?_;  first | refine aC tabOk rfl rfl rfl (nb rfl) rfl ?_ | (refine aK rfl rfl rfl (nb rfl) rfl rfl rfl (fun hq => ?_) (fun hq => ?_) <;> (first | (simp only [sD, sE, sB, sC, sN, sM, sT, sF] at hq; try (exfalso; omega)) | skip))) | (refine aN ?_;  first | refine aH ?_ | refine aQ ?_ | refine aT ?_ | refine bY ?_ | refine aE (b := false) rfl nFt (fun _ => ?_)) | (refine aM ?_;  first | refine bA ?_ | refine bN ?_) | (refine aW ?_;  first | refine bJ ?_))
    all_goals first
      | (exfalso; omega)
      | (refine aU (by first | exact .inl rfl | exact .inr rfl) (bB rfl (aA rfl) (aA rfl)) rfl ?_; rfl)
set_option maxHeartbeats 4000000 in
set_option maxRecDepth 10000 in
theorem aAZ (s t : Tree) (pt : List IV) (hpt : t.iv = .ptr pt 0) (hs : s.whole = true) (ht : t.whole = true) (hs1 : s.size ≤ 100000000) (ht1 : t.size ≤ 100000000) :
    ACalls Tryz.prog 96 [.imm s.iv, .obj 1001 0] [(1001, .cells [.imm (.ptr pt 0)])] (.imm (.lit (.bool (!sameP s t)))) [(1001, .cells [.imm (.ptr pt 0)])] := by
  have c1 := iH s t (.inr hs) (.inr ht) hs1 ht1
  rw [hpt] at c1
  generalize sameP s t = q at *
  generalize s.iv = si at *
  refine bZ [1001] Tryz.func96 rfl rfl (nb rfl) rfl rfl ?_
  repeat' (first | refine aG ?_ | (refine aI ?_;  first | refine aC tabOk rfl rfl rfl (nb rfl) rfl ?_ | refine aD rfl rfl (nb rfl) rfl rfl rfl rfl (c1) ?_ | refine bM tabOk rfl rfl rfl (nb rfl) rfl rfl rfl rfl ?_) | (refine aN ?_;  first | refine aH ?_ | refine aT ?_))
  all_goals (refine cG (cF (by first | exact .inl rfl | exact .inr rfl) (bC rfl (aA rfl)) rfl (by repeat' first | exact trivial | refine ⟨rfl, ?_⟩) rfl ?_); rfl)
set_option maxHeartbeats 4000000 in
set_option maxRecDepth 10000 in
theorem yD (l : List Tree) (t : Tree) (hl : l.length ≤ 100000000) (hs : ∀ s ∈ l, s.whole = true ∧ s.size ≤ 100000000) (ht : t.whole = true) (ht1 : t.size ≤ 100000000) :
    ACalls Tryz.prog 81 [.imm (.sl false l.length (Tree.ivs l)), .imm t.iv] [] (.imm (.tup [(alikeP l t).1.iv, .lit (.int .i64 (alikeP l t).2)])) [] := by
  obtain ⟨pt, hpt⟩ := bT (bK ht)
  have hc := iS l 96 (.ptr pt 0) (fun s => !sameP s t) (by omega) fun j h => aAZ _ t pt hpt (hs _ (List.getElem_mem h)).1 ht (hs _ (List.getElem_mem h)).2 ht1
  unfold alikeP
  generalize (l.any fun s => !sameP s t) = q at *
  rw [hpt]
  generalize Tree.ivs l = LI at *
  cases q with
  | true =>
    rw [if_pos rfl]
    refine aJ Tryz.func81 rfl rfl (nb rfl) rfl ?_
    repeat' (first | refine aG ?_ | (refine aI ?_;  first | refine aC tabOk rfl rfl rfl (nb rfl) rfl ?_ | refine cK 1001 (d := 3) rfl rfl rfl (nb rfl) rfl rfl rfl rfl rfl rfl rfl ?_ | refine cD rfl rfl (nb rfl) rfl rfl rfl rfl hc (by repeat' first | exact trivial | refine ⟨rfl, ?_⟩) rfl (by show ([1001] : List Nat).Nodup; decide) ?_) | (refine aN ?_;  first | refine aH ?_ | refine aQ ?_ | refine aT ?_ | refine aE (b := true) rfl (fun _ => ?_) nTf) | (refine aM ?_;  first | refine aV ?_))
    all_goals first
      | exact absurd rfl (by assumption)
      | (refine aU (by first | exact .inl rfl | exact .inr rfl) (bB rfl (aA rfl) (aA rfl)) rfl ?_; rfl)
  | false =>
    rw [if_neg (by simp)]
    dsimp only
    rw [hpt]
    refine aJ Tryz.func81 rfl rfl (nb rfl) rfl ?_
    repeat' (first | refine aG ?_ | (refine aI ?_;  first | refine aC tabOk rfl rfl rfl (nb rfl) rfl ?_ | refine cK 1001 (d := 3) rfl rfl rfl (nb rfl) rfl rfl rfl rfl rfl rfl rfl ?_ | refine cD rfl rfl (nb rfl) rfl rfl rfl rfl hc (by repeat' first | exact trivial | refine ⟨rfl, ?_⟩) rfl (by show ([1001] : List Nat).Nodup; decide) ?_ | refine bM tabOk rfl rfl rfl (nb rfl) rfl rfl rfl rfl ?_) | (refine aN ?_;  first | refine aH ?_ | refine aQ ?_ | refine aT ?_ | refine aZ ?_ | refine aE (b := false) rfl nFt (fun _ => ?_)) | (refine aM ?_;  first | refine bA ?_))
    all_goals first
      | exact absurd rfl (by assumption)
      | (refine aU (by first | exact .inl rfl | exact .inr rfl) (bB rfl (aA rfl) (aA rfl)) rfl ?_; rfl)
set_option maxHeartbeats 4000000 in
set_option maxRecDepth 10000 in
theorem aBL (s t : Tree) (hs : s.whole = true) (ht : t.whole = true) : ACalls Tryz.prog 95 [.imm s.iv, .imm t.iv] [] (.imm (.lit (.bool (eqB s.name t.name)))) [] := by
  obtain ⟨k, n, a, b, ks, rfl⟩ := cJ hs
  obtain ⟨k', n', a', b', ks', rfl⟩ := cJ ht
  rw [Tree.name, Tree.name, Tree.iv, Tree.iv]
  generalize Tree.ivs ks = Z at *
  generalize Tree.ivs ks' = Z' at *
  by_cases h : a.toList = a'.toList
  · rw [show eqB a a' = true from beq_iff_eq.2 h]
    refine aJ Tryz.func95 rfl rfl (nb rfl) rfl ?_
    repeat' (first | refine aG ?_ | (refine aI ?_;  first | refine aC tabOk rfl rfl rfl (nb rfl) rfl ?_ | (refine aK rfl rfl rfl (nb rfl) rfl rfl rfl (fun hq => ?_) (fun hq => ?_) <;> (first | (simp only [sD, sE, sB, sC, sN, sM, sT, sF] at hq; try (exfalso; omega)) | skip))) | (refine aN ?_;  first | refine aH ?_ | refine aQ ?_ | refine aT ?_ | refine aR mixed (by kernel_rfl) ?_) | (refine aM ?_;  first | refine bA ?_) | refine bG (bF (by kernel_rfl)) ?_)
    all_goals first
      | exact absurd h (by assumption)
      | (refine aU (by first | exact .inl rfl | exact .inr rfl) (bC rfl (aA rfl)) rfl ?_; rfl)
  · have e : eqB a a' = false := by rw [Bool.eq_false_iff]; exact fun h2 => h (beq_iff_eq.1 h2)
    rw [e]
    refine aJ Tryz.func95 rfl rfl (nb rfl) rfl ?_
    repeat' (first | refine aG ?_ | (refine aI ?_;  first | refine aC tabOk rfl rfl rfl (nb rfl) rfl ?_ | (refine aK rfl rfl rfl (nb rfl) rfl rfl rfl (fun hq => ?_) (fun hq => ?_) <;> (first | (simp only [sD, sE, sB, sC, sN, sM, sT, sF] at hq; try (exfalso; omega)) | skip))) | (refine aN ?_;  first | refine aH ?_ | refine aQ ?_ | refine aT ?_ | refine aR mixed (by kernel_rfl) ?_) | (refine aM ?_;  first | refine bA ?_) | refine bG (bF (by kernel_rfl)) ?_)
    all_goals first
      | exact absurd (by assumption) h
      | (refine aU (by first | exact .inl rfl | exact .inr rfl) (bC rfl (aA rfl)) rfl ?_; rfl)
theorem nL : ∀ l l' : List Tree, namesEq l l' = zipP (fun s t => eqB s.name t.name) l l'
  | [], [] => by simp [namesEq, zipP]
  | t :: ts, u :: us => by simp [namesEq, zipP, nL ts us]
  | [], _ :: _ => by simp [namesEq, zipP]
  | _ :: _, [] => by simp [namesEq, zipP]
theorem aBM (l l' : List Tree) (hl : l.length ≤ 100000000) (hl' : l'.length ≤ 100000000) (h : ∀ t ∈ l, t.whole = true) (h' : ∀ t ∈ l', t.whole = true) :
    ACalls Tryz.prog 21 [.imm (.sl false l.length (Tree.ivs l)), .imm (.sl false l'.length (Tree.ivs l')), .imm (.func 95 [] [])] [] (.imm (.lit (.bool (namesEq l l')))) [] := by
  rw [nL]
  exact kN l l' _ (fun s t => eqB s.name t.name) (by omega) (by omega) fun i hi hk => aBL _ _ (h _ (List.getElem_mem hi)) (h' _ (List.getElem_mem hk))
/-- The method for a term. -/
def ruleF (k : Int) : FuncId :=
  if k = 134 then 48 else if k = 135 then 49 else if k = 136 then 50 else if k = 138 then 51
  else if k = 140 then 52 else if k = 141 then 53 else if k = 142 then 54 else if k = 144 then 55
  else if k = 145 then 56 else if k = 146 then 57 else if k = 147 then 58 else 59
set_option maxHeartbeats 8000000 in
set_option maxRecDepth 10000 in
theorem aCo (k n : Int) (a b : ByteArray) (kids : List Tree) : ACalls Tryz.prog 32 [.imm (Tree.iv (.node k n a b kids))] [] (.imm (.func (ruleF k) [] [])) [] := by
  generalize hF : ruleF k = F
  unfold ruleF at hF
  rw [Tree.iv]
  generalize Tree.ivs kids = Z at *
  refine aJ Tryz.func32 rfl rfl (nb rfl) rfl ?_
  repeat' (first | refine aG ?_ | (refine aI ?_;  first | refine aC tabOk rfl rfl rfl (nb rfl) rfl ?_ | (refine aK rfl rfl rfl (nb rfl) rfl rfl rfl (fun hq => ?_) (fun hq => ?_) <;> (first | (simp only [sD, sE, sB, sC, sN, sM, sT, sF] at hq; try (exfalso; omega)) | skip))) | (refine aN ?_;  first | refine aH ?_ | refine aQ ?_ | refine aX ?_ | refine aT ?_ | refine aZ ?_ | refine aE (b := true) rfl (fun _ => ?_) nTf | refine aE (b := false) rfl nFt (fun _ => ?_)) | (refine aM ?_;  first | refine bA ?_ | refine aV ?_) | (refine aW ?_;  first | refine bS ?_ | refine bD ?_))
  all_goals (simp_all; first | (subst hF; refine aU (by first | exact .inl rfl | exact .inr rfl) (bC rfl (aA rfl)) rfl ?_; rfl) | (refine aU (by first | exact .inl rfl | exact .inr rfl) (bC rfl (aA rfl)) rfl ?_; simp_all))
end Go.Proofs.YtocaohipfiapkaaGreat.Ab
namespace Go.Proofs.YtocaohipfiapkaaGreat.Ab
set_option linter.unusedVariables false
set_option linter.unusedSimpArgs false
open Go.RowKit
attribute [local irreducible] AWP AOps AExit AThen ABlock ANoGoto FeetOk
theorem yE (k : Int) {x y : Tree} {px py : List IV} (hx : x.iv = .ptr px 0) (hy : y.iv = .ptr py 0) : (tyT k [x, y]).iv = .ptr [.lit (.int .i64 k), .lit (.int .i64 0), .lit (.string ⟨#[]⟩), .lit (.string ⟨#[]⟩), .sl false 2 [.ptr px 0, .ptr py 0]] 0 := by
  unfold tyT
  rw [Tree.iv, Tree.ivs, Tree.ivs, Tree.ivs, hx, hy]
  rfl
theorem dH (k n : Int) (a b : ByteArray) {x y : Tree} {px py : List IV} (hx : x.iv = .ptr px 0) (hy : y.iv = .ptr py 0) : (Tree.node k n a b [x, y]).iv = .ptr [.lit (.int .i64 k), .lit (.int .i64 n), .lit (.string a), .lit (.string b), .sl false 2 [.ptr px 0, .ptr py 0]] 0 := by
  rw [Tree.iv, Tree.ivs, Tree.ivs, Tree.ivs, hx, hy]
  rfl
theorem jP (k n : Int) (a b : ByteArray) {x : Tree} {px : List IV} (hx : x.iv = .ptr px 0) : (Tree.node k n a b [x]).iv = .ptr [.lit (.int .i64 k), .lit (.int .i64 n), .lit (.string a), .lit (.string b), .sl false 1 [.ptr px 0]] 0 := by
  rw [Tree.iv, Tree.ivs, Tree.ivs, hx]
  rfl
theorem vC (k n : Int) (a b : ByteArray) {x y z : Tree} {px py pz : List IV} (hx : x.iv = .ptr px 0) (hy : y.iv = .ptr py 0) (hz : z.iv = .ptr pz 0) : (Tree.node k n a b [x, y, z]).iv = .ptr [.lit (.int .i64 k), .lit (.int .i64 n), .lit (.string a), .lit (.string b), .sl false 3 [.ptr px 0, .ptr py 0, .ptr pz 0]] 0 := by
  rw [Tree.iv, Tree.ivs, Tree.ivs, Tree.ivs, Tree.ivs, hx, hy, hz]
  rfl
theorem tF {R : Tree × Int} {k : Int} (h : (asP R k).2 = 0) : asP R k = R := by
  unfold asP at h ⊢
  split at h
  · cases h
  · rename_i h1; rw [if_neg h1]
/-- A type that was told. -/
def fineW (R : Tree × Int) : Prop := R.2 = 0 → R.1.whole = true ∧ R.1.size ≤ 100000000
def fineT (R : Tree × Int) : Prop := R.2 = 0 → isConP R.1 = true ∧ R.1.whole = true ∧ R.1.size ≤ 100000000
theorem dJ {R : Tree × Int} (h : fineT R) : fineW R := fun h0 => (h h0).2
section
variable (kl tl : Nat) (KI TI : List IV)
set_option maxHeartbeats 8000000 in
set_option maxRecDepth 10000 in
theorem aCI (C2 : IV) (k n : Int) (a b : ByteArray) (T y : Tree) (hT : T.whole = true) (hy : y.whole = true) (A B : Tree × Int) (fA : fineW A) (fB : fineW B)
    (c1 : ACalls Tryz.prog 75 [.imm (IV.agg [.sl false kl KI, .sl false tl TI]), .imm T.iv] [] (.imm (.tup [(A).1.iv, .lit (.int .i64 (A).2)])) [])
    (c2 : A.2 = 0 → ACalls Tryz.prog 31 [.imm (IV.agg [.sl false kl KI, .sl false tl TI]), .imm A.1.iv] [] (.imm C2) [])
    (c3 : A.2 = 0 → ACalls Tryz.prog 17 [.imm C2, .imm y.iv] [] (.imm (.tup [(B).1.iv, .lit (.int .i64 (B).2)])) []) :
    ACalls Tryz.prog 48 [.imm (IV.agg [.sl false kl KI, .sl false tl TI]), .imm (Tree.iv (.node k n a b [T, y]))] [] (.imm (.tup [(lamT1 A B).1.iv, .lit (.int .i64 (lamT1 A B).2)])) [] := by
  obtain ⟨pT, hpT⟩ := bT (bK hT)
  obtain ⟨py, hpy⟩ := bT (bK hy)
  rw [dH k n a b hpT hpy]
  rw [hpT] at c1
  rw [hpy] at c3
  unfold lamT1
  obtain ⟨A1, A2⟩ := A
  obtain ⟨B1, B2⟩ := B
  unfold fineW at fA fB
  dsimp only at *
  by_cases h1 : A2 = 0
  · replace c2 := c2 h1
    replace c3 := c3 h1
    obtain ⟨pa, hpa⟩ := bT (bK (fA h1).1)
    subst h1
    rw [if_neg (by simp)]
    rw [hpa] at c1 c2
    by_cases h2 : B2 = 0
    · obtain ⟨pb, hpb⟩ := bT (bK (fB h2).1)
      subst h2
      rw [if_neg (by simp), yE 114 hpa hpb]
      rw [hpb] at c3
      have c4 := aAW 114 pa pb true
      clear fA fB
      refine aJ Tryz.func48 rfl rfl (nb rfl) rfl ?_
      repeat' (first | refine aG ?_ | (refine aI ?_;  first | refine aC tabOk rfl rfl rfl (nb rfl) rfl ?_ | (refine aK rfl rfl rfl (nb rfl) rfl rfl rfl (fun hq => ?_) (fun hq => ?_) <;> (first | (simp only [sD, sE, sB, sC, sN, sM, sT, sF] at hq; try (exfalso; omega)) | skip)) | refine aD rfl rfl (nb rfl) rfl rfl rfl rfl (c1) ?_ | refine aD rfl rfl (nb rfl) rfl rfl rfl rfl (c2) ?_ | refine aD rfl rfl (nb rfl) rfl rfl rfl rfl (c3) ?_ | refine aD rfl rfl (nb rfl) rfl rfl rfl rfl (c4) ?_ | refine cI tabOk rfl rfl rfl (nb rfl) rfl rfl rfl rfl rfl rfl rfl rfl rfl ?_ | refine aY tabOk rfl rfl (nb rfl) rfl ?_ | refine bE tabOk rfl rfl rfl (nb rfl) rfl rfl rfl rfl (by first | rfl | omega) (by first | omega | simp) ?_) | (refine aN ?_;  first | refine aH ?_ | refine aQ ?_ | refine aT ?_ | refine aZ ?_ | refine aE (b := false) rfl nFt (fun _ => ?_) | refine aR mixed (by kernel_rfl) ?_) | (refine aM ?_;  first | refine bA ?_) | refine bG (bF (by kernel_rfl)) ?_)
      all_goals first | (exfalso; omega) | exact absurd rfl (by assumption) | (refine aU (by first | exact .inl rfl | exact .inr rfl) (bB rfl (aA rfl) (aA rfl)) rfl ?_; rfl)
    · rw [if_pos h2]
      generalize B1.iv = bi at *
      clear fA fB
      refine aJ Tryz.func48 rfl rfl (nb rfl) rfl ?_
      repeat' (first | refine aG ?_ | (refine aI ?_;  first | refine aC tabOk rfl rfl rfl (nb rfl) rfl ?_ | (refine aK rfl rfl rfl (nb rfl) rfl rfl rfl (fun hq => ?_) (fun hq => ?_) <;> (first | (simp only [sD, sE, sB, sC, sN, sM, sT, sF] at hq; try (exfalso; omega)) | skip)) | refine aD rfl rfl (nb rfl) rfl rfl rfl rfl (c1) ?_ | refine aD rfl rfl (nb rfl) rfl rfl rfl rfl (c2) ?_ | refine aD rfl rfl (nb rfl) rfl rfl rfl rfl (c3) ?_ | refine aY tabOk rfl rfl (nb rfl) rfl ?_ | refine bE tabOk rfl rfl rfl (nb rfl) rfl rfl rfl rfl (by first | rfl | omega) (by first | omega | simp) ?_) | (refine aN ?_;  first | refine aH ?_ | refine aQ ?_ | refine aT ?_ | refine aZ ?_ | refine aE (b := true) rfl (fun _ => ?_) nTf | refine aE (b := false) rfl nFt (fun _ => ?_) | refine aR mixed (by kernel_rfl) ?_) | (refine aM ?_;  first | refine bA ?_ | refine aV ?_) | refine bG (bF (by kernel_rfl)) ?_)
      all_goals first | (exfalso; omega) | exact absurd rfl (by assumption) | (refine aU (by first | exact .inl rfl | exact .inr rfl) (bB rfl (aA rfl) (aA rfl)) rfl ?_; rfl)
  · rw [if_pos h1]
    generalize A1.iv = ai at *
    clear fA fB c2 c3
    refine aJ Tryz.func48 rfl rfl (nb rfl) rfl ?_
    repeat' (first | refine aG ?_ | (refine aI ?_;  first | refine aC tabOk rfl rfl rfl (nb rfl) rfl ?_ | (refine aK rfl rfl rfl (nb rfl) rfl rfl rfl (fun hq => ?_) (fun hq => ?_) <;> (first | (simp only [sD, sE, sB, sC, sN, sM, sT, sF] at hq; try (exfalso; omega)) | skip)) | refine aD rfl rfl (nb rfl) rfl rfl rfl rfl (c1) ?_ | refine aY tabOk rfl rfl (nb rfl) rfl ?_ | refine bE tabOk rfl rfl rfl (nb rfl) rfl rfl rfl rfl (by first | rfl | omega) (by first | omega | simp) ?_) | (refine aN ?_;  first | refine aH ?_ | refine aQ ?_ | refine aT ?_ | refine aE (b := true) rfl (fun _ => ?_) nTf | refine aR mixed (by kernel_rfl) ?_) | (refine aM ?_;  first | refine bA ?_ | refine aV ?_) | refine bG (bF (by kernel_rfl)) ?_)
    all_goals first | (exfalso; omega) | exact absurd rfl (by assumption) | (refine aU (by first | exact .inl rfl | exact .inr rfl) (bB rfl (aA rfl) (aA rfl)) rfl ?_; rfl)
set_option maxHeartbeats 8000000 in
set_option maxRecDepth 10000 in
theorem aCJ (k n : Int) (a b : ByteArray) (x y : Tree) (hx : x.whole = true) (hy : y.whole = true) (F X : Tree × Int) (fF : fineT F) (fX : fineW X)
    (c1 : ACalls Tryz.prog 17 [.imm (IV.agg [.sl false kl KI, .sl false tl TI]), .imm x.iv] [] (.imm (.tup [(F).1.iv, .lit (.int .i64 (F).2)])) []) (c2 : ACalls Tryz.prog 17 [.imm (IV.agg [.sl false kl KI, .sl false tl TI]), .imm y.iv] [] (.imm (.tup [(X).1.iv, .lit (.int .i64 (X).2)])) []) :
    ACalls Tryz.prog 49 [.imm (IV.agg [.sl false kl KI, .sl false tl TI]), .imm (Tree.iv (.node k n a b [x, y]))] [] (.imm (.tup [(appT1 F X).1.iv, .lit (.int .i64 (appT1 F X).2)])) [] := by
  obtain ⟨px, hpx⟩ := bT (bK hx)
  obtain ⟨py, hpy⟩ := bT (bK hy)
  rw [dH k n a b hpx hpy]
  rw [hpx] at c1
  rw [hpy] at c2
  unfold appT1
  obtain ⟨F1, F2⟩ := F
  obtain ⟨X1, X2⟩ := X
  unfold fineT at fF
  unfold fineW at fX
  dsimp only at *
  by_cases h1 : F2 = 0
  · obtain ⟨f1, f2, f3⟩ := fF h1
    subst h1
    rw [if_neg (by simp)]
    by_cases h2 : X2 = 0
    · obtain ⟨g2, g3⟩ := fX h2
      subst h2
      rw [if_neg (by simp)]
      by_cases hk : F1.kind = 114
      · obtain ⟨n', a', b', u, v, rfl, hu, hv, wu, wv, su, sv⟩ := nJ f1 f2 f3 hk
        have cs := iH u X1 (.inr wu) (.inr g2) su g3
        have e0 : kid0 (.node 114 n' a' b' [u, v]) = u := rfl
        have e1 : kid1 (.node 114 n' a' b' [u, v]) = v := rfl
        rw [e0, e1]
        obtain ⟨pu, hpu⟩ := bT (bK wu)
        obtain ⟨pv, hpv⟩ := bT (bK wv)
        rw [dH 114 n' a' b' hpu hpv] at c1
        rw [hpu] at cs
        generalize X1.iv = xi at *
        clear fF fX f1 f2 f3 g2 g3
        cases hs : sameP u X1 with
        | true =>
          rw [hs] at cs
          rw [if_neg (by simp [Tree.kind]), hpv]
          refine aJ Tryz.func49 rfl rfl (nb rfl) rfl ?_
          repeat' (first | refine aG ?_ | (refine aI ?_;  first | refine aC tabOk rfl rfl rfl (nb rfl) rfl ?_ | (refine aK rfl rfl rfl (nb rfl) rfl rfl rfl (fun hq => ?_) (fun hq => ?_) <;> (first | (simp only [sD, sE, sB, sC, sN, sM, sT, sF] at hq; try (exfalso; omega)) | skip)) | refine aD rfl rfl (nb rfl) rfl rfl rfl rfl (c1) ?_ | refine aD rfl rfl (nb rfl) rfl rfl rfl rfl (c2) ?_ | refine aD rfl rfl (nb rfl) rfl rfl rfl rfl (cs) ?_ | refine aY tabOk rfl rfl (nb rfl) rfl ?_ | refine bE tabOk rfl rfl rfl (nb rfl) rfl rfl rfl rfl (by first | rfl | omega) (by first | omega | simp) ?_) | (refine aN ?_;  first | refine aH ?_ | refine aQ ?_ | refine aX ?_ | refine aT ?_ | refine aZ ?_ | refine aE (b := false) rfl nFt (fun _ => ?_) | refine aR mixed (by kernel_rfl) ?_) | (refine aM ?_;  first | refine bA ?_) | (refine aW ?_;  first | refine bS ?_) | refine bG (bF (by kernel_rfl)) ?_)
          all_goals first | (exfalso; omega) | exact absurd rfl (by assumption) | (refine aU (by first | exact .inl rfl | exact .inr rfl) (bB rfl (aA rfl) (aA rfl)) rfl ?_; rfl)
        | false =>
          rw [hs] at cs
          rw [if_pos (.inr rfl)]
          refine aJ Tryz.func49 rfl rfl (nb rfl) rfl ?_
          repeat' (first | refine aG ?_ | (refine aI ?_;  first | refine aC tabOk rfl rfl rfl (nb rfl) rfl ?_ | (refine aK rfl rfl rfl (nb rfl) rfl rfl rfl (fun hq => ?_) (fun hq => ?_) <;> (first | (simp only [sD, sE, sB, sC, sN, sM, sT, sF] at hq; try (exfalso; omega)) | skip)) | refine aD rfl rfl (nb rfl) rfl rfl rfl rfl (c1) ?_ | refine aD rfl rfl (nb rfl) rfl rfl rfl rfl (c2) ?_ | refine aD rfl rfl (nb rfl) rfl rfl rfl rfl (cs) ?_ | refine aY tabOk rfl rfl (nb rfl) rfl ?_ | refine bE tabOk rfl rfl rfl (nb rfl) rfl rfl rfl rfl (by first | rfl | omega) (by first | omega | simp) ?_) | (refine aN ?_;  first | refine aH ?_ | refine aQ ?_ | refine aX ?_ | refine aT ?_ | refine aZ ?_ | refine aE (b := true) rfl (fun _ => ?_) nTf | refine aE (b := false) rfl nFt (fun _ => ?_) | refine aR mixed (by kernel_rfl) ?_) | (refine aM ?_;  first | refine bA ?_ | refine aV ?_) | (refine aW ?_;  first | refine bD ?_) | refine bG (bF (by kernel_rfl)) ?_)
          all_goals first | (exfalso; omega) | exact absurd rfl (by assumption) | (refine aU (by first | exact .inl rfl | exact .inr rfl) (bB rfl (aA rfl) (aA rfl)) rfl ?_; rfl)
      · rw [if_pos (.inl hk)]
        obtain ⟨k', n', a', b', ks, rfl⟩ := cJ f2
        rw [Tree.kind] at hk
        rw [Tree.iv] at c1
        generalize Tree.ivs ks = Z at *
        generalize X1.iv = xi at *
        clear fF fX f1 f2 f3 g2 g3
        refine aJ Tryz.func49 rfl rfl (nb rfl) rfl ?_
        repeat' (first | refine aG ?_ | (refine aI ?_;  first | refine aC tabOk rfl rfl rfl (nb rfl) rfl ?_ | refine cA rfl rfl (nb rfl) ?_ | (refine aK rfl rfl rfl (nb rfl) rfl rfl rfl (fun hq => ?_) (fun hq => ?_) <;> (first | (simp only [sD, sE, sB, sC, sN, sM, sT, sF] at hq; try (exfalso; omega)) | skip)) | refine aD rfl rfl (nb rfl) rfl rfl rfl rfl (c1) ?_ | refine aD rfl rfl (nb rfl) rfl rfl rfl rfl (c2) ?_ | refine aY tabOk rfl rfl (nb rfl) rfl ?_ | refine bE tabOk rfl rfl rfl (nb rfl) rfl rfl rfl rfl (by first | rfl | omega) (by first | omega | simp) ?_) | (refine aN ?_;  first | refine aH ?_ | refine aQ ?_ | refine aX ?_ | refine aT ?_ | refine aZ ?_ | refine aE (b := true) rfl (fun _ => ?_) nTf | refine aE (b := false) rfl nFt (fun _ => ?_) | refine aR mixed (by kernel_rfl) ?_) | (refine aM ?_;  first | refine bA ?_ | refine aV ?_) | (refine aW ?_;  first | refine bD ?_) | refine bG (bF (by kernel_rfl)) ?_)
        all_goals first | (exfalso; omega) | exact absurd rfl (by assumption) | (refine aU (by first | exact .inl rfl | exact .inr rfl) (bB rfl (aA rfl) (aA rfl)) rfl ?_; rfl)
    · rw [if_pos h2]
      generalize X1.iv = xi at *
      generalize F1.iv = fi at *
      clear fF fX
      refine aJ Tryz.func49 rfl rfl (nb rfl) rfl ?_
      repeat' (first | refine aG ?_ | (refine aI ?_;  first | refine aC tabOk rfl rfl rfl (nb rfl) rfl ?_ | (refine aK rfl rfl rfl (nb rfl) rfl rfl rfl (fun hq => ?_) (fun hq => ?_) <;> (first | (simp only [sD, sE, sB, sC, sN, sM, sT, sF] at hq; try (exfalso; omega)) | skip)) | refine aD rfl rfl (nb rfl) rfl rfl rfl rfl (c1) ?_ | refine aD rfl rfl (nb rfl) rfl rfl rfl rfl (c2) ?_ | refine aY tabOk rfl rfl (nb rfl) rfl ?_ | refine bE tabOk rfl rfl rfl (nb rfl) rfl rfl rfl rfl (by first | rfl | omega) (by first | omega | simp) ?_) | (refine aN ?_;  first | refine aH ?_ | refine aQ ?_ | refine aX ?_ | refine aT ?_ | refine aZ ?_ | refine aE (b := true) rfl (fun _ => ?_) nTf | refine aE (b := false) rfl nFt (fun _ => ?_) | refine aR mixed (by kernel_rfl) ?_) | (refine aM ?_;  first | refine bA ?_ | refine aV ?_) | (refine aW ?_;  first | refine bD ?_) | refine bG (bF (by kernel_rfl)) ?_)
      all_goals first | (exfalso; omega) | exact absurd rfl (by assumption) | (refine aU (by first | exact .inl rfl | exact .inr rfl) (bB rfl (aA rfl) (aA rfl)) rfl ?_; rfl)
  · rw [if_pos h1]
    generalize F1.iv = fi at *
    clear fF fX
    refine aJ Tryz.func49 rfl rfl (nb rfl) rfl ?_
    repeat' (first | refine aG ?_ | (refine aI ?_;  first | refine aC tabOk rfl rfl rfl (nb rfl) rfl ?_ | (refine aK rfl rfl rfl (nb rfl) rfl rfl rfl (fun hq => ?_) (fun hq => ?_) <;> (first | (simp only [sD, sE, sB, sC, sN, sM, sT, sF] at hq; try (exfalso; omega)) | skip)) | refine aD rfl rfl (nb rfl) rfl rfl rfl rfl (c1) ?_ | refine aY tabOk rfl rfl (nb rfl) rfl ?_ | refine bE tabOk rfl rfl rfl (nb rfl) rfl rfl rfl rfl (by first | rfl | omega) (by first | omega | simp) ?_) | (refine aN ?_;  first | refine aH ?_ | refine aQ ?_ | refine aT ?_ | refine aE (b := true) rfl (fun _ => ?_) nTf | refine aR mixed (by kernel_rfl) ?_) | (refine aM ?_;  first | refine bA ?_ | refine aV ?_) | refine bG (bF (by kernel_rfl)) ?_)
    all_goals first | (exfalso; omega) | exact absurd rfl (by assumption) | (refine aU (by first | exact .inl rfl | exact .inr rfl) (bB rfl (aA rfl) (aA rfl)) rfl ?_; rfl)
set_option maxHeartbeats 8000000 in
set_option maxRecDepth 10000 in
theorem op_a (k n : Int) (a b : ByteArray) (x y : Tree) (hx : x.whole = true) (hy : y.whole = true) (F X : Tree × Int) (fF : fineW F) (fX : fineW X)
    (c1 : ACalls Tryz.prog 17 [.imm (IV.agg [.sl false kl KI, .sl false tl TI]), .imm x.iv] [] (.imm (.tup [(F).1.iv, .lit (.int .i64 (F).2)])) []) (c2 : ACalls Tryz.prog 17 [.imm (IV.agg [.sl false kl KI, .sl false tl TI]), .imm y.iv] [] (.imm (.tup [(X).1.iv, .lit (.int .i64 (X).2)])) []) :
    ACalls Tryz.prog 56 [.imm (IV.agg [.sl false kl KI, .sl false tl TI]), .imm (Tree.iv (.node k n a b [x, y]))] [] (.imm (.tup [(op1 n F X).1.iv, .lit (.int .i64 (op1 n F X).2)])) [] := by
  obtain ⟨px, hpx⟩ := bT (bK hx)
  obtain ⟨py, hpy⟩ := bT (bK hy)
  rw [dH k n a b hpx hpy]
  rw [hpx] at c1
  rw [hpy] at c2
  have d1 := xD 111
  have d2 := xD 112
  unfold op1
  obtain ⟨F1, F2⟩ := F
  obtain ⟨X1, X2⟩ := X
  unfold fineW at fF fX
  dsimp only at *
  by_cases h1 : F2 = 0
  · obtain ⟨k1, n1, a1, b1, ks1, rfl⟩ := cJ (fF h1).1
    subst h1
    rw [if_neg (by simp)]
    by_cases h2 : X2 = 0
    · obtain ⟨k2, n2, a2, b2, ks2, rfl⟩ := cJ (fX h2).1
      subst h2
      rw [if_neg (by simp)]
      rw [Tree.iv] at c1 c2
      rw [Tree.kind, Tree.kind]
      generalize Tree.ivs ks1 = Z1 at *
      generalize Tree.ivs ks2 = Z2 at *
      clear fF fX
      by_cases h3 : k1 = 111
      · by_cases h4 : k2 = 111
        · subst h3 h4
          rw [if_neg (by simp)]
          by_cases h5 : n ≤ 3
          · rw [if_pos h5]
            dsimp only
            generalize (tyT 111 []).iv = ti at *
            refine aJ Tryz.func56 rfl rfl (nb rfl) rfl ?_
            repeat' (first | refine aG ?_ | (refine aI ?_;  first | refine aC tabOk rfl rfl rfl (nb rfl) rfl ?_ | (refine aK rfl rfl rfl (nb rfl) rfl rfl rfl (fun hq => ?_) (fun hq => ?_) <;> (first | (simp only [sD, sE, sB, sC, sN, sM, sT, sF] at hq; try (exfalso; omega)) | skip)) | refine aD rfl rfl (nb rfl) rfl rfl rfl rfl (c1) ?_ | refine aD rfl rfl (nb rfl) rfl rfl rfl rfl (c2) ?_ | refine aD rfl rfl (nb rfl) rfl rfl rfl rfl (d1) ?_ | refine aY tabOk rfl rfl (nb rfl) rfl ?_ | refine bE tabOk rfl rfl rfl (nb rfl) rfl rfl rfl rfl (by first | rfl | omega) (by first | omega | simp) ?_) | (refine aN ?_;  first | refine aH ?_ | refine aQ ?_ | refine aX ?_ | refine aT ?_ | refine aZ ?_ | refine aE (b := true) rfl (fun _ => ?_) nTf | refine aE (b := false) rfl nFt (fun _ => ?_) | refine aR mixed (by kernel_rfl) ?_) | (refine aM ?_;  first | refine bA ?_ | refine aV ?_) | (refine aW ?_;  first | refine bD ?_) | refine bG (bF (by kernel_rfl)) ?_)
            all_goals first | (exfalso; omega) | exact absurd rfl (by assumption) | (refine aU (by first | exact .inl rfl | exact .inr rfl) (bB rfl (aA rfl) (aA rfl)) rfl ?_; rfl)
          · rw [if_neg h5]
            dsimp only
            generalize (tyT 112 []).iv = ti at *
            refine aJ Tryz.func56 rfl rfl (nb rfl) rfl ?_
            repeat' (first | refine aG ?_ | (refine aI ?_;  first | refine aC tabOk rfl rfl rfl (nb rfl) rfl ?_ | (refine aK rfl rfl rfl (nb rfl) rfl rfl rfl (fun hq => ?_) (fun hq => ?_) <;> (first | (simp only [sD, sE, sB, sC, sN, sM, sT, sF] at hq; try (exfalso; omega)) | skip)) | refine aD rfl rfl (nb rfl) rfl rfl rfl rfl (c1) ?_ | refine aD rfl rfl (nb rfl) rfl rfl rfl rfl (c2) ?_ | refine aD rfl rfl (nb rfl) rfl rfl rfl rfl (d2) ?_ | refine aY tabOk rfl rfl (nb rfl) rfl ?_ | refine bE tabOk rfl rfl rfl (nb rfl) rfl rfl rfl rfl (by first | rfl | omega) (by first | omega | simp) ?_) | (refine aN ?_;  first | refine aH ?_ | refine aQ ?_ | refine aX ?_ | refine aT ?_ | refine aZ ?_ | refine aE (b := false) rfl nFt (fun _ => ?_) | refine aR mixed (by kernel_rfl) ?_) | (refine aM ?_;  first | refine bA ?_) | (refine aW ?_;  first | refine bS ?_) | refine bG (bF (by kernel_rfl)) ?_)
            all_goals first | (exfalso; omega) | exact absurd rfl (by assumption) | (refine aU (by first | exact .inl rfl | exact .inr rfl) (bB rfl (aA rfl) (aA rfl)) rfl ?_; rfl)
        · rw [if_pos (.inr h4)]
          subst h3
          refine aJ Tryz.func56 rfl rfl (nb rfl) rfl ?_
          repeat' (first | refine aG ?_ | (refine aI ?_;  first | refine aC tabOk rfl rfl rfl (nb rfl) rfl ?_ | (refine aK rfl rfl rfl (nb rfl) rfl rfl rfl (fun hq => ?_) (fun hq => ?_) <;> (first | (simp only [sD, sE, sB, sC, sN, sM, sT, sF] at hq; try (exfalso; omega)) | skip)) | refine aD rfl rfl (nb rfl) rfl rfl rfl rfl (c1) ?_ | refine aD rfl rfl (nb rfl) rfl rfl rfl rfl (c2) ?_ | refine aY tabOk rfl rfl (nb rfl) rfl ?_ | refine bE tabOk rfl rfl rfl (nb rfl) rfl rfl rfl rfl (by first | rfl | omega) (by first | omega | simp) ?_) | (refine aN ?_;  first | refine aH ?_ | refine aQ ?_ | refine aX ?_ | refine aT ?_ | refine aZ ?_ | refine aE (b := true) rfl (fun _ => ?_) nTf | refine aE (b := false) rfl nFt (fun _ => ?_) | refine aR mixed (by kernel_rfl) ?_) | (refine aM ?_;  first | refine bA ?_ | refine aV ?_) | (refine aW ?_;  first | refine bD ?_) | refine bG (bF (by kernel_rfl)) ?_)
          all_goals first | (exfalso; omega) | exact absurd rfl (by assumption) | (refine aU (by first | exact .inl rfl | exact .inr rfl) (bB rfl (aA rfl) (aA rfl)) rfl ?_; rfl)
      · rw [if_pos (.inl h3)]
        refine aJ Tryz.func56 rfl rfl (nb rfl) rfl ?_
        repeat' (first | refine aG ?_ | (refine aI ?_;  first | refine aC tabOk rfl rfl rfl (nb rfl) rfl ?_ | refine cA rfl rfl (nb rfl) ?_ | (refine aK rfl rfl rfl (nb rfl) rfl rfl rfl (fun hq => ?_) (fun hq => ?_) <;> (first | (simp only [sD, sE, sB, sC, sN, sM, sT, sF] at hq; try (exfalso; omega)) | skip)) | refine aD rfl rfl (nb rfl) rfl rfl rfl rfl (c1) ?_ | refine aD rfl rfl (nb rfl) rfl rfl rfl rfl (c2) ?_ | refine aY tabOk rfl rfl (nb rfl) rfl ?_ | refine bE tabOk rfl rfl rfl (nb rfl) rfl rfl rfl rfl (by first | rfl | omega) (by first | omega | simp) ?_) | (refine aN ?_;  first | refine aH ?_ | refine aQ ?_ | refine aX ?_ | refine aT ?_ | refine aZ ?_ | refine aE (b := true) rfl (fun _ => ?_) nTf | refine aE (b := false) rfl nFt (fun _ => ?_) | refine aR mixed (by kernel_rfl) ?_) | (refine aM ?_;  first | refine bA ?_ | refine aV ?_) | (refine aW ?_;  first | refine bD ?_) | refine bG (bF (by kernel_rfl)) ?_)
        all_goals first | (exfalso; omega) | exact absurd rfl (by assumption) | (refine aU (by first | exact .inl rfl | exact .inr rfl) (bB rfl (aA rfl) (aA rfl)) rfl ?_; rfl)
    · rw [if_pos h2]
      generalize X1.iv = xi at *
      rw [Tree.iv] at c1
      generalize Tree.ivs ks1 = Z1 at *
      clear fF fX
      refine aJ Tryz.func56 rfl rfl (nb rfl) rfl ?_
      repeat' (first | refine aG ?_ | (refine aI ?_;  first | refine aC tabOk rfl rfl rfl (nb rfl) rfl ?_ | (refine aK rfl rfl rfl (nb rfl) rfl rfl rfl (fun hq => ?_) (fun hq => ?_) <;> (first | (simp only [sD, sE, sB, sC, sN, sM, sT, sF] at hq; try (exfalso; omega)) | skip)) | refine aD rfl rfl (nb rfl) rfl rfl rfl rfl (c1) ?_ | refine aD rfl rfl (nb rfl) rfl rfl rfl rfl (c2) ?_ | refine aY tabOk rfl rfl (nb rfl) rfl ?_ | refine bE tabOk rfl rfl rfl (nb rfl) rfl rfl rfl rfl (by first | rfl | omega) (by first | omega | simp) ?_) | (refine aN ?_;  first | refine aH ?_ | refine aQ ?_ | refine aX ?_ | refine aT ?_ | refine aZ ?_ | refine aE (b := true) rfl (fun _ => ?_) nTf | refine aE (b := false) rfl nFt (fun _ => ?_) | refine aR mixed (by kernel_rfl) ?_) | (refine aM ?_;  first | refine bA ?_ | refine aV ?_) | (refine aW ?_;  first | refine bD ?_) | refine bG (bF (by kernel_rfl)) ?_)
      all_goals first | (exfalso; omega) | exact absurd rfl (by assumption) | (refine aU (by first | exact .inl rfl | exact .inr rfl) (bB rfl (aA rfl) (aA rfl)) rfl ?_; rfl)
  · rw [if_pos h1]
    generalize F1.iv = fi at *
    clear fF fX
    refine aJ Tryz.func56 rfl rfl (nb rfl) rfl ?_
    repeat' (first | refine aG ?_ | (refine aI ?_;  first | refine aC tabOk rfl rfl rfl (nb rfl) rfl ?_ | (refine aK rfl rfl rfl (nb rfl) rfl rfl rfl (fun hq => ?_) (fun hq => ?_) <;> (first | (simp only [sD, sE, sB, sC, sN, sM, sT, sF] at hq; try (exfalso; omega)) | skip)) | refine aD rfl rfl (nb rfl) rfl rfl rfl rfl (c1) ?_ | refine aY tabOk rfl rfl (nb rfl) rfl ?_ | refine bE tabOk rfl rfl rfl (nb rfl) rfl rfl rfl rfl (by first | rfl | omega) (by first | omega | simp) ?_) | (refine aN ?_;  first | refine aH ?_ | refine aQ ?_ | refine aT ?_ | refine aE (b := true) rfl (fun _ => ?_) nTf | refine aR mixed (by kernel_rfl) ?_) | (refine aM ?_;  first | refine bA ?_ | refine aV ?_) | refine bG (bF (by kernel_rfl)) ?_)
    all_goals first | (exfalso; omega) | exact absurd rfl (by assumption) | (refine aU (by first | exact .inl rfl | exact .inr rfl) (bB rfl (aA rfl) (aA rfl)) rfl ?_; rfl)
set_option maxHeartbeats 8000000 in
set_option maxRecDepth 10000 in
theorem aCp (k n : Int) (a b : ByteArray) (x : Tree) (hx : x.whole = true) (R : Tree × Int) (fR : fineT R)
    (c1 : ACalls Tryz.prog 76 [.imm (IV.agg [.sl false kl KI, .sl false tl TI]), .imm x.iv, .imm (.lit (.int .i64 115))] [] (.imm (.tup [(asP R 115).1.iv, .lit (.int .i64 (asP R 115).2)])) []) :
    ACalls Tryz.prog 51 [.imm (IV.agg [.sl false kl KI, .sl false tl TI]), .imm (Tree.iv (.node k n a b [x]))] [] (.imm (.tup [(proj1 a R).1.iv, .lit (.int .i64 (proj1 a R).2)])) [] := by
  obtain ⟨px, hpx⟩ := bT (bK hx)
  rw [jP k n a b hpx]
  rw [hpx] at c1
  unfold proj1
  by_cases h1 : (asP R 115).2 = 0
  · rw [if_neg (by simpa using h1)]
    obtain ⟨h0, hk⟩ := eU h1
    rw [tF h1] at c1
    obtain ⟨R1, R2⟩ := R
    unfold fineT at fR
    dsimp only at *
    obtain ⟨g1, g2, g3⟩ := fR h0
    obtain ⟨n', a', b', kids, e, hl, hf⟩ := fM g1 g2 g3 (.inl hk)
    rw [hk] at e
    subst e h0
    have c2 := aAY 115 n' a' b' kids a (by omega) fun t ht => by
      obtain ⟨k', n', a', b', c, e, _, hc, _⟩ := hf t ht
      exact ⟨k', n', a', b', c, e, hc⟩
    unfold part1
    rw [kidsOf]
    unfold partR at c2
    rw [Tree.iv] at c1 c2
    generalize Tree.ivs kids = Z at *
    clear fR g1 g2 g3 hf hk h1
    cases hp : partP kids a with
    | none =>
      rw [hp] at c2
      dsimp only at *
      refine aJ Tryz.func51 rfl rfl (nb rfl) rfl ?_
      repeat' (first | refine aG ?_ | (refine aI ?_;  first | refine aC tabOk rfl rfl rfl (nb rfl) rfl ?_ | (refine aK rfl rfl rfl (nb rfl) rfl rfl rfl (fun hq => ?_) (fun hq => ?_) <;> (first | (simp only [sD, sE, sB, sC, sN, sM, sT, sF] at hq; try (exfalso; omega)) | skip)) | refine aD rfl rfl (nb rfl) rfl rfl rfl rfl (c1) ?_ | refine aD rfl rfl (nb rfl) rfl rfl rfl rfl (c2) ?_ | refine aY tabOk rfl rfl (nb rfl) rfl ?_ | refine bE tabOk rfl rfl rfl (nb rfl) rfl rfl rfl rfl (by first | rfl | omega) (by first | omega | simp) ?_) | (refine aN ?_;  first | refine aH ?_ | refine aQ ?_ | refine aT ?_ | refine aZ ?_ | refine aE (b := true) rfl (fun _ => ?_) nTf | refine aE (b := false) rfl nFt (fun _ => ?_) | refine aR mixed (by kernel_rfl) ?_) | (refine aM ?_;  first | refine bA ?_ | refine aV ?_) | refine bG (bF (by kernel_rfl)) ?_)
      all_goals first | (exfalso; omega) | exact absurd rfl (by assumption) | (refine aU (by first | exact .inl rfl | exact .inr rfl) (bB rfl (aA rfl) (aA rfl)) rfl ?_; rfl)
    | some p =>
      rw [hp] at c2
      dsimp only at *
      generalize p.iv = pi at *
      refine aJ Tryz.func51 rfl rfl (nb rfl) rfl ?_
      repeat' (first | refine aG ?_ | (refine aI ?_;  first | refine aC tabOk rfl rfl rfl (nb rfl) rfl ?_ | (refine aK rfl rfl rfl (nb rfl) rfl rfl rfl (fun hq => ?_) (fun hq => ?_) <;> (first | (simp only [sD, sE, sB, sC, sN, sM, sT, sF] at hq; try (exfalso; omega)) | skip)) | refine aD rfl rfl (nb rfl) rfl rfl rfl rfl (c1) ?_ | refine aD rfl rfl (nb rfl) rfl rfl rfl rfl (c2) ?_ | refine aY tabOk rfl rfl (nb rfl) rfl ?_ | refine bE tabOk rfl rfl rfl (nb rfl) rfl rfl rfl rfl (by first | rfl | omega) (by first | omega | simp) ?_) | (refine aN ?_;  first | refine aH ?_ | refine aQ ?_ | refine aT ?_ | refine aZ ?_ | refine aE (b := false) rfl nFt (fun _ => ?_) | refine aR mixed (by kernel_rfl) ?_) | (refine aM ?_;  first | refine bA ?_) | refine bG (bF (by kernel_rfl)) ?_)
      all_goals first | (exfalso; omega) | exact absurd rfl (by assumption) | (refine aU (by first | exact .inl rfl | exact .inr rfl) (bB rfl (aA rfl) (aA rfl)) rfl ?_; rfl)
  · rw [if_pos h1]
    generalize asP R 115 = Q at *
    obtain ⟨Q1, Q2⟩ := Q
    dsimp only at *
    generalize Q1.iv = qi at *
    clear fR
    refine aJ Tryz.func51 rfl rfl (nb rfl) rfl ?_
    repeat' (first | refine aG ?_ | (refine aI ?_;  first | refine aC tabOk rfl rfl rfl (nb rfl) rfl ?_ | (refine aK rfl rfl rfl (nb rfl) rfl rfl rfl (fun hq => ?_) (fun hq => ?_) <;> (first | (simp only [sD, sE, sB, sC, sN, sM, sT, sF] at hq; try (exfalso; omega)) | skip)) | refine aD rfl rfl (nb rfl) rfl rfl rfl rfl (c1) ?_ | refine aY tabOk rfl rfl (nb rfl) rfl ?_ | refine bE tabOk rfl rfl rfl (nb rfl) rfl rfl rfl rfl (by first | rfl | omega) (by first | omega | simp) ?_) | (refine aN ?_;  first | refine aH ?_ | refine aQ ?_ | refine aT ?_ | refine aE (b := true) rfl (fun _ => ?_) nTf | refine aR mixed (by kernel_rfl) ?_) | (refine aM ?_;  first | refine bA ?_ | refine aV ?_) | refine bG (bF (by kernel_rfl)) ?_)
    all_goals first | (exfalso; omega) | exact absurd rfl (by assumption) | (refine aU (by first | exact .inl rfl | exact .inr rfl) (bB rfl (aA rfl) (aA rfl)) rfl ?_; rfl)
set_option maxHeartbeats 8000000 in
set_option maxRecDepth 10000 in
theorem aCq (k n : Int) (a b : ByteArray) (x C : Tree) (hx : x.whole = true) (hC : C.whole = true) (hCs : C.size ≤ 100000000) (R K : Tree × Int) (fR : fineT R) (fK : fineK 100000000 K)
    (c1 : ACalls Tryz.prog 17 [.imm (IV.agg [.sl false kl KI, .sl false tl TI]), .imm x.iv] [] (.imm (.tup [(R).1.iv, .lit (.int .i64 (R).2)])) [])
    (c2 : ACalls Tryz.prog 18 [.imm (.sl false kl KI), .imm C.iv] [] (.imm (.tup [(K).1.iv, .lit (.int .i64 (K).2)])) []) :
    ACalls Tryz.prog 52 [.imm (IV.agg [.sl false kl KI, .sl false tl TI]), .imm (Tree.iv (.node k n a b [x, C]))] [] (.imm (.tup [(tapp1 R K C).1.iv, .lit (.int .i64 (tapp1 R K C).2)])) [] := by
  obtain ⟨px, hpx⟩ := bT (bK hx)
  obtain ⟨pC, hpC⟩ := bT (bK hC)
  rw [dH k n a b hpx hpC]
  rw [hpx] at c1
  rw [hpC] at c2
  unfold tapp1
  obtain ⟨F1, F2⟩ := R
  obtain ⟨X1, X2⟩ := K
  unfold fineT at fR
  unfold fineK at fK
  dsimp only at *
  by_cases h1 : F2 = 0
  · obtain ⟨f1, f2, f3⟩ := fR h1
    subst h1
    rw [if_neg (by simp)]
    by_cases h2 : X2 = 0
    · obtain ⟨g1, g2, g3⟩ := fK h2
      subst h2
      rw [if_neg (by simp)]
      by_cases hk : F1.kind = 117
      · obtain ⟨n', a', b', u, v, e, hu, hv, wu, wv, su, sv⟩ := iO f1 f2 f3 (.inl hk)
        rw [hk] at e
        subst e
        have cs := iH u X1 (.inr wu) (.inr g2) su g3
        have cf := lY v C sv hCs
        rw [hpC] at cf
        have e0 : kid0 (.node 117 n' a' b' [u, v]) = u := rfl
        have e1 : kid1 (.node 117 n' a' b' [u, v]) = v := rfl
        rw [e0, e1]
        obtain ⟨pu, hpu⟩ := bT (bK wu)
        obtain ⟨pv, hpv⟩ := bT (bK wv)
        rw [dH 117 n' a' b' hpu hpv] at c1
        rw [hpu] at cs
        rw [hpv] at cf
        generalize X1.iv = xi at *
        generalize filledP v C = Q at *
        obtain ⟨Q1, Q2⟩ := Q
        dsimp only at *
        clear fR fK f1 f2 f3 g1 g2 g3
        cases hs : sameP u X1 with
        | true =>
          rw [hs] at cs
          rw [if_neg (by simp [Tree.kind])]
          dsimp only
          generalize Q1.iv = qi at *
          refine aJ Tryz.func52 rfl rfl (nb rfl) rfl ?_
          repeat' (first | refine aG ?_ | (refine aI ?_;  first | refine aC tabOk rfl rfl rfl (nb rfl) rfl ?_ | (refine aK rfl rfl rfl (nb rfl) rfl rfl rfl (fun hq => ?_) (fun hq => ?_) <;> (first | (simp only [sD, sE, sB, sC, sN, sM, sT, sF] at hq; try (exfalso; omega)) | skip)) | refine aD rfl rfl (nb rfl) rfl rfl rfl rfl (c1) ?_ | refine aD rfl rfl (nb rfl) rfl rfl rfl rfl (c2) ?_ | refine aD rfl rfl (nb rfl) rfl rfl rfl rfl (cs) ?_ | refine aD rfl rfl (nb rfl) rfl rfl rfl rfl (cf) ?_ | refine aY tabOk rfl rfl (nb rfl) rfl ?_ | refine bE tabOk rfl rfl rfl (nb rfl) rfl rfl rfl rfl (by first | rfl | omega) (by first | omega | simp) ?_) | (refine aN ?_;  first | refine aH ?_ | refine aQ ?_ | refine aX ?_ | refine aT ?_ | refine aZ ?_ | refine aE (b := false) rfl nFt (fun _ => ?_) | refine aR mixed (by kernel_rfl) ?_) | (refine aM ?_;  first | refine bA ?_) | (refine aW ?_;  first | refine bS ?_) | refine bG (bF (by kernel_rfl)) ?_)
          all_goals first | (exfalso; omega) | exact absurd rfl (by assumption) | (refine aU (by first | exact .inl rfl | exact .inr rfl) (bB rfl (aA rfl) (aA rfl)) rfl ?_; rfl)
        | false =>
          rw [hs] at cs
          rw [if_pos (.inr rfl)]
          refine aJ Tryz.func52 rfl rfl (nb rfl) rfl ?_
          repeat' (first | refine aG ?_ | (refine aI ?_;  first | refine aC tabOk rfl rfl rfl (nb rfl) rfl ?_ | (refine aK rfl rfl rfl (nb rfl) rfl rfl rfl (fun hq => ?_) (fun hq => ?_) <;> (first | (simp only [sD, sE, sB, sC, sN, sM, sT, sF] at hq; try (exfalso; omega)) | skip)) | refine aD rfl rfl (nb rfl) rfl rfl rfl rfl (c1) ?_ | refine aD rfl rfl (nb rfl) rfl rfl rfl rfl (c2) ?_ | refine aD rfl rfl (nb rfl) rfl rfl rfl rfl (cs) ?_ | refine aY tabOk rfl rfl (nb rfl) rfl ?_ | refine bE tabOk rfl rfl rfl (nb rfl) rfl rfl rfl rfl (by first | rfl | omega) (by first | omega | simp) ?_) | (refine aN ?_;  first | refine aH ?_ | refine aQ ?_ | refine aX ?_ | refine aT ?_ | refine aZ ?_ | refine aE (b := true) rfl (fun _ => ?_) nTf | refine aE (b := false) rfl nFt (fun _ => ?_) | refine aR mixed (by kernel_rfl) ?_) | (refine aM ?_;  first | refine bA ?_ | refine aV ?_) | (refine aW ?_;  first | refine bD ?_) | refine bG (bF (by kernel_rfl)) ?_)
          all_goals first | (exfalso; omega) | exact absurd rfl (by assumption) | (refine aU (by first | exact .inl rfl | exact .inr rfl) (bB rfl (aA rfl) (aA rfl)) rfl ?_; rfl)
      · rw [if_pos (.inl hk)]
        obtain ⟨k', n', a', b', ks, rfl⟩ := cJ f2
        rw [Tree.kind] at hk
        rw [Tree.iv] at c1
        generalize Tree.ivs ks = Z at *
        generalize X1.iv = xi at *
        clear fR fK f1 f2 f3 g1 g2 g3
        refine aJ Tryz.func52 rfl rfl (nb rfl) rfl ?_
        repeat' (first | refine aG ?_ | (refine aI ?_;  first | refine aC tabOk rfl rfl rfl (nb rfl) rfl ?_ | refine cA rfl rfl (nb rfl) ?_ | (refine aK rfl rfl rfl (nb rfl) rfl rfl rfl (fun hq => ?_) (fun hq => ?_) <;> (first | (simp only [sD, sE, sB, sC, sN, sM, sT, sF] at hq; try (exfalso; omega)) | skip)) | refine aD rfl rfl (nb rfl) rfl rfl rfl rfl (c1) ?_ | refine aD rfl rfl (nb rfl) rfl rfl rfl rfl (c2) ?_ | refine aY tabOk rfl rfl (nb rfl) rfl ?_ | refine bE tabOk rfl rfl rfl (nb rfl) rfl rfl rfl rfl (by first | rfl | omega) (by first | omega | simp) ?_) | (refine aN ?_;  first | refine aH ?_ | refine aQ ?_ | refine aX ?_ | refine aT ?_ | refine aZ ?_ | refine aE (b := true) rfl (fun _ => ?_) nTf | refine aE (b := false) rfl nFt (fun _ => ?_) | refine aR mixed (by kernel_rfl) ?_) | (refine aM ?_;  first | refine bA ?_ | refine aV ?_) | (refine aW ?_;  first | refine bD ?_) | refine bG (bF (by kernel_rfl)) ?_)
        all_goals first | (exfalso; omega) | exact absurd rfl (by assumption) | (refine aU (by first | exact .inl rfl | exact .inr rfl) (bB rfl (aA rfl) (aA rfl)) rfl ?_; rfl)
    · rw [if_pos h2]
      generalize X1.iv = xi at *
      generalize F1.iv = fi at *
      clear fR fK
      refine aJ Tryz.func52 rfl rfl (nb rfl) rfl ?_
      repeat' (first | refine aG ?_ | (refine aI ?_;  first | refine aC tabOk rfl rfl rfl (nb rfl) rfl ?_ | (refine aK rfl rfl rfl (nb rfl) rfl rfl rfl (fun hq => ?_) (fun hq => ?_) <;> (first | (simp only [sD, sE, sB, sC, sN, sM, sT, sF] at hq; try (exfalso; omega)) | skip)) | refine aD rfl rfl (nb rfl) rfl rfl rfl rfl (c1) ?_ | refine aD rfl rfl (nb rfl) rfl rfl rfl rfl (c2) ?_ | refine aY tabOk rfl rfl (nb rfl) rfl ?_ | refine bE tabOk rfl rfl rfl (nb rfl) rfl rfl rfl rfl (by first | rfl | omega) (by first | omega | simp) ?_) | (refine aN ?_;  first | refine aH ?_ | refine aQ ?_ | refine aX ?_ | refine aT ?_ | refine aZ ?_ | refine aE (b := true) rfl (fun _ => ?_) nTf | refine aE (b := false) rfl nFt (fun _ => ?_) | refine aR mixed (by kernel_rfl) ?_) | (refine aM ?_;  first | refine bA ?_ | refine aV ?_) | (refine aW ?_;  first | refine bD ?_) | refine bG (bF (by kernel_rfl)) ?_)
      all_goals first | (exfalso; omega) | exact absurd rfl (by assumption) | (refine aU (by first | exact .inl rfl | exact .inr rfl) (bB rfl (aA rfl) (aA rfl)) rfl ?_; rfl)
  · rw [if_pos h1]
    generalize F1.iv = fi at *
    clear fR fK
    refine aJ Tryz.func52 rfl rfl (nb rfl) rfl ?_
    repeat' (first | refine aG ?_ | (refine aI ?_;  first | refine aC tabOk rfl rfl rfl (nb rfl) rfl ?_ | (refine aK rfl rfl rfl (nb rfl) rfl rfl rfl (fun hq => ?_) (fun hq => ?_) <;> (first | (simp only [sD, sE, sB, sC, sN, sM, sT, sF] at hq; try (exfalso; omega)) | skip)) | refine aD rfl rfl (nb rfl) rfl rfl rfl rfl (c1) ?_ | refine aY tabOk rfl rfl (nb rfl) rfl ?_ | refine bE tabOk rfl rfl rfl (nb rfl) rfl rfl rfl rfl (by first | rfl | omega) (by first | omega | simp) ?_) | (refine aN ?_;  first | refine aH ?_ | refine aQ ?_ | refine aT ?_ | refine aE (b := true) rfl (fun _ => ?_) nTf | refine aR mixed (by kernel_rfl) ?_) | (refine aM ?_;  first | refine bA ?_ | refine aV ?_) | refine bG (bF (by kernel_rfl)) ?_)
    all_goals first | (exfalso; omega) | exact absurd rfl (by assumption) | (refine aU (by first | exact .inl rfl | exact .inr rfl) (bB rfl (aA rfl) (aA rfl)) rfl ?_; rfl)
end
end Go.Proofs.YtocaohipfiapkaaGreat.Ab
namespace Go.Proofs.YtocaohipfiapkaaGreat.Ab
set_option linter.unusedVariables false
set_option linter.unusedSimpArgs false
open Go.RowKit
attribute [local irreducible] AWP AOps AExit AThen ABlock ANoGoto FeetOk
section
variable (kl tl : Nat) (KI TI : List IV)
theorem fO (n b : Tree) : fineT (filledP n b) := fun h => by
  obtain ⟨h1, h2, h3⟩ := bQ (jN n b h)
  exact ⟨h3, h1, by omega⟩
set_option maxHeartbeats 8000000 in
set_option maxRecDepth 10000 in
theorem aCr (k n : Int) (a b : ByteArray) (C x T : Tree) (hC : C.whole = true) (hx : x.whole = true) (hT : T.whole = true) (hCs : C.size ≤ 100000000) (S K A : Tree × Int) (fS : fineT S) (fK : fineK 100000000 K) (fA : fineW A)
    (c1 : ACalls Tryz.prog 75 [.imm (IV.agg [.sl false kl KI, .sl false tl TI]), .imm T.iv] [] (.imm (.tup [(S).1.iv, .lit (.int .i64 (S).2)])) [])
    (c2 : ACalls Tryz.prog 18 [.imm (.sl false kl KI), .imm C.iv] [] (.imm (.tup [(K).1.iv, .lit (.int .i64 (K).2)])) [])
    (c3 : ACalls Tryz.prog 17 [.imm (IV.agg [.sl false kl KI, .sl false tl TI]), .imm x.iv] [] (.imm (.tup [(A).1.iv, .lit (.int .i64 (A).2)])) []) :
    ACalls Tryz.prog 53 [.imm (IV.agg [.sl false kl KI, .sl false tl TI]), .imm (Tree.iv (.node k n a b [C, x, T]))] [] (.imm (.tup [(pack1 S K A C).1.iv, .lit (.int .i64 (pack1 S K A C).2)])) [] := by
  obtain ⟨px, hpx⟩ := bT (bK hx)
  obtain ⟨pC, hpC⟩ := bT (bK hC)
  obtain ⟨pT, hpT⟩ := bT (bK hT)
  rw [vC k n a b hpC hpx hpT]
  rw [hpT] at c1
  rw [hpC] at c2
  rw [hpx] at c3
  unfold pack1
  obtain ⟨S1, S2⟩ := S
  obtain ⟨K1, K2⟩ := K
  obtain ⟨A1, A2⟩ := A
  unfold fineT at fS
  unfold fineK at fK
  unfold fineW at fA
  dsimp only at *
  by_cases h1 : S2 = 0
  · obtain ⟨s1, s2, s3⟩ := fS h1
    subst h1
    rw [if_neg (by simp)]
    by_cases h2 : K2 = 0
    · obtain ⟨k1, k2, k3⟩ := fK h2
      subst h2
      rw [if_neg (by simp)]
      by_cases h3 : A2 = 0
      · obtain ⟨a1, a2⟩ := fA h3
        subst h3
        rw [if_neg (by simp)]
        by_cases hk : S1.kind = 118
        · obtain ⟨n', a', b', u, v, e, hu, hv, wu, wv, su, sv⟩ := iO s1 s2 s3 (.inr hk)
          rw [hk] at e
          subst e
          have cs := iH u K1 (.inr wu) (.inr k2) su k3
          have cf := lY v C sv hCs
          have hff := fO v C
          rw [hpC] at cf
          have e0 : kid0 (.node 118 n' a' b' [u, v]) = u := rfl
          have e1 : kid1 (.node 118 n' a' b' [u, v]) = v := rfl
          rw [e0, e1]
          obtain ⟨pu, hpu⟩ := bT (bK wu)
          obtain ⟨pv, hpv⟩ := bT (bK wv)
          rw [hpu] at cs
          rw [hpv] at cf
          generalize K1.iv = ki at *
          unfold alike1
          generalize filledP v C = Q at *
          obtain ⟨Q1, Q2⟩ := Q
          unfold fineT at hff
          dsimp only at hff cf ⊢
          rw [dH 118 n' a' b' hpu hpv] at c1
          cases hs : sameP u K1 with
          | true =>
            rw [hs] at cs
            rw [if_neg (by simp [Tree.kind])]
            by_cases h4 : Q2 = 0
            · obtain ⟨q1, q2, q3⟩ := hff h4
              have cq := iH A1 Q1 (.inr a1) (.inr q2) a2 q3
              subst h4
              rw [if_neg (by simp)]
              generalize A1.iv = ai at *
              generalize Q1.iv = qi at *
              clear fS fK fA s1 s2 s3 k1 k2 k3 a1 a2 hff q1 q2 q3
              cases hq : sameP A1 Q1 with
              | true =>
                rw [hq] at cq
                rw [if_neg (by simp)]
                dsimp only
                rw [dH 118 n' a' b' hpu hpv]
                refine aJ Tryz.func53 rfl rfl (nb rfl) rfl ?_
                repeat' (first | refine aG ?_ | (refine aI ?_;  first | refine aC tabOk rfl rfl rfl (nb rfl) rfl ?_ | (refine aK rfl rfl rfl (nb rfl) rfl rfl rfl (fun hq => ?_) (fun hq => ?_) <;> (first | (simp only [sD, sE, sB, sC, sN, sM, sT, sF] at hq; try (exfalso; omega)) | skip)) | refine aD rfl rfl (nb rfl) rfl rfl rfl rfl (c1) ?_ | refine aD rfl rfl (nb rfl) rfl rfl rfl rfl (c2) ?_ | refine aD rfl rfl (nb rfl) rfl rfl rfl rfl (c3) ?_ | refine aD rfl rfl (nb rfl) rfl rfl rfl rfl (cs) ?_ | refine aD rfl rfl (nb rfl) rfl rfl rfl rfl (cf) ?_ | refine aD rfl rfl (nb rfl) rfl rfl rfl rfl (cq) ?_ | refine aY tabOk rfl rfl (nb rfl) rfl ?_ | refine bE tabOk rfl rfl rfl (nb rfl) rfl rfl rfl rfl (by first | rfl | omega) (by first | omega | simp) ?_) | (refine aN ?_;  first | refine aH ?_ | refine aQ ?_ | refine aX ?_ | refine aT ?_ | refine aZ ?_ | refine aE (b := false) rfl nFt (fun _ => ?_) | refine aR mixed (by kernel_rfl) ?_) | (refine aM ?_;  first | refine bA ?_) | (refine aW ?_;  first | refine bS ?_) | refine bG (bF (by kernel_rfl)) ?_)
                all_goals first | (exfalso; omega) | exact absurd rfl (by assumption) | (refine aU (by first | exact .inl rfl | exact .inr rfl) (bB rfl (aA rfl) (aA rfl)) rfl ?_; rfl)
              | false =>
                rw [hq] at cq
                rw [if_pos rfl]
                refine aJ Tryz.func53 rfl rfl (nb rfl) rfl ?_
                repeat' (first | refine aG ?_ | (refine aI ?_;  first | refine aC tabOk rfl rfl rfl (nb rfl) rfl ?_ | (refine aK rfl rfl rfl (nb rfl) rfl rfl rfl (fun hq => ?_) (fun hq => ?_) <;> (first | (simp only [sD, sE, sB, sC, sN, sM, sT, sF] at hq; try (exfalso; omega)) | skip)) | refine aD rfl rfl (nb rfl) rfl rfl rfl rfl (c1) ?_ | refine aD rfl rfl (nb rfl) rfl rfl rfl rfl (c2) ?_ | refine aD rfl rfl (nb rfl) rfl rfl rfl rfl (c3) ?_ | refine aD rfl rfl (nb rfl) rfl rfl rfl rfl (cs) ?_ | refine aD rfl rfl (nb rfl) rfl rfl rfl rfl (cf) ?_ | refine aD rfl rfl (nb rfl) rfl rfl rfl rfl (cq) ?_ | refine aY tabOk rfl rfl (nb rfl) rfl ?_ | refine bE tabOk rfl rfl rfl (nb rfl) rfl rfl rfl rfl (by first | rfl | omega) (by first | omega | simp) ?_) | (refine aN ?_;  first | refine aH ?_ | refine aQ ?_ | refine aX ?_ | refine aT ?_ | refine aZ ?_ | refine aE (b := true) rfl (fun _ => ?_) nTf | refine aE (b := false) rfl nFt (fun _ => ?_) | refine aR mixed (by kernel_rfl) ?_) | (refine aM ?_;  first | refine bA ?_ | refine aV ?_) | (refine aW ?_;  first | refine bS ?_ | refine bD ?_) | refine bG (bF (by kernel_rfl)) ?_)
                all_goals first | (exfalso; omega) | exact absurd rfl (by assumption) | (refine aU (by first | exact .inl rfl | exact .inr rfl) (bB rfl (aA rfl) (aA rfl)) rfl ?_; rfl)
            · rw [if_pos h4]
              generalize A1.iv = ai at *
              generalize Q1.iv = qi at *
              clear fS fK fA s1 s2 s3 k1 k2 k3 a1 a2 hff
              refine aJ Tryz.func53 rfl rfl (nb rfl) rfl ?_
              repeat' (first | refine aG ?_ | (refine aI ?_;  first | refine aC tabOk rfl rfl rfl (nb rfl) rfl ?_ | (refine aK rfl rfl rfl (nb rfl) rfl rfl rfl (fun hq => ?_) (fun hq => ?_) <;> (first | (simp only [sD, sE, sB, sC, sN, sM, sT, sF] at hq; try (exfalso; omega)) | skip)) | refine aD rfl rfl (nb rfl) rfl rfl rfl rfl (c1) ?_ | refine aD rfl rfl (nb rfl) rfl rfl rfl rfl (c2) ?_ | refine aD rfl rfl (nb rfl) rfl rfl rfl rfl (c3) ?_ | refine aD rfl rfl (nb rfl) rfl rfl rfl rfl (cs) ?_ | refine aD rfl rfl (nb rfl) rfl rfl rfl rfl (cf) ?_ | refine aY tabOk rfl rfl (nb rfl) rfl ?_ | refine bE tabOk rfl rfl rfl (nb rfl) rfl rfl rfl rfl (by first | rfl | omega) (by first | omega | simp) ?_) | (refine aN ?_;  first | refine aH ?_ | refine aQ ?_ | refine aX ?_ | refine aT ?_ | refine aZ ?_ | refine aE (b := true) rfl (fun _ => ?_) nTf | refine aE (b := false) rfl nFt (fun _ => ?_) | refine aR mixed (by kernel_rfl) ?_) | (refine aM ?_;  first | refine bA ?_ | refine aV ?_) | (refine aW ?_;  first | refine bS ?_ | refine bD ?_) | refine bG (bF (by kernel_rfl)) ?_)
              all_goals first | (exfalso; omega) | exact absurd rfl (by assumption) | (refine aU (by first | exact .inl rfl | exact .inr rfl) (bB rfl (aA rfl) (aA rfl)) rfl ?_; rfl)
          | false =>
            rw [hs] at cs
            rw [if_pos (.inr rfl)]
            generalize A1.iv = ai at *
            clear fS fK fA s1 s2 s3 k1 k2 k3 a1 a2 hff
            refine aJ Tryz.func53 rfl rfl (nb rfl) rfl ?_
            repeat' (first | refine aG ?_ | (refine aI ?_;  first | refine aC tabOk rfl rfl rfl (nb rfl) rfl ?_ | (refine aK rfl rfl rfl (nb rfl) rfl rfl rfl (fun hq => ?_) (fun hq => ?_) <;> (first | (simp only [sD, sE, sB, sC, sN, sM, sT, sF] at hq; try (exfalso; omega)) | skip)) | refine aD rfl rfl (nb rfl) rfl rfl rfl rfl (c1) ?_ | refine aD rfl rfl (nb rfl) rfl rfl rfl rfl (c2) ?_ | refine aD rfl rfl (nb rfl) rfl rfl rfl rfl (c3) ?_ | refine aD rfl rfl (nb rfl) rfl rfl rfl rfl (cs) ?_ | refine aY tabOk rfl rfl (nb rfl) rfl ?_ | refine bE tabOk rfl rfl rfl (nb rfl) rfl rfl rfl rfl (by first | rfl | omega) (by first | omega | simp) ?_) | (refine aN ?_;  first | refine aH ?_ | refine aQ ?_ | refine aX ?_ | refine aT ?_ | refine aZ ?_ | refine aE (b := true) rfl (fun _ => ?_) nTf | refine aE (b := false) rfl nFt (fun _ => ?_) | refine aR mixed (by kernel_rfl) ?_) | (refine aM ?_;  first | refine bA ?_ | refine aV ?_) | (refine aW ?_;  first | refine bD ?_) | refine bG (bF (by kernel_rfl)) ?_)
            all_goals first | (exfalso; omega) | exact absurd rfl (by assumption) | (refine aU (by first | exact .inl rfl | exact .inr rfl) (bB rfl (aA rfl) (aA rfl)) rfl ?_; rfl)
        · rw [if_pos (.inl hk)]
          obtain ⟨k', n', a', b', ks, rfl⟩ := cJ s2
          rw [Tree.kind] at hk
          rw [Tree.iv] at c1
          generalize Tree.ivs ks = Z at *
          generalize K1.iv = ki at *
          generalize A1.iv = ai at *
          clear fS fK fA s1 s2 s3 k1 k2 k3 a1 a2
          refine aJ Tryz.func53 rfl rfl (nb rfl) rfl ?_
          repeat' (first | refine aG ?_ | (refine aI ?_;  first | refine aC tabOk rfl rfl rfl (nb rfl) rfl ?_ | refine cA rfl rfl (nb rfl) ?_ | (refine aK rfl rfl rfl (nb rfl) rfl rfl rfl (fun hq => ?_) (fun hq => ?_) <;> (first | (simp only [sD, sE, sB, sC, sN, sM, sT, sF] at hq; try (exfalso; omega)) | skip)) | refine aD rfl rfl (nb rfl) rfl rfl rfl rfl (c1) ?_ | refine aD rfl rfl (nb rfl) rfl rfl rfl rfl (c2) ?_ | refine aD rfl rfl (nb rfl) rfl rfl rfl rfl (c3) ?_ | refine aY tabOk rfl rfl (nb rfl) rfl ?_ | refine bE tabOk rfl rfl rfl (nb rfl) rfl rfl rfl rfl (by first | rfl | omega) (by first | omega | simp) ?_) | (refine aN ?_;  first | refine aH ?_ | refine aQ ?_ | refine aX ?_ | refine aT ?_ | refine aZ ?_ | refine aE (b := true) rfl (fun _ => ?_) nTf | refine aE (b := false) rfl nFt (fun _ => ?_) | refine aR mixed (by kernel_rfl) ?_) | (refine aM ?_;  first | refine bA ?_ | refine aV ?_) | (refine aW ?_;  first | refine bD ?_) | refine bG (bF (by kernel_rfl)) ?_)
          all_goals first | (exfalso; omega) | exact absurd rfl (by assumption) | (refine aU (by first | exact .inl rfl | exact .inr rfl) (bB rfl (aA rfl) (aA rfl)) rfl ?_; rfl)
      · rw [if_pos h3]
        generalize S1.iv = si at *
        generalize K1.iv = ki at *
        generalize A1.iv = ai at *
        clear fS fK fA
        refine aJ Tryz.func53 rfl rfl (nb rfl) rfl ?_
        repeat' (first | refine aG ?_ | (refine aI ?_;  first | refine aC tabOk rfl rfl rfl (nb rfl) rfl ?_ | (refine aK rfl rfl rfl (nb rfl) rfl rfl rfl (fun hq => ?_) (fun hq => ?_) <;> (first | (simp only [sD, sE, sB, sC, sN, sM, sT, sF] at hq; try (exfalso; omega)) | skip)) | refine aD rfl rfl (nb rfl) rfl rfl rfl rfl (c1) ?_ | refine aD rfl rfl (nb rfl) rfl rfl rfl rfl (c2) ?_ | refine aD rfl rfl (nb rfl) rfl rfl rfl rfl (c3) ?_ | refine aY tabOk rfl rfl (nb rfl) rfl ?_ | refine bE tabOk rfl rfl rfl (nb rfl) rfl rfl rfl rfl (by first | rfl | omega) (by first | omega | simp) ?_) | (refine aN ?_;  first | refine aH ?_ | refine aQ ?_ | refine aX ?_ | refine aT ?_ | refine aZ ?_ | refine aE (b := true) rfl (fun _ => ?_) nTf | refine aE (b := false) rfl nFt (fun _ => ?_) | refine aR mixed (by kernel_rfl) ?_) | (refine aM ?_;  first | refine bA ?_ | refine aV ?_) | (refine aW ?_;  first | refine bD ?_) | refine bG (bF (by kernel_rfl)) ?_)
        all_goals first | (exfalso; omega) | exact absurd rfl (by assumption) | (refine aU (by first | exact .inl rfl | exact .inr rfl) (bB rfl (aA rfl) (aA rfl)) rfl ?_; rfl)
    · rw [if_pos h2]
      generalize S1.iv = si at *
      generalize K1.iv = ki at *
      clear fS fK fA
      refine aJ Tryz.func53 rfl rfl (nb rfl) rfl ?_
      repeat' (first | refine aG ?_ | (refine aI ?_;  first | refine aC tabOk rfl rfl rfl (nb rfl) rfl ?_ | (refine aK rfl rfl rfl (nb rfl) rfl rfl rfl (fun hq => ?_) (fun hq => ?_) <;> (first | (simp only [sD, sE, sB, sC, sN, sM, sT, sF] at hq; try (exfalso; omega)) | skip)) | refine aD rfl rfl (nb rfl) rfl rfl rfl rfl (c1) ?_ | refine aD rfl rfl (nb rfl) rfl rfl rfl rfl (c2) ?_ | refine aY tabOk rfl rfl (nb rfl) rfl ?_ | refine bE tabOk rfl rfl rfl (nb rfl) rfl rfl rfl rfl (by first | rfl | omega) (by first | omega | simp) ?_) | (refine aN ?_;  first | refine aH ?_ | refine aQ ?_ | refine aT ?_ | refine aZ ?_ | refine aE (b := true) rfl (fun _ => ?_) nTf | refine aE (b := false) rfl nFt (fun _ => ?_) | refine aR mixed (by kernel_rfl) ?_) | (refine aM ?_;  first | refine bA ?_ | refine aV ?_) | refine bG (bF (by kernel_rfl)) ?_)
      all_goals first | (exfalso; omega) | exact absurd rfl (by assumption) | (refine aU (by first | exact .inl rfl | exact .inr rfl) (bB rfl (aA rfl) (aA rfl)) rfl ?_; rfl)
  · rw [if_pos h1]
    generalize S1.iv = si at *
    clear fS fK fA
    refine aJ Tryz.func53 rfl rfl (nb rfl) rfl ?_
    repeat' (first | refine aG ?_ | (refine aI ?_;  first | refine aC tabOk rfl rfl rfl (nb rfl) rfl ?_ | (refine aK rfl rfl rfl (nb rfl) rfl rfl rfl (fun hq => ?_) (fun hq => ?_) <;> (first | (simp only [sD, sE, sB, sC, sN, sM, sT, sF] at hq; try (exfalso; omega)) | skip)) | refine aD rfl rfl (nb rfl) rfl rfl rfl rfl (c1) ?_ | refine aY tabOk rfl rfl (nb rfl) rfl ?_ | refine bE tabOk rfl rfl rfl (nb rfl) rfl rfl rfl rfl (by first | rfl | omega) (by first | omega | simp) ?_) | (refine aN ?_;  first | refine aH ?_ | refine aQ ?_ | refine aT ?_ | refine aE (b := true) rfl (fun _ => ?_) nTf | refine aR mixed (by kernel_rfl) ?_) | (refine aM ?_;  first | refine bA ?_ | refine aV ?_) | refine bG (bF (by kernel_rfl)) ?_)
    all_goals first | (exfalso; omega) | exact absurd rfl (by assumption) | (refine aU (by first | exact .inl rfl | exact .inr rfl) (bB rfl (aA rfl) (aA rfl)) rfl ?_; rfl)
set_option maxHeartbeats 8000000 in
set_option maxRecDepth 10000 in
theorem in_a (k n : Int) (a b : ByteArray) (T x : Tree) (hT : T.whole = true) (hx : x.whole = true) (S A : Tree × Int) (fS : fineT S) (fA : fineW A)
    (c1 : ACalls Tryz.prog 75 [.imm (IV.agg [.sl false kl KI, .sl false tl TI]), .imm T.iv] [] (.imm (.tup [(S).1.iv, .lit (.int .i64 (S).2)])) [])
    (c3 : ACalls Tryz.prog 17 [.imm (IV.agg [.sl false kl KI, .sl false tl TI]), .imm x.iv] [] (.imm (.tup [(A).1.iv, .lit (.int .i64 (A).2)])) []) :
    ACalls Tryz.prog 57 [.imm (IV.agg [.sl false kl KI, .sl false tl TI]), .imm (Tree.iv (.node k n a b [T, x]))] [] (.imm (.tup [(in1 a S A).1.iv, .lit (.int .i64 (in1 a S A).2)])) [] := by
  obtain ⟨px, hpx⟩ := bT (bK hx)
  obtain ⟨pT, hpT⟩ := bT (bK hT)
  rw [dH k n a b hpT hpx]
  rw [hpT] at c1
  rw [hpx] at c3
  unfold in1
  obtain ⟨S1, S2⟩ := S
  obtain ⟨A1, A2⟩ := A
  unfold fineT at fS
  unfold fineW at fA
  dsimp only at *
  by_cases h1 : S2 = 0
  · obtain ⟨s1, s2, s3⟩ := fS h1
    subst h1
    rw [if_neg (by simp)]
    by_cases h3 : A2 = 0
    · obtain ⟨a1, a2⟩ := fA h3
      subst h3
      rw [if_neg (by simp)]
      by_cases hk : S1.kind = 121
      · rw [if_neg (by simpa using hk)]
        obtain ⟨n', a', b', kids, e, hl, hf⟩ := fM s1 s2 s3 (.inr hk)
        have hpf := fun p hp => @pV 100000000 S1 p a s1 s2 s3 (.inr hk) hp
        have hS1 : S1.size ≤ 100000000 := s3
        rw [hk] at e
        have c2 := aAY 121 n' a' b' kids a (by omega) fun t ht => by
          obtain ⟨k', n', a', b', c, e, _, hc, _⟩ := hf t ht
          exact ⟨k', n', a', b', c, e, hc⟩
        rw [← e] at c2
        unfold partR at c2
        have e2 : kids = kidsOf S1 := by rw [e]; rfl
        rw [e2] at c2
        have e3 : S1.iv = .ptr [.lit (.int .i64 121), .lit (.int .i64 n'), .lit (.string a'), .lit (.string b'), .sl false kids.length (Tree.ivs kids)] 0 := by rw [e, Tree.iv]
        generalize Tree.ivs kids = Z at *
        generalize kids.length = L at *
        clear hf e e2
        cases hp : partP (kidsOf S1) a with
        | none =>
          rw [hp] at c2
          rw [in2]
          dsimp only at *
          rw [e3] at c1 c2
          generalize A1.iv = ai at *
          clear fS fA s1 s2 s3 a1 a2 hk hpf
          refine aJ Tryz.func57 rfl rfl (nb rfl) rfl ?_
          repeat' (first | refine aG ?_ | (refine aI ?_;  first | refine aC tabOk rfl rfl rfl (nb rfl) rfl ?_ | (refine aK rfl rfl rfl (nb rfl) rfl rfl rfl (fun hq => ?_) (fun hq => ?_) <;> (first | (simp only [sD, sE, sB, sC, sN, sM, sT, sF] at hq; try (exfalso; omega)) | skip)) | refine aD rfl rfl (nb rfl) rfl rfl rfl rfl (c1) ?_ | refine aD rfl rfl (nb rfl) rfl rfl rfl rfl (c2) ?_ | refine aD rfl rfl (nb rfl) rfl rfl rfl rfl (c3) ?_ | refine aY tabOk rfl rfl (nb rfl) rfl ?_ | refine bE tabOk rfl rfl rfl (nb rfl) rfl rfl rfl rfl (by first | rfl | omega) (by first | omega | simp) ?_) | (refine aN ?_;  first | refine aH ?_ | refine aQ ?_ | refine aT ?_ | refine aZ ?_ | refine aE (b := true) rfl (fun _ => ?_) nTf | refine aE (b := false) rfl nFt (fun _ => ?_) | refine aR mixed (by kernel_rfl) ?_) | (refine aM ?_;  first | refine bA ?_ | refine aV ?_) | refine bG (bF (by kernel_rfl)) ?_)
          all_goals first | (exfalso; omega) | exact absurd rfl (by assumption) | (refine aU (by first | exact .inl rfl | exact .inr rfl) (bB rfl (aA rfl) (aA rfl)) rfl ?_; rfl)
        | some p =>
          rw [hp] at c2
          obtain ⟨p1, p2, p3⟩ := hpf p hp
          have cf := lY p S1 p3 hS1
          have hff := fO p S1
          rw [in2]
          unfold alike1
          dsimp only at *
          generalize filledP p S1 = Q at *
          obtain ⟨Q1, Q2⟩ := Q
          unfold fineT at hff
          dsimp only at hff cf ⊢
          generalize p.iv = pi at *
          by_cases h4 : Q2 = 0
          · obtain ⟨q1, q2, q3⟩ := hff h4
            have cq := iH A1 Q1 (.inr a1) (.inr q2) a2 q3
            subst h4
            rw [if_neg (by simp)]
            generalize A1.iv = ai at *
            generalize Q1.iv = qi at *
            clear fS fA s1 s2 s3 a1 a2 hff q1 q2 q3 hpf p1 p2 p3 hk
            cases hq : sameP A1 Q1 with
            | true =>
              rw [hq] at cq
              rw [if_neg (by simp)]
              dsimp only
              rw [e3] at c1 c2 cf ⊢
              refine aJ Tryz.func57 rfl rfl (nb rfl) rfl ?_
              repeat' (first | refine aG ?_ | (refine aI ?_;  first | refine aC tabOk rfl rfl rfl (nb rfl) rfl ?_ | (refine aK rfl rfl rfl (nb rfl) rfl rfl rfl (fun hq => ?_) (fun hq => ?_) <;> (first | (simp only [sD, sE, sB, sC, sN, sM, sT, sF] at hq; try (exfalso; omega)) | skip)) | refine aD rfl rfl (nb rfl) rfl rfl rfl rfl (c1) ?_ | refine aD rfl rfl (nb rfl) rfl rfl rfl rfl (c2) ?_ | refine aD rfl rfl (nb rfl) rfl rfl rfl rfl (c3) ?_ | refine aD rfl rfl (nb rfl) rfl rfl rfl rfl (cf) ?_ | refine aD rfl rfl (nb rfl) rfl rfl rfl rfl (cq) ?_ | refine aY tabOk rfl rfl (nb rfl) rfl ?_ | refine bE tabOk rfl rfl rfl (nb rfl) rfl rfl rfl rfl (by first | rfl | omega) (by first | omega | simp) ?_) | (refine aN ?_;  first | refine aH ?_ | refine aQ ?_ | refine aX ?_ | refine aT ?_ | refine aZ ?_ | refine aE (b := false) rfl nFt (fun _ => ?_) | refine aR mixed (by kernel_rfl) ?_) | (refine aM ?_;  first | refine bA ?_) | (refine aW ?_;  first | refine bS ?_) | refine bG (bF (by kernel_rfl)) ?_)
              all_goals first | (exfalso; omega) | exact absurd rfl (by assumption) | (refine aU (by first | exact .inl rfl | exact .inr rfl) (bB rfl (aA rfl) (aA rfl)) rfl ?_; rfl)
            | false =>
              rw [hq] at cq
              rw [if_pos rfl]
              rw [e3] at c1 c2 cf
              refine aJ Tryz.func57 rfl rfl (nb rfl) rfl ?_
              repeat' (first | refine aG ?_ | (refine aI ?_;  first | refine aC tabOk rfl rfl rfl (nb rfl) rfl ?_ | (refine aK rfl rfl rfl (nb rfl) rfl rfl rfl (fun hq => ?_) (fun hq => ?_) <;> (first | (simp only [sD, sE, sB, sC, sN, sM, sT, sF] at hq; try (exfalso; omega)) | skip)) | refine aD rfl rfl (nb rfl) rfl rfl rfl rfl (c1) ?_ | refine aD rfl rfl (nb rfl) rfl rfl rfl rfl (c2) ?_ | refine aD rfl rfl (nb rfl) rfl rfl rfl rfl (c3) ?_ | refine aD rfl rfl (nb rfl) rfl rfl rfl rfl (cf) ?_ | refine aD rfl rfl (nb rfl) rfl rfl rfl rfl (cq) ?_ | refine aY tabOk rfl rfl (nb rfl) rfl ?_ | refine bE tabOk rfl rfl rfl (nb rfl) rfl rfl rfl rfl (by first | rfl | omega) (by first | omega | simp) ?_) | (refine aN ?_;  first | refine aH ?_ | refine aQ ?_ | refine aX ?_ | refine aT ?_ | refine aZ ?_ | refine aE (b := true) rfl (fun _ => ?_) nTf | refine aE (b := false) rfl nFt (fun _ => ?_) | refine aR mixed (by kernel_rfl) ?_) | (refine aM ?_;  first | refine bA ?_ | refine aV ?_) | (refine aW ?_;  first | refine bD ?_) | refine bG (bF (by kernel_rfl)) ?_)
              all_goals first | (exfalso; omega) | exact absurd rfl (by assumption) | (refine aU (by first | exact .inl rfl | exact .inr rfl) (bB rfl (aA rfl) (aA rfl)) rfl ?_; rfl)
          · rw [if_pos h4]
            generalize A1.iv = ai at *
            generalize Q1.iv = qi at *
            rw [e3] at c1 c2 cf
            clear fS fA s1 s2 s3 a1 a2 hff hpf p1 p2 p3 hk
            refine aJ Tryz.func57 rfl rfl (nb rfl) rfl ?_
            repeat' (first | refine aG ?_ | (refine aI ?_;  first | refine aC tabOk rfl rfl rfl (nb rfl) rfl ?_ | (refine aK rfl rfl rfl (nb rfl) rfl rfl rfl (fun hq => ?_) (fun hq => ?_) <;> (first | (simp only [sD, sE, sB, sC, sN, sM, sT, sF] at hq; try (exfalso; omega)) | skip)) | refine aD rfl rfl (nb rfl) rfl rfl rfl rfl (c1) ?_ | refine aD rfl rfl (nb rfl) rfl rfl rfl rfl (c2) ?_ | refine aD rfl rfl (nb rfl) rfl rfl rfl rfl (c3) ?_ | refine aD rfl rfl (nb rfl) rfl rfl rfl rfl (cf) ?_ | refine aY tabOk rfl rfl (nb rfl) rfl ?_ | refine bE tabOk rfl rfl rfl (nb rfl) rfl rfl rfl rfl (by first | rfl | omega) (by first | omega | simp) ?_) | (refine aN ?_;  first | refine aH ?_ | refine aQ ?_ | refine aX ?_ | refine aT ?_ | refine aZ ?_ | refine aE (b := true) rfl (fun _ => ?_) nTf | refine aE (b := false) rfl nFt (fun _ => ?_) | refine aR mixed (by kernel_rfl) ?_) | (refine aM ?_;  first | refine bA ?_ | refine aV ?_) | (refine aW ?_;  first | refine bD ?_) | refine bG (bF (by kernel_rfl)) ?_)
            all_goals first | (exfalso; omega) | exact absurd rfl (by assumption) | (refine aU (by first | exact .inl rfl | exact .inr rfl) (bB rfl (aA rfl) (aA rfl)) rfl ?_; rfl)
      · rw [if_pos hk]
        obtain ⟨k', n', a', b', ks, rfl⟩ := cJ s2
        rw [Tree.kind] at hk
        rw [Tree.iv] at c1
        generalize Tree.ivs ks = Z at *
        generalize A1.iv = ai at *
        clear fS fA s1 s2 s3 a1 a2
        refine aJ Tryz.func57 rfl rfl (nb rfl) rfl ?_
        repeat' (first | refine aG ?_ | (refine aI ?_;  first | refine aC tabOk rfl rfl rfl (nb rfl) rfl ?_ | (refine aK rfl rfl rfl (nb rfl) rfl rfl rfl (fun hq => ?_) (fun hq => ?_) <;> (first | (simp only [sD, sE, sB, sC, sN, sM, sT, sF] at hq; try (exfalso; omega)) | skip)) | refine aD rfl rfl (nb rfl) rfl rfl rfl rfl (c1) ?_ | refine aD rfl rfl (nb rfl) rfl rfl rfl rfl (c3) ?_ | refine aY tabOk rfl rfl (nb rfl) rfl ?_ | refine bE tabOk rfl rfl rfl (nb rfl) rfl rfl rfl rfl (by first | rfl | omega) (by first | omega | simp) ?_) | (refine aN ?_;  first | refine aH ?_ | refine aQ ?_ | refine aT ?_ | refine aZ ?_ | refine aE (b := true) rfl (fun _ => ?_) nTf | refine aE (b := false) rfl nFt (fun _ => ?_) | refine aR mixed (by kernel_rfl) ?_) | (refine aM ?_;  first | refine bA ?_ | refine aV ?_) | refine bG (bF (by kernel_rfl)) ?_)
        all_goals first | (exfalso; omega) | exact absurd rfl (by assumption) | (refine aU (by first | exact .inl rfl | exact .inr rfl) (bB rfl (aA rfl) (aA rfl)) rfl ?_; rfl)
    · rw [if_pos h3]
      generalize S1.iv = si at *
      generalize A1.iv = ai at *
      clear fS fA
      refine aJ Tryz.func57 rfl rfl (nb rfl) rfl ?_
      repeat' (first | refine aG ?_ | (refine aI ?_;  first | refine aC tabOk rfl rfl rfl (nb rfl) rfl ?_ | (refine aK rfl rfl rfl (nb rfl) rfl rfl rfl (fun hq => ?_) (fun hq => ?_) <;> (first | (simp only [sD, sE, sB, sC, sN, sM, sT, sF] at hq; try (exfalso; omega)) | skip)) | refine aD rfl rfl (nb rfl) rfl rfl rfl rfl (c1) ?_ | refine aD rfl rfl (nb rfl) rfl rfl rfl rfl (c3) ?_ | refine aY tabOk rfl rfl (nb rfl) rfl ?_ | refine bE tabOk rfl rfl rfl (nb rfl) rfl rfl rfl rfl (by first | rfl | omega) (by first | omega | simp) ?_) | (refine aN ?_;  first | refine aH ?_ | refine aQ ?_ | refine aT ?_ | refine aZ ?_ | refine aE (b := true) rfl (fun _ => ?_) nTf | refine aE (b := false) rfl nFt (fun _ => ?_) | refine aR mixed (by kernel_rfl) ?_) | (refine aM ?_;  first | refine bA ?_ | refine aV ?_) | refine bG (bF (by kernel_rfl)) ?_)
      all_goals first | (exfalso; omega) | exact absurd rfl (by assumption) | (refine aU (by first | exact .inl rfl | exact .inr rfl) (bB rfl (aA rfl) (aA rfl)) rfl ?_; rfl)
  · rw [if_pos h1]
    generalize S1.iv = si at *
    clear fS fA
    refine aJ Tryz.func57 rfl rfl (nb rfl) rfl ?_
    repeat' (first | refine aG ?_ | (refine aI ?_;  first | refine aC tabOk rfl rfl rfl (nb rfl) rfl ?_ | (refine aK rfl rfl rfl (nb rfl) rfl rfl rfl (fun hq => ?_) (fun hq => ?_) <;> (first | (simp only [sD, sE, sB, sC, sN, sM, sT, sF] at hq; try (exfalso; omega)) | skip)) | refine aD rfl rfl (nb rfl) rfl rfl rfl rfl (c1) ?_ | refine aY tabOk rfl rfl (nb rfl) rfl ?_ | refine bE tabOk rfl rfl rfl (nb rfl) rfl rfl rfl rfl (by first | rfl | omega) (by first | omega | simp) ?_) | (refine aN ?_;  first | refine aH ?_ | refine aQ ?_ | refine aT ?_ | refine aE (b := true) rfl (fun _ => ?_) nTf | refine aR mixed (by kernel_rfl) ?_) | (refine aM ?_;  first | refine bA ?_ | refine aV ?_) | refine bG (bF (by kernel_rfl)) ?_)
    all_goals first | (exfalso; omega) | exact absurd rfl (by assumption) | (refine aU (by first | exact .inl rfl | exact .inr rfl) (bB rfl (aA rfl) (aA rfl)) rfl ?_; rfl)
set_option maxHeartbeats 8000000 in
set_option maxRecDepth 10000 in
theorem vD (kl2 tl2 : Nat) (KI2 TI2 : List IV) (C3 : IV) (k n : Int) (a b : ByteArray) (x y : Tree) (hx : x.whole = true) (hy : y.whole = true) (R B : Tree × Int) (e : Int) (fR : fineT R) (fB : fineW B)
    (c1 : ACalls Tryz.prog 76 [.imm (IV.agg [.sl false kl KI, .sl false tl TI]), .imm x.iv, .imm (.lit (.int .i64 118))] [] (.imm (.tup [(asP R 118).1.iv, .lit (.int .i64 (asP R 118).2)])) [])
    (c2 : (asP R 118).2 = 0 → ACalls Tryz.prog 30 [.imm (IV.agg [.sl false kl KI, .sl false tl TI]), .imm (kid0 R.1).iv] [] (.imm (.tup [(IV.agg [.sl false kl2 KI2, .sl false tl2 TI2]), .lit (.int .i64 e)])) [])
    (c3 : (asP R 118).2 = 0 → e = 0 → ACalls Tryz.prog 31 [.imm (IV.agg [.sl false kl2 KI2, .sl false tl2 TI2]), .imm (kid1 R.1).iv] [] (.imm C3) [])
    (c4 : (asP R 118).2 = 0 → e = 0 → ACalls Tryz.prog 17 [.imm C3, .imm y.iv] [] (.imm (.tup [(B).1.iv, .lit (.int .i64 (B).2)])) []) :
    ACalls Tryz.prog 54 [.imm (IV.agg [.sl false kl KI, .sl false tl TI]), .imm (Tree.iv (.node k n a b [x, y]))] [] (.imm (.tup [(unpack1 R e B).1.iv, .lit (.int .i64 (unpack1 R e B).2)])) [] := by
  obtain ⟨px, hpx⟩ := bT (bK hx)
  obtain ⟨py, hpy⟩ := bT (bK hy)
  rw [dH k n a b hpx hpy]
  rw [hpx] at c1
  rw [hpy] at c4
  unfold unpack1
  by_cases h1 : (asP R 118).2 = 0
  · rw [if_neg (by simpa using h1)]
    replace c2 := c2 h1
    replace c3 := c3 h1
    replace c4 := c4 h1
    obtain ⟨h0, hk⟩ := eU h1
    rw [tF h1] at c1
    clear h1
    obtain ⟨R1, R2⟩ := R
    obtain ⟨B1, B2⟩ := B
    unfold fineT at fR
    unfold fineW at fB
    dsimp only at *
    obtain ⟨s1, s2, s3⟩ := fR h0
    obtain ⟨n', a', b', u, v, e2, hu, hv, wu, wv, su, sv⟩ := iO s1 s2 s3 (.inr hk)
    rw [hk] at e2
    subst e2 h0
    have e0 : kid0 (.node 118 n' a' b' [u, v]) = u := rfl
    have e1 : kid1 (.node 118 n' a' b' [u, v]) = v := rfl
    rw [e0] at c2
    rw [e1] at c3
    obtain ⟨pu, hpu⟩ := bT (bK wu)
    obtain ⟨pv, hpv⟩ := bT (bK wv)
    rw [dH 118 n' a' b' hpu hpv] at c1
    rw [hpu] at c2
    rw [hpv] at c3
    clear fR s1 s2 s3 hk
    by_cases h2 : e = 0
    · replace c3 := c3 h2
      replace c4 := c4 h2
      subst h2
      rw [if_neg (by simp)]
      by_cases h3 : B2 = 0
      · obtain ⟨b1, b2⟩ := fB h3
        have c6 := uW B1 0 b2
        have c7 := sX B1 (-1) 0 b2
        subst h3
        rw [if_neg (by simp)]
        clear fB b1 b2
        cases ho : occP B1 0 with
        | true =>
          rw [if_pos rfl]
          rw [ho] at c6
          generalize B1.iv = bi at *
          refine aJ Tryz.func54 rfl rfl (nb rfl) rfl ?_
          refine cW (eG 8 (by simp) rfl rfl) ?_
          repeat' (first | refine aG ?_ | (refine aI ?_;  first | refine aC tabOk rfl rfl rfl (nb rfl) rfl ?_ | (refine aK rfl rfl rfl (nb rfl) rfl rfl rfl (fun hq => ?_) (fun hq => ?_) <;> (first | (simp only [sD, sE, sB, sC, sN, sM, sT, sF] at hq; try (exfalso; omega)) | skip)) | refine dX 8 (d := 8) tabOk rfl rfl rfl (nb rfl) rfl rfl rfl rfl ?_ | refine aD rfl rfl (nb rfl) rfl rfl rfl rfl (c1) ?_ | refine aD rfl rfl (nb rfl) rfl rfl rfl rfl (c2) ?_ | refine aD rfl rfl (nb rfl) rfl rfl rfl rfl (c3) ?_ | refine aD rfl rfl (nb rfl) rfl rfl rfl rfl (c4) ?_ | refine aD rfl rfl (nb rfl) rfl rfl rfl rfl (c6) ?_ | refine aY tabOk rfl rfl (nb rfl) rfl ?_ | refine bM tabOk rfl rfl rfl (nb rfl) rfl rfl rfl rfl ?_ | refine bP tabOk rfl rfl rfl rfl rfl rfl rfl rfl rfl rfl rfl ?_ | refine bE tabOk rfl rfl rfl (nb rfl) rfl rfl rfl rfl (by first | rfl | omega) (by first | omega | simp) ?_) | (refine aN ?_;  first | refine aH ?_ | refine aQ ?_ | refine aX ?_ | refine aT ?_ | refine aZ ?_ | refine aE (b := true) rfl (fun _ => ?_) nTf | refine aE (b := false) rfl nFt (fun _ => ?_) | refine aR mixed (by kernel_rfl) ?_) | (refine aM ?_;  first | refine bA ?_ | refine aV ?_) | (refine aW ?_;  first | refine bD ?_) | refine bG (bF (by kernel_rfl)) ?_)
          all_goals first | (exfalso; omega) | exact absurd rfl (by assumption) | (refine aU (by first | exact .inl rfl | exact .inr rfl) (bB rfl (aA rfl) (aA rfl)) rfl ?_; rfl)
        | false =>
          rw [if_neg (by simp)]
          rw [ho] at c6
          generalize shiftP B1 (-1) 0 = Q at *
          obtain ⟨Q1, Q2⟩ := Q
          dsimp only at *
          generalize B1.iv = bi at *
          generalize Q1.iv = qi at *
          refine aJ Tryz.func54 rfl rfl (nb rfl) rfl ?_
          refine cW (eG 8 (by simp) rfl rfl) ?_
          repeat' (first | refine aG ?_ | (refine aI ?_;  first | refine aC tabOk rfl rfl rfl (nb rfl) rfl ?_ | (refine aK rfl rfl rfl (nb rfl) rfl rfl rfl (fun hq => ?_) (fun hq => ?_) <;> (first | (simp only [sD, sE, sB, sC, sN, sM, sT, sF] at hq; try (exfalso; omega)) | skip)) | refine dX 8 (d := 8) tabOk rfl rfl rfl (nb rfl) rfl rfl rfl rfl ?_ | refine aD rfl rfl (nb rfl) rfl rfl rfl rfl (c1) ?_ | refine aD rfl rfl (nb rfl) rfl rfl rfl rfl (c2) ?_ | refine aD rfl rfl (nb rfl) rfl rfl rfl rfl (c3) ?_ | refine aD rfl rfl (nb rfl) rfl rfl rfl rfl (c4) ?_ | refine aD rfl rfl (nb rfl) rfl rfl rfl rfl (c6) ?_ | refine aD rfl rfl (nb rfl) rfl rfl rfl rfl (c7) ?_ | refine aY tabOk rfl rfl (nb rfl) rfl ?_ | refine bM tabOk rfl rfl rfl (nb rfl) rfl rfl rfl rfl ?_ | refine bP tabOk rfl rfl rfl rfl rfl rfl rfl rfl rfl rfl rfl ?_ | refine bE tabOk rfl rfl rfl (nb rfl) rfl rfl rfl rfl (by first | rfl | omega) (by first | omega | simp) ?_) | (refine aN ?_;  first | refine aH ?_ | refine aQ ?_ | refine aX ?_ | refine aT ?_ | refine aZ ?_ | refine aE (b := false) rfl nFt (fun _ => ?_) | refine aR mixed (by kernel_rfl) ?_) | (refine aM ?_;  first | refine bA ?_) | (refine aW ?_;  first | refine bS ?_) | refine bG (bF (by kernel_rfl)) ?_)
          all_goals first | (exfalso; omega) | exact absurd rfl (by assumption) | (refine aU (by first | exact .inl rfl | exact .inr rfl) (bB rfl (aA rfl) (aA rfl)) rfl ?_; rfl)
      · rw [if_pos h3]
        generalize B1.iv = bi at *
        clear fB
        refine aJ Tryz.func54 rfl rfl (nb rfl) rfl ?_
        refine cW (eG 8 (by simp) rfl rfl) ?_
        repeat' (first | refine aG ?_ | (refine aI ?_;  first | refine aC tabOk rfl rfl rfl (nb rfl) rfl ?_ | (refine aK rfl rfl rfl (nb rfl) rfl rfl rfl (fun hq => ?_) (fun hq => ?_) <;> (first | (simp only [sD, sE, sB, sC, sN, sM, sT, sF] at hq; try (exfalso; omega)) | skip)) | refine dX 8 (d := 8) tabOk rfl rfl rfl (nb rfl) rfl rfl rfl rfl ?_ | refine aD rfl rfl (nb rfl) rfl rfl rfl rfl (c1) ?_ | refine aD rfl rfl (nb rfl) rfl rfl rfl rfl (c2) ?_ | refine aD rfl rfl (nb rfl) rfl rfl rfl rfl (c3) ?_ | refine aD rfl rfl (nb rfl) rfl rfl rfl rfl (c4) ?_ | refine aY tabOk rfl rfl (nb rfl) rfl ?_ | refine bM tabOk rfl rfl rfl (nb rfl) rfl rfl rfl rfl ?_ | refine bP tabOk rfl rfl rfl rfl rfl rfl rfl rfl rfl rfl rfl ?_ | refine bE tabOk rfl rfl rfl (nb rfl) rfl rfl rfl rfl (by first | rfl | omega) (by first | omega | simp) ?_) | (refine aN ?_;  first | refine aH ?_ | refine aQ ?_ | refine aX ?_ | refine aT ?_ | refine aZ ?_ | refine aE (b := true) rfl (fun _ => ?_) nTf | refine aE (b := false) rfl nFt (fun _ => ?_) | refine aR mixed (by kernel_rfl) ?_) | (refine aM ?_;  first | refine bA ?_ | refine aV ?_) | (refine aW ?_;  first | refine bD ?_) | refine bG (bF (by kernel_rfl)) ?_)
        all_goals first | (exfalso; omega) | exact absurd rfl (by assumption) | (refine aU (by first | exact .inl rfl | exact .inr rfl) (bB rfl (aA rfl) (aA rfl)) rfl ?_; rfl)
    · rw [if_pos h2]
      clear c3 c4 fB
      refine aJ Tryz.func54 rfl rfl (nb rfl) rfl ?_
      refine cW (eG 8 (by simp) rfl rfl) ?_
      repeat' (first | refine aG ?_ | (refine aI ?_;  first | refine aC tabOk rfl rfl rfl (nb rfl) rfl ?_ | (refine aK rfl rfl rfl (nb rfl) rfl rfl rfl (fun hq => ?_) (fun hq => ?_) <;> (first | (simp only [sD, sE, sB, sC, sN, sM, sT, sF] at hq; try (exfalso; omega)) | skip)) | refine dX 8 (d := 8) tabOk rfl rfl rfl (nb rfl) rfl rfl rfl rfl ?_ | refine aD rfl rfl (nb rfl) rfl rfl rfl rfl (c1) ?_ | refine aD rfl rfl (nb rfl) rfl rfl rfl rfl (c2) ?_ | refine aY tabOk rfl rfl (nb rfl) rfl ?_ | refine bP tabOk rfl rfl rfl rfl rfl rfl rfl rfl rfl rfl rfl ?_ | refine bE tabOk rfl rfl rfl (nb rfl) rfl rfl rfl rfl (by first | rfl | omega) (by first | omega | simp) ?_) | (refine aN ?_;  first | refine aH ?_ | refine aQ ?_ | refine aT ?_ | refine aZ ?_ | refine aE (b := true) rfl (fun _ => ?_) nTf | refine aE (b := false) rfl nFt (fun _ => ?_) | refine aR mixed (by kernel_rfl) ?_) | (refine aM ?_;  first | refine bA ?_ | refine aV ?_) | refine bG (bF (by kernel_rfl)) ?_)
      all_goals first | (exfalso; omega) | exact absurd rfl (by assumption) | (refine aU (by first | exact .inl rfl | exact .inr rfl) (bB rfl (aA rfl) (aA rfl)) rfl ?_; rfl)
  · rw [if_pos h1]
    clear c2 c3 c4
    generalize asP R 118 = Q at *
    obtain ⟨Q1, Q2⟩ := Q
    dsimp only at *
    generalize Q1.iv = qi at *
    clear fR fB
    refine aJ Tryz.func54 rfl rfl (nb rfl) rfl ?_
    refine cW (eG 8 (by simp) rfl rfl) ?_
    repeat' (first | refine aG ?_ | (refine aI ?_;  first | refine aC tabOk rfl rfl rfl (nb rfl) rfl ?_ | (refine aK rfl rfl rfl (nb rfl) rfl rfl rfl (fun hq => ?_) (fun hq => ?_) <;> (first | (simp only [sD, sE, sB, sC, sN, sM, sT, sF] at hq; try (exfalso; omega)) | skip)) | refine aD rfl rfl (nb rfl) rfl rfl rfl rfl (c1) ?_ | refine aY tabOk rfl rfl (nb rfl) rfl ?_ | refine bE tabOk rfl rfl rfl (nb rfl) rfl rfl rfl rfl (by first | rfl | omega) (by first | omega | simp) ?_) | (refine aN ?_;  first | refine aH ?_ | refine aQ ?_ | refine aT ?_ | refine aE (b := true) rfl (fun _ => ?_) nTf | refine aR mixed (by kernel_rfl) ?_) | (refine aM ?_;  first | refine bA ?_ | refine aV ?_) | refine bG (bF (by kernel_rfl)) ?_)
    all_goals first | (exfalso; omega) | exact absurd rfl (by assumption) | (refine aU (by first | exact .inl rfl | exact .inr rfl) (bB rfl (aA rfl) (aA rfl)) rfl ?_; rfl)
end
end Go.Proofs.YtocaohipfiapkaaGreat.Ab
namespace Go.Proofs.YtocaohipfiapkaaGreat.Ab
set_option linter.unusedVariables false
set_option linter.unusedSimpArgs false
open Go.RowKit
attribute [local irreducible] AWP AOps AExit AThen ABlock ANoGoto FeetOk
section
variable (kl tl : Nat) (KI TI : List IV)
set_option maxHeartbeats 16000000 in
set_option maxRecDepth 10000 in
theorem aBa (k n : Int) (a b : ByteArray) (x y z : Tree) (hx : x.whole = true) (hy : y.whole = true) (hz : z.whole = true) (A B C : Tree × Int) (fA : fineW A) (fB : fineW B) (fC : fineW C)
    (c1 : ACalls Tryz.prog 17 [.imm (IV.agg [.sl false kl KI, .sl false tl TI]), .imm x.iv] [] (.imm (.tup [(A).1.iv, .lit (.int .i64 (A).2)])) []) (c2 : ACalls Tryz.prog 17 [.imm (IV.agg [.sl false kl KI, .sl false tl TI]), .imm y.iv] [] (.imm (.tup [(B).1.iv, .lit (.int .i64 (B).2)])) []) (c3 : ACalls Tryz.prog 17 [.imm (IV.agg [.sl false kl KI, .sl false tl TI]), .imm z.iv] [] (.imm (.tup [(C).1.iv, .lit (.int .i64 (C).2)])) []) :
    ACalls Tryz.prog 55 [.imm (IV.agg [.sl false kl KI, .sl false tl TI]), .imm (Tree.iv (.node k n a b [x, y, z]))] [] (.imm (.tup [(choice1 A B C).1.iv, .lit (.int .i64 (choice1 A B C).2)])) [] := by
  obtain ⟨px, hpx⟩ := bT (bK hx)
  obtain ⟨py, hpy⟩ := bT (bK hy)
  obtain ⟨pz, hpz⟩ := bT (bK hz)
  rw [vC k n a b hpx hpy hpz]
  rw [hpx] at c1
  rw [hpy] at c2
  rw [hpz] at c3
  generalize hQ : choice1 A B C = Q
  unfold choice1 at hQ
  obtain ⟨A1, A2⟩ := A
  obtain ⟨B1, B2⟩ := B
  obtain ⟨C1, C2⟩ := C
  unfold fineW at fA fB fC
  dsimp only at *
  refine cL Tryz.func55 rfl rfl (nb rfl) rfl ?_
  repeat' (first | refine aG ?_ | (refine aI ?_;  first | refine aC tabOk rfl rfl rfl (nb rfl) rfl ?_ | refine aY tabOk rfl rfl (nb rfl) rfl ?_) | (refine aN ?_;  first | refine aH ?_ | refine aQ ?_ | refine aX ?_))
  refine cW (nW (t := 6) 500 28 1 rfl (by simp) rfl rfl) ?_
  refine cH (ι := {j : Nat // j ≤ 3 ∧ (0 < j → A2 = 0) ∧ (1 < j → B2 = 0) ∧ (2 < j → C2 = 0)}) (fun j => S.f ⟨[(16, .imm (.lit (.int .i64 (j.1 : Int)))), (15, .imm (.lit (.int .i64 3))), (14, .imm (.sl false 3 [.ptr px 0, .ptr py 0, .ptr pz 0])), (2, .imm (.ptr [.sl false kl KI, .sl false tl TI] 0)), (6, .ref 500 j.1)], [(500, .arr 28 1 j.1 ([A1.iv, B1.iv, C1.iv].take j.1))]⟩) (fun j => 3 - j.1) ⟨0, by omega, by omega, by omega, by omega⟩ (bW (by repeat' first | exact trivial | refine ⟨rfl, ?_⟩) (by repeat' first | exact trivial | refine ⟨rfl, ?_⟩)) ?_
  rintro ⟨j, hj, i1, i2, i3⟩
  dsimp only
  match j, hj with
  | 0, _ =>
    by_cases h : A2 = 0
    · obtain ⟨pa, hpa⟩ := bT (bK (fA h).1)
      rw [hpa] at c1 ⊢
      have h' := h
      rw [h] at c1
      clear fA fB fC hQ
      repeat' (first | refine aG ?_ | (refine aI ?_;  first | refine aC tabOk rfl rfl rfl (nb rfl) rfl ?_ | (refine aK rfl rfl rfl (nb rfl) rfl rfl rfl (fun hq => ?_) (fun hq => ?_) <;> (first | (simp only [sD, sE, sB, sC, sN, sM, sT, sF] at hq; try (exfalso; omega)) | skip)) | refine aD rfl rfl (nb rfl) rfl rfl rfl rfl (c1) ?_ | refine cN tabOk rfl rfl rfl (nb rfl) rfl rfl rfl rfl rfl rfl rfl (by first | omega | decide) rfl (by first | omega | (dsimp only; omega)) (by first | omega | (dsimp only; omega)) ?_ | refine bX rfl rfl rfl (nb rfl) rfl rfl (by omega) ?_ | refine cI tabOk rfl rfl rfl (nb rfl) rfl rfl rfl rfl rfl rfl rfl rfl rfl ?_ | refine bH tabOk rfl rfl rfl (nb rfl) rfl rfl rfl rfl (by first | assumption | omega) ?_) | (refine aN ?_;  first | refine aH ?_ | refine aQ ?_ | refine bI ?_ | refine aX ?_ | refine aZ ?_ | refine aE (b := true) rfl (fun _ => ?_) nTf | refine aE (b := false) rfl nFt (fun _ => ?_)) | (refine aM ?_;  first | refine bA ?_) | (refine aW ?_;  first | refine bS ?_))
      all_goals first
        | (exfalso; omega)
        | exact absurd rfl (by assumption)
        | exact ⟨⟨1, by omega, fun _ => h', by omega, by omega⟩, (by show 3 - 1 < 3 - 0; omega), (bW (by repeat' first | exact trivial | refine ⟨rfl, ?_⟩) (by repeat' first | exact trivial | refine ⟨rfl, ?_⟩))⟩
    · rw [if_pos h] at hQ
      subst hQ
      generalize A1.iv = ai at *
      clear fA fB fC
      repeat' (first | refine aG ?_ | (refine aI ?_;  first | refine aC tabOk rfl rfl rfl (nb rfl) rfl ?_ | (refine aK rfl rfl rfl (nb rfl) rfl rfl rfl (fun hq => ?_) (fun hq => ?_) <;> (first | (simp only [sD, sE, sB, sC, sN, sM, sT, sF] at hq; try (exfalso; omega)) | skip)) | refine aD rfl rfl (nb rfl) rfl rfl rfl rfl (c1) ?_ | refine bH tabOk rfl rfl rfl (nb rfl) rfl rfl rfl rfl (by first | assumption | omega) ?_) | (refine aN ?_;  first | refine aH ?_ | refine aQ ?_ | refine aX ?_ | refine aT ?_ | refine aZ ?_ | refine aE (b := true) rfl (fun _ => ?_) nTf) | (refine aM ?_;  first | refine bA ?_ | refine aV ?_) | (refine aW ?_;  first | refine bD ?_))
      all_goals first | (exfalso; omega) | exact absurd rfl (by assumption) | (refine cM (aU (by first | exact .inl rfl | exact .inr rfl) (bB rfl (aA rfl) (aA rfl)) rfl ?_); rfl)
  | 1, _ =>
    have hA := i1 (by omega)
    rw [if_neg (by simpa using hA)] at hQ
    by_cases h : B2 = 0
    · obtain ⟨pb, hpb⟩ := bT (bK (fB h).1)
      obtain ⟨pa, hpa⟩ := bT (bK (fA hA).1)
      rw [hpb] at c2 ⊢
      rw [hpa]
      have h' := h
      rw [h] at c2
      clear fA fB fC hQ
      repeat' (first | refine aG ?_ | (refine aI ?_;  first | refine aC tabOk rfl rfl rfl (nb rfl) rfl ?_ | (refine aK rfl rfl rfl (nb rfl) rfl rfl rfl (fun hq => ?_) (fun hq => ?_) <;> (first | (simp only [sD, sE, sB, sC, sN, sM, sT, sF] at hq; try (exfalso; omega)) | skip)) | refine aD rfl rfl (nb rfl) rfl rfl rfl rfl (c2) ?_ | refine cN tabOk rfl rfl rfl (nb rfl) rfl rfl rfl rfl rfl rfl rfl (by first | omega | decide) rfl (by first | omega | (dsimp only; omega)) (by first | omega | (dsimp only; omega)) ?_ | refine bX rfl rfl rfl (nb rfl) rfl rfl (by omega) ?_ | refine cI tabOk rfl rfl rfl (nb rfl) rfl rfl rfl rfl rfl rfl rfl rfl rfl ?_ | refine bH tabOk rfl rfl rfl (nb rfl) rfl rfl rfl rfl (by first | assumption | omega) ?_) | (refine aN ?_;  first | refine aH ?_ | refine aQ ?_ | refine bI ?_ | refine aX ?_ | refine aZ ?_ | refine aE (b := true) rfl (fun _ => ?_) nTf | refine aE (b := false) rfl nFt (fun _ => ?_)) | (refine aM ?_;  first | refine bA ?_) | (refine aW ?_;  first | refine bS ?_))
      all_goals first
        | (exfalso; omega)
        | exact absurd rfl (by assumption)
        | exact ⟨⟨2, by omega, fun _ => hA, fun _ => h', by omega⟩, (by show 3 - 2 < 3 - 1; omega), (bW (by repeat' first | exact trivial | refine ⟨rfl, ?_⟩) (by repeat' first | exact trivial | refine ⟨rfl, ?_⟩))⟩
    · rw [if_pos h] at hQ
      subst hQ
      generalize A1.iv = ai at *
      generalize B1.iv = bi at *
      clear fA fB fC
      repeat' (first | refine aG ?_ | (refine aI ?_;  first | refine aC tabOk rfl rfl rfl (nb rfl) rfl ?_ | (refine aK rfl rfl rfl (nb rfl) rfl rfl rfl (fun hq => ?_) (fun hq => ?_) <;> (first | (simp only [sD, sE, sB, sC, sN, sM, sT, sF] at hq; try (exfalso; omega)) | skip)) | refine aD rfl rfl (nb rfl) rfl rfl rfl rfl (c2) ?_ | refine bH tabOk rfl rfl rfl (nb rfl) rfl rfl rfl rfl (by first | assumption | omega) ?_) | (refine aN ?_;  first | refine aH ?_ | refine aQ ?_ | refine aX ?_ | refine aT ?_ | refine aZ ?_ | refine aE (b := true) rfl (fun _ => ?_) nTf) | (refine aM ?_;  first | refine bA ?_ | refine aV ?_) | (refine aW ?_;  first | refine bD ?_))
      all_goals first | (exfalso; omega) | exact absurd rfl (by assumption) | (refine cM (aU (by first | exact .inl rfl | exact .inr rfl) (bB rfl (aA rfl) (aA rfl)) rfl ?_); rfl)
  | 2, _ =>
    have hA := i1 (by omega)
    have hB := i2 (by omega)
    rw [if_neg (by simpa using hA), if_neg (by simpa using hB)] at hQ
    by_cases h : C2 = 0
    · obtain ⟨pc, hpc⟩ := bT (bK (fC h).1)
      obtain ⟨pb, hpb⟩ := bT (bK (fB hB).1)
      obtain ⟨pa, hpa⟩ := bT (bK (fA hA).1)
      rw [hpc] at c3 ⊢
      rw [hpa, hpb]
      have h' := h
      rw [h] at c3
      clear fA fB fC hQ
      repeat' (first | refine aG ?_ | (refine aI ?_;  first | refine aC tabOk rfl rfl rfl (nb rfl) rfl ?_ | (refine aK rfl rfl rfl (nb rfl) rfl rfl rfl (fun hq => ?_) (fun hq => ?_) <;> (first | (simp only [sD, sE, sB, sC, sN, sM, sT, sF] at hq; try (exfalso; omega)) | skip)) | refine aD rfl rfl (nb rfl) rfl rfl rfl rfl (c3) ?_ | refine cN tabOk rfl rfl rfl (nb rfl) rfl rfl rfl rfl rfl rfl rfl (by first | omega | decide) rfl (by first | omega | (dsimp only; omega)) (by first | omega | (dsimp only; omega)) ?_ | refine bX rfl rfl rfl (nb rfl) rfl rfl (by omega) ?_ | refine cI tabOk rfl rfl rfl (nb rfl) rfl rfl rfl rfl rfl rfl rfl rfl rfl ?_ | refine bH tabOk rfl rfl rfl (nb rfl) rfl rfl rfl rfl (by first | assumption | omega) ?_) | (refine aN ?_;  first | refine aH ?_ | refine aQ ?_ | refine bI ?_ | refine aX ?_ | refine aZ ?_ | refine aE (b := true) rfl (fun _ => ?_) nTf | refine aE (b := false) rfl nFt (fun _ => ?_)) | (refine aM ?_;  first | refine bA ?_) | (refine aW ?_;  first | refine bS ?_))
      all_goals first
        | (exfalso; omega)
        | exact absurd rfl (by assumption)
        | exact ⟨⟨3, by omega, fun _ => hA, fun _ => hB, fun _ => h'⟩, (by show 3 - 3 < 3 - 2; omega), (bW (by repeat' first | exact trivial | refine ⟨rfl, ?_⟩) (by repeat' first | exact trivial | refine ⟨rfl, ?_⟩))⟩
    · rw [if_pos h] at hQ
      subst hQ
      generalize A1.iv = ai at *
      generalize B1.iv = bi at *
      generalize C1.iv = ci at *
      clear fA fB fC
      repeat' (first | refine aG ?_ | (refine aI ?_;  first | refine aC tabOk rfl rfl rfl (nb rfl) rfl ?_ | (refine aK rfl rfl rfl (nb rfl) rfl rfl rfl (fun hq => ?_) (fun hq => ?_) <;> (first | (simp only [sD, sE, sB, sC, sN, sM, sT, sF] at hq; try (exfalso; omega)) | skip)) | refine aD rfl rfl (nb rfl) rfl rfl rfl rfl (c3) ?_ | refine bH tabOk rfl rfl rfl (nb rfl) rfl rfl rfl rfl (by first | assumption | omega) ?_) | (refine aN ?_;  first | refine aH ?_ | refine aQ ?_ | refine aX ?_ | refine aT ?_ | refine aZ ?_ | refine aE (b := true) rfl (fun _ => ?_) nTf) | (refine aM ?_;  first | refine bA ?_ | refine aV ?_) | (refine aW ?_;  first | refine bD ?_))
      all_goals first | (exfalso; omega) | exact absurd rfl (by assumption) | (refine cM (aU (by first | exact .inl rfl | exact .inr rfl) (bB rfl (aA rfl) (aA rfl)) rfl ?_); rfl)
  | 3, _ =>
    have hA := i1 (by omega)
    have hB := i2 (by omega)
    have hC := i3 (by omega)
    rw [if_neg (by simpa using hA), if_neg (by simpa using hB), if_neg (by simpa using hC)] at hQ
    obtain ⟨gc, gc2⟩ := fC hC
    obtain ⟨gb, gb2⟩ := fB hB
    have ga := (fA hA).1
    have cs := iH B1 C1 (.inr gb) (.inr gc) gb2 gc2
    obtain ⟨pc, hpc⟩ := bT (bK gc)
    obtain ⟨pb, hpb⟩ := bT (bK gb)
    obtain ⟨k1, n1, a1, b1, ks1, rfl⟩ := cJ ga
    rw [hpb, hpc] at cs
    rw [hpb, hpc, Tree.iv]
    rw [Tree.kind] at hQ
    generalize Tree.ivs ks1 = Z at *
    clear fA fB fC c1 c2 c3
    refine cW (cU (g := 500) rfl (by repeat' first | exact trivial | exact fun _ => rfl | refine ⟨?_, ?_⟩) (by repeat' first | exact trivial | exact fun _ => rfl | refine ⟨?_, ?_⟩)) ?_
    show AWP _ _ _ _ _ (S.f ⟨[(16, .imm (.lit (.int .i64 ((3 : Nat) : Int)))), (15, .imm (.lit (.int .i64 3))), (14, .imm (.sl false 3 [.ptr px 0, .ptr py 0, .ptr pz 0])), (2, .imm (.ptr [.sl false kl KI, .sl false tl TI] 0)), (6, .imm (.sl false 3 [.ptr [.lit (.int .i64 k1), .lit (.int .i64 n1), .lit (.string a1), .lit (.string b1), .sl false ks1.length Z] 0, .ptr pb 0, .ptr pc 0]))], []⟩)
    by_cases h1 : k1 = 112
    · subst h1
      cases hs : sameP B1 C1 with
      | true =>
        rw [hs] at cs hQ
        rw [if_neg (by simp)] at hQ
        subst hQ
        dsimp only
        rw [hpb]
        repeat' (first | refine aG ?_ | (refine aI ?_;  first | refine aC tabOk rfl rfl rfl (nb rfl) rfl ?_ | (refine aK rfl rfl rfl (nb rfl) rfl rfl rfl (fun hq => ?_) (fun hq => ?_) <;> (first | (simp only [sD, sE, sB, sC, sN, sM, sT, sF] at hq; try (exfalso; omega)) | skip)) | refine aD rfl rfl (nb rfl) rfl rfl rfl rfl (cs) ?_ | refine bH tabOk rfl rfl rfl (nb rfl) rfl rfl rfl rfl (by first | assumption | omega) ?_ | refine bE tabOk rfl rfl rfl (nb rfl) rfl rfl rfl rfl (by first | rfl | omega) (by first | omega | simp) ?_) | (refine aN ?_;  first | refine aH ?_ | refine aQ ?_ | refine aT ?_ | refine bY ?_ | refine aZ ?_ | refine aE (b := false) rfl nFt (fun _ => ?_) | refine aR mixed (by kernel_rfl) ?_) | (refine aM ?_;  first | refine bA ?_ | refine bN ?_) | (refine aW ?_;  first | refine bJ ?_) | refine bG (bF (by kernel_rfl)) ?_)
        all_goals first | (exfalso; omega) | exact absurd rfl (by assumption) | (refine cM (aU (by first | exact .inl rfl | exact .inr rfl) (bB rfl (aA rfl) (aA rfl)) rfl ?_); rfl)
      | false =>
        rw [hs] at cs hQ
        rw [if_pos (.inr rfl)] at hQ
        subst hQ
        repeat' (first | refine aG ?_ | (refine aI ?_;  first | refine aC tabOk rfl rfl rfl (nb rfl) rfl ?_ | (refine aK rfl rfl rfl (nb rfl) rfl rfl rfl (fun hq => ?_) (fun hq => ?_) <;> (first | (simp only [sD, sE, sB, sC, sN, sM, sT, sF] at hq; try (exfalso; omega)) | skip)) | refine aD rfl rfl (nb rfl) rfl rfl rfl rfl (cs) ?_ | refine bH tabOk rfl rfl rfl (nb rfl) rfl rfl rfl rfl (by first | assumption | omega) ?_ | refine bE tabOk rfl rfl rfl (nb rfl) rfl rfl rfl rfl (by first | rfl | omega) (by first | omega | simp) ?_) | (refine aN ?_;  first | refine aH ?_ | refine aQ ?_ | refine aT ?_ | refine bY ?_ | refine aE (b := true) rfl (fun _ => ?_) nTf | refine aE (b := false) rfl nFt (fun _ => ?_) | refine aR mixed (by kernel_rfl) ?_) | (refine aM ?_;  first | refine bA ?_ | refine bN ?_ | refine aV ?_) | (refine aW ?_;  first | refine bJ ?_) | refine bG (bF (by kernel_rfl)) ?_)
        all_goals first | (exfalso; omega) | exact absurd rfl (by assumption) | (refine cM (aU (by first | exact .inl rfl | exact .inr rfl) (bB rfl (aA rfl) (aA rfl)) rfl ?_); rfl)
    · rw [if_pos (.inl h1)] at hQ
      subst hQ
      repeat' (first | refine aG ?_ | (refine aI ?_;  first | refine aC tabOk rfl rfl rfl (nb rfl) rfl ?_ | refine cA rfl rfl (nb rfl) ?_ | (refine aK rfl rfl rfl (nb rfl) rfl rfl rfl (fun hq => ?_) (fun hq => ?_) <;> (first | (simp only [sD, sE, sB, sC, sN, sM, sT, sF] at hq; try (exfalso; omega)) | skip)) | refine bE tabOk rfl rfl rfl (nb rfl) rfl rfl rfl rfl (by first | rfl | omega) (by first | omega | simp) ?_) | (refine aN ?_;  first | refine aH ?_ | refine aQ ?_ | refine aT ?_ | refine bY ?_ | refine aE (b := true) rfl (fun _ => ?_) nTf | refine aE (b := false) rfl nFt (fun _ => ?_) | refine aR mixed (by kernel_rfl) ?_) | (refine aM ?_;  first | refine bA ?_ | refine bN ?_ | refine aV ?_) | (refine aW ?_;  first | refine bJ ?_) | refine bG (bF (by kernel_rfl)) ?_)
      all_goals first | (exfalso; omega) | exact absurd rfl (by assumption) | (refine cM (aU (by first | exact .inl rfl | exact .inr rfl) (bB rfl (aA rfl) (aA rfl)) rfl ?_); rfl)
  | j + 4, h => omega
end
end Go.Proofs.YtocaohipfiapkaaGreat.Ab
namespace Go.Proofs.YtocaohipfiapkaaGreat.Ab
set_option linter.unusedVariables false
set_option linter.unusedSimpArgs false
open Go.RowKit
attribute [local irreducible] AWP AOps AExit AThen ABlock ANoGoto FeetOk
theorem aAe (ks ts : List Tree) : ∀ l : List Tree, (ofRec l ks ts).2 ≠ 0 → (ofRec l ks ts).1 = []
  | [], h => by rw [ofRec] at h; exact absurd rfl h
  | t :: l, h => by
    rw [ofRec] at h ⊢
    unfold consP at h ⊢
    split
    · rfl
    · rename_i h1
      rw [if_neg h1] at h
      split
      · rfl
      · rename_i h2; rw [if_neg h2] at h; exact absurd rfl h
section
variable (kl tl : Nat) (KI TI : List IV)
set_option maxHeartbeats 16000000 in
set_option maxRecDepth 10000 in
theorem aCK (k n : Int) (a b : ByteArray) (kids ks ts : List Tree) (hkl : kids.length ≤ 100000000)
    (hf : ∀ t ∈ kids, ∃ a' x, t = .node 137 0 a' emptyB [x] ∧ x.whole = true ∧ fineW (ofP x ks ts) ∧ ACalls Tryz.prog 17 [.imm (IV.agg [.sl false kl KI, .sl false tl TI]), .imm x.iv] [] (.imm (.tup [(ofP x ks ts).1.iv, .lit (.int .i64 (ofP x ks ts).2)])) []) :
    ACalls Tryz.prog 50 [.imm (IV.agg [.sl false kl KI, .sl false tl TI]), .imm (Tree.iv (.node k n a b kids))] [] (.imm (.tup [(rec1 (ofRec kids ks ts)).1.iv, .lit (.int .i64 (rec1 (ofRec kids ks ts)).2)])) [] := by
  have hQ0 := mM (ofRec kids ks ts) (aAe ks ts kids)
  generalize hQ : ofRec kids ks ts = Q at *
  have c0 := aCn 115
  rw [Tree.iv]
  refine cL Tryz.func50 rfl rfl (nb rfl) rfl ?_
  refine cW (eG 600 (by simp) rfl rfl) ?_
  repeat' (first | refine aG ?_ | (refine aI ?_;  first | refine aC tabOk rfl rfl rfl (nb rfl) rfl ?_ | refine cD rfl rfl (nb rfl) rfl rfl rfl rfl c0 (by exact ⟨rfl, trivial⟩) rfl (by simp) ?_ | refine aY tabOk rfl rfl (nb rfl) rfl ?_) | (refine aN ?_;  first | refine aH ?_ | refine aQ ?_ | refine aX ?_))
  refine cW (eX (h0 := 600) (k0 := 4) 500 28 1 rfl rfl (by simp) rfl rfl) ?_
  refine cH (ι := {p : Nat × List Tree // p.1 ≤ kids.length ∧ p.2.length = p.1 ∧ accP p.2 (ofRec (kids.drop p.1) ks ts) = Q}) (fun p => S.f ⟨[(17, .imm (.lit (.int .i64 (p.1.1 : Int)))), (16, .imm (.lit (.int .i64 (kids.length : Int)))), (15, .imm (.sl false kids.length (Tree.ivs kids))), (2, .imm (.ptr [.sl false kl KI, .sl false tl TI] 0)), (6, .obj 600 0)], [(500, .arr 28 1 p.1.1 (Tree.ivs p.1.2)), (600, .cells [.imm (.lit (.int .i64 115)), .imm (.lit (.int .i64 0)), .imm (.lit (.string ⟨#[]⟩)), .imm (.lit (.string ⟨#[]⟩)), .ref 500 p.1.1])]⟩) (fun p => kids.length - p.1.1) ⟨(0, []), Nat.zero_le _, rfl, by rw [List.drop_zero, hQ]; exact hQ0⟩ (bW (by repeat' first | exact trivial | refine ⟨rfl, ?_⟩) (by repeat' first | exact trivial | refine ⟨rfl, ?_⟩)) ?_
  clear hQ0 c0
  rintro ⟨⟨j, acc⟩, hj, hal, hac⟩
  dsimp only at hj hal hac ⊢
  by_cases hlt : j < kids.length
  · have hget := cS kids j hlt
    obtain ⟨a', x, et, hx, hfx, c2⟩ := hf _ (List.getElem_mem hlt)
    obtain ⟨px, hpx⟩ := bT (bK hx)
    rw [List.drop_eq_getElem_cons hlt, ofRec, et] at hac
    rw [show ofField (.node 137 0 a' emptyB [x]) ks ts = field1 a' (ofP x ks ts) by rw [ofField, ofH]] at hac
    rw [et, jP 137 0 a' emptyB hpx] at hget
    rw [hpx] at c2
    unfold field1 at hac
    generalize ofP x ks ts = R at *
    obtain ⟨R1, R2⟩ := R
    unfold fineW at hfx
    dsimp only at *
    by_cases h0 : R2 = 0
    · rw [if_neg (by simpa using h0), mL rfl] at hac
      obtain ⟨g1, _⟩ := hfx h0
      obtain ⟨pr, hpr⟩ := bT (bK g1)
      subst h0
      rw [hpr] at c2
      have hnx : Tree.ivs (acc ++ [.node 116 0 a' emptyB [R1]]) = Tree.ivs acc ++ [.ptr [.lit (.int .i64 116), .lit (.int .i64 0), .lit (.string a'), .lit (.string emptyB), .sl false 1 [.ptr pr 0]] 0] := by rw [cX, cX, List.map_append, List.map_cons, jP 116 0 a' emptyB hpr]; rfl
      have hil := dD acc
      rw [hal] at hil
      generalize hAI : Tree.ivs acc = AI at *
      clear hf hfx
      repeat' (first | refine aG ?_ | (refine aI ?_;  first | refine aC tabOk rfl rfl rfl (nb rfl) rfl ?_ | (refine aK rfl rfl rfl (nb rfl) rfl rfl rfl (fun hq => ?_) (fun hq => ?_) <;> (first | (simp only [sD, sE, sB, sC, sN, sM, sT, sF] at hq; try (exfalso; omega)) | skip)) | refine bO tabOk rfl rfl rfl (nb rfl) rfl rfl rfl hget ?_ | refine aD rfl rfl (nb rfl) rfl rfl rfl rfl (c2) ?_ | refine cN tabOk rfl rfl rfl (nb rfl) rfl rfl rfl rfl rfl rfl rfl (by first | omega | decide) rfl (by first | omega | (dsimp only; omega)) (by first | omega | (dsimp only; omega)) ?_ | refine bX rfl rfl rfl (nb rfl) rfl rfl (by omega) ?_ | refine cI tabOk rfl rfl rfl (nb rfl) rfl rfl rfl rfl rfl rfl rfl rfl rfl ?_ | refine aY tabOk rfl rfl (nb rfl) rfl ?_ | refine bM tabOk rfl rfl rfl (nb rfl) rfl rfl rfl rfl ?_ | refine bP tabOk rfl rfl rfl rfl rfl rfl rfl rfl rfl rfl rfl ?_ | refine bH tabOk rfl rfl rfl (nb rfl) rfl rfl rfl rfl (by first | assumption | omega) ?_ | refine bE tabOk rfl rfl rfl (nb rfl) rfl rfl rfl rfl (by first | rfl | omega) (by first | omega | simp) ?_) | (refine aN ?_;  first | refine aH ?_ | refine aQ ?_ | refine bI ?_ | refine aX ?_ | refine aZ ?_ | refine aE (b := true) rfl (fun _ => ?_) nTf | refine aE (b := false) rfl nFt (fun _ => ?_) | refine aR mixed (by kernel_rfl) ?_) | (refine aM ?_;  first | refine bA ?_) | (refine aW ?_;  first | refine bS ?_) | refine bG (bF (by kernel_rfl)) ?_)
      all_goals first
        | (exfalso; omega)
        | exact absurd rfl (by assumption)
        | (refine ⟨⟨(j + 1, acc ++ [.node 116 0 a' emptyB [R1]]), hlt, by rw [List.length_append, hal]; rfl, hac⟩, (by show kids.length - (j + 1) < kids.length - j; omega), ?_⟩; dsimp only; rw [hnx]; exact (bW (by repeat' first | exact trivial | refine ⟨rfl, ?_⟩) (by repeat' first | exact trivial | refine ⟨rfl, ?_⟩)))
    · rw [if_pos h0, pX h0] at hac
      generalize R1.iv = ri at *
      subst hac
      unfold rec1
      dsimp only
      rw [if_pos h0]
      clear hf hfx
      generalize Tree.ivs acc = AI at *
      repeat' (first | refine aG ?_ | (refine aI ?_;  first | refine aC tabOk rfl rfl rfl (nb rfl) rfl ?_ | (refine aK rfl rfl rfl (nb rfl) rfl rfl rfl (fun hq => ?_) (fun hq => ?_) <;> (first | (simp only [sD, sE, sB, sC, sN, sM, sT, sF] at hq; try (exfalso; omega)) | skip)) | refine bO tabOk rfl rfl rfl (nb rfl) rfl rfl rfl hget ?_ | refine aD rfl rfl (nb rfl) rfl rfl rfl rfl (c2) ?_ | refine bH tabOk rfl rfl rfl (nb rfl) rfl rfl rfl rfl (by first | assumption | omega) ?_ | refine bE tabOk rfl rfl rfl (nb rfl) rfl rfl rfl rfl (by first | rfl | omega) (by first | omega | simp) ?_) | (refine aN ?_;  first | refine aH ?_ | refine aQ ?_ | refine aX ?_ | refine aT ?_ | refine aZ ?_ | refine aE (b := true) rfl (fun _ => ?_) nTf | refine aR mixed (by kernel_rfl) ?_) | (refine aM ?_;  first | refine bA ?_ | refine aV ?_) | (refine aW ?_;  first | refine bD ?_) | refine bG (bF (by kernel_rfl)) ?_)
      all_goals first
        | (exfalso; omega)
        | exact absurd rfl (by assumption)
        | (refine cM (aU (by first | exact .inl rfl | exact .inr rfl) (bB rfl (aA rfl) (aA rfl)) rfl ?_); rfl)
  · have ej : j = kids.length := by omega
    subst ej
    rw [List.drop_length, show ofRec [] ks ts = ([], 0) by rw [ofRec], pY] at hac
    subst hac
    unfold rec1
    dsimp only
    rw [if_neg (by simp)]
    have e : (tyT 115 acc).iv = .ptr [.lit (.int .i64 115), .lit (.int .i64 0), .lit (.string ⟨#[]⟩), .lit (.string ⟨#[]⟩), .sl false kids.length (Tree.ivs acc)] 0 := by unfold tyT; rw [Tree.iv, hal]; rfl
    rw [e]
    generalize Tree.ivs acc = AI at *
    generalize Tree.ivs kids = ZI at *
    clear hf
    repeat' (first | refine aG ?_ | (refine aI ?_;  first | refine aC tabOk rfl rfl rfl (nb rfl) rfl ?_ | (refine aK rfl rfl rfl (nb rfl) rfl rfl rfl (fun hq => ?_) (fun hq => ?_) <;> (first | (simp only [sD, sE, sB, sC, sN, sM, sT, sF] at hq; try (exfalso; omega)) | skip))) | (refine aN ?_;  first | refine aH ?_ | refine aQ ?_ | refine aT ?_ | refine bY ?_ | refine aE (b := false) rfl nFt (fun _ => ?_)) | (refine aM ?_;  first | refine bA ?_ | refine bN ?_) | (refine aW ?_;  first | refine bJ ?_))
    all_goals first
      | (exfalso; omega)
      | exact absurd rfl (by assumption)
      | (refine dU ((Imp.of_le (σ' := S.f ⟨[(4, .obj 600 0), (5, .imm (.lit (.int .i64 0)))], [(500, .arr 28 1 kids.length AI), (600, .cells [.imm (.lit (.int .i64 115)), .imm (.lit (.int .i64 0)), .imm (.lit (.string ⟨#[]⟩)), .imm (.lit (.string ⟨#[]⟩)), .ref 500 kids.length])]⟩) (bW (by repeat' first | exact trivial | refine ⟨rfl, ?_⟩) (by repeat' first | exact trivial | refine ⟨rfl, ?_⟩))).trans ((cU (g := 500) rfl (by repeat' first | exact trivial | exact fun _ => rfl | refine ⟨?_, ?_⟩) (by repeat' first | exact trivial | exact fun _ => rfl | refine ⟨?_, ?_⟩)).trans (eH (g := 600) rfl rfl))) ?_
         refine aU (by first | exact .inl rfl | exact .inr rfl) (bB rfl (aA rfl) (aA rfl)) rfl ?_; rfl)
end
end Go.Proofs.YtocaohipfiapkaaGreat.Ab
namespace Go.Proofs.YtocaohipfiapkaaGreat.Ab
set_option linter.unusedVariables false
set_option linter.unusedSimpArgs false
open Go.RowKit
attribute [local irreducible] AWP AOps AExit AThen ABlock ANoGoto FeetOk
theorem xE (ks ts : List Tree) (self : Tree) : ∀ l cs : List Tree, (ofArms l cs self ks ts).2 ≠ 0 → (ofArms l cs self ks ts).1 = []
  | [], cs, h => by rw [ofArms] at h; exact absurd rfl h
  | t :: l, cs, h => by
    rw [ofArms] at h ⊢
    unfold arm1 at h ⊢
    split
    · rfl
    · rename_i h1
      rw [if_neg h1] at h
      unfold consP at h ⊢
      split
      · rfl
      · rename_i h2
        rw [if_neg h2] at h
        split
        · rfl
        · rename_i h3; rw [if_neg h3] at h; exact absurd rfl h
/-- The arms' types, and the error. -/
def armsIV (R : List Tree × Int) : IV := .tup [if R.2 = 0 then .sl false R.1.length (Tree.ivs R.1) else .lit (.slice none 0 0), .lit (.int .i64 R.2)]
theorem nM : ∀ l m : List Tree, namesEq l m = true → l.length = m.length
  | [], [], _ => rfl
  | t :: l, u :: m, h => by
    rw [namesEq, Bool.and_eq_true] at h
    rw [List.length_cons, List.length_cons, nM l m h.2]
  | [], _ :: _, h => by simp [namesEq] at h
  | _ :: _, [], h => by simp [namesEq] at h
set_option maxHeartbeats 16000000 in
set_option maxRecDepth 10000 in
theorem aBb (n : Int) (a b : ByteArray) (cs l ks ts : List Tree) (self : Tree) (hcl : cs.length ≤ 100000000) (hll : l.length ≤ 100000000) (htl : ts.length ≤ 900000) (hsw : self.whole = true) (hss : self.size ≤ 100000000)
    (hcs : ∀ c ∈ cs, ∃ k' n' a' b' y, c = .node k' n' a' b' [y] ∧ y.whole = true ∧ y.size ≤ 100000000)
    (hl : ∀ t ∈ l, ∃ a' x, t = .node 149 0 a' emptyB [x] ∧ x.whole = true ∧ ∀ T : Tree, T.whole = true → T.size ≤ 100000000 → fineW (ofP x ks (T :: ts)) ∧ ACalls Tryz.prog 17 [.imm (cIV ks (T :: ts)), .imm x.iv] [] (.imm (.tup [(ofP x ks (T :: ts)).1.iv, .lit (.int .i64 (ofP x ks (T :: ts)).2)])) []) :
    ACalls Tryz.prog 80 [.imm (cIV ks ts), .imm (Tree.iv (.node 121 n a b cs)), .imm self.iv, .imm (.sl false l.length (Tree.ivs l))] [] (.imm (armsIV (arms1 (.node 121 n a b cs) l (ofArms l cs self ks ts)))) [] := by
  have hwc : ∀ c ∈ cs, c.whole = true := fun c hc => by
    obtain ⟨k', n', a', b', y, rfl, hy, _⟩ := hcs c hc
    show Tree.wholes [y] = true
    rw [Tree.wholes, hy]; rfl
  have hwl : ∀ t ∈ l, t.whole = true := fun c hc => by
    obtain ⟨a', y, rfl, hy, _⟩ := hl c hc
    show Tree.wholes [y] = true
    rw [Tree.wholes, hy]; rfl
  have c1 := aBM cs l hcl hll hwc hwl
  unfold arms1
  rw [kidsOf, Tree.iv]
  have hty : ∀ T : Tree, T.whole = true → ACalls Tryz.prog 31 [.imm (cIV ks ts), .imm T.iv] [] (.imm (cIV ks (T :: ts))) [] := fun T hT => aAX ks ts T hT htl
  obtain ⟨ps, hps⟩ := bT (bK hsw)
  rw [hps]
  unfold cIV at *
  cases hne : namesEq cs l with
  | false =>
    rw [hne] at c1
    rw [if_pos rfl]
    generalize Tree.ivs ks = KI at *
    generalize Tree.ivs ts = TI at *
    generalize Tree.ivs cs = CI at *
    generalize Tree.ivs l = LI at *
    clear hwc hwl hcs hl hty
    refine aJ Tryz.func80 rfl rfl (nb rfl) rfl ?_
    repeat' (first | refine aG ?_ | (refine aI ?_;  first | refine aC tabOk rfl rfl rfl (nb rfl) rfl ?_ | refine aD rfl rfl (nb rfl) rfl rfl rfl rfl (c1) ?_ | refine aY tabOk rfl rfl (nb rfl) rfl ?_) | (refine aN ?_;  first | refine aH ?_ | refine aQ ?_ | refine aT ?_ | refine aE (b := true) rfl (fun _ => ?_) nTf) | (refine aM ?_;  first | refine aV ?_))
    all_goals first | (exfalso; omega) | exact absurd rfl (by assumption) | (refine aU (by first | exact .inl rfl | exact .inr rfl) (bB rfl (aA rfl) (aA rfl)) rfl ?_; rfl)
  | true =>
    have hlen := nM cs l hne
    rw [hne] at c1
    rw [if_neg (by simp)]
    have hQ0 := mM (ofArms l cs self ks ts) (xE ks ts self l cs)
    generalize hQ : ofArms l cs self ks ts = Q at *
    refine cL Tryz.func80 rfl rfl (nb rfl) rfl ?_
    repeat' (first | refine aG ?_ | (refine aI ?_;  first | refine aC tabOk rfl rfl rfl (nb rfl) rfl ?_ | refine aD rfl rfl (nb rfl) rfl rfl rfl rfl (c1) ?_ | refine aY tabOk rfl rfl (nb rfl) rfl ?_) | (refine aN ?_;  first | refine aH ?_ | refine aQ ?_ | refine aX ?_ | refine aZ ?_ | refine aE (b := false) rfl nFt (fun _ => ?_)) | (refine aM ?_;  first | refine bA ?_))
    all_goals try (exfalso; exact absurd rfl (by assumption))
    refine cW (nW (t := 10) 500 28 1 rfl (by simp) rfl rfl) ?_
    refine cH (ι := {p : Nat × List Tree // p.1 ≤ l.length ∧ p.2.length = p.1 ∧ accP p.2 (ofArms (l.drop p.1) (cs.drop p.1) self ks ts) = Q}) (fun p => S.f ⟨[(25, .imm (.lit (.int .i64 (p.1.1 : Int)))), (24, .imm (.lit (.int .i64 (l.length : Int)))), (23, .imm (.sl false l.length (Tree.ivs l))), (4, .imm (.ptr [.sl false ks.length (Tree.ivs ks), .sl false ts.length (Tree.ivs ts)] 0)), (1, .imm (.ptr [.lit (.int .i64 121), .lit (.int .i64 n), .lit (.string a), .lit (.string b), .sl false cs.length (Tree.ivs cs)] 0)), (2, .imm (.ptr ps 0)), (10, .ref 500 p.1.1)], [(500, .arr 28 1 p.1.1 (Tree.ivs p.1.2))]⟩) (fun p => l.length - p.1.1) ⟨(0, []), Nat.zero_le _, rfl, by rw [List.drop_zero, List.drop_zero, hQ]; exact hQ0⟩ (bW (by repeat' first | exact trivial | refine ⟨rfl, ?_⟩) (by repeat' first | exact trivial | refine ⟨rfl, ?_⟩)) ?_
    clear hQ0 c1
    rintro ⟨⟨j, acc⟩, hj, hal, hac⟩
    dsimp only at hj hal hac ⊢
    by_cases hlt : j < l.length
    · have hltc : j < cs.length := by omega
      have hget := cS l j hlt
      have hgetc := cS cs j hltc
      obtain ⟨a', x, et, hx, hfx⟩ := hl _ (List.getElem_mem hlt)
      obtain ⟨k1, n1, a1, b1, y, ec, hy, hys⟩ := hcs _ (List.getElem_mem hltc)
      obtain ⟨px, hpx⟩ := bT (bK hx)
      obtain ⟨py, hpy⟩ := bT (bK hy)
      rw [List.drop_eq_getElem_cons hlt, List.drop_eq_getElem_cons hltc, ofArms, et, ec] at hac
      rw [List.headD_cons, List.tail_cons, show kid0 (.node k1 n1 a1 b1 [y]) = y from rfl] at hac
      rw [et, jP 149 0 a' emptyB hpx] at hget
      rw [ec, jP k1 n1 a1 b1 hpy] at hgetc
      have c2 := lY y self hys hss
      have hff := fO y self
      rw [hpy, hps] at c2
      unfold arm1 at hac
      generalize filledP y self = A at *
      obtain ⟨A1, A2⟩ := A
      unfold fineT at hff
      dsimp only at *
      by_cases h0 : A2 = 0
      · obtain ⟨_, w1, w2⟩ := hff h0
        have c3 := hty A1 w1
        obtain ⟨hfw, c4⟩ := hfx A1 w1 w2
        rw [show ofArm (.node 149 0 a' emptyB [x]) ks (A1 :: ts) = ofP x ks (A1 :: ts) by rw [ofArm, ofH], if_neg (by simpa using h0)] at hac
        rw [hpx] at c4
        rw [Tree.ivs, List.length_cons] at c3 c4
        subst h0
        generalize ofP x ks (A1 :: ts) = R at *
        obtain ⟨R1, R2⟩ := R
        obtain ⟨pa, hpa⟩ := bT (bK w1)
        rw [hpa] at c2 c3 c4
        unfold fineW at hfw
        dsimp only at *
        by_cases h1 : R2 = 0
        · rw [mL h1] at hac
          obtain ⟨pr, hpr⟩ := bT (bK (hfw h1).1)
          subst h1
          rw [hpr] at c4
          have hnx : Tree.ivs (acc ++ [R1]) = Tree.ivs acc ++ [.ptr pr 0] := by rw [cX, cX, List.map_append, List.map_cons, hpr]; rfl
          have hil := dD acc
          rw [hal] at hil
          generalize hAI : Tree.ivs acc = AI at *
          clear hl hcs hwc hwl hty hfx hff hfw
          repeat' (first | refine aG ?_ | (refine aI ?_;  first | refine aC tabOk rfl rfl rfl (nb rfl) rfl ?_ | (refine aK rfl rfl rfl (nb rfl) rfl rfl rfl (fun hq => ?_) (fun hq => ?_) <;> (first | (simp only [sD, sE, sB, sC, sN, sM, sT, sF] at hq; try (exfalso; omega)) | skip)) | refine bO tabOk rfl rfl rfl (nb rfl) rfl rfl rfl hget ?_ | refine bO tabOk rfl rfl rfl (nb rfl) rfl rfl rfl hgetc ?_ | refine aD rfl rfl (nb rfl) rfl rfl rfl rfl (c2) ?_ | refine aD rfl rfl (nb rfl) rfl rfl rfl rfl (c3) ?_ | refine aD rfl rfl (nb rfl) rfl rfl rfl rfl (c4) ?_ | refine cN tabOk rfl rfl rfl (nb rfl) rfl rfl rfl rfl rfl rfl rfl (by first | omega | decide) rfl (by first | omega | (dsimp only; omega)) (by first | omega | (dsimp only; omega)) ?_ | refine bX rfl rfl rfl (nb rfl) rfl rfl (by omega) ?_ | refine cI tabOk rfl rfl rfl (nb rfl) rfl rfl rfl rfl rfl rfl rfl rfl rfl ?_ | refine bH tabOk rfl rfl rfl (nb rfl) rfl rfl rfl rfl (by first | assumption | omega) ?_ | refine bE tabOk rfl rfl rfl (nb rfl) rfl rfl rfl rfl (by first | rfl | omega) (by first | omega | simp) ?_) | (refine aN ?_;  first | refine aH ?_ | refine aQ ?_ | refine bI ?_ | refine aX ?_ | refine aZ ?_ | refine aE (b := true) rfl (fun _ => ?_) nTf | refine aE (b := false) rfl nFt (fun _ => ?_) | refine aR mixed (by kernel_rfl) ?_) | (refine aM ?_;  first | refine bA ?_) | (refine aW ?_;  first | refine bS ?_) | refine bG (bF (by kernel_rfl)) ?_)
          all_goals first
            | (exfalso; omega)
            | exact absurd rfl (by assumption)
            | (refine ⟨⟨(j + 1, acc ++ [R1]), hlt, by rw [List.length_append, hal]; rfl, hac⟩, (by show l.length - (j + 1) < l.length - j; omega), ?_⟩; dsimp only; rw [hnx]; exact (bW (by repeat' first | exact trivial | refine ⟨rfl, ?_⟩) (by repeat' first | exact trivial | refine ⟨rfl, ?_⟩)))
        · rw [pX h1] at hac
          generalize R1.iv = ri at *
          subst hac
          unfold armsIV
          dsimp only
          rw [if_neg h1]
          clear hl hcs hwc hwl hty hfx hff hfw
          generalize Tree.ivs acc = AI at *
          repeat' (first | refine aG ?_ | (refine aI ?_;  first | refine aC tabOk rfl rfl rfl (nb rfl) rfl ?_ | (refine aK rfl rfl rfl (nb rfl) rfl rfl rfl (fun hq => ?_) (fun hq => ?_) <;> (first | (simp only [sD, sE, sB, sC, sN, sM, sT, sF] at hq; try (exfalso; omega)) | skip)) | refine bO tabOk rfl rfl rfl (nb rfl) rfl rfl rfl hget ?_ | refine bO tabOk rfl rfl rfl (nb rfl) rfl rfl rfl hgetc ?_ | refine aD rfl rfl (nb rfl) rfl rfl rfl rfl (c2) ?_ | refine aD rfl rfl (nb rfl) rfl rfl rfl rfl (c3) ?_ | refine aD rfl rfl (nb rfl) rfl rfl rfl rfl (c4) ?_ | refine bH tabOk rfl rfl rfl (nb rfl) rfl rfl rfl rfl (by first | assumption | omega) ?_ | refine bE tabOk rfl rfl rfl (nb rfl) rfl rfl rfl rfl (by first | rfl | omega) (by first | omega | simp) ?_) | (refine aN ?_;  first | refine aH ?_ | refine aQ ?_ | refine aX ?_ | refine aT ?_ | refine aZ ?_ | refine aE (b := true) rfl (fun _ => ?_) nTf | refine aE (b := false) rfl nFt (fun _ => ?_) | refine aR mixed (by kernel_rfl) ?_) | (refine aM ?_;  first | refine bA ?_ | refine aV ?_) | (refine aW ?_;  first | refine bD ?_) | refine bG (bF (by kernel_rfl)) ?_)
          all_goals first
            | (exfalso; omega)
            | exact absurd rfl (by assumption)
            | (refine cM (aU (by first | exact .inl rfl | exact .inr rfl) (bB rfl (aA rfl) (aA rfl)) rfl ?_); rfl)
      · rw [if_pos h0] at hac
        unfold accP at hac
        rw [if_pos h0] at hac
        generalize A1.iv = ai at *
        subst hac
        unfold armsIV
        dsimp only
        rw [if_neg h0]
        clear hl hcs hwc hwl hty hfx hff
        generalize Tree.ivs acc = AI at *
        repeat' (first | refine aG ?_ | (refine aI ?_;  first | refine aC tabOk rfl rfl rfl (nb rfl) rfl ?_ | (refine aK rfl rfl rfl (nb rfl) rfl rfl rfl (fun hq => ?_) (fun hq => ?_) <;> (first | (simp only [sD, sE, sB, sC, sN, sM, sT, sF] at hq; try (exfalso; omega)) | skip)) | refine bO tabOk rfl rfl rfl (nb rfl) rfl rfl rfl hget ?_ | refine bO tabOk rfl rfl rfl (nb rfl) rfl rfl rfl hgetc ?_ | refine aD rfl rfl (nb rfl) rfl rfl rfl rfl (c2) ?_ | refine bH tabOk rfl rfl rfl (nb rfl) rfl rfl rfl rfl (by first | assumption | omega) ?_ | refine bE tabOk rfl rfl rfl (nb rfl) rfl rfl rfl rfl (by first | rfl | omega) (by first | omega | simp) ?_) | (refine aN ?_;  first | refine aH ?_ | refine aQ ?_ | refine aX ?_ | refine aT ?_ | refine aZ ?_ | refine aE (b := true) rfl (fun _ => ?_) nTf) | (refine aM ?_;  first | refine bA ?_ | refine aV ?_) | (refine aW ?_;  first | refine bD ?_))
        all_goals first
          | (exfalso; omega)
          | exact absurd rfl (by assumption)
          | (refine cM (aU (by first | exact .inl rfl | exact .inr rfl) (bB rfl (aA rfl) (aA rfl)) rfl ?_); rfl)
    · have ej : j = l.length := by omega
      subst ej
      rw [List.drop_length, ofArms, pY] at hac
      subst hac
      unfold armsIV
      dsimp only
      rw [if_pos rfl, hal]
      generalize Tree.ivs acc = AI at *
      generalize Tree.ivs l = LI at *
      generalize Tree.ivs cs = CI at *
      clear hl hcs hwc hwl hty
      repeat' (first | refine aG ?_ | (refine aI ?_;  first | refine aC tabOk rfl rfl rfl (nb rfl) rfl ?_ | (refine aK rfl rfl rfl (nb rfl) rfl rfl rfl (fun hq => ?_) (fun hq => ?_) <;> (first | (simp only [sD, sE, sB, sC, sN, sM, sT, sF] at hq; try (exfalso; omega)) | skip))) | (refine aN ?_;  first | refine aH ?_ | refine aQ ?_ | refine aT ?_ | refine bY ?_ | refine aE (b := false) rfl nFt (fun _ => ?_)) | (refine aM ?_;  first | refine bA ?_ | refine bN ?_) | (refine aW ?_;  first | refine bJ ?_))
      all_goals first
        | (exfalso; omega)
        | exact absurd rfl (by assumption)
        | (refine dU ((Imp.of_le (σ' := S.f ⟨[(8, .ref 500 l.length), (9, .imm (.lit (.int .i64 0)))], [(500, .arr 28 1 l.length AI)]⟩) (bW (by repeat' first | exact trivial | refine ⟨rfl, ?_⟩) (by repeat' first | exact trivial | refine ⟨rfl, ?_⟩))).trans (cU (g := 500) rfl (by repeat' first | exact trivial | exact fun _ => rfl | refine ⟨?_, ?_⟩) (by repeat' first | exact trivial | exact fun _ => rfl | refine ⟨?_, ?_⟩))) ?_
           refine aU (by first | exact .inl rfl | exact .inr rfl) (bB rfl (aA rfl) (aA rfl)) rfl ?_; rfl)
section
variable (kl tl : Nat) (KI TI : List IV)
set_option maxHeartbeats 8000000 in
set_option maxRecDepth 10000 in
theorem aBN (k n : Int) (a b : ByteArray) (x : Tree) (arms : List Tree) (hx : x.whole = true) (hal : arms.length ≤ 100000000) (R : Tree × Int) (L : List Tree × Int) (fR : fineW R)
    (fL : L.2 = 0 → L.1 ≠ [] ∧ L.1.length ≤ 100000000 ∧ ∀ s ∈ L.1, s.whole = true ∧ s.size ≤ 100000000)
    (c1 : ACalls Tryz.prog 76 [.imm (IV.agg [.sl false kl KI, .sl false tl TI]), .imm x.iv, .imm (.lit (.int .i64 121))] [] (.imm (.tup [(asP R 121).1.iv, .lit (.int .i64 (asP R 121).2)])) [])
    (c2 : (asP R 121).2 = 0 → ACalls Tryz.prog 80 [.imm (IV.agg [.sl false kl KI, .sl false tl TI]), .imm R.1.iv, .imm R.1.iv, .imm (.sl false arms.length (Tree.ivs arms))] [] (.imm (armsIV L)) []) :
    ACalls Tryz.prog 58 [.imm (IV.agg [.sl false kl KI, .sl false tl TI]), .imm (Tree.iv (.node k n a b (x :: arms)))] [] (.imm (.tup [(case1 R L).1.iv, .lit (.int .i64 (case1 R L).2)])) [] := by
  obtain ⟨px, hpx⟩ := bT (bK hx)
  have hfrom := pG (x :: arms) 1 (by simp)
  rw [Tree.iv, List.length_cons]
  rw [show (x :: arms).drop 1 = arms from rfl, List.length_cons] at hfrom
  rw [Tree.ivs, hpx] at hfrom ⊢
  rw [hpx] at c1
  unfold case1
  by_cases h1 : (asP R 121).2 = 0
  · rw [if_neg (by simpa using h1)]
    replace c2 := c2 h1
    rw [tF h1] at c1
    obtain ⟨h0, hk⟩ := eU h1
    obtain ⟨R1, R2⟩ := R
    obtain ⟨L1, L2⟩ := L
    unfold fineW at fR
    dsimp only at *
    obtain ⟨pr, hpr⟩ := bT (bK (fR h0).1)
    rw [hpr] at c1 c2
    subst h0
    unfold armsIV at c2
    dsimp only at c2
    by_cases h2 : L2 = 0
    · obtain ⟨f1, f2, f3⟩ := fL h2
      rw [if_pos h2] at c2
      cases L1 with
      | nil => exact absurd rfl f1
      | cons t0 l0 =>
        have c3 := yD (t0 :: l0) t0 f2 f3 (f3 t0 (by simp)).1 (f3 t0 (by simp)).2
        obtain ⟨p0, hp0⟩ := bT (bK (f3 t0 (by simp)).1)
        subst h2
        rw [if_neg (by simp), List.headD_cons]
        rw [Tree.ivs, hp0, List.length_cons] at c2 c3
        generalize alikeP (t0 :: l0) t0 = Q at *
        obtain ⟨Q1, Q2⟩ := Q
        dsimp only at *
        generalize Q1.iv = qi at *
        generalize Tree.ivs l0 = LI at *
        generalize Tree.ivs arms = AI at *
        clear fR fL f1 f3 h1
        refine aJ Tryz.func58 rfl rfl (nb rfl) rfl ?_
        repeat' (first | refine aG ?_ | (refine aI ?_;  first | refine aC tabOk rfl rfl rfl (nb rfl) rfl ?_ | (refine aK rfl rfl rfl (nb rfl) rfl rfl rfl (fun hq => ?_) (fun hq => ?_) <;> (first | (simp only [sD, sE, sB, sC, sN, sM, sT, sF] at hq; try (exfalso; omega)) | skip)) | refine aD rfl rfl (nb rfl) rfl rfl rfl rfl (c1) ?_ | refine aD rfl rfl (nb rfl) rfl rfl rfl rfl (c2) ?_ | refine aD rfl rfl (nb rfl) rfl rfl rfl rfl (c3) ?_ | refine dQ (l := 1) (h := arms.length + 1) tabOk rfl rfl rfl (nb rfl) rfl rfl rfl rfl rfl (by omega) (Nat.le_refl _) hfrom ?_ | refine aY tabOk rfl rfl (nb rfl) rfl ?_ | refine bE tabOk rfl rfl rfl (nb rfl) rfl rfl rfl rfl (by first | rfl | omega) (by first | omega | simp) ?_) | (refine aN ?_;  first | refine aH ?_ | refine aQ ?_ | refine aT ?_ | refine aZ ?_ | refine aE (b := false) rfl nFt (fun _ => ?_) | refine aR mixed (by kernel_rfl) ?_) | (refine aM ?_;  first | refine bA ?_) | refine bG (bF (by kernel_rfl)) ?_)
        all_goals first | (exfalso; omega) | exact absurd rfl (by assumption) | (refine aU (by first | exact .inl rfl | exact .inr rfl) (bB rfl (aA rfl) (aA rfl)) rfl ?_; rfl)
    · rw [if_pos h2]
      rw [if_neg h2] at c2
      generalize Tree.ivs arms = AI at *
      clear fR fL h1
      refine aJ Tryz.func58 rfl rfl (nb rfl) rfl ?_
      repeat' (first | refine aG ?_ | (refine aI ?_;  first | refine aC tabOk rfl rfl rfl (nb rfl) rfl ?_ | (refine aK rfl rfl rfl (nb rfl) rfl rfl rfl (fun hq => ?_) (fun hq => ?_) <;> (first | (simp only [sD, sE, sB, sC, sN, sM, sT, sF] at hq; try (exfalso; omega)) | skip)) | refine aD rfl rfl (nb rfl) rfl rfl rfl rfl (c1) ?_ | refine aD rfl rfl (nb rfl) rfl rfl rfl rfl (c2) ?_ | refine dQ (l := 1) (h := arms.length + 1) tabOk rfl rfl rfl (nb rfl) rfl rfl rfl rfl rfl (by omega) (Nat.le_refl _) hfrom ?_ | refine aY tabOk rfl rfl (nb rfl) rfl ?_ | refine bE tabOk rfl rfl rfl (nb rfl) rfl rfl rfl rfl (by first | rfl | omega) (by first | omega | simp) ?_) | (refine aN ?_;  first | refine aH ?_ | refine aQ ?_ | refine aT ?_ | refine aZ ?_ | refine aE (b := true) rfl (fun _ => ?_) nTf | refine aE (b := false) rfl nFt (fun _ => ?_) | refine aR mixed (by kernel_rfl) ?_) | (refine aM ?_;  first | refine bA ?_ | refine aV ?_) | refine bG (bF (by kernel_rfl)) ?_)
      all_goals first | (exfalso; omega) | exact absurd rfl (by assumption) | (refine aU (by first | exact .inl rfl | exact .inr rfl) (bB rfl (aA rfl) (aA rfl)) rfl ?_; rfl)
  · rw [if_pos h1]
    generalize asP R 121 = Q at *
    obtain ⟨Q1, Q2⟩ := Q
    dsimp only at *
    generalize Q1.iv = qi at *
    generalize Tree.ivs arms = AI at *
    clear fR c2 fL
    refine aJ Tryz.func58 rfl rfl (nb rfl) rfl ?_
    repeat' (first | refine aG ?_ | (refine aI ?_;  first | refine aC tabOk rfl rfl rfl (nb rfl) rfl ?_ | (refine aK rfl rfl rfl (nb rfl) rfl rfl rfl (fun hq => ?_) (fun hq => ?_) <;> (first | (simp only [sD, sE, sB, sC, sN, sM, sT, sF] at hq; try (exfalso; omega)) | skip)) | refine aD rfl rfl (nb rfl) rfl rfl rfl rfl (c1) ?_ | refine aY tabOk rfl rfl (nb rfl) rfl ?_ | refine bE tabOk rfl rfl rfl (nb rfl) rfl rfl rfl rfl (by first | rfl | omega) (by first | omega | simp) ?_) | (refine aN ?_;  first | refine aH ?_ | refine aQ ?_ | refine aT ?_ | refine aE (b := true) rfl (fun _ => ?_) nTf | refine aR mixed (by kernel_rfl) ?_) | (refine aM ?_;  first | refine bA ?_ | refine aV ?_) | refine bG (bF (by kernel_rfl)) ?_)
    all_goals first | (exfalso; omega) | exact absurd rfl (by assumption) | (refine aU (by first | exact .inl rfl | exact .inr rfl) (bB rfl (aA rfl) (aA rfl)) rfl ?_; rfl)
set_option maxHeartbeats 8000000 in
set_option maxRecDepth 10000 in
theorem aCs (k n : Int) (a b : ByteArray) (x T : Tree) (arms : List Tree) (hx : x.whole = true) (hT : T.whole = true) (hal : arms.length ≤ 100000000) (R A : Tree × Int) (L : List Tree × Int) (fR : fineW R) (fA : fineW A)
    (fL : L.2 = 0 → L.1.length ≤ 100000000 ∧ ∀ s ∈ L.1, s.whole = true ∧ s.size ≤ 100000000)
    (c1 : ACalls Tryz.prog 76 [.imm (IV.agg [.sl false kl KI, .sl false tl TI]), .imm x.iv, .imm (.lit (.int .i64 121))] [] (.imm (.tup [(asP R 121).1.iv, .lit (.int .i64 (asP R 121).2)])) [])
    (c4 : ACalls Tryz.prog 75 [.imm (IV.agg [.sl false kl KI, .sl false tl TI]), .imm T.iv] [] (.imm (.tup [(A).1.iv, .lit (.int .i64 (A).2)])) [])
    (c2 : (asP R 121).2 = 0 → A.2 = 0 → ACalls Tryz.prog 80 [.imm (IV.agg [.sl false kl KI, .sl false tl TI]), .imm R.1.iv, .imm A.1.iv, .imm (.sl false arms.length (Tree.ivs arms))] [] (.imm (armsIV L)) []) :
    ACalls Tryz.prog 59 [.imm (IV.agg [.sl false kl KI, .sl false tl TI]), .imm (Tree.iv (.node k n a b (x :: T :: arms)))] [] (.imm (.tup [(fold1 R A L).1.iv, .lit (.int .i64 (fold1 R A L).2)])) [] := by
  obtain ⟨px, hpx⟩ := bT (bK hx)
  obtain ⟨pT, hpT⟩ := bT (bK hT)
  have hfrom := pG (x :: T :: arms) 2 (by simp)
  rw [Tree.iv, List.length_cons, List.length_cons]
  rw [show (x :: T :: arms).drop 2 = arms from rfl, List.length_cons, List.length_cons] at hfrom
  rw [Tree.ivs, Tree.ivs, hpx, hpT] at hfrom ⊢
  rw [hpx] at c1
  rw [hpT] at c4
  unfold fold1
  by_cases h1 : (asP R 121).2 = 0
  · rw [if_neg (by simpa using h1)]
    replace c2 := c2 h1
    rw [tF h1] at c1
    obtain ⟨h0, hk⟩ := eU h1
    obtain ⟨R1, R2⟩ := R
    obtain ⟨L1, L2⟩ := L
    obtain ⟨A1, A2⟩ := A
    unfold fineW at fR fA
    dsimp only at *
    obtain ⟨pr, hpr⟩ := bT (bK (fR h0).1)
    rw [hpr] at c1 c2
    subst h0
    by_cases h3 : A2 = 0
    · replace c2 := c2 h3
      unfold armsIV at c2
      dsimp only at c2
      obtain ⟨wA, sA⟩ := fA h3
      obtain ⟨pa, hpa⟩ := bT (bK wA)
      rw [if_neg (by simpa using h3)]
      rw [hpa] at c2 c4
      by_cases h2 : L2 = 0
      · obtain ⟨f2, f3⟩ := fL h2
        rw [if_pos h2] at c2
        have c3 := yD L1 A1 f2 f3 wA sA
        rw [hpa] at c3
        subst h2 h3
        rw [if_neg (by simp)]
        generalize alikeP L1 A1 = Q at *
        obtain ⟨Q1, Q2⟩ := Q
        dsimp only at *
        generalize Q1.iv = qi at *
        generalize Tree.ivs L1 = LI at *
        generalize Tree.ivs arms = AI at *
        clear fR fL fA f3 h1
        refine aJ Tryz.func59 rfl rfl (nb rfl) rfl ?_
        repeat' (first | refine aG ?_ | (refine aI ?_;  first | refine aC tabOk rfl rfl rfl (nb rfl) rfl ?_ | (refine aK rfl rfl rfl (nb rfl) rfl rfl rfl (fun hq => ?_) (fun hq => ?_) <;> (first | (simp only [sD, sE, sB, sC, sN, sM, sT, sF] at hq; try (exfalso; omega)) | skip)) | refine aD rfl rfl (nb rfl) rfl rfl rfl rfl (c1) ?_ | refine aD rfl rfl (nb rfl) rfl rfl rfl rfl (c4) ?_ | refine aD rfl rfl (nb rfl) rfl rfl rfl rfl (c2) ?_ | refine aD rfl rfl (nb rfl) rfl rfl rfl rfl (c3) ?_ | refine dQ (l := 2) (h := arms.length + 1 + 1) tabOk rfl rfl rfl (nb rfl) rfl rfl rfl rfl rfl (by omega) (Nat.le_refl _) hfrom ?_ | refine aY tabOk rfl rfl (nb rfl) rfl ?_ | refine bE tabOk rfl rfl rfl (nb rfl) rfl rfl rfl rfl (by first | rfl | omega) (by first | omega | simp) ?_) | (refine aN ?_;  first | refine aH ?_ | refine aQ ?_ | refine aT ?_ | refine aZ ?_ | refine aE (b := false) rfl nFt (fun _ => ?_) | refine aR mixed (by kernel_rfl) ?_) | (refine aM ?_;  first | refine bA ?_) | refine bG (bF (by kernel_rfl)) ?_)
        all_goals first | (exfalso; omega) | exact absurd rfl (by assumption) | (refine aU (by first | exact .inl rfl | exact .inr rfl) (bB rfl (aA rfl) (aA rfl)) rfl ?_; rfl)
      · rw [if_pos h2]
        rw [if_neg h2] at c2
        subst h3
        generalize Tree.ivs arms = AI at *
        clear fR fL fA h1
        refine aJ Tryz.func59 rfl rfl (nb rfl) rfl ?_
        repeat' (first | refine aG ?_ | (refine aI ?_;  first | refine aC tabOk rfl rfl rfl (nb rfl) rfl ?_ | (refine aK rfl rfl rfl (nb rfl) rfl rfl rfl (fun hq => ?_) (fun hq => ?_) <;> (first | (simp only [sD, sE, sB, sC, sN, sM, sT, sF] at hq; try (exfalso; omega)) | skip)) | refine aD rfl rfl (nb rfl) rfl rfl rfl rfl (c1) ?_ | refine aD rfl rfl (nb rfl) rfl rfl rfl rfl (c4) ?_ | refine aD rfl rfl (nb rfl) rfl rfl rfl rfl (c2) ?_ | refine dQ (l := 2) (h := arms.length + 1 + 1) tabOk rfl rfl rfl (nb rfl) rfl rfl rfl rfl rfl (by omega) (Nat.le_refl _) hfrom ?_ | refine aY tabOk rfl rfl (nb rfl) rfl ?_ | refine bE tabOk rfl rfl rfl (nb rfl) rfl rfl rfl rfl (by first | rfl | omega) (by first | omega | simp) ?_) | (refine aN ?_;  first | refine aH ?_ | refine aQ ?_ | refine aT ?_ | refine aZ ?_ | refine aE (b := true) rfl (fun _ => ?_) nTf | refine aE (b := false) rfl nFt (fun _ => ?_) | refine aR mixed (by kernel_rfl) ?_) | (refine aM ?_;  first | refine bA ?_ | refine aV ?_) | refine bG (bF (by kernel_rfl)) ?_)
        all_goals first | (exfalso; omega) | exact absurd rfl (by assumption) | (refine aU (by first | exact .inl rfl | exact .inr rfl) (bB rfl (aA rfl) (aA rfl)) rfl ?_; rfl)
    · rw [if_pos h3]
      generalize A1.iv = ai at *
      generalize Tree.ivs arms = AI at *
      clear fR c2 fL fA h1
      refine aJ Tryz.func59 rfl rfl (nb rfl) rfl ?_
      repeat' (first | refine aG ?_ | (refine aI ?_;  first | refine aC tabOk rfl rfl rfl (nb rfl) rfl ?_ | (refine aK rfl rfl rfl (nb rfl) rfl rfl rfl (fun hq => ?_) (fun hq => ?_) <;> (first | (simp only [sD, sE, sB, sC, sN, sM, sT, sF] at hq; try (exfalso; omega)) | skip)) | refine aD rfl rfl (nb rfl) rfl rfl rfl rfl (c1) ?_ | refine aD rfl rfl (nb rfl) rfl rfl rfl rfl (c4) ?_ | refine aY tabOk rfl rfl (nb rfl) rfl ?_ | refine bE tabOk rfl rfl rfl (nb rfl) rfl rfl rfl rfl (by first | rfl | omega) (by first | omega | simp) ?_) | (refine aN ?_;  first | refine aH ?_ | refine aQ ?_ | refine aT ?_ | refine aZ ?_ | refine aE (b := true) rfl (fun _ => ?_) nTf | refine aE (b := false) rfl nFt (fun _ => ?_) | refine aR mixed (by kernel_rfl) ?_) | (refine aM ?_;  first | refine bA ?_ | refine aV ?_) | refine bG (bF (by kernel_rfl)) ?_)
      all_goals first | (exfalso; omega) | exact absurd rfl (by assumption) | (refine aU (by first | exact .inl rfl | exact .inr rfl) (bB rfl (aA rfl) (aA rfl)) rfl ?_; rfl)
  · rw [if_pos h1]
    generalize asP R 121 = Q at *
    obtain ⟨Q1, Q2⟩ := Q
    dsimp only at *
    generalize Q1.iv = qi at *
    generalize Tree.ivs arms = AI at *
    clear fR c2 fL fA
    refine aJ Tryz.func59 rfl rfl (nb rfl) rfl ?_
    repeat' (first | refine aG ?_ | (refine aI ?_;  first | refine aC tabOk rfl rfl rfl (nb rfl) rfl ?_ | (refine aK rfl rfl rfl (nb rfl) rfl rfl rfl (fun hq => ?_) (fun hq => ?_) <;> (first | (simp only [sD, sE, sB, sC, sN, sM, sT, sF] at hq; try (exfalso; omega)) | skip)) | refine aD rfl rfl (nb rfl) rfl rfl rfl rfl (c1) ?_ | refine aY tabOk rfl rfl (nb rfl) rfl ?_ | refine bE tabOk rfl rfl rfl (nb rfl) rfl rfl rfl rfl (by first | rfl | omega) (by first | omega | simp) ?_) | (refine aN ?_;  first | refine aH ?_ | refine aQ ?_ | refine aT ?_ | refine aE (b := true) rfl (fun _ => ?_) nTf | refine aR mixed (by kernel_rfl) ?_) | (refine aM ?_;  first | refine bA ?_ | refine aV ?_) | refine bG (bF (by kernel_rfl)) ?_)
    all_goals first | (exfalso; omega) | exact absurd rfl (by assumption) | (refine aU (by first | exact .inl rfl | exact .inr rfl) (bB rfl (aA rfl) (aA rfl)) rfl ?_; rfl)
end
end Go.Proofs.YtocaohipfiapkaaGreat.Ab
namespace Go.Proofs.YtocaohipfiapkaaGreat.Ab
set_option linter.unusedVariables false
set_option linter.unusedSimpArgs false
open Go.RowKit
mutual
/-- What is for some type is not too large. -/
def exS : Tree → Prop
  | .nil => True
  | .node k n a b kids => (k = 118 → (Tree.node k n a b kids).size ≤ 65536) ∧ exSs kids
termination_by structural x => x
def exSs : List Tree → Prop
  | [] => True
  | t :: ts => exS t ∧ exSs ts
termination_by structural x => x
end
theorem jQ : ∀ l : List Tree, exSs l ↔ ∀ t ∈ l, exS t
  | [] => by rw [exSs]; simp
  | t :: ts => by rw [exSs, jQ ts]; simp
theorem kB (t : Tree) : t.size ≤ 65536 → exS t := by
  induction t using Tree.sind with
  | h t ih =>
    intro h
    cases t with
    | nil => rw [exS]; trivial
    | node k n a b kids =>
      rw [exS]
      refine ⟨fun _ => h, (jQ kids).2 fun t ht => ?_⟩
      have hs := bR (k := k) (n := n) (a := a) (b := b) ht
      have e : (Tree.node k n a b kids).size = Tree.sizes kids + 1 := by simp only [Tree.size]; omega
      have := cY ht
      exact ih t (by omega) (by omega)
theorem pZ {t : Tree} (h : exS t) : ∀ u ∈ kidsOf t, exS u := by
  cases t with
  | nil => intro u hu; exact absurd hu (by rw [kidsOf]; simp)
  | node k n a b kids => rw [exS] at h; rw [kidsOf]; exact (jQ kids).1 h.2
theorem mA : exS .nil := by rw [exS]; trivial
theorem aBc {t : Tree} (h : exS t) : exS (kid0 t) := by
  cases t with
  | nil => exact mA
  | node k n a b kids =>
    cases kids with
    | nil => exact mA
    | cons u l => exact pZ h u (by rw [kidsOf]; simp)
theorem aBd {t : Tree} (h : exS t) : exS (kid1 t) := by
  cases t with
  | nil => exact mA
  | node k n a b kids =>
    match kids with
    | [] => exact mA
    | [_] => exact mA
    | u :: v :: l => exact pZ h v (by rw [kidsOf]; simp)
theorem tG {k : Int} {l : List Tree} (hk : k ≠ 118) (h : ∀ t ∈ l, exS t) : exS (tyT k l) := by
  unfold tyT
  rw [exS]
  exact ⟨fun e => absurd e hk, (jQ l).2 h⟩
def fineE (R : Tree × Int) : Prop := R.2 = 0 → exS R.1
theorem bV {t : Tree} {e : Int} (h : e ≠ 0) : fineE (t, e) := fun h0 => absurd h0 h
theorem hH {f : Tree → Bool} {R : Tree × Int} (h : R.2 = 0 → checkP f R.1 = 0) : fineE R := fun h0 => by
  obtain ⟨h1, h2, h3⟩ := bQ (h h0)
  exact kB _ h2
theorem aBO (t : Tree) : ∀ ks ts : List Tree, isTermP t = true → t.whole = true → fineE (ofP t ks ts) := by
  induction t using Tree.sind with
  | h t ih =>
    intro ks ts hf hw
    obtain ⟨k, n, a, b, kids, rfl⟩ := cJ hw
    obtain ⟨p0, p1, p2, p3, p4, p5, p6, p7, p8, p9, p10, pk⟩ := iN hf
    have hwk : ∀ t ∈ kids, t.whole = true := fun t h => bL hw h
    have hsz : (Tree.node k n a b kids).size = Tree.sizes kids + 1 := by simp only [Tree.size]; omega
    have hin : ∀ t ∈ kids, t.size ≤ Tree.sizes kids := fun t h => cY h
    have hk' : ∀ x ∈ kids, isTermP x = true → ∀ ks ts, fineE (ofP x ks ts) := fun x hx h ks ts => ih x (by have := hin x hx; omega) ks ts h (hwk x hx)
    have hleaf : ∀ k : Int, k = 111 ∨ k = 112 ∨ k = 113 → fineE (tyT k [], 0) := fun k h _ => tG (by omega) fun t ht => absurd ht (by simp)
    rw [ofP]
    by_cases e0 : k = 130
    · rw [if_pos e0]
      split
      · exact bV (by decide)
      · exact hH (gM _)
    rw [if_neg e0]
    by_cases e1 : k = 131
    · rw [if_pos e1]; exact hleaf _ (.inl rfl)
    rw [if_neg e1]
    by_cases e2 : k = 132
    · rw [if_pos e2]; exact hleaf _ (.inr (.inl rfl))
    rw [if_neg e2]
    by_cases e3 : k = 133
    · rw [if_pos e3]; exact hleaf _ (.inr (.inr rfl))
    rw [if_neg e3]
    by_cases e4 : k = 139
    · rw [if_pos e4]
      obtain ⟨K, x, rfl, hK, hx⟩ := iK (p1 e4)
      obtain ⟨wK, sK, fK⟩ := bQ hK
      have h1 := hk' x (by simp) hx (K :: ks) (shiftsP ts).1
      rw [ofTLam]
      unfold tlam1
      split
      · rename_i h; exact bV h
      · split
        · rename_i h; exact bV h
        · rename_i h2
          intro _
          have h3 := h1 (by simpa using h2)
          refine tG (by decide) fun t ht => ?_
          rcases List.mem_cons.1 ht with rfl | ht
          · exact kB _ sK
          · rw [List.mem_singleton.1 ht]; exact h3
    rw [if_neg e4]
    by_cases e5 : k = 143
    · rw [if_pos e5]
      obtain ⟨x, y, rfl, hx, hy⟩ := cZ (p3 (by omega))
      have h2 := hk' y (by simp) hy ks ((ofP x ks ts).1 :: ts)
      rw [ofLet]
      unfold let1
      split
      · rename_i h; exact bV h
      · exact h2
    rw [if_neg e5]
    by_cases e6 : k = 134
    · rw [if_pos e6]
      obtain ⟨T, y, rfl, hT, hy⟩ := dZ (p2 (by omega))
      have h2 := hk' y (by simp) hy ks ((starT ks T).1 :: ts)
      rw [ofLam]
      unfold lamT1
      split
      · rename_i h; exact bV h
      · rename_i h1
        split
        · rename_i h; exact bV h
        · rename_i h4
          intro _
          have h5 := h2 (by simpa using h4)
          obtain ⟨f1, f2, f3⟩ := bQ (eC ks T (by simpa using h1))
          refine tG (by decide) fun t ht => ?_
          rcases List.mem_cons.1 ht with rfl | ht
          · exact kB _ f2
          · rw [List.mem_singleton.1 ht]; exact h5
    rw [if_neg e6]
    by_cases e7 : k = 135
    · rw [if_pos e7]
      obtain ⟨x, y, rfl, hx, hy⟩ := cZ (p3 (by omega))
      have h1 := hk' x (by simp) hx ks ts
      rw [ofApp]
      unfold appT1
      split
      · rename_i h; exact bV h
      · rename_i h3
        split
        · rename_i h; exact bV h
        · split
          · exact bV (by decide)
          · intro _
            exact aBd (h1 (by simpa using h3))
    rw [if_neg e7]
    by_cases e8 : k = 136
    · rw [if_pos e8]
      obtain ⟨q1, q2⟩ := p4 e8
      have key : ∀ l : List Tree, (∀ t ∈ l, t ∈ kids) → (ofRec l ks ts).2 = 0 → ∀ u ∈ (ofRec l ks ts).1, exS u := by
        intro l
        induction l with
        | nil => intro _ _; rw [ofRec]; exact fun u h => (List.not_mem_nil h).elim
        | cons t l ih2 =>
          intro hm h
          rw [ofRec] at h ⊢
          obtain ⟨h1, h2, h3⟩ := eO h
          have g1 := ih2 (fun t ht => hm t (by simp [ht])) h2
          have hmt := hm t (by simp)
          obtain ⟨a', x, rfl, hx, hl⟩ := q1 t hmt
          have sx := bR (k := 137) (n := 0) (a := a') (b := emptyB) (kids := [x]) (t := x) (by simp)
          have hi := ih x (by have := hin _ hmt; omega) ks ts hx (bL (hwk _ hmt) (by simp))
          have e : ofField (.node 137 0 a' emptyB [x]) ks ts = field1 a' (ofP x ks ts) := by rw [ofField, ofH]
          rw [e] at h1 h3 ⊢
          rw [h3]
          unfold field1 at h1 ⊢
          split at h1
          · rename_i h4; exact absurd h1 h4
          · rename_i h4
            rw [if_neg h4]
            have f1 := hi (by simpa using h4)
            intro u hu
            rcases List.mem_cons.1 hu with rfl | hu
            · rw [exS]
              exact ⟨fun e => absurd e (by decide), (jQ _).2 fun t ht => by rw [List.mem_singleton.1 ht]; exact f1⟩
            · exact g1 u hu
      unfold rec1
      split
      · rename_i h; exact bV h
      · rename_i h
        intro _
        exact tG (by decide) (key kids (fun _ h => h) (by simpa using h))
    rw [if_neg e8]
    by_cases e9 : k = 138
    · rw [if_pos e9]
      obtain ⟨x, rfl, hx⟩ := hD (p5 e9)
      have h1 := hk' x (by simp) hx ks ts
      rw [ofH]
      unfold proj1
      split
      · rename_i h; exact bV h
      · rename_i h
        obtain ⟨h2, h3⟩ := eU (by simpa using h)
        have g1 := h1 h2
        unfold part1
        split
        · exact bV (by decide)
        · rename_i p hp
          intro _
          obtain ⟨t, ht, rfl⟩ := mK hp
          exact aBc (pZ g1 t ht)
    rw [if_neg e9]
    by_cases e10 : k = 140
    · rw [if_pos e10]
      obtain ⟨x, C, rfl, hx, hC⟩ := iL (p6 e10)
      rw [ofTApp]
      unfold tapp1
      split
      · rename_i h; exact bV h
      · split
        · rename_i h; exact bV h
        · split
          · exact bV (by decide)
          · exact hH (jN _ _)
    rw [if_neg e10]
    by_cases e11 : k = 141
    · rw [if_pos e11]
      obtain ⟨C, x, T, rfl, hC, hx, hT⟩ := gJ (p7 e11)
      rw [ofPack]
      unfold pack1
      split
      · rename_i h; exact bV h
      · rename_i h1
        split
        · rename_i h; exact bV h
        · split
          · rename_i h; exact bV h
          · split
            · exact bV (by decide)
            · unfold alike1
              split
              · rename_i h; exact bV h
              · split
                · exact bV (by decide)
                · exact hH (fun _ => eC ks T (by simpa using h1))
    rw [if_neg e11]
    by_cases e12 : k = 142
    · rw [if_pos e12]
      obtain ⟨x, y, rfl, hx, hy⟩ := cZ (p3 (by omega))
      rw [ofUnpack]
      unfold unpack1
      split
      · rename_i h; exact bV h
      · split
        · rename_i h; exact bV h
        · split
          · rename_i h; exact bV h
          · split
            · exact bV (by decide)
            · intro h0
              obtain ⟨g1, g2, g3⟩ := eY _ _ _ h0
              have g4 := bQ g3
              exact kB _ (by omega)
    rw [if_neg e12]
    by_cases e13 : k = 144
    · rw [if_pos e13]
      obtain ⟨x, y, z, rfl, hx, hy, hz2⟩ := gK (p8 e13)
      have h1 := hk' y (by simp) hy ks ts
      rw [ofIf]
      unfold choice1
      split
      · rename_i h; exact bV h
      · split
        · rename_i h; exact bV h
        · rename_i h2
          split
          · rename_i h; exact bV h
          · split
            · exact bV (by decide)
            · intro _
              exact h1 (by simpa using h2)
    rw [if_neg e13]
    by_cases e14 : k = 145
    · rw [if_pos e14]
      obtain ⟨x, y, rfl, hx, hy⟩ := cZ (p3 (by omega))
      rw [ofOp]
      unfold op1
      split
      · rename_i h; exact bV h
      · split
        · rename_i h; exact bV h
        · split
          · exact bV (by decide)
          · split
            · exact hleaf _ (.inl rfl)
            · exact hleaf _ (.inr (.inl rfl))
    rw [if_neg e14]
    by_cases e15 : k = 146
    · rw [if_pos e15]
      obtain ⟨T, x, rfl, hT, hx⟩ := dZ (p2 (by omega))
      rw [ofIn]
      unfold in1
      split
      · rename_i h; exact bV h
      · rename_i h1
        split
        · rename_i h; exact bV h
        · split
          · exact bV (by decide)
          · cases partP (kidsOf (starT ks T).1) a with
            | none => exact bV (by decide)
            | some p =>
              rw [in2]
              unfold alike1
              split
              · rename_i h; exact bV h
              · split
                · exact bV (by decide)
                · exact hH (fun _ => eC ks T (by simpa using h1))
    rw [if_neg e15]
    by_cases e16 : k = 147
    · rw [if_pos e16]
      obtain ⟨x, arms, rfl, hne, hx, ha⟩ := iM (p9 e16)
      rw [ofCase]
      unfold case1
      split
      · rename_i h; exact bV h
      · split
        · rename_i h; exact bV h
        · rename_i h1
          have h0 : (arms1 (ofP x ks ts).1 arms (ofArms arms (kidsOf (ofP x ks ts).1) (ofP x ks ts).1 ks ts)).2 = 0 := by simpa using h1
          unfold arms1 at h0 ⊢
          split at h0
          · cases h0
          · rename_i h3
            rw [if_neg h3]
            unfold alikeP
            split
            · exact bV (by decide)
            · intro _
              cases arms with
              | nil => exact absurd rfl hne
              | cons t l =>
                rw [ofArms] at h0 ⊢
                unfold arm1 at h0 ⊢
                split at h0
                · rename_i h5; exact absurd h0 h5
                · rename_i h5
                  rw [if_neg h5]
                  obtain ⟨h6, h7, h8⟩ := eO h0
                  rw [h8]
                  have hmt : t ∈ x :: t :: l := by simp
                  obtain ⟨a', y, rfl, hy, hl⟩ := ha t (by simp)
                  have sx := bR (k := 149) (n := 0) (a := a') (b := emptyB) (kids := [y]) (t := y) (by simp)
                  have h9 := hin _ hmt
                  rw [ofArm, ofH] at h6 ⊢
                  exact ih y (by omega) _ _ hy (bL (hwk _ hmt) (by simp)) h6
    · rw [if_neg e16]
      have e17 : k = 148 := by omega
      obtain ⟨x, T, arms, rfl, hne, hx, hT, ha⟩ := gL (p10 e17)
      rw [ofFold]
      unfold fold1
      split
      · rename_i h; exact bV h
      · split
        · rename_i h; exact bV h
        · rename_i h1
          split
          · rename_i h; exact bV h
          · unfold alikeP
            split
            · exact bV (by decide)
            · exact hH (fun _ => eC ks T (by simpa using h1))
end Go.Proofs.YtocaohipfiapkaaGreat.Ab
namespace Go.Proofs.YtocaohipfiapkaaGreat.Ab
set_option linter.unusedVariables false
set_option linter.unusedSimpArgs false
open Go.RowKit
attribute [local irreducible] AWP AOps AExit AThen ABlock ANoGoto FeetOk
/-- Types that are trees, not too large. -/
def okT (ts : List Tree) : Prop := ∀ T ∈ ts, T.whole = true ∧ T.size ≤ 100000000
section
variable (kl tl : Nat) (KI TI : List IV)
set_option maxHeartbeats 8000000 in
set_option maxRecDepth 10000 in
theorem aBP (n : Int) (a b : ByteArray) (kids : List Tree) (ts : List Tree) (hts : okT ts) (hn : 0 ≤ n) :
    ACalls Tryz.prog 17 [.imm (.agg [.sl false kl KI, .sl false ts.length (Tree.ivs ts)]), .imm (Tree.iv (.node 130 n a b kids))] [] (.imm (.tup [(if n ≥ (ts.length : Int) then (.nil, 8) else normalP 1000 (ts.getD n.toNat .nil)).1.iv, .lit (.int .i64 (if n ≥ (ts.length : Int) then (.nil, 8) else normalP 1000 (ts.getD n.toNat .nil)).2)])) [] := by
  obtain ⟨j, rfl⟩ := Int.eq_ofNat_of_zero_le hn
  rw [Tree.iv]
  generalize Tree.ivs kids = Z at *
  by_cases h : j < ts.length
  · rw [if_neg (show ¬ ((j : Int) ≥ (ts.length : Int)) by omega)]
    have e : ts.getD (j : Int).toNat .nil = ts[j] := by rw [Int.toNat_natCast, List.getD_eq_getElem?_getD, List.getElem?_eq_getElem h]; rfl
    rw [e]
    have hget := cS ts j h
    have c1 := pB ts[j] (hts _ (List.getElem_mem h)).2
    generalize normalP 1000 ts[j] = Q at *
    obtain ⟨Q1, Q2⟩ := Q
    dsimp only at *
    generalize Q1.iv = qi at *
    generalize ts[j].iv = ti at *
    generalize Tree.ivs ts = TI at *
    clear hts e
    refine aJ Tryz.func17 rfl rfl (nb rfl) rfl ?_
    repeat' (first | refine aG ?_ | (refine aI ?_;  first | refine aC tabOk rfl rfl rfl (nb rfl) rfl ?_ | (refine aK rfl rfl rfl (nb rfl) rfl rfl rfl (fun hq => ?_) (fun hq => ?_) <;> (first | (simp only [sD, sE, sB, sC, sN, sM, sT, sF] at hq; try (exfalso; omega)) | skip)) | refine bO tabOk rfl rfl rfl (nb rfl) rfl rfl rfl hget ?_ | refine aD rfl rfl (nb rfl) rfl rfl rfl rfl (c1) ?_ | refine aY tabOk rfl rfl (nb rfl) rfl ?_ | refine bH tabOk rfl rfl rfl (nb rfl) rfl rfl rfl rfl (by first | assumption | omega) ?_) | (refine aN ?_;  first | refine aH ?_ | refine aQ ?_ | refine aX ?_ | refine aT ?_ | refine aZ ?_ | refine aE (b := true) rfl (fun _ => ?_) nTf | refine aE (b := false) rfl nFt (fun _ => ?_) | refine aR mixed (by kernel_rfl) ?_) | (refine aM ?_;  first | refine bA ?_ | refine aV ?_) | (refine aW ?_;  first | refine bD ?_) | refine bG (bF (by kernel_rfl)) ?_)
    all_goals first | (exfalso; omega) | exact absurd rfl (by assumption) | (refine aU (by first | exact .inl rfl | exact .inr rfl) (bB rfl (aA rfl) (aA rfl)) rfl ?_; rfl)
  · rw [if_pos (show (j : Int) ≥ (ts.length : Int) by omega)]
    generalize Tree.ivs ts = TI at *
    clear hts
    generalize ts.length = tl at *
    refine aJ Tryz.func17 rfl rfl (nb rfl) rfl ?_
    repeat' (first | refine aG ?_ | (refine aI ?_;  first | refine aC tabOk rfl rfl rfl (nb rfl) rfl ?_ | (refine aK rfl rfl rfl (nb rfl) rfl rfl rfl (fun hq => ?_) (fun hq => ?_) <;> (first | (simp only [sD, sE, sB, sC, sN, sM, sT, sF] at hq; try (exfalso; omega)) | skip)) | refine aY tabOk rfl rfl (nb rfl) rfl ?_) | (refine aN ?_;  first | refine aH ?_ | refine aQ ?_ | refine aX ?_ | refine aT ?_ | refine aE (b := true) rfl (fun _ => ?_) nTf | refine aR mixed (by kernel_rfl) ?_) | (refine aM ?_;  first | refine bA ?_ | refine aV ?_) | (refine aW ?_;  first | refine bD ?_) | refine bG (bF (by kernel_rfl)) ?_)
    all_goals first | (exfalso; omega) | exact absurd rfl (by assumption) | (refine aU (by first | exact .inl rfl | exact .inr rfl) (bB rfl (aA rfl) (aA rfl)) rfl ?_; rfl)
set_option maxHeartbeats 8000000 in
set_option maxRecDepth 10000 in
theorem tH (k c : Int) (hk : k = 131 ∧ c = 111 ∨ k = 132 ∧ c = 112 ∨ k = 133 ∧ c = 113) (n : Int) (a b : ByteArray) (kids : List Tree) :
    ACalls Tryz.prog 17 [.imm (IV.agg [.sl false kl KI, .sl false tl TI]), .imm (Tree.iv (.node k n a b kids))] [] (.imm (.tup [(tyT c []).iv, .lit (.int .i64 0)])) [] := by
  have c1 := xD c
  rw [Tree.iv]
  generalize Tree.ivs kids = Z at *
  generalize (tyT c []).iv = ti at *
  rcases hk with ⟨rfl, rfl⟩ | ⟨rfl, rfl⟩ | ⟨rfl, rfl⟩
  · refine aJ Tryz.func17 rfl rfl (nb rfl) rfl ?_
    repeat' (first | refine aG ?_ | (refine aI ?_;  first | refine aC tabOk rfl rfl rfl (nb rfl) rfl ?_ | (refine aK rfl rfl rfl (nb rfl) rfl rfl rfl (fun hq => ?_) (fun hq => ?_) <;> (first | (simp only [sD, sE, sB, sC, sN, sM, sT, sF] at hq; try (exfalso; omega)) | skip)) | refine aD rfl rfl (nb rfl) rfl rfl rfl rfl (c1) ?_ | refine aY tabOk rfl rfl (nb rfl) rfl ?_) | (refine aN ?_;  first | refine aH ?_ | refine aQ ?_ | refine aX ?_ | refine aT ?_ | refine aE (b := true) rfl (fun _ => ?_) nTf | refine aE (b := false) rfl nFt (fun _ => ?_)) | (refine aM ?_;  first | refine aV ?_) | (refine aW ?_;  first | refine bD ?_))
    all_goals first | (exfalso; omega) | exact absurd rfl (by assumption) | (refine aU (by first | exact .inl rfl | exact .inr rfl) (bB rfl (aA rfl) (aA rfl)) rfl ?_; rfl)
  · refine aJ Tryz.func17 rfl rfl (nb rfl) rfl ?_
    repeat' (first | refine aG ?_ | (refine aI ?_;  first | refine aC tabOk rfl rfl rfl (nb rfl) rfl ?_ | (refine aK rfl rfl rfl (nb rfl) rfl rfl rfl (fun hq => ?_) (fun hq => ?_) <;> (first | (simp only [sD, sE, sB, sC, sN, sM, sT, sF] at hq; try (exfalso; omega)) | skip)) | refine aD rfl rfl (nb rfl) rfl rfl rfl rfl (c1) ?_ | refine aY tabOk rfl rfl (nb rfl) rfl ?_) | (refine aN ?_;  first | refine aH ?_ | refine aQ ?_ | refine aX ?_ | refine aT ?_ | refine aE (b := true) rfl (fun _ => ?_) nTf | refine aE (b := false) rfl nFt (fun _ => ?_)) | (refine aM ?_;  first | refine aV ?_) | (refine aW ?_;  first | refine bD ?_))
    all_goals first | (exfalso; omega) | exact absurd rfl (by assumption) | (refine aU (by first | exact .inl rfl | exact .inr rfl) (bB rfl (aA rfl) (aA rfl)) rfl ?_; rfl)
  · refine aJ Tryz.func17 rfl rfl (nb rfl) rfl ?_
    repeat' (first | refine aG ?_ | (refine aI ?_;  first | refine aC tabOk rfl rfl rfl (nb rfl) rfl ?_ | (refine aK rfl rfl rfl (nb rfl) rfl rfl rfl (fun hq => ?_) (fun hq => ?_) <;> (first | (simp only [sD, sE, sB, sC, sN, sM, sT, sF] at hq; try (exfalso; omega)) | skip)) | refine aD rfl rfl (nb rfl) rfl rfl rfl rfl (c1) ?_ | refine aY tabOk rfl rfl (nb rfl) rfl ?_) | (refine aN ?_;  first | refine aH ?_ | refine aQ ?_ | refine aX ?_ | refine aT ?_ | refine aE (b := true) rfl (fun _ => ?_) nTf | refine aE (b := false) rfl nFt (fun _ => ?_)) | (refine aM ?_;  first | refine aV ?_) | (refine aW ?_;  first | refine bD ?_))
    all_goals first | (exfalso; omega) | exact absurd rfl (by assumption) | (refine aU (by first | exact .inl rfl | exact .inr rfl) (bB rfl (aA rfl) (aA rfl)) rfl ?_; rfl)
set_option maxHeartbeats 8000000 in
set_option maxRecDepth 10000 in
theorem aBQ (C2 : IV) (n : Int) (a b : ByteArray) (x y : Tree) (hx : x.whole = true) (hy : y.whole = true) (A B : Tree × Int)
    (c1 : ACalls Tryz.prog 17 [.imm (IV.agg [.sl false kl KI, .sl false tl TI]), .imm x.iv] [] (.imm (.tup [(A).1.iv, .lit (.int .i64 (A).2)])) [])
    (c2 : A.2 = 0 → ACalls Tryz.prog 31 [.imm (IV.agg [.sl false kl KI, .sl false tl TI]), .imm A.1.iv] [] (.imm C2) [])
    (c3 : A.2 = 0 → ACalls Tryz.prog 17 [.imm C2, .imm y.iv] [] (.imm (.tup [(B).1.iv, .lit (.int .i64 (B).2)])) []) :
    ACalls Tryz.prog 17 [.imm (IV.agg [.sl false kl KI, .sl false tl TI]), .imm (Tree.iv (.node 143 n a b [x, y]))] [] (.imm (.tup [(let1 A B).1.iv, .lit (.int .i64 (let1 A B).2)])) [] := by
  obtain ⟨px, hpx⟩ := bT (bK hx)
  obtain ⟨py, hpy⟩ := bT (bK hy)
  rw [dH 143 n a b hpx hpy]
  rw [hpx] at c1
  rw [hpy] at c3
  unfold let1
  obtain ⟨A1, A2⟩ := A
  obtain ⟨B1, B2⟩ := B
  dsimp only at *
  by_cases h1 : A2 = 0
  · replace c2 := c2 h1
    replace c3 := c3 h1
    subst h1
    rw [if_neg (by simp)]
    dsimp only
    generalize A1.iv = ai at *
    generalize B1.iv = bi at *
    refine aJ Tryz.func17 rfl rfl (nb rfl) rfl ?_
    repeat' (first | refine aG ?_ | (refine aI ?_;  first | refine aC tabOk rfl rfl rfl (nb rfl) rfl ?_ | (refine aK rfl rfl rfl (nb rfl) rfl rfl rfl (fun hq => ?_) (fun hq => ?_) <;> (first | (simp only [sD, sE, sB, sC, sN, sM, sT, sF] at hq; try (exfalso; omega)) | skip)) | refine aD rfl rfl (nb rfl) rfl rfl rfl rfl (c1) ?_ | refine aD rfl rfl (nb rfl) rfl rfl rfl rfl (c2) ?_ | refine aD rfl rfl (nb rfl) rfl rfl rfl rfl (c3) ?_ | refine aY tabOk rfl rfl (nb rfl) rfl ?_ | refine bE tabOk rfl rfl rfl (nb rfl) rfl rfl rfl rfl (by first | rfl | omega) (by first | omega | simp) ?_) | (refine aN ?_;  first | refine aH ?_ | refine aQ ?_ | refine aX ?_ | refine aT ?_ | refine aZ ?_ | refine aE (b := true) rfl (fun _ => ?_) nTf | refine aE (b := false) rfl nFt (fun _ => ?_) | refine aR mixed (by kernel_rfl) ?_) | (refine aM ?_;  first | refine bA ?_ | refine aV ?_) | (refine aW ?_;  first | refine bD ?_) | refine bG (bF (by kernel_rfl)) ?_)
    all_goals first | (exfalso; omega) | exact absurd rfl (by assumption) | (refine aU (by first | exact .inl rfl | exact .inr rfl) (bB rfl (aA rfl) (aA rfl)) rfl ?_; rfl)
  · rw [if_pos h1]
    generalize A1.iv = ai at *
    clear c2 c3
    refine aJ Tryz.func17 rfl rfl (nb rfl) rfl ?_
    repeat' (first | refine aG ?_ | (refine aI ?_;  first | refine aC tabOk rfl rfl rfl (nb rfl) rfl ?_ | (refine aK rfl rfl rfl (nb rfl) rfl rfl rfl (fun hq => ?_) (fun hq => ?_) <;> (first | (simp only [sD, sE, sB, sC, sN, sM, sT, sF] at hq; try (exfalso; omega)) | skip)) | refine aD rfl rfl (nb rfl) rfl rfl rfl rfl (c1) ?_ | refine aY tabOk rfl rfl (nb rfl) rfl ?_ | refine bE tabOk rfl rfl rfl (nb rfl) rfl rfl rfl rfl (by first | rfl | omega) (by first | omega | simp) ?_) | (refine aN ?_;  first | refine aH ?_ | refine aQ ?_ | refine aX ?_ | refine aT ?_ | refine aE (b := true) rfl (fun _ => ?_) nTf | refine aE (b := false) rfl nFt (fun _ => ?_) | refine aR mixed (by kernel_rfl) ?_) | (refine aM ?_;  first | refine bA ?_ | refine aV ?_) | (refine aW ?_;  first | refine bD ?_) | refine bG (bF (by kernel_rfl)) ?_)
    all_goals first | (exfalso; omega) | exact absurd rfl (by assumption) | (refine aU (by first | exact .inl rfl | exact .inr rfl) (bB rfl (aA rfl) (aA rfl)) rfl ?_; rfl)
set_option maxHeartbeats 8000000 in
set_option maxRecDepth 10000 in
theorem aBe (k n : Int) (a b : ByteArray) (kids : List Tree) (hk : k ≠ 130 ∧ k ≠ 131 ∧ k ≠ 132 ∧ k ≠ 133 ∧ k ≠ 139 ∧ k ≠ 143) (R : Tree × Int)
    (c2 : ACalls Tryz.prog (ruleF k) [.imm (IV.agg [.sl false kl KI, .sl false tl TI]), .imm (Tree.iv (.node k n a b kids))] [] (.imm (.tup [(R).1.iv, .lit (.int .i64 (R).2)])) []) :
    ACalls Tryz.prog 17 [.imm (IV.agg [.sl false kl KI, .sl false tl TI]), .imm (Tree.iv (.node k n a b kids))] [] (.imm (.tup [(R).1.iv, .lit (.int .i64 (R).2)])) [] := by
  have c1 := aCo k n a b kids
  generalize ruleF k = F at *
  generalize R.1.iv = ri at *
  rw [Tree.iv] at *
  generalize Tree.ivs kids = Z at *
  refine aJ Tryz.func17 rfl rfl (nb rfl) rfl ?_
  repeat' (first | refine aG ?_ | (refine aI ?_;  first | refine aC tabOk rfl rfl rfl (nb rfl) rfl ?_ | (refine aK rfl rfl rfl (nb rfl) rfl rfl rfl (fun hq => ?_) (fun hq => ?_) <;> (first | (simp only [sD, sE, sB, sC, sN, sM, sT, sF] at hq; try (exfalso; omega)) | skip)) | refine aD rfl rfl (nb rfl) rfl rfl rfl rfl (c1) ?_ | refine aD rfl rfl (nb rfl) rfl rfl rfl rfl (c2) ?_ | refine aY tabOk rfl rfl (nb rfl) rfl ?_) | (refine aN ?_;  first | refine aH ?_ | refine aQ ?_ | refine aX ?_ | refine aT ?_ | refine aZ ?_ | refine aE (b := false) rfl nFt (fun _ => ?_) | refine aR mixed (by kernel_rfl) ?_) | (refine aM ?_;  first | refine bA ?_) | (refine aW ?_;  first | refine bS ?_) | refine bG (bF (by kernel_rfl)) ?_)
  all_goals first | (exfalso; omega) | exact absurd rfl (by assumption) | (refine aU (by first | exact .inl rfl | exact .inr rfl) (bB rfl (aA rfl) (aA rfl)) rfl ?_; rfl)
set_option maxHeartbeats 8000000 in
set_option maxRecDepth 10000 in
theorem vE (kl2 tl2 : Nat) (KI2 TI2 : List IV) (n : Int) (a b : ByteArray) (K x : Tree) (hK : K.whole = true) (hx : x.whole = true) (e : Int) (B : Tree × Int) (fB : fineW B)
    (c2 : ACalls Tryz.prog 30 [.imm (IV.agg [.sl false kl KI, .sl false tl TI]), .imm K.iv] [] (.imm (.tup [(IV.agg [.sl false kl2 KI2, .sl false tl2 TI2]), .lit (.int .i64 e)])) [])
    (c4 : e = 0 → ACalls Tryz.prog 17 [.imm (IV.agg [.sl false kl2 KI2, .sl false tl2 TI2]), .imm x.iv] [] (.imm (.tup [(B).1.iv, .lit (.int .i64 (B).2)])) []) :
    ACalls Tryz.prog 17 [.imm (IV.agg [.sl false kl KI, .sl false tl TI]), .imm (Tree.iv (.node 139 n a b [K, x]))] [] (.imm (.tup [(tlam1 K e B).1.iv, .lit (.int .i64 (tlam1 K e B).2)])) [] := by
  obtain ⟨px, hpx⟩ := bT (bK hx)
  obtain ⟨pK, hpK⟩ := bT (bK hK)
  rw [dH 139 n a b hpK hpx]
  rw [hpK] at c2
  rw [hpx] at c4
  unfold tlam1
  obtain ⟨B1, B2⟩ := B
  unfold fineW at fB
  dsimp only at *
  by_cases h2 : e = 0
  · replace c4 := c4 h2
    subst h2
    rw [if_neg (by simp)]
    by_cases h3 : B2 = 0
    · obtain ⟨b1, b2⟩ := fB h3
      obtain ⟨pb, hpb⟩ := bT (bK b1)
      have c5 := aAW 117 pK pb true
      subst h3
      rw [if_neg (by simp), yE 117 hpK hpb]
      rw [hpb] at c4
      clear fB b1 b2
      refine aJ Tryz.func17 rfl rfl (nb rfl) rfl ?_
      refine cW (eG 6 (by simp) rfl rfl) ?_
      repeat' (first | refine aG ?_ | (refine aI ?_;  first | refine aC tabOk rfl rfl rfl (nb rfl) rfl ?_ | (refine aK rfl rfl rfl (nb rfl) rfl rfl rfl (fun hq => ?_) (fun hq => ?_) <;> (first | (simp only [sD, sE, sB, sC, sN, sM, sT, sF] at hq; try (exfalso; omega)) | skip)) | refine dX 6 (d := 6) tabOk rfl rfl rfl (nb rfl) rfl rfl rfl rfl ?_ | refine aD rfl rfl (nb rfl) rfl rfl rfl rfl (c2) ?_ | refine aD rfl rfl (nb rfl) rfl rfl rfl rfl (c4) ?_ | refine aD rfl rfl (nb rfl) rfl rfl rfl rfl (c5) ?_ | refine cI tabOk rfl rfl rfl (nb rfl) rfl rfl rfl rfl rfl rfl rfl rfl rfl ?_ | refine aY tabOk rfl rfl (nb rfl) rfl ?_ | refine bM tabOk rfl rfl rfl (nb rfl) rfl rfl rfl rfl ?_ | refine bP tabOk rfl rfl rfl rfl rfl rfl rfl rfl rfl rfl rfl ?_ | refine bE tabOk rfl rfl rfl (nb rfl) rfl rfl rfl rfl (by first | rfl | omega) (by first | omega | simp) ?_) | (refine aN ?_;  first | refine aH ?_ | refine aQ ?_ | refine aX ?_ | refine aT ?_ | refine aZ ?_ | refine aE (b := true) rfl (fun _ => ?_) nTf | refine aE (b := false) rfl nFt (fun _ => ?_) | refine aR mixed (by kernel_rfl) ?_) | (refine aM ?_;  first | refine bA ?_ | refine aV ?_) | (refine aW ?_;  first | refine bD ?_) | refine bG (bF (by kernel_rfl)) ?_)
      all_goals first | (exfalso; omega) | exact absurd rfl (by assumption) | (refine aU (by first | exact .inl rfl | exact .inr rfl) (bB rfl (aA rfl) (aA rfl)) rfl ?_; rfl)
    · rw [if_pos h3]
      generalize B1.iv = bi at *
      clear fB
      refine aJ Tryz.func17 rfl rfl (nb rfl) rfl ?_
      refine cW (eG 6 (by simp) rfl rfl) ?_
      repeat' (first | refine aG ?_ | (refine aI ?_;  first | refine aC tabOk rfl rfl rfl (nb rfl) rfl ?_ | (refine aK rfl rfl rfl (nb rfl) rfl rfl rfl (fun hq => ?_) (fun hq => ?_) <;> (first | (simp only [sD, sE, sB, sC, sN, sM, sT, sF] at hq; try (exfalso; omega)) | skip)) | refine dX 6 (d := 6) tabOk rfl rfl rfl (nb rfl) rfl rfl rfl rfl ?_ | refine aD rfl rfl (nb rfl) rfl rfl rfl rfl (c2) ?_ | refine aD rfl rfl (nb rfl) rfl rfl rfl rfl (c4) ?_ | refine aY tabOk rfl rfl (nb rfl) rfl ?_ | refine bM tabOk rfl rfl rfl (nb rfl) rfl rfl rfl rfl ?_ | refine bP tabOk rfl rfl rfl rfl rfl rfl rfl rfl rfl rfl rfl ?_ | refine bE tabOk rfl rfl rfl (nb rfl) rfl rfl rfl rfl (by first | rfl | omega) (by first | omega | simp) ?_) | (refine aN ?_;  first | refine aH ?_ | refine aQ ?_ | refine aX ?_ | refine aT ?_ | refine aZ ?_ | refine aE (b := true) rfl (fun _ => ?_) nTf | refine aE (b := false) rfl nFt (fun _ => ?_) | refine aR mixed (by kernel_rfl) ?_) | (refine aM ?_;  first | refine bA ?_ | refine aV ?_) | (refine aW ?_;  first | refine bD ?_) | refine bG (bF (by kernel_rfl)) ?_)
      all_goals first | (exfalso; omega) | exact absurd rfl (by assumption) | (refine aU (by first | exact .inl rfl | exact .inr rfl) (bB rfl (aA rfl) (aA rfl)) rfl ?_; rfl)
  · rw [if_pos h2]
    clear c4 fB
    refine aJ Tryz.func17 rfl rfl (nb rfl) rfl ?_
    refine cW (eG 6 (by simp) rfl rfl) ?_
    repeat' (first | refine aG ?_ | (refine aI ?_;  first | refine aC tabOk rfl rfl rfl (nb rfl) rfl ?_ | (refine aK rfl rfl rfl (nb rfl) rfl rfl rfl (fun hq => ?_) (fun hq => ?_) <;> (first | (simp only [sD, sE, sB, sC, sN, sM, sT, sF] at hq; try (exfalso; omega)) | skip)) | refine dX 6 (d := 6) tabOk rfl rfl rfl (nb rfl) rfl rfl rfl rfl ?_ | refine aD rfl rfl (nb rfl) rfl rfl rfl rfl (c2) ?_ | refine aY tabOk rfl rfl (nb rfl) rfl ?_ | refine bP tabOk rfl rfl rfl rfl rfl rfl rfl rfl rfl rfl rfl ?_ | refine bE tabOk rfl rfl rfl (nb rfl) rfl rfl rfl rfl (by first | rfl | omega) (by first | omega | simp) ?_) | (refine aN ?_;  first | refine aH ?_ | refine aQ ?_ | refine aX ?_ | refine aT ?_ | refine aE (b := true) rfl (fun _ => ?_) nTf | refine aE (b := false) rfl nFt (fun _ => ?_) | refine aR mixed (by kernel_rfl) ?_) | (refine aM ?_;  first | refine bA ?_ | refine aV ?_) | (refine aW ?_;  first | refine bD ?_) | refine bG (bF (by kernel_rfl)) ?_)
    all_goals first | (exfalso; omega) | exact absurd rfl (by assumption) | (refine aU (by first | exact .inl rfl | exact .inr rfl) (bB rfl (aA rfl) (aA rfl)) rfl ?_; rfl)
end
end Go.Proofs.YtocaohipfiapkaaGreat.Ab
namespace Go.Proofs.YtocaohipfiapkaaGreat.Ab
set_option linter.unusedVariables false
set_option linter.unusedSimpArgs false
open Go.RowKit
theorem mB {T : Tree} {ts : List Tree} (h1 : T.whole = true) (h2 : T.size ≤ 100000000) (h : okT ts) : okT (T :: ts) := fun U hU => by
  rcases List.mem_cons.1 hU with rfl | hU
  · exact ⟨h1, h2⟩
  · exact h U hU
theorem vF {K : Tree} {ks : List Tree} (h1 : checkP isKindP K = 0) (h : okK ks) : okK (K :: ks) := fun U hU => by
  rcases List.mem_cons.1 hU with rfl | hU
  · exact h1
  · exact h U hU
theorem aAf {R : Tree × Int} (h : R.2 = 0 → checkP isConP R.1 = 0) : fineT R := fun h0 => by
  obtain ⟨h1, h2, h3⟩ := bQ (h h0)
  exact ⟨h3, h1, by omega⟩
theorem mN (ks ts : List Tree) (self : Tree) : ∀ l cs : List Tree, (∀ t ∈ l, ∃ a' x, t = .node 149 0 a' emptyB [x] ∧ ∀ T : Tree, T.whole = true → T.size ≤ 100000000 → fineW (ofP x ks (T :: ts))) → (ofArms l cs self ks ts).2 = 0 → (ofArms l cs self ks ts).1.length = l.length ∧ ∀ s ∈ (ofArms l cs self ks ts).1, s.whole = true ∧ s.size ≤ 100000000
  | [], cs, _, _ => by rw [ofArms]; exact ⟨rfl, fun s hs => (List.not_mem_nil hs).elim⟩
  | t :: l, cs, h, h0 => by
    obtain ⟨a', x, rfl, hx⟩ := h t (by simp)
    rw [ofArms] at h0 ⊢
    unfold arm1 at h0 ⊢
    split at h0
    · rename_i h1; exact absurd h0 h1
    · rename_i h1
      rw [if_neg h1]
      obtain ⟨h2, h3, h4⟩ := eO h0
      rw [h4]
      obtain ⟨g1, g2⟩ := mN ks ts self l cs.tail (fun t ht => h t (by simp [ht])) h3
      obtain ⟨_, w1, w2⟩ := fO _ _ (show (filledP (kid0 (cs.headD .nil)) self).2 = 0 by simpa using h1)
      rw [ofArm, ofH] at h2 ⊢
      refine ⟨by rw [List.length_cons, List.length_cons, g1], fun s hs => ?_⟩
      rcases List.mem_cons.1 hs with rfl | hs
      · exact hx _ w1 w2 h2
      · exact g2 s hs
set_option maxHeartbeats 8000000 in
set_option maxRecDepth 10000 in
theorem aBf (t : Tree) : ∀ ks ts : List Tree, isTermP t = true → t.whole = true → t.size ≤ 1500 → okK ks → ks.length + t.size ≤ 90000 → ts.length + t.size ≤ 900000 → okT ts →
    ACalls Tryz.prog 17 [.imm (cIV ks ts), .imm t.iv] [] (.imm (.tup [(ofP t ks ts).1.iv, .lit (.int .i64 (ofP t ks ts).2)])) [] := by
  induction t using Tree.sind with
  | h t ih =>
    intro ks ts hf hw hs hk hkl htl ht
    obtain ⟨k, n, a, b, kids, rfl⟩ := cJ hw
    obtain ⟨p0, p1, p2, p3, p4, p5, p6, p7, p8, p9, p10, pk⟩ := iN hf
    have hwk : ∀ t ∈ kids, t.whole = true := fun t h => bL hw h
    have hsz : (Tree.node k n a b kids).size = Tree.sizes kids + 1 := by simp only [Tree.size]; omega
    have hin : ∀ t ∈ kids, t.size ≤ Tree.sizes kids := fun t h => cY h
    have hfin : ∀ x : Tree, x.size ≤ Tree.sizes kids → x.whole = true → isTermP x = true → ∀ ks' ts', fineT (ofP x ks' ts') := fun x hx hw h ks' ts' h0 => by
      obtain ⟨h1, h2, h3⟩ := uY x ks' ts' h hw h0
      exact ⟨h1, h2, by omega⟩
    have hgo : ∀ x : Tree, x.size ≤ Tree.sizes kids → x.whole = true → isTermP x = true → ∀ ks' ts', okK ks' → ks'.length ≤ ks.length + 1 → ts'.length ≤ ts.length + 1 → okT ts' → ACalls Tryz.prog 17 [.imm (cIV ks' ts'), .imm x.iv] [] (.imm (.tup [(ofP x ks' ts').1.iv, .lit (.int .i64 (ofP x ks' ts').2)])) [] :=
      fun x hx hw h ks' ts' h1 h2 h3 h4 => ih x (by omega) ks' ts' h hw (by omega) h1 (by omega) (by omega) h4
    have h0 : ∀ x ∈ kids, isTermP x = true → ACalls Tryz.prog 17 [.imm (cIV ks ts), .imm x.iv] [] (.imm (.tup [(ofP x ks ts).1.iv, .lit (.int .i64 (ofP x ks ts).2)])) [] ∧ fineT (ofP x ks ts) := fun x hx h =>
      ⟨hgo x (hin x hx) (hwk x hx) h ks ts hk (by omega) (by omega) ht, hfin x (hin x hx) (hwk x hx) h ks ts⟩
    have hcs : ∀ C : Tree, checkP isConP C = 0 → C.whole = true ∧ C.size ≤ 100000000 := fun C h => by
      obtain ⟨h1, h2, h3⟩ := bQ h
      exact ⟨h1, by omega⟩
    have hst : ∀ T : Tree, checkP isConP T = 0 → ACalls Tryz.prog 75 [.imm (cIV ks ts), .imm T.iv] [] (.imm (.tup [(starT ks T).1.iv, .lit (.int .i64 (starT ks T).2)])) [] ∧ fineT (starT ks T) := fun T h =>
      ⟨aBK ks ts hk (by omega) T (hcs T h).2, aAf (eC ks T)⟩
    have hkd : ∀ C : Tree, checkP isConP C = 0 → ACalls Tryz.prog 18 [.imm (.sl false ks.length (Tree.ivs ks)), .imm C.iv] [] (.imm (.tup [(KindP ks C).1.iv, .lit (.int .i64 (KindP ks C).2)])) [] ∧ fineK 100000000 (KindP ks C) := fun C h =>
      ⟨aAV (dY false ks) hk (by omega) C (hcs C h).2, fun h2 => by
        obtain ⟨g1, g2, g3⟩ := pW ks C hk h2
        exact ⟨g1, g2, by omega⟩⟩
    have hty : ∀ T : Tree, T.whole = true → ACalls Tryz.prog 31 [.imm (cIV ks ts), .imm T.iv] [] (.imm (cIV ks (T :: ts))) [] := fun T hT => aAX ks ts T hT (by omega)
    have hkl2 : kids.length ≤ Tree.sizes kids := cO kids hw
    by_cases e0 : k = 130
    · subst e0
      rw [show ofP (.node 130 n a b kids) ks ts = (if n ≥ (ts.length : Int) then (.nil, 8) else normalP 1000 (ts.getD n.toNat .nil)) by rw [ofP, if_pos rfl]]
      exact aBP ks.length (Tree.ivs ks) n a b kids ts ht (p0 rfl).1
    by_cases e1 : k = 131
    · subst e1
      rw [show ofP (.node 131 n a b kids) ks ts = (tyT 111 [], 0) by rw [ofP]; rfl]
      exact tH _ _ _ _ 131 111 (by decide) n a b kids
    by_cases e2 : k = 132
    · subst e2
      rw [show ofP (.node 132 n a b kids) ks ts = (tyT 112 [], 0) by rw [ofP]; rfl]
      exact tH _ _ _ _ 132 112 (by decide) n a b kids
    by_cases e3 : k = 133
    · subst e3
      rw [show ofP (.node 133 n a b kids) ks ts = (tyT 113 [], 0) by rw [ofP]; rfl]
      exact tH _ _ _ _ 133 113 (by decide) n a b kids
    by_cases e4 : k = 139
    · subst e4
      obtain ⟨K, x, rfl, hK, hx⟩ := iK (p1 rfl)
      have ck := yC ks ts K (bQ hK).1 (by omega) (by omega) fun T hT => ⟨(ht T hT).1, (ht T hT).2⟩
      rw [show ofP (.node 139 n a b [K, x]) ks ts = tlam1 K (shiftsP ts).2 (ofP x (K :: ks) (shiftsP ts).1) by rw [ofP]; rfl]
      have hsf := fN ts
      by_cases he : (shiftsP ts).2 = 0
      · rw [if_neg (by simpa using he)] at ck
        obtain ⟨g1, g2⟩ := hsf he
        exact vE _ _ _ _ _ _ _ _ n a b K x (bQ hK).1 (hwk x (by simp)) _ _ (dJ (hfin x (hin x (by simp)) (hwk x (by simp)) hx _ _)) ck fun _ =>
          hgo x (hin x (by simp)) (hwk x (by simp)) hx _ _ (vF hK hk) (by rw [List.length_cons]; omega) (by omega) fun T hT => ⟨(g2 T hT).1, by have := (g2 T hT).2; omega⟩
      · rw [if_pos he] at ck
        exact vE _ _ _ _ _ _ _ _ n a b K x (bQ hK).1 (hwk x (by simp)) _ _ (dJ (hfin x (hin x (by simp)) (hwk x (by simp)) hx _ _)) ck fun h => absurd h he
    by_cases e5 : k = 143
    · subst e5
      obtain ⟨x, y, rfl, hx, hy⟩ := cZ (p3 (by decide))
      obtain ⟨c1, f1⟩ := h0 x (by simp) hx
      rw [show ofP (.node 143 n a b [x, y]) ks ts = let1 (ofP x ks ts) (ofP y ks ((ofP x ks ts).1 :: ts)) by rw [ofP]; rfl]
      exact aBQ _ _ _ _ (cIV ks ((ofP x ks ts).1 :: ts)) n a b x y (hwk x (by simp)) (hwk y (by simp)) _ _ c1 (fun h => hty _ (f1 h).2.1) fun h =>
        hgo y (hin y (by simp)) (hwk y (by simp)) hy ks _ hk (by omega) (by rw [List.length_cons]; omega) (mB (f1 h).2.1 (f1 h).2.2 ht)
    refine aBe _ _ _ _ k n a b kids ⟨e0, e1, e2, e3, e4, e5⟩ _ ?_
    by_cases e6 : k = 134
    · subst e6
      obtain ⟨T, y, rfl, hT, hy⟩ := dZ (p2 (by decide))
      obtain ⟨c1, f1⟩ := hst T hT
      rw [show ofP (.node 134 n a b [T, y]) ks ts = lamT1 (starT ks T) (ofP y ks ((starT ks T).1 :: ts)) by rw [ofP]; rfl]
      exact aCI _ _ _ _ (cIV ks ((starT ks T).1 :: ts)) 134 n a b T y (hwk T (by simp)) (hwk y (by simp)) _ _ (dJ f1) (dJ (hfin y (hin y (by simp)) (hwk y (by simp)) hy _ _)) c1 (fun h => hty _ (f1 h).2.1) fun h =>
        hgo y (hin y (by simp)) (hwk y (by simp)) hy ks _ hk (by omega) (by rw [List.length_cons]; omega) (mB (f1 h).2.1 (f1 h).2.2 ht)
    by_cases e7 : k = 135
    · subst e7
      obtain ⟨x, y, rfl, hx, hy⟩ := cZ (p3 (by decide))
      obtain ⟨c1, f1⟩ := h0 x (by simp) hx
      obtain ⟨c2, f2⟩ := h0 y (by simp) hy
      rw [show ofP (.node 135 n a b [x, y]) ks ts = appT1 (ofP x ks ts) (ofP y ks ts) by rw [ofP]; rfl]
      exact aCJ _ _ _ _ 135 n a b x y (hwk x (by simp)) (hwk y (by simp)) _ _ f1 (dJ f2) c1 c2
    by_cases e8 : k = 136
    · subst e8
      obtain ⟨q1, q2⟩ := p4 rfl
      rw [show ofP (.node 136 n a b kids) ks ts = rec1 (ofRec kids ks ts) by rw [ofP]; rfl]
      refine aCK _ _ _ _ 136 n a b kids ks ts (by omega) fun t hmt => ?_
      obtain ⟨a', x, rfl, hx, hl⟩ := q1 t hmt
      have sx := bR (k := 137) (n := 0) (a := a') (b := emptyB) (kids := [x]) (t := x) (by simp)
      have hz := hin _ hmt
      have hxw := bL (hwk _ hmt) (show x ∈ [x] by simp)
      exact ⟨a', x, rfl, hxw, dJ (hfin x (by omega) hxw hx ks ts), hgo x (by omega) hxw hx ks ts hk (by omega) (by omega) ht⟩
    by_cases e9 : k = 138
    · subst e9
      obtain ⟨x, rfl, hx⟩ := hD (p5 rfl)
      obtain ⟨c1, f1⟩ := h0 x (by simp) hx
      rw [show ofP (.node 138 n a b [x]) ks ts = proj1 a (ofP x ks ts) by rw [ofP]; rfl]
      exact aCp _ _ _ _ 138 n a b x (hwk x (by simp)) _ f1 (as_a ks ts x _ 115 (fun h => (f1 h).2.1) c1)
    by_cases e10 : k = 140
    · subst e10
      obtain ⟨x, C, rfl, hx, hC⟩ := iL (p6 rfl)
      obtain ⟨c1, f1⟩ := h0 x (by simp) hx
      obtain ⟨c2, f2⟩ := hkd C hC
      rw [show ofP (.node 140 n a b [x, C]) ks ts = tapp1 (ofP x ks ts) (KindP ks C) C by rw [ofP]; rfl]
      exact aCq _ _ _ _ 140 n a b x C (hwk x (by simp)) (hwk C (by simp)) (hcs C hC).2 _ _ f1 f2 c1 c2
    by_cases e11 : k = 141
    · subst e11
      obtain ⟨C, x, T, rfl, hC, hx, hT⟩ := gJ (p7 rfl)
      obtain ⟨c1, f1⟩ := hst T hT
      obtain ⟨c2, f2⟩ := hkd C hC
      obtain ⟨c3, f3⟩ := h0 x (by simp) hx
      rw [show ofP (.node 141 n a b [C, x, T]) ks ts = pack1 (starT ks T) (KindP ks C) (ofP x ks ts) C by rw [ofP]; rfl]
      exact aCr _ _ _ _ 141 n a b C x T (hwk C (by simp)) (hwk x (by simp)) (hwk T (by simp)) (hcs C hC).2 _ _ _ f1 f2 (dJ f3) c1 c2 c3
    by_cases e12 : k = 142
    · subst e12
      obtain ⟨x, y, rfl, hx, hy⟩ := cZ (p3 (by decide))
      obtain ⟨c1, f1⟩ := h0 x (by simp) hx
      rw [show ofP (.node 142 n a b [x, y]) ks ts = unpack1 (ofP x ks ts) (shiftsP ts).2 (ofP y (kid0 (ofP x ks ts).1 :: ks) (kid1 (ofP x ks ts).1 :: (shiftsP ts).1)) by rw [ofP]; rfl]
      have hsf := fN ts
      have hex := aBO x ks ts hx (hwk x (by simp))
      have ca := as_a ks ts x (ofP x ks ts) 118 (fun h => (f1 h).2.1) c1
      have hfy := dJ (hfin y (hin y (by simp)) (hwk y (by simp)) hy (kid0 (ofP x ks ts).1 :: ks) (kid1 (ofP x ks ts).1 :: (shiftsP ts).1))
      have hgy := hgo y (hin y (by simp)) (hwk y (by simp)) hy (kid0 (ofP x ks ts).1 :: ks) (kid1 (ofP x ks ts).1 :: (shiftsP ts).1)
      generalize ofP x ks ts = R at *
      have hparts : (asP R 118).2 = 0 → checkP isKindP (kid0 R.1) = 0 ∧ (kid1 R.1).whole = true ∧ (kid1 R.1).size ≤ 100000000 := fun h => by
        obtain ⟨h2, h3⟩ := eU h
        obtain ⟨s1, s2, s3⟩ := f1 h2
        have h4 := hex h2
        obtain ⟨n', a', b', u, v, e, hu, hv, wu, wv, su, sv⟩ := iO s1 s2 s3 (.inr h3)
        rw [h3] at e
        rw [e] at h4 ⊢
        rw [exS] at h4
        have h5 := h4.1 rfl
        have su2 := bR (k := 118) (n := n') (a := a') (b := b') (kids := [u, v]) (t := u) (by simp)
        refine ⟨?_, wv, sv⟩
        show checkP isKindP u = 0
        rw [rI isKindP u wu (by omega), if_pos hu]
      have hck := fun h : (asP R 118).2 = 0 => yC ks ts (kid0 R.1) (bQ (hparts h).1).1 (by omega) (by omega) fun T hT => ⟨(ht T hT).1, (ht T hT).2⟩
      by_cases he : (shiftsP ts).2 = 0
      · obtain ⟨g1, g2⟩ := hsf he
        refine vD _ _ _ _ (kid0 R.1 :: ks).length (shiftsP ts).1.length (Tree.ivs (kid0 R.1 :: ks)) (Tree.ivs (shiftsP ts).1) (cIV (kid0 R.1 :: ks) (kid1 R.1 :: (shiftsP ts).1)) 142 n a b x y (hwk x (by simp)) (hwk y (by simp)) R _ (shiftsP ts).2 f1 hfy ca (fun h => ?_) (fun h _ => ?_) fun h _ => ?_
        · have := hck h
          rw [if_neg (by simpa using he)] at this
          exact this
        · exact aAX (kid0 R.1 :: ks) (shiftsP ts).1 (kid1 R.1) (hparts h).2.1 (by omega)
        · exact hgy (vF (hparts h).1 hk) (by rw [List.length_cons]; omega) (by rw [List.length_cons]; omega) (mB (hparts h).2.1 (hparts h).2.2 fun T hT => ⟨(g2 T hT).1, by have := (g2 T hT).2; omega⟩)
      · refine vD _ _ _ _ ks.length ts.length (Tree.ivs ks) (Tree.ivs ts) (cIV [] []) 142 n a b x y (hwk x (by simp)) (hwk y (by simp)) R _ (shiftsP ts).2 f1 hfy ca (fun h => ?_) (fun h h2 => absurd h2 he) fun h h2 => absurd h2 he
        have := hck h
        rw [if_pos he] at this
        exact this
    by_cases e13 : k = 144
    · subst e13
      obtain ⟨x, y, z, rfl, hx, hy, hz⟩ := gK (p8 rfl)
      obtain ⟨c1, f1⟩ := h0 x (by simp) hx
      obtain ⟨c2, f2⟩ := h0 y (by simp) hy
      obtain ⟨c3, f3⟩ := h0 z (by simp) hz
      rw [show ofP (.node 144 n a b [x, y, z]) ks ts = choice1 (ofP x ks ts) (ofP y ks ts) (ofP z ks ts) by rw [ofP]; rfl]
      exact aBa _ _ _ _ 144 n a b x y z (hwk x (by simp)) (hwk y (by simp)) (hwk z (by simp)) _ _ _ (dJ f1) (dJ f2) (dJ f3) c1 c2 c3
    by_cases e14 : k = 145
    · subst e14
      obtain ⟨x, y, rfl, hx, hy⟩ := cZ (p3 (by decide))
      obtain ⟨c1, f1⟩ := h0 x (by simp) hx
      obtain ⟨c2, f2⟩ := h0 y (by simp) hy
      rw [show ofP (.node 145 n a b [x, y]) ks ts = op1 n (ofP x ks ts) (ofP y ks ts) by rw [ofP]; rfl]
      exact op_a _ _ _ _ 145 n a b x y (hwk x (by simp)) (hwk y (by simp)) _ _ (dJ f1) (dJ f2) c1 c2
    by_cases e15 : k = 146
    · subst e15
      obtain ⟨T, x, rfl, hT, hx⟩ := dZ (p2 (by decide))
      obtain ⟨c1, f1⟩ := hst T hT
      obtain ⟨c3, f3⟩ := h0 x (by simp) hx
      rw [show ofP (.node 146 n a b [T, x]) ks ts = in1 a (starT ks T) (ofP x ks ts) by rw [ofP]; rfl]
      exact in_a _ _ _ _ 146 n a b T x (hwk T (by simp)) (hwk x (by simp)) _ _ f1 (dJ f3) c1 c3
    have harms : ∀ l : List Tree, (∀ t ∈ l, t ∈ kids ∧ armForm 149 t) → ∀ t ∈ l, ∃ a' x, t = .node 149 0 a' emptyB [x] ∧ x.whole = true ∧ ∀ T : Tree, T.whole = true → T.size ≤ 100000000 → fineW (ofP x ks (T :: ts)) ∧ ACalls Tryz.prog 17 [.imm (cIV ks (T :: ts)), .imm x.iv] [] (.imm (.tup [(ofP x ks (T :: ts)).1.iv, .lit (.int .i64 (ofP x ks (T :: ts)).2)])) [] := fun l h t hmt => by
      obtain ⟨hm, a', x, rfl, hx, _⟩ := h t hmt
      have sx := bR (k := 149) (n := 0) (a := a') (b := emptyB) (kids := [x]) (t := x) (by simp)
      have hz := hin _ hm
      have hxw := bL (hwk _ hm) (show x ∈ [x] by simp)
      exact ⟨a', x, rfl, hxw, fun T h1 h2 => ⟨dJ (hfin x (by omega) hxw hx ks _), hgo x (by omega) hxw hx ks _ hk (by omega) (by rw [List.length_cons]; omega) (mB h1 h2 ht)⟩⟩
    have hweak : ∀ l : List Tree, (∀ t ∈ l, ∃ a' x, t = .node 149 0 a' emptyB [x] ∧ x.whole = true ∧ ∀ T : Tree, T.whole = true → T.size ≤ 100000000 → fineW (ofP x ks (T :: ts)) ∧ ACalls Tryz.prog 17 [.imm (cIV ks (T :: ts)), .imm x.iv] [] (.imm (.tup [(ofP x ks (T :: ts)).1.iv, .lit (.int .i64 (ofP x ks (T :: ts)).2)])) []) → ∀ t ∈ l, ∃ a' x, t = .node 149 0 a' emptyB [x] ∧ ∀ T : Tree, T.whole = true → T.size ≤ 100000000 → fineW (ofP x ks (T :: ts)) := fun l h t hmt => by
      obtain ⟨a', x, e, _, h2⟩ := h t hmt
      exact ⟨a', x, e, fun T h3 h4 => (h2 T h3 h4).1⟩
    have hsum : ∀ R : Tree × Int, fineT R → (asP R 121).2 = 0 → ∃ n' a' b' cs, R.1 = .node 121 n' a' b' cs ∧ cs.length ≤ 100000000 ∧ ∀ c ∈ cs, ∃ k' n' a' b' y, c = .node k' n' a' b' [y] ∧ y.whole = true ∧ y.size ≤ 100000000 := fun R f h => by
      obtain ⟨h2, h3⟩ := eU h
      obtain ⟨s1, s2, s3⟩ := f h2
      obtain ⟨n', a', b', cs, e, hl, hc⟩ := fM s1 s2 s3 (.inr h3)
      rw [h3] at e
      refine ⟨n', a', b', cs, e, hl, fun c hm => ?_⟩
      obtain ⟨k', n', a', b', y, e, _, hy, hys⟩ := hc c hm
      exact ⟨k', n', a', b', y, e, hy, hys⟩
    have hlen : ∀ (S : Tree) (l : List Tree) (L : List Tree × Int), (arms1 S l L).2 = 0 → L.2 = 0 ∧ arms1 S l L = L := fun S l L h => by
      unfold arms1 at h ⊢
      split at h
      · cases h
      · rename_i h2; rw [if_neg h2]; exact ⟨h, rfl⟩
    by_cases e16 : k = 147
    · subst e16
      obtain ⟨x, arms, rfl, hne, hx, ha⟩ := iM (p9 rfl)
      obtain ⟨c1, f1⟩ := h0 x (by simp) hx
      have hA := harms arms fun t ht => ⟨by simp [ht], ha t ht⟩
      rw [List.length_cons] at hkl2
      rw [show ofP (.node 147 n a b (x :: arms)) ks ts = case1 (ofP x ks ts) (arms1 (ofP x ks ts).1 arms (ofArms arms (kidsOf (ofP x ks ts).1) (ofP x ks ts).1 ks ts)) by rw [ofP]; rfl]
      refine aBN _ _ _ _ 147 n a b x arms (hwk x (by simp)) (by omega) _ _ (dJ f1) (fun h => ?_) (as_a ks ts x _ 121 (fun h => (f1 h).2.1) c1) fun h => ?_
      · obtain ⟨h2, h3⟩ := hlen _ _ _ h
        rw [h3]
        obtain ⟨g1, g2⟩ := mN ks ts _ arms _ (hweak arms hA) h2
        refine ⟨fun e => hne ?_, by omega, g2⟩
        rw [e] at g1
        exact List.length_eq_zero_iff.1 g1.symm
      · obtain ⟨n', a', b', cs, e, hl, hc⟩ := hsum _ f1 h
        have hR := f1 (eU h).1
        rw [e] at hR ⊢
        exact aBb n' a' b' cs arms ks ts _ hl (by omega) (by omega) hR.2.1 hR.2.2 hc hA
    · have e17 : k = 148 := by omega
      subst e17
      obtain ⟨x, T, arms, rfl, hne, hx, hT, ha⟩ := gL (p10 rfl)
      obtain ⟨c1, f1⟩ := h0 x (by simp) hx
      obtain ⟨c4, f4⟩ := hst T hT
      have hA := harms arms fun t ht => ⟨by simp [ht], ha t ht⟩
      rw [List.length_cons, List.length_cons] at hkl2
      rw [show ofP (.node 148 n a b (x :: T :: arms)) ks ts = fold1 (ofP x ks ts) (starT ks T) (arms1 (ofP x ks ts).1 arms (ofArms arms (kidsOf (ofP x ks ts).1) (starT ks T).1 ks ts)) by rw [ofP]; rfl]
      refine aCs _ _ _ _ 148 n a b x T arms (hwk x (by simp)) (hwk T (by simp)) (by omega) _ _ _ (dJ f1) (dJ f4) (fun h => ?_) (as_a ks ts x _ 121 (fun h => (f1 h).2.1) c1) c4 fun h h4 => ?_
      · obtain ⟨h2, h3⟩ := hlen _ _ _ h
        rw [h3]
        obtain ⟨g1, g2⟩ := mN ks ts _ arms _ (hweak arms hA) h2
        exact ⟨by omega, g2⟩
      · obtain ⟨n', a', b', cs, e, hl, hc⟩ := hsum _ f1 h
        have hR := f4 h4
        rw [e]
        exact aBb n' a' b' cs arms ks ts _ hl (by omega) (by omega) hR.2.1 hR.2.2 hc hA
end Go.Proofs.YtocaohipfiapkaaGreat.Ab
