/- Words, walks and laws under the claim's statement: what it uses of them. No condition of its own. -/
import Derived.Test.YtlbemgokilhdnaaGreatMTL2
import Derived.Test.YtlbemgokilhdnaaGreatMTL1
namespace Go.Proofs.YtlbemgokilhdnaaGreat.Ab
set_option linter.unusedVariables false
set_option linter.unusedSimpArgs false
def kidH : List Tree → Tree
  | [] => .nil
  | c :: _ => c
def allTok (c : Tree) : Tree × Int := if (tokP c).2 ≠ 0 then (.nil, (tokP c).2) else (conT 117 [higherT, conT 114 [(tokP c).1, (tokP c).1]], 0)
def fldOf (a : ByteArray) (R : Tree × Int) : Tree × Int := if R.2 ≠ 0 then (.nil, R.2) else (.node 116 0 a emptyB [R.1], 0)
/-- All of them, or the first error. -/
def seqP : List (Tree × Int) → List Tree × Int
  | [] => ([], 0)
  | r :: rs => if r.2 ≠ 0 then ([], r.2) else if (seqP rs).2 ≠ 0 then ([], (seqP rs).2) else (r.1 :: (seqP rs).1, 0)
def tfinP (k n : Int) (R : List Tree × Int) : Tree × Int :=
  if R.2 ≠ 0 then (.nil, R.2) else if k = 164 then (aroundP 118 n.toNat (kidH R.1), 0) else if k = 165 then (aroundP 117 n.toNat (conT 114 R.1), 0) else (conT 115 R.1, 0)
mutual
/-- The constructor of a signature, and the error. -/
def transP : Tree → Tree × Int
  | .nil => (.nil, 0)
  | .node k n _ _ kids => if k = 160 then (kidH kids, 0) else if k = 161 then allTok (kidH kids) else tfinP k n (seqP (if k = 162 then fldRs kids else plnRs kids))
def fldRs : List Tree → List (Tree × Int)
  | [] => []
  | t :: ts => fldR t :: fldRs ts
def fldR : Tree → Tree × Int
  | .nil => (.nil, 0)
  | .node _ _ a _ ks => one1 a ks
def one1 (a : ByteArray) : List Tree → Tree × Int
  | [c] => fldOf a (transP c)
  | _ => (.nil, 0)
def plnRs : List Tree → List (Tree × Int)
  | [] => []
  | t :: ts => transP t :: plnRs ts
end
theorem kT : ∀ l : List Tree, fldRs l = l.map fldR
  | [] => by rw [fldRs]; rfl
  | t :: ts => by rw [fldRs, kT ts]; rfl
theorem gV : ∀ rs : List (Tree × Int), (∀ r ∈ rs, r.2 = 0) → seqP rs = (rs.map (·.1), 0)
  | [], _ => rfl
  | r :: rs, h => by
    have ih := gV rs fun r' hr => h r' (by simp [hr])
    rw [seqP, if_neg (by simpa using h r (by simp)), if_neg (by rw [ih]; simp), ih]
    rfl
theorem wQ : ∀ (rs : List (Tree × Int)) (j : Nat) (h : j < rs.length), (∀ i (hi : i < j), (rs[i]'(by omega)).2 = 0) → rs[j].2 ≠ 0 → seqP rs = ([], rs[j].2)
  | [], _, h, _, _ => by simp at h
  | r :: rs, 0, _, _, hb => by rw [List.getElem_cons_zero] at hb ⊢; rw [seqP, if_pos hb]
  | r :: rs, j + 1, h, hn, hb => by
    have h0 := hn 0 (by omega)
    rw [List.getElem_cons_zero] at h0
    rw [List.getElem_cons_succ] at hb ⊢
    have ih := wQ rs j (by simpa using h) (fun i hi => by have := hn (i + 1) (by omega); rwa [List.getElem_cons_succ] at this) hb
    rw [seqP, if_neg (by simpa using h0), if_pos (by rw [ih]; exact hb), ih]
theorem rC (rs : List (Tree × Int)) (h : (seqP rs).2 = 0) : ∀ r ∈ rs, r.2 = 0 := by
  induction rs with
  | nil => intro r hr; cases hr
  | cons x rs ih =>
    rw [seqP] at h
    split at h
    · rename_i h0; exact absurd h h0
    · rename_i h0
      split at h
      · rename_i h1; exact absurd h h1
      · rename_i h1
        intro r hr
        rcases List.mem_cons.1 hr with rfl | hr
        · simpa using h0
        · exact ih (by simpa using h1) r hr
end Go.Proofs.YtlbemgokilhdnaaGreat.Ab
namespace Go.Proofs.YtlbemgokilhdnaaGreat.Ab
set_option linter.unusedVariables false
set_option linter.unusedSimpArgs false
open Go.RowKit
attribute [local irreducible] AWP AOps AExit AThen ABlock ANoGoto FeetOk
theorem lX (t : Tree) : isSigP t = true → t.whole = true → (transP t).2 = 0 → (transP t).1.whole = true ∧ (transP t).1.size ≤ 9 * t.size := by
  induction t using Tree.sind with
  | h t ih =>
    intro hs hw he
    obtain ⟨k, n, a, b, kids, rfl⟩ := bT hw
    rw [transP] at he ⊢
    rcases dA hs with ⟨hk, c, rfl, hc⟩ | ⟨rfl, hf, _⟩
    · have hcw := (bG hc).1
      have hc1 := eB hcw
      have hsz : (Tree.node k n a b [c]).size = c.size + 1 := by simp only [Tree.size, Tree.sizes]; omega
      rw [hsz]
      by_cases h160 : k = 160
      · rw [if_pos h160]
        exact ⟨hcw, by show c.size ≤ _; omega⟩
      · rw [if_neg h160, if_pos (by omega)] at he ⊢
        unfold allTok at he ⊢
        have e : kidH [c] = c := rfl
        rw [e] at he ⊢
        by_cases h0 : (tokP c).2 = 0
        · rw [if_neg (by simpa using h0)]
          have hf := tJ c h0
          refine ⟨?_, ?_⟩
          · show Tree.wholes [higherT, conT 114 [_, _]] = true
            rw [Tree.wholes, Tree.wholes]
            have : (conT 114 [(tokP c).1, (tokP c).1]).whole = true := by
              show Tree.wholes [_, _] = true
              rw [Tree.wholes, Tree.wholes, hf.1]; rfl
            rw [this]; rfl
          · simp only [conT, higherT, Tree.size, Tree.sizes]
            omega
        · rw [if_pos h0] at he; exact absurd he h0
    · rw [if_neg (by decide), if_neg (by decide), if_pos rfl, kT] at he ⊢
      unfold tfinP at he ⊢
      have h0 : (seqP (kids.map fldR)).2 = 0 := by
        by_cases h : (seqP (kids.map fldR)).2 = 0
        · exact h
        · rw [if_pos h] at he; exact absurd he h
      have hall := rC _ h0
      rw [gV _ hall, if_neg (by simp), if_neg (by decide), if_neg (by decide)]
      have key : ∀ l : List Tree, (∀ t ∈ l, t ∈ kids) → Tree.wholes ((l.map fldR).map (·.1)) = true ∧ Tree.sizes ((l.map fldR).map (·.1)) ≤ 9 * Tree.sizes l := by
        intro l
        induction l with
        | nil => intro _; exact ⟨rfl, Nat.le_refl _⟩
        | cons t ts ih2 =>
          intro hm
          have hmt := hm t (by simp)
          obtain ⟨g1, g2⟩ := ih2 fun t' h' => hm t' (by simp [h'])
          have hz := bN (k := 162) (n := n) (a := a) (b := b) hmt
          have hwt := bC hw hmt
          have he1 := hall (fldR t) (List.mem_map_of_mem hmt)
          obtain ⟨n', a', b', c, rfl, hc⟩ := cO (hf t hmt)
          have hcs : (Tree.node 163 n' a' b' [c]).size = c.size + 1 := by simp only [Tree.size, Tree.sizes]; omega
          have e : fldR (.node 163 n' a' b' [c]) = fldOf a' (transP c) := by rw [fldR, one1]
          have hc0 : (transP c).2 = 0 := by
            rw [e] at he1
            unfold fldOf at he1
            by_cases h : (transP c).2 = 0
            · exact h
            · rw [if_pos h] at he1; exact absurd he1 h
          have h1 := ih c (by omega) hc (bC hwt (List.mem_singleton.2 rfl)) hc0
          have e2 : (fldR (.node 163 n' a' b' [c])).1 = .node 116 0 a' emptyB [(transP c).1] := by
            rw [e]; unfold fldOf; rw [if_neg (by simpa using hc0)]
          rw [List.map_cons, List.map_cons, e2]
          refine ⟨?_, ?_⟩
          · rw [Tree.wholes, g1]
            have : (Tree.node 116 0 a' emptyB [(transP c).1]).whole = true := by
              show Tree.wholes [_] = true
              rw [Tree.wholes, h1.1]; rfl
            rw [this]; rfl
          · simp only [Tree.sizes, Tree.size]
            omega
      have := key kids fun _ h => h
      refine ⟨this.1, ?_⟩
      simp only [conT, Tree.size]
      omega
theorem eQ (t : Tree) (hf : tForm t) (hw : t.whole = true) (he : (transP t).2 = 0) : (transP t).1.whole = true ∧ (transP t).1.size ≤ 9 * t.size + 40000 := by
  have hex : ∀ t, isExP t = true → t.whole = true → (transP t).2 = 0 → (transP t).1.whole = true ∧ (transP t).1.size ≤ 9 * t.size + 17000 := by
    intro t hf hw he
    obtain ⟨n, a, b, c, rfl, h0, h1, hc⟩ := pA hf
    have hcw : c.whole = true := bC hw (List.mem_singleton.2 rfl)
    rw [transP, if_neg (by decide), if_neg (by decide), if_neg (by decide), plnRs, plnRs] at he ⊢
    have hc0 : (transP c).2 = 0 := by
      by_cases h : (transP c).2 = 0
      · exact h
      · exfalso
        have e : seqP [transP c] = ([], (transP c).2) := by rw [seqP, if_pos h]
        rw [e] at he
        unfold tfinP at he
        rw [if_pos h] at he
        exact h he
    have h2 := lX c hc hcw hc0
    have e : seqP [transP c] = ([(transP c).1], 0) := gV _ (by intro r hr; rw [List.mem_singleton.1 hr]; exact hc0)
    rw [e]
    unfold tfinP
    rw [if_neg (by simp), if_pos rfl]
    have h3 := fT 118 (transP c).1 h2.1 n.toNat
    refine ⟨h3.1, ?_⟩
    show (aroundP 118 n.toNat (transP c).1).size ≤ _
    simp only [Tree.size, Tree.sizes]
    omega
  rcases hf with h | h | h
  · have := lX t h hw he
    exact ⟨this.1, by omega⟩
  · have := hex t h hw he
    exact ⟨this.1, by omega⟩
  · obtain ⟨n, a, b, c, e, rfl, h0, h1, hc, hee⟩ := qS h
    have hcw : c.whole = true := bC hw (by simp)
    have hew : e.whole = true := bC hw (by simp)
    rw [transP, if_neg (by decide), if_neg (by decide), if_neg (by decide), plnRs, plnRs, plnRs] at he ⊢
    have hs0 : (seqP [transP c, transP e]).2 = 0 := by
      by_cases h : (seqP [transP c, transP e]).2 = 0
      · exact h
      · exfalso
        unfold tfinP at he
        rw [if_pos h] at he
        exact h he
    have hall := rC _ hs0
    have hc0 := hall _ (List.mem_cons_self)
    have he0 := hall (transP e) (by simp)
    rw [gV _ hall]
    unfold tfinP
    rw [if_neg (by simp), if_neg (by decide), if_pos rfl]
    have h2 := lX c hc hcw hc0
    have h3 := hex e hee hew he0
    have hw4 : (conT 114 [(transP c).1, (transP e).1]).whole = true := by
      show Tree.wholes [_, _] = true
      rw [Tree.wholes, Tree.wholes, h2.1, h3.1]; rfl
    have h4 := fT 117 _ hw4 n.toNat
    refine ⟨h4.1, ?_⟩
    show (aroundP 117 n.toNat (conT 114 [(transP c).1, (transP e).1])).size ≤ _
    have h5 : (conT 114 [(transP c).1, (transP e).1]).size = 1 + (transP c).1.size + (transP e).1.size := by simp only [conT, Tree.size, Tree.sizes]; omega
    simp only [Tree.size, Tree.sizes]
    omega
set_option maxHeartbeats 4000000 in
set_option maxRecDepth 10000 in
theorem aAZ (n : Int) (a b : ByteArray) (c : Tree) (hc : c.whole = true) : ACalls Tryz.prog 71 [.imm (Tree.iv (.node 163 n a b [c]))] [] (.imm c.iv) [] := by
  refine aI Tryz.func71 rfl rfl (nb rfl) rfl ?_
  repeat' (first | refine aF ?_ | (refine aH ?_;  first | refine aC tabOk rfl rfl rfl (nb rfl) rfl ?_ | (refine aJ rfl rfl rfl (nb rfl) rfl rfl rfl (fun hq => ?_) (fun hq => ?_) <;> (first | (simp only [sD, sE, sB, sC, sN, sM, sT, sF] at hq; try (exfalso; omega)) | skip)) | refine aY tabOk rfl rfl rfl (nb rfl) rfl rfl rfl rfl (by first | rfl | omega) (by first | omega | simp) ?_) | (refine aL ?_;  first | refine aG ?_ | refine aM ?_ | refine aN ?_ | refine aE (b := true) rfl (fun _ => ?_) nTf) | (refine aK ?_;  first | refine aO ?_))
  all_goals first
    | exact absurd rfl (by assumption)
    | (refine aP (by first | exact .inl rfl | exact .inr rfl) (aX rfl (aB rfl)) rfl ?_; rfl)
set_option maxHeartbeats 4000000 in
set_option maxRecDepth 10000 in
theorem nQ (k n : Int) (a b : ByteArray) (kids : List Tree) (hk : k ≠ 163) : ACalls Tryz.prog 71 [.imm (Tree.iv (.node k n a b kids))] [] (.imm (Tree.iv (.node k n a b kids))) [] := by
  refine aI Tryz.func71 rfl rfl (nb rfl) rfl ?_
  repeat' (first | refine aF ?_ | (refine aH ?_;  first | refine aC tabOk rfl rfl rfl (nb rfl) rfl ?_ | (refine aJ rfl rfl rfl (nb rfl) rfl rfl rfl (fun hq => ?_) (fun hq => ?_) <;> (first | (simp only [sD, sE, sB, sC, sN, sM, sT, sF] at hq; try (exfalso; omega)) | skip))) | (refine aL ?_;  first | refine aG ?_ | refine aM ?_ | refine aN ?_ | refine aT ?_ | refine aE (b := false) rfl nFt (fun _ => ?_)) | (refine aK ?_;  first | refine aU ?_))
  all_goals first
    | exact absurd (by assumption) hk
    | (refine aP (by first | exact .inl rfl | exact .inr rfl) (aX rfl (aB rfl)) rfl ?_; rfl)
end Go.Proofs.YtlbemgokilhdnaaGreat.Ab
namespace Go.Proofs.YtlbemgokilhdnaaGreat.Ab
set_option linter.unusedVariables false
set_option linter.unusedSimpArgs false
open Go.RowKit
attribute [local irreducible] AWP AOps AExit AThen ABlock ANoGoto FeetOk
theorem aBW (a : ByteArray) (R : Tree × Int) (pr : List IV) (h0 : R.2 = 0) (hp : R.1.iv = .ptr pr 0) : (fldOf a R).1.iv = .ptr [.lit (.int .i64 116), .lit (.int .i64 0), .lit (.string a), .lit (.string ⟨#[]⟩), .sl false 1 [.ptr pr 0]] 0 := by
  unfold fldOf
  rw [if_neg (by simpa using h0), Tree.iv, Tree.ivs, Tree.ivs, hp]
  rfl
theorem nR (a : ByteArray) (R : Tree × Int) : (fldOf a R).2 = R.2 := by
  unfold fldOf
  by_cases h : R.2 = 0
  · rw [if_neg (by simpa using h), h]
  · rw [if_pos h]
set_option maxHeartbeats 16000000 in
set_option maxRecDepth 10000 in
theorem kD (k n : Int) (a b : ByteArray) (kids : List Tree) (rs : List (Tree × Int)) (hk3 : k = 162 ∨ k = 164 ∨ k = 165) (hn : k ≠ 162 → 0 ≤ n ∧ n ≤ 8192) (h1 : k = 164 → kids.length = 1) (hl : kids.length ≤ 100000000) (hlen : rs.length = kids.length)
    (hk : ∀ j (h : j < kids.length) (h' : j < rs.length), ∃ kk nn aa bb ks c, kids[j] = .node kk nn aa bb ks ∧ ACalls Tryz.prog 71 [.imm kids[j].iv] [] (.imm c.iv) [] ∧
      ACalls Tryz.prog 36 [.imm c.iv] [] (.imm (.tup [(transP c).1.iv, .lit (.int .i64 (transP c).2)])) [] ∧ ((transP c).2 = 0 → (transP c).1.whole = true) ∧ ((kk = 163 ∧ rs[j] = fldOf aa (transP c)) ∨ (kk ≠ 163 ∧ rs[j] = transP c))) :
    ACalls Tryz.prog 36 [.imm (Tree.iv (.node k n a b kids))] [] (.imm (.tup [(tfinP k n (seqP rs)).1.iv, .lit (.int .i64 (tfinP k n (seqP rs)).2)])) [] := by
  obtain ⟨Q, hQ⟩ : ∃ Q, tfinP k n (seqP rs) = Q := ⟨_, rfl⟩
  rw [hQ]
  refine aI Tryz.func36 rfl rfl (nb rfl) rfl ?_
  repeat' (first | refine aF ?_ | (refine aH ?_;  first | refine aC tabOk rfl rfl rfl (nb rfl) rfl ?_ | (refine aJ rfl rfl rfl (nb rfl) rfl rfl rfl (fun hq => ?_) (fun hq => ?_) <;> (first | (simp only [sD, sE, sB, sC, sN, sM, sT, sF] at hq; try (exfalso; omega)) | skip)) | refine aV tabOk rfl rfl (nb rfl) rfl ?_) | (refine aL ?_;  first | refine aG ?_ | refine aM ?_ | refine aS ?_ | refine aT ?_ | refine aE (b := false) rfl nFt (fun _ => ?_)) | (refine aK ?_;  first | refine aU ?_) | (refine aR ?_;  first | refine bP ?_))
  all_goals first
    | (exfalso; omega)
    | skip
  refine cT (mD (t := 6) 500 25 1 rfl (by simp) rfl rfl) ?_
  refine cD (ι := {j : Nat // j ≤ kids.length ∧ ∀ i (hi : i < j) (hi2 : i < rs.length), (rs[i]).2 = 0 ∧ (rs[i]).1.whole = true}) (fun j => S.f ⟨[(50, .imm (.lit (.int .i64 (j.1 : Int)))), (49, .imm (.lit (.int .i64 (kids.length : Int)))), (48, .imm (.sl false kids.length (Tree.ivs kids))), (6, .ref 500 j.1), (0, .imm (Tree.iv (.node k n a b kids)))], [(500, .arr 25 1 j.1 (Tree.ivs ((rs.take j.1).map (·.1))))]⟩) (fun j => kids.length - j.1) ⟨0, Nat.zero_le _, fun i hi => absurd hi (by omega)⟩ (bU (by repeat' first | exact trivial | refine ⟨rfl, ?_⟩) (by repeat' first | exact trivial | refine ⟨rfl, ?_⟩)) ?_
  rintro ⟨j, hj, hok⟩
  dsimp only
  have hil := cX ((rs.take j).map (·.1))
  rw [List.length_map, List.length_take, hlen, Nat.min_eq_left hj] at hil
  by_cases hlt : j < kids.length
  · have hlt2 : j < rs.length := by omega
    have hget := cG kids j hlt
    obtain ⟨kk, nn, aa, bb, ks, c, ek, ci, ct, cw, hr⟩ := hk j hlt hlt2
    have hnx : Tree.ivs ((rs.take (j + 1)).map (·.1)) = Tree.ivs ((rs.take j).map (·.1)) ++ [rs[j].1.iv] := by
      rw [List.take_succ_eq_append_getElem hlt2, List.map_append, cQ, cQ, List.map_append]; rfl
    rw [ek] at hget ci
    by_cases h0 : (transP c).2 = 0
    · have hw0 := cw h0
      obtain ⟨pr, hpr⟩ := bV (bL hw0)
      rw [h0, hpr] at ct
      have hr2 : rs[j].2 = 0 ∧ rs[j].1.whole = true := by
        rcases hr with ⟨_, e⟩ | ⟨_, e⟩
        · rw [e, nR]
          refine ⟨h0, ?_⟩
          unfold fldOf
          rw [if_neg (by simpa using h0)]
          show Tree.wholes [_] = true
          rw [Tree.wholes, hw0]; rfl
        · rw [e]; exact ⟨h0, hw0⟩
      have hok2 : ∀ i (hi : i < j + 1) (hi2 : i < rs.length), (rs[i]).2 = 0 ∧ (rs[i]).1.whole = true := fun i hi hi2 => by
        by_cases hij : i = j
        · subst hij; exact hr2
        · exact hok i (by omega) hi2
      rcases hr with ⟨hkk, e⟩ | ⟨hkk, e⟩
      · rw [e, aBW aa _ pr h0 hpr] at hnx
        clear hk hQ hr2 ek
        generalize Tree.ivs ((rs.take j).map (·.1)) = ZI at *
        repeat' (first | refine aF ?_ | (refine aH ?_;  first | refine aC tabOk rfl rfl rfl (nb rfl) rfl ?_ | (refine aJ rfl rfl rfl (nb rfl) rfl rfl rfl (fun hq => ?_) (fun hq => ?_) <;> (first | (simp only [sD, sE, sB, sC, sN, sM, sT, sF] at hq; try (exfalso; omega)) | skip)) | refine bE tabOk rfl rfl rfl (nb rfl) rfl rfl rfl hget ?_ | refine aD rfl rfl (nb rfl) rfl rfl rfl rfl (ci) ?_ | refine aD rfl rfl (nb rfl) rfl rfl rfl rfl (ct) ?_ | refine cM tabOk rfl rfl rfl (nb rfl) rfl rfl rfl rfl rfl rfl rfl (by first | omega | decide) rfl (by first | omega | (dsimp only; omega)) (by first | omega | (dsimp only; omega)) ?_ | refine bQ rfl rfl rfl (nb rfl) rfl rfl (by omega) ?_ | refine bY tabOk rfl rfl rfl (nb rfl) rfl rfl rfl rfl rfl rfl rfl rfl rfl ?_ | refine aV tabOk rfl rfl (nb rfl) rfl ?_ | refine bF tabOk rfl rfl rfl (nb rfl) rfl rfl rfl rfl (by first | assumption | omega) ?_) | (refine aL ?_;  first | refine aG ?_ | refine aM ?_ | refine bI ?_ | refine aS ?_ | refine aT ?_ | refine aE (b := true) rfl (fun _ => ?_) nTf | refine aE (b := false) rfl nFt (fun _ => ?_)) | (refine aK ?_;  first | refine aU ?_) | (refine aR ?_;  first | refine bP ?_))
        all_goals first
          | exact absurd rfl (by assumption)
          | exact absurd hkk (by assumption)
          | (exfalso; omega)
          | (refine ⟨⟨j + 1, hlt, hok2⟩, (by show kids.length - (j + 1) < kids.length - j; omega), ?_⟩; dsimp only; rw [hnx]; exact (bU (by repeat' first | exact trivial | refine ⟨rfl, ?_⟩) (by repeat' first | exact trivial | refine ⟨rfl, ?_⟩)))
      · rw [e, hpr] at hnx
        clear hk hQ hr2 ek
        generalize Tree.ivs ((rs.take j).map (·.1)) = ZI at *
        repeat' (first | refine aF ?_ | (refine aH ?_;  first | refine aC tabOk rfl rfl rfl (nb rfl) rfl ?_ | (refine aJ rfl rfl rfl (nb rfl) rfl rfl rfl (fun hq => ?_) (fun hq => ?_) <;> (first | (simp only [sD, sE, sB, sC, sN, sM, sT, sF] at hq; try (exfalso; omega)) | skip)) | refine bE tabOk rfl rfl rfl (nb rfl) rfl rfl rfl hget ?_ | refine aD rfl rfl (nb rfl) rfl rfl rfl rfl (ci) ?_ | refine aD rfl rfl (nb rfl) rfl rfl rfl rfl (ct) ?_ | refine cM tabOk rfl rfl rfl (nb rfl) rfl rfl rfl rfl rfl rfl rfl (by first | omega | decide) rfl (by first | omega | (dsimp only; omega)) (by first | omega | (dsimp only; omega)) ?_ | refine bQ rfl rfl rfl (nb rfl) rfl rfl (by omega) ?_ | refine bY tabOk rfl rfl rfl (nb rfl) rfl rfl rfl rfl rfl rfl rfl rfl rfl ?_ | refine bF tabOk rfl rfl rfl (nb rfl) rfl rfl rfl rfl (by first | assumption | omega) ?_) | (refine aL ?_;  first | refine aG ?_ | refine aM ?_ | refine bI ?_ | refine aS ?_ | refine aT ?_ | refine aE (b := true) rfl (fun _ => ?_) nTf | refine aE (b := false) rfl nFt (fun _ => ?_)) | (refine aK ?_;  first | refine aU ?_) | (refine aR ?_;  first | refine bP ?_))
        all_goals first
          | exact absurd rfl (by assumption)
          | exact absurd (by assumption) hkk
          | (exfalso; omega)
          | (refine ⟨⟨j + 1, hlt, hok2⟩, (by show kids.length - (j + 1) < kids.length - j; omega), ?_⟩; dsimp only; rw [hnx]; exact (bU (by repeat' first | exact trivial | refine ⟨rfl, ?_⟩) (by repeat' first | exact trivial | refine ⟨rfl, ?_⟩)))
    · have hr2 : rs[j].2 = (transP c).2 := by
        rcases hr with ⟨_, e⟩ | ⟨_, e⟩
        · rw [e, nR]
        · rw [e]
      have hbad := wQ rs j hlt2 (fun i hi => (hok i hi (by omega)).1) (by rw [hr2]; exact h0)
      have hQ2 : Q = (.nil, (transP c).2) := by
        rw [← hQ, hbad, hr2]; unfold tfinP; rw [if_pos h0]
      subst hQ2
      clear hk hQ hr hr2 hbad ek hnx
      generalize Tree.ivs ((rs.take j).map (·.1)) = ZI at *
      generalize (transP c).2 = E at *
      repeat' (first | refine aF ?_ | (refine aH ?_;  first | refine aC tabOk rfl rfl rfl (nb rfl) rfl ?_ | (refine aJ rfl rfl rfl (nb rfl) rfl rfl rfl (fun hq => ?_) (fun hq => ?_) <;> (first | (simp only [sD, sE, sB, sC, sN, sM, sT, sF] at hq; try (exfalso; omega)) | skip)) | refine bE tabOk rfl rfl rfl (nb rfl) rfl rfl rfl hget ?_ | refine aD rfl rfl (nb rfl) rfl rfl rfl rfl (ci) ?_ | refine aD rfl rfl (nb rfl) rfl rfl rfl rfl (ct) ?_ | refine bF tabOk rfl rfl rfl (nb rfl) rfl rfl rfl rfl (by first | assumption | omega) ?_) | (refine aL ?_;  first | refine aG ?_ | refine aM ?_ | refine aS ?_ | refine aN ?_ | refine aT ?_ | refine aE (b := true) rfl (fun _ => ?_) nTf) | (refine aK ?_;  first | refine aU ?_ | refine aO ?_) | (refine aR ?_;  first | refine aZ ?_))
      all_goals first
        | exact absurd (by assumption) h0
        | exact absurd rfl (by assumption)
        | (exfalso; omega)
        | (refine aP (by first | exact .inl rfl | exact .inr rfl) (aW rfl (aB rfl) (aB rfl)) rfl ?_; rfl)
  · have ej : j = kids.length := by omega
    subst ej
    have et : rs.take kids.length = rs := by rw [← hlen, List.take_length]
    rw [et] at hil ⊢
    have hall : ∀ r ∈ rs, r.2 = 0 := fun r hr => by
      obtain ⟨i, hi, rfl⟩ := List.getElem_of_mem hr
      exact (hok i (by omega) hi).1
    have hallw : ∀ r ∈ rs, r.1.whole = true := fun r hr => by
      obtain ⟨i, hi, rfl⟩ := List.getElem_of_mem hr
      exact (hok i (by omega) hi).2
    have hseq := gV rs hall
    rw [hseq] at hQ
    unfold tfinP at hQ
    rw [if_neg (by simp)] at hQ
    obtain ⟨L, hL⟩ : ∃ L, rs.map (·.1) = L := ⟨_, rfl⟩
    rw [hL] at hQ ⊢
    have hLl : L.length = kids.length := by rw [← hL, List.length_map, hlen]
    have hLw : ∀ t ∈ L, t.whole = true := fun t ht => by
      rw [← hL] at ht
      obtain ⟨r, hr, rfl⟩ := List.mem_map.1 ht
      exact hallw r hr
    rw [hL] at hil
    clear hk hok hall hallw hseq et
    refine cT ((Imp.of_le (σ' := S.f ⟨[(50, .imm (.lit (.int .i64 (kids.length : Int)))), (49, .imm (.lit (.int .i64 (kids.length : Int)))), (6, .ref 500 kids.length), (0, .imm (Tree.iv (.node k n a b kids)))], [(500, .arr 25 1 kids.length (Tree.ivs L))]⟩) (bU (by repeat' first | exact trivial | refine ⟨rfl, ?_⟩) (by repeat' first | exact trivial | refine ⟨rfl, ?_⟩))).trans (cP (g := 500) rfl (by repeat' first | exact trivial | exact fun _ => rfl | refine ⟨?_, ?_⟩) (by repeat' first | exact trivial | exact fun _ => rfl | refine ⟨?_, ?_⟩))) ?_
    by_cases k164 : k = 164
    · have hl1 := h1 k164
      obtain ⟨x, rfl⟩ := dG (by rw [hLl, hl1] : L.length = 1)
      have hn1 := hn (by omega)
      have hxw := hLw x (by simp)
      rw [if_pos k164] at hQ
      have hQ2 : Q = (aroundP 118 n.toNat x, 0) := by rw [← hQ]; rfl
      subst hQ2
      have ca := wP 118 n x hxw hn1.1 (by omega)
      have h0 : (Tree.ivs [x])[0 * 1]? = some x.iv := rfl
      rw [hl1] at *
      obtain ⟨px, hpx⟩ := bV (bL hxw)
      rw [hpx] at ca h0
      generalize Tree.ivs [x] = ZI at *
      repeat' (first | refine aF ?_ | (refine aH ?_;  first | refine aC tabOk rfl rfl rfl (nb rfl) rfl ?_ | (refine aJ rfl rfl rfl (nb rfl) rfl rfl rfl (fun hq => ?_) (fun hq => ?_) <;> (first | (simp only [sD, sE, sB, sC, sN, sM, sT, sF] at hq; try (exfalso; omega)) | skip)) | refine bE tabOk rfl rfl rfl (nb rfl) rfl rfl rfl h0 ?_ | refine aD rfl rfl (nb rfl) rfl rfl rfl rfl (ca) ?_ | refine aY tabOk rfl rfl rfl (nb rfl) rfl rfl rfl rfl (by first | rfl | omega) (by first | omega | simp) ?_) | (refine aL ?_;  first | refine aG ?_ | refine aM ?_ | refine aS ?_ | refine aN ?_ | refine bR ?_ | refine aE (b := true) rfl (fun _ => ?_) nTf | refine aE (b := false) rfl nFt (fun _ => ?_) | refine aQ mixed (by kernel_rfl) ?_) | (refine aK ?_;  first | refine aU ?_ | refine bJ ?_ | refine aO ?_) | (refine aR ?_;  first | refine bH ?_ | refine aZ ?_) | refine bD (bB (by kernel_rfl)) ?_)
      all_goals first
        | exact absurd rfl (by assumption)
        | exact absurd k164 (by assumption)
        | (exfalso; omega)
        | (refine aP (by first | exact .inl rfl | exact .inr rfl) (aW rfl (aB rfl) (aB rfl)) rfl ?_; rfl)
    · rw [if_neg k164] at hQ
      by_cases k165 : k = 165
      · rw [if_pos k165] at hQ
        have hn1 := hn (by omega)
        have hw4 : (conT 114 L).whole = true := sG hLw
        have ca := wP 117 n (conT 114 L) hw4 hn1.1 (by omega)
        have c1 := rB 114 false kids.length (Tree.ivs L)
        have e4 : (conT 114 L).iv = conIV 114 kids.length (Tree.ivs L) := by rw [fQ, hLl]
        rw [e4] at ca
        subst hQ
        dsimp only
        generalize Tree.ivs L = ZI at *
        unfold conIV at *
        repeat' (first | refine aF ?_ | (refine aH ?_;  first | refine aC tabOk rfl rfl rfl (nb rfl) rfl ?_ | (refine aJ rfl rfl rfl (nb rfl) rfl rfl rfl (fun hq => ?_) (fun hq => ?_) <;> (first | (simp only [sD, sE, sB, sC, sN, sM, sT, sF] at hq; try (exfalso; omega)) | skip)) | refine aD rfl rfl (nb rfl) rfl rfl rfl rfl (c1) ?_ | refine aD rfl rfl (nb rfl) rfl rfl rfl rfl (ca) ?_) | (refine aL ?_;  first | refine aG ?_ | refine aM ?_ | refine aS ?_ | refine aN ?_ | refine bR ?_ | refine aE (b := true) rfl (fun _ => ?_) nTf | refine aE (b := false) rfl nFt (fun _ => ?_) | refine aQ mixed (by kernel_rfl) ?_) | (refine aK ?_;  first | refine aU ?_ | refine bJ ?_ | refine aO ?_) | (refine aR ?_;  first | refine bH ?_ | refine aZ ?_) | refine bD (bB (by kernel_rfl)) ?_)
        all_goals first
          | exact absurd rfl (by assumption)
          | exact absurd (by assumption) k164
          | exact absurd k165 (by assumption)
          | (exfalso; omega)
          | (refine aP (by first | exact .inl rfl | exact .inr rfl) (aW rfl (aB rfl) (aB rfl)) rfl ?_; rfl)
      · rw [if_neg k165] at hQ
        have c1 := rB 115 false kids.length (Tree.ivs L)
        have e4 : (conT 115 L).iv = conIV 115 kids.length (Tree.ivs L) := by rw [fQ, hLl]
        subst hQ
        dsimp only
        rw [e4]
        generalize Tree.ivs L = ZI at *
        unfold conIV at *
        repeat' (first | refine aF ?_ | (refine aH ?_;  first | refine aC tabOk rfl rfl rfl (nb rfl) rfl ?_ | (refine aJ rfl rfl rfl (nb rfl) rfl rfl rfl (fun hq => ?_) (fun hq => ?_) <;> (first | (simp only [sD, sE, sB, sC, sN, sM, sT, sF] at hq; try (exfalso; omega)) | skip)) | refine aD rfl rfl (nb rfl) rfl rfl rfl rfl (c1) ?_) | (refine aL ?_;  first | refine aG ?_ | refine aM ?_ | refine aS ?_ | refine aN ?_ | refine bR ?_ | refine aT ?_ | refine aE (b := false) rfl nFt (fun _ => ?_)) | (refine aK ?_;  first | refine aU ?_ | refine bJ ?_) | (refine aR ?_;  first | refine bP ?_ | refine bH ?_))
        all_goals first
          | exact absurd rfl (by assumption)
          | exact absurd (by assumption) k164
          | exact absurd (by assumption) k165
          | (exfalso; omega)
          | (refine aP (by first | exact .inl rfl | exact .inr rfl) (aW rfl (aB rfl) (aB rfl)) rfl ?_; rfl)
end Go.Proofs.YtlbemgokilhdnaaGreat.Ab
namespace Go.Proofs.YtlbemgokilhdnaaGreat.Ab
set_option linter.unusedVariables false
set_option linter.unusedSimpArgs false
open Go.RowKit
attribute [local irreducible] AWP AOps AExit AThen ABlock ANoGoto FeetOk
theorem aBX (k n : Int) (R : List Tree × Int) (h0 : (tfinP k n R).2 ≠ 0) : (tfinP k n R).1 = .nil := by
  unfold tfinP at h0 ⊢
  split
  · rfl
  · rename_i h1
    rw [if_neg h1] at h0
    exfalso
    revert h0
    split
    · simp
    · split <;> simp
theorem yU (t : Tree) (h0 : (transP t).2 ≠ 0) : (transP t).1 = .nil := by
  cases t with
  | nil => rw [transP] at h0; exact absurd rfl h0
  | node k n a b kids =>
    rw [transP] at h0 ⊢
    split
    · rename_i h1; rw [if_pos h1] at h0; exact absurd rfl h0
    · rename_i h1
      rw [if_neg h1] at h0
      split
      · rename_i h2
        rw [if_pos h2] at h0
        unfold allTok at h0 ⊢
        split
        · rfl
        · rename_i h3; rw [if_neg h3] at h0; exact absurd rfl h0
      · rename_i h2
        rw [if_neg h2] at h0
        exact aBX _ _ _ h0
theorem rD : higherT.iv = conIV 101 2 [conIV 100 0 [], conIV 100 0 []] := by
  unfold higherT
  rw [fQ, Tree.ivs, Tree.ivs, Tree.ivs, fQ, Tree.ivs]
  rfl
set_option maxHeartbeats 8000000 in
set_option maxRecDepth 10000 in
theorem yV (n : Int) (a b : ByteArray) (c : Tree) (hcs : c.size ≤ 100000000) : ACalls Tryz.prog 36 [.imm (Tree.iv (.node 161 n a b [c]))] [] (.imm (.tup [(allTok c).1.iv, .lit (.int .i64 (allTok c).2)])) [] := by
  have c1 := aCR c hcs
  have c0 := aBV
  have hf := tJ c
  rw [rD] at c0
  unfold allTok
  generalize tokP c = S at *
  obtain ⟨S1, S2⟩ := S
  dsimp only at *
  by_cases h0 : S2 = 0
  · subst h0
    rw [if_neg (by simp)]
    obtain ⟨px, hpx⟩ := bV (bL (hf rfl).1)
    have c2 := rB 114 true 2 [.ptr px 0, .ptr px 0]
    have c3 := rB 117 true 2 [conIV 101 2 [conIV 100 0 [], conIV 100 0 []], conIV 114 2 [.ptr px 0, .ptr px 0]]
    have hnx : (conT 117 [higherT, conT 114 [S1, S1]]).iv = conIV 117 2 [conIV 101 2 [conIV 100 0 [], conIV 100 0 []], conIV 114 2 [.ptr px 0, .ptr px 0]] := by
      rw [fQ, Tree.ivs, Tree.ivs, Tree.ivs, rD, fQ, Tree.ivs, Tree.ivs, Tree.ivs, hpx]; rfl
    rw [hnx]
    rw [hpx] at c1
    clear hf hnx
    unfold conIV at *
    refine aI Tryz.func36 rfl rfl (nb rfl) rfl ?_
    repeat' (first | refine aF ?_ | (refine aH ?_;  first | refine aC tabOk rfl rfl rfl (nb rfl) rfl ?_ | (refine aJ rfl rfl rfl (nb rfl) rfl rfl rfl (fun hq => ?_) (fun hq => ?_) <;> (first | (simp only [sD, sE, sB, sC, sN, sM, sT, sF] at hq; try (exfalso; omega)) | skip)) | refine aD rfl rfl (nb rfl) rfl rfl rfl rfl (c0) ?_ | refine aD rfl rfl (nb rfl) rfl rfl rfl rfl (c1) ?_ | refine aD rfl rfl (nb rfl) rfl rfl rfl rfl (c2) ?_ | refine aD rfl rfl (nb rfl) rfl rfl rfl rfl (c3) ?_ | refine bY tabOk rfl rfl rfl (nb rfl) rfl rfl rfl rfl rfl rfl rfl rfl rfl ?_ | refine aY tabOk rfl rfl rfl (nb rfl) rfl rfl rfl rfl (by first | rfl | omega) (by first | omega | simp) ?_) | (refine aL ?_;  first | refine aG ?_ | refine aM ?_ | refine aS ?_ | refine aN ?_ | refine aT ?_ | refine aE (b := true) rfl (fun _ => ?_) nTf | refine aE (b := false) rfl nFt (fun _ => ?_)) | (refine aK ?_;  first | refine aU ?_ | refine aO ?_) | (refine aR ?_;  first | refine aZ ?_))
    all_goals first
      | exact absurd rfl (by assumption)
      | (refine aP (by first | exact .inl rfl | exact .inr rfl) (aW rfl (aB rfl) (aB rfl)) rfl ?_; rfl)
  · rw [if_pos h0]
    refine aI Tryz.func36 rfl rfl (nb rfl) rfl ?_
    repeat' (first | refine aF ?_ | (refine aH ?_;  first | refine aC tabOk rfl rfl rfl (nb rfl) rfl ?_ | (refine aJ rfl rfl rfl (nb rfl) rfl rfl rfl (fun hq => ?_) (fun hq => ?_) <;> (first | (simp only [sD, sE, sB, sC, sN, sM, sT, sF] at hq; try (exfalso; omega)) | skip)) | refine aD rfl rfl (nb rfl) rfl rfl rfl rfl (c1) ?_ | refine aY tabOk rfl rfl rfl (nb rfl) rfl rfl rfl rfl (by first | rfl | omega) (by first | omega | simp) ?_) | (refine aL ?_;  first | refine aG ?_ | refine aM ?_ | refine aS ?_ | refine aN ?_ | refine aE (b := true) rfl (fun _ => ?_) nTf | refine aE (b := false) rfl nFt (fun _ => ?_)) | (refine aK ?_;  first | refine aO ?_) | (refine aR ?_;  first | refine aZ ?_))
    all_goals first
      | exact absurd (by assumption) h0
      | exact absurd rfl (by assumption)
      | (refine aP (by first | exact .inl rfl | exact .inr rfl) (aW rfl (aB rfl) (aB rfl)) rfl ?_; rfl)
set_option maxHeartbeats 8000000 in
set_option maxRecDepth 10000 in
theorem yW (n : Int) (a b : ByteArray) (c : Tree) : ACalls Tryz.prog 36 [.imm (Tree.iv (.node 160 n a b [c]))] [] (.imm (.tup [c.iv, .lit (.int .i64 0)])) [] := by
  refine aI Tryz.func36 rfl rfl (nb rfl) rfl ?_
  repeat' (first | refine aF ?_ | (refine aH ?_;  first | refine aC tabOk rfl rfl rfl (nb rfl) rfl ?_ | (refine aJ rfl rfl rfl (nb rfl) rfl rfl rfl (fun hq => ?_) (fun hq => ?_) <;> (first | (simp only [sD, sE, sB, sC, sN, sM, sT, sF] at hq; try (exfalso; omega)) | skip)) | refine aY tabOk rfl rfl rfl (nb rfl) rfl rfl rfl rfl (by first | rfl | omega) (by first | omega | simp) ?_) | (refine aL ?_;  first | refine aG ?_ | refine aM ?_ | refine aS ?_ | refine aN ?_ | refine aE (b := true) rfl (fun _ => ?_) nTf) | (refine aK ?_;  first | refine aO ?_) | (refine aR ?_;  first | refine aZ ?_))
  all_goals first
    | exact absurd rfl (by assumption)
    | (refine aP (by first | exact .inl rfl | exact .inr rfl) (aW rfl (aB rfl) (aB rfl)) rfl ?_; rfl)
theorem aCS (t : Tree) : tForm t → t.whole = true → t.size ≤ 100000000 → ACalls Tryz.prog 36 [.imm t.iv] [] (.imm (.tup [(transP t).1.iv, .lit (.int .i64 (transP t).2)])) [] := by
  induction t using Tree.sind with
  | h t ih =>
    intro hf hw hs
    have hfin := hf
    obtain ⟨k, n, a, b, kids, rfl⟩ := bT hw
    rcases hf with hf | hf | hf
    · rcases dA hf with ⟨hk, c, rfl, hc⟩ | ⟨rfl, hfl, _⟩
      · have hcw := (bG hc).1
        have hsz : (Tree.node k n a b [c]).size = c.size + 1 := by simp only [Tree.size, Tree.sizes]; omega
        rw [transP]
        rcases hk with rfl | rfl
        · rw [if_pos rfl]
          exact yW n a b c
        · rw [if_neg (by decide), if_pos rfl]
          exact yV n a b c (by omega)
      · rw [transP, if_neg (by decide), if_neg (by decide), if_pos rfl, kT]
        have hkl := cE kids hw
        have hsz : (Tree.node 162 n a b kids).size = 1 + Tree.sizes kids := by simp only [Tree.size]; try omega
        refine kD 162 n a b kids (kids.map fldR) (.inl rfl) (fun e => absurd rfl e) (fun e => absurd e (by decide)) (by omega) (by rw [List.length_map]) ?_
        intro j hj hj'
        have hm := List.getElem_mem hj
        obtain ⟨n', a', b', c, e, hc⟩ := cO (hfl _ hm)
        have hz := bN (k := 162) (n := n) (a := a) (b := b) hm
        have hwm := bC hw hm
        rw [List.getElem_map, e]
        rw [e] at hz hwm
        have hcw : c.whole = true := bC hwm (List.mem_singleton.2 rfl)
        have hcs : (Tree.node 163 n' a' b' [c]).size = c.size + 1 := by simp only [Tree.size, Tree.sizes]; omega
        exact ⟨163, n', a', b', [c], c, rfl, aAZ n' a' b' c hcw, ih c (by omega) (.inl hc) hcw (by omega), fun h0 => (eQ c (.inl hc) hcw h0).1, .inl ⟨rfl, by rw [fldR, one1]⟩⟩
    · obtain ⟨n', a', b', c, e, g0, g1, hc⟩ := pA hf
      cases e
      have hcw : c.whole = true := bC hw (List.mem_singleton.2 rfl)
      have hsz : (Tree.node 164 n a b [c]).size = c.size + 1 := by simp only [Tree.size, Tree.sizes]; omega
      rw [transP, if_neg (by decide), if_neg (by decide), if_neg (by decide), plnRs, plnRs]
      refine kD 164 n a b [c] [transP c] (.inr (.inl rfl)) (fun _ => ⟨g0, g1⟩) (fun _ => rfl) (by simp) rfl ?_
      intro j hj hj'
      obtain rfl : j = 0 := by simp only [List.length_cons, List.length_nil] at hj; omega
      obtain ⟨kk, nn, aa, bb, ks, rfl⟩ := bT hcw
      have hk : kk ≠ 163 := fun e => by subst e; rcases dA hc with ⟨h, _⟩ | ⟨h, _⟩ <;> omega
      exact ⟨kk, nn, aa, bb, ks, _, rfl, nQ kk nn aa bb ks hk, ih _ (by omega) (.inl hc) hcw (by omega), fun h0 => (eQ _ (.inl hc) hcw h0).1, .inr ⟨hk, rfl⟩⟩
    · obtain ⟨n', a', b', c, x, e, g0, g1, hc, hx⟩ := qS hf
      cases e
      have hcw : c.whole = true := bC hw (by simp)
      have hxw : x.whole = true := bC hw (by simp)
      have hsz : (Tree.node 165 n a b [c, x]).size = c.size + x.size + 1 := by simp only [Tree.size, Tree.sizes]; omega
      have hc1 := eB hcw
      have hx1 := eB hxw
      rw [transP, if_neg (by decide), if_neg (by decide), if_neg (by decide), plnRs, plnRs, plnRs]
      refine kD 165 n a b [c, x] [transP c, transP x] (.inr (.inr rfl)) (fun _ => ⟨g0, g1⟩) (fun e => absurd e (by decide)) (by simp) rfl ?_
      intro j hj hj'
      simp only [List.length_cons, List.length_nil] at hj
      match j, hj with
      | 0, _ =>
        obtain ⟨kk, nn, aa, bb, ks, rfl⟩ := bT hcw
        have hk : kk ≠ 163 := fun e => by subst e; rcases dA hc with ⟨h, _⟩ | ⟨h, _⟩ <;> omega
        exact ⟨kk, nn, aa, bb, ks, _, rfl, nQ kk nn aa bb ks hk, ih _ (by omega) (.inl hc) hcw (by omega), fun h0 => (eQ _ (.inl hc) hcw h0).1, .inr ⟨hk, rfl⟩⟩
      | 1, _ =>
        obtain ⟨nn, aa, bb, c2, rfl, _⟩ := pA hx
        exact ⟨164, nn, aa, bb, [c2], _, rfl, nQ 164 nn aa bb [c2] (by decide), ih _ (by omega) (.inr (.inl hx)) hxw (by omega), fun h0 => (eQ _ (.inr (.inl hx)) hxw h0).1, .inr ⟨by decide, rfl⟩⟩
      | j + 2, h => omega
/-- What sem.Trans tells. -/
def sTransP (t : Tree) : Tree × Int := if checkP sformP t ≠ 0 then (.nil, checkP sformP t) else sizedP (transP t).1 (transP t).2
set_option maxHeartbeats 4000000 in
set_option maxRecDepth 10000 in
theorem zX (t : Tree) (hs : t.size ≤ 100000) : ACalls Tryz.prog 15 [.imm t.iv] [] (.imm (.tup [(sTransP t).1.iv, .lit (.int .i64 (sTransP t).2)])) [] := by
  have c1 := dV t (by omega)
  obtain ⟨Q, hQ⟩ : ∃ Q, sTransP t = Q := ⟨_, rfl⟩
  rw [hQ]
  unfold sTransP at hQ
  by_cases hc : checkP sformP t = 0
  · rw [if_neg (by simpa using hc)] at hQ
    rw [hc] at c1
    obtain ⟨hw, hz, hf⟩ := bG hc
    have ht := qR hf
    have c2 := aCS t ht hw (by omega)
    have hsz : (transP t).1.size ≤ 100000000 := by
      by_cases h0 : (transP t).2 = 0
      · have := (eQ t ht hw h0).2; omega
      · rw [yU t h0]; decide
    have c3 := zP (transP t).1 (transP t).2 hsz
    rw [hQ] at c3
    clear hQ hsz ht hf hw hz hc
    generalize transP t = W at *
    obtain ⟨W1, W2⟩ := W
    obtain ⟨Q1, Q2⟩ := Q
    dsimp only at *
    refine aI Tryz.func15 rfl rfl (nb rfl) rfl ?_
    repeat' (first | refine aF ?_ | (refine aH ?_;  first | refine aC tabOk rfl rfl rfl (nb rfl) rfl ?_ | (refine aJ rfl rfl rfl (nb rfl) rfl rfl rfl (fun hq => ?_) (fun hq => ?_) <;> (first | (simp only [sD, sE, sB, sC, sN, sM, sT, sF] at hq; try (exfalso; omega)) | skip)) | refine aD rfl rfl (nb rfl) rfl rfl rfl rfl (c1) ?_ | refine aD rfl rfl (nb rfl) rfl rfl rfl rfl (c2) ?_ | refine aD rfl rfl (nb rfl) rfl rfl rfl rfl (c3) ?_) | (refine aL ?_;  first | refine aG ?_ | refine aM ?_ | refine aN ?_ | refine aT ?_ | refine aE (b := false) rfl nFt (fun _ => ?_)) | (refine aK ?_;  first | refine aU ?_))
    all_goals first
      | exact absurd rfl (by assumption)
      | (refine aP (by first | exact .inl rfl | exact .inr rfl) (aW rfl (aB rfl) (aB rfl)) rfl ?_; rfl)
  · rw [if_pos hc] at hQ
    subst hQ
    generalize checkP sformP t = C at *
    refine aI Tryz.func15 rfl rfl (nb rfl) rfl ?_
    repeat' (first | refine aF ?_ | (refine aH ?_;  first | refine aC tabOk rfl rfl rfl (nb rfl) rfl ?_ | (refine aJ rfl rfl rfl (nb rfl) rfl rfl rfl (fun hq => ?_) (fun hq => ?_) <;> (first | (simp only [sD, sE, sB, sC, sN, sM, sT, sF] at hq; try (exfalso; omega)) | skip)) | refine aD rfl rfl (nb rfl) rfl rfl rfl rfl (c1) ?_) | (refine aL ?_;  first | refine aG ?_ | refine aM ?_ | refine aN ?_ | refine aE (b := true) rfl (fun _ => ?_) nTf) | (refine aK ?_;  first | refine aO ?_))
    all_goals first
      | exact absurd rfl (by assumption)
      | exact absurd (by assumption) hc
      | (refine aP (by first | exact .inl rfl | exact .inr rfl) (aW rfl (aB rfl) (aB rfl)) rfl ?_; rfl)
end Go.Proofs.YtlbemgokilhdnaaGreat.Ab
namespace Go.Proofs.YtlbemgokilhdnaaGreat.Ab
set_option linter.unusedVariables false
set_option linter.unusedSimpArgs false
theorem aBY (n : Int) (a b : ByteArray) (c : Tree) : transP (.node 164 n a b [c]) = if (transP c).2 = 0 then (aroundP 118 n.toNat (transP c).1, 0) else (.nil, (transP c).2) := by
  rw [transP, if_neg (by decide), if_neg (by decide), if_neg (by decide), plnRs, plnRs]
  by_cases h : (transP c).2 = 0
  · rw [if_pos h, gV _ (by intro r hr; rw [List.mem_singleton.1 hr]; exact h)]
    unfold tfinP
    rw [if_neg (by simp), if_pos rfl]; rfl
  · rw [if_neg h]
    have e : seqP [transP c] = ([], (transP c).2) := by rw [seqP, if_pos h]
    rw [e]
    unfold tfinP
    rw [if_pos h]
theorem aBa (n : Int) (a b : ByteArray) (c x : Tree) : transP (.node 165 n a b [c, x]) = if (transP c).2 = 0 then (if (transP x).2 = 0 then (aroundP 117 n.toNat (conT 114 [(transP c).1, (transP x).1]), 0) else (.nil, (transP x).2)) else (.nil, (transP c).2) := by
  rw [transP, if_neg (by decide), if_neg (by decide), if_neg (by decide), plnRs, plnRs, plnRs]
  by_cases h : (transP c).2 = 0
  · rw [if_pos h]
    by_cases h1 : (transP x).2 = 0
    · rw [if_pos h1, gV _ (by intro r hr; simp only [List.mem_cons, List.not_mem_nil, or_false] at hr; rcases hr with rfl | rfl; exact h; exact h1)]
      unfold tfinP
      rw [if_neg (by simp), if_neg (by decide), if_pos rfl]; rfl
    · rw [if_neg h1]
      have e : seqP [transP c, transP x] = ([], (transP x).2) := by rw [seqP, if_neg (by simpa using h), seqP, if_pos h1, if_pos h1]
      rw [e]
      unfold tfinP
      rw [if_pos h1]
  · rw [if_neg h]
    have e : seqP [transP c, transP x] = ([], (transP c).2) := by rw [seqP, if_pos h]
    rw [e]
    unfold tfinP
    rw [if_pos h]
theorem nS (n : Int) (a b : ByteArray) (kids : List Tree) (h : (transP (.node 162 n a b kids)).2 = 0) : (∀ f ∈ kids, (fldR f).2 = 0) ∧ (transP (.node 162 n a b kids)).1 = conT 115 (kids.map fun f => (fldR f).1) := by
  rw [transP, if_neg (by decide), if_neg (by decide), if_pos rfl, kT] at h ⊢
  have h0 : (seqP (kids.map fldR)).2 = 0 := by
    by_cases h1 : (seqP (kids.map fldR)).2 = 0
    · exact h1
    · unfold tfinP at h; rw [if_pos h1] at h; exact absurd h h1
  have hall := rC _ h0
  rw [gV _ hall]
  unfold tfinP
  rw [if_neg (by simp), if_neg (by decide), if_neg (by decide)]
  exact ⟨fun f hf => hall _ (List.mem_map_of_mem hf), by dsimp only; rw [List.map_map]; rfl⟩
theorem uO (n : Int) (a b : ByteArray) (c : Tree) (h : (fldR (.node 163 n a b [c])).2 = 0) : (transP c).2 = 0 ∧ (fldR (.node 163 n a b [c])).1 = .node 116 0 a emptyB [(transP c).1] := by
  rw [fldR, one1] at h ⊢
  rw [nR] at h
  refine ⟨h, ?_⟩
  unfold fldOf
  rw [if_neg (by simpa using h)]
end Go.Proofs.YtlbemgokilhdnaaGreat.Ab
namespace Go.Proofs.YtlbemgokilhdnaaGreat.Ab
set_option linter.unusedVariables false
set_option linter.unusedSimpArgs false
theorem yX (nu : Bool) : bareP 0 emptyB emptyB false nu = true := by
  unfold bareP
  rw [(cZ _ _).2 rfl]
  cases nu <;> rfl
theorem uP (k : Int) (hk : k = 114 ∨ k = 120) (x y : Tree) (hx : isConP x = true) (hy : isConP y = true) : isConP (conT k [x, y]) = true := by
  unfold conT
  rw [isConP, yX, if_neg (by omega), if_neg (by omega), if_pos hk, eJ]
  simp [hx, hy]
theorem wR (k : Int) (hk : k = 117 ∨ k = 118 ∨ k = 119) (x y : Tree) (hx : isKindP x = true) (hy : isConP y = true) : isConP (conT k [x, y]) = true := by
  unfold conT
  rw [isConP, yX, if_neg (by omega), if_neg (by omega), if_neg (by omega), if_neg (by omega), if_pos hk, isCon2, hx, hy]
  rfl
theorem lY (k : Int) (hk : k = 117 ∨ k = 118 ∨ k = 119) (c : Tree) (hc : isConP c = true) : ∀ n : Nat, isConP (aroundP k n c) = true
  | 0 => by rw [aroundP]; exact hc
  | n + 1 => by rw [aroundP]; exact wR k hk _ _ (by decide +kernel) (lY k hk c hc n)
theorem aCT (c : Tree) (hc : checkP isConP c = 0) (h : (tokP c).2 = 0) : isConP (tokP c).1 = true := by
  unfold tokP at h ⊢
  by_cases h0 : (shiftP c 1 0).2 = 0
  · rw [if_neg (by simpa using h0)]
    exact uP 120 (.inr rfl) _ _ (by decide +kernel) (nN c hc 1 0 (Int.le_refl _) h0)
  · rw [if_pos h0] at h; cases h
theorem uQ (t : Tree) : isSigP t = true → t.whole = true → (transP t).2 = 0 → isConP (transP t).1 = true := by
  induction t using Tree.sind with
  | h t ih =>
    intro hs hw t0
    obtain ⟨k, n, a, b', kids, rfl⟩ := bT hw
    rcases dA hs with ⟨hk, c, rfl, hc⟩ | ⟨rfl, hf, hr⟩
    · rcases hk with rfl | rfl
      · rw [transP, if_pos rfl]
        exact (bG hc).2.2
      · have ht : transP (.node 161 n a b' [c]) = allTok c := by rw [transP, if_neg (by decide), if_pos rfl]; rfl
        rw [ht] at t0 ⊢
        unfold allTok at t0 ⊢
        by_cases hq : (tokP c).2 = 0
        · rw [if_neg (by simpa using hq)]
          have hT := aCT c hc hq
          exact wR 117 (.inl rfl) _ _ (by decide +kernel) (uP 114 (.inl rfl) _ _ hT hT)
        · rw [if_pos hq] at t0; exact absurd t0 hq
    · obtain ⟨r1, r2⟩ := nS n a b' kids t0
      have el : ∀ f ∈ kids, okNamed 116 (fldR f).1 = true ∧ (fldR f).1.name = f.name := fun f hm => by
        have q1 := r1 f hm
        have hok := hf f hm
        have hz := bN (k := 162) (n := n) (a := a) (b := b') hm
        have hwf := bC hw hm
        obtain ⟨n', a', b'', c, rfl, hcs⟩ := cO (hf f hm)
        have hz2 := bN (k := 163) (n := n') (a := a') (b := b'') (kids := [c]) (t := c) (by simp)
        obtain ⟨p1, p2⟩ := uO n' a' b'' c q1
        have hcc := ih c (by omega) hcs (bC hwf (by simp)) p1
        rw [p2]
        refine ⟨?_, rfl⟩
        simp only [okSField, Bool.and_eq_true] at hok
        simp only [okNamed, isCon1, Bool.and_eq_true, beq_iff_eq]
        refine ⟨⟨⟨trivial, ?_⟩, hok.1.2⟩, hcc⟩
        unfold bareP
        rw [(cZ emptyB emptyB).2 rfl]
        simp
      rw [r2]
      unfold conT
      rw [isConP, yX, if_neg (by decide), if_neg (by decide), if_neg (by decide), if_pos rfl, cW, lP _ _ fun f hm => (el f hm).2, hr, Bool.and_true, Bool.true_and, List.all_eq_true]
      intro u hu
      obtain ⟨f, hm, rfl⟩ := List.mem_map.1 hu
      exact (el f hm).1
theorem aBZ (t : Tree) (hx : isExP t = true) (hw : t.whole = true) (t0 : (transP t).2 = 0) : isConP (transP t).1 = true := by
  obtain ⟨n, a, b', c, rfl, h1, h2, hc⟩ := pA hx
  rw [aBY] at t0 ⊢
  by_cases q1 : (transP c).2 = 0
  · rw [if_pos q1]
    exact lY 118 (.inr (.inl rfl)) _ (uQ c hc (bC hw (by simp)) q1) _
  · rw [if_neg q1] at t0; exact absurd t0 q1
theorem aCa (t : Tree) (hf : tForm t) (hw : t.whole = true) (t0 : (transP t).2 = 0) : isConP (transP t).1 = true := by
  rcases hf with h | h | h
  · exact uQ t h hw t0
  · exact aBZ t h hw t0
  · obtain ⟨n, a, b', c, x, rfl, h1, h2, hc, hx⟩ := qS h
    rw [aBa] at t0 ⊢
    by_cases q1 : (transP c).2 = 0
    · rw [if_pos q1] at t0 ⊢
      by_cases q2 : (transP x).2 = 0
      · rw [if_pos q2]
        exact lY 117 (.inl rfl) _ (uP 114 (.inl rfl) _ _ (uQ c hc (bC hw (by simp)) q1) (aBZ x hx (bC hw (by simp)) q2)) _
      · rw [if_neg q2] at t0; exact absurd t0 q2
    · rw [if_neg q1] at t0; exact absurd t0 q1
theorem kU (t : Tree) (h : (sTransP t).2 = 0) : checkP sformP t = 0 ∧ (transP t).2 = 0 ∧ (sTransP t).1 = (transP t).1 ∧ (transP t).1.whole = true ∧ (transP t).1.size ≤ 65536 ∧ checkP isConP (transP t).1 = 0 := by
  by_cases hc : checkP sformP t = 0
  · obtain ⟨hw, hz, hf⟩ := bG hc
    have e : sTransP t = sizedP (transP t).1 (transP t).2 := by unfold sTransP; rw [if_neg (by simpa using hc)]
    rw [e] at h ⊢
    unfold sizedP at h ⊢
    by_cases h0 : (transP t).2 = 0
    · rw [if_neg (by simpa using h0)] at h ⊢
      by_cases h1 : (wholeP (transP t).1 65536).1 = 0
      · rw [if_neg (by simpa using h1)]
        have g1 := (eQ t (qR hf) hw h0).1
        have g2 := gP (transP t).1 65536 (by omega) h1
        have g3 := eE (transP t).1 65536 (by omega) h1
        have g4 : (transP t).1.size ≤ 65536 := by omega
        exact ⟨hc, h0, rfl, g1, g4, by rw [iJ isConP _ g1 g4, if_pos (aCa t (qR hf) hw h0)]⟩
      · rw [if_pos h1] at h; exact absurd h h1
    · rw [if_pos h0] at h; exact absurd h h0
  · unfold sTransP at h; rw [if_pos hc] at h; exact absurd h hc
end Go.Proofs.YtlbemgokilhdnaaGreat.Ab
namespace Go.Proofs.YtlbemgokilhdnaaGreat.Ab
set_option linter.unusedVariables false
set_option linter.unusedSimpArgs false
open Go.RowKit
theorem oW {l : List Tree} (h : risingP l = true) : distinctP l = true ∧ steadyP l = true := by
  constructor
  · have := (yC false l).2 fun i j hij hj => by
      have h1 := lN h (j - i - 1) i (by omega)
      have e : l[j] = l[i + (j - i - 1) + 1]'(by omega) := by congr 1; omega
      rw [e]
      unfold okPair
      rw [yB h1]; rfl
    exact this
  · rw [gR]
    intro i hi
    have h1 := (dP l).1 h i hi
    cases h2 : ltB l[i + 1].name (l[i]'(by omega)).name with
    | false => rfl
    | true =>
      have h3 := yB (sL h1 h2)
      unfold eqB at h3
      simp at h3
theorem yY (x : Tree) (l : List Tree) (h : ∀ t ∈ l, okSField t = true) : (madeKs l x).map Tree.name = l.map Tree.name := by
  rw [iU, List.map_map]
  refine List.map_congr_left fun t ht => ?_
  obtain ⟨n, a, b, c, rfl, _⟩ := cO (h t ht)
  show (madeK (.node 163 n a b [c]) x).name = a
  rw [madeK]
  rfl
theorem rE {n : Int} {a b : ByteArray} {ks : List Tree} {k : Int} (h : okSField (.node k n a b ks) = true) : labelP a = true ∧ k = 163 := by
  simp only [okSField, Bool.and_eq_true, beq_iff_eq] at h
  exact ⟨h.1.2, h.1.1.1⟩
theorem aBb {a : ByteArray} {x : Tree} (ha : labelP a = true) (hx : isTermP x = true) : isTermP (.node 138 0 a emptyB [x]) = true := by
  have hne : eqB a emptyB = false := by
    cases h : eqB a emptyB with
    | false => rfl
    | true =>
      have e := (cZ a emptyB).1 h
      subst e
      exact absurd ha (by decide +kernel)
  rw [isTermP, if_neg (by decide), if_neg (by decide), if_neg (by decide), if_neg (by decide), if_neg (by decide), if_pos rfl, isT_t, hx, Bool.and_true]
  unfold headP
  rw [ha, hne]
  decide +kernel
theorem aBc (s : Tree) : ∀ x : Tree, isSigP s = true → isTermP x = true → isTermP (madeP s x) = true := by
  induction s using Tree.sind with
  | h s ih =>
    intro x hs hx
    cases s with
    | nil => rw [isSigP] at hs; cases hs
    | node k n a b kids =>
      rw [madeP]
      rcases dA hs with ⟨hk, _⟩ | ⟨hk, hf, hr⟩
      · rw [if_neg (by omega)]; exact hx
      · rw [if_pos hk]
        have hn := yY x kids hf
        have hr2 : risingP (madeKs kids x) = true := by rw [fO _ _ hn]; exact hr
        obtain ⟨d1, d2⟩ := oW hr2
        rw [isTermP, if_neg (by decide), if_neg (by decide), if_neg (by decide), if_neg (by decide), if_pos rfl, d1, d2, gS, Bool.and_true, Bool.and_true]
        rw [Bool.and_eq_true]
        refine ⟨by decide +kernel, ?_⟩
        rw [List.all_eq_true, iU]
        intro u hu
        obtain ⟨t, ht, rfl⟩ := List.mem_map.1 hu
        have hz := bN (k := k) (n := n) (a := a) (b := b) ht
        have hok := hf t ht
        obtain ⟨n', a', b', c, rfl, hc⟩ := cO hok
        have hla := (rE hok).1
        have hz2 := bN (k := 163) (n := n') (a := a') (b := b') (kids := [c]) (t := c) (by simp)
        rw [madeK, made1, okField, isT_t, ih c (by omega) _ hc (aBb hla hx), hla, (cZ _ _).2 rfl]
        rfl
theorem aCb {L1 L2 S1 S2 x : Nat} : L1 * (x + S1) + L2 * (x + S2) ≤ (L1 + L2) * (x + (S1 + S2)) := by
  rw [Nat.add_mul]
  exact Nat.add_le_add (Nat.mul_le_mul_left _ (by omega)) (Nat.mul_le_mul_left _ (by omega))
theorem aBd (s : Tree) : isSigP s = true → s.whole = true → ∃ L, 3 * L ≤ sW s + 1 ∧ ∀ x : Tree, (madeP s x).size ≤ sW s + L * (x.size + sW s) := by
  induction s using Tree.sind with
  | h s ih =>
    intro hs hw
    obtain ⟨k, n, a, b, kids, rfl⟩ := bT hw
    rcases dA hs with ⟨hk, c, rfl, hc⟩ | ⟨hk, hf, hr⟩
    · refine ⟨1, ?_, fun x => ?_⟩
      · obtain ⟨k', n', a', b', ks, rfl, hl⟩ := uE hc
        rw [sW, if_neg (by omega), sWs, sWs, sW, if_pos hl]
        omega
      · rw [madeP, if_neg (by omega)]
        omega
    · have key : ∀ l : List Tree, (∀ t ∈ l, t ∈ kids) → ∃ L, 3 * L ≤ sWs l ∧ ∀ x : Tree, Tree.sizes (madeKs l x) ≤ sWs l + L * (x.size + sWs l) := by
        intro l
        induction l with
        | nil => intro _; exact ⟨0, Nat.zero_le _, fun x => by rw [madeKs]; exact Nat.zero_le _⟩
        | cons t l ih2 =>
          intro hm
          obtain ⟨L2, g1, g2⟩ := ih2 fun t ht => hm t (by simp [ht])
          have hmt := hm t (by simp)
          have hz := bN (k := k) (n := n) (a := a) (b := b) hmt
          have hwt := bC hw hmt
          obtain ⟨n', a', b', c, rfl, hc⟩ := cO (hf t hmt)
          have hz2 := bN (k := 163) (n := n') (a := a') (b := b') (kids := [c]) (t := c) (by simp)
          obtain ⟨L1, g3, g4⟩ := ih c (by omega) hc (bC hwt (by simp))
          have e : sW (.node 163 n' a' b' [c]) = 1 + sW c := by rw [sW, if_neg (by decide), sWs, sWs]; omega
          refine ⟨L1 + L2, by rw [sWs, e]; omega, fun x => ?_⟩
          have h1 := g4 (.node 138 0 a' emptyB [x])
          have h2 := g2 x
          have h3 : (Tree.node 138 0 a' emptyB [x]).size = x.size + 1 := by simp only [Tree.size, Tree.sizes]; omega
          rw [h3] at h1
          have h4 := aCb (L1 := L1) (L2 := L2) (S1 := 1 + sW c) (S2 := sWs l) (x := x.size)
          rw [show x.size + 1 + sW c = x.size + (1 + sW c) by omega] at h1
          rw [madeKs, madeK, made1, sWs, e]
          simp only [Tree.sizes, Tree.size]
          omega
      obtain ⟨L, g1, g2⟩ := key kids fun _ h => h
      have e : sW (.node k n a b kids) = 1 + sWs kids := by rw [sW, if_neg (by omega)]
      refine ⟨L, by rw [e]; omega, fun x => ?_⟩
      have h1 := g2 x
      have h2 : L * (x.size + sWs kids) ≤ L * (x.size + (1 + sWs kids)) := Nat.mul_le_mul_left _ (by omega)
      rw [madeP, if_pos hk, e]
      simp only [Tree.size]
      omega
theorem yZ (akids akids' : List Tree) (a : ByteArray) (ha : ∀ t ∈ akids, okSField t = true) (hw : Tree.wholes akids = true) (h0 : ∀ t ∈ akids, (fldR t).2 = 0) :
    akids'.length = akids.length → (∀ j (h : j < akids.length) (h' : j < akids'.length), fieldN 1000 (fldR akids[j]).1 akids'[j]) → (fieldP a akids).2 = true →
    ∃ m, partP akids' a = some m ∧ normalP 1000 (transP (fieldP a akids).1).1 = (m, 0) ∧ isSigP (fieldP a akids).1 = true ∧ (fieldP a akids).1.whole = true ∧ (transP (fieldP a akids).1).2 = 0 := by
  induction akids generalizing akids' with
  | nil => intro _ _ h; cases h
  | cons t l ih =>
    intro hl hn hf
    cases akids' with
    | nil => cases hl
    | cons u l' =>
      rw [Tree.wholes, Bool.and_eq_true] at hw
      have hok := ha t (by simp)
      have ht0 := h0 t (by simp)
      obtain ⟨n', a', b', c, rfl, hc⟩ := cO hok
      obtain ⟨p1, p2⟩ := uO n' a' b' c ht0
      have h1 := hn 0 (Nat.zero_lt_succ _) (Nat.zero_lt_succ _)
      rw [List.getElem_cons_zero, List.getElem_cons_zero, p2] at h1
      obtain ⟨n2, a2, b2, cc, cc', e1, e2, e3⟩ := h1
      cases e1
      subst e2
      have elb : isLab a (.node 163 n' a' b' [c]) = eqB a' a := by unfold isLab; rfl
      rw [fieldP, elb] at hf ⊢
      rw [partP, Tree.name]
      by_cases he : eqB a' a = true
      · rw [if_pos he, if_pos he]
        exact ⟨cc', rfl, e3, hc, bC hw.1 (show c ∈ [c] by simp), p1⟩
      · rw [if_neg he] at hf ⊢
        rw [if_neg he]
        refine ih l' (fun t ht => ha t (by simp [ht])) hw.2 (fun t ht => h0 t (by simp [ht])) (by simpa using hl) (fun j h h' => ?_) hf
        have := hn (j + 1) (Nat.succ_lt_succ h) (Nat.succ_lt_succ h')
        rw [List.getElem_cons_succ, List.getElem_cons_succ] at this
        exact this
theorem aCc {k n : Int} {a b : ByteArray} {kids : List Tree} {A : Tree} (hk : k ≠ 162) (h : subP (.node k n a b kids) A = true) : A = .node k n a b kids := by
  rw [subP, Bool.and_eq_true, if_pos hk] at h
  exact (kP _ _).1 h.2
theorem wS {t : Tree} (h : (normalP 1000 t).2 = 0) : normalP 1000 t = ((normalP 1000 t).1, 0) := by rw [← h]
theorem zA (a : ByteArray) (m : Tree) : field1 a (m, 0) = (.node 116 0 a emptyB [m], 0) := by unfold field1; rw [if_neg (by simp)]
theorem aBe {a : ByteArray} {R : Tree × Int} (h : R.2 ≠ 0) : field1 a R = (.nil, R.2) := by unfold field1; rw [if_pos h]
theorem zB (t : Tree) (l : List Tree) : consP (t, 0) (l, 0) = (t :: l, 0) := by unfold consP; rw [if_neg (by simp), if_neg (by simp)]
theorem zC (t : Tree) {L : List Tree × Int} (h : L.2 ≠ 0) : (consP (t, 0) L).2 = L.2 := by unfold consP; rw [if_neg (by simp), if_pos h]
theorem zD {R : Tree × Int} (L : List Tree × Int) (h : R.2 ≠ 0) : (consP (.nil, R.2) L).2 = R.2 := by unfold consP; rw [if_pos h]
/-- What is coerced has the type of the signature, if the term has; else it may be that it has none, for the same reason. -/
theorem aBf (ks ts : List Tree) (T : Tree) : ∀ A p : Tree, isSigP T = true → isSigP A = true → T.whole = true → A.whole = true → subP T A = true → (transP A).2 = 0 → (transP T).2 = 0 →
    ((ofP p ks ts).2 = 0 → normalP 1000 (transP A).1 = ((ofP p ks ts).1, 0)) → (normalP 1000 (transP T).1).2 = 0 →
    (ofP (madeP T p) ks ts = normalP 1000 (transP T).1 ∨ (ofP p ks ts).2 ≠ 0 ∧ (ofP (madeP T p) ks ts).2 = (ofP p ks ts).2) := by
  induction T using Tree.sind with
  | h T ih =>
    intro A p hT hA wT wA hsub tA tT hR hN
    obtain ⟨k, n, a, b, kids, rfl⟩ := bT wT
    rcases dA hT with ⟨hk, _⟩ | ⟨hk, hf, hr⟩
    · have e := aCc (by omega) hsub
      subst e
      rw [madeP, if_neg (by omega)]
      by_cases h0 : (ofP p ks ts).2 = 0
      · left; rw [hR h0, ← h0]
      · exact .inr ⟨h0, rfl⟩
    · subst hk
      rw [subP, Bool.and_eq_true, if_neg (by decide), sJ, List.all_eq_true, decide_eq_true_eq] at hsub
      obtain ⟨hAk, hsubs⟩ := hsub
      obtain ⟨kA, nA, aA, bA, akids, rfl⟩ := bT wA
      have hAk : kA = 162 := hAk
      subst hAk
      have hAf : (∀ t ∈ akids, okSField t = true) := by
        rcases dA hA with ⟨h, _⟩ | ⟨_, h, _⟩
        · omega
        · exact h
      obtain ⟨a1, a2⟩ := nS nA aA bA akids tA
      obtain ⟨t1, t2⟩ := nS n a b kids tT
      rw [t2] at hN ⊢
      rw [a2] at hR
      unfold conT at hN hR ⊢
      obtain ⟨kids', q1, q2, q3⟩ := wI 1000 0 emptyB emptyB _ hN
      rw [List.length_map] at q2
      rw [wS hN, q1]
      have hq3 : ∀ j (h : j < kids.length) (h' : j < kids'.length), fieldN 1000 (fldR kids[j]).1 kids'[j] := fun j h h' => by
        have := q3 j (by rw [List.length_map]; exact h) h'
        rw [List.getElem_map] at this
        exact this
      -- what the projections have
      have hproj : ∀ a' : ByteArray, (fieldP a' akids).2 = true → isSigP (fieldP a' akids).1 = true ∧ (fieldP a' akids).1.whole = true ∧ (transP (fieldP a' akids).1).2 = 0 ∧
          ((ofP p ks ts).2 = 0 → (ofP (.node 138 0 a' emptyB [p]) ks ts).2 = 0 ∧ normalP 1000 (transP (fieldP a' akids).1).1 = ((ofP (.node 138 0 a' emptyB [p]) ks ts).1, 0)) ∧ ((ofP p ks ts).2 ≠ 0 → (ofP (.node 138 0 a' emptyB [p]) ks ts).2 = (ofP p ks ts).2) := fun a' hfa => by
        have e : ofP (.node 138 0 a' emptyB [p]) ks ts = proj1 a' (ofP p ks ts) := by rw [ofP]; rfl
        rw [e]
        have hsig : isSigP (fieldP a' akids).1 = true ∧ (fieldP a' akids).1.whole = true ∧ (transP (fieldP a' akids).1).2 = 0 := by
          rcases gT a' akids 0 with ⟨_, h⟩ | ⟨i, hi, _, h, _⟩
          · rw [h] at hfa; cases hfa
          · rw [h]
            have hm : akids[i] ∈ akids := List.getElem_mem hi
            have hwm := bC wA hm
            have h0 := a1 _ hm
            obtain ⟨n', a'', b', c, e, hc⟩ := cO (hAf _ hm)
            rw [e] at h0 hwm ⊢
            exact ⟨hc, bC hwm (show c ∈ [c] by simp), (uO n' a'' b' c h0).1⟩
        refine ⟨hsig.1, hsig.2.1, hsig.2.2, fun h0 => ?_, fun h0 => ?_⟩
        · have hR0 := hR h0
          have hNA : (normalP 1000 (.node 115 0 emptyB emptyB (akids.map fun f => (fldR f).1))).2 = 0 := by rw [hR0]
          obtain ⟨akids', r1, r2, r3⟩ := wI 1000 0 emptyB emptyB _ hNA
          rw [List.length_map] at r2
          obtain ⟨m, m1, m2, _⟩ := yZ akids akids' a' hAf wA a1 r2 (fun j h h' => by
            have := r3 j (by rw [List.length_map]; exact h) h'
            rw [List.getElem_map] at this
            exact this) hfa
          have hR1 : (ofP p ks ts).1 = .node 115 0 emptyB emptyB akids' := by rw [← r1, hR0]
          have has : asP (ofP p ks ts) 115 = ofP p ks ts := by
            unfold asP
            rw [if_neg fun h => h.2 (by rw [hR1]; rfl)]
          unfold proj1
          rw [has, if_neg (by simpa using h0), hR1]
          unfold part1
          rw [kidsOf, m1]
          exact ⟨rfl, m2⟩
        · have has : asP (ofP p ks ts) 115 = ofP p ks ts := by
            unfold asP
            rw [if_neg fun h => h0 h.1]
          unfold proj1
          rw [has, if_pos h0]
      -- all fields
      have key : ∀ (l l' : List Tree), (∀ t ∈ l, t ∈ kids) → l'.length = l.length → (∀ j (h : j < l.length) (h' : j < l'.length), fieldN 1000 (fldR l[j]).1 l'[j]) →
          (ofRec (madeKs l p) ks ts = (l', 0) ∨ (ofP p ks ts).2 ≠ 0 ∧ (ofRec (madeKs l p) ks ts).2 = (ofP p ks ts).2) := by
        intro l
        induction l with
        | nil =>
          intro l' _ hl _
          left
          rw [madeKs, ofRec, List.length_eq_zero_iff.1 hl]
        | cons t l ih2 =>
          intro l' hm hl hn
          cases l' with
          | nil => cases hl
          | cons u l' =>
            have hmt := hm t (by simp)
            have hz := bN (k := 162) (n := n) (a := a) (b := b) hmt
            have hwt := bC wT hmt
            have ht0 := t1 t hmt
            have hst := hsubs t hmt
            have hrest := ih2 l' (fun t ht => hm t (by simp [ht])) (by simpa using hl) fun j h h' => by
              have := hn (j + 1) (Nat.succ_lt_succ h) (Nat.succ_lt_succ h')
              rw [List.getElem_cons_succ, List.getElem_cons_succ] at this
              exact this
            obtain ⟨n', a', b', c, rfl, hc⟩ := cO (hf t hmt)
            have hz2 := bN (k := 163) (n := n') (a := a') (b := b') (kids := [c]) (t := c) (by simp)
            obtain ⟨p1, p2⟩ := uO n' a' b' c ht0
            have h1 := hn 0 (Nat.zero_lt_succ _) (Nat.zero_lt_succ _)
            rw [List.getElem_cons_zero, List.getElem_cons_zero, p2] at h1
            obtain ⟨n2, a2', b2, cc, cc', e1, e2, e3⟩ := h1
            cases e1
            subst e2
            rw [subK, Bool.and_eq_true, sub1] at hst
            have hst1 : (fieldP a' akids).2 = true := hst.1
            obtain ⟨s1, s2, s3, s4, s5⟩ := hproj a' hst1
            have hi := ih c (by omega) (fieldP a' akids).1 (.node 138 0 a' emptyB [p]) hc s1 (bC hwt (by simp)) s2 hst.2 s3 p1 (fun h => by
              by_cases h0 : (ofP p ks ts).2 = 0
              · exact (s4 h0).2
              · have := s5 h0
                rw [h] at this
                exact absurd this.symm h0) (by rw [e3])
            rw [madeKs, madeK, made1, ofRec]
            have ef : ofField (.node 137 0 a' emptyB [madeP c (.node 138 0 a' emptyB [p])]) ks ts = field1 a' (ofP (madeP c (.node 138 0 a' emptyB [p])) ks ts) := by rw [ofField, ofH]
            rw [ef]
            have herr : (ofP (.node 138 0 a' emptyB [p]) ks ts).2 ≠ 0 → (ofP p ks ts).2 ≠ 0 ∧ (ofP (.node 138 0 a' emptyB [p]) ks ts).2 = (ofP p ks ts).2 := fun h => by
              by_cases h0 : (ofP p ks ts).2 = 0
              · exact absurd (s4 h0).1 h
              · exact ⟨h0, s5 h0⟩
            rcases hi with hi | ⟨hi1, hi2⟩
            · rw [hi, e3, zA]
              rcases hrest with hrest | ⟨hr1, hr2⟩
              · rw [hrest, zB]; left; rfl
              · right
                refine ⟨hr1, ?_⟩
                rw [zC _ (by rw [hr2]; exact hr1)]
                exact hr2
            · obtain ⟨g1, g2⟩ := herr hi1
              right
              refine ⟨g1, ?_⟩
              have hq : (ofP (madeP c (.node 138 0 a' emptyB [p])) ks ts).2 ≠ 0 := by rw [hi2]; exact hi1
              rw [aBe hq, zD _ hq]
              show (ofP (madeP c (.node 138 0 a' emptyB [p])) ks ts).2 = _
              rw [hi2, g2]
      rw [madeP, if_pos rfl]
      have er : ofP (.node 136 0 emptyB emptyB (madeKs kids p)) ks ts = rec1 (ofRec (madeKs kids p) ks ts) := by rw [ofP]; rfl
      rw [er]
      rcases key kids kids' (fun _ h => h) q2 hq3 with h | ⟨h1, h2⟩
      · left
        rw [h]
        unfold rec1
        rw [if_neg (by simp)]
        rfl
      · right
        refine ⟨h1, ?_⟩
        unfold rec1
        rw [if_pos (by rw [h2]; exact h1)]
        exact h2
end Go.Proofs.YtlbemgokilhdnaaGreat.Ab
namespace Go.Proofs.YtlbemgokilhdnaaGreat.Ab
set_option linter.unusedVariables false
set_option linter.unusedSimpArgs false
open Go.RowKit
attribute [local irreducible] AWP AOps AExit AThen ABlock ANoGoto FeetOk
set_option maxHeartbeats 16000000 in
set_option maxRecDepth 10000 in
theorem aDi (t : Tree) : ∀ (ctx : List Tree) (X : IV), isConP t = true → t.whole = true → rowIV X ctx → okCtx ctx → (∀ c ∈ ctx, c.size ≤ 200000) → ctx.length + t.size ≤ 200000 →
    ACalls Tryz.prog 73 [.imm X, .imm t.iv] [] (.imm (.tup [(kindP t ctx).1.iv, .lit (.int .i64 (kindP t ctx).2)])) [] := by
  induction t using Tree.sind with
  | h t ih =>
    intro ctx X hf hw hX ho hB hs
    have hfw := bL hw
    obtain ⟨k, n, a, b, kids, rfl⟩ := bT hw
    obtain ⟨p1, p2, p3, p4, p5⟩ := dH hf
    have hlk := cE kids hw
    have hls : kids.length + 1 ≤ 200000 - ctx.length := by simp only [Tree.size] at hs; omega
    have cst := zU
    rw [mW] at cst
    have hsz : ∀ t ∈ kids, t.size < (Tree.node k n a b kids).size := fun t h => bN h
    have hwk : ∀ t ∈ kids, t.whole = true := fun t h => bC hw h
    rw [kindP]
    by_cases e0 : k = 110
    · rw [if_pos e0]
      obtain ⟨q1, q2, rfl⟩ := p1 e0
      subst e0
      rw [Tree.iv, Tree.ivs]
      by_cases hn : n ≥ (ctx.length : Int)
      · rw [if_pos hn]
        rcases hX with ⟨f, rfl⟩ | ⟨rfl, rfl⟩
        · generalize Tree.ivs ctx = Z at *
          clear ih p1 p2 p3 p4 p5 hB ho
          refine aI Tryz.func73 rfl rfl (nb rfl) rfl ?_
          repeat' (first | refine aF ?_ | (refine aH ?_;  first | refine aC tabOk rfl rfl rfl (nb rfl) rfl ?_ | (refine aJ rfl rfl rfl (nb rfl) rfl rfl rfl (fun hq => ?_) (fun hq => ?_) <;> (first | (simp only [sD, sE, sB, sC, sN, sM, sT, sF] at hq; try (exfalso; omega)) | skip)) | refine aV tabOk rfl rfl (nb rfl) rfl ?_) | (refine aL ?_;  first | refine aG ?_ | refine aM ?_ | refine aS ?_ | refine aN ?_ | refine aE (b := true) rfl (fun _ => ?_) nTf) | (refine aK ?_;  first | refine aO ?_) | (refine aR ?_;  first | refine aZ ?_))
          all_goals first
            | (exfalso; omega)
            | exact absurd rfl (by assumption)
            | (refine aP (by first | exact .inl rfl | exact .inr rfl) (aW rfl (aB rfl) (aB rfl)) rfl ?_; rfl)
        · clear ih p1 p2 p3 p4 p5 hB ho
          refine aI Tryz.func73 rfl rfl (nb rfl) rfl ?_
          repeat' (first | refine aF ?_ | (refine aH ?_;  first | refine aC tabOk rfl rfl rfl (nb rfl) rfl ?_ | (refine aJ rfl rfl rfl (nb rfl) rfl rfl rfl (fun hq => ?_) (fun hq => ?_) <;> (first | (simp only [sD, sE, sB, sC, sN, sM, sT, sF] at hq; try (exfalso; omega)) | skip)) | refine aV tabOk rfl rfl (nb rfl) rfl ?_) | (refine aL ?_;  first | refine aG ?_ | refine aM ?_ | refine aS ?_ | refine aN ?_ | refine aE (b := true) rfl (fun _ => ?_) nTf) | (refine aK ?_;  first | refine aO ?_) | (refine aR ?_;  first | refine aZ ?_))
          all_goals first
            | (exfalso; simp at hn; omega)
            | exact absurd rfl (by assumption)
            | (refine aP (by first | exact .inl rfl | exact .inr rfl) (aW rfl (aB rfl) (aB rfl)) rfl ?_; rfl)
      · rw [if_neg hn]
        obtain ⟨m, rfl⟩ : ∃ m : Nat, n = (m : Int) := ⟨n.toNat, by omega⟩
        have hlt : m < ctx.length := by omega
        have e : ctx.getD m .nil = ctx[m] := by simp [List.getD, hlt]
        rw [Int.toNat_natCast]
        rcases hX with ⟨f, rfl⟩ | ⟨rfl, rfl⟩
        · have hget := cG ctx m hlt
          obtain ⟨pc, hpc⟩ := bV (bL (ho _ (List.getElem_mem hlt)).2)
          dsimp only
          rw [e, hpc]
          rw [hpc] at hget
          generalize Tree.ivs ctx = Z at *
          clear ih p1 p2 p3 p4 p5 hB ho
          refine aI Tryz.func73 rfl rfl (nb rfl) rfl ?_
          repeat' (first | refine aF ?_ | (refine aH ?_;  first | refine aC tabOk rfl rfl rfl (nb rfl) rfl ?_ | (refine aJ rfl rfl rfl (nb rfl) rfl rfl rfl (fun hq => ?_) (fun hq => ?_) <;> (first | (simp only [sD, sE, sB, sC, sN, sM, sT, sF] at hq; try (exfalso; omega)) | skip)) | refine bE tabOk rfl rfl rfl (nb rfl) rfl rfl rfl hget ?_ | refine aV tabOk rfl rfl (nb rfl) rfl ?_ | refine bF tabOk rfl rfl rfl (nb rfl) rfl rfl rfl rfl (by first | assumption | omega) ?_) | (refine aL ?_;  first | refine aG ?_ | refine aM ?_ | refine aS ?_ | refine aN ?_ | refine aT ?_ | refine aE (b := true) rfl (fun _ => ?_) nTf | refine aE (b := false) rfl nFt (fun _ => ?_)) | (refine aK ?_;  first | refine aU ?_ | refine aO ?_) | (refine aR ?_;  first | refine aZ ?_))
          all_goals first
            | (exfalso; omega)
            | exact absurd rfl (by assumption)
            | (refine aP (by first | exact .inl rfl | exact .inr rfl) (aW rfl (aB rfl) (aB rfl)) rfl ?_; rfl)
        · simp at hlt
    · rw [if_neg e0]
      by_cases e1 : k = 114
      · rw [if_pos e1, lR]
        obtain ⟨x, y, rfl, hx, hy⟩ := p2 (by omega)
        subst e1
        have c1 := uK X false [x, y] (fun t => kindP t ctx) (by simp) (fun t ht h0 => by
            have hc : isConP t = true := by simp at ht; rcases ht with rfl | rfl <;> assumption
            exact (eM t ctx 200000 hc (hwk t ht) ho hB (by omega) h0).2.1)
          (fun t ht => by
            have hc : isConP t = true := by simp at ht; rcases ht with rfl | rfl <;> assumption
            exact ih t (hsz t ht) ctx X hc (hwk t ht) hX ho hB (by have := hsz t ht; omega))
        generalize starsG _ = Q at *
        clear ih p1 p2 p3 p4 p5 hB ho hsz hwk
        rw [Tree.iv]
        generalize Tree.ivs [x, y] = Z at *
        change ACalls _ _ [_, .imm (.sl false 2 Z)] _ _ _ at c1
        refine aI Tryz.func73 rfl rfl (nb rfl) rfl ?_
        repeat' (first | refine aF ?_ | (refine aH ?_;  first | refine aC tabOk rfl rfl rfl (nb rfl) rfl ?_ | (refine aJ rfl rfl rfl (nb rfl) rfl rfl rfl (fun hq => ?_) (fun hq => ?_) <;> (first | (simp only [sD, sE, sB, sC, sN, sM, sT, sF] at hq; try (exfalso; omega)) | skip)) | refine aD rfl rfl (nb rfl) rfl rfl rfl rfl (c1) ?_) | (refine aL ?_;  first | refine aG ?_ | refine aM ?_ | refine aS ?_ | refine aN ?_ | refine aE (b := true) rfl (fun _ => ?_) nTf | refine aE (b := false) rfl nFt (fun _ => ?_)) | (refine aK ?_;  first | refine aO ?_) | (refine aR ?_;  first | refine aZ ?_))
        all_goals first
          | (exfalso; omega)
          | exact absurd rfl (by assumption)
          | (refine aP (by first | exact .inl rfl | exact .inr rfl) (aW rfl (aB rfl) (aB rfl)) rfl ?_; rfl)
      · rw [if_neg e1]
        have hin : ∀ kind : Int, (∀ t ∈ kids, ∃ n' a' b' c, t = .node kind n' a' b' [c] ∧ isConP c = true) → ∀ (ctx' : List Tree) (X' : IV), rowIV X' ctx' → okCtx ctx' → (∀ c ∈ ctx', c.size ≤ 200000) → ctx'.length ≤ ctx.length + 1 →
            ACalls Tryz.prog 104 [.imm X', .imm (.sl false (innerP kids).length (Tree.ivs (innerP kids)))] [] (.imm (.tup [(starsF kids ctx').1.iv, .lit (.int .i64 (starsF kids ctx').2)])) [] := fun kind hp ctx' X' hX' ho' hB' hl' => by
          have c1 := uK X' false (innerP kids) (fun t => kindP t ctx') (by unfold innerP; rw [List.length_map]; omega)
            (fun t ht h0 => by
              obtain ⟨u, hu, rfl⟩ := List.mem_map.1 ht
              obtain ⟨n', a', b', c, rfl, hc⟩ := hp u hu
              exact (eM c ctx' 200000 hc (bC (hwk _ hu) (by simp)) ho' hB' (by omega) h0).2.1)
            (fun t ht => by
              obtain ⟨u, hu, rfl⟩ := List.mem_map.1 ht
              obtain ⟨n', a', b', c, rfl, hc⟩ := hp u hu
              have h1 := hsz _ hu
              have h2 := bN (k := kind) (n := n') (a := a') (b := b') (kids := [c]) (t := c) (by simp)
              exact ih c (by omega) ctx' X' hc (bC (hwk _ hu) (by simp)) hX' ho' hB' (by omega))
          have e : (innerP kids).map (fun t => kindP t ctx') = kids.map fun t => kindF t ctx' := by
            unfold innerP
            rw [List.map_map]
            refine List.map_congr_left fun u hu => ?_
            obtain ⟨n', a', b', c, rfl, hc⟩ := hp u hu
            show kindP c ctx' = _
            rw [kindF, kindH]
          rw [e, ← lS] at c1
          exact c1
        have hinn : ∀ kind : Int, (∀ t ∈ kids, ∃ n' a' b' c, t = .node kind n' a' b' [c] ∧ isConP c = true) → ACalls Tryz.prog 105 [.imm (Tree.iv (.node k n a b kids))] [] (.imm (.sl false (innerP kids).length (Tree.ivs (innerP kids)))) [] := fun kind hp =>
          aCN k n a b kids (by omega) fun t ht => by
            obtain ⟨n', a', b', c, rfl, hc⟩ := hp t ht
            exact ⟨kind, n', a', b', c, rfl, bC (hwk _ ht) (by simp)⟩
        by_cases e2 : k = 115
        · rw [if_pos e2]
          subst e2
          have c1 := hinn 116 (p3 rfl)
          have c2 := hin 116 (p3 rfl) ctx X hX ho hB (by omega)
          generalize starsF kids ctx = Q at *
          generalize (innerP kids).length = L at *
          generalize Tree.ivs (innerP kids) = Y at *
          rw [Tree.iv] at c1 ⊢
          generalize Tree.ivs kids = Z at *
          clear ih p1 p2 p3 p4 p5 hB ho hsz hwk hin hinn
          refine aI Tryz.func73 rfl rfl (nb rfl) rfl ?_
          repeat' (first | refine aF ?_ | (refine aH ?_;  first | refine aC tabOk rfl rfl rfl (nb rfl) rfl ?_ | (refine aJ rfl rfl rfl (nb rfl) rfl rfl rfl (fun hq => ?_) (fun hq => ?_) <;> (first | (simp only [sD, sE, sB, sC, sN, sM, sT, sF] at hq; try (exfalso; omega)) | skip)) | refine aD rfl rfl (nb rfl) rfl rfl rfl rfl (c1) ?_ | refine aD rfl rfl (nb rfl) rfl rfl rfl rfl (c2) ?_) | (refine aL ?_;  first | refine aG ?_ | refine aM ?_ | refine aS ?_ | refine aN ?_ | refine aE (b := true) rfl (fun _ => ?_) nTf | refine aE (b := false) rfl nFt (fun _ => ?_)) | (refine aK ?_;  first | refine aO ?_) | (refine aR ?_;  first | refine aZ ?_))
          all_goals first
            | (exfalso; omega)
            | exact absurd rfl (by assumption)
            | (refine aP (by first | exact .inl rfl | exact .inr rfl) (aW rfl (aB rfl) (aB rfl)) rfl ?_; rfl)
        · rw [if_neg e2]
          by_cases e3 : k = 117 ∨ k = 118
          · rw [if_pos e3]
            obtain ⟨x, y, rfl, hx, hy⟩ := p4 (by omega)
            have wx := hwk x (by simp)
            have wy := hwk y (by simp)
            have sx := hsz x (by simp)
            have sy := hsz y (by simp)
            have c1 := qW x wx hX (by omega)
            have ho' := iV hx wx ho
            have hB' : ∀ c ∈ x :: ctx, c.size ≤ 200000 := fun c hc => by
              rcases List.mem_cons.1 hc with rfl | hc
              · omega
              · exact hB c hc
            have c2 := uK _ true [y] (fun t => kindP t (x :: ctx)) (by simp)
              (fun t ht h0 => by rw [List.mem_singleton.1 ht] at *; exact (eM y _ 200000 hy wy ho' hB' (by omega) h0).2.1)
              (fun t ht => by rw [List.mem_singleton.1 ht] at *; exact ih y (by omega) (x :: ctx) _ hy wy (gK false _) ho' hB' (by rw [List.length_cons]; simp only [Tree.size, Tree.sizes] at hs sy ⊢; have := eB wx; omega))
            rw [bindK]
            change ACalls _ _ _ _ (.imm (.tup [(star1 (kindP y (x :: ctx)) (starK, 0)).1.iv, .lit (.int .i64 (star1 (kindP y (x :: ctx)) (starK, 0)).2)])) _ at c2
            generalize star1 _ _ = Q at *
            generalize Tree.ivs (x :: ctx) = Y at *
            generalize (x :: ctx).length = L at *
            obtain ⟨px, hpx⟩ := bV (bL wx)
            obtain ⟨py, hpy⟩ := bV (bL wy)
            rw [Tree.iv, Tree.ivs, Tree.ivs, Tree.ivs, hpx, hpy]
            rw [hpx] at c1
            rw [Tree.ivs, Tree.ivs, hpy] at c2
            change ACalls _ _ [_, .imm (.sl true 1 [.ptr py 0])] _ _ _ at c2
            clear ih p1 p2 p3 p4 p5 hB ho hsz hwk hin hinn ho' hB'
            rcases e3 with rfl | rfl
            · refine aI Tryz.func73 rfl rfl (nb rfl) rfl ?_
              repeat' (first | refine aF ?_ | (refine aH ?_;  first | refine aC tabOk rfl rfl rfl (nb rfl) rfl ?_ | (refine aJ rfl rfl rfl (nb rfl) rfl rfl rfl (fun hq => ?_) (fun hq => ?_) <;> (first | (simp only [sD, sE, sB, sC, sN, sM, sT, sF] at hq; try (exfalso; omega)) | skip)) | refine aD rfl rfl (nb rfl) rfl rfl rfl rfl (c1) ?_ | refine aD rfl rfl (nb rfl) rfl rfl rfl rfl (c2) ?_ | refine bY tabOk rfl rfl rfl (nb rfl) rfl rfl rfl rfl rfl rfl rfl rfl rfl ?_ | refine aY tabOk rfl rfl rfl (nb rfl) rfl rfl rfl rfl (by first | rfl | omega) (by first | omega | simp) ?_) | (refine aL ?_;  first | refine aG ?_ | refine aM ?_ | refine aS ?_ | refine aN ?_ | refine aT ?_ | refine aE (b := true) rfl (fun _ => ?_) nTf | refine aE (b := false) rfl nFt (fun _ => ?_) | refine aQ mixed (by kernel_rfl) ?_) | (refine aK ?_;  first | refine aU ?_ | refine aO ?_) | (refine aR ?_;  first | refine aZ ?_) | refine bD (bB (by kernel_rfl)) ?_)
              all_goals first
                | (exfalso; omega)
                | exact absurd rfl (by assumption)
                | (refine aP (by first | exact .inl rfl | exact .inr rfl) (aW rfl (aB rfl) (aB rfl)) rfl ?_; rfl)
            · refine aI Tryz.func73 rfl rfl (nb rfl) rfl ?_
              repeat' (first | refine aF ?_ | (refine aH ?_;  first | refine aC tabOk rfl rfl rfl (nb rfl) rfl ?_ | (refine aJ rfl rfl rfl (nb rfl) rfl rfl rfl (fun hq => ?_) (fun hq => ?_) <;> (first | (simp only [sD, sE, sB, sC, sN, sM, sT, sF] at hq; try (exfalso; omega)) | skip)) | refine aD rfl rfl (nb rfl) rfl rfl rfl rfl (c1) ?_ | refine aD rfl rfl (nb rfl) rfl rfl rfl rfl (c2) ?_ | refine bY tabOk rfl rfl rfl (nb rfl) rfl rfl rfl rfl rfl rfl rfl rfl rfl ?_ | refine aY tabOk rfl rfl rfl (nb rfl) rfl rfl rfl rfl (by first | rfl | omega) (by first | omega | simp) ?_) | (refine aL ?_;  first | refine aG ?_ | refine aM ?_ | refine bI ?_ | refine aS ?_ | refine aN ?_ | refine aE (b := true) rfl (fun _ => ?_) nTf | refine aE (b := false) rfl nFt (fun _ => ?_) | refine aQ mixed (by kernel_rfl) ?_) | (refine aK ?_;  first | refine aU ?_ | refine aO ?_) | (refine aR ?_;  first | refine aZ ?_) | refine bD (bB (by kernel_rfl)) ?_)
              all_goals first
                | (exfalso; omega)
                | exact absurd rfl (by assumption)
                | (refine aP (by first | exact .inl rfl | exact .inr rfl) (aW rfl (aB rfl) (aB rfl)) rfl ?_; rfl)
          · rw [if_neg e3]
            by_cases e4 : k = 119
            · rw [if_pos e4]
              obtain ⟨x, y, rfl, hx, hy⟩ := p4 (by omega)
              subst e4
              have wx := hwk x (by simp)
              have wy := hwk y (by simp)
              have sx := hsz x (by simp)
              have sy := hsz y (by simp)
              have c1 := qW x wx hX (by omega)
              have ho' := iV hx wx ho
              have hB' : ∀ c ∈ x :: ctx, c.size ≤ 200000 := fun c hc => by
                rcases List.mem_cons.1 hc with rfl | hc
                · omega
                · exact hB c hc
              have c2 := ih y (by omega) (x :: ctx) _ hy wy (gK false _) ho' hB' (by rw [List.length_cons]; simp only [Tree.size, Tree.sizes] at hs sy ⊢; have := eB wx; omega)
              have hfi := eM y (x :: ctx) 200000 hy wy ho' hB' (by omega)
              rw [lamK]
              unfold lam1
              generalize kindP y (x :: ctx) = Q at *
              generalize Tree.ivs (x :: ctx) = Y at *
              generalize (x :: ctx).length = L at *
              obtain ⟨px, hpx⟩ := bV (bL wx)
              obtain ⟨py, hpy⟩ := bV (bL wy)
              rw [Tree.iv, Tree.ivs, Tree.ivs, Tree.ivs, hpx, hpy]
              rw [hpx] at c1
              rw [hpy] at c2
              obtain ⟨Q1, Q2⟩ := Q
              dsimp only at *
              clear ih p1 p2 p3 p4 p5 hB ho hsz hwk hin hinn ho' hB'
              by_cases h0 : Q2 = 0
              · obtain ⟨g1, g2, g3⟩ := hfi h0
                obtain ⟨pq, hpq⟩ := bV (bL g2)
                subst h0
                rw [if_neg (by simp)]
                dsimp only
                rw [Tree.iv, Tree.ivs, Tree.ivs, Tree.ivs, hpx, hpq]
                rw [hpq] at c2
                clear hfi g1 g2 g3
                refine aI Tryz.func73 rfl rfl (nb rfl) rfl ?_
                repeat' (first | refine aF ?_ | (refine aH ?_;  first | refine aC tabOk rfl rfl rfl (nb rfl) rfl ?_ | (refine aJ rfl rfl rfl (nb rfl) rfl rfl rfl (fun hq => ?_) (fun hq => ?_) <;> (first | (simp only [sD, sE, sB, sC, sN, sM, sT, sF] at hq; try (exfalso; omega)) | skip)) | refine aD rfl rfl (nb rfl) rfl rfl rfl rfl (c1) ?_ | refine aD rfl rfl (nb rfl) rfl rfl rfl rfl (c2) ?_ | refine bY tabOk rfl rfl rfl (nb rfl) rfl rfl rfl rfl rfl rfl rfl rfl rfl ?_ | refine aV tabOk rfl rfl (nb rfl) rfl ?_ | refine aY tabOk rfl rfl rfl (nb rfl) rfl rfl rfl rfl (by first | rfl | omega) (by first | omega | simp) ?_) | (refine aL ?_;  first | refine aG ?_ | refine aM ?_ | refine bI ?_ | refine aS ?_ | refine aN ?_ | refine aT ?_ | refine aE (b := true) rfl (fun _ => ?_) nTf | refine aE (b := false) rfl nFt (fun _ => ?_) | refine aQ mixed (by kernel_rfl) ?_) | (refine aK ?_;  first | refine aU ?_ | refine aO ?_) | (refine aR ?_;  first | refine aZ ?_) | refine bD (bB (by kernel_rfl)) ?_)
                all_goals first
                  | (exfalso; omega)
                  | exact absurd rfl (by assumption)
                  | (refine aP (by first | exact .inl rfl | exact .inr rfl) (aW rfl (aB rfl) (aB rfl)) rfl ?_; rfl)
              · rw [if_pos h0]
                generalize Q1.iv = qi at *
                clear hfi
                refine aI Tryz.func73 rfl rfl (nb rfl) rfl ?_
                repeat' (first | refine aF ?_ | (refine aH ?_;  first | refine aC tabOk rfl rfl rfl (nb rfl) rfl ?_ | (refine aJ rfl rfl rfl (nb rfl) rfl rfl rfl (fun hq => ?_) (fun hq => ?_) <;> (first | (simp only [sD, sE, sB, sC, sN, sM, sT, sF] at hq; try (exfalso; omega)) | skip)) | refine aD rfl rfl (nb rfl) rfl rfl rfl rfl (c1) ?_ | refine aD rfl rfl (nb rfl) rfl rfl rfl rfl (c2) ?_ | refine aY tabOk rfl rfl rfl (nb rfl) rfl rfl rfl rfl (by first | rfl | omega) (by first | omega | simp) ?_) | (refine aL ?_;  first | refine aG ?_ | refine aM ?_ | refine bI ?_ | refine aS ?_ | refine aN ?_ | refine aE (b := true) rfl (fun _ => ?_) nTf | refine aE (b := false) rfl nFt (fun _ => ?_) | refine aQ mixed (by kernel_rfl) ?_) | (refine aK ?_;  first | refine aU ?_ | refine aO ?_) | (refine aR ?_;  first | refine aZ ?_) | refine bD (bB (by kernel_rfl)) ?_)
                all_goals first
                  | (exfalso; omega)
                  | exact absurd rfl (by assumption)
                  | (refine aP (by first | exact .inl rfl | exact .inr rfl) (aW rfl (aB rfl) (aB rfl)) rfl ?_; rfl)
            · rw [if_neg e4]
              by_cases e5 : k = 120
              · rw [if_pos e5]
                obtain ⟨x, y, rfl, hx, hy⟩ := p2 (by omega)
                subst e5
                have wx := hwk x (by simp)
                have wy := hwk y (by simp)
                have sx := hsz x (by simp)
                have sy := hsz y (by simp)
                have gF : fineK 100000000 (kindP x ctx) := fun h0 => by
                  obtain ⟨g1, g2, g3⟩ := eM x ctx 200000 hx wx ho hB (by omega) h0
                  exact ⟨g1, g2, by omega⟩
                have gG : fineK 100000000 (kindP y ctx) := fun h0 => by
                  obtain ⟨g1, g2, g3⟩ := eM y ctx 200000 hy wy ho hB (by omega) h0
                  exact ⟨g1, g2, by omega⟩
                have c1 := aCO X 120 n a b x y (kindP x ctx) (kindP y ctx) wx wy (ih x sx ctx X hx wx hX ho hB (by omega)) (ih y sy ctx X hy wy hX ho hB (by omega)) gF gG
                rw [appK]
                generalize app1 _ _ = Q at *
                rw [Tree.iv] at c1 ⊢
                generalize Tree.ivs [x, y] = Z at *
                clear ih p1 p2 p3 p4 p5 hB ho hsz hwk hin hinn gF gG
                refine aI Tryz.func73 rfl rfl (nb rfl) rfl ?_
                repeat' (first | refine aF ?_ | (refine aH ?_;  first | refine aC tabOk rfl rfl rfl (nb rfl) rfl ?_ | (refine aJ rfl rfl rfl (nb rfl) rfl rfl rfl (fun hq => ?_) (fun hq => ?_) <;> (first | (simp only [sD, sE, sB, sC, sN, sM, sT, sF] at hq; try (exfalso; omega)) | skip)) | refine aD rfl rfl (nb rfl) rfl rfl rfl rfl (c1) ?_) | (refine aL ?_;  first | refine aG ?_ | refine aM ?_ | refine bI ?_ | refine aS ?_ | refine aN ?_ | refine aE (b := true) rfl (fun _ => ?_) nTf | refine aE (b := false) rfl nFt (fun _ => ?_)) | (refine aK ?_;  first | refine aU ?_ | refine aO ?_) | (refine aR ?_;  first | refine aZ ?_))
                all_goals first
                  | (exfalso; omega)
                  | exact absurd rfl (by assumption)
                  | (refine aP (by first | exact .inl rfl | exact .inr rfl) (aW rfl (aB rfl) (aB rfl)) rfl ?_; rfl)
              · rw [if_neg e5]
                by_cases e6 : k = 121
                · rw [if_pos e6]
                  subst e6
                  have ho' := iV lQ rfl ho
                  have hB' : ∀ c ∈ starK :: ctx, c.size ≤ 200000 := fun c hc => by
                    rcases List.mem_cons.1 hc with rfl | hc
                    · show 1 ≤ 200000; omega
                    · exact hB c hc
                  have c1 := hinn 122 (p5 rfl)
                  have c2 := qW starK rfl hX (by omega)
                  have c3 := hin 122 (p5 rfl) (starK :: ctx) _ (gK false _) ho' hB' (by rw [List.length_cons]; omega)
                  have c4 := aDh 121 n a b kids (by omega) fun t ht => by
                    obtain ⟨n', a', b', c, rfl, hc⟩ := p5 rfl t ht
                    have h1 := hsz _ ht
                    have h2 := bN (k := 122) (n := n') (a := a') (b := b') (kids := [c]) (t := c) (by simp)
                    exact ⟨n', a', b', c, rfl, bC (hwk _ ht) (by simp), hc, by omega⟩
                  rw [mW] at c2
                  unfold sum1
                  generalize starsF kids (starK :: ctx) = Q at *
                  generalize fitsP kids = e at *
                  generalize (innerP kids).length = L at *
                  generalize Tree.ivs (innerP kids) = Y at *
                  generalize Tree.ivs (starK :: ctx) = W at *
                  generalize (starK :: ctx).length = M at *
                  rw [Tree.iv] at c1 c4 ⊢
                  generalize Tree.ivs kids = Z at *
                  obtain ⟨Q1, Q2⟩ := Q
                  dsimp only at *
                  generalize Q1.iv = qi at *
                  clear ih p1 p2 p3 p4 p5 hB ho hsz hwk hin hinn ho' hB'
                  by_cases h0 : Q2 = 0
                  · subst h0
                    rw [if_neg (by simp)]
                    by_cases h1 : e = 0
                    · subst h1
                      rw [if_neg (by simp), mW]
                      refine aI Tryz.func73 rfl rfl (nb rfl) rfl ?_
                      repeat' (first | refine aF ?_ | (refine aH ?_;  first | refine aC tabOk rfl rfl rfl (nb rfl) rfl ?_ | (refine aJ rfl rfl rfl (nb rfl) rfl rfl rfl (fun hq => ?_) (fun hq => ?_) <;> (first | (simp only [sD, sE, sB, sC, sN, sM, sT, sF] at hq; try (exfalso; omega)) | skip)) | refine aD rfl rfl (nb rfl) rfl rfl rfl rfl (c1) ?_ | refine aD rfl rfl (nb rfl) rfl rfl rfl rfl (c2) ?_ | refine aD rfl rfl (nb rfl) rfl rfl rfl rfl (c3) ?_ | refine aD rfl rfl (nb rfl) rfl rfl rfl rfl (c4) ?_ | refine aD rfl rfl (nb rfl) rfl rfl rfl rfl (cst) ?_) | (refine aL ?_;  first | refine aG ?_ | refine aM ?_ | refine bI ?_ | refine aS ?_ | refine aN ?_ | refine aT ?_ | refine aE (b := true) rfl (fun _ => ?_) nTf | refine aE (b := false) rfl nFt (fun _ => ?_)) | (refine aK ?_;  first | refine aU ?_) | (refine aR ?_;  first | refine bP ?_))
                      all_goals first
                        | (exfalso; omega)
                        | exact absurd rfl (by assumption)
                        | (refine aP (by first | exact .inl rfl | exact .inr rfl) (aW rfl (aB rfl) (aB rfl)) rfl ?_; rfl)
                    · rw [if_pos h1]
                      refine aI Tryz.func73 rfl rfl (nb rfl) rfl ?_
                      repeat' (first | refine aF ?_ | (refine aH ?_;  first | refine aC tabOk rfl rfl rfl (nb rfl) rfl ?_ | (refine aJ rfl rfl rfl (nb rfl) rfl rfl rfl (fun hq => ?_) (fun hq => ?_) <;> (first | (simp only [sD, sE, sB, sC, sN, sM, sT, sF] at hq; try (exfalso; omega)) | skip)) | refine aD rfl rfl (nb rfl) rfl rfl rfl rfl (c1) ?_ | refine aD rfl rfl (nb rfl) rfl rfl rfl rfl (c2) ?_ | refine aD rfl rfl (nb rfl) rfl rfl rfl rfl (c3) ?_ | refine aD rfl rfl (nb rfl) rfl rfl rfl rfl (c4) ?_ | refine aD rfl rfl (nb rfl) rfl rfl rfl rfl (cst) ?_) | (refine aL ?_;  first | refine aG ?_ | refine aM ?_ | refine bI ?_ | refine aS ?_ | refine aN ?_ | refine aT ?_ | refine aE (b := true) rfl (fun _ => ?_) nTf | refine aE (b := false) rfl nFt (fun _ => ?_)) | (refine aK ?_;  first | refine aU ?_ | refine aO ?_) | (refine aR ?_;  first | refine aZ ?_))
                      all_goals first
                        | (exfalso; omega)
                        | exact absurd rfl (by assumption)
                        | (refine aP (by first | exact .inl rfl | exact .inr rfl) (aW rfl (aB rfl) (aB rfl)) rfl ?_; rfl)
                  · rw [if_pos h0]
                    refine aI Tryz.func73 rfl rfl (nb rfl) rfl ?_
                    repeat' (first | refine aF ?_ | (refine aH ?_;  first | refine aC tabOk rfl rfl rfl (nb rfl) rfl ?_ | (refine aJ rfl rfl rfl (nb rfl) rfl rfl rfl (fun hq => ?_) (fun hq => ?_) <;> (first | (simp only [sD, sE, sB, sC, sN, sM, sT, sF] at hq; try (exfalso; omega)) | skip)) | refine aD rfl rfl (nb rfl) rfl rfl rfl rfl (c1) ?_ | refine aD rfl rfl (nb rfl) rfl rfl rfl rfl (c2) ?_ | refine aD rfl rfl (nb rfl) rfl rfl rfl rfl (c3) ?_ | refine aD rfl rfl (nb rfl) rfl rfl rfl rfl (cst) ?_) | (refine aL ?_;  first | refine aG ?_ | refine aM ?_ | refine bI ?_ | refine aS ?_ | refine aN ?_ | refine aE (b := true) rfl (fun _ => ?_) nTf | refine aE (b := false) rfl nFt (fun _ => ?_)) | (refine aK ?_;  first | refine aU ?_ | refine aO ?_) | (refine aR ?_;  first | refine aZ ?_))
                    all_goals first
                      | (exfalso; omega)
                      | exact absurd rfl (by assumption)
                      | (refine aP (by first | exact .inl rfl | exact .inr rfl) (aW rfl (aB rfl) (aB rfl)) rfl ?_; rfl)
                · rw [if_neg e6, mW]
                  rw [Tree.iv]
                  generalize Tree.ivs kids = Z at *
                  clear ih p1 p2 p3 p4 p5 hB ho hsz hwk hin hinn
                  refine aI Tryz.func73 rfl rfl (nb rfl) rfl ?_
                  repeat' (first | refine aF ?_ | (refine aH ?_;  first | refine aC tabOk rfl rfl rfl (nb rfl) rfl ?_ | (refine aJ rfl rfl rfl (nb rfl) rfl rfl rfl (fun hq => ?_) (fun hq => ?_) <;> (first | (simp only [sD, sE, sB, sC, sN, sM, sT, sF] at hq; try (exfalso; omega)) | skip)) | refine aD rfl rfl (nb rfl) rfl rfl rfl rfl (cst) ?_) | (refine aL ?_;  first | refine aG ?_ | refine aM ?_ | refine bI ?_ | refine aS ?_ | refine aN ?_ | refine aT ?_ | refine aE (b := false) rfl nFt (fun _ => ?_)) | (refine aK ?_;  first | refine aU ?_) | (refine aR ?_;  first | refine bP ?_))
                  all_goals first
                    | (exfalso; omega)
                    | exact absurd rfl (by assumption)
                    | (refine aP (by first | exact .inl rfl | exact .inr rfl) (aW rfl (aB rfl) (aB rfl)) rfl ?_; rfl)
end Go.Proofs.YtlbemgokilhdnaaGreat.Ab
namespace Go.Proofs.YtlbemgokilhdnaaGreat.Ab
set_option linter.unusedVariables false
set_option linter.unusedSimpArgs false
open Go.RowKit
attribute [local irreducible] AWP AOps AExit AThen ABlock ANoGoto FeetOk
/-- A context of kinds that were checked. -/
def okK (ks : List Tree) : Prop := ∀ K ∈ ks, checkP isKindP K = 0
theorem zY {ks : List Tree} (h : okK ks) : okCtx ks := fun K hK => by
  obtain ⟨h1, _, h3⟩ := bG (h K hK)
  exact ⟨h3, h1⟩
theorem wU {ks : List Tree} (h : okK ks) : ∀ K ∈ ks, K.size ≤ 200000 := fun K hK => by
  obtain ⟨_, h2, _⟩ := bG (h K hK)
  omega
set_option maxHeartbeats 16000000 in
set_option maxRecDepth 10000 in
theorem aCd {X : IV} {ks : List Tree} (hX : rowIV X ks) (hk : okK ks) (hl : ks.length ≤ 100000) (c : Tree) (hs : c.size ≤ 100000000) :
    ACalls Tryz.prog 37 [.imm X, .imm c.iv] [] (.imm (.tup [(KindP ks c).1.iv, .lit (.int .i64 (KindP ks c).2)])) [] := by
  have c1 := dX c hs
  have c2 : checkP isConP c = 0 → ACalls Tryz.prog 73 [.imm X, .imm c.iv] [] (.imm (.tup [(kindP c ks).1.iv, .lit (.int .i64 (kindP c ks).2)])) [] := fun h => by
    obtain ⟨h1, h2, h3⟩ := bG h
    exact aDi c ks X h3 h1 hX (zY hk) (wU hk) (by omega)
  unfold KindP
  generalize kindP c ks = Q at *
  generalize checkP isConP c = e at *
  rcases hX with ⟨f, rfl⟩ | ⟨rfl, rfl⟩
  · refine aI Tryz.func37 rfl rfl (nb rfl) rfl ?_
    repeat' (first | refine aF ?_ | (refine aH ?_;  first | refine aC tabOk rfl rfl rfl (nb rfl) rfl ?_ | refine aV tabOk rfl rfl (nb rfl) rfl ?_) | (refine aL ?_;  first | refine aG ?_ | refine aM ?_ | refine aS ?_))
    refine cD (ι := {j : Nat // j ≤ ks.length}) (fun j => S.f ⟨[(13, .imm (.lit (.int .i64 (j.1 : Int)))), (12, .imm (.lit (.int .i64 (ks.length : Int)))), (11, .imm (.sl f ks.length (Tree.ivs ks))), (0, .imm (.sl f ks.length (Tree.ivs ks))), (1, .imm c.iv), (6, .imm (.lit (.int .i64 0)))], []⟩) (fun j => ks.length - j.1) ⟨0, Nat.zero_le _⟩ (bU (by repeat' first | exact trivial | refine ⟨rfl, ?_⟩) (by repeat' first | exact trivial | refine ⟨rfl, ?_⟩)) ?_
    rintro ⟨j, hj⟩
    dsimp only
    by_cases hlt : j < ks.length
    · have hget := cG ks j hlt
      have hkj := hk _ (List.getElem_mem hlt)
      have c3 := pZ ks[j] (by have := (bG hkj).2.1; omega)
      rw [hkj] at c3
      generalize Tree.ivs ks = Z at *
      repeat' (first | refine aF ?_ | (refine aH ?_;  first | refine aC tabOk rfl rfl rfl (nb rfl) rfl ?_ | (refine aJ rfl rfl rfl (nb rfl) rfl rfl rfl (fun hq => ?_) (fun hq => ?_) <;> (first | (simp only [sD, sE, sB, sC, sN, sM, sT, sF] at hq; try (exfalso; omega)) | skip)) | refine bE tabOk rfl rfl rfl (nb rfl) rfl rfl rfl hget ?_ | refine aD rfl rfl (nb rfl) rfl rfl rfl rfl (c3) ?_ | refine bQ rfl rfl rfl (nb rfl) rfl rfl (by omega) ?_ | refine bF tabOk rfl rfl rfl (nb rfl) rfl rfl rfl rfl (by first | assumption | omega) ?_) | (refine aL ?_;  first | refine aG ?_ | refine aM ?_ | refine bI ?_ | refine aS ?_ | refine aT ?_ | refine aE (b := true) rfl (fun _ => ?_) nTf) | (refine aK ?_;  first | refine aU ?_) | (refine aR ?_;  first | refine bP ?_))
      all_goals first
        | (exfalso; omega)
        | exact absurd rfl (by assumption)
        | exact ⟨⟨j + 1, hlt⟩, (by show ks.length - (j + 1) < ks.length - j; omega), (bU (by repeat' first | exact trivial | refine ⟨rfl, ?_⟩) (by repeat' first | exact trivial | refine ⟨rfl, ?_⟩))⟩
    · have ej : j = ks.length := by omega
      subst ej
      generalize Tree.ivs ks = Z at *
      by_cases h0 : e = 0
      · have c4 := c2 h0
        subst h0
        rw [if_neg (by simp)]
        obtain ⟨Q1, Q2⟩ := Q
        dsimp only at *
        generalize Q1.iv = qi at *
        repeat' (first | refine aF ?_ | (refine aH ?_;  first | refine aC tabOk rfl rfl rfl (nb rfl) rfl ?_ | (refine aJ rfl rfl rfl (nb rfl) rfl rfl rfl (fun hq => ?_) (fun hq => ?_) <;> (first | (simp only [sD, sE, sB, sC, sN, sM, sT, sF] at hq; try (exfalso; omega)) | skip)) | refine aD rfl rfl (nb rfl) rfl rfl rfl rfl (c1) ?_ | refine aD rfl rfl (nb rfl) rfl rfl rfl rfl (c4) ?_) | (refine aL ?_;  first | refine aG ?_ | refine aM ?_ | refine aN ?_ | refine bR ?_ | refine aT ?_ | refine aE (b := false) rfl nFt (fun _ => ?_)) | (refine aK ?_;  first | refine aU ?_ | refine bJ ?_) | (refine aR ?_;  first | refine bH ?_))
        all_goals first
          | (exfalso; omega)
          | exact absurd rfl (by assumption)
          | (refine aP (by first | exact .inl rfl | exact .inr rfl) (aW rfl (aB rfl) (aB rfl)) rfl ?_; rfl)
      · rw [if_pos h0]
        repeat' (first | refine aF ?_ | (refine aH ?_;  first | refine aC tabOk rfl rfl rfl (nb rfl) rfl ?_ | (refine aJ rfl rfl rfl (nb rfl) rfl rfl rfl (fun hq => ?_) (fun hq => ?_) <;> (first | (simp only [sD, sE, sB, sC, sN, sM, sT, sF] at hq; try (exfalso; omega)) | skip)) | refine aD rfl rfl (nb rfl) rfl rfl rfl rfl (c1) ?_) | (refine aL ?_;  first | refine aG ?_ | refine aM ?_ | refine aN ?_ | refine bR ?_ | refine aE (b := true) rfl (fun _ => ?_) nTf | refine aE (b := false) rfl nFt (fun _ => ?_)) | (refine aK ?_;  first | refine aU ?_ | refine bJ ?_ | refine aO ?_) | (refine aR ?_;  first | refine bH ?_))
        all_goals first
          | (exfalso; omega)
          | exact absurd rfl (by assumption)
          | (refine aP (by first | exact .inl rfl | exact .inr rfl) (aW rfl (aB rfl) (aB rfl)) rfl ?_; rfl)
  · refine aI Tryz.func37 rfl rfl (nb rfl) rfl ?_
    repeat' (first | refine aF ?_ | (refine aH ?_;  first | refine aC tabOk rfl rfl rfl (nb rfl) rfl ?_ | refine aV tabOk rfl rfl (nb rfl) rfl ?_) | (refine aL ?_;  first | refine aG ?_ | refine aM ?_ | refine aS ?_))
    refine cD (ι := Unit) (fun _ => S.f ⟨[(13, .imm (.lit (.int .i64 0))), (12, .imm (.lit (.int .i64 0))), (0, .imm (.lit (.slice none 0 0))), (1, .imm c.iv), (6, .imm (.lit (.int .i64 0)))], []⟩) (fun _ => 0) () (bU (by repeat' first | exact trivial | refine ⟨rfl, ?_⟩) (by repeat' first | exact trivial | refine ⟨rfl, ?_⟩)) ?_
    rintro ⟨⟩
    by_cases h0 : e = 0
    · have c4 := c2 h0
      subst h0
      rw [if_neg (by simp)]
      obtain ⟨Q1, Q2⟩ := Q
      dsimp only at *
      generalize Q1.iv = qi at *
      repeat' (first | refine aF ?_ | (refine aH ?_;  first | refine aC tabOk rfl rfl rfl (nb rfl) rfl ?_ | (refine aJ rfl rfl rfl (nb rfl) rfl rfl rfl (fun hq => ?_) (fun hq => ?_) <;> (first | (simp only [sD, sE, sB, sC, sN, sM, sT, sF] at hq; try (exfalso; omega)) | skip)) | refine aD rfl rfl (nb rfl) rfl rfl rfl rfl (c1) ?_ | refine aD rfl rfl (nb rfl) rfl rfl rfl rfl (c4) ?_) | (refine aL ?_;  first | refine aG ?_ | refine aM ?_ | refine aN ?_ | refine bR ?_ | refine aT ?_ | refine aE (b := false) rfl nFt (fun _ => ?_)) | (refine aK ?_;  first | refine aU ?_ | refine bJ ?_) | (refine aR ?_;  first | refine bH ?_))
      all_goals first
        | (exfalso; omega)
        | exact absurd rfl (by assumption)
        | (refine aP (by first | exact .inl rfl | exact .inr rfl) (aW rfl (aB rfl) (aB rfl)) rfl ?_; rfl)
    · rw [if_pos h0]
      repeat' (first | refine aF ?_ | (refine aH ?_;  first | refine aC tabOk rfl rfl rfl (nb rfl) rfl ?_ | (refine aJ rfl rfl rfl (nb rfl) rfl rfl rfl (fun hq => ?_) (fun hq => ?_) <;> (first | (simp only [sD, sE, sB, sC, sN, sM, sT, sF] at hq; try (exfalso; omega)) | skip)) | refine aD rfl rfl (nb rfl) rfl rfl rfl rfl (c1) ?_) | (refine aL ?_;  first | refine aG ?_ | refine aM ?_ | refine aN ?_ | refine bR ?_ | refine aE (b := true) rfl (fun _ => ?_) nTf | refine aE (b := false) rfl nFt (fun _ => ?_)) | (refine aK ?_;  first | refine aU ?_ | refine bJ ?_ | refine aO ?_) | (refine aR ?_;  first | refine bH ?_))
      all_goals first
        | (exfalso; omega)
        | exact absurd rfl (by assumption)
        | (refine aP (by first | exact .inl rfl | exact .inr rfl) (aW rfl (aB rfl) (aB rfl)) rfl ?_; rfl)
theorem rF (ks : List Tree) (c : Tree) (hk : okK ks) : fineK 400000 (KindP ks c) := fun h => by
  unfold KindP at h ⊢
  split at h
  · rename_i h1; exact absurd h h1
  · rename_i h1
    rw [if_neg h1]
    obtain ⟨g1, g2, g3⟩ := bG (show checkP isConP c = 0 by simpa using h1)
    obtain ⟨f1, f2, f3⟩ := eM c ks 200000 g3 g1 (zY hk) (wU hk) (by omega) h
    exact ⟨f1, f2, by omega⟩
set_option maxHeartbeats 4000000 in
set_option maxRecDepth 10000 in
theorem zE {X : IV} {ks : List Tree} (hX : rowIV X ks) (hk : okK ks) (hl : ks.length ≤ 100000) (c : Tree) (hs : c.size ≤ 100000000) :
    ACalls Tryz.prog 16 [.imm X, .imm c.iv] [] (.imm (.lit (.int .i64 (starE ks c)))) [] := by
  have c1 := aCd hX hk hl c hs
  have hf := rF ks c hk
  unfold starE
  generalize KindP ks c = Q at *
  obtain ⟨Q1, Q2⟩ := Q
  dsimp only at *
  by_cases h0 : Q2 = 0
  · obtain ⟨g1, g2, g3⟩ := hf h0
    subst h0
    obtain ⟨k, n, a, b, ks', rfl⟩ := bT g2
    rw [Tree.iv] at c1
    generalize Tree.ivs ks' = Z at *
    rw [Tree.kind]
    by_cases h1 : k = 100
    · subst h1
      rw [if_neg (by simp)]
      clear hf g1 g2 g3
      refine aI Tryz.func16 rfl rfl (nb rfl) rfl ?_
      repeat' (first | refine aF ?_ | (refine aH ?_;  first | refine aC tabOk rfl rfl rfl (nb rfl) rfl ?_ | (refine aJ rfl rfl rfl (nb rfl) rfl rfl rfl (fun hq => ?_) (fun hq => ?_) <;> (first | (simp only [sD, sE, sB, sC, sN, sM, sT, sF] at hq; try (exfalso; omega)) | skip)) | refine aD rfl rfl (nb rfl) rfl rfl rfl rfl (c1) ?_) | (refine aL ?_;  first | refine aG ?_ | refine aM ?_ | refine aN ?_ | refine aT ?_ | refine aE (b := false) rfl nFt (fun _ => ?_)) | (refine aK ?_;  first | refine aU ?_))
      all_goals first
        | (exfalso; omega)
        | exact absurd rfl (by assumption)
        | (refine aP (by first | exact .inl rfl | exact .inr rfl) (aX rfl (aB rfl)) rfl ?_; rfl)
    · rw [if_pos ⟨rfl, h1⟩]
      clear hf g1 g2 g3
      refine aI Tryz.func16 rfl rfl (nb rfl) rfl ?_
      repeat' (first | refine aF ?_ | (refine aH ?_;  first | refine aC tabOk rfl rfl rfl (nb rfl) rfl ?_ | (refine aJ rfl rfl rfl (nb rfl) rfl rfl rfl (fun hq => ?_) (fun hq => ?_) <;> (first | (simp only [sD, sE, sB, sC, sN, sM, sT, sF] at hq; try (exfalso; omega)) | skip)) | refine aD rfl rfl (nb rfl) rfl rfl rfl rfl (c1) ?_) | (refine aL ?_;  first | refine aG ?_ | refine aM ?_ | refine aN ?_ | refine aE (b := true) rfl (fun _ => ?_) nTf) | (refine aK ?_;  first | refine aO ?_))
      all_goals first
        | (exfalso; omega)
        | exact absurd rfl (by assumption)
        | (refine aP (by first | exact .inl rfl | exact .inr rfl) (aX rfl (aB rfl)) rfl ?_; rfl)
  · rw [if_neg fun h => h0 h.1]
    generalize Q1.iv = qi at *
    clear hf
    refine aI Tryz.func16 rfl rfl (nb rfl) rfl ?_
    repeat' (first | refine aF ?_ | (refine aH ?_;  first | refine aC tabOk rfl rfl rfl (nb rfl) rfl ?_ | refine bO rfl rfl (nb rfl) ?_ | (refine aJ rfl rfl rfl (nb rfl) rfl rfl rfl (fun hq => ?_) (fun hq => ?_) <;> (first | (simp only [sD, sE, sB, sC, sN, sM, sT, sF] at hq; try (exfalso; omega)) | skip)) | refine aD rfl rfl (nb rfl) rfl rfl rfl rfl (c1) ?_) | (refine aL ?_;  first | refine aG ?_ | refine aM ?_ | refine aN ?_ | refine aT ?_ | refine aE (b := false) rfl nFt (fun _ => ?_)) | (refine aK ?_;  first | refine aU ?_))
    all_goals first
      | (exfalso; omega)
      | exact absurd rfl (by assumption)
      | (refine aP (by first | exact .inl rfl | exact .inr rfl) (aX rfl (aB rfl)) rfl ?_; rfl)
end Go.Proofs.YtlbemgokilhdnaaGreat.Ab
namespace Go.Proofs.YtlbemgokilhdnaaGreat.Ab
set_option linter.unusedVariables false
set_option linter.unusedSimpArgs false
open Go.RowKit
theorem wV {P : Program} {fn : Func} {r r' : AV} {e : Exit} {s : List (Nat × AV)} {m m0 m' : Mem} (he : e = .normal ∨ e = .ret) (hr : Results P fn (S.f ⟨s, m⟩) r') (hn : ∀ g ∈ r'.names, m'.get g ≠ none) (hl : LeM m m') (hm : m'.all (fun p => p.2.names.isEmpty) = true) (h : r' = r) : AExit P fn m0.get r m'.get e (S.f ⟨s, m⟩) := by
  subst h
  refine ⟨he, hr, fun g o hg => hl.get g o hg, fun g hg => .inr (hn g hg), fun g o hg k hk => ?_⟩
  have key : ∀ l : Mem, l.all (fun p => p.2.names.isEmpty) = true → l.get g = some o → o.names = [] := by
    intro l
    induction l with
    | nil => intro _ h; cases h
    | cons p l ih =>
      intro h1 h2
      rw [List.all_cons, Bool.and_eq_true] at h1
      simp only [Mem.get] at h2
      split at h2
      · cases h2; simpa using h1.1
      · exact ih h1.2 h2
  rw [key m' hm hg] at hk
  cases hk
attribute [local irreducible] AWP AOps AExit AThen ABlock ANoGoto FeetOk
/-- A context, as a struct of two lists. -/
abbrev cIV (ks ts : List Tree) : IV := .agg [.sl false ks.length (Tree.ivs ks), .sl false ts.length (Tree.ivs ts)]
set_option maxHeartbeats 4000000 in
set_option maxRecDepth 10000 in
theorem aCe (k : Int) (px py : List IV) (f : Bool) : ACalls Tryz.prog 77 [.imm (.lit (.int .i64 k)), .imm (.sl f 2 [.ptr px 0, .ptr py 0])] [] (.imm (.ptr [.lit (.int .i64 k), .lit (.int .i64 0), .lit (.string ⟨#[]⟩), .lit (.string ⟨#[]⟩), .sl false 2 [.ptr px 0, .ptr py 0]] 0)) [] := by
  cases f
  · refine aI Tryz.func77 rfl rfl (nb rfl) rfl ?_
    repeat' (first | refine aF ?_ | (refine aH ?_;  first | refine aC tabOk rfl rfl rfl (nb rfl) rfl ?_ | refine aV tabOk rfl rfl (nb rfl) rfl ?_) | (refine aL ?_;  first | refine aG ?_ | refine aN ?_))
    all_goals (refine aP (by first | exact .inl rfl | exact .inr rfl) (aX rfl (aB rfl)) rfl ?_; rfl)
  · refine aI Tryz.func77 rfl rfl (nb rfl) rfl ?_
    repeat' (first | refine aF ?_ | (refine aH ?_;  first | refine aC tabOk rfl rfl rfl (nb rfl) rfl ?_ | refine aV tabOk rfl rfl (nb rfl) rfl ?_) | (refine aL ?_;  first | refine aG ?_ | refine aN ?_))
    all_goals (refine aP (by first | exact .inl rfl | exact .inr rfl) (aX rfl (aB rfl)) rfl ?_; rfl)
set_option maxHeartbeats 4000000 in
set_option maxRecDepth 10000 in
theorem zF (k : Int) : ACalls Tryz.prog 77 [.imm (.lit (.int .i64 k)), .imm (.lit (.slice none 0 0))] [] (.imm (tyT k []).iv) [] := by
  show ACalls _ _ _ _ (.imm (.ptr [.lit (.int .i64 k), .lit (.int .i64 0), .lit (.string ⟨#[]⟩), .lit (.string ⟨#[]⟩), .sl false 0 []] 0)) _
  refine aI Tryz.func77 rfl rfl (nb rfl) rfl ?_
  repeat' (first | refine aF ?_ | (refine aH ?_;  first | refine aC tabOk rfl rfl rfl (nb rfl) rfl ?_ | refine aV tabOk rfl rfl (nb rfl) rfl ?_) | (refine aL ?_;  first | refine aG ?_ | refine aN ?_))
  all_goals (refine aP (by first | exact .inl rfl | exact .inr rfl) (aX rfl (aB rfl)) rfl ?_; rfl)
set_option maxHeartbeats 4000000 in
set_option maxRecDepth 10000 in
/-- con, of which a variable is to be made. -/
theorem aDj (k : Int) : ACalls Tryz.prog 77 [.imm (.lit (.int .i64 k)), .imm (.lit (.slice none 0 0))] [(600, .fut)] (.obj 600 0)
    [(600, .cells [.imm (.lit (.int .i64 k)), .imm (.lit (.int .i64 0)), .imm (.lit (.string ⟨#[]⟩)), .imm (.lit (.string ⟨#[]⟩)), .imm (.lit (.slice none 0 0))])] := by
  refine bX [600] Tryz.func77 rfl rfl (nb rfl) rfl rfl ?_
  repeat' (first | refine aF ?_ | (refine aH ?_;  first | refine aC tabOk rfl rfl rfl (nb rfl) rfl ?_ | refine dZ (d := 7) tabOk rfl rfl rfl (nb rfl) rfl rfl rfl rfl rfl ?_ | refine aAJ 600 (d := 8) rfl rfl rfl (nb rfl) rfl rfl rfl rfl rfl ?_) | (refine aL ?_;  first | refine aG ?_ | refine aN ?_))
  all_goals
    (refine cC (wV (by first | exact .inl rfl | exact .inr rfl) (aX rfl (aB rfl)) (by intro g hg; rw [List.mem_singleton.1 hg]; simp [Mem.get]) (by repeat' first | exact trivial | refine ⟨rfl, ?_⟩) rfl ?_); rfl)
set_option maxHeartbeats 4000000 in
set_option maxRecDepth 10000 in
theorem nC (n b : Tree) (hs : n.size ≤ 100000000) (hb : b.size ≤ 100000000) : ACalls Tryz.prog 141 [.imm n.iv, .imm b.iv] [] (.imm (.tup [(filledP n b).1.iv, .lit (.int .i64 (filledP n b).2)])) [] := by
  have c1 := uA n 0 b hs hb
  have hf := fun h => (eY n 0 b h).2.1
  unfold filledP
  generalize substP n 0 b = R at *
  obtain ⟨R1, R2⟩ := R
  dsimp only at *
  by_cases h0 : R2 = 0
  · have c2 := mL R1 (by have := hf h0; omega)
    subst h0
    rw [if_neg (by simp)]
    generalize normalP 1000 R1 = Q at *
    obtain ⟨Q1, Q2⟩ := Q
    dsimp only at *
    generalize Q1.iv = qi at *
    generalize R1.iv = ri at *
    refine aI Tryz.func141 rfl rfl (nb rfl) rfl ?_
    repeat' (first | refine aF ?_ | (refine aH ?_;  first | refine aC tabOk rfl rfl rfl (nb rfl) rfl ?_ | (refine aJ rfl rfl rfl (nb rfl) rfl rfl rfl (fun hq => ?_) (fun hq => ?_) <;> (first | (simp only [sD, sE, sB, sC, sN, sM, sT, sF] at hq; try (exfalso; omega)) | skip)) | refine aD rfl rfl (nb rfl) rfl rfl rfl rfl (c1) ?_ | refine aD rfl rfl (nb rfl) rfl rfl rfl rfl (c2) ?_) | (refine aL ?_;  first | refine aG ?_ | refine aM ?_ | refine aN ?_ | refine aT ?_ | refine aE (b := false) rfl nFt (fun _ => ?_)) | (refine aK ?_;  first | refine aU ?_))
    all_goals first
      | (exfalso; omega)
      | exact absurd rfl (by assumption)
      | (refine aP (by first | exact .inl rfl | exact .inr rfl) (aW rfl (aB rfl) (aB rfl)) rfl ?_; rfl)
  · rw [if_pos h0]
    generalize R1.iv = ri at *
    refine aI Tryz.func141 rfl rfl (nb rfl) rfl ?_
    repeat' (first | refine aF ?_ | (refine aH ?_;  first | refine aC tabOk rfl rfl rfl (nb rfl) rfl ?_ | (refine aJ rfl rfl rfl (nb rfl) rfl rfl rfl (fun hq => ?_) (fun hq => ?_) <;> (first | (simp only [sD, sE, sB, sC, sN, sM, sT, sF] at hq; try (exfalso; omega)) | skip)) | refine aD rfl rfl (nb rfl) rfl rfl rfl rfl (c1) ?_) | (refine aL ?_;  first | refine aG ?_ | refine aM ?_ | refine aN ?_ | refine aE (b := true) rfl (fun _ => ?_) nTf) | (refine aK ?_;  first | refine aO ?_))
    all_goals first
      | (exfalso; omega)
      | exact absurd rfl (by assumption)
      | (refine aP (by first | exact .inl rfl | exact .inr rfl) (aW rfl (aB rfl) (aB rfl)) rfl ?_; rfl)
set_option maxHeartbeats 4000000 in
set_option maxRecDepth 10000 in
theorem aCU (ks ts : List Tree) (hk : okK ks) (hl : ks.length ≤ 100000) (c : Tree) (hs : c.size ≤ 100000000) :
    ACalls Tryz.prog 138 [.imm (cIV ks ts), .imm c.iv] [] (.imm (.tup [(starT ks c).1.iv, .lit (.int .i64 (starT ks c).2)])) [] := by
  have c1 := zE (gK false ks) hk hl c hs
  have c2 := mL c hs
  unfold starT cIV
  generalize starE ks c = e at *
  generalize normalP 1000 c = Q at *
  obtain ⟨Q1, Q2⟩ := Q
  dsimp only at *
  generalize Tree.ivs ks = KI at *
  generalize Tree.ivs ts = TI at *
  generalize ks.length = kl at *
  generalize ts.length = tl at *
  by_cases h0 : e = 0
  · subst h0
    rw [if_neg (by simp)]
    dsimp only
    generalize Q1.iv = qi at *
    refine aI Tryz.func138 rfl rfl (nb rfl) rfl ?_
    repeat' (first | refine aF ?_ | (refine aH ?_;  first | refine aC tabOk rfl rfl rfl (nb rfl) rfl ?_ | (refine aJ rfl rfl rfl (nb rfl) rfl rfl rfl (fun hq => ?_) (fun hq => ?_) <;> (first | (simp only [sD, sE, sB, sC, sN, sM, sT, sF] at hq; try (exfalso; omega)) | skip)) | refine aD rfl rfl (nb rfl) rfl rfl rfl rfl (c1) ?_ | refine aD rfl rfl (nb rfl) rfl rfl rfl rfl (c2) ?_ | refine aV tabOk rfl rfl (nb rfl) rfl ?_) | (refine aL ?_;  first | refine aG ?_ | refine aM ?_ | refine aN ?_ | refine aT ?_ | refine aE (b := false) rfl nFt (fun _ => ?_)) | (refine aK ?_;  first | refine aU ?_))
    all_goals first
      | (exfalso; omega)
      | exact absurd rfl (by assumption)
      | (refine aP (by first | exact .inl rfl | exact .inr rfl) (aW rfl (aB rfl) (aB rfl)) rfl ?_; rfl)
  · rw [if_pos h0]
    refine aI Tryz.func138 rfl rfl (nb rfl) rfl ?_
    repeat' (first | refine aF ?_ | (refine aH ?_;  first | refine aC tabOk rfl rfl rfl (nb rfl) rfl ?_ | (refine aJ rfl rfl rfl (nb rfl) rfl rfl rfl (fun hq => ?_) (fun hq => ?_) <;> (first | (simp only [sD, sE, sB, sC, sN, sM, sT, sF] at hq; try (exfalso; omega)) | skip)) | refine aD rfl rfl (nb rfl) rfl rfl rfl rfl (c1) ?_ | refine aV tabOk rfl rfl (nb rfl) rfl ?_) | (refine aL ?_;  first | refine aG ?_ | refine aM ?_ | refine aN ?_ | refine aE (b := true) rfl (fun _ => ?_) nTf) | (refine aK ?_;  first | refine aO ?_))
    all_goals first
      | (exfalso; omega)
      | exact absurd rfl (by assumption)
      | (refine aP (by first | exact .inl rfl | exact .inr rfl) (aW rfl (aB rfl) (aB rfl)) rfl ?_; rfl)
set_option maxHeartbeats 4000000 in
set_option maxRecDepth 10000 in
theorem as_a (ks ts : List Tree) (x : Tree) (R : Tree × Int) (kind : Int) (hw : R.2 = 0 → R.1.whole = true)
    (c1 : ACalls Tryz.prog 45 [.imm (cIV ks ts), .imm x.iv] [] (.imm (.tup [R.1.iv, .lit (.int .i64 R.2)])) []) :
    ACalls Tryz.prog 139 [.imm (cIV ks ts), .imm x.iv, .imm (.lit (.int .i64 kind))] [] (.imm (.tup [(asP R kind).1.iv, .lit (.int .i64 (asP R kind).2)])) [] := by
  obtain ⟨Q1, Q2⟩ := R
  unfold asP
  unfold cIV at *
  dsimp only at *
  generalize Tree.ivs ks = KI at *
  generalize Tree.ivs ts = TI at *
  generalize ks.length = kl at *
  generalize ts.length = tl at *
  by_cases h0 : Q2 = 0
  · obtain ⟨k, n, a, b, kids, rfl⟩ := bT (hw h0)
    subst h0
    rw [Tree.kind]
    clear hw
    by_cases h1 : k = kind
    · rw [if_neg (by simpa using h1)]
      subst h1
      rw [Tree.iv] at *
      generalize Tree.ivs kids = Z at *
      refine aI Tryz.func139 rfl rfl (nb rfl) rfl ?_
      repeat' (first | refine aF ?_ | (refine aH ?_;  first | refine aC tabOk rfl rfl rfl (nb rfl) rfl ?_ | (refine aJ rfl rfl rfl (nb rfl) rfl rfl rfl (fun hq => ?_) (fun hq => ?_) <;> (first | (simp only [sD, sE, sB, sC, sN, sM, sT, sF] at hq; try (exfalso; omega)) | skip)) | refine aD rfl rfl (nb rfl) rfl rfl rfl rfl (c1) ?_ | refine aV tabOk rfl rfl (nb rfl) rfl ?_) | (refine aL ?_;  first | refine aG ?_ | refine aM ?_ | refine aN ?_ | refine aT ?_ | refine aE (b := false) rfl nFt (fun _ => ?_)) | (refine aK ?_;  first | refine aU ?_))
      all_goals first
        | (exfalso; omega)
        | exact absurd rfl (by assumption)
        | (refine aP (by first | exact .inl rfl | exact .inr rfl) (aW rfl (aB rfl) (aB rfl)) rfl ?_; rfl)
    · rw [if_pos ⟨rfl, h1⟩]
      rw [Tree.iv] at c1
      generalize Tree.ivs kids = Z at *
      refine aI Tryz.func139 rfl rfl (nb rfl) rfl ?_
      repeat' (first | refine aF ?_ | (refine aH ?_;  first | refine aC tabOk rfl rfl rfl (nb rfl) rfl ?_ | (refine aJ rfl rfl rfl (nb rfl) rfl rfl rfl (fun hq => ?_) (fun hq => ?_) <;> (first | (simp only [sD, sE, sB, sC, sN, sM, sT, sF] at hq; try (exfalso; omega)) | skip)) | refine aD rfl rfl (nb rfl) rfl rfl rfl rfl (c1) ?_ | refine aV tabOk rfl rfl (nb rfl) rfl ?_) | (refine aL ?_;  first | refine aG ?_ | refine aM ?_ | refine aN ?_ | refine aE (b := true) rfl (fun _ => ?_) nTf) | (refine aK ?_;  first | refine aO ?_))
      all_goals first
        | (exfalso; omega)
        | exact absurd rfl (by assumption)
        | (refine aP (by first | exact .inl rfl | exact .inr rfl) (aW rfl (aB rfl) (aB rfl)) rfl ?_; rfl)
  · rw [if_neg fun h => h0 h.1]
    generalize Q1.iv = qi at *
    clear hw
    refine aI Tryz.func139 rfl rfl (nb rfl) rfl ?_
    repeat' (first | refine aF ?_ | (refine aH ?_;  first | refine aC tabOk rfl rfl rfl (nb rfl) rfl ?_ | refine bO rfl rfl (nb rfl) ?_ | (refine aJ rfl rfl rfl (nb rfl) rfl rfl rfl (fun hq => ?_) (fun hq => ?_) <;> (first | (simp only [sD, sE, sB, sC, sN, sM, sT, sF] at hq; try (exfalso; omega)) | skip)) | refine aD rfl rfl (nb rfl) rfl rfl rfl rfl (c1) ?_ | refine aV tabOk rfl rfl (nb rfl) rfl ?_) | (refine aL ?_;  first | refine aG ?_ | refine aM ?_ | refine aN ?_ | refine aT ?_ | refine aE (b := false) rfl nFt (fun _ => ?_)) | (refine aK ?_;  first | refine aU ?_))
    all_goals first
      | (exfalso; omega)
      | exact absurd rfl (by assumption)
      | (refine aP (by first | exact .inl rfl | exact .inr rfl) (aW rfl (aB rfl) (aB rfl)) rfl ?_; rfl)
end Go.Proofs.YtlbemgokilhdnaaGreat.Ab
namespace Go.Proofs.YtlbemgokilhdnaaGreat.Ab
set_option linter.unusedVariables false
set_option linter.unusedSimpArgs false
open Go.RowKit
attribute [local irreducible] AWP AOps AExit AThen ABlock ANoGoto FeetOk
/-- What was gathered, ahead of what is gathered yet. -/
def accP (acc : List Tree) (L : List Tree × Int) : List Tree × Int := if L.2 ≠ 0 then ([], L.2) else (acc ++ L.1, 0)
theorem nT {acc : List Tree} {R : Tree × Int} {L : List Tree × Int} (h : R.2 = 0) : accP acc (consP R L) = accP (acc ++ [R.1]) L := by
  by_cases h2 : L.2 = 0
  · simp [consP, accP, h, h2]
  · simp [consP, accP, h, h2]
theorem rG {acc : List Tree} {R : Tree × Int} {L : List Tree × Int} (h : R.2 ≠ 0) : accP acc (consP R L) = ([], R.2) := by
  simp [consP, accP, h]
theorem rH (acc : List Tree) : accP acc ([], 0) = (acc, 0) := by
  unfold accP
  simp
theorem nU (L : List Tree × Int) (h : L.2 ≠ 0 → L.1 = []) : accP [] L = L := by
  obtain ⟨l, e⟩ := L
  unfold accP
  dsimp only at *
  by_cases h2 : e = 0
  · simp [h2]
  · rw [if_pos h2, h h2]
theorem nD (t : Tree) (ts : List Tree) : shiftsP (t :: ts) = consP (shiftP t 1 0) (shiftsP ts) := by rw [shiftsP]; rfl
theorem wW : ∀ ts : List Tree, (shiftsP ts).2 ≠ 0 → (shiftsP ts).1 = []
  | [], h => absurd rfl h
  | t :: ts, h => by
    rw [nD] at h ⊢
    unfold consP at h ⊢
    split
    · rfl
    · rename_i h1
      rw [if_neg h1] at h
      split
      · rfl
      · rename_i h2; rw [if_neg h2] at h; exact absurd rfl h
set_option maxHeartbeats 8000000 in
set_option maxRecDepth 10000 in
theorem aCf (ks ts : List Tree) (T : Tree) (hT : T.whole = true) (hl : ts.length ≤ 900000) :
    ACalls Tryz.prog 79 [.imm (cIV ks ts), .imm T.iv] [] (.imm (cIV ks (T :: ts))) [] := by
  obtain ⟨pt, hpt⟩ := bV (bL hT)
  have c1 := qV true pt false ts.length (Tree.ivs ts) hl (cX ts)
  unfold cIV
  rw [Tree.ivs, hpt, List.length_cons, Nat.add_comm ts.length 1]
  generalize Tree.ivs ks = KI at *
  generalize Tree.ivs ts = TI at *
  generalize ks.length = kl at *
  generalize ts.length = tl at *
  refine aI Tryz.func79 rfl rfl (nb rfl) rfl ?_
  repeat' (first | refine aF ?_ | (refine aH ?_;  first | refine aC tabOk rfl rfl rfl (nb rfl) rfl ?_ | refine aD rfl rfl (nb rfl) rfl rfl rfl rfl (c1) ?_ | refine bY tabOk rfl rfl rfl (nb rfl) rfl rfl rfl rfl rfl rfl rfl rfl rfl ?_ | refine aV tabOk rfl rfl (nb rfl) rfl ?_ | refine cU tabOk rfl rfl rfl (nb rfl) rfl rfl rfl rfl rfl rfl ?_ | refine bK tabOk rfl rfl rfl rfl rfl rfl rfl rfl rfl rfl rfl ?_) | (refine aL ?_;  first | refine aG ?_ | refine aM ?_ | refine aN ?_ | refine aQ mixed (by kernel_rfl) ?_) | (refine aK ?_;  first | refine aU ?_) | refine bD (bB (by kernel_rfl)) ?_)
  all_goals (refine aP (by first | exact .inl rfl | exact .inr rfl) (aX rfl (jF rfl rfl (tabOk _ _ rfl).1 rfl rfl)) rfl ?_; rfl)
set_option maxHeartbeats 16000000 in
set_option maxRecDepth 10000 in
theorem zZ (ks ts : List Tree) (K : Tree) (hK : K.whole = true) (hkl : ks.length ≤ 900000) (hl : ts.length ≤ 900000) (ht : ∀ T ∈ ts, T.whole = true ∧ T.size ≤ 100000000) :
    ACalls Tryz.prog 78 [.imm (cIV ks ts), .imm K.iv] [] (.imm (.tup [if (shiftsP ts).2 ≠ 0 then cIV ks ts else cIV (K :: ks) (shiftsP ts).1, .lit (.int .i64 (shiftsP ts).2)])) [] := by
  obtain ⟨pk, hpk⟩ := bV (bL hK)
  have c1 := qV true pk false ks.length (Tree.ivs ks) hkl (cX ks)
  have hQ0 := nU (shiftsP ts) (wW ts)
  have hQl : (shiftsP ts).2 = 0 → (shiftsP ts).1.length = ts.length := fun h => (fN ts h).1
  generalize hQ : shiftsP ts = Q at *
  unfold cIV
  rw [Tree.ivs, hpk, List.length_cons, Nat.add_comm ks.length 1]
  generalize Tree.ivs ks = KI at *
  generalize ks.length = kl at *
  refine cI Tryz.func78 rfl rfl (nb rfl) rfl ?_
  repeat' (first | refine aF ?_ | (refine aH ?_;  first | refine aC tabOk rfl rfl rfl (nb rfl) rfl ?_ | refine dZ (d := 17) tabOk rfl rfl rfl (nb rfl) rfl rfl rfl rfl rfl ?_ | refine aD rfl rfl (nb rfl) rfl rfl rfl rfl (c1) ?_ | refine bY tabOk rfl rfl rfl (nb rfl) rfl rfl rfl rfl rfl rfl rfl rfl rfl ?_ | refine aV tabOk rfl rfl (nb rfl) rfl ?_ | refine cU tabOk rfl rfl rfl (nb rfl) rfl rfl rfl rfl rfl rfl ?_ | refine bK tabOk rfl rfl rfl rfl rfl rfl rfl rfl rfl rfl rfl ?_) | (refine aL ?_;  first | refine aG ?_ | refine aM ?_ | refine aS ?_))
  refine cT (dY (h0 := 6) (k0 := 1) 500 25 1 rfl rfl (by simp) rfl rfl) ?_
  refine cD (ι := {p : Nat × List Tree // p.1 ≤ ts.length ∧ p.2.length = p.1 ∧ accP p.2 (shiftsP (ts.drop p.1)) = Q}) (fun p => S.f ⟨[(21, .imm (.lit (.int .i64 (p.1.1 : Int)))), (20, .imm (.lit (.int .i64 (ts.length : Int)))), (19, .imm (.sl false ts.length (Tree.ivs ts))), (2, .imm (.ptr [.sl false kl KI, .sl false ts.length (Tree.ivs ts)] 0)), (6, .obj 6 0), (4, .obj 4 0)], [(500, .arr 25 1 p.1.1 (Tree.ivs p.1.2)), (6, .cells [.imm (.sl false (1 + kl) (.ptr pk 0 :: KI)), .ref 500 p.1.1]), (4, .cells [.imm (.lit (.slice none 0 0)), .imm (.lit (.slice none 0 0))])]⟩) (fun p => ts.length - p.1.1) ⟨(0, []), Nat.zero_le _, rfl, by rw [List.drop_zero, hQ]; exact hQ0⟩ (bU (by repeat' first | exact trivial | refine ⟨rfl, ?_⟩) (by repeat' first | exact trivial | refine ⟨rfl, ?_⟩)) ?_
  clear hQ0
  rintro ⟨⟨j, acc⟩, hj, hal, hac⟩
  dsimp only at hj hal hac ⊢
  by_cases hlt : j < ts.length
  · have hget := cG ts j hlt
    have hm := ht _ (List.getElem_mem hlt)
    have c2 := kO ts[j] 1 0 hm.2
    rw [List.drop_eq_getElem_cons hlt, nD] at hac
    have hsf := dQ ts[j] 1 0
    generalize shiftP ts[j] 1 0 = R at *
    obtain ⟨R1, R2⟩ := R
    dsimp only at *
    by_cases h0 : R2 = 0
    · rw [nT h0] at hac
      obtain ⟨g1, _, _⟩ := hsf h0
      obtain ⟨pr, hpr⟩ := bV (bL g1)
      subst h0
      rw [hpr] at c2
      have hnx : Tree.ivs (acc ++ [R1]) = Tree.ivs acc ++ [.ptr pr 0] := by rw [cQ, cQ, List.map_append, List.map_cons, hpr]; rfl
      have hil := cX acc
      rw [hal] at hil
      generalize hAI : Tree.ivs acc = AI at *
      clear ht hsf
      repeat' (first | refine aF ?_ | (refine aH ?_;  first | refine aC tabOk rfl rfl rfl (nb rfl) rfl ?_ | (refine aJ rfl rfl rfl (nb rfl) rfl rfl rfl (fun hq => ?_) (fun hq => ?_) <;> (first | (simp only [sD, sE, sB, sC, sN, sM, sT, sF] at hq; try (exfalso; omega)) | skip)) | refine bE tabOk rfl rfl rfl (nb rfl) rfl rfl rfl hget ?_ | refine aD rfl rfl (nb rfl) rfl rfl rfl rfl (c2) ?_ | refine cM tabOk rfl rfl rfl (nb rfl) rfl rfl rfl rfl rfl rfl rfl (by first | omega | decide) rfl (by first | omega | (dsimp only; omega)) (by first | omega | (dsimp only; omega)) ?_ | refine bQ rfl rfl rfl (nb rfl) rfl rfl (by omega) ?_ | refine bY tabOk rfl rfl rfl (nb rfl) rfl rfl rfl rfl rfl rfl rfl rfl rfl ?_ | refine bM tabOk rfl rfl rfl (nb rfl) rfl rfl rfl rfl ?_ | refine bK tabOk rfl rfl rfl rfl rfl rfl rfl rfl rfl rfl rfl ?_ | refine bF tabOk rfl rfl rfl (nb rfl) rfl rfl rfl rfl (by first | assumption | omega) ?_) | (refine aL ?_;  first | refine aG ?_ | refine aM ?_ | refine bI ?_ | refine aS ?_ | refine aT ?_ | refine aE (b := true) rfl (fun _ => ?_) nTf | refine aE (b := false) rfl nFt (fun _ => ?_)) | (refine aK ?_;  first | refine aU ?_) | (refine aR ?_;  first | refine bP ?_))
      all_goals first
        | (exfalso; omega)
        | exact absurd rfl (by assumption)
        | (refine ⟨⟨(j + 1, acc ++ [R1]), hlt, by rw [List.length_append, hal]; rfl, hac⟩, (by show ts.length - (j + 1) < ts.length - j; omega), ?_⟩; dsimp only; rw [hnx]; exact (bU (by repeat' first | exact trivial | refine ⟨rfl, ?_⟩) (by repeat' first | exact trivial | refine ⟨rfl, ?_⟩)))
    · rw [rG h0] at hac
      generalize R1.iv = ri at *
      subst hac
      dsimp only
      rw [if_pos h0]
      clear ht hsf
      generalize Tree.ivs acc = AI at *
      repeat' (first | refine aF ?_ | (refine aH ?_;  first | refine aC tabOk rfl rfl rfl (nb rfl) rfl ?_ | (refine aJ rfl rfl rfl (nb rfl) rfl rfl rfl (fun hq => ?_) (fun hq => ?_) <;> (first | (simp only [sD, sE, sB, sC, sN, sM, sT, sF] at hq; try (exfalso; omega)) | skip)) | refine bE tabOk rfl rfl rfl (nb rfl) rfl rfl rfl hget ?_ | refine aD rfl rfl (nb rfl) rfl rfl rfl rfl (c2) ?_ | refine bK tabOk rfl rfl rfl rfl rfl rfl rfl rfl rfl rfl rfl ?_ | refine bF tabOk rfl rfl rfl (nb rfl) rfl rfl rfl rfl (by first | assumption | omega) ?_) | (refine aL ?_;  first | refine aG ?_ | refine aM ?_ | refine aS ?_ | refine aN ?_ | refine aT ?_ | refine aE (b := true) rfl (fun _ => ?_) nTf) | (refine aK ?_;  first | refine aU ?_ | refine aO ?_) | (refine aR ?_;  first | refine aZ ?_))
      all_goals first
        | (exfalso; omega)
        | exact absurd rfl (by assumption)
        | (refine cK (aP (by first | exact .inl rfl | exact .inr rfl) (aW rfl (jF rfl rfl (tabOk _ _ rfl).1 rfl rfl) (aB rfl)) rfl ?_); rfl)
  · have ej : j = ts.length := by omega
    subst ej
    rw [List.drop_length, show shiftsP [] = ([], 0) from rfl, rH] at hac
    subst hac
    dsimp only
    rw [if_neg (by simp), hal]
    generalize Tree.ivs acc = AI at *
    generalize Tree.ivs ts = TI at *
    clear ht
    repeat' (first | refine aF ?_ | (refine aH ?_;  first | refine aC tabOk rfl rfl rfl (nb rfl) rfl ?_ | (refine aJ rfl rfl rfl (nb rfl) rfl rfl rfl (fun hq => ?_) (fun hq => ?_) <;> (first | (simp only [sD, sE, sB, sC, sN, sM, sT, sF] at hq; try (exfalso; omega)) | skip)) | refine bM tabOk rfl rfl rfl (nb rfl) rfl rfl rfl rfl ?_ | refine bK tabOk rfl rfl rfl rfl rfl rfl rfl rfl rfl rfl rfl ?_) | (refine aL ?_;  first | refine aG ?_ | refine aM ?_ | refine aN ?_ | refine bR ?_ | refine aE (b := false) rfl nFt (fun _ => ?_)) | (refine aK ?_;  first | refine aU ?_ | refine bJ ?_) | (refine aR ?_;  first | refine bH ?_))
    all_goals first
      | (exfalso; omega)
      | exact absurd rfl (by assumption)
      | (refine dS ((Imp.of_le (σ' := S.f ⟨[(4, .obj 4 0), (5, .imm (.lit (.int .i64 0)))], [(500, .arr 25 1 ts.length AI), (4, .cells [.imm (.sl false (1 + kl) (.ptr pk 0 :: KI)), .ref 500 ts.length])]⟩) (bU (by repeat' first | exact trivial | refine ⟨rfl, ?_⟩) (by repeat' first | exact trivial | refine ⟨rfl, ?_⟩))).trans (cP (g := 500) rfl (by repeat' first | exact trivial | exact fun _ => rfl | refine ⟨?_, ?_⟩) (by repeat' first | exact trivial | exact fun _ => rfl | refine ⟨?_, ?_⟩))) ?_
         refine aP (by first | exact .inl rfl | exact .inr rfl) (aW rfl (jF rfl rfl (tabOk _ _ rfl).1 rfl rfl) (aB rfl)) rfl ?_; rfl)
end Go.Proofs.YtlbemgokilhdnaaGreat.Ab
namespace Go.Proofs.YtlbemgokilhdnaaGreat.Ab
set_option linter.unusedVariables false
set_option linter.unusedSimpArgs false
open Go.RowKit
attribute [local irreducible] AWP AOps AExit AThen ABlock ANoGoto FeetOk
/-- Each has one part. -/
def onePart (kids : List Tree) : Prop := ∀ t ∈ kids, ∃ k' n' a' b' c, t = .node k' n' a' b' [c] ∧ c.whole = true
def partR (kids : List Tree) (a : ByteArray) : IV := match partP kids a with
  | none => .tup [.lit (.pointer none), .lit (.bool false)]
  | some p => .tup [p.iv, .lit (.bool true)]
set_option maxHeartbeats 8000000 in
set_option maxRecDepth 10000 in
theorem aCg (k n : Int) (a b : ByteArray) (kids : List Tree) (l : ByteArray) (hl : kids.length ≤ 100000000) (hp : onePart kids) :
    ACalls Tryz.prog 140 [.imm (Tree.iv (.node k n a b kids)), .imm (.lit (.string l))] [] (.imm (partR kids l)) [] := by
  generalize hQ : partR kids l = Q
  refine aI Tryz.func140 rfl rfl (nb rfl) rfl ?_
  repeat' (first | refine aF ?_ | (refine aH ?_;  first | refine aC tabOk rfl rfl rfl (nb rfl) rfl ?_ | refine aV tabOk rfl rfl (nb rfl) rfl ?_) | (refine aL ?_;  first | refine aG ?_ | refine aM ?_ | refine aS ?_))
  refine cD (ι := {j : Nat // j ≤ kids.length ∧ partR (kids.drop j) l = Q}) (fun j => S.f ⟨[(13, .imm (.lit (.int .i64 (j.1 : Int)))), (12, .imm (.lit (.int .i64 (kids.length : Int)))), (11, .imm (.sl false kids.length (Tree.ivs kids))), (1, .imm (.lit (.string l)))], []⟩) (fun j => kids.length - j.1) ⟨0, Nat.zero_le _, hQ⟩ (bU (by repeat' first | exact trivial | refine ⟨rfl, ?_⟩) (by repeat' first | exact trivial | refine ⟨rfl, ?_⟩)) ?_
  clear hQ
  rintro ⟨j, hj, hQ⟩
  dsimp only
  by_cases hlt : j < kids.length
  · have hget := cG kids j hlt
    obtain ⟨k', n', a', b', c, e, hcw⟩ := hp _ (List.getElem_mem hlt)
    obtain ⟨pc, hpc⟩ := bV (bL hcw)
    rw [List.drop_eq_getElem_cons hlt, e] at hQ
    rw [e, Tree.iv, Tree.ivs, Tree.ivs, hpc] at hget
    unfold partR at hQ
    rw [partP, Tree.name] at hQ
    change _ = some (IV.ptr [.lit (.int .i64 k'), .lit (.int .i64 n'), .lit (.string a'), .lit (.string b'), .sl false 1 [.ptr pc 0]] 0) at hget
    clear hp
    by_cases h : a'.toList = l.toList
    · rw [if_pos (by unfold eqB; exact beq_iff_eq.2 h), show kid0 (.node k' n' a' b' [c]) = c from rfl] at hQ
      dsimp only at hQ
      rw [hpc] at hQ
      subst hQ
      repeat' (first | refine aF ?_ | (refine aH ?_;  first | refine aC tabOk rfl rfl rfl (nb rfl) rfl ?_ | (refine aJ rfl rfl rfl (nb rfl) rfl rfl rfl (fun hq => ?_) (fun hq => ?_) <;> (first | (simp only [sD, sE, sB, sC, sN, sM, sT, sF] at hq; try (exfalso; omega)) | skip)) | refine bE tabOk rfl rfl rfl (nb rfl) rfl rfl rfl hget ?_ | refine bQ rfl rfl rfl (nb rfl) rfl rfl (by omega) ?_ | refine bF tabOk rfl rfl rfl (nb rfl) rfl rfl rfl rfl (by first | assumption | omega) ?_ | refine aY tabOk rfl rfl rfl (nb rfl) rfl rfl rfl rfl (by first | rfl | omega) (by first | omega | simp) ?_) | (refine aL ?_;  first | refine aG ?_ | refine aM ?_ | refine bI ?_ | refine aS ?_ | refine aN ?_ | refine aT ?_ | refine aE (b := true) rfl (fun _ => ?_) nTf | refine aE (b := false) rfl nFt (fun _ => ?_)) | (refine aK ?_;  first | refine aU ?_ | refine aO ?_) | (refine aR ?_;  first | refine bP ?_ | refine aZ ?_))
      all_goals first
        | (exfalso; omega)
        | exact absurd h (by assumption)
        | (refine aP (by first | exact .inl rfl | exact .inr rfl) (aW rfl (aB rfl) (aB rfl)) rfl ?_; rfl)
    · rw [if_neg (show ¬ eqB a' l = true from fun h2 => h (beq_iff_eq.1 h2))] at hQ
      repeat' (first | refine aF ?_ | (refine aH ?_;  first | refine aC tabOk rfl rfl rfl (nb rfl) rfl ?_ | (refine aJ rfl rfl rfl (nb rfl) rfl rfl rfl (fun hq => ?_) (fun hq => ?_) <;> (first | (simp only [sD, sE, sB, sC, sN, sM, sT, sF] at hq; try (exfalso; omega)) | skip)) | refine bE tabOk rfl rfl rfl (nb rfl) rfl rfl rfl hget ?_ | refine bQ rfl rfl rfl (nb rfl) rfl rfl (by omega) ?_ | refine bF tabOk rfl rfl rfl (nb rfl) rfl rfl rfl rfl (by first | assumption | omega) ?_ | refine aY tabOk rfl rfl rfl (nb rfl) rfl rfl rfl rfl (by first | rfl | omega) (by first | omega | simp) ?_) | (refine aL ?_;  first | refine aG ?_ | refine aM ?_ | refine bI ?_ | refine aS ?_ | refine aN ?_ | refine aT ?_ | refine aE (b := true) rfl (fun _ => ?_) nTf | refine aE (b := false) rfl nFt (fun _ => ?_)) | (refine aK ?_;  first | refine aU ?_ | refine aO ?_) | (refine aR ?_;  first | refine bP ?_ | refine aZ ?_))
      all_goals first
        | (exfalso; omega)
        | exact absurd (by assumption) h
        | exact ⟨⟨j + 1, hlt, hQ⟩, (by show kids.length - (j + 1) < kids.length - j; omega), (bU (by repeat' first | exact trivial | refine ⟨rfl, ?_⟩) (by repeat' first | exact trivial | refine ⟨rfl, ?_⟩))⟩
  · have ej : j = kids.length := by omega
    subst ej
    rw [List.drop_length] at hQ
    unfold partR at hQ
    rw [partP] at hQ
    subst hQ
    generalize Tree.ivs kids = Z at *
    repeat' (first | refine aF ?_ | (refine aH ?_;  first | refine aC tabOk rfl rfl rfl (nb rfl) rfl ?_ | (refine aJ rfl rfl rfl (nb rfl) rfl rfl rfl (fun hq => ?_) (fun hq => ?_) <;> (first | (simp only [sD, sE, sB, sC, sN, sM, sT, sF] at hq; try (exfalso; omega)) | skip))) | (refine aL ?_;  first | refine aG ?_ | refine aM ?_ | refine aN ?_ | refine bR ?_ | refine aE (b := false) rfl nFt (fun _ => ?_)) | (refine aK ?_;  first | refine aU ?_ | refine bJ ?_) | (refine aR ?_;  first | refine bH ?_))
    all_goals first
      | (exfalso; omega)
      | (refine aP (by first | exact .inl rfl | exact .inr rfl) (aW rfl (aB rfl) (aB rfl)) rfl ?_; rfl)
set_option maxHeartbeats 4000000 in
set_option maxRecDepth 10000 in
theorem aCh (s t : Tree) (pt : List IV) (hpt : t.iv = .ptr pt 0) (hs : s.whole = true) (ht : t.whole = true) (hs1 : s.size ≤ 100000000) (ht1 : t.size ≤ 100000000) :
    ACalls Tryz.prog 152 [.imm s.iv, .obj 1001 0] [(1001, .cells [.imm (.ptr pt 0)])] (.imm (.lit (.bool (!sameP s t)))) [(1001, .cells [.imm (.ptr pt 0)])] := by
  have c1 := gZ s t (.inr hs) (.inr ht) hs1 ht1
  rw [hpt] at c1
  generalize sameP s t = q at *
  generalize s.iv = si at *
  refine bX [1001] Tryz.func152 rfl rfl (nb rfl) rfl rfl ?_
  repeat' (first | refine aF ?_ | (refine aH ?_;  first | refine aC tabOk rfl rfl rfl (nb rfl) rfl ?_ | refine aD rfl rfl (nb rfl) rfl rfl rfl rfl (c1) ?_ | refine bM tabOk rfl rfl rfl (nb rfl) rfl rfl rfl rfl ?_) | (refine aL ?_;  first | refine aG ?_ | refine aN ?_))
  all_goals (refine cC (bZ (by first | exact .inl rfl | exact .inr rfl) (aX rfl (aB rfl)) rfl (by repeat' first | exact trivial | refine ⟨rfl, ?_⟩) rfl ?_); rfl)
set_option maxHeartbeats 4000000 in
set_option maxRecDepth 10000 in
theorem aAa (l : List Tree) (t : Tree) (hl : l.length ≤ 100000000) (hs : ∀ s ∈ l, s.whole = true ∧ s.size ≤ 100000000) (ht : t.whole = true) (ht1 : t.size ≤ 100000000) :
    ACalls Tryz.prog 144 [.imm (.sl false l.length (Tree.ivs l)), .imm t.iv] [] (.imm (.tup [(alikeP l t).1.iv, .lit (.int .i64 (alikeP l t).2)])) [] := by
  obtain ⟨pt, hpt⟩ := bV (bL ht)
  have hc := jE l 152 (.ptr pt 0) (fun s => !sameP s t) (by omega) fun j h => aCh _ t pt hpt (hs _ (List.getElem_mem h)).1 ht (hs _ (List.getElem_mem h)).2 ht1
  unfold alikeP
  generalize (l.any fun s => !sameP s t) = q at *
  rw [hpt]
  generalize Tree.ivs l = LI at *
  cases q with
  | true =>
    rw [if_pos rfl]
    refine aI Tryz.func144 rfl rfl (nb rfl) rfl ?_
    repeat' (first | refine aF ?_ | (refine aH ?_;  first | refine aC tabOk rfl rfl rfl (nb rfl) rfl ?_ | refine cF 1001 (d := 3) rfl rfl rfl (nb rfl) rfl rfl rfl rfl rfl rfl rfl ?_ | refine bW rfl rfl (nb rfl) rfl rfl rfl rfl hc (by repeat' first | exact trivial | refine ⟨rfl, ?_⟩) rfl (by show ([1001] : List Nat).Nodup; decide) ?_) | (refine aL ?_;  first | refine aG ?_ | refine aM ?_ | refine aN ?_ | refine aE (b := true) rfl (fun _ => ?_) nTf) | (refine aK ?_;  first | refine aO ?_))
    all_goals first
      | exact absurd rfl (by assumption)
      | (refine aP (by first | exact .inl rfl | exact .inr rfl) (aW rfl (aB rfl) (aB rfl)) rfl ?_; rfl)
  | false =>
    rw [if_neg (by simp)]
    dsimp only
    rw [hpt]
    refine aI Tryz.func144 rfl rfl (nb rfl) rfl ?_
    repeat' (first | refine aF ?_ | (refine aH ?_;  first | refine aC tabOk rfl rfl rfl (nb rfl) rfl ?_ | refine cF 1001 (d := 3) rfl rfl rfl (nb rfl) rfl rfl rfl rfl rfl rfl rfl ?_ | refine bW rfl rfl (nb rfl) rfl rfl rfl rfl hc (by repeat' first | exact trivial | refine ⟨rfl, ?_⟩) rfl (by show ([1001] : List Nat).Nodup; decide) ?_ | refine bM tabOk rfl rfl rfl (nb rfl) rfl rfl rfl rfl ?_) | (refine aL ?_;  first | refine aG ?_ | refine aM ?_ | refine aN ?_ | refine aT ?_ | refine aE (b := false) rfl nFt (fun _ => ?_)) | (refine aK ?_;  first | refine aU ?_))
    all_goals first
      | exact absurd rfl (by assumption)
      | (refine aP (by first | exact .inl rfl | exact .inr rfl) (aW rfl (aB rfl) (aB rfl)) rfl ?_; rfl)
set_option maxHeartbeats 4000000 in
set_option maxRecDepth 10000 in
theorem aCV (s t : Tree) (hs : s.whole = true) (ht : t.whole = true) : ACalls Tryz.prog 151 [.imm s.iv, .imm t.iv] [] (.imm (.lit (.bool (eqB s.name t.name)))) [] := by
  obtain ⟨k, n, a, b, ks, rfl⟩ := bT hs
  obtain ⟨k', n', a', b', ks', rfl⟩ := bT ht
  rw [Tree.name, Tree.name, Tree.iv, Tree.iv]
  generalize Tree.ivs ks = Z at *
  generalize Tree.ivs ks' = Z' at *
  by_cases h : a.toList = a'.toList
  · rw [show eqB a a' = true from beq_iff_eq.2 h]
    refine aI Tryz.func151 rfl rfl (nb rfl) rfl ?_
    repeat' (first | refine aF ?_ | (refine aH ?_;  first | refine aC tabOk rfl rfl rfl (nb rfl) rfl ?_ | (refine aJ rfl rfl rfl (nb rfl) rfl rfl rfl (fun hq => ?_) (fun hq => ?_) <;> (first | (simp only [sD, sE, sB, sC, sN, sM, sT, sF] at hq; try (exfalso; omega)) | skip))) | (refine aL ?_;  first | refine aG ?_ | refine aM ?_ | refine aN ?_ | refine aQ mixed (by kernel_rfl) ?_) | (refine aK ?_;  first | refine aU ?_) | refine bD (bB (by kernel_rfl)) ?_)
    all_goals first
      | exact absurd h (by assumption)
      | (refine aP (by first | exact .inl rfl | exact .inr rfl) (aX rfl (aB rfl)) rfl ?_; rfl)
  · have e : eqB a a' = false := by rw [Bool.eq_false_iff]; exact fun h2 => h (beq_iff_eq.1 h2)
    rw [e]
    refine aI Tryz.func151 rfl rfl (nb rfl) rfl ?_
    repeat' (first | refine aF ?_ | (refine aH ?_;  first | refine aC tabOk rfl rfl rfl (nb rfl) rfl ?_ | (refine aJ rfl rfl rfl (nb rfl) rfl rfl rfl (fun hq => ?_) (fun hq => ?_) <;> (first | (simp only [sD, sE, sB, sC, sN, sM, sT, sF] at hq; try (exfalso; omega)) | skip))) | (refine aL ?_;  first | refine aG ?_ | refine aM ?_ | refine aN ?_ | refine aQ mixed (by kernel_rfl) ?_) | (refine aK ?_;  first | refine aU ?_) | refine bD (bB (by kernel_rfl)) ?_)
    all_goals first
      | exact absurd (by assumption) h
      | (refine aP (by first | exact .inl rfl | exact .inr rfl) (aX rfl (aB rfl)) rfl ?_; rfl)
theorem oR : ∀ l l' : List Tree, namesEq l l' = zipP (fun s t => eqB s.name t.name) l l'
  | [], [] => by simp [namesEq, zipP]
  | t :: ts, u :: us => by simp [namesEq, zipP, oR ts us]
  | [], _ :: _ => by simp [namesEq, zipP]
  | _ :: _, [] => by simp [namesEq, zipP]
theorem aCW (l l' : List Tree) (hl : l.length ≤ 100000000) (hl' : l'.length ≤ 100000000) (h : ∀ t ∈ l, t.whole = true) (h' : ∀ t ∈ l', t.whole = true) :
    ACalls Tryz.prog 47 [.imm (.sl false l.length (Tree.ivs l)), .imm (.sl false l'.length (Tree.ivs l')), .imm (.func 151 [] [])] [] (.imm (.lit (.bool (namesEq l l')))) [] := by
  rw [oR]
  exact lB l l' _ (fun s t => eqB s.name t.name) (by omega) (by omega) fun i hi hk => aCV _ _ (h _ (List.getElem_mem hi)) (h' _ (List.getElem_mem hk))
/-- The method for a term. -/
def ruleF (k : Int) : FuncId :=
  if k = 134 then 113 else if k = 135 then 114 else if k = 136 then 115 else if k = 138 then 116
  else if k = 140 then 117 else if k = 141 then 118 else if k = 142 then 119 else if k = 144 then 120
  else if k = 145 then 121 else if k = 146 then 122 else if k = 147 then 123 else 124
set_option maxHeartbeats 8000000 in
set_option maxRecDepth 10000 in
theorem aDk (k n : Int) (a b : ByteArray) (kids : List Tree) : ACalls Tryz.prog 80 [.imm (Tree.iv (.node k n a b kids))] [] (.imm (.func (ruleF k) [] [])) [] := by
  generalize hF : ruleF k = F
  unfold ruleF at hF
  rw [Tree.iv]
  generalize Tree.ivs kids = Z at *
  refine aI Tryz.func80 rfl rfl (nb rfl) rfl ?_
  repeat' (first | refine aF ?_ | (refine aH ?_;  first | refine aC tabOk rfl rfl rfl (nb rfl) rfl ?_ | (refine aJ rfl rfl rfl (nb rfl) rfl rfl rfl (fun hq => ?_) (fun hq => ?_) <;> (first | (simp only [sD, sE, sB, sC, sN, sM, sT, sF] at hq; try (exfalso; omega)) | skip))) | (refine aL ?_;  first | refine aG ?_ | refine aM ?_ | refine aS ?_ | refine aN ?_ | refine aT ?_ | refine aE (b := true) rfl (fun _ => ?_) nTf | refine aE (b := false) rfl nFt (fun _ => ?_)) | (refine aK ?_;  first | refine aU ?_ | refine aO ?_) | (refine aR ?_;  first | refine bP ?_ | refine aZ ?_))
  all_goals (simp_all; first | (subst hF; refine aP (by first | exact .inl rfl | exact .inr rfl) (aX rfl (aB rfl)) rfl ?_; rfl) | (refine aP (by first | exact .inl rfl | exact .inr rfl) (aX rfl (aB rfl)) rfl ?_; simp_all))
end Go.Proofs.YtlbemgokilhdnaaGreat.Ab
namespace Go.Proofs.YtlbemgokilhdnaaGreat.Ab
set_option linter.unusedVariables false
set_option linter.unusedSimpArgs false
open Go.RowKit
attribute [local irreducible] AWP AOps AExit AThen ABlock ANoGoto FeetOk
theorem aAb (k : Int) {x y : Tree} {px py : List IV} (hx : x.iv = .ptr px 0) (hy : y.iv = .ptr py 0) : (tyT k [x, y]).iv = .ptr [.lit (.int .i64 k), .lit (.int .i64 0), .lit (.string ⟨#[]⟩), .lit (.string ⟨#[]⟩), .sl false 2 [.ptr px 0, .ptr py 0]] 0 := by
  unfold tyT
  rw [Tree.iv, Tree.ivs, Tree.ivs, Tree.ivs, hx, hy]
  rfl
theorem dT (k n : Int) (a b : ByteArray) {x y : Tree} {px py : List IV} (hx : x.iv = .ptr px 0) (hy : y.iv = .ptr py 0) : (Tree.node k n a b [x, y]).iv = .ptr [.lit (.int .i64 k), .lit (.int .i64 n), .lit (.string a), .lit (.string b), .sl false 2 [.ptr px 0, .ptr py 0]] 0 := by
  rw [Tree.iv, Tree.ivs, Tree.ivs, Tree.ivs, hx, hy]
  rfl
theorem kE (k n : Int) (a b : ByteArray) {x : Tree} {px : List IV} (hx : x.iv = .ptr px 0) : (Tree.node k n a b [x]).iv = .ptr [.lit (.int .i64 k), .lit (.int .i64 n), .lit (.string a), .lit (.string b), .sl false 1 [.ptr px 0]] 0 := by
  rw [Tree.iv, Tree.ivs, Tree.ivs, hx]
  rfl
theorem wX (k n : Int) (a b : ByteArray) {x y z : Tree} {px py pz : List IV} (hx : x.iv = .ptr px 0) (hy : y.iv = .ptr py 0) (hz : z.iv = .ptr pz 0) : (Tree.node k n a b [x, y, z]).iv = .ptr [.lit (.int .i64 k), .lit (.int .i64 n), .lit (.string a), .lit (.string b), .sl false 3 [.ptr px 0, .ptr py 0, .ptr pz 0]] 0 := by
  rw [Tree.iv, Tree.ivs, Tree.ivs, Tree.ivs, Tree.ivs, hx, hy, hz]
  rfl
theorem uR {R : Tree × Int} {k : Int} (h : (asP R k).2 = 0) : asP R k = R := by
  unfold asP at h ⊢
  split at h
  · cases h
  · rename_i h1; rw [if_neg h1]
/-- A type that was told. -/
def fineW (R : Tree × Int) : Prop := R.2 = 0 → R.1.whole = true ∧ R.1.size ≤ 100000000
def fineT (R : Tree × Int) : Prop := R.2 = 0 → isConP R.1 = true ∧ R.1.whole = true ∧ R.1.size ≤ 100000000
theorem dJ {R : Tree × Int} (h : fineT R) : fineW R := fun h0 => (h h0).2
section
variable (kl tl : Nat) (KI TI : List IV)
set_option maxHeartbeats 8000000 in
set_option maxRecDepth 10000 in
theorem aDv (C2 : IV) (k n : Int) (a b : ByteArray) (T y : Tree) (hT : T.whole = true) (hy : y.whole = true) (A B : Tree × Int) (fA : fineW A) (fB : fineW B)
    (c1 : ACalls Tryz.prog 138 [.imm (IV.agg [.sl false kl KI, .sl false tl TI]), .imm T.iv] [] (.imm (.tup [(A).1.iv, .lit (.int .i64 (A).2)])) [])
    (c2 : A.2 = 0 → ACalls Tryz.prog 79 [.imm (IV.agg [.sl false kl KI, .sl false tl TI]), .imm A.1.iv] [] (.imm C2) [])
    (c3 : A.2 = 0 → ACalls Tryz.prog 45 [.imm C2, .imm y.iv] [] (.imm (.tup [(B).1.iv, .lit (.int .i64 (B).2)])) []) :
    ACalls Tryz.prog 113 [.imm (IV.agg [.sl false kl KI, .sl false tl TI]), .imm (Tree.iv (.node k n a b [T, y]))] [] (.imm (.tup [(lamT1 A B).1.iv, .lit (.int .i64 (lamT1 A B).2)])) [] := by
  obtain ⟨pT, hpT⟩ := bV (bL hT)
  obtain ⟨py, hpy⟩ := bV (bL hy)
  rw [dT k n a b hpT hpy]
  rw [hpT] at c1
  rw [hpy] at c3
  unfold lamT1
  obtain ⟨A1, A2⟩ := A
  obtain ⟨B1, B2⟩ := B
  unfold fineW at fA fB
  dsimp only at *
  by_cases h1 : A2 = 0
  · replace c2 := c2 h1
    replace c3 := c3 h1
    obtain ⟨pa, hpa⟩ := bV (bL (fA h1).1)
    subst h1
    rw [if_neg (by simp)]
    rw [hpa] at c1 c2
    by_cases h2 : B2 = 0
    · obtain ⟨pb, hpb⟩ := bV (bL (fB h2).1)
      subst h2
      rw [if_neg (by simp), aAb 114 hpa hpb]
      rw [hpb] at c3
      have c4 := aCe 114 pa pb true
      clear fA fB
      refine aI Tryz.func113 rfl rfl (nb rfl) rfl ?_
      repeat' (first | refine aF ?_ | (refine aH ?_;  first | refine aC tabOk rfl rfl rfl (nb rfl) rfl ?_ | (refine aJ rfl rfl rfl (nb rfl) rfl rfl rfl (fun hq => ?_) (fun hq => ?_) <;> (first | (simp only [sD, sE, sB, sC, sN, sM, sT, sF] at hq; try (exfalso; omega)) | skip)) | refine aD rfl rfl (nb rfl) rfl rfl rfl rfl (c1) ?_ | refine aD rfl rfl (nb rfl) rfl rfl rfl rfl (c2) ?_ | refine aD rfl rfl (nb rfl) rfl rfl rfl rfl (c3) ?_ | refine aD rfl rfl (nb rfl) rfl rfl rfl rfl (c4) ?_ | refine bY tabOk rfl rfl rfl (nb rfl) rfl rfl rfl rfl rfl rfl rfl rfl rfl ?_ | refine aV tabOk rfl rfl (nb rfl) rfl ?_ | refine aY tabOk rfl rfl rfl (nb rfl) rfl rfl rfl rfl (by first | rfl | omega) (by first | omega | simp) ?_) | (refine aL ?_;  first | refine aG ?_ | refine aM ?_ | refine aN ?_ | refine aT ?_ | refine aE (b := false) rfl nFt (fun _ => ?_) | refine aQ mixed (by kernel_rfl) ?_) | (refine aK ?_;  first | refine aU ?_) | refine bD (bB (by kernel_rfl)) ?_)
      all_goals first | (exfalso; omega) | exact absurd rfl (by assumption) | (refine aP (by first | exact .inl rfl | exact .inr rfl) (aW rfl (aB rfl) (aB rfl)) rfl ?_; rfl)
    · rw [if_pos h2]
      generalize B1.iv = bi at *
      clear fA fB
      refine aI Tryz.func113 rfl rfl (nb rfl) rfl ?_
      repeat' (first | refine aF ?_ | (refine aH ?_;  first | refine aC tabOk rfl rfl rfl (nb rfl) rfl ?_ | (refine aJ rfl rfl rfl (nb rfl) rfl rfl rfl (fun hq => ?_) (fun hq => ?_) <;> (first | (simp only [sD, sE, sB, sC, sN, sM, sT, sF] at hq; try (exfalso; omega)) | skip)) | refine aD rfl rfl (nb rfl) rfl rfl rfl rfl (c1) ?_ | refine aD rfl rfl (nb rfl) rfl rfl rfl rfl (c2) ?_ | refine aD rfl rfl (nb rfl) rfl rfl rfl rfl (c3) ?_ | refine aV tabOk rfl rfl (nb rfl) rfl ?_ | refine aY tabOk rfl rfl rfl (nb rfl) rfl rfl rfl rfl (by first | rfl | omega) (by first | omega | simp) ?_) | (refine aL ?_;  first | refine aG ?_ | refine aM ?_ | refine aN ?_ | refine aT ?_ | refine aE (b := true) rfl (fun _ => ?_) nTf | refine aE (b := false) rfl nFt (fun _ => ?_) | refine aQ mixed (by kernel_rfl) ?_) | (refine aK ?_;  first | refine aU ?_ | refine aO ?_) | refine bD (bB (by kernel_rfl)) ?_)
      all_goals first | (exfalso; omega) | exact absurd rfl (by assumption) | (refine aP (by first | exact .inl rfl | exact .inr rfl) (aW rfl (aB rfl) (aB rfl)) rfl ?_; rfl)
  · rw [if_pos h1]
    generalize A1.iv = ai at *
    clear fA fB c2 c3
    refine aI Tryz.func113 rfl rfl (nb rfl) rfl ?_
    repeat' (first | refine aF ?_ | (refine aH ?_;  first | refine aC tabOk rfl rfl rfl (nb rfl) rfl ?_ | (refine aJ rfl rfl rfl (nb rfl) rfl rfl rfl (fun hq => ?_) (fun hq => ?_) <;> (first | (simp only [sD, sE, sB, sC, sN, sM, sT, sF] at hq; try (exfalso; omega)) | skip)) | refine aD rfl rfl (nb rfl) rfl rfl rfl rfl (c1) ?_ | refine aV tabOk rfl rfl (nb rfl) rfl ?_ | refine aY tabOk rfl rfl rfl (nb rfl) rfl rfl rfl rfl (by first | rfl | omega) (by first | omega | simp) ?_) | (refine aL ?_;  first | refine aG ?_ | refine aM ?_ | refine aN ?_ | refine aE (b := true) rfl (fun _ => ?_) nTf | refine aQ mixed (by kernel_rfl) ?_) | (refine aK ?_;  first | refine aU ?_ | refine aO ?_) | refine bD (bB (by kernel_rfl)) ?_)
    all_goals first | (exfalso; omega) | exact absurd rfl (by assumption) | (refine aP (by first | exact .inl rfl | exact .inr rfl) (aW rfl (aB rfl) (aB rfl)) rfl ?_; rfl)
set_option maxHeartbeats 8000000 in
set_option maxRecDepth 10000 in
theorem aDw (k n : Int) (a b : ByteArray) (x y : Tree) (hx : x.whole = true) (hy : y.whole = true) (F X : Tree × Int) (fF : fineT F) (fX : fineW X)
    (c1 : ACalls Tryz.prog 45 [.imm (IV.agg [.sl false kl KI, .sl false tl TI]), .imm x.iv] [] (.imm (.tup [(F).1.iv, .lit (.int .i64 (F).2)])) []) (c2 : ACalls Tryz.prog 45 [.imm (IV.agg [.sl false kl KI, .sl false tl TI]), .imm y.iv] [] (.imm (.tup [(X).1.iv, .lit (.int .i64 (X).2)])) []) :
    ACalls Tryz.prog 114 [.imm (IV.agg [.sl false kl KI, .sl false tl TI]), .imm (Tree.iv (.node k n a b [x, y]))] [] (.imm (.tup [(appT1 F X).1.iv, .lit (.int .i64 (appT1 F X).2)])) [] := by
  obtain ⟨px, hpx⟩ := bV (bL hx)
  obtain ⟨py, hpy⟩ := bV (bL hy)
  rw [dT k n a b hpx hpy]
  rw [hpx] at c1
  rw [hpy] at c2
  unfold appT1
  obtain ⟨F1, F2⟩ := F
  obtain ⟨X1, X2⟩ := X
  unfold fineT at fF
  unfold fineW at fX
  dsimp only at *
  by_cases h1 : F2 = 0
  · obtain ⟨f1, f2, f3⟩ := fF h1
    subst h1
    rw [if_neg (by simp)]
    by_cases h2 : X2 = 0
    · obtain ⟨g2, g3⟩ := fX h2
      subst h2
      rw [if_neg (by simp)]
      by_cases hk : F1.kind = 114
      · obtain ⟨n', a', b', u, v, rfl, hu, hv, wu, wv, su, sv⟩ := oO f1 f2 f3 hk
        have cs := gZ u X1 (.inr wu) (.inr g2) su g3
        have e0 : kid0 (.node 114 n' a' b' [u, v]) = u := rfl
        have e1 : kid1 (.node 114 n' a' b' [u, v]) = v := rfl
        rw [e0, e1]
        obtain ⟨pu, hpu⟩ := bV (bL wu)
        obtain ⟨pv, hpv⟩ := bV (bL wv)
        rw [dT 114 n' a' b' hpu hpv] at c1
        rw [hpu] at cs
        generalize X1.iv = xi at *
        clear fF fX f1 f2 f3 g2 g3
        cases hs : sameP u X1 with
        | true =>
          rw [hs] at cs
          rw [if_neg (by simp [Tree.kind]), hpv]
          refine aI Tryz.func114 rfl rfl (nb rfl) rfl ?_
          repeat' (first | refine aF ?_ | (refine aH ?_;  first | refine aC tabOk rfl rfl rfl (nb rfl) rfl ?_ | (refine aJ rfl rfl rfl (nb rfl) rfl rfl rfl (fun hq => ?_) (fun hq => ?_) <;> (first | (simp only [sD, sE, sB, sC, sN, sM, sT, sF] at hq; try (exfalso; omega)) | skip)) | refine aD rfl rfl (nb rfl) rfl rfl rfl rfl (c1) ?_ | refine aD rfl rfl (nb rfl) rfl rfl rfl rfl (c2) ?_ | refine aD rfl rfl (nb rfl) rfl rfl rfl rfl (cs) ?_ | refine aV tabOk rfl rfl (nb rfl) rfl ?_ | refine aY tabOk rfl rfl rfl (nb rfl) rfl rfl rfl rfl (by first | rfl | omega) (by first | omega | simp) ?_) | (refine aL ?_;  first | refine aG ?_ | refine aM ?_ | refine aS ?_ | refine aN ?_ | refine aT ?_ | refine aE (b := false) rfl nFt (fun _ => ?_) | refine aQ mixed (by kernel_rfl) ?_) | (refine aK ?_;  first | refine aU ?_) | (refine aR ?_;  first | refine bP ?_) | refine bD (bB (by kernel_rfl)) ?_)
          all_goals first | (exfalso; omega) | exact absurd rfl (by assumption) | (refine aP (by first | exact .inl rfl | exact .inr rfl) (aW rfl (aB rfl) (aB rfl)) rfl ?_; rfl)
        | false =>
          rw [hs] at cs
          rw [if_pos (.inr rfl)]
          refine aI Tryz.func114 rfl rfl (nb rfl) rfl ?_
          repeat' (first | refine aF ?_ | (refine aH ?_;  first | refine aC tabOk rfl rfl rfl (nb rfl) rfl ?_ | (refine aJ rfl rfl rfl (nb rfl) rfl rfl rfl (fun hq => ?_) (fun hq => ?_) <;> (first | (simp only [sD, sE, sB, sC, sN, sM, sT, sF] at hq; try (exfalso; omega)) | skip)) | refine aD rfl rfl (nb rfl) rfl rfl rfl rfl (c1) ?_ | refine aD rfl rfl (nb rfl) rfl rfl rfl rfl (c2) ?_ | refine aD rfl rfl (nb rfl) rfl rfl rfl rfl (cs) ?_ | refine aV tabOk rfl rfl (nb rfl) rfl ?_ | refine aY tabOk rfl rfl rfl (nb rfl) rfl rfl rfl rfl (by first | rfl | omega) (by first | omega | simp) ?_) | (refine aL ?_;  first | refine aG ?_ | refine aM ?_ | refine aS ?_ | refine aN ?_ | refine aT ?_ | refine aE (b := true) rfl (fun _ => ?_) nTf | refine aE (b := false) rfl nFt (fun _ => ?_) | refine aQ mixed (by kernel_rfl) ?_) | (refine aK ?_;  first | refine aU ?_ | refine aO ?_) | (refine aR ?_;  first | refine aZ ?_) | refine bD (bB (by kernel_rfl)) ?_)
          all_goals first | (exfalso; omega) | exact absurd rfl (by assumption) | (refine aP (by first | exact .inl rfl | exact .inr rfl) (aW rfl (aB rfl) (aB rfl)) rfl ?_; rfl)
      · rw [if_pos (.inl hk)]
        obtain ⟨k', n', a', b', ks, rfl⟩ := bT f2
        rw [Tree.kind] at hk
        rw [Tree.iv] at c1
        generalize Tree.ivs ks = Z at *
        generalize X1.iv = xi at *
        clear fF fX f1 f2 f3 g2 g3
        refine aI Tryz.func114 rfl rfl (nb rfl) rfl ?_
        repeat' (first | refine aF ?_ | (refine aH ?_;  first | refine aC tabOk rfl rfl rfl (nb rfl) rfl ?_ | refine bO rfl rfl (nb rfl) ?_ | (refine aJ rfl rfl rfl (nb rfl) rfl rfl rfl (fun hq => ?_) (fun hq => ?_) <;> (first | (simp only [sD, sE, sB, sC, sN, sM, sT, sF] at hq; try (exfalso; omega)) | skip)) | refine aD rfl rfl (nb rfl) rfl rfl rfl rfl (c1) ?_ | refine aD rfl rfl (nb rfl) rfl rfl rfl rfl (c2) ?_ | refine aV tabOk rfl rfl (nb rfl) rfl ?_ | refine aY tabOk rfl rfl rfl (nb rfl) rfl rfl rfl rfl (by first | rfl | omega) (by first | omega | simp) ?_) | (refine aL ?_;  first | refine aG ?_ | refine aM ?_ | refine aS ?_ | refine aN ?_ | refine aT ?_ | refine aE (b := true) rfl (fun _ => ?_) nTf | refine aE (b := false) rfl nFt (fun _ => ?_) | refine aQ mixed (by kernel_rfl) ?_) | (refine aK ?_;  first | refine aU ?_ | refine aO ?_) | (refine aR ?_;  first | refine aZ ?_) | refine bD (bB (by kernel_rfl)) ?_)
        all_goals first | (exfalso; omega) | exact absurd rfl (by assumption) | (refine aP (by first | exact .inl rfl | exact .inr rfl) (aW rfl (aB rfl) (aB rfl)) rfl ?_; rfl)
    · rw [if_pos h2]
      generalize X1.iv = xi at *
      generalize F1.iv = fi at *
      clear fF fX
      refine aI Tryz.func114 rfl rfl (nb rfl) rfl ?_
      repeat' (first | refine aF ?_ | (refine aH ?_;  first | refine aC tabOk rfl rfl rfl (nb rfl) rfl ?_ | (refine aJ rfl rfl rfl (nb rfl) rfl rfl rfl (fun hq => ?_) (fun hq => ?_) <;> (first | (simp only [sD, sE, sB, sC, sN, sM, sT, sF] at hq; try (exfalso; omega)) | skip)) | refine aD rfl rfl (nb rfl) rfl rfl rfl rfl (c1) ?_ | refine aD rfl rfl (nb rfl) rfl rfl rfl rfl (c2) ?_ | refine aV tabOk rfl rfl (nb rfl) rfl ?_ | refine aY tabOk rfl rfl rfl (nb rfl) rfl rfl rfl rfl (by first | rfl | omega) (by first | omega | simp) ?_) | (refine aL ?_;  first | refine aG ?_ | refine aM ?_ | refine aS ?_ | refine aN ?_ | refine aT ?_ | refine aE (b := true) rfl (fun _ => ?_) nTf | refine aE (b := false) rfl nFt (fun _ => ?_) | refine aQ mixed (by kernel_rfl) ?_) | (refine aK ?_;  first | refine aU ?_ | refine aO ?_) | (refine aR ?_;  first | refine aZ ?_) | refine bD (bB (by kernel_rfl)) ?_)
      all_goals first | (exfalso; omega) | exact absurd rfl (by assumption) | (refine aP (by first | exact .inl rfl | exact .inr rfl) (aW rfl (aB rfl) (aB rfl)) rfl ?_; rfl)
  · rw [if_pos h1]
    generalize F1.iv = fi at *
    clear fF fX
    refine aI Tryz.func114 rfl rfl (nb rfl) rfl ?_
    repeat' (first | refine aF ?_ | (refine aH ?_;  first | refine aC tabOk rfl rfl rfl (nb rfl) rfl ?_ | (refine aJ rfl rfl rfl (nb rfl) rfl rfl rfl (fun hq => ?_) (fun hq => ?_) <;> (first | (simp only [sD, sE, sB, sC, sN, sM, sT, sF] at hq; try (exfalso; omega)) | skip)) | refine aD rfl rfl (nb rfl) rfl rfl rfl rfl (c1) ?_ | refine aV tabOk rfl rfl (nb rfl) rfl ?_ | refine aY tabOk rfl rfl rfl (nb rfl) rfl rfl rfl rfl (by first | rfl | omega) (by first | omega | simp) ?_) | (refine aL ?_;  first | refine aG ?_ | refine aM ?_ | refine aN ?_ | refine aE (b := true) rfl (fun _ => ?_) nTf | refine aQ mixed (by kernel_rfl) ?_) | (refine aK ?_;  first | refine aU ?_ | refine aO ?_) | refine bD (bB (by kernel_rfl)) ?_)
    all_goals first | (exfalso; omega) | exact absurd rfl (by assumption) | (refine aP (by first | exact .inl rfl | exact .inr rfl) (aW rfl (aB rfl) (aB rfl)) rfl ?_; rfl)
set_option maxHeartbeats 8000000 in
set_option maxRecDepth 10000 in
theorem op_a (k n : Int) (a b : ByteArray) (x y : Tree) (hx : x.whole = true) (hy : y.whole = true) (F X : Tree × Int) (fF : fineW F) (fX : fineW X)
    (c1 : ACalls Tryz.prog 45 [.imm (IV.agg [.sl false kl KI, .sl false tl TI]), .imm x.iv] [] (.imm (.tup [(F).1.iv, .lit (.int .i64 (F).2)])) []) (c2 : ACalls Tryz.prog 45 [.imm (IV.agg [.sl false kl KI, .sl false tl TI]), .imm y.iv] [] (.imm (.tup [(X).1.iv, .lit (.int .i64 (X).2)])) []) :
    ACalls Tryz.prog 121 [.imm (IV.agg [.sl false kl KI, .sl false tl TI]), .imm (Tree.iv (.node k n a b [x, y]))] [] (.imm (.tup [(op1 n F X).1.iv, .lit (.int .i64 (op1 n F X).2)])) [] := by
  obtain ⟨px, hpx⟩ := bV (bL hx)
  obtain ⟨py, hpy⟩ := bV (bL hy)
  rw [dT k n a b hpx hpy]
  rw [hpx] at c1
  rw [hpy] at c2
  have d1 := zF 111
  have d2 := zF 112
  unfold op1
  obtain ⟨F1, F2⟩ := F
  obtain ⟨X1, X2⟩ := X
  unfold fineW at fF fX
  dsimp only at *
  by_cases h1 : F2 = 0
  · obtain ⟨k1, n1, a1, b1, ks1, rfl⟩ := bT (fF h1).1
    subst h1
    rw [if_neg (by simp)]
    by_cases h2 : X2 = 0
    · obtain ⟨k2, n2, a2, b2, ks2, rfl⟩ := bT (fX h2).1
      subst h2
      rw [if_neg (by simp)]
      rw [Tree.iv] at c1 c2
      rw [Tree.kind, Tree.kind]
      generalize Tree.ivs ks1 = Z1 at *
      generalize Tree.ivs ks2 = Z2 at *
      clear fF fX
      by_cases h3 : k1 = 111
      · by_cases h4 : k2 = 111
        · subst h3 h4
          rw [if_neg (by simp)]
          by_cases h5 : n ≤ 3
          · rw [if_pos h5]
            dsimp only
            generalize (tyT 111 []).iv = ti at *
            refine aI Tryz.func121 rfl rfl (nb rfl) rfl ?_
            repeat' (first | refine aF ?_ | (refine aH ?_;  first | refine aC tabOk rfl rfl rfl (nb rfl) rfl ?_ | (refine aJ rfl rfl rfl (nb rfl) rfl rfl rfl (fun hq => ?_) (fun hq => ?_) <;> (first | (simp only [sD, sE, sB, sC, sN, sM, sT, sF] at hq; try (exfalso; omega)) | skip)) | refine aD rfl rfl (nb rfl) rfl rfl rfl rfl (c1) ?_ | refine aD rfl rfl (nb rfl) rfl rfl rfl rfl (c2) ?_ | refine aD rfl rfl (nb rfl) rfl rfl rfl rfl (d1) ?_ | refine aV tabOk rfl rfl (nb rfl) rfl ?_ | refine aY tabOk rfl rfl rfl (nb rfl) rfl rfl rfl rfl (by first | rfl | omega) (by first | omega | simp) ?_) | (refine aL ?_;  first | refine aG ?_ | refine aM ?_ | refine aS ?_ | refine aN ?_ | refine aT ?_ | refine aE (b := true) rfl (fun _ => ?_) nTf | refine aE (b := false) rfl nFt (fun _ => ?_) | refine aQ mixed (by kernel_rfl) ?_) | (refine aK ?_;  first | refine aU ?_ | refine aO ?_) | (refine aR ?_;  first | refine aZ ?_) | refine bD (bB (by kernel_rfl)) ?_)
            all_goals first | (exfalso; omega) | exact absurd rfl (by assumption) | (refine aP (by first | exact .inl rfl | exact .inr rfl) (aW rfl (aB rfl) (aB rfl)) rfl ?_; rfl)
          · rw [if_neg h5]
            dsimp only
            generalize (tyT 112 []).iv = ti at *
            refine aI Tryz.func121 rfl rfl (nb rfl) rfl ?_
            repeat' (first | refine aF ?_ | (refine aH ?_;  first | refine aC tabOk rfl rfl rfl (nb rfl) rfl ?_ | (refine aJ rfl rfl rfl (nb rfl) rfl rfl rfl (fun hq => ?_) (fun hq => ?_) <;> (first | (simp only [sD, sE, sB, sC, sN, sM, sT, sF] at hq; try (exfalso; omega)) | skip)) | refine aD rfl rfl (nb rfl) rfl rfl rfl rfl (c1) ?_ | refine aD rfl rfl (nb rfl) rfl rfl rfl rfl (c2) ?_ | refine aD rfl rfl (nb rfl) rfl rfl rfl rfl (d2) ?_ | refine aV tabOk rfl rfl (nb rfl) rfl ?_ | refine aY tabOk rfl rfl rfl (nb rfl) rfl rfl rfl rfl (by first | rfl | omega) (by first | omega | simp) ?_) | (refine aL ?_;  first | refine aG ?_ | refine aM ?_ | refine aS ?_ | refine aN ?_ | refine aT ?_ | refine aE (b := false) rfl nFt (fun _ => ?_) | refine aQ mixed (by kernel_rfl) ?_) | (refine aK ?_;  first | refine aU ?_) | (refine aR ?_;  first | refine bP ?_) | refine bD (bB (by kernel_rfl)) ?_)
            all_goals first | (exfalso; omega) | exact absurd rfl (by assumption) | (refine aP (by first | exact .inl rfl | exact .inr rfl) (aW rfl (aB rfl) (aB rfl)) rfl ?_; rfl)
        · rw [if_pos (.inr h4)]
          subst h3
          refine aI Tryz.func121 rfl rfl (nb rfl) rfl ?_
          repeat' (first | refine aF ?_ | (refine aH ?_;  first | refine aC tabOk rfl rfl rfl (nb rfl) rfl ?_ | (refine aJ rfl rfl rfl (nb rfl) rfl rfl rfl (fun hq => ?_) (fun hq => ?_) <;> (first | (simp only [sD, sE, sB, sC, sN, sM, sT, sF] at hq; try (exfalso; omega)) | skip)) | refine aD rfl rfl (nb rfl) rfl rfl rfl rfl (c1) ?_ | refine aD rfl rfl (nb rfl) rfl rfl rfl rfl (c2) ?_ | refine aV tabOk rfl rfl (nb rfl) rfl ?_ | refine aY tabOk rfl rfl rfl (nb rfl) rfl rfl rfl rfl (by first | rfl | omega) (by first | omega | simp) ?_) | (refine aL ?_;  first | refine aG ?_ | refine aM ?_ | refine aS ?_ | refine aN ?_ | refine aT ?_ | refine aE (b := true) rfl (fun _ => ?_) nTf | refine aE (b := false) rfl nFt (fun _ => ?_) | refine aQ mixed (by kernel_rfl) ?_) | (refine aK ?_;  first | refine aU ?_ | refine aO ?_) | (refine aR ?_;  first | refine aZ ?_) | refine bD (bB (by kernel_rfl)) ?_)
          all_goals first | (exfalso; omega) | exact absurd rfl (by assumption) | (refine aP (by first | exact .inl rfl | exact .inr rfl) (aW rfl (aB rfl) (aB rfl)) rfl ?_; rfl)
      · rw [if_pos (.inl h3)]
        refine aI Tryz.func121 rfl rfl (nb rfl) rfl ?_
        repeat' (first | refine aF ?_ | (refine aH ?_;  first | refine aC tabOk rfl rfl rfl (nb rfl) rfl ?_ | refine bO rfl rfl (nb rfl) ?_ | (refine aJ rfl rfl rfl (nb rfl) rfl rfl rfl (fun hq => ?_) (fun hq => ?_) <;> (first | (simp only [sD, sE, sB, sC, sN, sM, sT, sF] at hq; try (exfalso; omega)) | skip)) | refine aD rfl rfl (nb rfl) rfl rfl rfl rfl (c1) ?_ | refine aD rfl rfl (nb rfl) rfl rfl rfl rfl (c2) ?_ | refine aV tabOk rfl rfl (nb rfl) rfl ?_ | refine aY tabOk rfl rfl rfl (nb rfl) rfl rfl rfl rfl (by first | rfl | omega) (by first | omega | simp) ?_) | (refine aL ?_;  first | refine aG ?_ | refine aM ?_ | refine aS ?_ | refine aN ?_ | refine aT ?_ | refine aE (b := true) rfl (fun _ => ?_) nTf | refine aE (b := false) rfl nFt (fun _ => ?_) | refine aQ mixed (by kernel_rfl) ?_) | (refine aK ?_;  first | refine aU ?_ | refine aO ?_) | (refine aR ?_;  first | refine aZ ?_) | refine bD (bB (by kernel_rfl)) ?_)
        all_goals first | (exfalso; omega) | exact absurd rfl (by assumption) | (refine aP (by first | exact .inl rfl | exact .inr rfl) (aW rfl (aB rfl) (aB rfl)) rfl ?_; rfl)
    · rw [if_pos h2]
      generalize X1.iv = xi at *
      rw [Tree.iv] at c1
      generalize Tree.ivs ks1 = Z1 at *
      clear fF fX
      refine aI Tryz.func121 rfl rfl (nb rfl) rfl ?_
      repeat' (first | refine aF ?_ | (refine aH ?_;  first | refine aC tabOk rfl rfl rfl (nb rfl) rfl ?_ | (refine aJ rfl rfl rfl (nb rfl) rfl rfl rfl (fun hq => ?_) (fun hq => ?_) <;> (first | (simp only [sD, sE, sB, sC, sN, sM, sT, sF] at hq; try (exfalso; omega)) | skip)) | refine aD rfl rfl (nb rfl) rfl rfl rfl rfl (c1) ?_ | refine aD rfl rfl (nb rfl) rfl rfl rfl rfl (c2) ?_ | refine aV tabOk rfl rfl (nb rfl) rfl ?_ | refine aY tabOk rfl rfl rfl (nb rfl) rfl rfl rfl rfl (by first | rfl | omega) (by first | omega | simp) ?_) | (refine aL ?_;  first | refine aG ?_ | refine aM ?_ | refine aS ?_ | refine aN ?_ | refine aT ?_ | refine aE (b := true) rfl (fun _ => ?_) nTf | refine aE (b := false) rfl nFt (fun _ => ?_) | refine aQ mixed (by kernel_rfl) ?_) | (refine aK ?_;  first | refine aU ?_ | refine aO ?_) | (refine aR ?_;  first | refine aZ ?_) | refine bD (bB (by kernel_rfl)) ?_)
      all_goals first | (exfalso; omega) | exact absurd rfl (by assumption) | (refine aP (by first | exact .inl rfl | exact .inr rfl) (aW rfl (aB rfl) (aB rfl)) rfl ?_; rfl)
  · rw [if_pos h1]
    generalize F1.iv = fi at *
    clear fF fX
    refine aI Tryz.func121 rfl rfl (nb rfl) rfl ?_
    repeat' (first | refine aF ?_ | (refine aH ?_;  first | refine aC tabOk rfl rfl rfl (nb rfl) rfl ?_ | (refine aJ rfl rfl rfl (nb rfl) rfl rfl rfl (fun hq => ?_) (fun hq => ?_) <;> (first | (simp only [sD, sE, sB, sC, sN, sM, sT, sF] at hq; try (exfalso; omega)) | skip)) | refine aD rfl rfl (nb rfl) rfl rfl rfl rfl (c1) ?_ | refine aV tabOk rfl rfl (nb rfl) rfl ?_ | refine aY tabOk rfl rfl rfl (nb rfl) rfl rfl rfl rfl (by first | rfl | omega) (by first | omega | simp) ?_) | (refine aL ?_;  first | refine aG ?_ | refine aM ?_ | refine aN ?_ | refine aE (b := true) rfl (fun _ => ?_) nTf | refine aQ mixed (by kernel_rfl) ?_) | (refine aK ?_;  first | refine aU ?_ | refine aO ?_) | refine bD (bB (by kernel_rfl)) ?_)
    all_goals first | (exfalso; omega) | exact absurd rfl (by assumption) | (refine aP (by first | exact .inl rfl | exact .inr rfl) (aW rfl (aB rfl) (aB rfl)) rfl ?_; rfl)
set_option maxHeartbeats 8000000 in
set_option maxRecDepth 10000 in
theorem aDl (k n : Int) (a b : ByteArray) (x : Tree) (hx : x.whole = true) (R : Tree × Int) (fR : fineT R)
    (c1 : ACalls Tryz.prog 139 [.imm (IV.agg [.sl false kl KI, .sl false tl TI]), .imm x.iv, .imm (.lit (.int .i64 115))] [] (.imm (.tup [(asP R 115).1.iv, .lit (.int .i64 (asP R 115).2)])) []) :
    ACalls Tryz.prog 116 [.imm (IV.agg [.sl false kl KI, .sl false tl TI]), .imm (Tree.iv (.node k n a b [x]))] [] (.imm (.tup [(proj1 a R).1.iv, .lit (.int .i64 (proj1 a R).2)])) [] := by
  obtain ⟨px, hpx⟩ := bV (bL hx)
  rw [kE k n a b hpx]
  rw [hpx] at c1
  unfold proj1
  by_cases h1 : (asP R 115).2 = 0
  · rw [if_neg (by simpa using h1)]
    obtain ⟨h0, hk⟩ := iY h1
    rw [uR h1] at c1
    obtain ⟨R1, R2⟩ := R
    unfold fineT at fR
    dsimp only at *
    obtain ⟨g1, g2, g3⟩ := fR h0
    obtain ⟨n', a', b', kids, e, hl, hf⟩ := fM g1 g2 g3 (.inl hk)
    rw [hk] at e
    subst e h0
    have c2 := aCg 115 n' a' b' kids a (by omega) fun t ht => by
      obtain ⟨k', n', a', b', c, e, _, hc, _⟩ := hf t ht
      exact ⟨k', n', a', b', c, e, hc⟩
    unfold part1
    rw [kidsOf]
    unfold partR at c2
    rw [Tree.iv] at c1 c2
    generalize Tree.ivs kids = Z at *
    clear fR g1 g2 g3 hf hk h1
    cases hp : partP kids a with
    | none =>
      rw [hp] at c2
      dsimp only at *
      refine aI Tryz.func116 rfl rfl (nb rfl) rfl ?_
      repeat' (first | refine aF ?_ | (refine aH ?_;  first | refine aC tabOk rfl rfl rfl (nb rfl) rfl ?_ | (refine aJ rfl rfl rfl (nb rfl) rfl rfl rfl (fun hq => ?_) (fun hq => ?_) <;> (first | (simp only [sD, sE, sB, sC, sN, sM, sT, sF] at hq; try (exfalso; omega)) | skip)) | refine aD rfl rfl (nb rfl) rfl rfl rfl rfl (c1) ?_ | refine aD rfl rfl (nb rfl) rfl rfl rfl rfl (c2) ?_ | refine aV tabOk rfl rfl (nb rfl) rfl ?_ | refine aY tabOk rfl rfl rfl (nb rfl) rfl rfl rfl rfl (by first | rfl | omega) (by first | omega | simp) ?_) | (refine aL ?_;  first | refine aG ?_ | refine aM ?_ | refine aN ?_ | refine aT ?_ | refine aE (b := true) rfl (fun _ => ?_) nTf | refine aE (b := false) rfl nFt (fun _ => ?_) | refine aQ mixed (by kernel_rfl) ?_) | (refine aK ?_;  first | refine aU ?_ | refine aO ?_) | refine bD (bB (by kernel_rfl)) ?_)
      all_goals first | (exfalso; omega) | exact absurd rfl (by assumption) | (refine aP (by first | exact .inl rfl | exact .inr rfl) (aW rfl (aB rfl) (aB rfl)) rfl ?_; rfl)
    | some p =>
      rw [hp] at c2
      dsimp only at *
      generalize p.iv = pi at *
      refine aI Tryz.func116 rfl rfl (nb rfl) rfl ?_
      repeat' (first | refine aF ?_ | (refine aH ?_;  first | refine aC tabOk rfl rfl rfl (nb rfl) rfl ?_ | (refine aJ rfl rfl rfl (nb rfl) rfl rfl rfl (fun hq => ?_) (fun hq => ?_) <;> (first | (simp only [sD, sE, sB, sC, sN, sM, sT, sF] at hq; try (exfalso; omega)) | skip)) | refine aD rfl rfl (nb rfl) rfl rfl rfl rfl (c1) ?_ | refine aD rfl rfl (nb rfl) rfl rfl rfl rfl (c2) ?_ | refine aV tabOk rfl rfl (nb rfl) rfl ?_ | refine aY tabOk rfl rfl rfl (nb rfl) rfl rfl rfl rfl (by first | rfl | omega) (by first | omega | simp) ?_) | (refine aL ?_;  first | refine aG ?_ | refine aM ?_ | refine aN ?_ | refine aT ?_ | refine aE (b := false) rfl nFt (fun _ => ?_) | refine aQ mixed (by kernel_rfl) ?_) | (refine aK ?_;  first | refine aU ?_) | refine bD (bB (by kernel_rfl)) ?_)
      all_goals first | (exfalso; omega) | exact absurd rfl (by assumption) | (refine aP (by first | exact .inl rfl | exact .inr rfl) (aW rfl (aB rfl) (aB rfl)) rfl ?_; rfl)
  · rw [if_pos h1]
    generalize asP R 115 = Q at *
    obtain ⟨Q1, Q2⟩ := Q
    dsimp only at *
    generalize Q1.iv = qi at *
    clear fR
    refine aI Tryz.func116 rfl rfl (nb rfl) rfl ?_
    repeat' (first | refine aF ?_ | (refine aH ?_;  first | refine aC tabOk rfl rfl rfl (nb rfl) rfl ?_ | (refine aJ rfl rfl rfl (nb rfl) rfl rfl rfl (fun hq => ?_) (fun hq => ?_) <;> (first | (simp only [sD, sE, sB, sC, sN, sM, sT, sF] at hq; try (exfalso; omega)) | skip)) | refine aD rfl rfl (nb rfl) rfl rfl rfl rfl (c1) ?_ | refine aV tabOk rfl rfl (nb rfl) rfl ?_ | refine aY tabOk rfl rfl rfl (nb rfl) rfl rfl rfl rfl (by first | rfl | omega) (by first | omega | simp) ?_) | (refine aL ?_;  first | refine aG ?_ | refine aM ?_ | refine aN ?_ | refine aE (b := true) rfl (fun _ => ?_) nTf | refine aQ mixed (by kernel_rfl) ?_) | (refine aK ?_;  first | refine aU ?_ | refine aO ?_) | refine bD (bB (by kernel_rfl)) ?_)
    all_goals first | (exfalso; omega) | exact absurd rfl (by assumption) | (refine aP (by first | exact .inl rfl | exact .inr rfl) (aW rfl (aB rfl) (aB rfl)) rfl ?_; rfl)
set_option maxHeartbeats 8000000 in
set_option maxRecDepth 10000 in
theorem aDm (k n : Int) (a b : ByteArray) (x C : Tree) (hx : x.whole = true) (hC : C.whole = true) (hCs : C.size ≤ 100000000) (R K : Tree × Int) (fR : fineT R) (fK : fineK 100000000 K)
    (c1 : ACalls Tryz.prog 45 [.imm (IV.agg [.sl false kl KI, .sl false tl TI]), .imm x.iv] [] (.imm (.tup [(R).1.iv, .lit (.int .i64 (R).2)])) [])
    (c2 : ACalls Tryz.prog 37 [.imm (.sl false kl KI), .imm C.iv] [] (.imm (.tup [(K).1.iv, .lit (.int .i64 (K).2)])) []) :
    ACalls Tryz.prog 117 [.imm (IV.agg [.sl false kl KI, .sl false tl TI]), .imm (Tree.iv (.node k n a b [x, C]))] [] (.imm (.tup [(tapp1 R K C).1.iv, .lit (.int .i64 (tapp1 R K C).2)])) [] := by
  obtain ⟨px, hpx⟩ := bV (bL hx)
  obtain ⟨pC, hpC⟩ := bV (bL hC)
  rw [dT k n a b hpx hpC]
  rw [hpx] at c1
  rw [hpC] at c2
  unfold tapp1
  obtain ⟨F1, F2⟩ := R
  obtain ⟨X1, X2⟩ := K
  unfold fineT at fR
  unfold fineK at fK
  dsimp only at *
  by_cases h1 : F2 = 0
  · obtain ⟨f1, f2, f3⟩ := fR h1
    subst h1
    rw [if_neg (by simp)]
    by_cases h2 : X2 = 0
    · obtain ⟨g1, g2, g3⟩ := fK h2
      subst h2
      rw [if_neg (by simp)]
      by_cases hk : F1.kind = 117
      · obtain ⟨n', a', b', u, v, e, hu, hv, wu, wv, su, sv⟩ := iX f1 f2 f3 (.inl hk)
        rw [hk] at e
        subst e
        have cs := gZ u X1 (.inr wu) (.inr g2) su g3
        have cf := nC v C sv hCs
        rw [hpC] at cf
        have e0 : kid0 (.node 117 n' a' b' [u, v]) = u := rfl
        have e1 : kid1 (.node 117 n' a' b' [u, v]) = v := rfl
        rw [e0, e1]
        obtain ⟨pu, hpu⟩ := bV (bL wu)
        obtain ⟨pv, hpv⟩ := bV (bL wv)
        rw [dT 117 n' a' b' hpu hpv] at c1
        rw [hpu] at cs
        rw [hpv] at cf
        generalize X1.iv = xi at *
        generalize filledP v C = Q at *
        obtain ⟨Q1, Q2⟩ := Q
        dsimp only at *
        clear fR fK f1 f2 f3 g1 g2 g3
        cases hs : sameP u X1 with
        | true =>
          rw [hs] at cs
          rw [if_neg (by simp [Tree.kind])]
          dsimp only
          generalize Q1.iv = qi at *
          refine aI Tryz.func117 rfl rfl (nb rfl) rfl ?_
          repeat' (first | refine aF ?_ | (refine aH ?_;  first | refine aC tabOk rfl rfl rfl (nb rfl) rfl ?_ | (refine aJ rfl rfl rfl (nb rfl) rfl rfl rfl (fun hq => ?_) (fun hq => ?_) <;> (first | (simp only [sD, sE, sB, sC, sN, sM, sT, sF] at hq; try (exfalso; omega)) | skip)) | refine aD rfl rfl (nb rfl) rfl rfl rfl rfl (c1) ?_ | refine aD rfl rfl (nb rfl) rfl rfl rfl rfl (c2) ?_ | refine aD rfl rfl (nb rfl) rfl rfl rfl rfl (cs) ?_ | refine aD rfl rfl (nb rfl) rfl rfl rfl rfl (cf) ?_ | refine aV tabOk rfl rfl (nb rfl) rfl ?_ | refine aY tabOk rfl rfl rfl (nb rfl) rfl rfl rfl rfl (by first | rfl | omega) (by first | omega | simp) ?_) | (refine aL ?_;  first | refine aG ?_ | refine aM ?_ | refine aS ?_ | refine aN ?_ | refine aT ?_ | refine aE (b := false) rfl nFt (fun _ => ?_) | refine aQ mixed (by kernel_rfl) ?_) | (refine aK ?_;  first | refine aU ?_) | (refine aR ?_;  first | refine bP ?_) | refine bD (bB (by kernel_rfl)) ?_)
          all_goals first | (exfalso; omega) | exact absurd rfl (by assumption) | (refine aP (by first | exact .inl rfl | exact .inr rfl) (aW rfl (aB rfl) (aB rfl)) rfl ?_; rfl)
        | false =>
          rw [hs] at cs
          rw [if_pos (.inr rfl)]
          refine aI Tryz.func117 rfl rfl (nb rfl) rfl ?_
          repeat' (first | refine aF ?_ | (refine aH ?_;  first | refine aC tabOk rfl rfl rfl (nb rfl) rfl ?_ | (refine aJ rfl rfl rfl (nb rfl) rfl rfl rfl (fun hq => ?_) (fun hq => ?_) <;> (first | (simp only [sD, sE, sB, sC, sN, sM, sT, sF] at hq; try (exfalso; omega)) | skip)) | refine aD rfl rfl (nb rfl) rfl rfl rfl rfl (c1) ?_ | refine aD rfl rfl (nb rfl) rfl rfl rfl rfl (c2) ?_ | refine aD rfl rfl (nb rfl) rfl rfl rfl rfl (cs) ?_ | refine aV tabOk rfl rfl (nb rfl) rfl ?_ | refine aY tabOk rfl rfl rfl (nb rfl) rfl rfl rfl rfl (by first | rfl | omega) (by first | omega | simp) ?_) | (refine aL ?_;  first | refine aG ?_ | refine aM ?_ | refine aS ?_ | refine aN ?_ | refine aT ?_ | refine aE (b := true) rfl (fun _ => ?_) nTf | refine aE (b := false) rfl nFt (fun _ => ?_) | refine aQ mixed (by kernel_rfl) ?_) | (refine aK ?_;  first | refine aU ?_ | refine aO ?_) | (refine aR ?_;  first | refine aZ ?_) | refine bD (bB (by kernel_rfl)) ?_)
          all_goals first | (exfalso; omega) | exact absurd rfl (by assumption) | (refine aP (by first | exact .inl rfl | exact .inr rfl) (aW rfl (aB rfl) (aB rfl)) rfl ?_; rfl)
      · rw [if_pos (.inl hk)]
        obtain ⟨k', n', a', b', ks, rfl⟩ := bT f2
        rw [Tree.kind] at hk
        rw [Tree.iv] at c1
        generalize Tree.ivs ks = Z at *
        generalize X1.iv = xi at *
        clear fR fK f1 f2 f3 g1 g2 g3
        refine aI Tryz.func117 rfl rfl (nb rfl) rfl ?_
        repeat' (first | refine aF ?_ | (refine aH ?_;  first | refine aC tabOk rfl rfl rfl (nb rfl) rfl ?_ | refine bO rfl rfl (nb rfl) ?_ | (refine aJ rfl rfl rfl (nb rfl) rfl rfl rfl (fun hq => ?_) (fun hq => ?_) <;> (first | (simp only [sD, sE, sB, sC, sN, sM, sT, sF] at hq; try (exfalso; omega)) | skip)) | refine aD rfl rfl (nb rfl) rfl rfl rfl rfl (c1) ?_ | refine aD rfl rfl (nb rfl) rfl rfl rfl rfl (c2) ?_ | refine aV tabOk rfl rfl (nb rfl) rfl ?_ | refine aY tabOk rfl rfl rfl (nb rfl) rfl rfl rfl rfl (by first | rfl | omega) (by first | omega | simp) ?_) | (refine aL ?_;  first | refine aG ?_ | refine aM ?_ | refine aS ?_ | refine aN ?_ | refine aT ?_ | refine aE (b := true) rfl (fun _ => ?_) nTf | refine aE (b := false) rfl nFt (fun _ => ?_) | refine aQ mixed (by kernel_rfl) ?_) | (refine aK ?_;  first | refine aU ?_ | refine aO ?_) | (refine aR ?_;  first | refine aZ ?_) | refine bD (bB (by kernel_rfl)) ?_)
        all_goals first | (exfalso; omega) | exact absurd rfl (by assumption) | (refine aP (by first | exact .inl rfl | exact .inr rfl) (aW rfl (aB rfl) (aB rfl)) rfl ?_; rfl)
    · rw [if_pos h2]
      generalize X1.iv = xi at *
      generalize F1.iv = fi at *
      clear fR fK
      refine aI Tryz.func117 rfl rfl (nb rfl) rfl ?_
      repeat' (first | refine aF ?_ | (refine aH ?_;  first | refine aC tabOk rfl rfl rfl (nb rfl) rfl ?_ | (refine aJ rfl rfl rfl (nb rfl) rfl rfl rfl (fun hq => ?_) (fun hq => ?_) <;> (first | (simp only [sD, sE, sB, sC, sN, sM, sT, sF] at hq; try (exfalso; omega)) | skip)) | refine aD rfl rfl (nb rfl) rfl rfl rfl rfl (c1) ?_ | refine aD rfl rfl (nb rfl) rfl rfl rfl rfl (c2) ?_ | refine aV tabOk rfl rfl (nb rfl) rfl ?_ | refine aY tabOk rfl rfl rfl (nb rfl) rfl rfl rfl rfl (by first | rfl | omega) (by first | omega | simp) ?_) | (refine aL ?_;  first | refine aG ?_ | refine aM ?_ | refine aS ?_ | refine aN ?_ | refine aT ?_ | refine aE (b := true) rfl (fun _ => ?_) nTf | refine aE (b := false) rfl nFt (fun _ => ?_) | refine aQ mixed (by kernel_rfl) ?_) | (refine aK ?_;  first | refine aU ?_ | refine aO ?_) | (refine aR ?_;  first | refine aZ ?_) | refine bD (bB (by kernel_rfl)) ?_)
      all_goals first | (exfalso; omega) | exact absurd rfl (by assumption) | (refine aP (by first | exact .inl rfl | exact .inr rfl) (aW rfl (aB rfl) (aB rfl)) rfl ?_; rfl)
  · rw [if_pos h1]
    generalize F1.iv = fi at *
    clear fR fK
    refine aI Tryz.func117 rfl rfl (nb rfl) rfl ?_
    repeat' (first | refine aF ?_ | (refine aH ?_;  first | refine aC tabOk rfl rfl rfl (nb rfl) rfl ?_ | (refine aJ rfl rfl rfl (nb rfl) rfl rfl rfl (fun hq => ?_) (fun hq => ?_) <;> (first | (simp only [sD, sE, sB, sC, sN, sM, sT, sF] at hq; try (exfalso; omega)) | skip)) | refine aD rfl rfl (nb rfl) rfl rfl rfl rfl (c1) ?_ | refine aV tabOk rfl rfl (nb rfl) rfl ?_ | refine aY tabOk rfl rfl rfl (nb rfl) rfl rfl rfl rfl (by first | rfl | omega) (by first | omega | simp) ?_) | (refine aL ?_;  first | refine aG ?_ | refine aM ?_ | refine aN ?_ | refine aE (b := true) rfl (fun _ => ?_) nTf | refine aQ mixed (by kernel_rfl) ?_) | (refine aK ?_;  first | refine aU ?_ | refine aO ?_) | refine bD (bB (by kernel_rfl)) ?_)
    all_goals first | (exfalso; omega) | exact absurd rfl (by assumption) | (refine aP (by first | exact .inl rfl | exact .inr rfl) (aW rfl (aB rfl) (aB rfl)) rfl ?_; rfl)
end
end Go.Proofs.YtlbemgokilhdnaaGreat.Ab
namespace Go.Proofs.YtlbemgokilhdnaaGreat.Ab
set_option linter.unusedVariables false
set_option linter.unusedSimpArgs false
open Go.RowKit
attribute [local irreducible] AWP AOps AExit AThen ABlock ANoGoto FeetOk
section
variable (kl tl : Nat) (KI TI : List IV)
theorem fU (n b : Tree) : fineT (filledP n b) := fun h => by
  obtain ⟨h1, h2, h3⟩ := bG (jZ n b h)
  exact ⟨h3, h1, by omega⟩
set_option maxHeartbeats 8000000 in
set_option maxRecDepth 10000 in
theorem aDn (k n : Int) (a b : ByteArray) (C x T : Tree) (hC : C.whole = true) (hx : x.whole = true) (hT : T.whole = true) (hCs : C.size ≤ 100000000) (S K A : Tree × Int) (fS : fineT S) (fK : fineK 100000000 K) (fA : fineW A)
    (c1 : ACalls Tryz.prog 138 [.imm (IV.agg [.sl false kl KI, .sl false tl TI]), .imm T.iv] [] (.imm (.tup [(S).1.iv, .lit (.int .i64 (S).2)])) [])
    (c2 : ACalls Tryz.prog 37 [.imm (.sl false kl KI), .imm C.iv] [] (.imm (.tup [(K).1.iv, .lit (.int .i64 (K).2)])) [])
    (c3 : ACalls Tryz.prog 45 [.imm (IV.agg [.sl false kl KI, .sl false tl TI]), .imm x.iv] [] (.imm (.tup [(A).1.iv, .lit (.int .i64 (A).2)])) []) :
    ACalls Tryz.prog 118 [.imm (IV.agg [.sl false kl KI, .sl false tl TI]), .imm (Tree.iv (.node k n a b [C, x, T]))] [] (.imm (.tup [(pack1 S K A C).1.iv, .lit (.int .i64 (pack1 S K A C).2)])) [] := by
  obtain ⟨px, hpx⟩ := bV (bL hx)
  obtain ⟨pC, hpC⟩ := bV (bL hC)
  obtain ⟨pT, hpT⟩ := bV (bL hT)
  rw [wX k n a b hpC hpx hpT]
  rw [hpT] at c1
  rw [hpC] at c2
  rw [hpx] at c3
  unfold pack1
  obtain ⟨S1, S2⟩ := S
  obtain ⟨K1, K2⟩ := K
  obtain ⟨A1, A2⟩ := A
  unfold fineT at fS
  unfold fineK at fK
  unfold fineW at fA
  dsimp only at *
  by_cases h1 : S2 = 0
  · obtain ⟨s1, s2, s3⟩ := fS h1
    subst h1
    rw [if_neg (by simp)]
    by_cases h2 : K2 = 0
    · obtain ⟨k1, k2, k3⟩ := fK h2
      subst h2
      rw [if_neg (by simp)]
      by_cases h3 : A2 = 0
      · obtain ⟨a1, a2⟩ := fA h3
        subst h3
        rw [if_neg (by simp)]
        by_cases hk : S1.kind = 118
        · obtain ⟨n', a', b', u, v, e, hu, hv, wu, wv, su, sv⟩ := iX s1 s2 s3 (.inr hk)
          rw [hk] at e
          subst e
          have cs := gZ u K1 (.inr wu) (.inr k2) su k3
          have cf := nC v C sv hCs
          have hff := fU v C
          rw [hpC] at cf
          have e0 : kid0 (.node 118 n' a' b' [u, v]) = u := rfl
          have e1 : kid1 (.node 118 n' a' b' [u, v]) = v := rfl
          rw [e0, e1]
          obtain ⟨pu, hpu⟩ := bV (bL wu)
          obtain ⟨pv, hpv⟩ := bV (bL wv)
          rw [hpu] at cs
          rw [hpv] at cf
          generalize K1.iv = ki at *
          unfold alike1
          generalize filledP v C = Q at *
          obtain ⟨Q1, Q2⟩ := Q
          unfold fineT at hff
          dsimp only at hff cf ⊢
          rw [dT 118 n' a' b' hpu hpv] at c1
          cases hs : sameP u K1 with
          | true =>
            rw [hs] at cs
            rw [if_neg (by simp [Tree.kind])]
            by_cases h4 : Q2 = 0
            · obtain ⟨q1, q2, q3⟩ := hff h4
              have cq := gZ A1 Q1 (.inr a1) (.inr q2) a2 q3
              subst h4
              rw [if_neg (by simp)]
              generalize A1.iv = ai at *
              generalize Q1.iv = qi at *
              clear fS fK fA s1 s2 s3 k1 k2 k3 a1 a2 hff q1 q2 q3
              cases hq : sameP A1 Q1 with
              | true =>
                rw [hq] at cq
                rw [if_neg (by simp)]
                dsimp only
                rw [dT 118 n' a' b' hpu hpv]
                refine aI Tryz.func118 rfl rfl (nb rfl) rfl ?_
                repeat' (first | refine aF ?_ | (refine aH ?_;  first | refine aC tabOk rfl rfl rfl (nb rfl) rfl ?_ | (refine aJ rfl rfl rfl (nb rfl) rfl rfl rfl (fun hq => ?_) (fun hq => ?_) <;> (first | (simp only [sD, sE, sB, sC, sN, sM, sT, sF] at hq; try (exfalso; omega)) | skip)) | refine aD rfl rfl (nb rfl) rfl rfl rfl rfl (c1) ?_ | refine aD rfl rfl (nb rfl) rfl rfl rfl rfl (c2) ?_ | refine aD rfl rfl (nb rfl) rfl rfl rfl rfl (c3) ?_ | refine aD rfl rfl (nb rfl) rfl rfl rfl rfl (cs) ?_ | refine aD rfl rfl (nb rfl) rfl rfl rfl rfl (cf) ?_ | refine aD rfl rfl (nb rfl) rfl rfl rfl rfl (cq) ?_ | refine aV tabOk rfl rfl (nb rfl) rfl ?_ | refine aY tabOk rfl rfl rfl (nb rfl) rfl rfl rfl rfl (by first | rfl | omega) (by first | omega | simp) ?_) | (refine aL ?_;  first | refine aG ?_ | refine aM ?_ | refine aS ?_ | refine aN ?_ | refine aT ?_ | refine aE (b := false) rfl nFt (fun _ => ?_) | refine aQ mixed (by kernel_rfl) ?_) | (refine aK ?_;  first | refine aU ?_) | (refine aR ?_;  first | refine bP ?_) | refine bD (bB (by kernel_rfl)) ?_)
                all_goals first | (exfalso; omega) | exact absurd rfl (by assumption) | (refine aP (by first | exact .inl rfl | exact .inr rfl) (aW rfl (aB rfl) (aB rfl)) rfl ?_; rfl)
              | false =>
                rw [hq] at cq
                rw [if_pos rfl]
                refine aI Tryz.func118 rfl rfl (nb rfl) rfl ?_
                repeat' (first | refine aF ?_ | (refine aH ?_;  first | refine aC tabOk rfl rfl rfl (nb rfl) rfl ?_ | (refine aJ rfl rfl rfl (nb rfl) rfl rfl rfl (fun hq => ?_) (fun hq => ?_) <;> (first | (simp only [sD, sE, sB, sC, sN, sM, sT, sF] at hq; try (exfalso; omega)) | skip)) | refine aD rfl rfl (nb rfl) rfl rfl rfl rfl (c1) ?_ | refine aD rfl rfl (nb rfl) rfl rfl rfl rfl (c2) ?_ | refine aD rfl rfl (nb rfl) rfl rfl rfl rfl (c3) ?_ | refine aD rfl rfl (nb rfl) rfl rfl rfl rfl (cs) ?_ | refine aD rfl rfl (nb rfl) rfl rfl rfl rfl (cf) ?_ | refine aD rfl rfl (nb rfl) rfl rfl rfl rfl (cq) ?_ | refine aV tabOk rfl rfl (nb rfl) rfl ?_ | refine aY tabOk rfl rfl rfl (nb rfl) rfl rfl rfl rfl (by first | rfl | omega) (by first | omega | simp) ?_) | (refine aL ?_;  first | refine aG ?_ | refine aM ?_ | refine aS ?_ | refine aN ?_ | refine aT ?_ | refine aE (b := true) rfl (fun _ => ?_) nTf | refine aE (b := false) rfl nFt (fun _ => ?_) | refine aQ mixed (by kernel_rfl) ?_) | (refine aK ?_;  first | refine aU ?_ | refine aO ?_) | (refine aR ?_;  first | refine bP ?_ | refine aZ ?_) | refine bD (bB (by kernel_rfl)) ?_)
                all_goals first | (exfalso; omega) | exact absurd rfl (by assumption) | (refine aP (by first | exact .inl rfl | exact .inr rfl) (aW rfl (aB rfl) (aB rfl)) rfl ?_; rfl)
            · rw [if_pos h4]
              generalize A1.iv = ai at *
              generalize Q1.iv = qi at *
              clear fS fK fA s1 s2 s3 k1 k2 k3 a1 a2 hff
              refine aI Tryz.func118 rfl rfl (nb rfl) rfl ?_
              repeat' (first | refine aF ?_ | (refine aH ?_;  first | refine aC tabOk rfl rfl rfl (nb rfl) rfl ?_ | (refine aJ rfl rfl rfl (nb rfl) rfl rfl rfl (fun hq => ?_) (fun hq => ?_) <;> (first | (simp only [sD, sE, sB, sC, sN, sM, sT, sF] at hq; try (exfalso; omega)) | skip)) | refine aD rfl rfl (nb rfl) rfl rfl rfl rfl (c1) ?_ | refine aD rfl rfl (nb rfl) rfl rfl rfl rfl (c2) ?_ | refine aD rfl rfl (nb rfl) rfl rfl rfl rfl (c3) ?_ | refine aD rfl rfl (nb rfl) rfl rfl rfl rfl (cs) ?_ | refine aD rfl rfl (nb rfl) rfl rfl rfl rfl (cf) ?_ | refine aV tabOk rfl rfl (nb rfl) rfl ?_ | refine aY tabOk rfl rfl rfl (nb rfl) rfl rfl rfl rfl (by first | rfl | omega) (by first | omega | simp) ?_) | (refine aL ?_;  first | refine aG ?_ | refine aM ?_ | refine aS ?_ | refine aN ?_ | refine aT ?_ | refine aE (b := true) rfl (fun _ => ?_) nTf | refine aE (b := false) rfl nFt (fun _ => ?_) | refine aQ mixed (by kernel_rfl) ?_) | (refine aK ?_;  first | refine aU ?_ | refine aO ?_) | (refine aR ?_;  first | refine bP ?_ | refine aZ ?_) | refine bD (bB (by kernel_rfl)) ?_)
              all_goals first | (exfalso; omega) | exact absurd rfl (by assumption) | (refine aP (by first | exact .inl rfl | exact .inr rfl) (aW rfl (aB rfl) (aB rfl)) rfl ?_; rfl)
          | false =>
            rw [hs] at cs
            rw [if_pos (.inr rfl)]
            generalize A1.iv = ai at *
            clear fS fK fA s1 s2 s3 k1 k2 k3 a1 a2 hff
            refine aI Tryz.func118 rfl rfl (nb rfl) rfl ?_
            repeat' (first | refine aF ?_ | (refine aH ?_;  first | refine aC tabOk rfl rfl rfl (nb rfl) rfl ?_ | (refine aJ rfl rfl rfl (nb rfl) rfl rfl rfl (fun hq => ?_) (fun hq => ?_) <;> (first | (simp only [sD, sE, sB, sC, sN, sM, sT, sF] at hq; try (exfalso; omega)) | skip)) | refine aD rfl rfl (nb rfl) rfl rfl rfl rfl (c1) ?_ | refine aD rfl rfl (nb rfl) rfl rfl rfl rfl (c2) ?_ | refine aD rfl rfl (nb rfl) rfl rfl rfl rfl (c3) ?_ | refine aD rfl rfl (nb rfl) rfl rfl rfl rfl (cs) ?_ | refine aV tabOk rfl rfl (nb rfl) rfl ?_ | refine aY tabOk rfl rfl rfl (nb rfl) rfl rfl rfl rfl (by first | rfl | omega) (by first | omega | simp) ?_) | (refine aL ?_;  first | refine aG ?_ | refine aM ?_ | refine aS ?_ | refine aN ?_ | refine aT ?_ | refine aE (b := true) rfl (fun _ => ?_) nTf | refine aE (b := false) rfl nFt (fun _ => ?_) | refine aQ mixed (by kernel_rfl) ?_) | (refine aK ?_;  first | refine aU ?_ | refine aO ?_) | (refine aR ?_;  first | refine aZ ?_) | refine bD (bB (by kernel_rfl)) ?_)
            all_goals first | (exfalso; omega) | exact absurd rfl (by assumption) | (refine aP (by first | exact .inl rfl | exact .inr rfl) (aW rfl (aB rfl) (aB rfl)) rfl ?_; rfl)
        · rw [if_pos (.inl hk)]
          obtain ⟨k', n', a', b', ks, rfl⟩ := bT s2
          rw [Tree.kind] at hk
          rw [Tree.iv] at c1
          generalize Tree.ivs ks = Z at *
          generalize K1.iv = ki at *
          generalize A1.iv = ai at *
          clear fS fK fA s1 s2 s3 k1 k2 k3 a1 a2
          refine aI Tryz.func118 rfl rfl (nb rfl) rfl ?_
          repeat' (first | refine aF ?_ | (refine aH ?_;  first | refine aC tabOk rfl rfl rfl (nb rfl) rfl ?_ | refine bO rfl rfl (nb rfl) ?_ | (refine aJ rfl rfl rfl (nb rfl) rfl rfl rfl (fun hq => ?_) (fun hq => ?_) <;> (first | (simp only [sD, sE, sB, sC, sN, sM, sT, sF] at hq; try (exfalso; omega)) | skip)) | refine aD rfl rfl (nb rfl) rfl rfl rfl rfl (c1) ?_ | refine aD rfl rfl (nb rfl) rfl rfl rfl rfl (c2) ?_ | refine aD rfl rfl (nb rfl) rfl rfl rfl rfl (c3) ?_ | refine aV tabOk rfl rfl (nb rfl) rfl ?_ | refine aY tabOk rfl rfl rfl (nb rfl) rfl rfl rfl rfl (by first | rfl | omega) (by first | omega | simp) ?_) | (refine aL ?_;  first | refine aG ?_ | refine aM ?_ | refine aS ?_ | refine aN ?_ | refine aT ?_ | refine aE (b := true) rfl (fun _ => ?_) nTf | refine aE (b := false) rfl nFt (fun _ => ?_) | refine aQ mixed (by kernel_rfl) ?_) | (refine aK ?_;  first | refine aU ?_ | refine aO ?_) | (refine aR ?_;  first | refine aZ ?_) | refine bD (bB (by kernel_rfl)) ?_)
          all_goals first | (exfalso; omega) | exact absurd rfl (by assumption) | (refine aP (by first | exact .inl rfl | exact .inr rfl) (aW rfl (aB rfl) (aB rfl)) rfl ?_; rfl)
      · rw [if_pos h3]
        generalize S1.iv = si at *
        generalize K1.iv = ki at *
        generalize A1.iv = ai at *
        clear fS fK fA
        refine aI Tryz.func118 rfl rfl (nb rfl) rfl ?_
        repeat' (first | refine aF ?_ | (refine aH ?_;  first | refine aC tabOk rfl rfl rfl (nb rfl) rfl ?_ | (refine aJ rfl rfl rfl (nb rfl) rfl rfl rfl (fun hq => ?_) (fun hq => ?_) <;> (first | (simp only [sD, sE, sB, sC, sN, sM, sT, sF] at hq; try (exfalso; omega)) | skip)) | refine aD rfl rfl (nb rfl) rfl rfl rfl rfl (c1) ?_ | refine aD rfl rfl (nb rfl) rfl rfl rfl rfl (c2) ?_ | refine aD rfl rfl (nb rfl) rfl rfl rfl rfl (c3) ?_ | refine aV tabOk rfl rfl (nb rfl) rfl ?_ | refine aY tabOk rfl rfl rfl (nb rfl) rfl rfl rfl rfl (by first | rfl | omega) (by first | omega | simp) ?_) | (refine aL ?_;  first | refine aG ?_ | refine aM ?_ | refine aS ?_ | refine aN ?_ | refine aT ?_ | refine aE (b := true) rfl (fun _ => ?_) nTf | refine aE (b := false) rfl nFt (fun _ => ?_) | refine aQ mixed (by kernel_rfl) ?_) | (refine aK ?_;  first | refine aU ?_ | refine aO ?_) | (refine aR ?_;  first | refine aZ ?_) | refine bD (bB (by kernel_rfl)) ?_)
        all_goals first | (exfalso; omega) | exact absurd rfl (by assumption) | (refine aP (by first | exact .inl rfl | exact .inr rfl) (aW rfl (aB rfl) (aB rfl)) rfl ?_; rfl)
    · rw [if_pos h2]
      generalize S1.iv = si at *
      generalize K1.iv = ki at *
      clear fS fK fA
      refine aI Tryz.func118 rfl rfl (nb rfl) rfl ?_
      repeat' (first | refine aF ?_ | (refine aH ?_;  first | refine aC tabOk rfl rfl rfl (nb rfl) rfl ?_ | (refine aJ rfl rfl rfl (nb rfl) rfl rfl rfl (fun hq => ?_) (fun hq => ?_) <;> (first | (simp only [sD, sE, sB, sC, sN, sM, sT, sF] at hq; try (exfalso; omega)) | skip)) | refine aD rfl rfl (nb rfl) rfl rfl rfl rfl (c1) ?_ | refine aD rfl rfl (nb rfl) rfl rfl rfl rfl (c2) ?_ | refine aV tabOk rfl rfl (nb rfl) rfl ?_ | refine aY tabOk rfl rfl rfl (nb rfl) rfl rfl rfl rfl (by first | rfl | omega) (by first | omega | simp) ?_) | (refine aL ?_;  first | refine aG ?_ | refine aM ?_ | refine aN ?_ | refine aT ?_ | refine aE (b := true) rfl (fun _ => ?_) nTf | refine aE (b := false) rfl nFt (fun _ => ?_) | refine aQ mixed (by kernel_rfl) ?_) | (refine aK ?_;  first | refine aU ?_ | refine aO ?_) | refine bD (bB (by kernel_rfl)) ?_)
      all_goals first | (exfalso; omega) | exact absurd rfl (by assumption) | (refine aP (by first | exact .inl rfl | exact .inr rfl) (aW rfl (aB rfl) (aB rfl)) rfl ?_; rfl)
  · rw [if_pos h1]
    generalize S1.iv = si at *
    clear fS fK fA
    refine aI Tryz.func118 rfl rfl (nb rfl) rfl ?_
    repeat' (first | refine aF ?_ | (refine aH ?_;  first | refine aC tabOk rfl rfl rfl (nb rfl) rfl ?_ | (refine aJ rfl rfl rfl (nb rfl) rfl rfl rfl (fun hq => ?_) (fun hq => ?_) <;> (first | (simp only [sD, sE, sB, sC, sN, sM, sT, sF] at hq; try (exfalso; omega)) | skip)) | refine aD rfl rfl (nb rfl) rfl rfl rfl rfl (c1) ?_ | refine aV tabOk rfl rfl (nb rfl) rfl ?_ | refine aY tabOk rfl rfl rfl (nb rfl) rfl rfl rfl rfl (by first | rfl | omega) (by first | omega | simp) ?_) | (refine aL ?_;  first | refine aG ?_ | refine aM ?_ | refine aN ?_ | refine aE (b := true) rfl (fun _ => ?_) nTf | refine aQ mixed (by kernel_rfl) ?_) | (refine aK ?_;  first | refine aU ?_ | refine aO ?_) | refine bD (bB (by kernel_rfl)) ?_)
    all_goals first | (exfalso; omega) | exact absurd rfl (by assumption) | (refine aP (by first | exact .inl rfl | exact .inr rfl) (aW rfl (aB rfl) (aB rfl)) rfl ?_; rfl)
set_option maxHeartbeats 8000000 in
set_option maxRecDepth 10000 in
theorem in_a (k n : Int) (a b : ByteArray) (T x : Tree) (hT : T.whole = true) (hx : x.whole = true) (S A : Tree × Int) (fS : fineT S) (fA : fineW A)
    (c1 : ACalls Tryz.prog 138 [.imm (IV.agg [.sl false kl KI, .sl false tl TI]), .imm T.iv] [] (.imm (.tup [(S).1.iv, .lit (.int .i64 (S).2)])) [])
    (c3 : ACalls Tryz.prog 45 [.imm (IV.agg [.sl false kl KI, .sl false tl TI]), .imm x.iv] [] (.imm (.tup [(A).1.iv, .lit (.int .i64 (A).2)])) []) :
    ACalls Tryz.prog 122 [.imm (IV.agg [.sl false kl KI, .sl false tl TI]), .imm (Tree.iv (.node k n a b [T, x]))] [] (.imm (.tup [(in1 a S A).1.iv, .lit (.int .i64 (in1 a S A).2)])) [] := by
  obtain ⟨px, hpx⟩ := bV (bL hx)
  obtain ⟨pT, hpT⟩ := bV (bL hT)
  rw [dT k n a b hpT hpx]
  rw [hpT] at c1
  rw [hpx] at c3
  unfold in1
  obtain ⟨S1, S2⟩ := S
  obtain ⟨A1, A2⟩ := A
  unfold fineT at fS
  unfold fineW at fA
  dsimp only at *
  by_cases h1 : S2 = 0
  · obtain ⟨s1, s2, s3⟩ := fS h1
    subst h1
    rw [if_neg (by simp)]
    by_cases h3 : A2 = 0
    · obtain ⟨a1, a2⟩ := fA h3
      subst h3
      rw [if_neg (by simp)]
      by_cases hk : S1.kind = 121
      · rw [if_neg (by simpa using hk)]
        obtain ⟨n', a', b', kids, e, hl, hf⟩ := fM s1 s2 s3 (.inr hk)
        have hpf := fun p hp => @qX 100000000 S1 p a s1 s2 s3 (.inr hk) hp
        have hS1 : S1.size ≤ 100000000 := s3
        rw [hk] at e
        have c2 := aCg 121 n' a' b' kids a (by omega) fun t ht => by
          obtain ⟨k', n', a', b', c, e, _, hc, _⟩ := hf t ht
          exact ⟨k', n', a', b', c, e, hc⟩
        rw [← e] at c2
        unfold partR at c2
        have e2 : kids = kidsOf S1 := by rw [e]; rfl
        rw [e2] at c2
        have e3 : S1.iv = .ptr [.lit (.int .i64 121), .lit (.int .i64 n'), .lit (.string a'), .lit (.string b'), .sl false kids.length (Tree.ivs kids)] 0 := by rw [e, Tree.iv]
        generalize Tree.ivs kids = Z at *
        generalize kids.length = L at *
        clear hf e e2
        cases hp : partP (kidsOf S1) a with
        | none =>
          rw [hp] at c2
          rw [in2]
          dsimp only at *
          rw [e3] at c1 c2
          generalize A1.iv = ai at *
          clear fS fA s1 s2 s3 a1 a2 hk hpf
          refine aI Tryz.func122 rfl rfl (nb rfl) rfl ?_
          repeat' (first | refine aF ?_ | (refine aH ?_;  first | refine aC tabOk rfl rfl rfl (nb rfl) rfl ?_ | (refine aJ rfl rfl rfl (nb rfl) rfl rfl rfl (fun hq => ?_) (fun hq => ?_) <;> (first | (simp only [sD, sE, sB, sC, sN, sM, sT, sF] at hq; try (exfalso; omega)) | skip)) | refine aD rfl rfl (nb rfl) rfl rfl rfl rfl (c1) ?_ | refine aD rfl rfl (nb rfl) rfl rfl rfl rfl (c2) ?_ | refine aD rfl rfl (nb rfl) rfl rfl rfl rfl (c3) ?_ | refine aV tabOk rfl rfl (nb rfl) rfl ?_ | refine aY tabOk rfl rfl rfl (nb rfl) rfl rfl rfl rfl (by first | rfl | omega) (by first | omega | simp) ?_) | (refine aL ?_;  first | refine aG ?_ | refine aM ?_ | refine aN ?_ | refine aT ?_ | refine aE (b := true) rfl (fun _ => ?_) nTf | refine aE (b := false) rfl nFt (fun _ => ?_) | refine aQ mixed (by kernel_rfl) ?_) | (refine aK ?_;  first | refine aU ?_ | refine aO ?_) | refine bD (bB (by kernel_rfl)) ?_)
          all_goals first | (exfalso; omega) | exact absurd rfl (by assumption) | (refine aP (by first | exact .inl rfl | exact .inr rfl) (aW rfl (aB rfl) (aB rfl)) rfl ?_; rfl)
        | some p =>
          rw [hp] at c2
          obtain ⟨p1, p2, p3⟩ := hpf p hp
          have cf := nC p S1 p3 hS1
          have hff := fU p S1
          rw [in2]
          unfold alike1
          dsimp only at *
          generalize filledP p S1 = Q at *
          obtain ⟨Q1, Q2⟩ := Q
          unfold fineT at hff
          dsimp only at hff cf ⊢
          generalize p.iv = pi at *
          by_cases h4 : Q2 = 0
          · obtain ⟨q1, q2, q3⟩ := hff h4
            have cq := gZ A1 Q1 (.inr a1) (.inr q2) a2 q3
            subst h4
            rw [if_neg (by simp)]
            generalize A1.iv = ai at *
            generalize Q1.iv = qi at *
            clear fS fA s1 s2 s3 a1 a2 hff q1 q2 q3 hpf p1 p2 p3 hk
            cases hq : sameP A1 Q1 with
            | true =>
              rw [hq] at cq
              rw [if_neg (by simp)]
              dsimp only
              rw [e3] at c1 c2 cf ⊢
              refine aI Tryz.func122 rfl rfl (nb rfl) rfl ?_
              repeat' (first | refine aF ?_ | (refine aH ?_;  first | refine aC tabOk rfl rfl rfl (nb rfl) rfl ?_ | (refine aJ rfl rfl rfl (nb rfl) rfl rfl rfl (fun hq => ?_) (fun hq => ?_) <;> (first | (simp only [sD, sE, sB, sC, sN, sM, sT, sF] at hq; try (exfalso; omega)) | skip)) | refine aD rfl rfl (nb rfl) rfl rfl rfl rfl (c1) ?_ | refine aD rfl rfl (nb rfl) rfl rfl rfl rfl (c2) ?_ | refine aD rfl rfl (nb rfl) rfl rfl rfl rfl (c3) ?_ | refine aD rfl rfl (nb rfl) rfl rfl rfl rfl (cf) ?_ | refine aD rfl rfl (nb rfl) rfl rfl rfl rfl (cq) ?_ | refine aV tabOk rfl rfl (nb rfl) rfl ?_ | refine aY tabOk rfl rfl rfl (nb rfl) rfl rfl rfl rfl (by first | rfl | omega) (by first | omega | simp) ?_) | (refine aL ?_;  first | refine aG ?_ | refine aM ?_ | refine aS ?_ | refine aN ?_ | refine aT ?_ | refine aE (b := false) rfl nFt (fun _ => ?_) | refine aQ mixed (by kernel_rfl) ?_) | (refine aK ?_;  first | refine aU ?_) | (refine aR ?_;  first | refine bP ?_) | refine bD (bB (by kernel_rfl)) ?_)
              all_goals first | (exfalso; omega) | exact absurd rfl (by assumption) | (refine aP (by first | exact .inl rfl | exact .inr rfl) (aW rfl (aB rfl) (aB rfl)) rfl ?_; rfl)
            | false =>
              rw [hq] at cq
              rw [if_pos rfl]
              rw [e3] at c1 c2 cf
              refine aI Tryz.func122 rfl rfl (nb rfl) rfl ?_
              repeat' (first | refine aF ?_ | (refine aH ?_;  first | refine aC tabOk rfl rfl rfl (nb rfl) rfl ?_ | (refine aJ rfl rfl rfl (nb rfl) rfl rfl rfl (fun hq => ?_) (fun hq => ?_) <;> (first | (simp only [sD, sE, sB, sC, sN, sM, sT, sF] at hq; try (exfalso; omega)) | skip)) | refine aD rfl rfl (nb rfl) rfl rfl rfl rfl (c1) ?_ | refine aD rfl rfl (nb rfl) rfl rfl rfl rfl (c2) ?_ | refine aD rfl rfl (nb rfl) rfl rfl rfl rfl (c3) ?_ | refine aD rfl rfl (nb rfl) rfl rfl rfl rfl (cf) ?_ | refine aD rfl rfl (nb rfl) rfl rfl rfl rfl (cq) ?_ | refine aV tabOk rfl rfl (nb rfl) rfl ?_ | refine aY tabOk rfl rfl rfl (nb rfl) rfl rfl rfl rfl (by first | rfl | omega) (by first | omega | simp) ?_) | (refine aL ?_;  first | refine aG ?_ | refine aM ?_ | refine aS ?_ | refine aN ?_ | refine aT ?_ | refine aE (b := true) rfl (fun _ => ?_) nTf | refine aE (b := false) rfl nFt (fun _ => ?_) | refine aQ mixed (by kernel_rfl) ?_) | (refine aK ?_;  first | refine aU ?_ | refine aO ?_) | (refine aR ?_;  first | refine aZ ?_) | refine bD (bB (by kernel_rfl)) ?_)
              all_goals first | (exfalso; omega) | exact absurd rfl (by assumption) | (refine aP (by first | exact .inl rfl | exact .inr rfl) (aW rfl (aB rfl) (aB rfl)) rfl ?_; rfl)
          · rw [if_pos h4]
            generalize A1.iv = ai at *
            generalize Q1.iv = qi at *
            rw [e3] at c1 c2 cf
            clear fS fA s1 s2 s3 a1 a2 hff hpf p1 p2 p3 hk
            refine aI Tryz.func122 rfl rfl (nb rfl) rfl ?_
            repeat' (first | refine aF ?_ | (refine aH ?_;  first | refine aC tabOk rfl rfl rfl (nb rfl) rfl ?_ | (refine aJ rfl rfl rfl (nb rfl) rfl rfl rfl (fun hq => ?_) (fun hq => ?_) <;> (first | (simp only [sD, sE, sB, sC, sN, sM, sT, sF] at hq; try (exfalso; omega)) | skip)) | refine aD rfl rfl (nb rfl) rfl rfl rfl rfl (c1) ?_ | refine aD rfl rfl (nb rfl) rfl rfl rfl rfl (c2) ?_ | refine aD rfl rfl (nb rfl) rfl rfl rfl rfl (c3) ?_ | refine aD rfl rfl (nb rfl) rfl rfl rfl rfl (cf) ?_ | refine aV tabOk rfl rfl (nb rfl) rfl ?_ | refine aY tabOk rfl rfl rfl (nb rfl) rfl rfl rfl rfl (by first | rfl | omega) (by first | omega | simp) ?_) | (refine aL ?_;  first | refine aG ?_ | refine aM ?_ | refine aS ?_ | refine aN ?_ | refine aT ?_ | refine aE (b := true) rfl (fun _ => ?_) nTf | refine aE (b := false) rfl nFt (fun _ => ?_) | refine aQ mixed (by kernel_rfl) ?_) | (refine aK ?_;  first | refine aU ?_ | refine aO ?_) | (refine aR ?_;  first | refine aZ ?_) | refine bD (bB (by kernel_rfl)) ?_)
            all_goals first | (exfalso; omega) | exact absurd rfl (by assumption) | (refine aP (by first | exact .inl rfl | exact .inr rfl) (aW rfl (aB rfl) (aB rfl)) rfl ?_; rfl)
      · rw [if_pos hk]
        obtain ⟨k', n', a', b', ks, rfl⟩ := bT s2
        rw [Tree.kind] at hk
        rw [Tree.iv] at c1
        generalize Tree.ivs ks = Z at *
        generalize A1.iv = ai at *
        clear fS fA s1 s2 s3 a1 a2
        refine aI Tryz.func122 rfl rfl (nb rfl) rfl ?_
        repeat' (first | refine aF ?_ | (refine aH ?_;  first | refine aC tabOk rfl rfl rfl (nb rfl) rfl ?_ | (refine aJ rfl rfl rfl (nb rfl) rfl rfl rfl (fun hq => ?_) (fun hq => ?_) <;> (first | (simp only [sD, sE, sB, sC, sN, sM, sT, sF] at hq; try (exfalso; omega)) | skip)) | refine aD rfl rfl (nb rfl) rfl rfl rfl rfl (c1) ?_ | refine aD rfl rfl (nb rfl) rfl rfl rfl rfl (c3) ?_ | refine aV tabOk rfl rfl (nb rfl) rfl ?_ | refine aY tabOk rfl rfl rfl (nb rfl) rfl rfl rfl rfl (by first | rfl | omega) (by first | omega | simp) ?_) | (refine aL ?_;  first | refine aG ?_ | refine aM ?_ | refine aN ?_ | refine aT ?_ | refine aE (b := true) rfl (fun _ => ?_) nTf | refine aE (b := false) rfl nFt (fun _ => ?_) | refine aQ mixed (by kernel_rfl) ?_) | (refine aK ?_;  first | refine aU ?_ | refine aO ?_) | refine bD (bB (by kernel_rfl)) ?_)
        all_goals first | (exfalso; omega) | exact absurd rfl (by assumption) | (refine aP (by first | exact .inl rfl | exact .inr rfl) (aW rfl (aB rfl) (aB rfl)) rfl ?_; rfl)
    · rw [if_pos h3]
      generalize S1.iv = si at *
      generalize A1.iv = ai at *
      clear fS fA
      refine aI Tryz.func122 rfl rfl (nb rfl) rfl ?_
      repeat' (first | refine aF ?_ | (refine aH ?_;  first | refine aC tabOk rfl rfl rfl (nb rfl) rfl ?_ | (refine aJ rfl rfl rfl (nb rfl) rfl rfl rfl (fun hq => ?_) (fun hq => ?_) <;> (first | (simp only [sD, sE, sB, sC, sN, sM, sT, sF] at hq; try (exfalso; omega)) | skip)) | refine aD rfl rfl (nb rfl) rfl rfl rfl rfl (c1) ?_ | refine aD rfl rfl (nb rfl) rfl rfl rfl rfl (c3) ?_ | refine aV tabOk rfl rfl (nb rfl) rfl ?_ | refine aY tabOk rfl rfl rfl (nb rfl) rfl rfl rfl rfl (by first | rfl | omega) (by first | omega | simp) ?_) | (refine aL ?_;  first | refine aG ?_ | refine aM ?_ | refine aN ?_ | refine aT ?_ | refine aE (b := true) rfl (fun _ => ?_) nTf | refine aE (b := false) rfl nFt (fun _ => ?_) | refine aQ mixed (by kernel_rfl) ?_) | (refine aK ?_;  first | refine aU ?_ | refine aO ?_) | refine bD (bB (by kernel_rfl)) ?_)
      all_goals first | (exfalso; omega) | exact absurd rfl (by assumption) | (refine aP (by first | exact .inl rfl | exact .inr rfl) (aW rfl (aB rfl) (aB rfl)) rfl ?_; rfl)
  · rw [if_pos h1]
    generalize S1.iv = si at *
    clear fS fA
    refine aI Tryz.func122 rfl rfl (nb rfl) rfl ?_
    repeat' (first | refine aF ?_ | (refine aH ?_;  first | refine aC tabOk rfl rfl rfl (nb rfl) rfl ?_ | (refine aJ rfl rfl rfl (nb rfl) rfl rfl rfl (fun hq => ?_) (fun hq => ?_) <;> (first | (simp only [sD, sE, sB, sC, sN, sM, sT, sF] at hq; try (exfalso; omega)) | skip)) | refine aD rfl rfl (nb rfl) rfl rfl rfl rfl (c1) ?_ | refine aV tabOk rfl rfl (nb rfl) rfl ?_ | refine aY tabOk rfl rfl rfl (nb rfl) rfl rfl rfl rfl (by first | rfl | omega) (by first | omega | simp) ?_) | (refine aL ?_;  first | refine aG ?_ | refine aM ?_ | refine aN ?_ | refine aE (b := true) rfl (fun _ => ?_) nTf | refine aQ mixed (by kernel_rfl) ?_) | (refine aK ?_;  first | refine aU ?_ | refine aO ?_) | refine bD (bB (by kernel_rfl)) ?_)
    all_goals first | (exfalso; omega) | exact absurd rfl (by assumption) | (refine aP (by first | exact .inl rfl | exact .inr rfl) (aW rfl (aB rfl) (aB rfl)) rfl ?_; rfl)
set_option maxHeartbeats 8000000 in
set_option maxRecDepth 10000 in
theorem wY (kl2 tl2 : Nat) (KI2 TI2 : List IV) (C3 : IV) (k n : Int) (a b : ByteArray) (x y : Tree) (hx : x.whole = true) (hy : y.whole = true) (R B : Tree × Int) (e : Int) (fR : fineT R) (fB : fineW B)
    (c1 : ACalls Tryz.prog 139 [.imm (IV.agg [.sl false kl KI, .sl false tl TI]), .imm x.iv, .imm (.lit (.int .i64 118))] [] (.imm (.tup [(asP R 118).1.iv, .lit (.int .i64 (asP R 118).2)])) [])
    (c2 : (asP R 118).2 = 0 → ACalls Tryz.prog 78 [.imm (IV.agg [.sl false kl KI, .sl false tl TI]), .imm (kid0 R.1).iv] [] (.imm (.tup [(IV.agg [.sl false kl2 KI2, .sl false tl2 TI2]), .lit (.int .i64 e)])) [])
    (c3 : (asP R 118).2 = 0 → e = 0 → ACalls Tryz.prog 79 [.imm (IV.agg [.sl false kl2 KI2, .sl false tl2 TI2]), .imm (kid1 R.1).iv] [] (.imm C3) [])
    (c4 : (asP R 118).2 = 0 → e = 0 → ACalls Tryz.prog 45 [.imm C3, .imm y.iv] [] (.imm (.tup [(B).1.iv, .lit (.int .i64 (B).2)])) []) :
    ACalls Tryz.prog 119 [.imm (IV.agg [.sl false kl KI, .sl false tl TI]), .imm (Tree.iv (.node k n a b [x, y]))] [] (.imm (.tup [(unpack1 R e B).1.iv, .lit (.int .i64 (unpack1 R e B).2)])) [] := by
  obtain ⟨px, hpx⟩ := bV (bL hx)
  obtain ⟨py, hpy⟩ := bV (bL hy)
  rw [dT k n a b hpx hpy]
  rw [hpx] at c1
  rw [hpy] at c4
  unfold unpack1
  by_cases h1 : (asP R 118).2 = 0
  · rw [if_neg (by simpa using h1)]
    replace c2 := c2 h1
    replace c3 := c3 h1
    replace c4 := c4 h1
    obtain ⟨h0, hk⟩ := iY h1
    rw [uR h1] at c1
    clear h1
    obtain ⟨R1, R2⟩ := R
    obtain ⟨B1, B2⟩ := B
    unfold fineT at fR
    unfold fineW at fB
    dsimp only at *
    obtain ⟨s1, s2, s3⟩ := fR h0
    obtain ⟨n', a', b', u, v, e2, hu, hv, wu, wv, su, sv⟩ := iX s1 s2 s3 (.inr hk)
    rw [hk] at e2
    subst e2 h0
    have e0 : kid0 (.node 118 n' a' b' [u, v]) = u := rfl
    have e1 : kid1 (.node 118 n' a' b' [u, v]) = v := rfl
    rw [e0] at c2
    rw [e1] at c3
    obtain ⟨pu, hpu⟩ := bV (bL wu)
    obtain ⟨pv, hpv⟩ := bV (bL wv)
    rw [dT 118 n' a' b' hpu hpv] at c1
    rw [hpu] at c2
    rw [hpv] at c3
    clear fR s1 s2 s3 hk
    by_cases h2 : e = 0
    · replace c3 := c3 h2
      replace c4 := c4 h2
      subst h2
      rw [if_neg (by simp)]
      by_cases h3 : B2 = 0
      · obtain ⟨b1, b2⟩ := fB h3
        have c6 := wF B1 0 b2
        have c7 := kO B1 (-1) 0 b2
        subst h3
        rw [if_neg (by simp)]
        clear fB b1 b2
        cases ho : occP B1 0 with
        | true =>
          rw [if_pos rfl]
          rw [ho] at c6
          generalize B1.iv = bi at *
          refine aI Tryz.func119 rfl rfl (nb rfl) rfl ?_
          refine cT (eG 8 (by simp) rfl rfl) ?_
          repeat' (first | refine aF ?_ | (refine aH ?_;  first | refine aC tabOk rfl rfl rfl (nb rfl) rfl ?_ | (refine aJ rfl rfl rfl (nb rfl) rfl rfl rfl (fun hq => ?_) (fun hq => ?_) <;> (first | (simp only [sD, sE, sB, sC, sN, sM, sT, sF] at hq; try (exfalso; omega)) | skip)) | refine eA 8 (d := 8) tabOk rfl rfl rfl (nb rfl) rfl rfl rfl rfl ?_ | refine aD rfl rfl (nb rfl) rfl rfl rfl rfl (c1) ?_ | refine aD rfl rfl (nb rfl) rfl rfl rfl rfl (c2) ?_ | refine aD rfl rfl (nb rfl) rfl rfl rfl rfl (c3) ?_ | refine aD rfl rfl (nb rfl) rfl rfl rfl rfl (c4) ?_ | refine aD rfl rfl (nb rfl) rfl rfl rfl rfl (c6) ?_ | refine aV tabOk rfl rfl (nb rfl) rfl ?_ | refine bM tabOk rfl rfl rfl (nb rfl) rfl rfl rfl rfl ?_ | refine bK tabOk rfl rfl rfl rfl rfl rfl rfl rfl rfl rfl rfl ?_ | refine aY tabOk rfl rfl rfl (nb rfl) rfl rfl rfl rfl (by first | rfl | omega) (by first | omega | simp) ?_) | (refine aL ?_;  first | refine aG ?_ | refine aM ?_ | refine aS ?_ | refine aN ?_ | refine aT ?_ | refine aE (b := true) rfl (fun _ => ?_) nTf | refine aE (b := false) rfl nFt (fun _ => ?_) | refine aQ mixed (by kernel_rfl) ?_) | (refine aK ?_;  first | refine aU ?_ | refine aO ?_) | (refine aR ?_;  first | refine aZ ?_) | refine bD (bB (by kernel_rfl)) ?_)
          all_goals first | (exfalso; omega) | exact absurd rfl (by assumption) | (refine aP (by first | exact .inl rfl | exact .inr rfl) (aW rfl (aB rfl) (aB rfl)) rfl ?_; rfl)
        | false =>
          rw [if_neg (by simp)]
          rw [ho] at c6
          generalize shiftP B1 (-1) 0 = Q at *
          obtain ⟨Q1, Q2⟩ := Q
          dsimp only at *
          generalize B1.iv = bi at *
          generalize Q1.iv = qi at *
          refine aI Tryz.func119 rfl rfl (nb rfl) rfl ?_
          refine cT (eG 8 (by simp) rfl rfl) ?_
          repeat' (first | refine aF ?_ | (refine aH ?_;  first | refine aC tabOk rfl rfl rfl (nb rfl) rfl ?_ | (refine aJ rfl rfl rfl (nb rfl) rfl rfl rfl (fun hq => ?_) (fun hq => ?_) <;> (first | (simp only [sD, sE, sB, sC, sN, sM, sT, sF] at hq; try (exfalso; omega)) | skip)) | refine eA 8 (d := 8) tabOk rfl rfl rfl (nb rfl) rfl rfl rfl rfl ?_ | refine aD rfl rfl (nb rfl) rfl rfl rfl rfl (c1) ?_ | refine aD rfl rfl (nb rfl) rfl rfl rfl rfl (c2) ?_ | refine aD rfl rfl (nb rfl) rfl rfl rfl rfl (c3) ?_ | refine aD rfl rfl (nb rfl) rfl rfl rfl rfl (c4) ?_ | refine aD rfl rfl (nb rfl) rfl rfl rfl rfl (c6) ?_ | refine aD rfl rfl (nb rfl) rfl rfl rfl rfl (c7) ?_ | refine aV tabOk rfl rfl (nb rfl) rfl ?_ | refine bM tabOk rfl rfl rfl (nb rfl) rfl rfl rfl rfl ?_ | refine bK tabOk rfl rfl rfl rfl rfl rfl rfl rfl rfl rfl rfl ?_ | refine aY tabOk rfl rfl rfl (nb rfl) rfl rfl rfl rfl (by first | rfl | omega) (by first | omega | simp) ?_) | (refine aL ?_;  first | refine aG ?_ | refine aM ?_ | refine aS ?_ | refine aN ?_ | refine aT ?_ | refine aE (b := false) rfl nFt (fun _ => ?_) | refine aQ mixed (by kernel_rfl) ?_) | (refine aK ?_;  first | refine aU ?_) | (refine aR ?_;  first | refine bP ?_) | refine bD (bB (by kernel_rfl)) ?_)
          all_goals first | (exfalso; omega) | exact absurd rfl (by assumption) | (refine aP (by first | exact .inl rfl | exact .inr rfl) (aW rfl (aB rfl) (aB rfl)) rfl ?_; rfl)
      · rw [if_pos h3]
        generalize B1.iv = bi at *
        clear fB
        refine aI Tryz.func119 rfl rfl (nb rfl) rfl ?_
        refine cT (eG 8 (by simp) rfl rfl) ?_
        repeat' (first | refine aF ?_ | (refine aH ?_;  first | refine aC tabOk rfl rfl rfl (nb rfl) rfl ?_ | (refine aJ rfl rfl rfl (nb rfl) rfl rfl rfl (fun hq => ?_) (fun hq => ?_) <;> (first | (simp only [sD, sE, sB, sC, sN, sM, sT, sF] at hq; try (exfalso; omega)) | skip)) | refine eA 8 (d := 8) tabOk rfl rfl rfl (nb rfl) rfl rfl rfl rfl ?_ | refine aD rfl rfl (nb rfl) rfl rfl rfl rfl (c1) ?_ | refine aD rfl rfl (nb rfl) rfl rfl rfl rfl (c2) ?_ | refine aD rfl rfl (nb rfl) rfl rfl rfl rfl (c3) ?_ | refine aD rfl rfl (nb rfl) rfl rfl rfl rfl (c4) ?_ | refine aV tabOk rfl rfl (nb rfl) rfl ?_ | refine bM tabOk rfl rfl rfl (nb rfl) rfl rfl rfl rfl ?_ | refine bK tabOk rfl rfl rfl rfl rfl rfl rfl rfl rfl rfl rfl ?_ | refine aY tabOk rfl rfl rfl (nb rfl) rfl rfl rfl rfl (by first | rfl | omega) (by first | omega | simp) ?_) | (refine aL ?_;  first | refine aG ?_ | refine aM ?_ | refine aS ?_ | refine aN ?_ | refine aT ?_ | refine aE (b := true) rfl (fun _ => ?_) nTf | refine aE (b := false) rfl nFt (fun _ => ?_) | refine aQ mixed (by kernel_rfl) ?_) | (refine aK ?_;  first | refine aU ?_ | refine aO ?_) | (refine aR ?_;  first | refine aZ ?_) | refine bD (bB (by kernel_rfl)) ?_)
        all_goals first | (exfalso; omega) | exact absurd rfl (by assumption) | (refine aP (by first | exact .inl rfl | exact .inr rfl) (aW rfl (aB rfl) (aB rfl)) rfl ?_; rfl)
    · rw [if_pos h2]
      clear c3 c4 fB
      refine aI Tryz.func119 rfl rfl (nb rfl) rfl ?_
      refine cT (eG 8 (by simp) rfl rfl) ?_
      repeat' (first | refine aF ?_ | (refine aH ?_;  first | refine aC tabOk rfl rfl rfl (nb rfl) rfl ?_ | (refine aJ rfl rfl rfl (nb rfl) rfl rfl rfl (fun hq => ?_) (fun hq => ?_) <;> (first | (simp only [sD, sE, sB, sC, sN, sM, sT, sF] at hq; try (exfalso; omega)) | skip)) | refine eA 8 (d := 8) tabOk rfl rfl rfl (nb rfl) rfl rfl rfl rfl ?_ | refine aD rfl rfl (nb rfl) rfl rfl rfl rfl (c1) ?_ | refine aD rfl rfl (nb rfl) rfl rfl rfl rfl (c2) ?_ | refine aV tabOk rfl rfl (nb rfl) rfl ?_ | refine bK tabOk rfl rfl rfl rfl rfl rfl rfl rfl rfl rfl rfl ?_ | refine aY tabOk rfl rfl rfl (nb rfl) rfl rfl rfl rfl (by first | rfl | omega) (by first | omega | simp) ?_) | (refine aL ?_;  first | refine aG ?_ | refine aM ?_ | refine aN ?_ | refine aT ?_ | refine aE (b := true) rfl (fun _ => ?_) nTf | refine aE (b := false) rfl nFt (fun _ => ?_) | refine aQ mixed (by kernel_rfl) ?_) | (refine aK ?_;  first | refine aU ?_ | refine aO ?_) | refine bD (bB (by kernel_rfl)) ?_)
      all_goals first | (exfalso; omega) | exact absurd rfl (by assumption) | (refine aP (by first | exact .inl rfl | exact .inr rfl) (aW rfl (aB rfl) (aB rfl)) rfl ?_; rfl)
  · rw [if_pos h1]
    clear c2 c3 c4
    generalize asP R 118 = Q at *
    obtain ⟨Q1, Q2⟩ := Q
    dsimp only at *
    generalize Q1.iv = qi at *
    clear fR fB
    refine aI Tryz.func119 rfl rfl (nb rfl) rfl ?_
    refine cT (eG 8 (by simp) rfl rfl) ?_
    repeat' (first | refine aF ?_ | (refine aH ?_;  first | refine aC tabOk rfl rfl rfl (nb rfl) rfl ?_ | (refine aJ rfl rfl rfl (nb rfl) rfl rfl rfl (fun hq => ?_) (fun hq => ?_) <;> (first | (simp only [sD, sE, sB, sC, sN, sM, sT, sF] at hq; try (exfalso; omega)) | skip)) | refine aD rfl rfl (nb rfl) rfl rfl rfl rfl (c1) ?_ | refine aV tabOk rfl rfl (nb rfl) rfl ?_ | refine aY tabOk rfl rfl rfl (nb rfl) rfl rfl rfl rfl (by first | rfl | omega) (by first | omega | simp) ?_) | (refine aL ?_;  first | refine aG ?_ | refine aM ?_ | refine aN ?_ | refine aE (b := true) rfl (fun _ => ?_) nTf | refine aQ mixed (by kernel_rfl) ?_) | (refine aK ?_;  first | refine aU ?_ | refine aO ?_) | refine bD (bB (by kernel_rfl)) ?_)
    all_goals first | (exfalso; omega) | exact absurd rfl (by assumption) | (refine aP (by first | exact .inl rfl | exact .inr rfl) (aW rfl (aB rfl) (aB rfl)) rfl ?_; rfl)
end
end Go.Proofs.YtlbemgokilhdnaaGreat.Ab
namespace Go.Proofs.YtlbemgokilhdnaaGreat.Ab
set_option linter.unusedVariables false
set_option linter.unusedSimpArgs false
open Go.RowKit
attribute [local irreducible] AWP AOps AExit AThen ABlock ANoGoto FeetOk
section
variable (kl tl : Nat) (KI TI : List IV)
set_option maxHeartbeats 16000000 in
set_option maxRecDepth 10000 in
theorem aCi (k n : Int) (a b : ByteArray) (x y z : Tree) (hx : x.whole = true) (hy : y.whole = true) (hz : z.whole = true) (A B C : Tree × Int) (fA : fineW A) (fB : fineW B) (fC : fineW C)
    (c1 : ACalls Tryz.prog 45 [.imm (IV.agg [.sl false kl KI, .sl false tl TI]), .imm x.iv] [] (.imm (.tup [(A).1.iv, .lit (.int .i64 (A).2)])) []) (c2 : ACalls Tryz.prog 45 [.imm (IV.agg [.sl false kl KI, .sl false tl TI]), .imm y.iv] [] (.imm (.tup [(B).1.iv, .lit (.int .i64 (B).2)])) []) (c3 : ACalls Tryz.prog 45 [.imm (IV.agg [.sl false kl KI, .sl false tl TI]), .imm z.iv] [] (.imm (.tup [(C).1.iv, .lit (.int .i64 (C).2)])) []) :
    ACalls Tryz.prog 120 [.imm (IV.agg [.sl false kl KI, .sl false tl TI]), .imm (Tree.iv (.node k n a b [x, y, z]))] [] (.imm (.tup [(choice1 A B C).1.iv, .lit (.int .i64 (choice1 A B C).2)])) [] := by
  obtain ⟨px, hpx⟩ := bV (bL hx)
  obtain ⟨py, hpy⟩ := bV (bL hy)
  obtain ⟨pz, hpz⟩ := bV (bL hz)
  rw [wX k n a b hpx hpy hpz]
  rw [hpx] at c1
  rw [hpy] at c2
  rw [hpz] at c3
  generalize hQ : choice1 A B C = Q
  unfold choice1 at hQ
  obtain ⟨A1, A2⟩ := A
  obtain ⟨B1, B2⟩ := B
  obtain ⟨C1, C2⟩ := C
  unfold fineW at fA fB fC
  dsimp only at *
  refine cI Tryz.func120 rfl rfl (nb rfl) rfl ?_
  repeat' (first | refine aF ?_ | (refine aH ?_;  first | refine aC tabOk rfl rfl rfl (nb rfl) rfl ?_ | refine aV tabOk rfl rfl (nb rfl) rfl ?_) | (refine aL ?_;  first | refine aG ?_ | refine aM ?_ | refine aS ?_))
  refine cT (mD (t := 6) 500 25 1 rfl (by simp) rfl rfl) ?_
  refine cD (ι := {j : Nat // j ≤ 3 ∧ (0 < j → A2 = 0) ∧ (1 < j → B2 = 0) ∧ (2 < j → C2 = 0)}) (fun j => S.f ⟨[(16, .imm (.lit (.int .i64 (j.1 : Int)))), (15, .imm (.lit (.int .i64 3))), (14, .imm (.sl false 3 [.ptr px 0, .ptr py 0, .ptr pz 0])), (2, .imm (.ptr [.sl false kl KI, .sl false tl TI] 0)), (6, .ref 500 j.1)], [(500, .arr 25 1 j.1 ([A1.iv, B1.iv, C1.iv].take j.1))]⟩) (fun j => 3 - j.1) ⟨0, by omega, by omega, by omega, by omega⟩ (bU (by repeat' first | exact trivial | refine ⟨rfl, ?_⟩) (by repeat' first | exact trivial | refine ⟨rfl, ?_⟩)) ?_
  rintro ⟨j, hj, i1, i2, i3⟩
  dsimp only
  match j, hj with
  | 0, _ =>
    by_cases h : A2 = 0
    · obtain ⟨pa, hpa⟩ := bV (bL (fA h).1)
      rw [hpa] at c1 ⊢
      have h' := h
      rw [h] at c1
      clear fA fB fC hQ
      repeat' (first | refine aF ?_ | (refine aH ?_;  first | refine aC tabOk rfl rfl rfl (nb rfl) rfl ?_ | (refine aJ rfl rfl rfl (nb rfl) rfl rfl rfl (fun hq => ?_) (fun hq => ?_) <;> (first | (simp only [sD, sE, sB, sC, sN, sM, sT, sF] at hq; try (exfalso; omega)) | skip)) | refine aD rfl rfl (nb rfl) rfl rfl rfl rfl (c1) ?_ | refine cM tabOk rfl rfl rfl (nb rfl) rfl rfl rfl rfl rfl rfl rfl (by first | omega | decide) rfl (by first | omega | (dsimp only; omega)) (by first | omega | (dsimp only; omega)) ?_ | refine bQ rfl rfl rfl (nb rfl) rfl rfl (by omega) ?_ | refine bY tabOk rfl rfl rfl (nb rfl) rfl rfl rfl rfl rfl rfl rfl rfl rfl ?_ | refine bF tabOk rfl rfl rfl (nb rfl) rfl rfl rfl rfl (by first | assumption | omega) ?_) | (refine aL ?_;  first | refine aG ?_ | refine aM ?_ | refine bI ?_ | refine aS ?_ | refine aT ?_ | refine aE (b := true) rfl (fun _ => ?_) nTf | refine aE (b := false) rfl nFt (fun _ => ?_)) | (refine aK ?_;  first | refine aU ?_) | (refine aR ?_;  first | refine bP ?_))
      all_goals first
        | (exfalso; omega)
        | exact absurd rfl (by assumption)
        | exact ⟨⟨1, by omega, fun _ => h', by omega, by omega⟩, (by show 3 - 1 < 3 - 0; omega), (bU (by repeat' first | exact trivial | refine ⟨rfl, ?_⟩) (by repeat' first | exact trivial | refine ⟨rfl, ?_⟩))⟩
    · rw [if_pos h] at hQ
      subst hQ
      generalize A1.iv = ai at *
      clear fA fB fC
      repeat' (first | refine aF ?_ | (refine aH ?_;  first | refine aC tabOk rfl rfl rfl (nb rfl) rfl ?_ | (refine aJ rfl rfl rfl (nb rfl) rfl rfl rfl (fun hq => ?_) (fun hq => ?_) <;> (first | (simp only [sD, sE, sB, sC, sN, sM, sT, sF] at hq; try (exfalso; omega)) | skip)) | refine aD rfl rfl (nb rfl) rfl rfl rfl rfl (c1) ?_ | refine bF tabOk rfl rfl rfl (nb rfl) rfl rfl rfl rfl (by first | assumption | omega) ?_) | (refine aL ?_;  first | refine aG ?_ | refine aM ?_ | refine aS ?_ | refine aN ?_ | refine aT ?_ | refine aE (b := true) rfl (fun _ => ?_) nTf) | (refine aK ?_;  first | refine aU ?_ | refine aO ?_) | (refine aR ?_;  first | refine aZ ?_))
      all_goals first | (exfalso; omega) | exact absurd rfl (by assumption) | (refine cK (aP (by first | exact .inl rfl | exact .inr rfl) (aW rfl (aB rfl) (aB rfl)) rfl ?_); rfl)
  | 1, _ =>
    have hA := i1 (by omega)
    rw [if_neg (by simpa using hA)] at hQ
    by_cases h : B2 = 0
    · obtain ⟨pb, hpb⟩ := bV (bL (fB h).1)
      obtain ⟨pa, hpa⟩ := bV (bL (fA hA).1)
      rw [hpb] at c2 ⊢
      rw [hpa]
      have h' := h
      rw [h] at c2
      clear fA fB fC hQ
      repeat' (first | refine aF ?_ | (refine aH ?_;  first | refine aC tabOk rfl rfl rfl (nb rfl) rfl ?_ | (refine aJ rfl rfl rfl (nb rfl) rfl rfl rfl (fun hq => ?_) (fun hq => ?_) <;> (first | (simp only [sD, sE, sB, sC, sN, sM, sT, sF] at hq; try (exfalso; omega)) | skip)) | refine aD rfl rfl (nb rfl) rfl rfl rfl rfl (c2) ?_ | refine cM tabOk rfl rfl rfl (nb rfl) rfl rfl rfl rfl rfl rfl rfl (by first | omega | decide) rfl (by first | omega | (dsimp only; omega)) (by first | omega | (dsimp only; omega)) ?_ | refine bQ rfl rfl rfl (nb rfl) rfl rfl (by omega) ?_ | refine bY tabOk rfl rfl rfl (nb rfl) rfl rfl rfl rfl rfl rfl rfl rfl rfl ?_ | refine bF tabOk rfl rfl rfl (nb rfl) rfl rfl rfl rfl (by first | assumption | omega) ?_) | (refine aL ?_;  first | refine aG ?_ | refine aM ?_ | refine bI ?_ | refine aS ?_ | refine aT ?_ | refine aE (b := true) rfl (fun _ => ?_) nTf | refine aE (b := false) rfl nFt (fun _ => ?_)) | (refine aK ?_;  first | refine aU ?_) | (refine aR ?_;  first | refine bP ?_))
      all_goals first
        | (exfalso; omega)
        | exact absurd rfl (by assumption)
        | exact ⟨⟨2, by omega, fun _ => hA, fun _ => h', by omega⟩, (by show 3 - 2 < 3 - 1; omega), (bU (by repeat' first | exact trivial | refine ⟨rfl, ?_⟩) (by repeat' first | exact trivial | refine ⟨rfl, ?_⟩))⟩
    · rw [if_pos h] at hQ
      subst hQ
      generalize A1.iv = ai at *
      generalize B1.iv = bi at *
      clear fA fB fC
      repeat' (first | refine aF ?_ | (refine aH ?_;  first | refine aC tabOk rfl rfl rfl (nb rfl) rfl ?_ | (refine aJ rfl rfl rfl (nb rfl) rfl rfl rfl (fun hq => ?_) (fun hq => ?_) <;> (first | (simp only [sD, sE, sB, sC, sN, sM, sT, sF] at hq; try (exfalso; omega)) | skip)) | refine aD rfl rfl (nb rfl) rfl rfl rfl rfl (c2) ?_ | refine bF tabOk rfl rfl rfl (nb rfl) rfl rfl rfl rfl (by first | assumption | omega) ?_) | (refine aL ?_;  first | refine aG ?_ | refine aM ?_ | refine aS ?_ | refine aN ?_ | refine aT ?_ | refine aE (b := true) rfl (fun _ => ?_) nTf) | (refine aK ?_;  first | refine aU ?_ | refine aO ?_) | (refine aR ?_;  first | refine aZ ?_))
      all_goals first | (exfalso; omega) | exact absurd rfl (by assumption) | (refine cK (aP (by first | exact .inl rfl | exact .inr rfl) (aW rfl (aB rfl) (aB rfl)) rfl ?_); rfl)
  | 2, _ =>
    have hA := i1 (by omega)
    have hB := i2 (by omega)
    rw [if_neg (by simpa using hA), if_neg (by simpa using hB)] at hQ
    by_cases h : C2 = 0
    · obtain ⟨pc, hpc⟩ := bV (bL (fC h).1)
      obtain ⟨pb, hpb⟩ := bV (bL (fB hB).1)
      obtain ⟨pa, hpa⟩ := bV (bL (fA hA).1)
      rw [hpc] at c3 ⊢
      rw [hpa, hpb]
      have h' := h
      rw [h] at c3
      clear fA fB fC hQ
      repeat' (first | refine aF ?_ | (refine aH ?_;  first | refine aC tabOk rfl rfl rfl (nb rfl) rfl ?_ | (refine aJ rfl rfl rfl (nb rfl) rfl rfl rfl (fun hq => ?_) (fun hq => ?_) <;> (first | (simp only [sD, sE, sB, sC, sN, sM, sT, sF] at hq; try (exfalso; omega)) | skip)) | refine aD rfl rfl (nb rfl) rfl rfl rfl rfl (c3) ?_ | refine cM tabOk rfl rfl rfl (nb rfl) rfl rfl rfl rfl rfl rfl rfl (by first | omega | decide) rfl (by first | omega | (dsimp only; omega)) (by first | omega | (dsimp only; omega)) ?_ | refine bQ rfl rfl rfl (nb rfl) rfl rfl (by omega) ?_ | refine bY tabOk rfl rfl rfl (nb rfl) rfl rfl rfl rfl rfl rfl rfl rfl rfl ?_ | refine bF tabOk rfl rfl rfl (nb rfl) rfl rfl rfl rfl (by first | assumption | omega) ?_) | (refine aL ?_;  first | refine aG ?_ | refine aM ?_ | refine bI ?_ | refine aS ?_ | refine aT ?_ | refine aE (b := true) rfl (fun _ => ?_) nTf | refine aE (b := false) rfl nFt (fun _ => ?_)) | (refine aK ?_;  first | refine aU ?_) | (refine aR ?_;  first | refine bP ?_))
      all_goals first
        | (exfalso; omega)
        | exact absurd rfl (by assumption)
        | exact ⟨⟨3, by omega, fun _ => hA, fun _ => hB, fun _ => h'⟩, (by show 3 - 3 < 3 - 2; omega), (bU (by repeat' first | exact trivial | refine ⟨rfl, ?_⟩) (by repeat' first | exact trivial | refine ⟨rfl, ?_⟩))⟩
    · rw [if_pos h] at hQ
      subst hQ
      generalize A1.iv = ai at *
      generalize B1.iv = bi at *
      generalize C1.iv = ci at *
      clear fA fB fC
      repeat' (first | refine aF ?_ | (refine aH ?_;  first | refine aC tabOk rfl rfl rfl (nb rfl) rfl ?_ | (refine aJ rfl rfl rfl (nb rfl) rfl rfl rfl (fun hq => ?_) (fun hq => ?_) <;> (first | (simp only [sD, sE, sB, sC, sN, sM, sT, sF] at hq; try (exfalso; omega)) | skip)) | refine aD rfl rfl (nb rfl) rfl rfl rfl rfl (c3) ?_ | refine bF tabOk rfl rfl rfl (nb rfl) rfl rfl rfl rfl (by first | assumption | omega) ?_) | (refine aL ?_;  first | refine aG ?_ | refine aM ?_ | refine aS ?_ | refine aN ?_ | refine aT ?_ | refine aE (b := true) rfl (fun _ => ?_) nTf) | (refine aK ?_;  first | refine aU ?_ | refine aO ?_) | (refine aR ?_;  first | refine aZ ?_))
      all_goals first | (exfalso; omega) | exact absurd rfl (by assumption) | (refine cK (aP (by first | exact .inl rfl | exact .inr rfl) (aW rfl (aB rfl) (aB rfl)) rfl ?_); rfl)
  | 3, _ =>
    have hA := i1 (by omega)
    have hB := i2 (by omega)
    have hC := i3 (by omega)
    rw [if_neg (by simpa using hA), if_neg (by simpa using hB), if_neg (by simpa using hC)] at hQ
    obtain ⟨gc, gc2⟩ := fC hC
    obtain ⟨gb, gb2⟩ := fB hB
    have ga := (fA hA).1
    have cs := gZ B1 C1 (.inr gb) (.inr gc) gb2 gc2
    obtain ⟨pc, hpc⟩ := bV (bL gc)
    obtain ⟨pb, hpb⟩ := bV (bL gb)
    obtain ⟨k1, n1, a1, b1, ks1, rfl⟩ := bT ga
    rw [hpb, hpc] at cs
    rw [hpb, hpc, Tree.iv]
    rw [Tree.kind] at hQ
    generalize Tree.ivs ks1 = Z at *
    clear fA fB fC c1 c2 c3
    refine cT (cP (g := 500) rfl (by repeat' first | exact trivial | exact fun _ => rfl | refine ⟨?_, ?_⟩) (by repeat' first | exact trivial | exact fun _ => rfl | refine ⟨?_, ?_⟩)) ?_
    show AWP _ _ _ _ _ (S.f ⟨[(16, .imm (.lit (.int .i64 ((3 : Nat) : Int)))), (15, .imm (.lit (.int .i64 3))), (14, .imm (.sl false 3 [.ptr px 0, .ptr py 0, .ptr pz 0])), (2, .imm (.ptr [.sl false kl KI, .sl false tl TI] 0)), (6, .imm (.sl false 3 [.ptr [.lit (.int .i64 k1), .lit (.int .i64 n1), .lit (.string a1), .lit (.string b1), .sl false ks1.length Z] 0, .ptr pb 0, .ptr pc 0]))], []⟩)
    by_cases h1 : k1 = 112
    · subst h1
      cases hs : sameP B1 C1 with
      | true =>
        rw [hs] at cs hQ
        rw [if_neg (by simp)] at hQ
        subst hQ
        dsimp only
        rw [hpb]
        repeat' (first | refine aF ?_ | (refine aH ?_;  first | refine aC tabOk rfl rfl rfl (nb rfl) rfl ?_ | (refine aJ rfl rfl rfl (nb rfl) rfl rfl rfl (fun hq => ?_) (fun hq => ?_) <;> (first | (simp only [sD, sE, sB, sC, sN, sM, sT, sF] at hq; try (exfalso; omega)) | skip)) | refine aD rfl rfl (nb rfl) rfl rfl rfl rfl (cs) ?_ | refine bF tabOk rfl rfl rfl (nb rfl) rfl rfl rfl rfl (by first | assumption | omega) ?_ | refine aY tabOk rfl rfl rfl (nb rfl) rfl rfl rfl rfl (by first | rfl | omega) (by first | omega | simp) ?_) | (refine aL ?_;  first | refine aG ?_ | refine aM ?_ | refine aN ?_ | refine bR ?_ | refine aT ?_ | refine aE (b := false) rfl nFt (fun _ => ?_) | refine aQ mixed (by kernel_rfl) ?_) | (refine aK ?_;  first | refine aU ?_ | refine bJ ?_) | (refine aR ?_;  first | refine bH ?_) | refine bD (bB (by kernel_rfl)) ?_)
        all_goals first | (exfalso; omega) | exact absurd rfl (by assumption) | (refine cK (aP (by first | exact .inl rfl | exact .inr rfl) (aW rfl (aB rfl) (aB rfl)) rfl ?_); rfl)
      | false =>
        rw [hs] at cs hQ
        rw [if_pos (.inr rfl)] at hQ
        subst hQ
        repeat' (first | refine aF ?_ | (refine aH ?_;  first | refine aC tabOk rfl rfl rfl (nb rfl) rfl ?_ | (refine aJ rfl rfl rfl (nb rfl) rfl rfl rfl (fun hq => ?_) (fun hq => ?_) <;> (first | (simp only [sD, sE, sB, sC, sN, sM, sT, sF] at hq; try (exfalso; omega)) | skip)) | refine aD rfl rfl (nb rfl) rfl rfl rfl rfl (cs) ?_ | refine bF tabOk rfl rfl rfl (nb rfl) rfl rfl rfl rfl (by first | assumption | omega) ?_ | refine aY tabOk rfl rfl rfl (nb rfl) rfl rfl rfl rfl (by first | rfl | omega) (by first | omega | simp) ?_) | (refine aL ?_;  first | refine aG ?_ | refine aM ?_ | refine aN ?_ | refine bR ?_ | refine aE (b := true) rfl (fun _ => ?_) nTf | refine aE (b := false) rfl nFt (fun _ => ?_) | refine aQ mixed (by kernel_rfl) ?_) | (refine aK ?_;  first | refine aU ?_ | refine bJ ?_ | refine aO ?_) | (refine aR ?_;  first | refine bH ?_) | refine bD (bB (by kernel_rfl)) ?_)
        all_goals first | (exfalso; omega) | exact absurd rfl (by assumption) | (refine cK (aP (by first | exact .inl rfl | exact .inr rfl) (aW rfl (aB rfl) (aB rfl)) rfl ?_); rfl)
    · rw [if_pos (.inl h1)] at hQ
      subst hQ
      repeat' (first | refine aF ?_ | (refine aH ?_;  first | refine aC tabOk rfl rfl rfl (nb rfl) rfl ?_ | refine bO rfl rfl (nb rfl) ?_ | (refine aJ rfl rfl rfl (nb rfl) rfl rfl rfl (fun hq => ?_) (fun hq => ?_) <;> (first | (simp only [sD, sE, sB, sC, sN, sM, sT, sF] at hq; try (exfalso; omega)) | skip)) | refine aY tabOk rfl rfl rfl (nb rfl) rfl rfl rfl rfl (by first | rfl | omega) (by first | omega | simp) ?_) | (refine aL ?_;  first | refine aG ?_ | refine aM ?_ | refine aN ?_ | refine bR ?_ | refine aE (b := true) rfl (fun _ => ?_) nTf | refine aE (b := false) rfl nFt (fun _ => ?_) | refine aQ mixed (by kernel_rfl) ?_) | (refine aK ?_;  first | refine aU ?_ | refine bJ ?_ | refine aO ?_) | (refine aR ?_;  first | refine bH ?_) | refine bD (bB (by kernel_rfl)) ?_)
      all_goals first | (exfalso; omega) | exact absurd rfl (by assumption) | (refine cK (aP (by first | exact .inl rfl | exact .inr rfl) (aW rfl (aB rfl) (aB rfl)) rfl ?_); rfl)
  | j + 4, h => omega
end
end Go.Proofs.YtlbemgokilhdnaaGreat.Ab
