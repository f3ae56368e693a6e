/- Words, walks and laws under the claim's statement: what it uses of them. No condition of its own. -/
import Derived.Test.YtlbemgokilhdnaaGreatMTL3
import Derived.Test.YtlbemgokilhdnaaGreatMTL2
import Derived.Test.YtlbemgokilhdnaaGreatMTL1
namespace Go.Proofs.YtlbemgokilhdnaaGreat.Ab
set_option linter.unusedVariables false
set_option linter.unusedSimpArgs false
open Go.RowKit
attribute [local irreducible] AWP AOps AExit AThen ABlock ANoGoto FeetOk
theorem aBg (ks ts : List Tree) : ∀ l : List Tree, (ofRec l ks ts).2 ≠ 0 → (ofRec l ks ts).1 = []
  | [], h => by rw [ofRec] at h; exact absurd rfl h
  | t :: l, h => by
    rw [ofRec] at h ⊢
    unfold consP at h ⊢
    split
    · rfl
    · rename_i h1
      rw [if_neg h1] at h
      split
      · rfl
      · rename_i h2; rw [if_neg h2] at h; exact absurd rfl h
section
variable (kl tl : Nat) (KI TI : List IV)
set_option maxHeartbeats 16000000 in
set_option maxRecDepth 10000 in
theorem aDx (k n : Int) (a b : ByteArray) (kids ks ts : List Tree) (hkl : kids.length ≤ 100000000)
    (hf : ∀ t ∈ kids, ∃ a' x, t = .node 137 0 a' emptyB [x] ∧ x.whole = true ∧ fineW (ofP x ks ts) ∧ ACalls Tryz.prog 45 [.imm (IV.agg [.sl false kl KI, .sl false tl TI]), .imm x.iv] [] (.imm (.tup [(ofP x ks ts).1.iv, .lit (.int .i64 (ofP x ks ts).2)])) []) :
    ACalls Tryz.prog 115 [.imm (IV.agg [.sl false kl KI, .sl false tl TI]), .imm (Tree.iv (.node k n a b kids))] [] (.imm (.tup [(rec1 (ofRec kids ks ts)).1.iv, .lit (.int .i64 (rec1 (ofRec kids ks ts)).2)])) [] := by
  have hQ0 := nU (ofRec kids ks ts) (aBg ks ts kids)
  generalize hQ : ofRec kids ks ts = Q at *
  have c0 := aDj 115
  rw [Tree.iv]
  refine cI Tryz.func115 rfl rfl (nb rfl) rfl ?_
  refine cT (eG 600 (by simp) rfl rfl) ?_
  repeat' (first | refine aF ?_ | (refine aH ?_;  first | refine aC tabOk rfl rfl rfl (nb rfl) rfl ?_ | refine bW rfl rfl (nb rfl) rfl rfl rfl rfl c0 (by exact ⟨rfl, trivial⟩) rfl (by simp) ?_ | refine aV tabOk rfl rfl (nb rfl) rfl ?_) | (refine aL ?_;  first | refine aG ?_ | refine aM ?_ | refine aS ?_))
  refine cT (dY (h0 := 600) (k0 := 4) 500 25 1 rfl rfl (by simp) rfl rfl) ?_
  refine cD (ι := {p : Nat × List Tree // p.1 ≤ kids.length ∧ p.2.length = p.1 ∧ accP p.2 (ofRec (kids.drop p.1) ks ts) = Q}) (fun p => S.f ⟨[(17, .imm (.lit (.int .i64 (p.1.1 : Int)))), (16, .imm (.lit (.int .i64 (kids.length : Int)))), (15, .imm (.sl false kids.length (Tree.ivs kids))), (2, .imm (.ptr [.sl false kl KI, .sl false tl TI] 0)), (6, .obj 600 0)], [(500, .arr 25 1 p.1.1 (Tree.ivs p.1.2)), (600, .cells [.imm (.lit (.int .i64 115)), .imm (.lit (.int .i64 0)), .imm (.lit (.string ⟨#[]⟩)), .imm (.lit (.string ⟨#[]⟩)), .ref 500 p.1.1])]⟩) (fun p => kids.length - p.1.1) ⟨(0, []), Nat.zero_le _, rfl, by rw [List.drop_zero, hQ]; exact hQ0⟩ (bU (by repeat' first | exact trivial | refine ⟨rfl, ?_⟩) (by repeat' first | exact trivial | refine ⟨rfl, ?_⟩)) ?_
  clear hQ0 c0
  rintro ⟨⟨j, acc⟩, hj, hal, hac⟩
  dsimp only at hj hal hac ⊢
  by_cases hlt : j < kids.length
  · have hget := cG kids j hlt
    obtain ⟨a', x, et, hx, hfx, c2⟩ := hf _ (List.getElem_mem hlt)
    obtain ⟨px, hpx⟩ := bV (bL hx)
    rw [List.drop_eq_getElem_cons hlt, ofRec, et] at hac
    rw [show ofField (.node 137 0 a' emptyB [x]) ks ts = field1 a' (ofP x ks ts) by rw [ofField, ofH]] at hac
    rw [et, kE 137 0 a' emptyB hpx] at hget
    rw [hpx] at c2
    unfold field1 at hac
    generalize ofP x ks ts = R at *
    obtain ⟨R1, R2⟩ := R
    unfold fineW at hfx
    dsimp only at *
    by_cases h0 : R2 = 0
    · rw [if_neg (by simpa using h0), nT rfl] at hac
      obtain ⟨g1, _⟩ := hfx h0
      obtain ⟨pr, hpr⟩ := bV (bL g1)
      subst h0
      rw [hpr] at c2
      have hnx : Tree.ivs (acc ++ [.node 116 0 a' emptyB [R1]]) = Tree.ivs acc ++ [.ptr [.lit (.int .i64 116), .lit (.int .i64 0), .lit (.string a'), .lit (.string emptyB), .sl false 1 [.ptr pr 0]] 0] := by rw [cQ, cQ, List.map_append, List.map_cons, kE 116 0 a' emptyB hpr]; rfl
      have hil := cX acc
      rw [hal] at hil
      generalize hAI : Tree.ivs acc = AI at *
      clear hf hfx
      repeat' (first | refine aF ?_ | (refine aH ?_;  first | refine aC tabOk rfl rfl rfl (nb rfl) rfl ?_ | (refine aJ rfl rfl rfl (nb rfl) rfl rfl rfl (fun hq => ?_) (fun hq => ?_) <;> (first | (simp only [sD, sE, sB, sC, sN, sM, sT, sF] at hq; try (exfalso; omega)) | skip)) | refine bE tabOk rfl rfl rfl (nb rfl) rfl rfl rfl hget ?_ | refine aD rfl rfl (nb rfl) rfl rfl rfl rfl (c2) ?_ | refine cM tabOk rfl rfl rfl (nb rfl) rfl rfl rfl rfl rfl rfl rfl (by first | omega | decide) rfl (by first | omega | (dsimp only; omega)) (by first | omega | (dsimp only; omega)) ?_ | refine bQ rfl rfl rfl (nb rfl) rfl rfl (by omega) ?_ | refine bY tabOk rfl rfl rfl (nb rfl) rfl rfl rfl rfl rfl rfl rfl rfl rfl ?_ | refine aV tabOk rfl rfl (nb rfl) rfl ?_ | refine bM tabOk rfl rfl rfl (nb rfl) rfl rfl rfl rfl ?_ | refine bK tabOk rfl rfl rfl rfl rfl rfl rfl rfl rfl rfl rfl ?_ | refine bF tabOk rfl rfl rfl (nb rfl) rfl rfl rfl rfl (by first | assumption | omega) ?_ | refine aY tabOk rfl rfl rfl (nb rfl) rfl rfl rfl rfl (by first | rfl | omega) (by first | omega | simp) ?_) | (refine aL ?_;  first | refine aG ?_ | refine aM ?_ | refine bI ?_ | refine aS ?_ | refine aT ?_ | refine aE (b := true) rfl (fun _ => ?_) nTf | refine aE (b := false) rfl nFt (fun _ => ?_) | refine aQ mixed (by kernel_rfl) ?_) | (refine aK ?_;  first | refine aU ?_) | (refine aR ?_;  first | refine bP ?_) | refine bD (bB (by kernel_rfl)) ?_)
      all_goals first
        | (exfalso; omega)
        | exact absurd rfl (by assumption)
        | (refine ⟨⟨(j + 1, acc ++ [.node 116 0 a' emptyB [R1]]), hlt, by rw [List.length_append, hal]; rfl, hac⟩, (by show kids.length - (j + 1) < kids.length - j; omega), ?_⟩; dsimp only; rw [hnx]; exact (bU (by repeat' first | exact trivial | refine ⟨rfl, ?_⟩) (by repeat' first | exact trivial | refine ⟨rfl, ?_⟩)))
    · rw [if_pos h0, rG h0] at hac
      generalize R1.iv = ri at *
      subst hac
      unfold rec1
      dsimp only
      rw [if_pos h0]
      clear hf hfx
      generalize Tree.ivs acc = AI at *
      repeat' (first | refine aF ?_ | (refine aH ?_;  first | refine aC tabOk rfl rfl rfl (nb rfl) rfl ?_ | (refine aJ rfl rfl rfl (nb rfl) rfl rfl rfl (fun hq => ?_) (fun hq => ?_) <;> (first | (simp only [sD, sE, sB, sC, sN, sM, sT, sF] at hq; try (exfalso; omega)) | skip)) | refine bE tabOk rfl rfl rfl (nb rfl) rfl rfl rfl hget ?_ | refine aD rfl rfl (nb rfl) rfl rfl rfl rfl (c2) ?_ | refine bF tabOk rfl rfl rfl (nb rfl) rfl rfl rfl rfl (by first | assumption | omega) ?_ | refine aY tabOk rfl rfl rfl (nb rfl) rfl rfl rfl rfl (by first | rfl | omega) (by first | omega | simp) ?_) | (refine aL ?_;  first | refine aG ?_ | refine aM ?_ | refine aS ?_ | refine aN ?_ | refine aT ?_ | refine aE (b := true) rfl (fun _ => ?_) nTf | refine aQ mixed (by kernel_rfl) ?_) | (refine aK ?_;  first | refine aU ?_ | refine aO ?_) | (refine aR ?_;  first | refine aZ ?_) | refine bD (bB (by kernel_rfl)) ?_)
      all_goals first
        | (exfalso; omega)
        | exact absurd rfl (by assumption)
        | (refine cK (aP (by first | exact .inl rfl | exact .inr rfl) (aW rfl (aB rfl) (aB rfl)) rfl ?_); rfl)
  · have ej : j = kids.length := by omega
    subst ej
    rw [List.drop_length, show ofRec [] ks ts = ([], 0) by rw [ofRec], rH] at hac
    subst hac
    unfold rec1
    dsimp only
    rw [if_neg (by simp)]
    have e : (tyT 115 acc).iv = .ptr [.lit (.int .i64 115), .lit (.int .i64 0), .lit (.string ⟨#[]⟩), .lit (.string ⟨#[]⟩), .sl false kids.length (Tree.ivs acc)] 0 := by unfold tyT; rw [Tree.iv, hal]; rfl
    rw [e]
    generalize Tree.ivs acc = AI at *
    generalize Tree.ivs kids = ZI at *
    clear hf
    repeat' (first | refine aF ?_ | (refine aH ?_;  first | refine aC tabOk rfl rfl rfl (nb rfl) rfl ?_ | (refine aJ rfl rfl rfl (nb rfl) rfl rfl rfl (fun hq => ?_) (fun hq => ?_) <;> (first | (simp only [sD, sE, sB, sC, sN, sM, sT, sF] at hq; try (exfalso; omega)) | skip))) | (refine aL ?_;  first | refine aG ?_ | refine aM ?_ | refine aN ?_ | refine bR ?_ | refine aE (b := false) rfl nFt (fun _ => ?_)) | (refine aK ?_;  first | refine aU ?_ | refine bJ ?_) | (refine aR ?_;  first | refine bH ?_))
    all_goals first
      | (exfalso; omega)
      | exact absurd rfl (by assumption)
      | (refine dS ((Imp.of_le (σ' := S.f ⟨[(4, .obj 600 0), (5, .imm (.lit (.int .i64 0)))], [(500, .arr 25 1 kids.length AI), (600, .cells [.imm (.lit (.int .i64 115)), .imm (.lit (.int .i64 0)), .imm (.lit (.string ⟨#[]⟩)), .imm (.lit (.string ⟨#[]⟩)), .ref 500 kids.length])]⟩) (bU (by repeat' first | exact trivial | refine ⟨rfl, ?_⟩) (by repeat' first | exact trivial | refine ⟨rfl, ?_⟩))).trans ((cP (g := 500) rfl (by repeat' first | exact trivial | exact fun _ => rfl | refine ⟨?_, ?_⟩) (by repeat' first | exact trivial | exact fun _ => rfl | refine ⟨?_, ?_⟩)).trans (dD (g := 600) rfl rfl))) ?_
         refine aP (by first | exact .inl rfl | exact .inr rfl) (aW rfl (aB rfl) (aB rfl)) rfl ?_; rfl)
end
end Go.Proofs.YtlbemgokilhdnaaGreat.Ab
namespace Go.Proofs.YtlbemgokilhdnaaGreat.Ab
set_option linter.unusedVariables false
set_option linter.unusedSimpArgs false
open Go.RowKit
attribute [local irreducible] AWP AOps AExit AThen ABlock ANoGoto FeetOk
theorem zG (ks ts : List Tree) (self : Tree) : ∀ l cs : List Tree, (ofArms l cs self ks ts).2 ≠ 0 → (ofArms l cs self ks ts).1 = []
  | [], cs, h => by rw [ofArms] at h; exact absurd rfl h
  | t :: l, cs, h => by
    rw [ofArms] at h ⊢
    unfold arm1 at h ⊢
    split
    · rfl
    · rename_i h1
      rw [if_neg h1] at h
      unfold consP at h ⊢
      split
      · rfl
      · rename_i h2
        rw [if_neg h2] at h
        split
        · rfl
        · rename_i h3; rw [if_neg h3] at h; exact absurd rfl h
/-- The arms' types, and the error. -/
def armsIV (R : List Tree × Int) : IV := .tup [if R.2 = 0 then .sl false R.1.length (Tree.ivs R.1) else .lit (.slice none 0 0), .lit (.int .i64 R.2)]
theorem oS : ∀ l m : List Tree, namesEq l m = true → l.length = m.length
  | [], [], _ => rfl
  | t :: l, u :: m, h => by
    rw [namesEq, Bool.and_eq_true] at h
    rw [List.length_cons, List.length_cons, oS l m h.2]
  | [], _ :: _, h => by simp [namesEq] at h
  | _ :: _, [], h => by simp [namesEq] at h
set_option maxHeartbeats 16000000 in
set_option maxRecDepth 10000 in
theorem aCj (n : Int) (a b : ByteArray) (cs l ks ts : List Tree) (self : Tree) (hcl : cs.length ≤ 100000000) (hll : l.length ≤ 100000000) (htl : ts.length ≤ 900000) (hsw : self.whole = true) (hss : self.size ≤ 100000000)
    (hcs : ∀ c ∈ cs, ∃ k' n' a' b' y, c = .node k' n' a' b' [y] ∧ y.whole = true ∧ y.size ≤ 100000000)
    (hl : ∀ t ∈ l, ∃ a' x, t = .node 149 0 a' emptyB [x] ∧ x.whole = true ∧ ∀ T : Tree, T.whole = true → T.size ≤ 100000000 → fineW (ofP x ks (T :: ts)) ∧ ACalls Tryz.prog 45 [.imm (cIV ks (T :: ts)), .imm x.iv] [] (.imm (.tup [(ofP x ks (T :: ts)).1.iv, .lit (.int .i64 (ofP x ks (T :: ts)).2)])) []) :
    ACalls Tryz.prog 143 [.imm (cIV ks ts), .imm (Tree.iv (.node 121 n a b cs)), .imm self.iv, .imm (.sl false l.length (Tree.ivs l))] [] (.imm (armsIV (arms1 (.node 121 n a b cs) l (ofArms l cs self ks ts)))) [] := by
  have hwc : ∀ c ∈ cs, c.whole = true := fun c hc => by
    obtain ⟨k', n', a', b', y, rfl, hy, _⟩ := hcs c hc
    show Tree.wholes [y] = true
    rw [Tree.wholes, hy]; rfl
  have hwl : ∀ t ∈ l, t.whole = true := fun c hc => by
    obtain ⟨a', y, rfl, hy, _⟩ := hl c hc
    show Tree.wholes [y] = true
    rw [Tree.wholes, hy]; rfl
  have c1 := aCW cs l hcl hll hwc hwl
  unfold arms1
  rw [kidsOf, Tree.iv]
  have hty : ∀ T : Tree, T.whole = true → ACalls Tryz.prog 79 [.imm (cIV ks ts), .imm T.iv] [] (.imm (cIV ks (T :: ts))) [] := fun T hT => aCf ks ts T hT htl
  obtain ⟨ps, hps⟩ := bV (bL hsw)
  rw [hps]
  unfold cIV at *
  cases hne : namesEq cs l with
  | false =>
    rw [hne] at c1
    rw [if_pos rfl]
    generalize Tree.ivs ks = KI at *
    generalize Tree.ivs ts = TI at *
    generalize Tree.ivs cs = CI at *
    generalize Tree.ivs l = LI at *
    clear hwc hwl hcs hl hty
    refine aI Tryz.func143 rfl rfl (nb rfl) rfl ?_
    repeat' (first | refine aF ?_ | (refine aH ?_;  first | refine aC tabOk rfl rfl rfl (nb rfl) rfl ?_ | refine aD rfl rfl (nb rfl) rfl rfl rfl rfl (c1) ?_ | refine aV tabOk rfl rfl (nb rfl) rfl ?_) | (refine aL ?_;  first | refine aG ?_ | refine aM ?_ | refine aN ?_ | refine aE (b := true) rfl (fun _ => ?_) nTf) | (refine aK ?_;  first | refine aO ?_))
    all_goals first | (exfalso; omega) | exact absurd rfl (by assumption) | (refine aP (by first | exact .inl rfl | exact .inr rfl) (aW rfl (aB rfl) (aB rfl)) rfl ?_; rfl)
  | true =>
    have hlen := oS cs l hne
    rw [hne] at c1
    rw [if_neg (by simp)]
    have hQ0 := nU (ofArms l cs self ks ts) (zG ks ts self l cs)
    generalize hQ : ofArms l cs self ks ts = Q at *
    refine cI Tryz.func143 rfl rfl (nb rfl) rfl ?_
    repeat' (first | refine aF ?_ | (refine aH ?_;  first | refine aC tabOk rfl rfl rfl (nb rfl) rfl ?_ | refine aD rfl rfl (nb rfl) rfl rfl rfl rfl (c1) ?_ | refine aV tabOk rfl rfl (nb rfl) rfl ?_) | (refine aL ?_;  first | refine aG ?_ | refine aM ?_ | refine aS ?_ | refine aT ?_ | refine aE (b := false) rfl nFt (fun _ => ?_)) | (refine aK ?_;  first | refine aU ?_))
    all_goals try (exfalso; exact absurd rfl (by assumption))
    refine cT (mD (t := 10) 500 25 1 rfl (by simp) rfl rfl) ?_
    refine cD (ι := {p : Nat × List Tree // p.1 ≤ l.length ∧ p.2.length = p.1 ∧ accP p.2 (ofArms (l.drop p.1) (cs.drop p.1) self ks ts) = Q}) (fun p => S.f ⟨[(25, .imm (.lit (.int .i64 (p.1.1 : Int)))), (24, .imm (.lit (.int .i64 (l.length : Int)))), (23, .imm (.sl false l.length (Tree.ivs l))), (4, .imm (.ptr [.sl false ks.length (Tree.ivs ks), .sl false ts.length (Tree.ivs ts)] 0)), (1, .imm (.ptr [.lit (.int .i64 121), .lit (.int .i64 n), .lit (.string a), .lit (.string b), .sl false cs.length (Tree.ivs cs)] 0)), (2, .imm (.ptr ps 0)), (10, .ref 500 p.1.1)], [(500, .arr 25 1 p.1.1 (Tree.ivs p.1.2))]⟩) (fun p => l.length - p.1.1) ⟨(0, []), Nat.zero_le _, rfl, by rw [List.drop_zero, List.drop_zero, hQ]; exact hQ0⟩ (bU (by repeat' first | exact trivial | refine ⟨rfl, ?_⟩) (by repeat' first | exact trivial | refine ⟨rfl, ?_⟩)) ?_
    clear hQ0 c1
    rintro ⟨⟨j, acc⟩, hj, hal, hac⟩
    dsimp only at hj hal hac ⊢
    by_cases hlt : j < l.length
    · have hltc : j < cs.length := by omega
      have hget := cG l j hlt
      have hgetc := cG cs j hltc
      obtain ⟨a', x, et, hx, hfx⟩ := hl _ (List.getElem_mem hlt)
      obtain ⟨k1, n1, a1, b1, y, ec, hy, hys⟩ := hcs _ (List.getElem_mem hltc)
      obtain ⟨px, hpx⟩ := bV (bL hx)
      obtain ⟨py, hpy⟩ := bV (bL hy)
      rw [List.drop_eq_getElem_cons hlt, List.drop_eq_getElem_cons hltc, ofArms, et, ec] at hac
      rw [List.headD_cons, List.tail_cons, show kid0 (.node k1 n1 a1 b1 [y]) = y from rfl] at hac
      rw [et, kE 149 0 a' emptyB hpx] at hget
      rw [ec, kE k1 n1 a1 b1 hpy] at hgetc
      have c2 := nC y self hys hss
      have hff := fU y self
      rw [hpy, hps] at c2
      unfold arm1 at hac
      generalize filledP y self = A at *
      obtain ⟨A1, A2⟩ := A
      unfold fineT at hff
      dsimp only at *
      by_cases h0 : A2 = 0
      · obtain ⟨_, w1, w2⟩ := hff h0
        have c3 := hty A1 w1
        obtain ⟨hfw, c4⟩ := hfx A1 w1 w2
        rw [show ofArm (.node 149 0 a' emptyB [x]) ks (A1 :: ts) = ofP x ks (A1 :: ts) by rw [ofArm, ofH], if_neg (by simpa using h0)] at hac
        rw [hpx] at c4
        rw [Tree.ivs, List.length_cons] at c3 c4
        subst h0
        generalize ofP x ks (A1 :: ts) = R at *
        obtain ⟨R1, R2⟩ := R
        obtain ⟨pa, hpa⟩ := bV (bL w1)
        rw [hpa] at c2 c3 c4
        unfold fineW at hfw
        dsimp only at *
        by_cases h1 : R2 = 0
        · rw [nT h1] at hac
          obtain ⟨pr, hpr⟩ := bV (bL (hfw h1).1)
          subst h1
          rw [hpr] at c4
          have hnx : Tree.ivs (acc ++ [R1]) = Tree.ivs acc ++ [.ptr pr 0] := by rw [cQ, cQ, List.map_append, List.map_cons, hpr]; rfl
          have hil := cX acc
          rw [hal] at hil
          generalize hAI : Tree.ivs acc = AI at *
          clear hl hcs hwc hwl hty hfx hff hfw
          repeat' (first | refine aF ?_ | (refine aH ?_;  first | refine aC tabOk rfl rfl rfl (nb rfl) rfl ?_ | (refine aJ rfl rfl rfl (nb rfl) rfl rfl rfl (fun hq => ?_) (fun hq => ?_) <;> (first | (simp only [sD, sE, sB, sC, sN, sM, sT, sF] at hq; try (exfalso; omega)) | skip)) | refine bE tabOk rfl rfl rfl (nb rfl) rfl rfl rfl hget ?_ | refine bE tabOk rfl rfl rfl (nb rfl) rfl rfl rfl hgetc ?_ | refine aD rfl rfl (nb rfl) rfl rfl rfl rfl (c2) ?_ | refine aD rfl rfl (nb rfl) rfl rfl rfl rfl (c3) ?_ | refine aD rfl rfl (nb rfl) rfl rfl rfl rfl (c4) ?_ | refine cM tabOk rfl rfl rfl (nb rfl) rfl rfl rfl rfl rfl rfl rfl (by first | omega | decide) rfl (by first | omega | (dsimp only; omega)) (by first | omega | (dsimp only; omega)) ?_ | refine bQ rfl rfl rfl (nb rfl) rfl rfl (by omega) ?_ | refine bY tabOk rfl rfl rfl (nb rfl) rfl rfl rfl rfl rfl rfl rfl rfl rfl ?_ | refine bF tabOk rfl rfl rfl (nb rfl) rfl rfl rfl rfl (by first | assumption | omega) ?_ | refine aY tabOk rfl rfl rfl (nb rfl) rfl rfl rfl rfl (by first | rfl | omega) (by first | omega | simp) ?_) | (refine aL ?_;  first | refine aG ?_ | refine aM ?_ | refine bI ?_ | refine aS ?_ | refine aT ?_ | refine aE (b := true) rfl (fun _ => ?_) nTf | refine aE (b := false) rfl nFt (fun _ => ?_) | refine aQ mixed (by kernel_rfl) ?_) | (refine aK ?_;  first | refine aU ?_) | (refine aR ?_;  first | refine bP ?_) | refine bD (bB (by kernel_rfl)) ?_)
          all_goals first
            | (exfalso; omega)
            | exact absurd rfl (by assumption)
            | (refine ⟨⟨(j + 1, acc ++ [R1]), hlt, by rw [List.length_append, hal]; rfl, hac⟩, (by show l.length - (j + 1) < l.length - j; omega), ?_⟩; dsimp only; rw [hnx]; exact (bU (by repeat' first | exact trivial | refine ⟨rfl, ?_⟩) (by repeat' first | exact trivial | refine ⟨rfl, ?_⟩)))
        · rw [rG h1] at hac
          generalize R1.iv = ri at *
          subst hac
          unfold armsIV
          dsimp only
          rw [if_neg h1]
          clear hl hcs hwc hwl hty hfx hff hfw
          generalize Tree.ivs acc = AI at *
          repeat' (first | refine aF ?_ | (refine aH ?_;  first | refine aC tabOk rfl rfl rfl (nb rfl) rfl ?_ | (refine aJ rfl rfl rfl (nb rfl) rfl rfl rfl (fun hq => ?_) (fun hq => ?_) <;> (first | (simp only [sD, sE, sB, sC, sN, sM, sT, sF] at hq; try (exfalso; omega)) | skip)) | refine bE tabOk rfl rfl rfl (nb rfl) rfl rfl rfl hget ?_ | refine bE tabOk rfl rfl rfl (nb rfl) rfl rfl rfl hgetc ?_ | refine aD rfl rfl (nb rfl) rfl rfl rfl rfl (c2) ?_ | refine aD rfl rfl (nb rfl) rfl rfl rfl rfl (c3) ?_ | refine aD rfl rfl (nb rfl) rfl rfl rfl rfl (c4) ?_ | refine bF tabOk rfl rfl rfl (nb rfl) rfl rfl rfl rfl (by first | assumption | omega) ?_ | refine aY tabOk rfl rfl rfl (nb rfl) rfl rfl rfl rfl (by first | rfl | omega) (by first | omega | simp) ?_) | (refine aL ?_;  first | refine aG ?_ | refine aM ?_ | refine aS ?_ | refine aN ?_ | refine aT ?_ | refine aE (b := true) rfl (fun _ => ?_) nTf | refine aE (b := false) rfl nFt (fun _ => ?_) | refine aQ mixed (by kernel_rfl) ?_) | (refine aK ?_;  first | refine aU ?_ | refine aO ?_) | (refine aR ?_;  first | refine aZ ?_) | refine bD (bB (by kernel_rfl)) ?_)
          all_goals first
            | (exfalso; omega)
            | exact absurd rfl (by assumption)
            | (refine cK (aP (by first | exact .inl rfl | exact .inr rfl) (aW rfl (aB rfl) (aB rfl)) rfl ?_); rfl)
      · rw [if_pos h0] at hac
        unfold accP at hac
        rw [if_pos h0] at hac
        generalize A1.iv = ai at *
        subst hac
        unfold armsIV
        dsimp only
        rw [if_neg h0]
        clear hl hcs hwc hwl hty hfx hff
        generalize Tree.ivs acc = AI at *
        repeat' (first | refine aF ?_ | (refine aH ?_;  first | refine aC tabOk rfl rfl rfl (nb rfl) rfl ?_ | (refine aJ rfl rfl rfl (nb rfl) rfl rfl rfl (fun hq => ?_) (fun hq => ?_) <;> (first | (simp only [sD, sE, sB, sC, sN, sM, sT, sF] at hq; try (exfalso; omega)) | skip)) | refine bE tabOk rfl rfl rfl (nb rfl) rfl rfl rfl hget ?_ | refine bE tabOk rfl rfl rfl (nb rfl) rfl rfl rfl hgetc ?_ | refine aD rfl rfl (nb rfl) rfl rfl rfl rfl (c2) ?_ | refine bF tabOk rfl rfl rfl (nb rfl) rfl rfl rfl rfl (by first | assumption | omega) ?_ | refine aY tabOk rfl rfl rfl (nb rfl) rfl rfl rfl rfl (by first | rfl | omega) (by first | omega | simp) ?_) | (refine aL ?_;  first | refine aG ?_ | refine aM ?_ | refine aS ?_ | refine aN ?_ | refine aT ?_ | refine aE (b := true) rfl (fun _ => ?_) nTf) | (refine aK ?_;  first | refine aU ?_ | refine aO ?_) | (refine aR ?_;  first | refine aZ ?_))
        all_goals first
          | (exfalso; omega)
          | exact absurd rfl (by assumption)
          | (refine cK (aP (by first | exact .inl rfl | exact .inr rfl) (aW rfl (aB rfl) (aB rfl)) rfl ?_); rfl)
    · have ej : j = l.length := by omega
      subst ej
      rw [List.drop_length, ofArms, rH] at hac
      subst hac
      unfold armsIV
      dsimp only
      rw [if_pos rfl, hal]
      generalize Tree.ivs acc = AI at *
      generalize Tree.ivs l = LI at *
      generalize Tree.ivs cs = CI at *
      clear hl hcs hwc hwl hty
      repeat' (first | refine aF ?_ | (refine aH ?_;  first | refine aC tabOk rfl rfl rfl (nb rfl) rfl ?_ | (refine aJ rfl rfl rfl (nb rfl) rfl rfl rfl (fun hq => ?_) (fun hq => ?_) <;> (first | (simp only [sD, sE, sB, sC, sN, sM, sT, sF] at hq; try (exfalso; omega)) | skip))) | (refine aL ?_;  first | refine aG ?_ | refine aM ?_ | refine aN ?_ | refine bR ?_ | refine aE (b := false) rfl nFt (fun _ => ?_)) | (refine aK ?_;  first | refine aU ?_ | refine bJ ?_) | (refine aR ?_;  first | refine bH ?_))
      all_goals first
        | (exfalso; omega)
        | exact absurd rfl (by assumption)
        | (refine dS ((Imp.of_le (σ' := S.f ⟨[(8, .ref 500 l.length), (9, .imm (.lit (.int .i64 0)))], [(500, .arr 25 1 l.length AI)]⟩) (bU (by repeat' first | exact trivial | refine ⟨rfl, ?_⟩) (by repeat' first | exact trivial | refine ⟨rfl, ?_⟩))).trans (cP (g := 500) rfl (by repeat' first | exact trivial | exact fun _ => rfl | refine ⟨?_, ?_⟩) (by repeat' first | exact trivial | exact fun _ => rfl | refine ⟨?_, ?_⟩))) ?_
           refine aP (by first | exact .inl rfl | exact .inr rfl) (aW rfl (aB rfl) (aB rfl)) rfl ?_; rfl)
section
variable (kl tl : Nat) (KI TI : List IV)
set_option maxHeartbeats 8000000 in
set_option maxRecDepth 10000 in
theorem aCX (k n : Int) (a b : ByteArray) (x : Tree) (arms : List Tree) (hx : x.whole = true) (hal : arms.length ≤ 100000000) (R : Tree × Int) (L : List Tree × Int) (fR : fineW R)
    (fL : L.2 = 0 → L.1 ≠ [] ∧ L.1.length ≤ 100000000 ∧ ∀ s ∈ L.1, s.whole = true ∧ s.size ≤ 100000000)
    (c1 : ACalls Tryz.prog 139 [.imm (IV.agg [.sl false kl KI, .sl false tl TI]), .imm x.iv, .imm (.lit (.int .i64 121))] [] (.imm (.tup [(asP R 121).1.iv, .lit (.int .i64 (asP R 121).2)])) [])
    (c2 : (asP R 121).2 = 0 → ACalls Tryz.prog 143 [.imm (IV.agg [.sl false kl KI, .sl false tl TI]), .imm R.1.iv, .imm R.1.iv, .imm (.sl false arms.length (Tree.ivs arms))] [] (.imm (armsIV L)) []) :
    ACalls Tryz.prog 123 [.imm (IV.agg [.sl false kl KI, .sl false tl TI]), .imm (Tree.iv (.node k n a b (x :: arms)))] [] (.imm (.tup [(case1 R L).1.iv, .lit (.int .i64 (case1 R L).2)])) [] := by
  obtain ⟨px, hpx⟩ := bV (bL hx)
  have hfrom := qJ (x :: arms) 1 (by simp)
  rw [Tree.iv, List.length_cons]
  rw [show (x :: arms).drop 1 = arms from rfl, List.length_cons] at hfrom
  rw [Tree.ivs, hpx] at hfrom ⊢
  rw [hpx] at c1
  unfold case1
  by_cases h1 : (asP R 121).2 = 0
  · rw [if_neg (by simpa using h1)]
    replace c2 := c2 h1
    rw [uR h1] at c1
    obtain ⟨h0, hk⟩ := iY h1
    obtain ⟨R1, R2⟩ := R
    obtain ⟨L1, L2⟩ := L
    unfold fineW at fR
    dsimp only at *
    obtain ⟨pr, hpr⟩ := bV (bL (fR h0).1)
    rw [hpr] at c1 c2
    subst h0
    unfold armsIV at c2
    dsimp only at c2
    by_cases h2 : L2 = 0
    · obtain ⟨f1, f2, f3⟩ := fL h2
      rw [if_pos h2] at c2
      cases L1 with
      | nil => exact absurd rfl f1
      | cons t0 l0 =>
        have c3 := aAa (t0 :: l0) t0 f2 f3 (f3 t0 (by simp)).1 (f3 t0 (by simp)).2
        obtain ⟨p0, hp0⟩ := bV (bL (f3 t0 (by simp)).1)
        subst h2
        rw [if_neg (by simp), List.headD_cons]
        rw [Tree.ivs, hp0, List.length_cons] at c2 c3
        generalize alikeP (t0 :: l0) t0 = Q at *
        obtain ⟨Q1, Q2⟩ := Q
        dsimp only at *
        generalize Q1.iv = qi at *
        generalize Tree.ivs l0 = LI at *
        generalize Tree.ivs arms = AI at *
        clear fR fL f1 f3 h1
        refine aI Tryz.func123 rfl rfl (nb rfl) rfl ?_
        repeat' (first | refine aF ?_ | (refine aH ?_;  first | refine aC tabOk rfl rfl rfl (nb rfl) rfl ?_ | (refine aJ rfl rfl rfl (nb rfl) rfl rfl rfl (fun hq => ?_) (fun hq => ?_) <;> (first | (simp only [sD, sE, sB, sC, sN, sM, sT, sF] at hq; try (exfalso; omega)) | skip)) | refine aD rfl rfl (nb rfl) rfl rfl rfl rfl (c1) ?_ | refine aD rfl rfl (nb rfl) rfl rfl rfl rfl (c2) ?_ | refine aD rfl rfl (nb rfl) rfl rfl rfl rfl (c3) ?_ | refine eI (l := 1) (h := arms.length + 1) tabOk rfl rfl rfl (nb rfl) rfl rfl rfl rfl rfl (by omega) (Nat.le_refl _) hfrom ?_ | refine aV tabOk rfl rfl (nb rfl) rfl ?_ | refine aY tabOk rfl rfl rfl (nb rfl) rfl rfl rfl rfl (by first | rfl | omega) (by first | omega | simp) ?_) | (refine aL ?_;  first | refine aG ?_ | refine aM ?_ | refine aN ?_ | refine aT ?_ | refine aE (b := false) rfl nFt (fun _ => ?_) | refine aQ mixed (by kernel_rfl) ?_) | (refine aK ?_;  first | refine aU ?_) | refine bD (bB (by kernel_rfl)) ?_)
        all_goals first | (exfalso; omega) | exact absurd rfl (by assumption) | (refine aP (by first | exact .inl rfl | exact .inr rfl) (aW rfl (aB rfl) (aB rfl)) rfl ?_; rfl)
    · rw [if_pos h2]
      rw [if_neg h2] at c2
      generalize Tree.ivs arms = AI at *
      clear fR fL h1
      refine aI Tryz.func123 rfl rfl (nb rfl) rfl ?_
      repeat' (first | refine aF ?_ | (refine aH ?_;  first | refine aC tabOk rfl rfl rfl (nb rfl) rfl ?_ | (refine aJ rfl rfl rfl (nb rfl) rfl rfl rfl (fun hq => ?_) (fun hq => ?_) <;> (first | (simp only [sD, sE, sB, sC, sN, sM, sT, sF] at hq; try (exfalso; omega)) | skip)) | refine aD rfl rfl (nb rfl) rfl rfl rfl rfl (c1) ?_ | refine aD rfl rfl (nb rfl) rfl rfl rfl rfl (c2) ?_ | refine eI (l := 1) (h := arms.length + 1) tabOk rfl rfl rfl (nb rfl) rfl rfl rfl rfl rfl (by omega) (Nat.le_refl _) hfrom ?_ | refine aV tabOk rfl rfl (nb rfl) rfl ?_ | refine aY tabOk rfl rfl rfl (nb rfl) rfl rfl rfl rfl (by first | rfl | omega) (by first | omega | simp) ?_) | (refine aL ?_;  first | refine aG ?_ | refine aM ?_ | refine aN ?_ | refine aT ?_ | refine aE (b := true) rfl (fun _ => ?_) nTf | refine aE (b := false) rfl nFt (fun _ => ?_) | refine aQ mixed (by kernel_rfl) ?_) | (refine aK ?_;  first | refine aU ?_ | refine aO ?_) | refine bD (bB (by kernel_rfl)) ?_)
      all_goals first | (exfalso; omega) | exact absurd rfl (by assumption) | (refine aP (by first | exact .inl rfl | exact .inr rfl) (aW rfl (aB rfl) (aB rfl)) rfl ?_; rfl)
  · rw [if_pos h1]
    generalize asP R 121 = Q at *
    obtain ⟨Q1, Q2⟩ := Q
    dsimp only at *
    generalize Q1.iv = qi at *
    generalize Tree.ivs arms = AI at *
    clear fR c2 fL
    refine aI Tryz.func123 rfl rfl (nb rfl) rfl ?_
    repeat' (first | refine aF ?_ | (refine aH ?_;  first | refine aC tabOk rfl rfl rfl (nb rfl) rfl ?_ | (refine aJ rfl rfl rfl (nb rfl) rfl rfl rfl (fun hq => ?_) (fun hq => ?_) <;> (first | (simp only [sD, sE, sB, sC, sN, sM, sT, sF] at hq; try (exfalso; omega)) | skip)) | refine aD rfl rfl (nb rfl) rfl rfl rfl rfl (c1) ?_ | refine aV tabOk rfl rfl (nb rfl) rfl ?_ | refine aY tabOk rfl rfl rfl (nb rfl) rfl rfl rfl rfl (by first | rfl | omega) (by first | omega | simp) ?_) | (refine aL ?_;  first | refine aG ?_ | refine aM ?_ | refine aN ?_ | refine aE (b := true) rfl (fun _ => ?_) nTf | refine aQ mixed (by kernel_rfl) ?_) | (refine aK ?_;  first | refine aU ?_ | refine aO ?_) | refine bD (bB (by kernel_rfl)) ?_)
    all_goals first | (exfalso; omega) | exact absurd rfl (by assumption) | (refine aP (by first | exact .inl rfl | exact .inr rfl) (aW rfl (aB rfl) (aB rfl)) rfl ?_; rfl)
set_option maxHeartbeats 8000000 in
set_option maxRecDepth 10000 in
theorem aDo (k n : Int) (a b : ByteArray) (x T : Tree) (arms : List Tree) (hx : x.whole = true) (hT : T.whole = true) (hal : arms.length ≤ 100000000) (R A : Tree × Int) (L : List Tree × Int) (fR : fineW R) (fA : fineW A)
    (fL : L.2 = 0 → L.1.length ≤ 100000000 ∧ ∀ s ∈ L.1, s.whole = true ∧ s.size ≤ 100000000)
    (c1 : ACalls Tryz.prog 139 [.imm (IV.agg [.sl false kl KI, .sl false tl TI]), .imm x.iv, .imm (.lit (.int .i64 121))] [] (.imm (.tup [(asP R 121).1.iv, .lit (.int .i64 (asP R 121).2)])) [])
    (c4 : ACalls Tryz.prog 138 [.imm (IV.agg [.sl false kl KI, .sl false tl TI]), .imm T.iv] [] (.imm (.tup [(A).1.iv, .lit (.int .i64 (A).2)])) [])
    (c2 : (asP R 121).2 = 0 → A.2 = 0 → ACalls Tryz.prog 143 [.imm (IV.agg [.sl false kl KI, .sl false tl TI]), .imm R.1.iv, .imm A.1.iv, .imm (.sl false arms.length (Tree.ivs arms))] [] (.imm (armsIV L)) []) :
    ACalls Tryz.prog 124 [.imm (IV.agg [.sl false kl KI, .sl false tl TI]), .imm (Tree.iv (.node k n a b (x :: T :: arms)))] [] (.imm (.tup [(fold1 R A L).1.iv, .lit (.int .i64 (fold1 R A L).2)])) [] := by
  obtain ⟨px, hpx⟩ := bV (bL hx)
  obtain ⟨pT, hpT⟩ := bV (bL hT)
  have hfrom := qJ (x :: T :: arms) 2 (by simp)
  rw [Tree.iv, List.length_cons, List.length_cons]
  rw [show (x :: T :: arms).drop 2 = arms from rfl, List.length_cons, List.length_cons] at hfrom
  rw [Tree.ivs, Tree.ivs, hpx, hpT] at hfrom ⊢
  rw [hpx] at c1
  rw [hpT] at c4
  unfold fold1
  by_cases h1 : (asP R 121).2 = 0
  · rw [if_neg (by simpa using h1)]
    replace c2 := c2 h1
    rw [uR h1] at c1
    obtain ⟨h0, hk⟩ := iY h1
    obtain ⟨R1, R2⟩ := R
    obtain ⟨L1, L2⟩ := L
    obtain ⟨A1, A2⟩ := A
    unfold fineW at fR fA
    dsimp only at *
    obtain ⟨pr, hpr⟩ := bV (bL (fR h0).1)
    rw [hpr] at c1 c2
    subst h0
    by_cases h3 : A2 = 0
    · replace c2 := c2 h3
      unfold armsIV at c2
      dsimp only at c2
      obtain ⟨wA, sA⟩ := fA h3
      obtain ⟨pa, hpa⟩ := bV (bL wA)
      rw [if_neg (by simpa using h3)]
      rw [hpa] at c2 c4
      by_cases h2 : L2 = 0
      · obtain ⟨f2, f3⟩ := fL h2
        rw [if_pos h2] at c2
        have c3 := aAa L1 A1 f2 f3 wA sA
        rw [hpa] at c3
        subst h2 h3
        rw [if_neg (by simp)]
        generalize alikeP L1 A1 = Q at *
        obtain ⟨Q1, Q2⟩ := Q
        dsimp only at *
        generalize Q1.iv = qi at *
        generalize Tree.ivs L1 = LI at *
        generalize Tree.ivs arms = AI at *
        clear fR fL fA f3 h1
        refine aI Tryz.func124 rfl rfl (nb rfl) rfl ?_
        repeat' (first | refine aF ?_ | (refine aH ?_;  first | refine aC tabOk rfl rfl rfl (nb rfl) rfl ?_ | (refine aJ rfl rfl rfl (nb rfl) rfl rfl rfl (fun hq => ?_) (fun hq => ?_) <;> (first | (simp only [sD, sE, sB, sC, sN, sM, sT, sF] at hq; try (exfalso; omega)) | skip)) | refine aD rfl rfl (nb rfl) rfl rfl rfl rfl (c1) ?_ | refine aD rfl rfl (nb rfl) rfl rfl rfl rfl (c4) ?_ | refine aD rfl rfl (nb rfl) rfl rfl rfl rfl (c2) ?_ | refine aD rfl rfl (nb rfl) rfl rfl rfl rfl (c3) ?_ | refine eI (l := 2) (h := arms.length + 1 + 1) tabOk rfl rfl rfl (nb rfl) rfl rfl rfl rfl rfl (by omega) (Nat.le_refl _) hfrom ?_ | refine aV tabOk rfl rfl (nb rfl) rfl ?_ | refine aY tabOk rfl rfl rfl (nb rfl) rfl rfl rfl rfl (by first | rfl | omega) (by first | omega | simp) ?_) | (refine aL ?_;  first | refine aG ?_ | refine aM ?_ | refine aN ?_ | refine aT ?_ | refine aE (b := false) rfl nFt (fun _ => ?_) | refine aQ mixed (by kernel_rfl) ?_) | (refine aK ?_;  first | refine aU ?_) | refine bD (bB (by kernel_rfl)) ?_)
        all_goals first | (exfalso; omega) | exact absurd rfl (by assumption) | (refine aP (by first | exact .inl rfl | exact .inr rfl) (aW rfl (aB rfl) (aB rfl)) rfl ?_; rfl)
      · rw [if_pos h2]
        rw [if_neg h2] at c2
        subst h3
        generalize Tree.ivs arms = AI at *
        clear fR fL fA h1
        refine aI Tryz.func124 rfl rfl (nb rfl) rfl ?_
        repeat' (first | refine aF ?_ | (refine aH ?_;  first | refine aC tabOk rfl rfl rfl (nb rfl) rfl ?_ | (refine aJ rfl rfl rfl (nb rfl) rfl rfl rfl (fun hq => ?_) (fun hq => ?_) <;> (first | (simp only [sD, sE, sB, sC, sN, sM, sT, sF] at hq; try (exfalso; omega)) | skip)) | refine aD rfl rfl (nb rfl) rfl rfl rfl rfl (c1) ?_ | refine aD rfl rfl (nb rfl) rfl rfl rfl rfl (c4) ?_ | refine aD rfl rfl (nb rfl) rfl rfl rfl rfl (c2) ?_ | refine eI (l := 2) (h := arms.length + 1 + 1) tabOk rfl rfl rfl (nb rfl) rfl rfl rfl rfl rfl (by omega) (Nat.le_refl _) hfrom ?_ | refine aV tabOk rfl rfl (nb rfl) rfl ?_ | refine aY tabOk rfl rfl rfl (nb rfl) rfl rfl rfl rfl (by first | rfl | omega) (by first | omega | simp) ?_) | (refine aL ?_;  first | refine aG ?_ | refine aM ?_ | refine aN ?_ | refine aT ?_ | refine aE (b := true) rfl (fun _ => ?_) nTf | refine aE (b := false) rfl nFt (fun _ => ?_) | refine aQ mixed (by kernel_rfl) ?_) | (refine aK ?_;  first | refine aU ?_ | refine aO ?_) | refine bD (bB (by kernel_rfl)) ?_)
        all_goals first | (exfalso; omega) | exact absurd rfl (by assumption) | (refine aP (by first | exact .inl rfl | exact .inr rfl) (aW rfl (aB rfl) (aB rfl)) rfl ?_; rfl)
    · rw [if_pos h3]
      generalize A1.iv = ai at *
      generalize Tree.ivs arms = AI at *
      clear fR c2 fL fA h1
      refine aI Tryz.func124 rfl rfl (nb rfl) rfl ?_
      repeat' (first | refine aF ?_ | (refine aH ?_;  first | refine aC tabOk rfl rfl rfl (nb rfl) rfl ?_ | (refine aJ rfl rfl rfl (nb rfl) rfl rfl rfl (fun hq => ?_) (fun hq => ?_) <;> (first | (simp only [sD, sE, sB, sC, sN, sM, sT, sF] at hq; try (exfalso; omega)) | skip)) | refine aD rfl rfl (nb rfl) rfl rfl rfl rfl (c1) ?_ | refine aD rfl rfl (nb rfl) rfl rfl rfl rfl (c4) ?_ | refine aV tabOk rfl rfl (nb rfl) rfl ?_ | refine aY tabOk rfl rfl rfl (nb rfl) rfl rfl rfl rfl (by first | rfl | omega) (by first | omega | simp) ?_) | (refine aL ?_;  first | refine aG ?_ | refine aM ?_ | refine aN ?_ | refine aT ?_ | refine aE (b := true) rfl (fun _ => ?_) nTf | refine aE (b := false) rfl nFt (fun _ => ?_) | refine aQ mixed (by kernel_rfl) ?_) | (refine aK ?_;  first | refine aU ?_ | refine aO ?_) | refine bD (bB (by kernel_rfl)) ?_)
      all_goals first | (exfalso; omega) | exact absurd rfl (by assumption) | (refine aP (by first | exact .inl rfl | exact .inr rfl) (aW rfl (aB rfl) (aB rfl)) rfl ?_; rfl)
  · rw [if_pos h1]
    generalize asP R 121 = Q at *
    obtain ⟨Q1, Q2⟩ := Q
    dsimp only at *
    generalize Q1.iv = qi at *
    generalize Tree.ivs arms = AI at *
    clear fR c2 fL fA
    refine aI Tryz.func124 rfl rfl (nb rfl) rfl ?_
    repeat' (first | refine aF ?_ | (refine aH ?_;  first | refine aC tabOk rfl rfl rfl (nb rfl) rfl ?_ | (refine aJ rfl rfl rfl (nb rfl) rfl rfl rfl (fun hq => ?_) (fun hq => ?_) <;> (first | (simp only [sD, sE, sB, sC, sN, sM, sT, sF] at hq; try (exfalso; omega)) | skip)) | refine aD rfl rfl (nb rfl) rfl rfl rfl rfl (c1) ?_ | refine aV tabOk rfl rfl (nb rfl) rfl ?_ | refine aY tabOk rfl rfl rfl (nb rfl) rfl rfl rfl rfl (by first | rfl | omega) (by first | omega | simp) ?_) | (refine aL ?_;  first | refine aG ?_ | refine aM ?_ | refine aN ?_ | refine aE (b := true) rfl (fun _ => ?_) nTf | refine aQ mixed (by kernel_rfl) ?_) | (refine aK ?_;  first | refine aU ?_ | refine aO ?_) | refine bD (bB (by kernel_rfl)) ?_)
    all_goals first | (exfalso; omega) | exact absurd rfl (by assumption) | (refine aP (by first | exact .inl rfl | exact .inr rfl) (aW rfl (aB rfl) (aB rfl)) rfl ?_; rfl)
end
end Go.Proofs.YtlbemgokilhdnaaGreat.Ab
namespace Go.Proofs.YtlbemgokilhdnaaGreat.Ab
set_option linter.unusedVariables false
set_option linter.unusedSimpArgs false
open Go.RowKit
mutual
/-- What is for some type is not too large. -/
def exS : Tree → Prop
  | .nil => True
  | .node k n a b kids => (k = 118 → (Tree.node k n a b kids).size ≤ 65536) ∧ exSs kids
termination_by structural x => x
def exSs : List Tree → Prop
  | [] => True
  | t :: ts => exS t ∧ exSs ts
termination_by structural x => x
end
theorem kF : ∀ l : List Tree, exSs l ↔ ∀ t ∈ l, exS t
  | [] => by rw [exSs]; simp
  | t :: ts => by rw [exSs, kF ts]; simp
theorem kV (t : Tree) : t.size ≤ 65536 → exS t := by
  induction t using Tree.sind with
  | h t ih =>
    intro h
    cases t with
    | nil => rw [exS]; trivial
    | node k n a b kids =>
      rw [exS]
      refine ⟨fun _ => h, (kF kids).2 fun t ht => ?_⟩
      have hs := bN (k := k) (n := n) (a := a) (b := b) ht
      have e : (Tree.node k n a b kids).size = Tree.sizes kids + 1 := by simp only [Tree.size]; omega
      have := cR ht
      exact ih t (by omega) (by omega)
theorem rI {t : Tree} (h : exS t) : ∀ u ∈ kidsOf t, exS u := by
  cases t with
  | nil => intro u hu; exact absurd hu (by rw [kidsOf]; simp)
  | node k n a b kids => rw [exS] at h; rw [kidsOf]; exact (kF kids).1 h.2
theorem nE : exS .nil := by rw [exS]; trivial
theorem aCk {t : Tree} (h : exS t) : exS (kid0 t) := by
  cases t with
  | nil => exact nE
  | node k n a b kids =>
    cases kids with
    | nil => exact nE
    | cons u l => exact rI h u (by rw [kidsOf]; simp)
theorem aCl {t : Tree} (h : exS t) : exS (kid1 t) := by
  cases t with
  | nil => exact nE
  | node k n a b kids =>
    match kids with
    | [] => exact nE
    | [_] => exact nE
    | u :: v :: l => exact rI h v (by rw [kidsOf]; simp)
theorem uS {k : Int} {l : List Tree} (hk : k ≠ 118) (h : ∀ t ∈ l, exS t) : exS (tyT k l) := by
  unfold tyT
  rw [exS]
  exact ⟨fun e => absurd e hk, (kF l).2 h⟩
def fineE (R : Tree × Int) : Prop := R.2 = 0 → exS R.1
theorem cB {t : Tree} {e : Int} (h : e ≠ 0) : fineE (t, e) := fun h0 => absurd h0 h
theorem iL {f : Tree → Bool} {R : Tree × Int} (h : R.2 = 0 → checkP f R.1 = 0) : fineE R := fun h0 => by
  obtain ⟨h1, h2, h3⟩ := bG (h h0)
  exact kV _ h2
theorem aCY (t : Tree) : ∀ ks ts : List Tree, isTermP t = true → t.whole = true → fineE (ofP t ks ts) := by
  induction t using Tree.sind with
  | h t ih =>
    intro ks ts hf hw
    obtain ⟨k, n, a, b, kids, rfl⟩ := bT hw
    obtain ⟨p0, p1, p2, p3, p4, p5, p6, p7, p8, p9, p10, pk⟩ := lW hf
    have hwk : ∀ t ∈ kids, t.whole = true := fun t h => bC hw h
    have hsz : (Tree.node k n a b kids).size = Tree.sizes kids + 1 := by simp only [Tree.size]; omega
    have hin : ∀ t ∈ kids, t.size ≤ Tree.sizes kids := fun t h => cR h
    have hk' : ∀ x ∈ kids, isTermP x = true → ∀ ks ts, fineE (ofP x ks ts) := fun x hx h ks ts => ih x (by have := hin x hx; omega) ks ts h (hwk x hx)
    have hleaf : ∀ k : Int, k = 111 ∨ k = 112 ∨ k = 113 → fineE (tyT k [], 0) := fun k h _ => uS (by omega) fun t ht => absurd ht (by simp)
    rw [ofP]
    by_cases e0 : k = 130
    · rw [if_pos e0]
      split
      · exact cB (by decide)
      · exact iL (fE _)
    rw [if_neg e0]
    by_cases e1 : k = 131
    · rw [if_pos e1]; exact hleaf _ (.inl rfl)
    rw [if_neg e1]
    by_cases e2 : k = 132
    · rw [if_pos e2]; exact hleaf _ (.inr (.inl rfl))
    rw [if_neg e2]
    by_cases e3 : k = 133
    · rw [if_pos e3]; exact hleaf _ (.inr (.inr rfl))
    rw [if_neg e3]
    by_cases e4 : k = 139
    · rw [if_pos e4]
      obtain ⟨K, x, rfl, hK, hx⟩ := lT (p1 e4)
      obtain ⟨wK, sK, fK⟩ := bG hK
      have h1 := hk' x (by simp) hx (K :: ks) (shiftsP ts).1
      rw [ofTLam]
      unfold tlam1
      split
      · rename_i h; exact cB h
      · split
        · rename_i h; exact cB h
        · rename_i h2
          intro _
          have h3 := h1 (by simpa using h2)
          refine uS (by decide) fun t ht => ?_
          rcases List.mem_cons.1 ht with rfl | ht
          · exact kV _ sK
          · rw [List.mem_singleton.1 ht]; exact h3
    rw [if_neg e4]
    by_cases e5 : k = 143
    · rw [if_pos e5]
      obtain ⟨x, y, rfl, hx, hy⟩ := dE (p3 (by omega))
      have h2 := hk' y (by simp) hy ks ((ofP x ks ts).1 :: ts)
      rw [ofLet]
      unfold let1
      split
      · rename_i h; exact cB h
      · exact h2
    rw [if_neg e5]
    by_cases e6 : k = 134
    · rw [if_pos e6]
      obtain ⟨T, y, rfl, hT, hy⟩ := eW (p2 (by omega))
      have h2 := hk' y (by simp) hy ks ((starT ks T).1 :: ts)
      rw [ofLam]
      unfold lamT1
      split
      · rename_i h; exact cB h
      · rename_i h1
        split
        · rename_i h; exact cB h
        · rename_i h4
          intro _
          have h5 := h2 (by simpa using h4)
          obtain ⟨f1, f2, f3⟩ := bG (eF ks T (by simpa using h1))
          refine uS (by decide) fun t ht => ?_
          rcases List.mem_cons.1 ht with rfl | ht
          · exact kV _ f2
          · rw [List.mem_singleton.1 ht]; exact h5
    rw [if_neg e6]
    by_cases e7 : k = 135
    · rw [if_pos e7]
      obtain ⟨x, y, rfl, hx, hy⟩ := dE (p3 (by omega))
      have h1 := hk' x (by simp) hx ks ts
      rw [ofApp]
      unfold appT1
      split
      · rename_i h; exact cB h
      · rename_i h3
        split
        · rename_i h; exact cB h
        · split
          · exact cB (by decide)
          · intro _
            exact aCl (h1 (by simpa using h3))
    rw [if_neg e7]
    by_cases e8 : k = 136
    · rw [if_pos e8]
      obtain ⟨q1, q2⟩ := p4 e8
      have key : ∀ l : List Tree, (∀ t ∈ l, t ∈ kids) → (ofRec l ks ts).2 = 0 → ∀ u ∈ (ofRec l ks ts).1, exS u := by
        intro l
        induction l with
        | nil => intro _ _; rw [ofRec]; exact fun u h => (List.not_mem_nil h).elim
        | cons t l ih2 =>
          intro hm h
          rw [ofRec] at h ⊢
          obtain ⟨h1, h2, h3⟩ := gL h
          have g1 := ih2 (fun t ht => hm t (by simp [ht])) h2
          have hmt := hm t (by simp)
          obtain ⟨a', x, rfl, hx, hl⟩ := q1 t hmt
          have sx := bN (k := 137) (n := 0) (a := a') (b := emptyB) (kids := [x]) (t := x) (by simp)
          have hi := ih x (by have := hin _ hmt; omega) ks ts hx (bC (hwk _ hmt) (by simp))
          have e : ofField (.node 137 0 a' emptyB [x]) ks ts = field1 a' (ofP x ks ts) := by rw [ofField, ofH]
          rw [e] at h1 h3 ⊢
          rw [h3]
          unfold field1 at h1 ⊢
          split at h1
          · rename_i h4; exact absurd h1 h4
          · rename_i h4
            rw [if_neg h4]
            have f1 := hi (by simpa using h4)
            intro u hu
            rcases List.mem_cons.1 hu with rfl | hu
            · rw [exS]
              exact ⟨fun e => absurd e (by decide), (kF _).2 fun t ht => by rw [List.mem_singleton.1 ht]; exact f1⟩
            · exact g1 u hu
      unfold rec1
      split
      · rename_i h; exact cB h
      · rename_i h
        intro _
        exact uS (by decide) (key kids (fun _ h => h) (by simpa using h))
    rw [if_neg e8]
    by_cases e9 : k = 138
    · rw [if_pos e9]
      obtain ⟨x, rfl, hx⟩ := kS (p5 e9)
      have h1 := hk' x (by simp) hx ks ts
      rw [ofH]
      unfold proj1
      split
      · rename_i h; exact cB h
      · rename_i h
        obtain ⟨h2, h3⟩ := iY (by simpa using h)
        have g1 := h1 h2
        unfold part1
        split
        · exact cB (by decide)
        · rename_i p hp
          intro _
          obtain ⟨t, ht, rfl⟩ := nO hp
          exact aCk (rI g1 t ht)
    rw [if_neg e9]
    by_cases e10 : k = 140
    · rw [if_pos e10]
      obtain ⟨x, C, rfl, hx, hC⟩ := lU (p6 e10)
      rw [ofTApp]
      unfold tapp1
      split
      · rename_i h; exact cB h
      · split
        · rename_i h; exact cB h
        · split
          · exact cB (by decide)
          · exact iL (jZ _ _)
    rw [if_neg e10]
    by_cases e11 : k = 141
    · rw [if_pos e11]
      obtain ⟨C, x, T, rfl, hC, hx, hT⟩ := jV (p7 e11)
      rw [ofPack]
      unfold pack1
      split
      · rename_i h; exact cB h
      · rename_i h1
        split
        · rename_i h; exact cB h
        · split
          · rename_i h; exact cB h
          · split
            · exact cB (by decide)
            · unfold alike1
              split
              · rename_i h; exact cB h
              · split
                · exact cB (by decide)
                · exact iL (fun _ => eF ks T (by simpa using h1))
    rw [if_neg e11]
    by_cases e12 : k = 142
    · rw [if_pos e12]
      obtain ⟨x, y, rfl, hx, hy⟩ := dE (p3 (by omega))
      rw [ofUnpack]
      unfold unpack1
      split
      · rename_i h; exact cB h
      · split
        · rename_i h; exact cB h
        · split
          · rename_i h; exact cB h
          · split
            · exact cB (by decide)
            · intro h0
              obtain ⟨g1, g2, g3⟩ := dQ _ _ _ h0
              have g4 := bG g3
              exact kV _ (by omega)
    rw [if_neg e12]
    by_cases e13 : k = 144
    · rw [if_pos e13]
      obtain ⟨x, y, z, rfl, hx, hy, hz2⟩ := jW (p8 e13)
      have h1 := hk' y (by simp) hy ks ts
      rw [ofIf]
      unfold choice1
      split
      · rename_i h; exact cB h
      · split
        · rename_i h; exact cB h
        · rename_i h2
          split
          · rename_i h; exact cB h
          · split
            · exact cB (by decide)
            · intro _
              exact h1 (by simpa using h2)
    rw [if_neg e13]
    by_cases e14 : k = 145
    · rw [if_pos e14]
      obtain ⟨x, y, rfl, hx, hy⟩ := dE (p3 (by omega))
      rw [ofOp]
      unfold op1
      split
      · rename_i h; exact cB h
      · split
        · rename_i h; exact cB h
        · split
          · exact cB (by decide)
          · split
            · exact hleaf _ (.inl rfl)
            · exact hleaf _ (.inr (.inl rfl))
    rw [if_neg e14]
    by_cases e15 : k = 146
    · rw [if_pos e15]
      obtain ⟨T, x, rfl, hT, hx⟩ := eW (p2 (by omega))
      rw [ofIn]
      unfold in1
      split
      · rename_i h; exact cB h
      · rename_i h1
        split
        · rename_i h; exact cB h
        · split
          · exact cB (by decide)
          · cases partP (kidsOf (starT ks T).1) a with
            | none => exact cB (by decide)
            | some p =>
              rw [in2]
              unfold alike1
              split
              · rename_i h; exact cB h
              · split
                · exact cB (by decide)
                · exact iL (fun _ => eF ks T (by simpa using h1))
    rw [if_neg e15]
    by_cases e16 : k = 147
    · rw [if_pos e16]
      obtain ⟨x, arms, rfl, hne, hx, ha⟩ := lV (p9 e16)
      rw [ofCase]
      unfold case1
      split
      · rename_i h; exact cB h
      · split
        · rename_i h; exact cB h
        · rename_i h1
          have h0 : (arms1 (ofP x ks ts).1 arms (ofArms arms (kidsOf (ofP x ks ts).1) (ofP x ks ts).1 ks ts)).2 = 0 := by simpa using h1
          unfold arms1 at h0 ⊢
          split at h0
          · cases h0
          · rename_i h3
            rw [if_neg h3]
            unfold alikeP
            split
            · exact cB (by decide)
            · intro _
              cases arms with
              | nil => exact absurd rfl hne
              | cons t l =>
                rw [ofArms] at h0 ⊢
                unfold arm1 at h0 ⊢
                split at h0
                · rename_i h5; exact absurd h0 h5
                · rename_i h5
                  rw [if_neg h5]
                  obtain ⟨h6, h7, h8⟩ := gL h0
                  rw [h8]
                  have hmt : t ∈ x :: t :: l := by simp
                  obtain ⟨a', y, rfl, hy, hl⟩ := ha t (by simp)
                  have sx := bN (k := 149) (n := 0) (a := a') (b := emptyB) (kids := [y]) (t := y) (by simp)
                  have h9 := hin _ hmt
                  rw [ofArm, ofH] at h6 ⊢
                  exact ih y (by omega) _ _ hy (bC (hwk _ hmt) (by simp)) h6
    · rw [if_neg e16]
      have e17 : k = 148 := by omega
      obtain ⟨x, T, arms, rfl, hne, hx, hT, ha⟩ := jY (p10 e17)
      rw [ofFold]
      unfold fold1
      split
      · rename_i h; exact cB h
      · split
        · rename_i h; exact cB h
        · rename_i h1
          split
          · rename_i h; exact cB h
          · unfold alikeP
            split
            · exact cB (by decide)
            · exact iL (fun _ => eF ks T (by simpa using h1))
end Go.Proofs.YtlbemgokilhdnaaGreat.Ab
namespace Go.Proofs.YtlbemgokilhdnaaGreat.Ab
set_option linter.unusedVariables false
set_option linter.unusedSimpArgs false
open Go.RowKit
attribute [local irreducible] AWP AOps AExit AThen ABlock ANoGoto FeetOk
/-- Types that are trees, not too large. -/
def okT (ts : List Tree) : Prop := ∀ T ∈ ts, T.whole = true ∧ T.size ≤ 100000000
section
variable (kl tl : Nat) (KI TI : List IV)
set_option maxHeartbeats 8000000 in
set_option maxRecDepth 10000 in
theorem aCZ (n : Int) (a b : ByteArray) (kids : List Tree) (ts : List Tree) (hts : okT ts) (hn : 0 ≤ n) :
    ACalls Tryz.prog 45 [.imm (.agg [.sl false kl KI, .sl false ts.length (Tree.ivs ts)]), .imm (Tree.iv (.node 130 n a b kids))] [] (.imm (.tup [(if n ≥ (ts.length : Int) then (.nil, 8) else normalP 1000 (ts.getD n.toNat .nil)).1.iv, .lit (.int .i64 (if n ≥ (ts.length : Int) then (.nil, 8) else normalP 1000 (ts.getD n.toNat .nil)).2)])) [] := by
  obtain ⟨j, rfl⟩ := Int.eq_ofNat_of_zero_le hn
  rw [Tree.iv]
  generalize Tree.ivs kids = Z at *
  by_cases h : j < ts.length
  · rw [if_neg (show ¬ ((j : Int) ≥ (ts.length : Int)) by omega)]
    have e : ts.getD (j : Int).toNat .nil = ts[j] := by rw [Int.toNat_natCast, List.getD_eq_getElem?_getD, List.getElem?_eq_getElem h]; rfl
    rw [e]
    have hget := cG ts j h
    have c1 := mL ts[j] (hts _ (List.getElem_mem h)).2
    generalize normalP 1000 ts[j] = Q at *
    obtain ⟨Q1, Q2⟩ := Q
    dsimp only at *
    generalize Q1.iv = qi at *
    generalize ts[j].iv = ti at *
    generalize Tree.ivs ts = TI at *
    clear hts e
    refine aI Tryz.func45 rfl rfl (nb rfl) rfl ?_
    repeat' (first | refine aF ?_ | (refine aH ?_;  first | refine aC tabOk rfl rfl rfl (nb rfl) rfl ?_ | (refine aJ rfl rfl rfl (nb rfl) rfl rfl rfl (fun hq => ?_) (fun hq => ?_) <;> (first | (simp only [sD, sE, sB, sC, sN, sM, sT, sF] at hq; try (exfalso; omega)) | skip)) | refine bE tabOk rfl rfl rfl (nb rfl) rfl rfl rfl hget ?_ | refine aD rfl rfl (nb rfl) rfl rfl rfl rfl (c1) ?_ | refine aV tabOk rfl rfl (nb rfl) rfl ?_ | refine bF tabOk rfl rfl rfl (nb rfl) rfl rfl rfl rfl (by first | assumption | omega) ?_) | (refine aL ?_;  first | refine aG ?_ | refine aM ?_ | refine aS ?_ | refine aN ?_ | refine aT ?_ | refine aE (b := true) rfl (fun _ => ?_) nTf | refine aE (b := false) rfl nFt (fun _ => ?_) | refine aQ mixed (by kernel_rfl) ?_) | (refine aK ?_;  first | refine aU ?_ | refine aO ?_) | (refine aR ?_;  first | refine aZ ?_) | refine bD (bB (by kernel_rfl)) ?_)
    all_goals first | (exfalso; omega) | exact absurd rfl (by assumption) | (refine aP (by first | exact .inl rfl | exact .inr rfl) (aW rfl (aB rfl) (aB rfl)) rfl ?_; rfl)
  · rw [if_pos (show (j : Int) ≥ (ts.length : Int) by omega)]
    generalize Tree.ivs ts = TI at *
    clear hts
    generalize ts.length = tl at *
    refine aI Tryz.func45 rfl rfl (nb rfl) rfl ?_
    repeat' (first | refine aF ?_ | (refine aH ?_;  first | refine aC tabOk rfl rfl rfl (nb rfl) rfl ?_ | (refine aJ rfl rfl rfl (nb rfl) rfl rfl rfl (fun hq => ?_) (fun hq => ?_) <;> (first | (simp only [sD, sE, sB, sC, sN, sM, sT, sF] at hq; try (exfalso; omega)) | skip)) | refine aV tabOk rfl rfl (nb rfl) rfl ?_) | (refine aL ?_;  first | refine aG ?_ | refine aM ?_ | refine aS ?_ | refine aN ?_ | refine aE (b := true) rfl (fun _ => ?_) nTf | refine aQ mixed (by kernel_rfl) ?_) | (refine aK ?_;  first | refine aU ?_ | refine aO ?_) | (refine aR ?_;  first | refine aZ ?_) | refine bD (bB (by kernel_rfl)) ?_)
    all_goals first | (exfalso; omega) | exact absurd rfl (by assumption) | (refine aP (by first | exact .inl rfl | exact .inr rfl) (aW rfl (aB rfl) (aB rfl)) rfl ?_; rfl)
set_option maxHeartbeats 8000000 in
set_option maxRecDepth 10000 in
theorem uT (k c : Int) (hk : k = 131 ∧ c = 111 ∨ k = 132 ∧ c = 112 ∨ k = 133 ∧ c = 113) (n : Int) (a b : ByteArray) (kids : List Tree) :
    ACalls Tryz.prog 45 [.imm (IV.agg [.sl false kl KI, .sl false tl TI]), .imm (Tree.iv (.node k n a b kids))] [] (.imm (.tup [(tyT c []).iv, .lit (.int .i64 0)])) [] := by
  have c1 := zF c
  rw [Tree.iv]
  generalize Tree.ivs kids = Z at *
  generalize (tyT c []).iv = ti at *
  rcases hk with ⟨rfl, rfl⟩ | ⟨rfl, rfl⟩ | ⟨rfl, rfl⟩
  · refine aI Tryz.func45 rfl rfl (nb rfl) rfl ?_
    repeat' (first | refine aF ?_ | (refine aH ?_;  first | refine aC tabOk rfl rfl rfl (nb rfl) rfl ?_ | (refine aJ rfl rfl rfl (nb rfl) rfl rfl rfl (fun hq => ?_) (fun hq => ?_) <;> (first | (simp only [sD, sE, sB, sC, sN, sM, sT, sF] at hq; try (exfalso; omega)) | skip)) | refine aD rfl rfl (nb rfl) rfl rfl rfl rfl (c1) ?_ | refine aV tabOk rfl rfl (nb rfl) rfl ?_) | (refine aL ?_;  first | refine aG ?_ | refine aM ?_ | refine aS ?_ | refine aN ?_ | refine aE (b := true) rfl (fun _ => ?_) nTf | refine aE (b := false) rfl nFt (fun _ => ?_)) | (refine aK ?_;  first | refine aO ?_) | (refine aR ?_;  first | refine aZ ?_))
    all_goals first | (exfalso; omega) | exact absurd rfl (by assumption) | (refine aP (by first | exact .inl rfl | exact .inr rfl) (aW rfl (aB rfl) (aB rfl)) rfl ?_; rfl)
  · refine aI Tryz.func45 rfl rfl (nb rfl) rfl ?_
    repeat' (first | refine aF ?_ | (refine aH ?_;  first | refine aC tabOk rfl rfl rfl (nb rfl) rfl ?_ | (refine aJ rfl rfl rfl (nb rfl) rfl rfl rfl (fun hq => ?_) (fun hq => ?_) <;> (first | (simp only [sD, sE, sB, sC, sN, sM, sT, sF] at hq; try (exfalso; omega)) | skip)) | refine aD rfl rfl (nb rfl) rfl rfl rfl rfl (c1) ?_ | refine aV tabOk rfl rfl (nb rfl) rfl ?_) | (refine aL ?_;  first | refine aG ?_ | refine aM ?_ | refine aS ?_ | refine aN ?_ | refine aE (b := true) rfl (fun _ => ?_) nTf | refine aE (b := false) rfl nFt (fun _ => ?_)) | (refine aK ?_;  first | refine aO ?_) | (refine aR ?_;  first | refine aZ ?_))
    all_goals first | (exfalso; omega) | exact absurd rfl (by assumption) | (refine aP (by first | exact .inl rfl | exact .inr rfl) (aW rfl (aB rfl) (aB rfl)) rfl ?_; rfl)
  · refine aI Tryz.func45 rfl rfl (nb rfl) rfl ?_
    repeat' (first | refine aF ?_ | (refine aH ?_;  first | refine aC tabOk rfl rfl rfl (nb rfl) rfl ?_ | (refine aJ rfl rfl rfl (nb rfl) rfl rfl rfl (fun hq => ?_) (fun hq => ?_) <;> (first | (simp only [sD, sE, sB, sC, sN, sM, sT, sF] at hq; try (exfalso; omega)) | skip)) | refine aD rfl rfl (nb rfl) rfl rfl rfl rfl (c1) ?_ | refine aV tabOk rfl rfl (nb rfl) rfl ?_) | (refine aL ?_;  first | refine aG ?_ | refine aM ?_ | refine aS ?_ | refine aN ?_ | refine aE (b := true) rfl (fun _ => ?_) nTf | refine aE (b := false) rfl nFt (fun _ => ?_)) | (refine aK ?_;  first | refine aO ?_) | (refine aR ?_;  first | refine aZ ?_))
    all_goals first | (exfalso; omega) | exact absurd rfl (by assumption) | (refine aP (by first | exact .inl rfl | exact .inr rfl) (aW rfl (aB rfl) (aB rfl)) rfl ?_; rfl)
set_option maxHeartbeats 8000000 in
set_option maxRecDepth 10000 in
theorem aDa (C2 : IV) (n : Int) (a b : ByteArray) (x y : Tree) (hx : x.whole = true) (hy : y.whole = true) (A B : Tree × Int)
    (c1 : ACalls Tryz.prog 45 [.imm (IV.agg [.sl false kl KI, .sl false tl TI]), .imm x.iv] [] (.imm (.tup [(A).1.iv, .lit (.int .i64 (A).2)])) [])
    (c2 : A.2 = 0 → ACalls Tryz.prog 79 [.imm (IV.agg [.sl false kl KI, .sl false tl TI]), .imm A.1.iv] [] (.imm C2) [])
    (c3 : A.2 = 0 → ACalls Tryz.prog 45 [.imm C2, .imm y.iv] [] (.imm (.tup [(B).1.iv, .lit (.int .i64 (B).2)])) []) :
    ACalls Tryz.prog 45 [.imm (IV.agg [.sl false kl KI, .sl false tl TI]), .imm (Tree.iv (.node 143 n a b [x, y]))] [] (.imm (.tup [(let1 A B).1.iv, .lit (.int .i64 (let1 A B).2)])) [] := by
  obtain ⟨px, hpx⟩ := bV (bL hx)
  obtain ⟨py, hpy⟩ := bV (bL hy)
  rw [dT 143 n a b hpx hpy]
  rw [hpx] at c1
  rw [hpy] at c3
  unfold let1
  obtain ⟨A1, A2⟩ := A
  obtain ⟨B1, B2⟩ := B
  dsimp only at *
  by_cases h1 : A2 = 0
  · replace c2 := c2 h1
    replace c3 := c3 h1
    subst h1
    rw [if_neg (by simp)]
    dsimp only
    generalize A1.iv = ai at *
    generalize B1.iv = bi at *
    refine aI Tryz.func45 rfl rfl (nb rfl) rfl ?_
    repeat' (first | refine aF ?_ | (refine aH ?_;  first | refine aC tabOk rfl rfl rfl (nb rfl) rfl ?_ | (refine aJ rfl rfl rfl (nb rfl) rfl rfl rfl (fun hq => ?_) (fun hq => ?_) <;> (first | (simp only [sD, sE, sB, sC, sN, sM, sT, sF] at hq; try (exfalso; omega)) | skip)) | refine aD rfl rfl (nb rfl) rfl rfl rfl rfl (c1) ?_ | refine aD rfl rfl (nb rfl) rfl rfl rfl rfl (c2) ?_ | refine aD rfl rfl (nb rfl) rfl rfl rfl rfl (c3) ?_ | refine aV tabOk rfl rfl (nb rfl) rfl ?_ | refine aY tabOk rfl rfl rfl (nb rfl) rfl rfl rfl rfl (by first | rfl | omega) (by first | omega | simp) ?_) | (refine aL ?_;  first | refine aG ?_ | refine aM ?_ | refine aS ?_ | refine aN ?_ | refine aT ?_ | refine aE (b := true) rfl (fun _ => ?_) nTf | refine aE (b := false) rfl nFt (fun _ => ?_) | refine aQ mixed (by kernel_rfl) ?_) | (refine aK ?_;  first | refine aU ?_ | refine aO ?_) | (refine aR ?_;  first | refine aZ ?_) | refine bD (bB (by kernel_rfl)) ?_)
    all_goals first | (exfalso; omega) | exact absurd rfl (by assumption) | (refine aP (by first | exact .inl rfl | exact .inr rfl) (aW rfl (aB rfl) (aB rfl)) rfl ?_; rfl)
  · rw [if_pos h1]
    generalize A1.iv = ai at *
    clear c2 c3
    refine aI Tryz.func45 rfl rfl (nb rfl) rfl ?_
    repeat' (first | refine aF ?_ | (refine aH ?_;  first | refine aC tabOk rfl rfl rfl (nb rfl) rfl ?_ | (refine aJ rfl rfl rfl (nb rfl) rfl rfl rfl (fun hq => ?_) (fun hq => ?_) <;> (first | (simp only [sD, sE, sB, sC, sN, sM, sT, sF] at hq; try (exfalso; omega)) | skip)) | refine aD rfl rfl (nb rfl) rfl rfl rfl rfl (c1) ?_ | refine aV tabOk rfl rfl (nb rfl) rfl ?_ | refine aY tabOk rfl rfl rfl (nb rfl) rfl rfl rfl rfl (by first | rfl | omega) (by first | omega | simp) ?_) | (refine aL ?_;  first | refine aG ?_ | refine aM ?_ | refine aS ?_ | refine aN ?_ | refine aE (b := true) rfl (fun _ => ?_) nTf | refine aE (b := false) rfl nFt (fun _ => ?_) | refine aQ mixed (by kernel_rfl) ?_) | (refine aK ?_;  first | refine aU ?_ | refine aO ?_) | (refine aR ?_;  first | refine aZ ?_) | refine bD (bB (by kernel_rfl)) ?_)
    all_goals first | (exfalso; omega) | exact absurd rfl (by assumption) | (refine aP (by first | exact .inl rfl | exact .inr rfl) (aW rfl (aB rfl) (aB rfl)) rfl ?_; rfl)
set_option maxHeartbeats 8000000 in
set_option maxRecDepth 10000 in
theorem aCm (k n : Int) (a b : ByteArray) (kids : List Tree) (hk : k ≠ 130 ∧ k ≠ 131 ∧ k ≠ 132 ∧ k ≠ 133 ∧ k ≠ 139 ∧ k ≠ 143) (R : Tree × Int)
    (c2 : ACalls Tryz.prog (ruleF k) [.imm (IV.agg [.sl false kl KI, .sl false tl TI]), .imm (Tree.iv (.node k n a b kids))] [] (.imm (.tup [(R).1.iv, .lit (.int .i64 (R).2)])) []) :
    ACalls Tryz.prog 45 [.imm (IV.agg [.sl false kl KI, .sl false tl TI]), .imm (Tree.iv (.node k n a b kids))] [] (.imm (.tup [(R).1.iv, .lit (.int .i64 (R).2)])) [] := by
  have c1 := aDk k n a b kids
  generalize ruleF k = F at *
  generalize R.1.iv = ri at *
  rw [Tree.iv] at *
  generalize Tree.ivs kids = Z at *
  refine aI Tryz.func45 rfl rfl (nb rfl) rfl ?_
  repeat' (first | refine aF ?_ | (refine aH ?_;  first | refine aC tabOk rfl rfl rfl (nb rfl) rfl ?_ | (refine aJ rfl rfl rfl (nb rfl) rfl rfl rfl (fun hq => ?_) (fun hq => ?_) <;> (first | (simp only [sD, sE, sB, sC, sN, sM, sT, sF] at hq; try (exfalso; omega)) | skip)) | refine aD rfl rfl (nb rfl) rfl rfl rfl rfl (c1) ?_ | refine aD rfl rfl (nb rfl) rfl rfl rfl rfl (c2) ?_ | refine aV tabOk rfl rfl (nb rfl) rfl ?_) | (refine aL ?_;  first | refine aG ?_ | refine aM ?_ | refine aS ?_ | refine aN ?_ | refine aT ?_ | refine aE (b := false) rfl nFt (fun _ => ?_) | refine aQ mixed (by kernel_rfl) ?_) | (refine aK ?_;  first | refine aU ?_) | (refine aR ?_;  first | refine bP ?_) | refine bD (bB (by kernel_rfl)) ?_)
  all_goals first | (exfalso; omega) | exact absurd rfl (by assumption) | (refine aP (by first | exact .inl rfl | exact .inr rfl) (aW rfl (aB rfl) (aB rfl)) rfl ?_; rfl)
set_option maxHeartbeats 8000000 in
set_option maxRecDepth 10000 in
theorem wZ (kl2 tl2 : Nat) (KI2 TI2 : List IV) (n : Int) (a b : ByteArray) (K x : Tree) (hK : K.whole = true) (hx : x.whole = true) (e : Int) (B : Tree × Int) (fB : fineW B)
    (c2 : ACalls Tryz.prog 78 [.imm (IV.agg [.sl false kl KI, .sl false tl TI]), .imm K.iv] [] (.imm (.tup [(IV.agg [.sl false kl2 KI2, .sl false tl2 TI2]), .lit (.int .i64 e)])) [])
    (c4 : e = 0 → ACalls Tryz.prog 45 [.imm (IV.agg [.sl false kl2 KI2, .sl false tl2 TI2]), .imm x.iv] [] (.imm (.tup [(B).1.iv, .lit (.int .i64 (B).2)])) []) :
    ACalls Tryz.prog 45 [.imm (IV.agg [.sl false kl KI, .sl false tl TI]), .imm (Tree.iv (.node 139 n a b [K, x]))] [] (.imm (.tup [(tlam1 K e B).1.iv, .lit (.int .i64 (tlam1 K e B).2)])) [] := by
  obtain ⟨px, hpx⟩ := bV (bL hx)
  obtain ⟨pK, hpK⟩ := bV (bL hK)
  rw [dT 139 n a b hpK hpx]
  rw [hpK] at c2
  rw [hpx] at c4
  unfold tlam1
  obtain ⟨B1, B2⟩ := B
  unfold fineW at fB
  dsimp only at *
  by_cases h2 : e = 0
  · replace c4 := c4 h2
    subst h2
    rw [if_neg (by simp)]
    by_cases h3 : B2 = 0
    · obtain ⟨b1, b2⟩ := fB h3
      obtain ⟨pb, hpb⟩ := bV (bL b1)
      have c5 := aCe 117 pK pb true
      subst h3
      rw [if_neg (by simp), aAb 117 hpK hpb]
      rw [hpb] at c4
      clear fB b1 b2
      refine aI Tryz.func45 rfl rfl (nb rfl) rfl ?_
      refine cT (eG 6 (by simp) rfl rfl) ?_
      repeat' (first | refine aF ?_ | (refine aH ?_;  first | refine aC tabOk rfl rfl rfl (nb rfl) rfl ?_ | (refine aJ rfl rfl rfl (nb rfl) rfl rfl rfl (fun hq => ?_) (fun hq => ?_) <;> (first | (simp only [sD, sE, sB, sC, sN, sM, sT, sF] at hq; try (exfalso; omega)) | skip)) | refine eA 6 (d := 6) tabOk rfl rfl rfl (nb rfl) rfl rfl rfl rfl ?_ | refine aD rfl rfl (nb rfl) rfl rfl rfl rfl (c2) ?_ | refine aD rfl rfl (nb rfl) rfl rfl rfl rfl (c4) ?_ | refine aD rfl rfl (nb rfl) rfl rfl rfl rfl (c5) ?_ | refine bY tabOk rfl rfl rfl (nb rfl) rfl rfl rfl rfl rfl rfl rfl rfl rfl ?_ | refine aV tabOk rfl rfl (nb rfl) rfl ?_ | refine bM tabOk rfl rfl rfl (nb rfl) rfl rfl rfl rfl ?_ | refine bK tabOk rfl rfl rfl rfl rfl rfl rfl rfl rfl rfl rfl ?_ | refine aY tabOk rfl rfl rfl (nb rfl) rfl rfl rfl rfl (by first | rfl | omega) (by first | omega | simp) ?_) | (refine aL ?_;  first | refine aG ?_ | refine aM ?_ | refine aS ?_ | refine aN ?_ | refine aT ?_ | refine aE (b := true) rfl (fun _ => ?_) nTf | refine aE (b := false) rfl nFt (fun _ => ?_) | refine aQ mixed (by kernel_rfl) ?_) | (refine aK ?_;  first | refine aU ?_ | refine aO ?_) | (refine aR ?_;  first | refine aZ ?_) | refine bD (bB (by kernel_rfl)) ?_)
      all_goals first | (exfalso; omega) | exact absurd rfl (by assumption) | (refine aP (by first | exact .inl rfl | exact .inr rfl) (aW rfl (aB rfl) (aB rfl)) rfl ?_; rfl)
    · rw [if_pos h3]
      generalize B1.iv = bi at *
      clear fB
      refine aI Tryz.func45 rfl rfl (nb rfl) rfl ?_
      refine cT (eG 6 (by simp) rfl rfl) ?_
      repeat' (first | refine aF ?_ | (refine aH ?_;  first | refine aC tabOk rfl rfl rfl (nb rfl) rfl ?_ | (refine aJ rfl rfl rfl (nb rfl) rfl rfl rfl (fun hq => ?_) (fun hq => ?_) <;> (first | (simp only [sD, sE, sB, sC, sN, sM, sT, sF] at hq; try (exfalso; omega)) | skip)) | refine eA 6 (d := 6) tabOk rfl rfl rfl (nb rfl) rfl rfl rfl rfl ?_ | refine aD rfl rfl (nb rfl) rfl rfl rfl rfl (c2) ?_ | refine aD rfl rfl (nb rfl) rfl rfl rfl rfl (c4) ?_ | refine aV tabOk rfl rfl (nb rfl) rfl ?_ | refine bM tabOk rfl rfl rfl (nb rfl) rfl rfl rfl rfl ?_ | refine bK tabOk rfl rfl rfl rfl rfl rfl rfl rfl rfl rfl rfl ?_ | refine aY tabOk rfl rfl rfl (nb rfl) rfl rfl rfl rfl (by first | rfl | omega) (by first | omega | simp) ?_) | (refine aL ?_;  first | refine aG ?_ | refine aM ?_ | refine aS ?_ | refine aN ?_ | refine aT ?_ | refine aE (b := true) rfl (fun _ => ?_) nTf | refine aE (b := false) rfl nFt (fun _ => ?_) | refine aQ mixed (by kernel_rfl) ?_) | (refine aK ?_;  first | refine aU ?_ | refine aO ?_) | (refine aR ?_;  first | refine aZ ?_) | refine bD (bB (by kernel_rfl)) ?_)
      all_goals first | (exfalso; omega) | exact absurd rfl (by assumption) | (refine aP (by first | exact .inl rfl | exact .inr rfl) (aW rfl (aB rfl) (aB rfl)) rfl ?_; rfl)
  · rw [if_pos h2]
    clear c4 fB
    refine aI Tryz.func45 rfl rfl (nb rfl) rfl ?_
    refine cT (eG 6 (by simp) rfl rfl) ?_
    repeat' (first | refine aF ?_ | (refine aH ?_;  first | refine aC tabOk rfl rfl rfl (nb rfl) rfl ?_ | (refine aJ rfl rfl rfl (nb rfl) rfl rfl rfl (fun hq => ?_) (fun hq => ?_) <;> (first | (simp only [sD, sE, sB, sC, sN, sM, sT, sF] at hq; try (exfalso; omega)) | skip)) | refine eA 6 (d := 6) tabOk rfl rfl rfl (nb rfl) rfl rfl rfl rfl ?_ | refine aD rfl rfl (nb rfl) rfl rfl rfl rfl (c2) ?_ | refine aV tabOk rfl rfl (nb rfl) rfl ?_ | refine bK tabOk rfl rfl rfl rfl rfl rfl rfl rfl rfl rfl rfl ?_ | refine aY tabOk rfl rfl rfl (nb rfl) rfl rfl rfl rfl (by first | rfl | omega) (by first | omega | simp) ?_) | (refine aL ?_;  first | refine aG ?_ | refine aM ?_ | refine aS ?_ | refine aN ?_ | refine aE (b := true) rfl (fun _ => ?_) nTf | refine aE (b := false) rfl nFt (fun _ => ?_) | refine aQ mixed (by kernel_rfl) ?_) | (refine aK ?_;  first | refine aU ?_ | refine aO ?_) | (refine aR ?_;  first | refine aZ ?_) | refine bD (bB (by kernel_rfl)) ?_)
    all_goals first | (exfalso; omega) | exact absurd rfl (by assumption) | (refine aP (by first | exact .inl rfl | exact .inr rfl) (aW rfl (aB rfl) (aB rfl)) rfl ?_; rfl)
end
end Go.Proofs.YtlbemgokilhdnaaGreat.Ab
namespace Go.Proofs.YtlbemgokilhdnaaGreat.Ab
set_option linter.unusedVariables false
set_option linter.unusedSimpArgs false
open Go.RowKit
theorem nF {T : Tree} {ts : List Tree} (h1 : T.whole = true) (h2 : T.size ≤ 100000000) (h : okT ts) : okT (T :: ts) := fun U hU => by
  rcases List.mem_cons.1 hU with rfl | hU
  · exact ⟨h1, h2⟩
  · exact h U hU
theorem xA {K : Tree} {ks : List Tree} (h1 : checkP isKindP K = 0) (h : okK ks) : okK (K :: ks) := fun U hU => by
  rcases List.mem_cons.1 hU with rfl | hU
  · exact h1
  · exact h U hU
theorem aBh {R : Tree × Int} (h : R.2 = 0 → checkP isConP R.1 = 0) : fineT R := fun h0 => by
  obtain ⟨h1, h2, h3⟩ := bG (h h0)
  exact ⟨h3, h1, by omega⟩
theorem nV (ks ts : List Tree) (self : Tree) : ∀ l cs : List Tree, (∀ t ∈ l, ∃ a' x, t = .node 149 0 a' emptyB [x] ∧ ∀ T : Tree, T.whole = true → T.size ≤ 100000000 → fineW (ofP x ks (T :: ts))) → (ofArms l cs self ks ts).2 = 0 → (ofArms l cs self ks ts).1.length = l.length ∧ ∀ s ∈ (ofArms l cs self ks ts).1, s.whole = true ∧ s.size ≤ 100000000
  | [], cs, _, _ => by rw [ofArms]; exact ⟨rfl, fun s hs => (List.not_mem_nil hs).elim⟩
  | t :: l, cs, h, h0 => by
    obtain ⟨a', x, rfl, hx⟩ := h t (by simp)
    rw [ofArms] at h0 ⊢
    unfold arm1 at h0 ⊢
    split at h0
    · rename_i h1; exact absurd h0 h1
    · rename_i h1
      rw [if_neg h1]
      obtain ⟨h2, h3, h4⟩ := gL h0
      rw [h4]
      obtain ⟨g1, g2⟩ := nV ks ts self l cs.tail (fun t ht => h t (by simp [ht])) h3
      obtain ⟨_, w1, w2⟩ := fU _ _ (show (filledP (kid0 (cs.headD .nil)) self).2 = 0 by simpa using h1)
      rw [ofArm, ofH] at h2 ⊢
      refine ⟨by rw [List.length_cons, List.length_cons, g1], fun s hs => ?_⟩
      rcases List.mem_cons.1 hs with rfl | hs
      · exact hx _ w1 w2 h2
      · exact g2 s hs
set_option maxHeartbeats 8000000 in
set_option maxRecDepth 10000 in
theorem aCn (t : Tree) : ∀ ks ts : List Tree, isTermP t = true → t.whole = true → t.size ≤ 1500 → okK ks → ks.length + t.size ≤ 90000 → ts.length + t.size ≤ 900000 → okT ts →
    ACalls Tryz.prog 45 [.imm (cIV ks ts), .imm t.iv] [] (.imm (.tup [(ofP t ks ts).1.iv, .lit (.int .i64 (ofP t ks ts).2)])) [] := by
  induction t using Tree.sind with
  | h t ih =>
    intro ks ts hf hw hs hk hkl htl ht
    obtain ⟨k, n, a, b, kids, rfl⟩ := bT hw
    obtain ⟨p0, p1, p2, p3, p4, p5, p6, p7, p8, p9, p10, pk⟩ := lW hf
    have hwk : ∀ t ∈ kids, t.whole = true := fun t h => bC hw h
    have hsz : (Tree.node k n a b kids).size = Tree.sizes kids + 1 := by simp only [Tree.size]; omega
    have hin : ∀ t ∈ kids, t.size ≤ Tree.sizes kids := fun t h => cR h
    have hfin : ∀ x : Tree, x.size ≤ Tree.sizes kids → x.whole = true → isTermP x = true → ∀ ks' ts', fineT (ofP x ks' ts') := fun x hx hw h ks' ts' h0 => by
      obtain ⟨h1, h2, h3⟩ := wH x ks' ts' h hw h0
      exact ⟨h1, h2, by omega⟩
    have hgo : ∀ x : Tree, x.size ≤ Tree.sizes kids → x.whole = true → isTermP x = true → ∀ ks' ts', okK ks' → ks'.length ≤ ks.length + 1 → ts'.length ≤ ts.length + 1 → okT ts' → ACalls Tryz.prog 45 [.imm (cIV ks' ts'), .imm x.iv] [] (.imm (.tup [(ofP x ks' ts').1.iv, .lit (.int .i64 (ofP x ks' ts').2)])) [] :=
      fun x hx hw h ks' ts' h1 h2 h3 h4 => ih x (by omega) ks' ts' h hw (by omega) h1 (by omega) (by omega) h4
    have h0 : ∀ x ∈ kids, isTermP x = true → ACalls Tryz.prog 45 [.imm (cIV ks ts), .imm x.iv] [] (.imm (.tup [(ofP x ks ts).1.iv, .lit (.int .i64 (ofP x ks ts).2)])) [] ∧ fineT (ofP x ks ts) := fun x hx h =>
      ⟨hgo x (hin x hx) (hwk x hx) h ks ts hk (by omega) (by omega) ht, hfin x (hin x hx) (hwk x hx) h ks ts⟩
    have hcs : ∀ C : Tree, checkP isConP C = 0 → C.whole = true ∧ C.size ≤ 100000000 := fun C h => by
      obtain ⟨h1, h2, h3⟩ := bG h
      exact ⟨h1, by omega⟩
    have hst : ∀ T : Tree, checkP isConP T = 0 → ACalls Tryz.prog 138 [.imm (cIV ks ts), .imm T.iv] [] (.imm (.tup [(starT ks T).1.iv, .lit (.int .i64 (starT ks T).2)])) [] ∧ fineT (starT ks T) := fun T h =>
      ⟨aCU ks ts hk (by omega) T (hcs T h).2, aBh (eF ks T)⟩
    have hkd : ∀ C : Tree, checkP isConP C = 0 → ACalls Tryz.prog 37 [.imm (.sl false ks.length (Tree.ivs ks)), .imm C.iv] [] (.imm (.tup [(KindP ks C).1.iv, .lit (.int .i64 (KindP ks C).2)])) [] ∧ fineK 100000000 (KindP ks C) := fun C h =>
      ⟨aCd (gK false ks) hk (by omega) C (hcs C h).2, fun h2 => by
        obtain ⟨g1, g2, g3⟩ := rF ks C hk h2
        exact ⟨g1, g2, by omega⟩⟩
    have hty : ∀ T : Tree, T.whole = true → ACalls Tryz.prog 79 [.imm (cIV ks ts), .imm T.iv] [] (.imm (cIV ks (T :: ts))) [] := fun T hT => aCf ks ts T hT (by omega)
    have hkl2 : kids.length ≤ Tree.sizes kids := cE kids hw
    by_cases e0 : k = 130
    · subst e0
      rw [show ofP (.node 130 n a b kids) ks ts = (if n ≥ (ts.length : Int) then (.nil, 8) else normalP 1000 (ts.getD n.toNat .nil)) by rw [ofP, if_pos rfl]]
      exact aCZ ks.length (Tree.ivs ks) n a b kids ts ht (p0 rfl).1
    by_cases e1 : k = 131
    · subst e1
      rw [show ofP (.node 131 n a b kids) ks ts = (tyT 111 [], 0) by rw [ofP]; rfl]
      exact uT _ _ _ _ 131 111 (by decide) n a b kids
    by_cases e2 : k = 132
    · subst e2
      rw [show ofP (.node 132 n a b kids) ks ts = (tyT 112 [], 0) by rw [ofP]; rfl]
      exact uT _ _ _ _ 132 112 (by decide) n a b kids
    by_cases e3 : k = 133
    · subst e3
      rw [show ofP (.node 133 n a b kids) ks ts = (tyT 113 [], 0) by rw [ofP]; rfl]
      exact uT _ _ _ _ 133 113 (by decide) n a b kids
    by_cases e4 : k = 139
    · subst e4
      obtain ⟨K, x, rfl, hK, hx⟩ := lT (p1 rfl)
      have ck := zZ ks ts K (bG hK).1 (by omega) (by omega) fun T hT => ⟨(ht T hT).1, (ht T hT).2⟩
      rw [show ofP (.node 139 n a b [K, x]) ks ts = tlam1 K (shiftsP ts).2 (ofP x (K :: ks) (shiftsP ts).1) by rw [ofP]; rfl]
      have hsf := fN ts
      by_cases he : (shiftsP ts).2 = 0
      · rw [if_neg (by simpa using he)] at ck
        obtain ⟨g1, g2⟩ := hsf he
        exact wZ _ _ _ _ _ _ _ _ n a b K x (bG hK).1 (hwk x (by simp)) _ _ (dJ (hfin x (hin x (by simp)) (hwk x (by simp)) hx _ _)) ck fun _ =>
          hgo x (hin x (by simp)) (hwk x (by simp)) hx _ _ (xA hK hk) (by rw [List.length_cons]; omega) (by omega) fun T hT => ⟨(g2 T hT).1, by have := (g2 T hT).2; omega⟩
      · rw [if_pos he] at ck
        exact wZ _ _ _ _ _ _ _ _ n a b K x (bG hK).1 (hwk x (by simp)) _ _ (dJ (hfin x (hin x (by simp)) (hwk x (by simp)) hx _ _)) ck fun h => absurd h he
    by_cases e5 : k = 143
    · subst e5
      obtain ⟨x, y, rfl, hx, hy⟩ := dE (p3 (by decide))
      obtain ⟨c1, f1⟩ := h0 x (by simp) hx
      rw [show ofP (.node 143 n a b [x, y]) ks ts = let1 (ofP x ks ts) (ofP y ks ((ofP x ks ts).1 :: ts)) by rw [ofP]; rfl]
      exact aDa _ _ _ _ (cIV ks ((ofP x ks ts).1 :: ts)) n a b x y (hwk x (by simp)) (hwk y (by simp)) _ _ c1 (fun h => hty _ (f1 h).2.1) fun h =>
        hgo y (hin y (by simp)) (hwk y (by simp)) hy ks _ hk (by omega) (by rw [List.length_cons]; omega) (nF (f1 h).2.1 (f1 h).2.2 ht)
    refine aCm _ _ _ _ k n a b kids ⟨e0, e1, e2, e3, e4, e5⟩ _ ?_
    by_cases e6 : k = 134
    · subst e6
      obtain ⟨T, y, rfl, hT, hy⟩ := eW (p2 (by decide))
      obtain ⟨c1, f1⟩ := hst T hT
      rw [show ofP (.node 134 n a b [T, y]) ks ts = lamT1 (starT ks T) (ofP y ks ((starT ks T).1 :: ts)) by rw [ofP]; rfl]
      exact aDv _ _ _ _ (cIV ks ((starT ks T).1 :: ts)) 134 n a b T y (hwk T (by simp)) (hwk y (by simp)) _ _ (dJ f1) (dJ (hfin y (hin y (by simp)) (hwk y (by simp)) hy _ _)) c1 (fun h => hty _ (f1 h).2.1) fun h =>
        hgo y (hin y (by simp)) (hwk y (by simp)) hy ks _ hk (by omega) (by rw [List.length_cons]; omega) (nF (f1 h).2.1 (f1 h).2.2 ht)
    by_cases e7 : k = 135
    · subst e7
      obtain ⟨x, y, rfl, hx, hy⟩ := dE (p3 (by decide))
      obtain ⟨c1, f1⟩ := h0 x (by simp) hx
      obtain ⟨c2, f2⟩ := h0 y (by simp) hy
      rw [show ofP (.node 135 n a b [x, y]) ks ts = appT1 (ofP x ks ts) (ofP y ks ts) by rw [ofP]; rfl]
      exact aDw _ _ _ _ 135 n a b x y (hwk x (by simp)) (hwk y (by simp)) _ _ f1 (dJ f2) c1 c2
    by_cases e8 : k = 136
    · subst e8
      obtain ⟨q1, q2⟩ := p4 rfl
      rw [show ofP (.node 136 n a b kids) ks ts = rec1 (ofRec kids ks ts) by rw [ofP]; rfl]
      refine aDx _ _ _ _ 136 n a b kids ks ts (by omega) fun t hmt => ?_
      obtain ⟨a', x, rfl, hx, hl⟩ := q1 t hmt
      have sx := bN (k := 137) (n := 0) (a := a') (b := emptyB) (kids := [x]) (t := x) (by simp)
      have hz := hin _ hmt
      have hxw := bC (hwk _ hmt) (show x ∈ [x] by simp)
      exact ⟨a', x, rfl, hxw, dJ (hfin x (by omega) hxw hx ks ts), hgo x (by omega) hxw hx ks ts hk (by omega) (by omega) ht⟩
    by_cases e9 : k = 138
    · subst e9
      obtain ⟨x, rfl, hx⟩ := kS (p5 rfl)
      obtain ⟨c1, f1⟩ := h0 x (by simp) hx
      rw [show ofP (.node 138 n a b [x]) ks ts = proj1 a (ofP x ks ts) by rw [ofP]; rfl]
      exact aDl _ _ _ _ 138 n a b x (hwk x (by simp)) _ f1 (as_a ks ts x _ 115 (fun h => (f1 h).2.1) c1)
    by_cases e10 : k = 140
    · subst e10
      obtain ⟨x, C, rfl, hx, hC⟩ := lU (p6 rfl)
      obtain ⟨c1, f1⟩ := h0 x (by simp) hx
      obtain ⟨c2, f2⟩ := hkd C hC
      rw [show ofP (.node 140 n a b [x, C]) ks ts = tapp1 (ofP x ks ts) (KindP ks C) C by rw [ofP]; rfl]
      exact aDm _ _ _ _ 140 n a b x C (hwk x (by simp)) (hwk C (by simp)) (hcs C hC).2 _ _ f1 f2 c1 c2
    by_cases e11 : k = 141
    · subst e11
      obtain ⟨C, x, T, rfl, hC, hx, hT⟩ := jV (p7 rfl)
      obtain ⟨c1, f1⟩ := hst T hT
      obtain ⟨c2, f2⟩ := hkd C hC
      obtain ⟨c3, f3⟩ := h0 x (by simp) hx
      rw [show ofP (.node 141 n a b [C, x, T]) ks ts = pack1 (starT ks T) (KindP ks C) (ofP x ks ts) C by rw [ofP]; rfl]
      exact aDn _ _ _ _ 141 n a b C x T (hwk C (by simp)) (hwk x (by simp)) (hwk T (by simp)) (hcs C hC).2 _ _ _ f1 f2 (dJ f3) c1 c2 c3
    by_cases e12 : k = 142
    · subst e12
      obtain ⟨x, y, rfl, hx, hy⟩ := dE (p3 (by decide))
      obtain ⟨c1, f1⟩ := h0 x (by simp) hx
      rw [show ofP (.node 142 n a b [x, y]) ks ts = unpack1 (ofP x ks ts) (shiftsP ts).2 (ofP y (kid0 (ofP x ks ts).1 :: ks) (kid1 (ofP x ks ts).1 :: (shiftsP ts).1)) by rw [ofP]; rfl]
      have hsf := fN ts
      have hex := aCY x ks ts hx (hwk x (by simp))
      have ca := as_a ks ts x (ofP x ks ts) 118 (fun h => (f1 h).2.1) c1
      have hfy := dJ (hfin y (hin y (by simp)) (hwk y (by simp)) hy (kid0 (ofP x ks ts).1 :: ks) (kid1 (ofP x ks ts).1 :: (shiftsP ts).1))
      have hgy := hgo y (hin y (by simp)) (hwk y (by simp)) hy (kid0 (ofP x ks ts).1 :: ks) (kid1 (ofP x ks ts).1 :: (shiftsP ts).1)
      generalize ofP x ks ts = R at *
      have hparts : (asP R 118).2 = 0 → checkP isKindP (kid0 R.1) = 0 ∧ (kid1 R.1).whole = true ∧ (kid1 R.1).size ≤ 100000000 := fun h => by
        obtain ⟨h2, h3⟩ := iY h
        obtain ⟨s1, s2, s3⟩ := f1 h2
        have h4 := hex h2
        obtain ⟨n', a', b', u, v, e, hu, hv, wu, wv, su, sv⟩ := iX s1 s2 s3 (.inr h3)
        rw [h3] at e
        rw [e] at h4 ⊢
        rw [exS] at h4
        have h5 := h4.1 rfl
        have su2 := bN (k := 118) (n := n') (a := a') (b := b') (kids := [u, v]) (t := u) (by simp)
        refine ⟨?_, wv, sv⟩
        show checkP isKindP u = 0
        rw [iJ isKindP u wu (by omega), if_pos hu]
      have hck := fun h : (asP R 118).2 = 0 => zZ ks ts (kid0 R.1) (bG (hparts h).1).1 (by omega) (by omega) fun T hT => ⟨(ht T hT).1, (ht T hT).2⟩
      by_cases he : (shiftsP ts).2 = 0
      · obtain ⟨g1, g2⟩ := hsf he
        refine wY _ _ _ _ (kid0 R.1 :: ks).length (shiftsP ts).1.length (Tree.ivs (kid0 R.1 :: ks)) (Tree.ivs (shiftsP ts).1) (cIV (kid0 R.1 :: ks) (kid1 R.1 :: (shiftsP ts).1)) 142 n a b x y (hwk x (by simp)) (hwk y (by simp)) R _ (shiftsP ts).2 f1 hfy ca (fun h => ?_) (fun h _ => ?_) fun h _ => ?_
        · have := hck h
          rw [if_neg (by simpa using he)] at this
          exact this
        · exact aCf (kid0 R.1 :: ks) (shiftsP ts).1 (kid1 R.1) (hparts h).2.1 (by omega)
        · exact hgy (xA (hparts h).1 hk) (by rw [List.length_cons]; omega) (by rw [List.length_cons]; omega) (nF (hparts h).2.1 (hparts h).2.2 fun T hT => ⟨(g2 T hT).1, by have := (g2 T hT).2; omega⟩)
      · refine wY _ _ _ _ ks.length ts.length (Tree.ivs ks) (Tree.ivs ts) (cIV [] []) 142 n a b x y (hwk x (by simp)) (hwk y (by simp)) R _ (shiftsP ts).2 f1 hfy ca (fun h => ?_) (fun h h2 => absurd h2 he) fun h h2 => absurd h2 he
        have := hck h
        rw [if_pos he] at this
        exact this
    by_cases e13 : k = 144
    · subst e13
      obtain ⟨x, y, z, rfl, hx, hy, hz⟩ := jW (p8 rfl)
      obtain ⟨c1, f1⟩ := h0 x (by simp) hx
      obtain ⟨c2, f2⟩ := h0 y (by simp) hy
      obtain ⟨c3, f3⟩ := h0 z (by simp) hz
      rw [show ofP (.node 144 n a b [x, y, z]) ks ts = choice1 (ofP x ks ts) (ofP y ks ts) (ofP z ks ts) by rw [ofP]; rfl]
      exact aCi _ _ _ _ 144 n a b x y z (hwk x (by simp)) (hwk y (by simp)) (hwk z (by simp)) _ _ _ (dJ f1) (dJ f2) (dJ f3) c1 c2 c3
    by_cases e14 : k = 145
    · subst e14
      obtain ⟨x, y, rfl, hx, hy⟩ := dE (p3 (by decide))
      obtain ⟨c1, f1⟩ := h0 x (by simp) hx
      obtain ⟨c2, f2⟩ := h0 y (by simp) hy
      rw [show ofP (.node 145 n a b [x, y]) ks ts = op1 n (ofP x ks ts) (ofP y ks ts) by rw [ofP]; rfl]
      exact op_a _ _ _ _ 145 n a b x y (hwk x (by simp)) (hwk y (by simp)) _ _ (dJ f1) (dJ f2) c1 c2
    by_cases e15 : k = 146
    · subst e15
      obtain ⟨T, x, rfl, hT, hx⟩ := eW (p2 (by decide))
      obtain ⟨c1, f1⟩ := hst T hT
      obtain ⟨c3, f3⟩ := h0 x (by simp) hx
      rw [show ofP (.node 146 n a b [T, x]) ks ts = in1 a (starT ks T) (ofP x ks ts) by rw [ofP]; rfl]
      exact in_a _ _ _ _ 146 n a b T x (hwk T (by simp)) (hwk x (by simp)) _ _ f1 (dJ f3) c1 c3
    have harms : ∀ l : List Tree, (∀ t ∈ l, t ∈ kids ∧ armForm 149 t) → ∀ t ∈ l, ∃ a' x, t = .node 149 0 a' emptyB [x] ∧ x.whole = true ∧ ∀ T : Tree, T.whole = true → T.size ≤ 100000000 → fineW (ofP x ks (T :: ts)) ∧ ACalls Tryz.prog 45 [.imm (cIV ks (T :: ts)), .imm x.iv] [] (.imm (.tup [(ofP x ks (T :: ts)).1.iv, .lit (.int .i64 (ofP x ks (T :: ts)).2)])) [] := fun l h t hmt => by
      obtain ⟨hm, a', x, rfl, hx, _⟩ := h t hmt
      have sx := bN (k := 149) (n := 0) (a := a') (b := emptyB) (kids := [x]) (t := x) (by simp)
      have hz := hin _ hm
      have hxw := bC (hwk _ hm) (show x ∈ [x] by simp)
      exact ⟨a', x, rfl, hxw, fun T h1 h2 => ⟨dJ (hfin x (by omega) hxw hx ks _), hgo x (by omega) hxw hx ks _ hk (by omega) (by rw [List.length_cons]; omega) (nF h1 h2 ht)⟩⟩
    have hweak : ∀ l : List Tree, (∀ t ∈ l, ∃ a' x, t = .node 149 0 a' emptyB [x] ∧ x.whole = true ∧ ∀ T : Tree, T.whole = true → T.size ≤ 100000000 → fineW (ofP x ks (T :: ts)) ∧ ACalls Tryz.prog 45 [.imm (cIV ks (T :: ts)), .imm x.iv] [] (.imm (.tup [(ofP x ks (T :: ts)).1.iv, .lit (.int .i64 (ofP x ks (T :: ts)).2)])) []) → ∀ t ∈ l, ∃ a' x, t = .node 149 0 a' emptyB [x] ∧ ∀ T : Tree, T.whole = true → T.size ≤ 100000000 → fineW (ofP x ks (T :: ts)) := fun l h t hmt => by
      obtain ⟨a', x, e, _, h2⟩ := h t hmt
      exact ⟨a', x, e, fun T h3 h4 => (h2 T h3 h4).1⟩
    have hsum : ∀ R : Tree × Int, fineT R → (asP R 121).2 = 0 → ∃ n' a' b' cs, R.1 = .node 121 n' a' b' cs ∧ cs.length ≤ 100000000 ∧ ∀ c ∈ cs, ∃ k' n' a' b' y, c = .node k' n' a' b' [y] ∧ y.whole = true ∧ y.size ≤ 100000000 := fun R f h => by
      obtain ⟨h2, h3⟩ := iY h
      obtain ⟨s1, s2, s3⟩ := f h2
      obtain ⟨n', a', b', cs, e, hl, hc⟩ := fM s1 s2 s3 (.inr h3)
      rw [h3] at e
      refine ⟨n', a', b', cs, e, hl, fun c hm => ?_⟩
      obtain ⟨k', n', a', b', y, e, _, hy, hys⟩ := hc c hm
      exact ⟨k', n', a', b', y, e, hy, hys⟩
    have hlen : ∀ (S : Tree) (l : List Tree) (L : List Tree × Int), (arms1 S l L).2 = 0 → L.2 = 0 ∧ arms1 S l L = L := fun S l L h => by
      unfold arms1 at h ⊢
      split at h
      · cases h
      · rename_i h2; rw [if_neg h2]; exact ⟨h, rfl⟩
    by_cases e16 : k = 147
    · subst e16
      obtain ⟨x, arms, rfl, hne, hx, ha⟩ := lV (p9 rfl)
      obtain ⟨c1, f1⟩ := h0 x (by simp) hx
      have hA := harms arms fun t ht => ⟨by simp [ht], ha t ht⟩
      rw [List.length_cons] at hkl2
      rw [show ofP (.node 147 n a b (x :: arms)) ks ts = case1 (ofP x ks ts) (arms1 (ofP x ks ts).1 arms (ofArms arms (kidsOf (ofP x ks ts).1) (ofP x ks ts).1 ks ts)) by rw [ofP]; rfl]
      refine aCX _ _ _ _ 147 n a b x arms (hwk x (by simp)) (by omega) _ _ (dJ f1) (fun h => ?_) (as_a ks ts x _ 121 (fun h => (f1 h).2.1) c1) fun h => ?_
      · obtain ⟨h2, h3⟩ := hlen _ _ _ h
        rw [h3]
        obtain ⟨g1, g2⟩ := nV ks ts _ arms _ (hweak arms hA) h2
        refine ⟨fun e => hne ?_, by omega, g2⟩
        rw [e] at g1
        exact List.length_eq_zero_iff.1 g1.symm
      · obtain ⟨n', a', b', cs, e, hl, hc⟩ := hsum _ f1 h
        have hR := f1 (iY h).1
        rw [e] at hR ⊢
        exact aCj n' a' b' cs arms ks ts _ hl (by omega) (by omega) hR.2.1 hR.2.2 hc hA
    · have e17 : k = 148 := by omega
      subst e17
      obtain ⟨x, T, arms, rfl, hne, hx, hT, ha⟩ := jY (p10 rfl)
      obtain ⟨c1, f1⟩ := h0 x (by simp) hx
      obtain ⟨c4, f4⟩ := hst T hT
      have hA := harms arms fun t ht => ⟨by simp [ht], ha t ht⟩
      rw [List.length_cons, List.length_cons] at hkl2
      rw [show ofP (.node 148 n a b (x :: T :: arms)) ks ts = fold1 (ofP x ks ts) (starT ks T) (arms1 (ofP x ks ts).1 arms (ofArms arms (kidsOf (ofP x ks ts).1) (starT ks T).1 ks ts)) by rw [ofP]; rfl]
      refine aDo _ _ _ _ 148 n a b x T arms (hwk x (by simp)) (hwk T (by simp)) (by omega) _ _ _ (dJ f1) (dJ f4) (fun h => ?_) (as_a ks ts x _ 121 (fun h => (f1 h).2.1) c1) c4 fun h h4 => ?_
      · obtain ⟨h2, h3⟩ := hlen _ _ _ h
        rw [h3]
        obtain ⟨g1, g2⟩ := nV ks ts _ arms _ (hweak arms hA) h2
        exact ⟨by omega, g2⟩
      · obtain ⟨n', a', b', cs, e, hl, hc⟩ := hsum _ f1 h
        have hR := f4 h4
        rw [e]
        exact aCj n' a' b' cs arms ks ts _ hl (by omega) (by omega) hR.2.1 hR.2.2 hc hA
end Go.Proofs.YtlbemgokilhdnaaGreat.Ab
namespace Go.Proofs.YtlbemgokilhdnaaGreat.Ab
set_option linter.unusedVariables false
set_option linter.unusedSimpArgs false
open Go.RowKit
attribute [local irreducible] AWP AOps AExit AThen ABlock ANoGoto FeetOk
/-- The type of a term in a context, and the error. -/
def TypeP (ks ts : List Tree) (n : Tree) : Tree × Int :=
  if tcheckP n ≠ 0 then (.nil, tcheckP n) else if (ks.any fun K => decide (checkP isKindP K ≠ 0)) = true ∨ (ts.any fun T => decide (starE ks T ≠ 0)) = true then (.nil, 2) else ofP n ks ts
set_option maxHeartbeats 4000000 in
set_option maxRecDepth 10000 in
theorem aDp (K : Tree) (hs : K.size ≤ 100000000) : ACalls Tryz.prog 41 [.imm K.iv] [] (.imm (.lit (.bool (decide (checkP isKindP K ≠ 0))))) [] := by
  have c1 := pZ K hs
  generalize checkP isKindP K = e at *
  generalize K.iv = ki at *
  by_cases h : e = 0
  · subst h
    refine aI Tryz.func41 rfl rfl (nb rfl) rfl ?_
    repeat' (first | refine aF ?_ | (refine aH ?_;  first | refine aC tabOk rfl rfl rfl (nb rfl) rfl ?_ | (refine aJ rfl rfl rfl (nb rfl) rfl rfl rfl (fun hq => ?_) (fun hq => ?_) <;> (first | (simp only [sD, sE, sB, sC, sN, sM, sT, sF] at hq; try (exfalso; omega)) | skip)) | refine aD rfl rfl (nb rfl) rfl rfl rfl rfl (c1) ?_) | (refine aL ?_;  first | refine aG ?_ | refine aN ?_))
    all_goals first
      | exact absurd rfl (by assumption)
      | (refine aP (by first | exact .inl rfl | exact .inr rfl) (aX rfl (aB rfl)) rfl ?_; rfl)
  · rw [show decide (e ≠ 0) = true from decide_eq_true h]
    refine aI Tryz.func41 rfl rfl (nb rfl) rfl ?_
    repeat' (first | refine aF ?_ | (refine aH ?_;  first | refine aC tabOk rfl rfl rfl (nb rfl) rfl ?_ | (refine aJ rfl rfl rfl (nb rfl) rfl rfl rfl (fun hq => ?_) (fun hq => ?_) <;> (first | (simp only [sD, sE, sB, sC, sN, sM, sT, sF] at hq; try (exfalso; omega)) | skip)) | refine aD rfl rfl (nb rfl) rfl rfl rfl rfl (c1) ?_) | (refine aL ?_;  first | refine aG ?_ | refine aN ?_))
    all_goals first
      | exact absurd (by assumption) h
      | (refine aP (by first | exact .inl rfl | exact .inr rfl) (aX rfl (aB rfl)) rfl ?_; rfl)
set_option maxHeartbeats 4000000 in
set_option maxRecDepth 10000 in
theorem aCo (ks : List Tree) (hk : okK ks) (hl : ks.length ≤ 90000) (T : Tree) (hs : T.size ≤ 100000000) :
    ACalls Tryz.prog 43 [.imm T.iv, .obj 1001 0] [(1001, .cells [.imm (.sl false ks.length (Tree.ivs ks))])] (.imm (.lit (.bool (decide (starE ks T ≠ 0))))) [(1001, .cells [.imm (.sl false ks.length (Tree.ivs ks))])] := by
  have c1 := zE (gK false ks) hk (by omega) T hs
  generalize starE ks T = e at *
  generalize T.iv = ti at *
  generalize Tree.ivs ks = KI at *
  generalize ks.length = kl at *
  by_cases h : e = 0
  · subst h
    refine bX [1001] Tryz.func43 rfl rfl (nb rfl) rfl rfl ?_
    repeat' (first | refine aF ?_ | (refine aH ?_;  first | refine aC tabOk rfl rfl rfl (nb rfl) rfl ?_ | (refine aJ rfl rfl rfl (nb rfl) rfl rfl rfl (fun hq => ?_) (fun hq => ?_) <;> (first | (simp only [sD, sE, sB, sC, sN, sM, sT, sF] at hq; try (exfalso; omega)) | skip)) | refine aD rfl rfl (nb rfl) rfl rfl rfl rfl (c1) ?_ | refine bM tabOk rfl rfl rfl (nb rfl) rfl rfl rfl rfl ?_) | (refine aL ?_;  first | refine aG ?_ | refine aN ?_))
    all_goals first
      | exact absurd rfl (by assumption)
      | (refine cC (bZ (by first | exact .inl rfl | exact .inr rfl) (aX rfl (aB rfl)) rfl (by repeat' first | exact trivial | refine ⟨rfl, ?_⟩) rfl ?_); rfl)
  · rw [show decide (e ≠ 0) = true from decide_eq_true h]
    refine bX [1001] Tryz.func43 rfl rfl (nb rfl) rfl rfl ?_
    repeat' (first | refine aF ?_ | (refine aH ?_;  first | refine aC tabOk rfl rfl rfl (nb rfl) rfl ?_ | (refine aJ rfl rfl rfl (nb rfl) rfl rfl rfl (fun hq => ?_) (fun hq => ?_) <;> (first | (simp only [sD, sE, sB, sC, sN, sM, sT, sF] at hq; try (exfalso; omega)) | skip)) | refine aD rfl rfl (nb rfl) rfl rfl rfl rfl (c1) ?_ | refine bM tabOk rfl rfl rfl (nb rfl) rfl rfl rfl rfl ?_) | (refine aL ?_;  first | refine aG ?_ | refine aN ?_))
    all_goals first
      | exact absurd (by assumption) h
      | (refine cC (bZ (by first | exact .inl rfl | exact .inr rfl) (aX rfl (aB rfl)) rfl (by repeat' first | exact trivial | refine ⟨rfl, ?_⟩) rfl ?_); rfl)
theorem jB {t : Tree} (h : tcheckP t = 0) : isTermP t = true ∧ t.whole = true ∧ t.size ≤ 65536 := by
  unfold tcheckP at h
  obtain ⟨h1, h2, h3⟩ := bG h
  exact ⟨h3, h1, h2⟩
theorem aBi {ks : List Tree} {c : Tree} (h : starE ks c = 0) : checkP isConP c = 0 := by
  by_cases h2 : checkP isConP c = 0
  · exact h2
  · have e : KindP ks c = (.nil, checkP isConP c) := by unfold KindP; rw [if_pos h2]
    unfold starE at h
    rw [e] at h
    dsimp only at h
    rw [if_neg fun h3 => h2 h3.1] at h
    exact absurd h h2
set_option maxHeartbeats 8000000 in
set_option maxRecDepth 10000 in
theorem aDb (ks ts : List Tree) (n : Tree) (hn : n.size ≤ 1500) (hkl : ks.length ≤ 80000) (htl : ts.length ≤ 800000) (hk : ∀ K ∈ ks, K.size ≤ 100000000) (ht : ∀ T ∈ ts, T.size ≤ 100000000) :
    ACalls Tryz.prog 18 [.imm (.sl false ks.length (Tree.ivs ks)), .imm (.sl false ts.length (Tree.ivs ts)), .imm n.iv] [] (.imm (.tup [(TypeP ks ts n).1.iv, .lit (.int .i64 (TypeP ks ts n).2)])) [] := by
  have c1 := qK n (by omega)
  unfold TypeP
  by_cases h1 : tcheckP n = 0
  · obtain ⟨w1, w2, _⟩ := jB h1
    have c2 := fH ks 41 (fun K => decide (checkP isKindP K ≠ 0)) (by omega) fun j h => aDp _ (hk _ (List.getElem_mem h))
    rw [h1] at c1
    rw [if_neg (by simpa using h1)]
    cases hb : (ks.any fun K => decide (checkP isKindP K ≠ 0)) with
    | true =>
      rw [hb] at c2
      rw [if_pos (.inl rfl)]
      generalize n.iv = ni at *
      generalize Tree.ivs ks = KI at *
      generalize Tree.ivs ts = TI at *
      clear hk ht
      refine cI Tryz.func18 rfl rfl (nb rfl) rfl ?_
      repeat' (first | refine aF ?_ | (refine aH ?_;  first | refine aC tabOk rfl rfl rfl (nb rfl) rfl ?_ | refine bO rfl rfl (nb rfl) ?_ | (refine aJ rfl rfl rfl (nb rfl) rfl rfl rfl (fun hq => ?_) (fun hq => ?_) <;> (first | (simp only [sD, sE, sB, sC, sN, sM, sT, sF] at hq; try (exfalso; omega)) | skip)) | refine cF 1001 (d := 3) rfl rfl rfl (nb rfl) rfl rfl rfl rfl rfl rfl rfl ?_ | refine aD rfl rfl (nb rfl) rfl rfl rfl rfl (c1) ?_ | refine aD rfl rfl (nb rfl) rfl rfl rfl rfl (c2) ?_ | refine bM tabOk rfl rfl rfl (nb rfl) rfl rfl rfl rfl ?_) | (refine aL ?_;  first | refine aG ?_ | refine aM ?_ | refine aN ?_ | refine aT ?_ | refine aE (b := true) rfl (fun _ => ?_) nTf | refine aE (b := false) rfl nFt (fun _ => ?_)) | (refine aK ?_;  first | refine aU ?_ | refine aO ?_))
      all_goals first | (exfalso; omega) | exact absurd rfl (by assumption) | (refine cK (aP (by first | exact .inl rfl | exact .inr rfl) (aW rfl (aB rfl) (aB rfl)) rfl ?_); rfl)
    | false =>
      rw [hb] at c2
      have hok : okK ks := fun K hK => by
        have h := List.any_eq_false.1 hb K hK
        simpa using h
      have c3 := jE ts 43 (.sl false ks.length (Tree.ivs ks)) (fun T => decide (starE ks T ≠ 0)) (by omega) fun j h => aCo ks hok (by omega) _ (ht _ (List.getElem_mem h))
      cases hl : (ts.any fun T => decide (starE ks T ≠ 0)) with
      | true =>
        rw [hl] at c3
        rw [if_pos (.inr rfl)]
        generalize n.iv = ni at *
        generalize Tree.ivs ks = KI at *
        generalize Tree.ivs ts = TI at *
        clear hk ht hok
        refine cI Tryz.func18 rfl rfl (nb rfl) rfl ?_
        repeat' (first | refine aF ?_ | (refine aH ?_;  first | refine aC tabOk rfl rfl rfl (nb rfl) rfl ?_ | (refine aJ rfl rfl rfl (nb rfl) rfl rfl rfl (fun hq => ?_) (fun hq => ?_) <;> (first | (simp only [sD, sE, sB, sC, sN, sM, sT, sF] at hq; try (exfalso; omega)) | skip)) | refine cF 1001 (d := 3) rfl rfl rfl (nb rfl) rfl rfl rfl rfl rfl rfl rfl ?_ | refine aD rfl rfl (nb rfl) rfl rfl rfl rfl (c1) ?_ | refine aD rfl rfl (nb rfl) rfl rfl rfl rfl (c2) ?_ | refine bW rfl rfl (nb rfl) rfl rfl rfl rfl c3 (by repeat' first | exact trivial | refine ⟨rfl, ?_⟩) rfl (by show ([1001] : List Nat).Nodup; decide) ?_ | refine bM tabOk rfl rfl rfl (nb rfl) rfl rfl rfl rfl ?_) | (refine aL ?_;  first | refine aG ?_ | refine aM ?_ | refine aN ?_ | refine aT ?_ | refine aE (b := true) rfl (fun _ => ?_) nTf | refine aE (b := false) rfl nFt (fun _ => ?_)) | (refine aK ?_;  first | refine aU ?_ | refine aO ?_))
        all_goals first | (exfalso; omega) | exact absurd rfl (by assumption) | (refine cK (aP (by first | exact .inl rfl | exact .inr rfl) (aW rfl (aB rfl) (aB rfl)) rfl ?_); rfl)
      | false =>
        rw [hl] at c3
        rw [if_neg (by simp)]
        have c4 := aCn n ks ts w1 w2 hn hok (by omega) (by omega) fun T hT => by
          have h := List.any_eq_false.1 hl T hT
          exact ⟨(bG (aBi (by simpa using h))).1, ht T hT⟩
        unfold cIV at c4
        generalize ofP n ks ts = Q at *
        obtain ⟨Q1, Q2⟩ := Q
        dsimp only at *
        generalize Q1.iv = qi at *
        generalize n.iv = ni at *
        generalize Tree.ivs ks = KI at *
        generalize Tree.ivs ts = TI at *
        clear hk ht hok
        refine cI Tryz.func18 rfl rfl (nb rfl) rfl ?_
        repeat' (first | refine aF ?_ | (refine aH ?_;  first | refine aC tabOk rfl rfl rfl (nb rfl) rfl ?_ | (refine aJ rfl rfl rfl (nb rfl) rfl rfl rfl (fun hq => ?_) (fun hq => ?_) <;> (first | (simp only [sD, sE, sB, sC, sN, sM, sT, sF] at hq; try (exfalso; omega)) | skip)) | refine cF 1001 (d := 3) rfl rfl rfl (nb rfl) rfl rfl rfl rfl rfl rfl rfl ?_ | refine aD rfl rfl (nb rfl) rfl rfl rfl rfl (c1) ?_ | refine aD rfl rfl (nb rfl) rfl rfl rfl rfl (c2) ?_ | refine bW rfl rfl (nb rfl) rfl rfl rfl rfl c3 (by repeat' first | exact trivial | refine ⟨rfl, ?_⟩) rfl (by show ([1001] : List Nat).Nodup; decide) ?_ | refine aD rfl rfl (nb rfl) rfl rfl rfl rfl (c4) ?_ | refine aV tabOk rfl rfl (nb rfl) rfl ?_ | refine bM tabOk rfl rfl rfl (nb rfl) rfl rfl rfl rfl ?_) | (refine aL ?_;  first | refine aG ?_ | refine aM ?_ | refine aN ?_ | refine aT ?_ | refine aE (b := false) rfl nFt (fun _ => ?_)) | (refine aK ?_;  first | refine aU ?_))
        all_goals first | (exfalso; omega) | exact absurd rfl (by assumption) | (refine cK (aP (by first | exact .inl rfl | exact .inr rfl) (aW rfl (aB rfl) (aB rfl)) rfl ?_); rfl)
  · rw [if_pos h1]
    generalize tcheckP n = e at *
    generalize n.iv = ni at *
    generalize Tree.ivs ks = KI at *
    generalize Tree.ivs ts = TI at *
    clear hk ht
    refine cI Tryz.func18 rfl rfl (nb rfl) rfl ?_
    repeat' (first | refine aF ?_ | (refine aH ?_;  first | refine aC tabOk rfl rfl rfl (nb rfl) rfl ?_ | (refine aJ rfl rfl rfl (nb rfl) rfl rfl rfl (fun hq => ?_) (fun hq => ?_) <;> (first | (simp only [sD, sE, sB, sC, sN, sM, sT, sF] at hq; try (exfalso; omega)) | skip)) | refine cF 1001 (d := 3) rfl rfl rfl (nb rfl) rfl rfl rfl rfl rfl rfl rfl ?_ | refine aD rfl rfl (nb rfl) rfl rfl rfl rfl (c1) ?_) | (refine aL ?_;  first | refine aG ?_ | refine aM ?_ | refine aN ?_ | refine aE (b := true) rfl (fun _ => ?_) nTf) | (refine aK ?_;  first | refine aO ?_))
    all_goals first | (exfalso; omega) | exact absurd rfl (by assumption) | (refine cK (aP (by first | exact .inl rfl | exact .inr rfl) (aW rfl (aB rfl) (aB rfl)) rfl ?_); rfl)
theorem aDy (t : Tree) : t.iv.nz = t.iv := by cases t <;> rw [Tree.iv] <;> rfl
theorem xB {X : IV} {l : List Tree} (h : rowIV X l) : X.nz = .sl false l.length (Tree.ivs l) := by
  rcases h with ⟨f, rfl⟩ | ⟨rfl, rfl⟩
  · cases f <;> rfl
  · rw [Tree.ivs]; rfl
theorem aCp {X Y : IV} {ks ts : List Tree} (hX : rowIV X ks) (hY : rowIV Y ts) (n : Tree) (hn : n.size ≤ 1500) (hkl : ks.length ≤ 80000) (htl : ts.length ≤ 800000) (hk : ∀ K ∈ ks, K.size ≤ 100000000) (ht : ∀ T ∈ ts, T.size ≤ 100000000) :
    ACalls Tryz.prog 18 [.imm X, .imm Y, .imm n.iv] [] (.imm (.tup [(TypeP ks ts n).1.iv, .lit (.int .i64 (TypeP ks ts n).2)])) [] := by
  refine sP ?_
  show ACalls _ _ [.imm X.nz, .imm Y.nz, .imm n.iv.nz] _ _ _
  rw [xB hX, xB hY, aDy]
  exact aDb ks ts n hn hkl htl hk ht
end Go.Proofs.YtlbemgokilhdnaaGreat.Ab
namespace Go.Proofs.YtlbemgokilhdnaaGreat.Ab
set_option linter.unusedVariables false
set_option linter.unusedSimpArgs false
open Go.RowKit
attribute [local irreducible] AWP AOps AExit AThen ABlock ANoGoto FeetOk
theorem tK (l : List CellD) (hff : ∀ c ∈ l, c.f = false) : ∃ t : Tree, t.size ≤ 60 ∧ t.wt ≤ 11160 ∧ (t = .nil ∨ t.whole = true) ∧ ACalls Tryz.prog 12 [.imm (.agg [.sl false l.length (cellIVs l)])] [] (.imm t.iv) [] := by
  obtain ⟨t, h, c⟩ := yI l hff
  rcases h with rfl | ⟨h1, h2, h3⟩
  · exact ⟨_, by simp [Tree.size], by simp [Tree.wt], .inl rfl, c⟩
  · exact ⟨t, h2, h3, .inr h1, c⟩
def varX : Tree := .node 130 0 emptyB emptyB []
theorem aAc : varX.iv = .ptr [.lit (.int .i64 130), .lit (.int .i64 0), .lit (.string ⟨#[]⟩), .lit (.string ⟨#[]⟩), .sl false 0 []] 0 := by
  unfold varX
  rw [Tree.iv, Tree.ivs]
  rfl
theorem pB : tcheckP varX = 0 := by decide +kernel
set_option maxHeartbeats 8000000 in
set_option maxRecDepth 10000 in
theorem aCq (s : Tree) (hs : checkP sformP s = 0) (hp : plainP s = true) (hm : (madeP s varX).size ≤ 60000) : ACalls Tryz.prog 17 [.imm varX.iv, .imm s.iv] [] (.imm (.tup [(madeP s varX).iv, .lit (.int .i64 0)])) [] := by
  have c1 := qK varX (by decide)
  obtain ⟨hws, hzs, _⟩ := bG hs
  have c2 := dV s (by omega)
  have hwx := uJ pB
  have hx1 : varX.size = 1 := rfl
  rw [pB] at c1
  rw [hs] at c2
  have c3 := oZ s hws
  have hsg := eV hs hp
  have hfn := kQ s varX hsg hwx
  have c4 := aBM s varX varX.size 65536 hsg hws hwx (by omega) rfl (by omega) (by omega)
  have c5 := xX varX (by decide) (.inr hwx)
  rw [hp] at c3
  obtain ⟨pm, hpm⟩ := bV (bL hfn.1)
  rw [hpm] at c4 ⊢
  rw [aAc] at *
  generalize varX.size = vs at *
  refine aI Tryz.func17 rfl rfl (nb rfl) rfl ?_
  repeat' (first | refine aF ?_ | (refine aH ?_;  first | refine aC tabOk rfl rfl rfl (nb rfl) rfl ?_ | (refine aJ rfl rfl rfl (nb rfl) rfl rfl rfl (fun hq => ?_) (fun hq => ?_) <;> (first | (simp only [sD, sE, sB, sC, sN, sM, sT, sF] at hq; try (exfalso; omega)) | skip)) | refine aD rfl rfl (nb rfl) rfl rfl rfl rfl (c1) ?_ | refine aD rfl rfl (nb rfl) rfl rfl rfl rfl (c2) ?_ | refine aD rfl rfl (nb rfl) rfl rfl rfl rfl (c3) ?_ | refine aD rfl rfl (nb rfl) rfl rfl rfl rfl (c5) ?_ | refine cN 1000 tabOk rfl rfl rfl (nb rfl) rfl rfl rfl rfl rfl rfl ?_ | refine bW rfl rfl (nb rfl) rfl rfl rfl rfl c4 (by repeat' first | exact trivial | refine ⟨rfl, ?_⟩) rfl (by show ([1000] : List Nat).Nodup; decide) ?_ | refine bK tabOk rfl rfl rfl rfl rfl rfl rfl rfl rfl rfl rfl ?_) | (refine aL ?_;  first | refine aG ?_ | refine aM ?_ | refine aN ?_ | refine aT ?_ | refine aE (b := false) rfl nFt (fun _ => ?_)) | (refine aK ?_;  first | refine aU ?_))
  all_goals first
    | exact absurd rfl (by assumption)
    | (refine aP (by first | exact .inl rfl | exact .inr rfl) (aW rfl (aB rfl) (aB rfl)) rfl ?_; rfl)
/-- The law, in plain words. -/
theorem matched {a b : Tree} (ha : a.size ≤ 60) (hb : b.size ≤ 60) (h1 : (matchP a b).2 = 0) (h2 : (sTransP a).2 = 0) (h3 : (sTransP (matchP a b).1).2 = 0) (h4 : starE [] (sTransP a).1 = 0) :
    (madeP (matchP a b).1 varX).size ≤ 1500 ∧ ((TypeP [] [(sTransP a).1] (madeP (matchP a b).1 varX)).2 = 18 ∨ (TypeP [] [(sTransP a).1] (madeP (matchP a b).1 varX)).2 = 3 ∨ (normalP 1000 (sTransP (matchP a b).1).1).2 ≠ 0 ∨
      TypeP [] [(sTransP a).1] (madeP (matchP a b).1 varX) = normalP 1000 (sTransP (matchP a b).1).1 ∧ (normalP 1000 (sTransP (matchP a b).1).1).2 = 0) := by
  obtain ⟨a1, a2, t1, t2, hsub, hw⟩ := tI hb h1
  generalize (matchP a b).1 = T at *
  have sa := eV a1 a2
  have st := eV t1 t2
  have wa := (bG a1).1
  have wt := (bG t1).1
  obtain ⟨L, l1, l2⟩ := aBd T st wt
  have hx1 : varX.size = 1 := rfl
  have hsz : (madeP T varX).size ≤ 1500 := by
    have h := l2 varX
    rw [hx1] at h
    have h5 : L * (1 + sW T) ≤ 20 * 61 := Nat.mul_le_mul (by omega) (by omega)
    omega
  refine ⟨hsz, ?_⟩
  obtain ⟨_, q1, q2, q3, q4, q5⟩ := kU a h2
  obtain ⟨_, r1, r2, _, _, _⟩ := kU T h3
  have hmt := aBc T varX st (jB pB).1
  have hmw := (kQ T varX st (jB pB).2.1).1
  have htc : tcheckP (madeP T varX) = 0 := by
    unfold tcheckP
    rw [iJ isTermP _ hmw (by omega), if_pos hmt]
  have hT : TypeP [] [(sTransP a).1] (madeP T varX) = ofP (madeP T varX) [] [(sTransP a).1] := by
    unfold TypeP
    rw [if_neg (by simpa using htc), if_neg]
    simp [h4]
  have hv : ofP varX [] [(sTransP a).1] = normalP 1000 (sTransP a).1 := by
    unfold varX
    rw [ofP, if_pos rfl, if_neg (by simp)]
    rfl
  rw [hT]
  by_cases hz : (normalP 1000 (sTransP T).1).2 = 0
  · have hm := aBf [] [(sTransP a).1] T a varX st sa wt wa hsub q1 r1 (fun h => by
      rw [hv] at h ⊢
      rw [q2] at h ⊢
      exact wS h) (by rw [← r2]; exact hz)
    rw [← r2] at hm
    rcases hm with hm | ⟨hm1, hm2⟩
    · exact .inr (.inr (.inr ⟨hm, hz⟩))
    · rw [hm2]
      rw [hv] at hm1 ⊢
      obtain ⟨g1, _, g3⟩ := bG q5
      rw [q2] at hm1 ⊢
      rcases yR 1000 (transP a).1 g3 g1 with h | h | h
      · exact absurd h hm1
      · exact .inr (.inl h)
      · exact .inl h
  · exact .inr (.inr (.inl hz))
set_option maxHeartbeats 16000000 in
set_option maxRecDepth 10000 in
theorem uU (l m : List CellD) (hl : ∀ c ∈ l, c.f = false) (hm : ∀ c ∈ m, c.f = false) : ACalls Tryz.prog 4 [.imm (.agg [.sl false l.length (cellIVs l)]), .imm (.agg [.sl false m.length (cellIVs m)])] [] (.imm (.lit (.bool true))) [] := by
  obtain ⟨a, a1, _, _, d1⟩ := tK l hl
  obtain ⟨b, b1, _, _, d2⟩ := tK m hm
  obtain ⟨X, hX, c1⟩ := aAY a b a1 b1
  have hmk := fun h => tI (a := a) b1 h
  have hlaw := matched a1 b1
  have cTa := zX a (by omega)
  have cTt : (matchP a b).2 = 0 → _ := fun h => zX (matchP a b).1 (by have := (bG (hmk h).2.2.1).2.1; omega)
  have cCo := fun (h : (matchP a b).2 = 0) (hs : (madeP (matchP a b).1 varX).size ≤ 60000) => aCq (matchP a b).1 (hmk h).2.2.1 (hmk h).2.2.2.1 hs
  rw [aAc] at cCo
  have hTy := fun (hs : (madeP (matchP a b).1 varX).size ≤ 1500) (hc : (sTransP a).1.size ≤ 65536) => aCp tB (gK true [(sTransP a).1]) (madeP (matchP a b).1 varX) hs (by decide) (by rw [List.length_singleton]; decide) (fun K h => (List.not_mem_nil h).elim) (fun K h => by rw [List.mem_singleton.1 h]; omega)
  have hfin : (madeP (matchP a b).1 varX).size ≤ 1500 → (TypeP [] [(sTransP a).1] (madeP (matchP a b).1 varX)).2 = 0 → (TypeP [] [(sTransP a).1] (madeP (matchP a b).1 varX)).1.whole = true ∧ (TypeP [] [(sTransP a).1] (madeP (matchP a b).1 varX)).1.size ≤ 100000000 := fun hs h => by
    unfold TypeP at h ⊢
    split at h
    · rename_i h5; exact absurd h h5
    · rename_i h5
      rw [if_neg h5]
      split at h
      · cases h
      · rename_i h6
        rw [if_neg h6]
        obtain ⟨w1, w2, _⟩ := jB (show tcheckP (madeP (matchP a b).1 varX) = 0 by simpa using h5)
        obtain ⟨g1, g2, g3⟩ := wH _ _ _ w1 w2 h
        exact ⟨g2, by omega⟩
  by_cases h1 : (matchP a b).2 = 0
  · replace cTt := cTt h1
    replace cCo := cCo h1
    replace hlaw := hlaw h1
    clear hmk
    have sTa := kU a
    have sTt := kU (matchP a b).1
    have hst := fun (hc : (sTransP a).1.size ≤ 65536) => zE tB (fun K h => (List.not_mem_nil h).elim) (by decide) (sTransP a).1 (by omega)
    have hNo := fun (hc : (sTransP (matchP a b).1).1.size ≤ 65536) => mL (sTransP (matchP a b).1).1 (by omega)
    have hch := fun h => fE (sTransP (matchP a b).1).1 h
    generalize matchP a b = M at *
    obtain ⟨T, M2⟩ := M
    dsimp only at *
    subst h1
    by_cases h2 : (sTransP a).2 = 0
    · obtain ⟨_, _, q2, q3, q4, _⟩ := sTa h2
      rw [← q2] at q3 q4
      replace hlaw := hlaw h2
      replace hTy := fun hs => hTy hs q4
      replace hst := hst q4
      clear sTa q2
      generalize sTransP a = C at *
      obtain ⟨C1, C2⟩ := C
      dsimp only at *
      subst h2
      obtain ⟨pc, hpc⟩ := bV (bL q3)
      rw [show Tree.ivs [C1] = [.ptr pc 0] by rw [Tree.ivs, Tree.ivs, hpc], List.length_singleton] at hTy
      rw [hpc] at cTa hst
      by_cases h3 : (sTransP T).2 = 0
      · obtain ⟨_, _, r2, r3, r4, _⟩ := sTt h3
        rw [← r2] at r3 r4
        replace hlaw := hlaw h3
        replace hNo := hNo r4
        clear sTt r2
        generalize sTransP T = D at *
        obtain ⟨D1, D2⟩ := D
        dsimp only at *
        subst h3
        by_cases h4 : starE [] C1 = 0
        · obtain ⟨hsz, hl4⟩ := hlaw h4
          replace cCo := cCo (by omega)
          replace hTy := hTy hsz
          replace hfin := hfin hsz
          rw [h4] at hst
          generalize TypeP [] [C1] (madeP T varX) = Y at *
          generalize normalP 1000 D1 = Z at *
          generalize (madeP T varX).iv = xi at *
          generalize T.iv = ti at *
          generalize D1.iv = di at *
          generalize a.iv = ai at *
          generalize b.iv = bi at *
          obtain ⟨Y1, Y2⟩ := Y
          obtain ⟨Z1, Z2⟩ := Z
          dsimp only at *
          clear hlaw q3 q4 r3 r4 h4
          rcases hl4 with rfl | rfl | hz | ⟨he, rfl⟩
          · generalize Y1.iv = yi at *
            generalize Z1.iv = zi at *
            clear hfin hch hsz
            rcases hX with rfl | ⟨xn, xl, rfl⟩
            all_goals
              refine aI Tryz.func4 rfl rfl (nb rfl) rfl ?_
              repeat' (first | refine aF ?_ | (refine aH ?_;  first | refine aC tabOk rfl rfl rfl (nb rfl) rfl ?_ | refine bO rfl rfl (nb rfl) ?_ | (refine aJ rfl rfl rfl (nb rfl) rfl rfl rfl (fun hq => ?_) (fun hq => ?_) <;> (first | (simp only [sD, sE, sB, sC, sN, sM, sT, sF] at hq; try (exfalso; omega)) | skip)) | refine aD rfl rfl (nb rfl) rfl rfl rfl rfl (d1) ?_ | refine aD rfl rfl (nb rfl) rfl rfl rfl rfl (d2) ?_ | refine aD rfl rfl (nb rfl) rfl rfl rfl rfl (c1) ?_ | refine aD rfl rfl (nb rfl) rfl rfl rfl rfl (cTa) ?_ | refine aD rfl rfl (nb rfl) rfl rfl rfl rfl (cTt) ?_ | refine aD rfl rfl (nb rfl) rfl rfl rfl rfl (hst) ?_ | refine aD rfl rfl (nb rfl) rfl rfl rfl rfl (cCo) ?_ | refine aD rfl rfl (nb rfl) rfl rfl rfl rfl (hTy) ?_ | refine aD rfl rfl (nb rfl) rfl rfl rfl rfl (hNo) ?_ | refine aD rfl rfl (nb rfl) rfl rfl rfl rfl (eP) ?_ | refine bY tabOk rfl rfl rfl (nb rfl) rfl rfl rfl rfl rfl rfl rfl rfl rfl ?_ | refine aV tabOk rfl rfl (nb rfl) rfl ?_) | (refine aL ?_;  first | refine aG ?_ | refine aM ?_ | refine aN ?_ | refine aT ?_ | refine aE (b := true) rfl (fun _ => ?_) nTf | refine aE (b := false) rfl nFt (fun _ => ?_) | refine aQ mixed (by kernel_rfl) ?_) | (refine aK ?_;  first | refine aU ?_ | refine aO ?_) | refine bD (bB (by kernel_rfl)) ?_)
              all_goals first
                | exact absurd rfl (by assumption)
                | exact cL (by first | exact .inl rfl | exact .inr rfl) (aX rfl (aB rfl)) rfl
          · generalize Y1.iv = yi at *
            generalize Z1.iv = zi at *
            clear hfin hch hsz
            rcases hX with rfl | ⟨xn, xl, rfl⟩
            all_goals
              refine aI Tryz.func4 rfl rfl (nb rfl) rfl ?_
              repeat' (first | refine aF ?_ | (refine aH ?_;  first | refine aC tabOk rfl rfl rfl (nb rfl) rfl ?_ | refine bO rfl rfl (nb rfl) ?_ | (refine aJ rfl rfl rfl (nb rfl) rfl rfl rfl (fun hq => ?_) (fun hq => ?_) <;> (first | (simp only [sD, sE, sB, sC, sN, sM, sT, sF] at hq; try (exfalso; omega)) | skip)) | refine aD rfl rfl (nb rfl) rfl rfl rfl rfl (d1) ?_ | refine aD rfl rfl (nb rfl) rfl rfl rfl rfl (d2) ?_ | refine aD rfl rfl (nb rfl) rfl rfl rfl rfl (c1) ?_ | refine aD rfl rfl (nb rfl) rfl rfl rfl rfl (cTa) ?_ | refine aD rfl rfl (nb rfl) rfl rfl rfl rfl (cTt) ?_ | refine aD rfl rfl (nb rfl) rfl rfl rfl rfl (hst) ?_ | refine aD rfl rfl (nb rfl) rfl rfl rfl rfl (cCo) ?_ | refine aD rfl rfl (nb rfl) rfl rfl rfl rfl (hTy) ?_ | refine aD rfl rfl (nb rfl) rfl rfl rfl rfl (hNo) ?_ | refine aD rfl rfl (nb rfl) rfl rfl rfl rfl (eP) ?_ | refine bY tabOk rfl rfl rfl (nb rfl) rfl rfl rfl rfl rfl rfl rfl rfl rfl ?_ | refine aV tabOk rfl rfl (nb rfl) rfl ?_) | (refine aL ?_;  first | refine aG ?_ | refine aM ?_ | refine aN ?_ | refine aT ?_ | refine aE (b := true) rfl (fun _ => ?_) nTf | refine aE (b := false) rfl nFt (fun _ => ?_) | refine aQ mixed (by kernel_rfl) ?_) | (refine aK ?_;  first | refine aU ?_ | refine aO ?_) | refine bD (bB (by kernel_rfl)) ?_)
              all_goals first
                | exact absurd rfl (by assumption)
                | exact cL (by first | exact .inl rfl | exact .inr rfl) (aX rfl (aB rfl)) rfl
          · generalize Y1.iv = yi at *
            generalize Z1.iv = zi at *
            clear hfin hch hsz
            rcases hX with rfl | ⟨xn, xl, rfl⟩
            all_goals
              refine aI Tryz.func4 rfl rfl (nb rfl) rfl ?_
              repeat' (first | refine aF ?_ | (refine aH ?_;  first | refine aC tabOk rfl rfl rfl (nb rfl) rfl ?_ | refine bO rfl rfl (nb rfl) ?_ | (refine aJ rfl rfl rfl (nb rfl) rfl rfl rfl (fun hq => ?_) (fun hq => ?_) <;> (first | (simp only [sD, sE, sB, sC, sN, sM, sT, sF] at hq; try (exfalso; omega)) | skip)) | refine aD rfl rfl (nb rfl) rfl rfl rfl rfl (d1) ?_ | refine aD rfl rfl (nb rfl) rfl rfl rfl rfl (d2) ?_ | refine aD rfl rfl (nb rfl) rfl rfl rfl rfl (c1) ?_ | refine aD rfl rfl (nb rfl) rfl rfl rfl rfl (cTa) ?_ | refine aD rfl rfl (nb rfl) rfl rfl rfl rfl (cTt) ?_ | refine aD rfl rfl (nb rfl) rfl rfl rfl rfl (hst) ?_ | refine aD rfl rfl (nb rfl) rfl rfl rfl rfl (cCo) ?_ | refine aD rfl rfl (nb rfl) rfl rfl rfl rfl (hTy) ?_ | refine aD rfl rfl (nb rfl) rfl rfl rfl rfl (hNo) ?_ | refine aD rfl rfl (nb rfl) rfl rfl rfl rfl (eP) ?_ | refine bY tabOk rfl rfl rfl (nb rfl) rfl rfl rfl rfl rfl rfl rfl rfl rfl ?_ | refine aV tabOk rfl rfl (nb rfl) rfl ?_) | (refine aL ?_;  first | refine aG ?_ | refine aM ?_ | refine aN ?_ | refine aT ?_ | refine aE (b := true) rfl (fun _ => ?_) nTf | refine aE (b := false) rfl nFt (fun _ => ?_) | refine aQ mixed (by kernel_rfl) ?_) | (refine aK ?_;  first | refine aU ?_ | refine aO ?_) | refine bD (bB (by kernel_rfl)) ?_)
              all_goals first
                | exact absurd rfl (by assumption)
                | exact cL (by first | exact .inl rfl | exact .inr rfl) (aX rfl (aB rfl)) rfl
                | exact absurd (by assumption) hz
          · cases he
            obtain ⟨y1, y2⟩ := hfin rfl
            have cs := gZ Y1 Y1 (.inr y1) (.inr y1) y2 y2
            rw [(kP Y1 Y1).2 rfl] at cs
            generalize Y1.iv = yi at *
            clear hfin hch hsz y1 y2
            rcases hX with rfl | ⟨xn, xl, rfl⟩
            all_goals
              refine aI Tryz.func4 rfl rfl (nb rfl) rfl ?_
              repeat' (first | refine aF ?_ | (refine aH ?_;  first | refine aC tabOk rfl rfl rfl (nb rfl) rfl ?_ | (refine aJ rfl rfl rfl (nb rfl) rfl rfl rfl (fun hq => ?_) (fun hq => ?_) <;> (first | (simp only [sD, sE, sB, sC, sN, sM, sT, sF] at hq; try (exfalso; omega)) | skip)) | refine aD rfl rfl (nb rfl) rfl rfl rfl rfl (d1) ?_ | refine aD rfl rfl (nb rfl) rfl rfl rfl rfl (d2) ?_ | refine aD rfl rfl (nb rfl) rfl rfl rfl rfl (c1) ?_ | refine aD rfl rfl (nb rfl) rfl rfl rfl rfl (cTa) ?_ | refine aD rfl rfl (nb rfl) rfl rfl rfl rfl (cTt) ?_ | refine aD rfl rfl (nb rfl) rfl rfl rfl rfl (hst) ?_ | refine aD rfl rfl (nb rfl) rfl rfl rfl rfl (cCo) ?_ | refine aD rfl rfl (nb rfl) rfl rfl rfl rfl (hTy) ?_ | refine aD rfl rfl (nb rfl) rfl rfl rfl rfl (hNo) ?_ | refine aD rfl rfl (nb rfl) rfl rfl rfl rfl (cs) ?_ | refine aD rfl rfl (nb rfl) rfl rfl rfl rfl (eP) ?_ | refine bY tabOk rfl rfl rfl (nb rfl) rfl rfl rfl rfl rfl rfl rfl rfl rfl ?_ | refine aV tabOk rfl rfl (nb rfl) rfl ?_) | (refine aL ?_;  first | refine aG ?_ | refine aM ?_ | refine aN ?_ | refine aT ?_ | refine aE (b := false) rfl nFt (fun _ => ?_) | refine aQ mixed (by kernel_rfl) ?_) | (refine aK ?_;  first | refine aU ?_) | refine bD (bB (by kernel_rfl)) ?_)
              all_goals first
                | exact absurd rfl (by assumption)
                | exact cL (by first | exact .inl rfl | exact .inr rfl) (aX rfl (aB rfl)) rfl
        · clear hTy hfin hlaw cCo hNo hch q3 q4 r3 r4
          generalize starE [] C1 = se at *
          generalize T.iv = ti at *
          generalize D1.iv = di at *
          generalize a.iv = ai at *
          generalize b.iv = bi at *
          rcases hX with rfl | ⟨xn, xl, rfl⟩
          all_goals
            refine aI Tryz.func4 rfl rfl (nb rfl) rfl ?_
            repeat' (first | refine aF ?_ | (refine aH ?_;  first | refine aC tabOk rfl rfl rfl (nb rfl) rfl ?_ | (refine aJ rfl rfl rfl (nb rfl) rfl rfl rfl (fun hq => ?_) (fun hq => ?_) <;> (first | (simp only [sD, sE, sB, sC, sN, sM, sT, sF] at hq; try (exfalso; omega)) | skip)) | refine aD rfl rfl (nb rfl) rfl rfl rfl rfl (d1) ?_ | refine aD rfl rfl (nb rfl) rfl rfl rfl rfl (d2) ?_ | refine aD rfl rfl (nb rfl) rfl rfl rfl rfl (c1) ?_ | refine aD rfl rfl (nb rfl) rfl rfl rfl rfl (cTa) ?_ | refine aD rfl rfl (nb rfl) rfl rfl rfl rfl (cTt) ?_ | refine aD rfl rfl (nb rfl) rfl rfl rfl rfl (hst) ?_ | refine aD rfl rfl (nb rfl) rfl rfl rfl rfl (eP) ?_ | refine aV tabOk rfl rfl (nb rfl) rfl ?_) | (refine aL ?_;  first | refine aG ?_ | refine aM ?_ | refine aN ?_ | refine aT ?_ | refine aE (b := true) rfl (fun _ => ?_) nTf | refine aE (b := false) rfl nFt (fun _ => ?_) | refine aQ mixed (by kernel_rfl) ?_) | (refine aK ?_;  first | refine aU ?_ | refine aO ?_) | refine bD (bB (by kernel_rfl)) ?_)
            all_goals first
              | exact absurd rfl (by assumption)
              | exact cL (by first | exact .inl rfl | exact .inr rfl) (aX rfl (aB rfl)) rfl
              | exact absurd (by assumption) h4
      · clear hTy hfin hlaw cCo hNo hch q3 q4 sTt hst
        generalize sTransP T = D at *
        obtain ⟨D1, D2⟩ := D
        dsimp only at *
        generalize T.iv = ti at *
        generalize D1.iv = di at *
        generalize a.iv = ai at *
        generalize b.iv = bi at *
        rcases hX with rfl | ⟨xn, xl, rfl⟩
        all_goals
          refine aI Tryz.func4 rfl rfl (nb rfl) rfl ?_
          repeat' (first | refine aF ?_ | (refine aH ?_;  first | refine aC tabOk rfl rfl rfl (nb rfl) rfl ?_ | refine bO rfl rfl (nb rfl) ?_ | (refine aJ rfl rfl rfl (nb rfl) rfl rfl rfl (fun hq => ?_) (fun hq => ?_) <;> (first | (simp only [sD, sE, sB, sC, sN, sM, sT, sF] at hq; try (exfalso; omega)) | skip)) | refine aD rfl rfl (nb rfl) rfl rfl rfl rfl (d1) ?_ | refine aD rfl rfl (nb rfl) rfl rfl rfl rfl (d2) ?_ | refine aD rfl rfl (nb rfl) rfl rfl rfl rfl (c1) ?_ | refine aD rfl rfl (nb rfl) rfl rfl rfl rfl (cTa) ?_ | refine aD rfl rfl (nb rfl) rfl rfl rfl rfl (cTt) ?_ | refine aD rfl rfl (nb rfl) rfl rfl rfl rfl (eP) ?_ | refine aV tabOk rfl rfl (nb rfl) rfl ?_) | (refine aL ?_;  first | refine aG ?_ | refine aM ?_ | refine aN ?_ | refine aT ?_ | refine aE (b := true) rfl (fun _ => ?_) nTf | refine aE (b := false) rfl nFt (fun _ => ?_) | refine aQ mixed (by kernel_rfl) ?_) | (refine aK ?_;  first | refine aU ?_ | refine aO ?_) | refine bD (bB (by kernel_rfl)) ?_)
          all_goals first
            | exact absurd rfl (by assumption)
            | exact cL (by first | exact .inl rfl | exact .inr rfl) (aX rfl (aB rfl)) rfl
            | exact absurd (by assumption) h3
    · clear hTy hfin hlaw cCo hNo hch sTt hst sTa
      generalize sTransP T = D at *
      obtain ⟨D1, D2⟩ := D
      generalize sTransP a = C at *
      obtain ⟨C1, C2⟩ := C
      dsimp only at *
      generalize T.iv = ti at *
      generalize D1.iv = di at *
      generalize C1.iv = ci at *
      generalize a.iv = ai at *
      generalize b.iv = bi at *
      rcases hX with rfl | ⟨xn, xl, rfl⟩
      all_goals
        refine aI Tryz.func4 rfl rfl (nb rfl) rfl ?_
        repeat' (first | refine aF ?_ | (refine aH ?_;  first | refine aC tabOk rfl rfl rfl (nb rfl) rfl ?_ | refine bO rfl rfl (nb rfl) ?_ | (refine aJ rfl rfl rfl (nb rfl) rfl rfl rfl (fun hq => ?_) (fun hq => ?_) <;> (first | (simp only [sD, sE, sB, sC, sN, sM, sT, sF] at hq; try (exfalso; omega)) | skip)) | refine aD rfl rfl (nb rfl) rfl rfl rfl rfl (d1) ?_ | refine aD rfl rfl (nb rfl) rfl rfl rfl rfl (d2) ?_ | refine aD rfl rfl (nb rfl) rfl rfl rfl rfl (c1) ?_ | refine aD rfl rfl (nb rfl) rfl rfl rfl rfl (cTa) ?_ | refine aD rfl rfl (nb rfl) rfl rfl rfl rfl (cTt) ?_ | refine aD rfl rfl (nb rfl) rfl rfl rfl rfl (eP) ?_ | refine aV tabOk rfl rfl (nb rfl) rfl ?_) | (refine aL ?_;  first | refine aG ?_ | refine aM ?_ | refine aN ?_ | refine aT ?_ | refine aE (b := true) rfl (fun _ => ?_) nTf | refine aE (b := false) rfl nFt (fun _ => ?_) | refine aQ mixed (by kernel_rfl) ?_) | (refine aK ?_;  first | refine aU ?_ | refine aO ?_) | refine bD (bB (by kernel_rfl)) ?_)
        all_goals first
          | exact absurd rfl (by assumption)
          | exact cL (by first | exact .inl rfl | exact .inr rfl) (aX rfl (aB rfl)) rfl
          | exact absurd (by assumption) h2
  · clear hTy hfin hlaw cCo hmk cTt cTa
    generalize matchP a b = M at *
    obtain ⟨T, M2⟩ := M
    dsimp only at *
    generalize T.iv = ti at *
    generalize a.iv = ai at *
    generalize b.iv = bi at *
    rcases hX with rfl | ⟨xn, xl, rfl⟩
    all_goals
      refine aI Tryz.func4 rfl rfl (nb rfl) rfl ?_
      repeat' (first | refine aF ?_ | (refine aH ?_;  first | refine aC tabOk rfl rfl rfl (nb rfl) rfl ?_ | (refine aJ rfl rfl rfl (nb rfl) rfl rfl rfl (fun hq => ?_) (fun hq => ?_) <;> (first | (simp only [sD, sE, sB, sC, sN, sM, sT, sF] at hq; try (exfalso; omega)) | skip)) | refine aD rfl rfl (nb rfl) rfl rfl rfl rfl (d1) ?_ | refine aD rfl rfl (nb rfl) rfl rfl rfl rfl (d2) ?_ | refine aD rfl rfl (nb rfl) rfl rfl rfl rfl (c1) ?_ | refine aD rfl rfl (nb rfl) rfl rfl rfl rfl (eP) ?_ | refine aV tabOk rfl rfl (nb rfl) rfl ?_) | (refine aL ?_;  first | refine aG ?_ | refine aM ?_ | refine aN ?_ | refine aE (b := true) rfl (fun _ => ?_) nTf | refine aQ mixed (by kernel_rfl) ?_) | (refine aK ?_;  first | refine aU ?_ | refine aO ?_) | refine bD (bB (by kernel_rfl)) ?_)
      all_goals first
        | exact absurd rfl (by assumption)
        | exact cL (by first | exact .inl rfl | exact .inr rfl) (aX rfl (aB rfl)) rfl
        | exact absurd (by assumption) h1
theorem MatchTyped_law (xs : List IV) (h : FitsAll [tyTree, tyTree] xs) : ACalls Tryz.prog 4 (xs.map .imm) [] (.imm (.lit (.bool true))) [] := by
  cases h with
  | cons h1 h =>
    cases h with
    | cons h2 h =>
      cases h
      obtain ⟨l, rfl, hl⟩ := sX h1
      obtain ⟨m, rfl, hm⟩ := sX h2
      exact uU l m hl hm
end Go.Proofs.YtlbemgokilhdnaaGreat.Ab
