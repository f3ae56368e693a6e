/- Words, walks and laws under the claim's statement: what it uses of them. No condition of its own. -/
import Derived.Test.YtocaohipfiapkaaGreatDoorTKL2
import Derived.Test.YtocaohipfiapkaaGreatDoorTKL1
import Derived.Test.YtocaohipfiapkaaGreatDoorTKP0
import Derived.Lib.ValidLaws
import Derived.Lib.MapLaws
import Derived.Lib.DecodeN
import Derived.Test.YtocaohipfiapkaaGreatDoorTKS0
import Derived.WalkKit
import Derived.WalkMore
import Derived.WalkSpells
import Derived.Below
import Derived.Outline
import Derived.Deep.LoopGhost
import Derived.Deep.DeepCutAuto
import Derived.Laws.RangeAny
import Derived.Lib.OthersKept
import Derived.Lib.Hide
import Derived.Deep.QuietTactic
import Derived.BigQuiet
import Derived.Lib.SlicesS
import Derived.WalkLawsBesides
import Derived.OneCell
import Derived.Lib.SplitLaws
import Derived.Lib.CutLaws
import Derived.Lib.IndexLaws
import Derived.Test.YtocaohipfiapkaaGreatDoorTKAb1
namespace Go.Proofs.YtocaohipfiapkaaGreatDoor.Ab
set_option linter.unusedVariables false
set_option linter.unusedSimpArgs false
open Go.RowKit
mutual
/-- What is for some type is not too large. -/
def exS : Tree → Prop
  | .nil => True
  | .node k n a b kids => (k = 118 → (Tree.node k n a b kids).size ≤ 65536) ∧ exSs kids
termination_by structural x => x
def exSs : List Tree → Prop
  | [] => True
  | t :: ts => exS t ∧ exSs ts
termination_by structural x => x
end
theorem kE : ∀ l : List Tree, exSs l ↔ ∀ t ∈ l, exS t
  | [] => by rw [exSs]; simp
  | t :: ts => by rw [exSs, kE ts]; simp
theorem kX (t : Tree) : t.size ≤ 65536 → exS t := by
  induction t using Tree.sind with
  | h t ih =>
    intro h
    cases t with
    | nil => rw [exS]; trivial
    | node k n a b kids =>
      rw [exS]
      refine ⟨fun _ => h, (kE kids).2 fun t ht => ?_⟩
      have hs := bN (k := k) (n := n) (a := a) (b := b) ht
      have e : (Tree.node k n a b kids).size = Tree.sizes kids + 1 := by simp only [Tree.size]; omega
      have := cU ht
      exact ih t (by omega) (by omega)
theorem rR {t : Tree} (h : exS t) : ∀ u ∈ kidsOf t, exS u := by
  cases t with
  | nil => intro u hu; exact absurd hu (by rw [kidsOf]; simp)
  | node k n a b kids => rw [exS] at h; rw [kidsOf]; exact (kE kids).1 h.2
theorem nD : exS .nil := by rw [exS]; trivial
theorem aCM {t : Tree} (h : exS t) : exS (kid0 t) := by
  cases t with
  | nil => exact nD
  | node k n a b kids =>
    cases kids with
    | nil => exact nD
    | cons u l => exact rR h u (by rw [kidsOf]; simp)
theorem aCN {t : Tree} (h : exS t) : exS (kid1 t) := by
  cases t with
  | nil => exact nD
  | node k n a b kids =>
    match kids with
    | [] => exact nD
    | [_] => exact nD
    | u :: v :: l => exact rR h v (by rw [kidsOf]; simp)
theorem vC {k : Int} {l : List Tree} (hk : k ≠ 118) (h : ∀ t ∈ l, exS t) : exS (tyT k l) := by
  unfold tyT
  rw [exS]
  exact ⟨fun e => absurd e hk, (kE l).2 h⟩
def fineE (R : Tree × Int) : Prop := R.2 = 0 → exS R.1
theorem bV {t : Tree} {e : Int} (h : e ≠ 0) : fineE (t, e) := fun h0 => absurd h0 h
theorem iG {f : Tree → Bool} {R : Tree × Int} (h : R.2 = 0 → checkP f R.1 = 0) : fineE R := fun h0 => by
  obtain ⟨h1, h2, h3⟩ := bI (h h0)
  exact kX _ h2
theorem aDL (t : Tree) : ∀ ks ts : List Tree, isTermP t = true → t.whole = true → fineE (ofP t ks ts) := by
  induction t using Tree.sind with
  | h t ih =>
    intro ks ts hf hw
    obtain ⟨k, n, a, b, kids, rfl⟩ := bY hw
    obtain ⟨p0, p1, p2, p3, p4, p5, p6, p7, p8, p9, p10, pk⟩ := mB hf
    have hwk : ∀ t ∈ kids, t.whole = true := fun t h => bF hw h
    have hsz : (Tree.node k n a b kids).size = Tree.sizes kids + 1 := by simp only [Tree.size]; omega
    have hin : ∀ t ∈ kids, t.size ≤ Tree.sizes kids := fun t h => cU h
    have hk' : ∀ x ∈ kids, isTermP x = true → ∀ ks ts, fineE (ofP x ks ts) := fun x hx h ks ts => ih x (by have := hin x hx; omega) ks ts h (hwk x hx)
    have hleaf : ∀ k : Int, k = 111 ∨ k = 112 ∨ k = 113 → fineE (tyT k [], 0) := fun k h _ => vC (by omega) fun t ht => absurd ht (by simp)
    rw [ofP]
    by_cases e0 : k = 130
    · rw [if_pos e0]
      split
      · exact bV (by decide)
      · exact iG (gR _)
    rw [if_neg e0]
    by_cases e1 : k = 131
    · rw [if_pos e1]; exact hleaf _ (.inl rfl)
    rw [if_neg e1]
    by_cases e2 : k = 132
    · rw [if_pos e2]; exact hleaf _ (.inr (.inl rfl))
    rw [if_neg e2]
    by_cases e3 : k = 133
    · rw [if_pos e3]; exact hleaf _ (.inr (.inr rfl))
    rw [if_neg e3]
    by_cases e4 : k = 139
    · rw [if_pos e4]
      obtain ⟨K, x, rfl, hK, hx⟩ := lY (p1 e4)
      obtain ⟨wK, sK, fK⟩ := bI hK
      have h1 := hk' x (by simp) hx (K :: ks) (shiftsP ts).1
      rw [ofTLam]
      unfold tlam1
      split
      · rename_i h; exact bV h
      · split
        · rename_i h; exact bV h
        · rename_i h2
          intro _
          have h3 := h1 (by simpa using h2)
          refine vC (by decide) fun t ht => ?_
          rcases List.mem_cons.1 ht with rfl | ht
          · exact kX _ sK
          · rw [List.mem_singleton.1 ht]; exact h3
    rw [if_neg e4]
    by_cases e5 : k = 143
    · rw [if_pos e5]
      obtain ⟨x, y, rfl, hx, hy⟩ := dH (p3 (by omega))
      have h2 := hk' y (by simp) hy ks ((ofP x ks ts).1 :: ts)
      rw [ofLet]
      unfold let1
      split
      · rename_i h; exact bV h
      · exact h2
    rw [if_neg e5]
    by_cases e6 : k = 134
    · rw [if_pos e6]
      obtain ⟨T, y, rfl, hT, hy⟩ := fD (p2 (by omega))
      have h2 := hk' y (by simp) hy ks ((starT ks T).1 :: ts)
      rw [ofLam]
      unfold lamT1
      split
      · rename_i h; exact bV h
      · rename_i h1
        split
        · rename_i h; exact bV h
        · rename_i h4
          intro _
          have h5 := h2 (by simpa using h4)
          obtain ⟨f1, f2, f3⟩ := bI (eF ks T (by simpa using h1))
          refine vC (by decide) fun t ht => ?_
          rcases List.mem_cons.1 ht with rfl | ht
          · exact kX _ f2
          · rw [List.mem_singleton.1 ht]; exact h5
    rw [if_neg e6]
    by_cases e7 : k = 135
    · rw [if_pos e7]
      obtain ⟨x, y, rfl, hx, hy⟩ := dH (p3 (by omega))
      have h1 := hk' x (by simp) hx ks ts
      rw [ofApp]
      unfold appT1
      split
      · rename_i h; exact bV h
      · rename_i h3
        split
        · rename_i h; exact bV h
        · split
          · exact bV (by decide)
          · intro _
            exact aCN (h1 (by simpa using h3))
    rw [if_neg e7]
    by_cases e8 : k = 136
    · rw [if_pos e8]
      obtain ⟨q1, q2⟩ := p4 e8
      have key : ∀ l : List Tree, (∀ t ∈ l, t ∈ kids) → (ofRec l ks ts).2 = 0 → ∀ u ∈ (ofRec l ks ts).1, exS u := by
        intro l
        induction l with
        | nil => intro _ _; rw [ofRec]; exact fun u h => (List.not_mem_nil h).elim
        | cons t l ih2 =>
          intro hm h
          rw [ofRec] at h ⊢
          obtain ⟨h1, h2, h3⟩ := gK h
          have g1 := ih2 (fun t ht => hm t (by simp [ht])) h2
          have hmt := hm t (by simp)
          obtain ⟨a', x, rfl, hx, hl⟩ := q1 t hmt
          have sx := bN (k := 137) (n := 0) (a := a') (b := emptyB) (kids := [x]) (t := x) (by simp)
          have hi := ih x (by have := hin _ hmt; omega) ks ts hx (bF (hwk _ hmt) (by simp))
          have e : ofField (.node 137 0 a' emptyB [x]) ks ts = field1 a' (ofP x ks ts) := by rw [ofField, ofH]
          rw [e] at h1 h3 ⊢
          rw [h3]
          unfold field1 at h1 ⊢
          split at h1
          · rename_i h4; exact absurd h1 h4
          · rename_i h4
            rw [if_neg h4]
            have f1 := hi (by simpa using h4)
            intro u hu
            rcases List.mem_cons.1 hu with rfl | hu
            · rw [exS]
              exact ⟨fun e => absurd e (by decide), (kE _).2 fun t ht => by rw [List.mem_singleton.1 ht]; exact f1⟩
            · exact g1 u hu
      unfold rec1
      split
      · rename_i h; exact bV h
      · rename_i h
        intro _
        exact vC (by decide) (key kids (fun _ h => h) (by simpa using h))
    rw [if_neg e8]
    by_cases e9 : k = 138
    · rw [if_pos e9]
      obtain ⟨x, rfl, hx⟩ := kW (p5 e9)
      have h1 := hk' x (by simp) hx ks ts
      rw [ofH]
      unfold proj1
      split
      · rename_i h; exact bV h
      · rename_i h
        obtain ⟨h2, h3⟩ := iU (by simpa using h)
        have g1 := h1 h2
        unfold part1
        split
        · exact bV (by decide)
        · rename_i p hp
          intro _
          obtain ⟨t, ht, rfl⟩ := oA hp
          exact aCM (rR g1 t ht)
    rw [if_neg e9]
    by_cases e10 : k = 140
    · rw [if_pos e10]
      obtain ⟨x, C, rfl, hx, hC⟩ := lZ (p6 e10)
      rw [ofTApp]
      unfold tapp1
      split
      · rename_i h; exact bV h
      · split
        · rename_i h; exact bV h
        · split
          · exact bV (by decide)
          · exact iG (kC _ _)
    rw [if_neg e10]
    by_cases e11 : k = 141
    · rw [if_pos e11]
      obtain ⟨C, x, T, rfl, hC, hx, hT⟩ := jY (p7 e11)
      rw [ofPack]
      unfold pack1
      split
      · rename_i h; exact bV h
      · rename_i h1
        split
        · rename_i h; exact bV h
        · split
          · rename_i h; exact bV h
          · split
            · exact bV (by decide)
            · unfold alike1
              split
              · rename_i h; exact bV h
              · split
                · exact bV (by decide)
                · exact iG (fun _ => eF ks T (by simpa using h1))
    rw [if_neg e11]
    by_cases e12 : k = 142
    · rw [if_pos e12]
      obtain ⟨x, y, rfl, hx, hy⟩ := dH (p3 (by omega))
      rw [ofUnpack]
      unfold unpack1
      split
      · rename_i h; exact bV h
      · split
        · rename_i h; exact bV h
        · split
          · rename_i h; exact bV h
          · split
            · exact bV (by decide)
            · intro h0
              obtain ⟨g1, g2, g3⟩ := eC _ _ _ h0
              have g4 := bI g3
              exact kX _ (by omega)
    rw [if_neg e12]
    by_cases e13 : k = 144
    · rw [if_pos e13]
      obtain ⟨x, y, z, rfl, hx, hy, hz2⟩ := jZ (p8 e13)
      have h1 := hk' y (by simp) hy ks ts
      rw [ofIf]
      unfold choice1
      split
      · rename_i h; exact bV h
      · split
        · rename_i h; exact bV h
        · rename_i h2
          split
          · rename_i h; exact bV h
          · split
            · exact bV (by decide)
            · intro _
              exact h1 (by simpa using h2)
    rw [if_neg e13]
    by_cases e14 : k = 145
    · rw [if_pos e14]
      obtain ⟨x, y, rfl, hx, hy⟩ := dH (p3 (by omega))
      rw [ofOp]
      unfold op1
      split
      · rename_i h; exact bV h
      · split
        · rename_i h; exact bV h
        · split
          · exact bV (by decide)
          · split
            · exact hleaf _ (.inl rfl)
            · exact hleaf _ (.inr (.inl rfl))
    rw [if_neg e14]
    by_cases e15 : k = 146
    · rw [if_pos e15]
      obtain ⟨T, x, rfl, hT, hx⟩ := fD (p2 (by omega))
      rw [ofIn]
      unfold in1
      split
      · rename_i h; exact bV h
      · rename_i h1
        split
        · rename_i h; exact bV h
        · split
          · exact bV (by decide)
          · cases partP (kidsOf (starT ks T).1) a with
            | none => exact bV (by decide)
            | some p =>
              rw [in2]
              unfold alike1
              split
              · rename_i h; exact bV h
              · split
                · exact bV (by decide)
                · exact iG (fun _ => eF ks T (by simpa using h1))
    rw [if_neg e15]
    by_cases e16 : k = 147
    · rw [if_pos e16]
      obtain ⟨x, arms, rfl, hne, hx, ha⟩ := mA (p9 e16)
      rw [ofCase]
      unfold case1
      split
      · rename_i h; exact bV h
      · split
        · rename_i h; exact bV h
        · rename_i h1
          have h0 : (arms1 (ofP x ks ts).1 arms (ofArms arms (kidsOf (ofP x ks ts).1) (ofP x ks ts).1 ks ts)).2 = 0 := by simpa using h1
          unfold arms1 at h0 ⊢
          split at h0
          · cases h0
          · rename_i h3
            rw [if_neg h3]
            unfold alikeP
            split
            · exact bV (by decide)
            · intro _
              cases arms with
              | nil => exact absurd rfl hne
              | cons t l =>
                rw [ofArms] at h0 ⊢
                unfold arm1 at h0 ⊢
                split at h0
                · rename_i h5; exact absurd h0 h5
                · rename_i h5
                  rw [if_neg h5]
                  obtain ⟨h6, h7, h8⟩ := gK h0
                  rw [h8]
                  have hmt : t ∈ x :: t :: l := by simp
                  obtain ⟨a', y, rfl, hy, hl⟩ := ha t (by simp)
                  have sx := bN (k := 149) (n := 0) (a := a') (b := emptyB) (kids := [y]) (t := y) (by simp)
                  have h9 := hin _ hmt
                  rw [ofArm, ofH] at h6 ⊢
                  exact ih y (by omega) _ _ hy (bF (hwk _ hmt) (by simp)) h6
    · rw [if_neg e16]
      have e17 : k = 148 := by omega
      obtain ⟨x, T, arms, rfl, hne, hx, hT, ha⟩ := kB (p10 e17)
      rw [ofFold]
      unfold fold1
      split
      · rename_i h; exact bV h
      · split
        · rename_i h; exact bV h
        · rename_i h1
          split
          · rename_i h; exact bV h
          · unfold alikeP
            split
            · exact bV (by decide)
            · exact iG (fun _ => eF ks T (by simpa using h1))
end Go.Proofs.YtocaohipfiapkaaGreatDoor.Ab
namespace Go.Proofs.YtocaohipfiapkaaGreatDoor.Ab
set_option linter.unusedVariables false
set_option linter.unusedSimpArgs false
open Go.RowKit
attribute [local irreducible] AWP AOps AExit AThen ABlock ANoGoto FeetOk
/-- Types that are trees, not too large. -/
def okT (ts : List Tree) : Prop := ∀ T ∈ ts, T.whole = true ∧ T.size ≤ 100000000
section
variable (kl tl : Nat) (KI TI : List IV)
set_option maxHeartbeats 8000000 in
set_option maxRecDepth 10000 in
theorem aDM (n : Int) (a b : ByteArray) (kids : List Tree) (ts : List Tree) (hts : okT ts) (hn : 0 ≤ n) :
    ACalls Tryz.prog 45 [.imm (.agg [.sl false kl KI, .sl false ts.length (Tree.ivs ts)]), .imm (Tree.iv (.node 130 n a b kids))] [] (.imm (.tup [(if n ≥ (ts.length : Int) then (.nil, 8) else normalP 1000 (ts.getD n.toNat .nil)).1.iv, .lit (.int .i64 (if n ≥ (ts.length : Int) then (.nil, 8) else normalP 1000 (ts.getD n.toNat .nil)).2)])) [] := by
  obtain ⟨j, rfl⟩ := Int.eq_ofNat_of_zero_le hn
  rw [Tree.iv]
  generalize Tree.ivs kids = Z at *
  by_cases h : j < ts.length
  · rw [if_neg (show ¬ ((j : Int) ≥ (ts.length : Int)) by omega)]
    have e : ts.getD (j : Int).toNat .nil = ts[j] := by rw [Int.toNat_natCast, List.getD_eq_getElem?_getD, List.getElem?_eq_getElem h]; rfl
    rw [e]
    have hget := cC ts j h
    have c1 := qV ts[j] (hts _ (List.getElem_mem h)).2
    generalize normalP 1000 ts[j] = Q at *
    obtain ⟨Q1, Q2⟩ := Q
    dsimp only at *
    generalize Q1.iv = qi at *
    generalize ts[j].iv = ti at *
    generalize Tree.ivs ts = TI at *
    clear hts e
    refine aH Tryz.func45 rfl rfl (nb rfl) rfl ?_
    repeat' (first | refine aE ?_ | (refine aG ?_;  first | refine aB tabOk rfl rfl rfl (nb rfl) rfl ?_ | (refine aI rfl rfl rfl (nb rfl) rfl rfl rfl (fun hq => ?_) (fun hq => ?_) <;> (first | (simp only [sD, sE, sB, sC, sN, sM, sT, sF] at hq; try (exfalso; omega)) | skip)) | refine bA tabOk rfl rfl rfl (nb rfl) rfl rfl rfl hget ?_ | refine aD rfl rfl (nb rfl) rfl rfl rfl rfl (c1) ?_ | refine aT tabOk rfl rfl (nb rfl) rfl ?_ | refine bB tabOk rfl rfl rfl (nb rfl) rfl rfl rfl rfl (by first | assumption | omega) ?_) | (refine aK ?_;  first | refine aF ?_ | refine aL ?_ | refine aR ?_ | refine aM ?_ | refine aS ?_ | refine aC (b := true) rfl (fun _ => ?_) nTf | refine aC (b := false) rfl nFt (fun _ => ?_) | refine aQ mixed (by kernel_rfl) ?_) | (refine aJ ?_;  first | refine aU ?_ | refine aN ?_) | (refine aP ?_;  first | refine aX ?_) | refine bC (aZ (by kernel_rfl)) ?_)
    all_goals first | (exfalso; omega) | exact absurd rfl (by assumption) | (refine aO (by first | exact .inl rfl | exact .inr rfl) (aV rfl (aA rfl) (aA rfl)) rfl ?_; rfl)
  · rw [if_pos (show (j : Int) ≥ (ts.length : Int) by omega)]
    generalize Tree.ivs ts = TI at *
    clear hts
    generalize ts.length = tl at *
    refine aH Tryz.func45 rfl rfl (nb rfl) rfl ?_
    repeat' (first | refine aE ?_ | (refine aG ?_;  first | refine aB tabOk rfl rfl rfl (nb rfl) rfl ?_ | (refine aI rfl rfl rfl (nb rfl) rfl rfl rfl (fun hq => ?_) (fun hq => ?_) <;> (first | (simp only [sD, sE, sB, sC, sN, sM, sT, sF] at hq; try (exfalso; omega)) | skip)) | refine aT tabOk rfl rfl (nb rfl) rfl ?_) | (refine aK ?_;  first | refine aF ?_ | refine aL ?_ | refine aR ?_ | refine aM ?_ | refine aC (b := true) rfl (fun _ => ?_) nTf | refine aQ mixed (by kernel_rfl) ?_) | (refine aJ ?_;  first | refine aU ?_ | refine aN ?_) | (refine aP ?_;  first | refine aX ?_) | refine bC (aZ (by kernel_rfl)) ?_)
    all_goals first | (exfalso; omega) | exact absurd rfl (by assumption) | (refine aO (by first | exact .inl rfl | exact .inr rfl) (aV rfl (aA rfl) (aA rfl)) rfl ?_; rfl)
set_option maxHeartbeats 8000000 in
set_option maxRecDepth 10000 in
theorem vD (k c : Int) (hk : k = 131 ∧ c = 111 ∨ k = 132 ∧ c = 112 ∨ k = 133 ∧ c = 113) (n : Int) (a b : ByteArray) (kids : List Tree) :
    ACalls Tryz.prog 45 [.imm (IV.agg [.sl false kl KI, .sl false tl TI]), .imm (Tree.iv (.node k n a b kids))] [] (.imm (.tup [(tyT c []).iv, .lit (.int .i64 0)])) [] := by
  have c1 := zI c
  rw [Tree.iv]
  generalize Tree.ivs kids = Z at *
  generalize (tyT c []).iv = ti at *
  rcases hk with ⟨rfl, rfl⟩ | ⟨rfl, rfl⟩ | ⟨rfl, rfl⟩
  · refine aH Tryz.func45 rfl rfl (nb rfl) rfl ?_
    repeat' (first | refine aE ?_ | (refine aG ?_;  first | refine aB tabOk rfl rfl rfl (nb rfl) rfl ?_ | (refine aI rfl rfl rfl (nb rfl) rfl rfl rfl (fun hq => ?_) (fun hq => ?_) <;> (first | (simp only [sD, sE, sB, sC, sN, sM, sT, sF] at hq; try (exfalso; omega)) | skip)) | refine aD rfl rfl (nb rfl) rfl rfl rfl rfl (c1) ?_ | refine aT tabOk rfl rfl (nb rfl) rfl ?_) | (refine aK ?_;  first | refine aF ?_ | refine aL ?_ | refine aR ?_ | refine aM ?_ | refine aC (b := true) rfl (fun _ => ?_) nTf | refine aC (b := false) rfl nFt (fun _ => ?_)) | (refine aJ ?_;  first | refine aN ?_) | (refine aP ?_;  first | refine aX ?_))
    all_goals first | (exfalso; omega) | exact absurd rfl (by assumption) | (refine aO (by first | exact .inl rfl | exact .inr rfl) (aV rfl (aA rfl) (aA rfl)) rfl ?_; rfl)
  · refine aH Tryz.func45 rfl rfl (nb rfl) rfl ?_
    repeat' (first | refine aE ?_ | (refine aG ?_;  first | refine aB tabOk rfl rfl rfl (nb rfl) rfl ?_ | (refine aI rfl rfl rfl (nb rfl) rfl rfl rfl (fun hq => ?_) (fun hq => ?_) <;> (first | (simp only [sD, sE, sB, sC, sN, sM, sT, sF] at hq; try (exfalso; omega)) | skip)) | refine aD rfl rfl (nb rfl) rfl rfl rfl rfl (c1) ?_ | refine aT tabOk rfl rfl (nb rfl) rfl ?_) | (refine aK ?_;  first | refine aF ?_ | refine aL ?_ | refine aR ?_ | refine aM ?_ | refine aC (b := true) rfl (fun _ => ?_) nTf | refine aC (b := false) rfl nFt (fun _ => ?_)) | (refine aJ ?_;  first | refine aN ?_) | (refine aP ?_;  first | refine aX ?_))
    all_goals first | (exfalso; omega) | exact absurd rfl (by assumption) | (refine aO (by first | exact .inl rfl | exact .inr rfl) (aV rfl (aA rfl) (aA rfl)) rfl ?_; rfl)
  · refine aH Tryz.func45 rfl rfl (nb rfl) rfl ?_
    repeat' (first | refine aE ?_ | (refine aG ?_;  first | refine aB tabOk rfl rfl rfl (nb rfl) rfl ?_ | (refine aI rfl rfl rfl (nb rfl) rfl rfl rfl (fun hq => ?_) (fun hq => ?_) <;> (first | (simp only [sD, sE, sB, sC, sN, sM, sT, sF] at hq; try (exfalso; omega)) | skip)) | refine aD rfl rfl (nb rfl) rfl rfl rfl rfl (c1) ?_ | refine aT tabOk rfl rfl (nb rfl) rfl ?_) | (refine aK ?_;  first | refine aF ?_ | refine aL ?_ | refine aR ?_ | refine aM ?_ | refine aC (b := true) rfl (fun _ => ?_) nTf | refine aC (b := false) rfl nFt (fun _ => ?_)) | (refine aJ ?_;  first | refine aN ?_) | (refine aP ?_;  first | refine aX ?_))
    all_goals first | (exfalso; omega) | exact absurd rfl (by assumption) | (refine aO (by first | exact .inl rfl | exact .inr rfl) (aV rfl (aA rfl) (aA rfl)) rfl ?_; rfl)
set_option maxHeartbeats 8000000 in
set_option maxRecDepth 10000 in
theorem aDN (C2 : IV) (n : Int) (a b : ByteArray) (x y : Tree) (hx : x.whole = true) (hy : y.whole = true) (A B : Tree × Int)
    (c1 : ACalls Tryz.prog 45 [.imm (IV.agg [.sl false kl KI, .sl false tl TI]), .imm x.iv] [] (.imm (.tup [(A).1.iv, .lit (.int .i64 (A).2)])) [])
    (c2 : A.2 = 0 → ACalls Tryz.prog 75 [.imm (IV.agg [.sl false kl KI, .sl false tl TI]), .imm A.1.iv] [] (.imm C2) [])
    (c3 : A.2 = 0 → ACalls Tryz.prog 45 [.imm C2, .imm y.iv] [] (.imm (.tup [(B).1.iv, .lit (.int .i64 (B).2)])) []) :
    ACalls Tryz.prog 45 [.imm (IV.agg [.sl false kl KI, .sl false tl TI]), .imm (Tree.iv (.node 143 n a b [x, y]))] [] (.imm (.tup [(let1 A B).1.iv, .lit (.int .i64 (let1 A B).2)])) [] := by
  obtain ⟨px, hpx⟩ := bR (bJ hx)
  obtain ⟨py, hpy⟩ := bR (bJ hy)
  rw [dQ 143 n a b hpx hpy]
  rw [hpx] at c1
  rw [hpy] at c3
  unfold let1
  obtain ⟨A1, A2⟩ := A
  obtain ⟨B1, B2⟩ := B
  dsimp only at *
  by_cases h1 : A2 = 0
  · replace c2 := c2 h1
    replace c3 := c3 h1
    subst h1
    rw [if_neg (by simp)]
    dsimp only
    generalize A1.iv = ai at *
    generalize B1.iv = bi at *
    refine aH Tryz.func45 rfl rfl (nb rfl) rfl ?_
    repeat' (first | refine aE ?_ | (refine aG ?_;  first | refine aB tabOk rfl rfl rfl (nb rfl) rfl ?_ | (refine aI rfl rfl rfl (nb rfl) rfl rfl rfl (fun hq => ?_) (fun hq => ?_) <;> (first | (simp only [sD, sE, sB, sC, sN, sM, sT, sF] at hq; try (exfalso; omega)) | skip)) | refine aD rfl rfl (nb rfl) rfl rfl rfl rfl (c1) ?_ | refine aD rfl rfl (nb rfl) rfl rfl rfl rfl (c2) ?_ | refine aD rfl rfl (nb rfl) rfl rfl rfl rfl (c3) ?_ | refine aT tabOk rfl rfl (nb rfl) rfl ?_ | refine aY tabOk rfl rfl rfl (nb rfl) rfl rfl rfl rfl (by first | rfl | omega) (by first | omega | simp) ?_) | (refine aK ?_;  first | refine aF ?_ | refine aL ?_ | refine aR ?_ | refine aM ?_ | refine aS ?_ | refine aC (b := true) rfl (fun _ => ?_) nTf | refine aC (b := false) rfl nFt (fun _ => ?_) | refine aQ mixed (by kernel_rfl) ?_) | (refine aJ ?_;  first | refine aU ?_ | refine aN ?_) | (refine aP ?_;  first | refine aX ?_) | refine bC (aZ (by kernel_rfl)) ?_)
    all_goals first | (exfalso; omega) | exact absurd rfl (by assumption) | (refine aO (by first | exact .inl rfl | exact .inr rfl) (aV rfl (aA rfl) (aA rfl)) rfl ?_; rfl)
  · rw [if_pos h1]
    generalize A1.iv = ai at *
    clear c2 c3
    refine aH Tryz.func45 rfl rfl (nb rfl) rfl ?_
    repeat' (first | refine aE ?_ | (refine aG ?_;  first | refine aB tabOk rfl rfl rfl (nb rfl) rfl ?_ | (refine aI rfl rfl rfl (nb rfl) rfl rfl rfl (fun hq => ?_) (fun hq => ?_) <;> (first | (simp only [sD, sE, sB, sC, sN, sM, sT, sF] at hq; try (exfalso; omega)) | skip)) | refine aD rfl rfl (nb rfl) rfl rfl rfl rfl (c1) ?_ | refine aT tabOk rfl rfl (nb rfl) rfl ?_ | refine aY tabOk rfl rfl rfl (nb rfl) rfl rfl rfl rfl (by first | rfl | omega) (by first | omega | simp) ?_) | (refine aK ?_;  first | refine aF ?_ | refine aL ?_ | refine aR ?_ | refine aM ?_ | refine aC (b := true) rfl (fun _ => ?_) nTf | refine aC (b := false) rfl nFt (fun _ => ?_) | refine aQ mixed (by kernel_rfl) ?_) | (refine aJ ?_;  first | refine aU ?_ | refine aN ?_) | (refine aP ?_;  first | refine aX ?_) | refine bC (aZ (by kernel_rfl)) ?_)
    all_goals first | (exfalso; omega) | exact absurd rfl (by assumption) | (refine aO (by first | exact .inl rfl | exact .inr rfl) (aV rfl (aA rfl) (aA rfl)) rfl ?_; rfl)
set_option maxHeartbeats 8000000 in
set_option maxRecDepth 10000 in
theorem aCO (k n : Int) (a b : ByteArray) (kids : List Tree) (hk : k ≠ 130 ∧ k ≠ 131 ∧ k ≠ 132 ∧ k ≠ 133 ∧ k ≠ 139 ∧ k ≠ 143) (R : Tree × Int)
    (c2 : ACalls Tryz.prog (ruleF k) [.imm (IV.agg [.sl false kl KI, .sl false tl TI]), .imm (Tree.iv (.node k n a b kids))] [] (.imm (.tup [(R).1.iv, .lit (.int .i64 (R).2)])) []) :
    ACalls Tryz.prog 45 [.imm (IV.agg [.sl false kl KI, .sl false tl TI]), .imm (Tree.iv (.node k n a b kids))] [] (.imm (.tup [(R).1.iv, .lit (.int .i64 (R).2)])) [] := by
  have c1 := aEi k n a b kids
  generalize ruleF k = F at *
  generalize R.1.iv = ri at *
  rw [Tree.iv] at *
  generalize Tree.ivs kids = Z at *
  refine aH Tryz.func45 rfl rfl (nb rfl) rfl ?_
  repeat' (first | refine aE ?_ | (refine aG ?_;  first | refine aB tabOk rfl rfl rfl (nb rfl) rfl ?_ | (refine aI rfl rfl rfl (nb rfl) rfl rfl rfl (fun hq => ?_) (fun hq => ?_) <;> (first | (simp only [sD, sE, sB, sC, sN, sM, sT, sF] at hq; try (exfalso; omega)) | skip)) | refine aD rfl rfl (nb rfl) rfl rfl rfl rfl (c1) ?_ | refine aD rfl rfl (nb rfl) rfl rfl rfl rfl (c2) ?_ | refine aT tabOk rfl rfl (nb rfl) rfl ?_) | (refine aK ?_;  first | refine aF ?_ | refine aL ?_ | refine aR ?_ | refine aM ?_ | refine aS ?_ | refine aC (b := false) rfl nFt (fun _ => ?_) | refine aQ mixed (by kernel_rfl) ?_) | (refine aJ ?_;  first | refine aU ?_) | (refine aP ?_;  first | refine bM ?_) | refine bC (aZ (by kernel_rfl)) ?_)
  all_goals first | (exfalso; omega) | exact absurd rfl (by assumption) | (refine aO (by first | exact .inl rfl | exact .inr rfl) (aV rfl (aA rfl) (aA rfl)) rfl ?_; rfl)
set_option maxHeartbeats 8000000 in
set_option maxRecDepth 10000 in
theorem xA (kl2 tl2 : Nat) (KI2 TI2 : List IV) (n : Int) (a b : ByteArray) (K x : Tree) (hK : K.whole = true) (hx : x.whole = true) (e : Int) (B : Tree × Int) (fB : fineW B)
    (c2 : ACalls Tryz.prog 74 [.imm (IV.agg [.sl false kl KI, .sl false tl TI]), .imm K.iv] [] (.imm (.tup [(IV.agg [.sl false kl2 KI2, .sl false tl2 TI2]), .lit (.int .i64 e)])) [])
    (c4 : e = 0 → ACalls Tryz.prog 45 [.imm (IV.agg [.sl false kl2 KI2, .sl false tl2 TI2]), .imm x.iv] [] (.imm (.tup [(B).1.iv, .lit (.int .i64 (B).2)])) []) :
    ACalls Tryz.prog 45 [.imm (IV.agg [.sl false kl KI, .sl false tl TI]), .imm (Tree.iv (.node 139 n a b [K, x]))] [] (.imm (.tup [(tlam1 K e B).1.iv, .lit (.int .i64 (tlam1 K e B).2)])) [] := by
  obtain ⟨px, hpx⟩ := bR (bJ hx)
  obtain ⟨pK, hpK⟩ := bR (bJ hK)
  rw [dQ 139 n a b hpK hpx]
  rw [hpK] at c2
  rw [hpx] at c4
  unfold tlam1
  obtain ⟨B1, B2⟩ := B
  unfold fineW at fB
  dsimp only at *
  by_cases h2 : e = 0
  · replace c4 := c4 h2
    subst h2
    rw [if_neg (by simp)]
    by_cases h3 : B2 = 0
    · obtain ⟨b1, b2⟩ := fB h3
      obtain ⟨pb, hpb⟩ := bR (bJ b1)
      have c5 := aCG 117 pK pb true
      subst h3
      rw [if_neg (by simp), vA 117 hpK hpb]
      rw [hpb] at c4
      clear fB b1 b2
      refine aH Tryz.func45 rfl rfl (nb rfl) rfl ?_
      refine cP (eH 6 (by simp) rfl rfl) ?_
      repeat' (first | refine aE ?_ | (refine aG ?_;  first | refine aB tabOk rfl rfl rfl (nb rfl) rfl ?_ | (refine aI rfl rfl rfl (nb rfl) rfl rfl rfl (fun hq => ?_) (fun hq => ?_) <;> (first | (simp only [sD, sE, sB, sC, sN, sM, sT, sF] at hq; try (exfalso; omega)) | skip)) | refine eB 6 (d := 6) tabOk rfl rfl rfl (nb rfl) rfl rfl rfl rfl ?_ | refine aD rfl rfl (nb rfl) rfl rfl rfl rfl (c2) ?_ | refine aD rfl rfl (nb rfl) rfl rfl rfl rfl (c4) ?_ | refine aD rfl rfl (nb rfl) rfl rfl rfl rfl (c5) ?_ | refine bS tabOk rfl rfl rfl (nb rfl) rfl rfl rfl rfl rfl rfl rfl rfl rfl ?_ | refine aT tabOk rfl rfl (nb rfl) rfl ?_ | refine bK tabOk rfl rfl rfl (nb rfl) rfl rfl rfl rfl ?_ | refine bG tabOk rfl rfl rfl rfl rfl rfl rfl rfl rfl rfl rfl ?_ | refine aY tabOk rfl rfl rfl (nb rfl) rfl rfl rfl rfl (by first | rfl | omega) (by first | omega | simp) ?_) | (refine aK ?_;  first | refine aF ?_ | refine aL ?_ | refine aR ?_ | refine aM ?_ | refine aS ?_ | refine aC (b := true) rfl (fun _ => ?_) nTf | refine aC (b := false) rfl nFt (fun _ => ?_) | refine aQ mixed (by kernel_rfl) ?_) | (refine aJ ?_;  first | refine aU ?_ | refine aN ?_) | (refine aP ?_;  first | refine aX ?_) | refine bC (aZ (by kernel_rfl)) ?_)
      all_goals first | (exfalso; omega) | exact absurd rfl (by assumption) | (refine aO (by first | exact .inl rfl | exact .inr rfl) (aV rfl (aA rfl) (aA rfl)) rfl ?_; rfl)
    · rw [if_pos h3]
      generalize B1.iv = bi at *
      clear fB
      refine aH Tryz.func45 rfl rfl (nb rfl) rfl ?_
      refine cP (eH 6 (by simp) rfl rfl) ?_
      repeat' (first | refine aE ?_ | (refine aG ?_;  first | refine aB tabOk rfl rfl rfl (nb rfl) rfl ?_ | (refine aI rfl rfl rfl (nb rfl) rfl rfl rfl (fun hq => ?_) (fun hq => ?_) <;> (first | (simp only [sD, sE, sB, sC, sN, sM, sT, sF] at hq; try (exfalso; omega)) | skip)) | refine eB 6 (d := 6) tabOk rfl rfl rfl (nb rfl) rfl rfl rfl rfl ?_ | refine aD rfl rfl (nb rfl) rfl rfl rfl rfl (c2) ?_ | refine aD rfl rfl (nb rfl) rfl rfl rfl rfl (c4) ?_ | refine aT tabOk rfl rfl (nb rfl) rfl ?_ | refine bK tabOk rfl rfl rfl (nb rfl) rfl rfl rfl rfl ?_ | refine bG tabOk rfl rfl rfl rfl rfl rfl rfl rfl rfl rfl rfl ?_ | refine aY tabOk rfl rfl rfl (nb rfl) rfl rfl rfl rfl (by first | rfl | omega) (by first | omega | simp) ?_) | (refine aK ?_;  first | refine aF ?_ | refine aL ?_ | refine aR ?_ | refine aM ?_ | refine aS ?_ | refine aC (b := true) rfl (fun _ => ?_) nTf | refine aC (b := false) rfl nFt (fun _ => ?_) | refine aQ mixed (by kernel_rfl) ?_) | (refine aJ ?_;  first | refine aU ?_ | refine aN ?_) | (refine aP ?_;  first | refine aX ?_) | refine bC (aZ (by kernel_rfl)) ?_)
      all_goals first | (exfalso; omega) | exact absurd rfl (by assumption) | (refine aO (by first | exact .inl rfl | exact .inr rfl) (aV rfl (aA rfl) (aA rfl)) rfl ?_; rfl)
  · rw [if_pos h2]
    clear c4 fB
    refine aH Tryz.func45 rfl rfl (nb rfl) rfl ?_
    refine cP (eH 6 (by simp) rfl rfl) ?_
    repeat' (first | refine aE ?_ | (refine aG ?_;  first | refine aB tabOk rfl rfl rfl (nb rfl) rfl ?_ | (refine aI rfl rfl rfl (nb rfl) rfl rfl rfl (fun hq => ?_) (fun hq => ?_) <;> (first | (simp only [sD, sE, sB, sC, sN, sM, sT, sF] at hq; try (exfalso; omega)) | skip)) | refine eB 6 (d := 6) tabOk rfl rfl rfl (nb rfl) rfl rfl rfl rfl ?_ | refine aD rfl rfl (nb rfl) rfl rfl rfl rfl (c2) ?_ | refine aT tabOk rfl rfl (nb rfl) rfl ?_ | refine bG tabOk rfl rfl rfl rfl rfl rfl rfl rfl rfl rfl rfl ?_ | refine aY tabOk rfl rfl rfl (nb rfl) rfl rfl rfl rfl (by first | rfl | omega) (by first | omega | simp) ?_) | (refine aK ?_;  first | refine aF ?_ | refine aL ?_ | refine aR ?_ | refine aM ?_ | refine aC (b := true) rfl (fun _ => ?_) nTf | refine aC (b := false) rfl nFt (fun _ => ?_) | refine aQ mixed (by kernel_rfl) ?_) | (refine aJ ?_;  first | refine aU ?_ | refine aN ?_) | (refine aP ?_;  first | refine aX ?_) | refine bC (aZ (by kernel_rfl)) ?_)
    all_goals first | (exfalso; omega) | exact absurd rfl (by assumption) | (refine aO (by first | exact .inl rfl | exact .inr rfl) (aV rfl (aA rfl) (aA rfl)) rfl ?_; rfl)
end
end Go.Proofs.YtocaohipfiapkaaGreatDoor.Ab
namespace Go.Proofs.YtocaohipfiapkaaGreatDoor.Ab
set_option linter.unusedVariables false
set_option linter.unusedSimpArgs false
open Go.RowKit
theorem nE {T : Tree} {ts : List Tree} (h1 : T.whole = true) (h2 : T.size ≤ 100000000) (h : okT ts) : okT (T :: ts) := fun U hU => by
  rcases List.mem_cons.1 hU with rfl | hU
  · exact ⟨h1, h2⟩
  · exact h U hU
theorem xB {K : Tree} {ks : List Tree} (h1 : checkP isKindP K = 0) (h : okK ks) : okK (K :: ks) := fun U hU => by
  rcases List.mem_cons.1 hU with rfl | hU
  · exact h1
  · exact h U hU
theorem aBz {R : Tree × Int} (h : R.2 = 0 → checkP isConP R.1 = 0) : fineT R := fun h0 => by
  obtain ⟨h1, h2, h3⟩ := bI (h h0)
  exact ⟨h3, h1, by omega⟩
theorem oD (ks ts : List Tree) (self : Tree) : ∀ l cs : List Tree, (∀ t ∈ l, ∃ a' x, t = .node 149 0 a' emptyB [x] ∧ ∀ T : Tree, T.whole = true → T.size ≤ 100000000 → fineW (ofP x ks (T :: ts))) → (ofArms l cs self ks ts).2 = 0 → (ofArms l cs self ks ts).1.length = l.length ∧ ∀ s ∈ (ofArms l cs self ks ts).1, s.whole = true ∧ s.size ≤ 100000000
  | [], cs, _, _ => by rw [ofArms]; exact ⟨rfl, fun s hs => (List.not_mem_nil hs).elim⟩
  | t :: l, cs, h, h0 => by
    obtain ⟨a', x, rfl, hx⟩ := h t (by simp)
    rw [ofArms] at h0 ⊢
    unfold arm1 at h0 ⊢
    split at h0
    · rename_i h1; exact absurd h0 h1
    · rename_i h1
      rw [if_neg h1]
      obtain ⟨h2, h3, h4⟩ := gK h0
      rw [h4]
      obtain ⟨g1, g2⟩ := oD ks ts self l cs.tail (fun t ht => h t (by simp [ht])) h3
      obtain ⟨_, w1, w2⟩ := fV _ _ (show (filledP (kid0 (cs.headD .nil)) self).2 = 0 by simpa using h1)
      rw [ofArm, ofH] at h2 ⊢
      refine ⟨by rw [List.length_cons, List.length_cons, g1], fun s hs => ?_⟩
      rcases List.mem_cons.1 hs with rfl | hs
      · exact hx _ w1 w2 h2
      · exact g2 s hs
set_option maxHeartbeats 8000000 in
set_option maxRecDepth 10000 in
theorem aCP (t : Tree) : ∀ ks ts : List Tree, isTermP t = true → t.whole = true → t.size ≤ 1500 → okK ks → ks.length + t.size ≤ 90000 → ts.length + t.size ≤ 900000 → okT ts →
    ACalls Tryz.prog 45 [.imm (cIV ks ts), .imm t.iv] [] (.imm (.tup [(ofP t ks ts).1.iv, .lit (.int .i64 (ofP t ks ts).2)])) [] := by
  induction t using Tree.sind with
  | h t ih =>
    intro ks ts hf hw hs hk hkl htl ht
    obtain ⟨k, n, a, b, kids, rfl⟩ := bY hw
    obtain ⟨p0, p1, p2, p3, p4, p5, p6, p7, p8, p9, p10, pk⟩ := mB hf
    have hwk : ∀ t ∈ kids, t.whole = true := fun t h => bF hw h
    have hsz : (Tree.node k n a b kids).size = Tree.sizes kids + 1 := by simp only [Tree.size]; omega
    have hin : ∀ t ∈ kids, t.size ≤ Tree.sizes kids := fun t h => cU h
    have hfin : ∀ x : Tree, x.size ≤ Tree.sizes kids → x.whole = true → isTermP x = true → ∀ ks' ts', fineT (ofP x ks' ts') := fun x hx hw h ks' ts' h0 => by
      obtain ⟨h1, h2, h3⟩ := wU x ks' ts' h hw h0
      exact ⟨h1, h2, by omega⟩
    have hgo : ∀ x : Tree, x.size ≤ Tree.sizes kids → x.whole = true → isTermP x = true → ∀ ks' ts', okK ks' → ks'.length ≤ ks.length + 1 → ts'.length ≤ ts.length + 1 → okT ts' → ACalls Tryz.prog 45 [.imm (cIV ks' ts'), .imm x.iv] [] (.imm (.tup [(ofP x ks' ts').1.iv, .lit (.int .i64 (ofP x ks' ts').2)])) [] :=
      fun x hx hw h ks' ts' h1 h2 h3 h4 => ih x (by omega) ks' ts' h hw (by omega) h1 (by omega) (by omega) h4
    have h0 : ∀ x ∈ kids, isTermP x = true → ACalls Tryz.prog 45 [.imm (cIV ks ts), .imm x.iv] [] (.imm (.tup [(ofP x ks ts).1.iv, .lit (.int .i64 (ofP x ks ts).2)])) [] ∧ fineT (ofP x ks ts) := fun x hx h =>
      ⟨hgo x (hin x hx) (hwk x hx) h ks ts hk (by omega) (by omega) ht, hfin x (hin x hx) (hwk x hx) h ks ts⟩
    have hcs : ∀ C : Tree, checkP isConP C = 0 → C.whole = true ∧ C.size ≤ 100000000 := fun C h => by
      obtain ⟨h1, h2, h3⟩ := bI h
      exact ⟨h1, by omega⟩
    have hst : ∀ T : Tree, checkP isConP T = 0 → ACalls Tryz.prog 122 [.imm (cIV ks ts), .imm T.iv] [] (.imm (.tup [(starT ks T).1.iv, .lit (.int .i64 (starT ks T).2)])) [] ∧ fineT (starT ks T) := fun T h =>
      ⟨aDH ks ts hk (by omega) T (hcs T h).2, aBz (eF ks T)⟩
    have hkd : ∀ C : Tree, checkP isConP C = 0 → ACalls Tryz.prog 12 [.imm (.sl false ks.length (Tree.ivs ks)), .imm C.iv] [] (.imm (.tup [(KindP ks C).1.iv, .lit (.int .i64 (KindP ks C).2)])) [] ∧ fineK 100000000 (KindP ks C) := fun C h =>
      ⟨aCF (iD false ks) hk (by omega) C (hcs C h).2, fun h2 => by
        obtain ⟨g1, g2, g3⟩ := mC ks C hk h2
        exact ⟨g1, g2, by omega⟩⟩
    have hty : ∀ T : Tree, T.whole = true → ACalls Tryz.prog 75 [.imm (cIV ks ts), .imm T.iv] [] (.imm (cIV ks (T :: ts))) [] := fun T hT => aCH ks ts T hT (by omega)
    have hkl2 : kids.length ≤ Tree.sizes kids := cG kids hw
    by_cases e0 : k = 130
    · subst e0
      rw [show ofP (.node 130 n a b kids) ks ts = (if n ≥ (ts.length : Int) then (.nil, 8) else normalP 1000 (ts.getD n.toNat .nil)) by rw [ofP, if_pos rfl]]
      exact aDM ks.length (Tree.ivs ks) n a b kids ts ht (p0 rfl).1
    by_cases e1 : k = 131
    · subst e1
      rw [show ofP (.node 131 n a b kids) ks ts = (tyT 111 [], 0) by rw [ofP]; rfl]
      exact vD _ _ _ _ 131 111 (by decide) n a b kids
    by_cases e2 : k = 132
    · subst e2
      rw [show ofP (.node 132 n a b kids) ks ts = (tyT 112 [], 0) by rw [ofP]; rfl]
      exact vD _ _ _ _ 132 112 (by decide) n a b kids
    by_cases e3 : k = 133
    · subst e3
      rw [show ofP (.node 133 n a b kids) ks ts = (tyT 113 [], 0) by rw [ofP]; rfl]
      exact vD _ _ _ _ 133 113 (by decide) n a b kids
    by_cases e4 : k = 139
    · subst e4
      obtain ⟨K, x, rfl, hK, hx⟩ := lY (p1 rfl)
      have ck := aAs ks ts K (bI hK).1 (by omega) (by omega) fun T hT => ⟨(ht T hT).1, (ht T hT).2⟩
      rw [show ofP (.node 139 n a b [K, x]) ks ts = tlam1 K (shiftsP ts).2 (ofP x (K :: ks) (shiftsP ts).1) by rw [ofP]; rfl]
      have hsf := fU ts
      by_cases he : (shiftsP ts).2 = 0
      · rw [if_neg (by simpa using he)] at ck
        obtain ⟨g1, g2⟩ := hsf he
        exact xA _ _ _ _ _ _ _ _ n a b K x (bI hK).1 (hwk x (by simp)) _ _ (dL (hfin x (hin x (by simp)) (hwk x (by simp)) hx _ _)) ck fun _ =>
          hgo x (hin x (by simp)) (hwk x (by simp)) hx _ _ (xB hK hk) (by rw [List.length_cons]; omega) (by omega) fun T hT => ⟨(g2 T hT).1, by have := (g2 T hT).2; omega⟩
      · rw [if_pos he] at ck
        exact xA _ _ _ _ _ _ _ _ n a b K x (bI hK).1 (hwk x (by simp)) _ _ (dL (hfin x (hin x (by simp)) (hwk x (by simp)) hx _ _)) ck fun h => absurd h he
    by_cases e5 : k = 143
    · subst e5
      obtain ⟨x, y, rfl, hx, hy⟩ := dH (p3 (by decide))
      obtain ⟨c1, f1⟩ := h0 x (by simp) hx
      rw [show ofP (.node 143 n a b [x, y]) ks ts = let1 (ofP x ks ts) (ofP y ks ((ofP x ks ts).1 :: ts)) by rw [ofP]; rfl]
      exact aDN _ _ _ _ (cIV ks ((ofP x ks ts).1 :: ts)) n a b x y (hwk x (by simp)) (hwk y (by simp)) _ _ c1 (fun h => hty _ (f1 h).2.1) fun h =>
        hgo y (hin y (by simp)) (hwk y (by simp)) hy ks _ hk (by omega) (by rw [List.length_cons]; omega) (nE (f1 h).2.1 (f1 h).2.2 ht)
    refine aCO _ _ _ _ k n a b kids ⟨e0, e1, e2, e3, e4, e5⟩ _ ?_
    by_cases e6 : k = 134
    · subst e6
      obtain ⟨T, y, rfl, hT, hy⟩ := fD (p2 (by decide))
      obtain ⟨c1, f1⟩ := hst T hT
      rw [show ofP (.node 134 n a b [T, y]) ks ts = lamT1 (starT ks T) (ofP y ks ((starT ks T).1 :: ts)) by rw [ofP]; rfl]
      exact aEE _ _ _ _ (cIV ks ((starT ks T).1 :: ts)) 134 n a b T y (hwk T (by simp)) (hwk y (by simp)) _ _ (dL f1) (dL (hfin y (hin y (by simp)) (hwk y (by simp)) hy _ _)) c1 (fun h => hty _ (f1 h).2.1) fun h =>
        hgo y (hin y (by simp)) (hwk y (by simp)) hy ks _ hk (by omega) (by rw [List.length_cons]; omega) (nE (f1 h).2.1 (f1 h).2.2 ht)
    by_cases e7 : k = 135
    · subst e7
      obtain ⟨x, y, rfl, hx, hy⟩ := dH (p3 (by decide))
      obtain ⟨c1, f1⟩ := h0 x (by simp) hx
      obtain ⟨c2, f2⟩ := h0 y (by simp) hy
      rw [show ofP (.node 135 n a b [x, y]) ks ts = appT1 (ofP x ks ts) (ofP y ks ts) by rw [ofP]; rfl]
      exact aEF _ _ _ _ 135 n a b x y (hwk x (by simp)) (hwk y (by simp)) _ _ f1 (dL f2) c1 c2
    by_cases e8 : k = 136
    · subst e8
      obtain ⟨q1, q2⟩ := p4 rfl
      rw [show ofP (.node 136 n a b kids) ks ts = rec1 (ofRec kids ks ts) by rw [ofP]; rfl]
      refine aEG _ _ _ _ 136 n a b kids ks ts (by omega) fun t hmt => ?_
      obtain ⟨a', x, rfl, hx, hl⟩ := q1 t hmt
      have sx := bN (k := 137) (n := 0) (a := a') (b := emptyB) (kids := [x]) (t := x) (by simp)
      have hz := hin _ hmt
      have hxw := bF (hwk _ hmt) (show x ∈ [x] by simp)
      exact ⟨a', x, rfl, hxw, dL (hfin x (by omega) hxw hx ks ts), hgo x (by omega) hxw hx ks ts hk (by omega) (by omega) ht⟩
    by_cases e9 : k = 138
    · subst e9
      obtain ⟨x, rfl, hx⟩ := kW (p5 rfl)
      obtain ⟨c1, f1⟩ := h0 x (by simp) hx
      rw [show ofP (.node 138 n a b [x]) ks ts = proj1 a (ofP x ks ts) by rw [ofP]; rfl]
      exact aEj _ _ _ _ 138 n a b x (hwk x (by simp)) _ f1 (as_a ks ts x _ 115 (fun h => (f1 h).2.1) c1)
    by_cases e10 : k = 140
    · subst e10
      obtain ⟨x, C, rfl, hx, hC⟩ := lZ (p6 rfl)
      obtain ⟨c1, f1⟩ := h0 x (by simp) hx
      obtain ⟨c2, f2⟩ := hkd C hC
      rw [show ofP (.node 140 n a b [x, C]) ks ts = tapp1 (ofP x ks ts) (KindP ks C) C by rw [ofP]; rfl]
      exact aEk _ _ _ _ 140 n a b x C (hwk x (by simp)) (hwk C (by simp)) (hcs C hC).2 _ _ f1 f2 c1 c2
    by_cases e11 : k = 141
    · subst e11
      obtain ⟨C, x, T, rfl, hC, hx, hT⟩ := jY (p7 rfl)
      obtain ⟨c1, f1⟩ := hst T hT
      obtain ⟨c2, f2⟩ := hkd C hC
      obtain ⟨c3, f3⟩ := h0 x (by simp) hx
      rw [show ofP (.node 141 n a b [C, x, T]) ks ts = pack1 (starT ks T) (KindP ks C) (ofP x ks ts) C by rw [ofP]; rfl]
      exact aEl _ _ _ _ 141 n a b C x T (hwk C (by simp)) (hwk x (by simp)) (hwk T (by simp)) (hcs C hC).2 _ _ _ f1 f2 (dL f3) c1 c2 c3
    by_cases e12 : k = 142
    · subst e12
      obtain ⟨x, y, rfl, hx, hy⟩ := dH (p3 (by decide))
      obtain ⟨c1, f1⟩ := h0 x (by simp) hx
      rw [show ofP (.node 142 n a b [x, y]) ks ts = unpack1 (ofP x ks ts) (shiftsP ts).2 (ofP y (kid0 (ofP x ks ts).1 :: ks) (kid1 (ofP x ks ts).1 :: (shiftsP ts).1)) by rw [ofP]; rfl]
      have hsf := fU ts
      have hex := aDL x ks ts hx (hwk x (by simp))
      have ca := as_a ks ts x (ofP x ks ts) 118 (fun h => (f1 h).2.1) c1
      have hfy := dL (hfin y (hin y (by simp)) (hwk y (by simp)) hy (kid0 (ofP x ks ts).1 :: ks) (kid1 (ofP x ks ts).1 :: (shiftsP ts).1))
      have hgy := hgo y (hin y (by simp)) (hwk y (by simp)) hy (kid0 (ofP x ks ts).1 :: ks) (kid1 (ofP x ks ts).1 :: (shiftsP ts).1)
      generalize ofP x ks ts = R at *
      have hparts : (asP R 118).2 = 0 → checkP isKindP (kid0 R.1) = 0 ∧ (kid1 R.1).whole = true ∧ (kid1 R.1).size ≤ 100000000 := fun h => by
        obtain ⟨h2, h3⟩ := iU h
        obtain ⟨s1, s2, s3⟩ := f1 h2
        have h4 := hex h2
        obtain ⟨n', a', b', u, v, e, hu, hv, wu, wv, su, sv⟩ := iT s1 s2 s3 (.inr h3)
        rw [h3] at e
        rw [e] at h4 ⊢
        rw [exS] at h4
        have h5 := h4.1 rfl
        have su2 := bN (k := 118) (n := n') (a := a') (b := b') (kids := [u, v]) (t := u) (by simp)
        refine ⟨?_, wv, sv⟩
        show checkP isKindP u = 0
        rw [gB isKindP u wu (by omega), if_pos hu]
      have hck := fun h : (asP R 118).2 = 0 => aAs ks ts (kid0 R.1) (bI (hparts h).1).1 (by omega) (by omega) fun T hT => ⟨(ht T hT).1, (ht T hT).2⟩
      by_cases he : (shiftsP ts).2 = 0
      · obtain ⟨g1, g2⟩ := hsf he
        refine wZ _ _ _ _ (kid0 R.1 :: ks).length (shiftsP ts).1.length (Tree.ivs (kid0 R.1 :: ks)) (Tree.ivs (shiftsP ts).1) (cIV (kid0 R.1 :: ks) (kid1 R.1 :: (shiftsP ts).1)) 142 n a b x y (hwk x (by simp)) (hwk y (by simp)) R _ (shiftsP ts).2 f1 hfy ca (fun h => ?_) (fun h _ => ?_) fun h _ => ?_
        · have := hck h
          rw [if_neg (by simpa using he)] at this
          exact this
        · exact aCH (kid0 R.1 :: ks) (shiftsP ts).1 (kid1 R.1) (hparts h).2.1 (by omega)
        · exact hgy (xB (hparts h).1 hk) (by rw [List.length_cons]; omega) (by rw [List.length_cons]; omega) (nE (hparts h).2.1 (hparts h).2.2 fun T hT => ⟨(g2 T hT).1, by have := (g2 T hT).2; omega⟩)
      · refine wZ _ _ _ _ ks.length ts.length (Tree.ivs ks) (Tree.ivs ts) (cIV [] []) 142 n a b x y (hwk x (by simp)) (hwk y (by simp)) R _ (shiftsP ts).2 f1 hfy ca (fun h => ?_) (fun h h2 => absurd h2 he) fun h h2 => absurd h2 he
        have := hck h
        rw [if_pos he] at this
        exact this
    by_cases e13 : k = 144
    · subst e13
      obtain ⟨x, y, z, rfl, hx, hy, hz⟩ := jZ (p8 rfl)
      obtain ⟨c1, f1⟩ := h0 x (by simp) hx
      obtain ⟨c2, f2⟩ := h0 y (by simp) hy
      obtain ⟨c3, f3⟩ := h0 z (by simp) hz
      rw [show ofP (.node 144 n a b [x, y, z]) ks ts = choice1 (ofP x ks ts) (ofP y ks ts) (ofP z ks ts) by rw [ofP]; rfl]
      exact aCK _ _ _ _ 144 n a b x y z (hwk x (by simp)) (hwk y (by simp)) (hwk z (by simp)) _ _ _ (dL f1) (dL f2) (dL f3) c1 c2 c3
    by_cases e14 : k = 145
    · subst e14
      obtain ⟨x, y, rfl, hx, hy⟩ := dH (p3 (by decide))
      obtain ⟨c1, f1⟩ := h0 x (by simp) hx
      obtain ⟨c2, f2⟩ := h0 y (by simp) hy
      rw [show ofP (.node 145 n a b [x, y]) ks ts = op1 n (ofP x ks ts) (ofP y ks ts) by rw [ofP]; rfl]
      exact op_a _ _ _ _ 145 n a b x y (hwk x (by simp)) (hwk y (by simp)) _ _ (dL f1) (dL f2) c1 c2
    by_cases e15 : k = 146
    · subst e15
      obtain ⟨T, x, rfl, hT, hx⟩ := fD (p2 (by decide))
      obtain ⟨c1, f1⟩ := hst T hT
      obtain ⟨c3, f3⟩ := h0 x (by simp) hx
      rw [show ofP (.node 146 n a b [T, x]) ks ts = in1 a (starT ks T) (ofP x ks ts) by rw [ofP]; rfl]
      exact in_a _ _ _ _ 146 n a b T x (hwk T (by simp)) (hwk x (by simp)) _ _ f1 (dL f3) c1 c3
    have harms : ∀ l : List Tree, (∀ t ∈ l, t ∈ kids ∧ armForm 149 t) → ∀ t ∈ l, ∃ a' x, t = .node 149 0 a' emptyB [x] ∧ x.whole = true ∧ ∀ T : Tree, T.whole = true → T.size ≤ 100000000 → fineW (ofP x ks (T :: ts)) ∧ ACalls Tryz.prog 45 [.imm (cIV ks (T :: ts)), .imm x.iv] [] (.imm (.tup [(ofP x ks (T :: ts)).1.iv, .lit (.int .i64 (ofP x ks (T :: ts)).2)])) [] := fun l h t hmt => by
      obtain ⟨hm, a', x, rfl, hx, _⟩ := h t hmt
      have sx := bN (k := 149) (n := 0) (a := a') (b := emptyB) (kids := [x]) (t := x) (by simp)
      have hz := hin _ hm
      have hxw := bF (hwk _ hm) (show x ∈ [x] by simp)
      exact ⟨a', x, rfl, hxw, fun T h1 h2 => ⟨dL (hfin x (by omega) hxw hx ks _), hgo x (by omega) hxw hx ks _ hk (by omega) (by rw [List.length_cons]; omega) (nE h1 h2 ht)⟩⟩
    have hweak : ∀ l : List Tree, (∀ t ∈ l, ∃ a' x, t = .node 149 0 a' emptyB [x] ∧ x.whole = true ∧ ∀ T : Tree, T.whole = true → T.size ≤ 100000000 → fineW (ofP x ks (T :: ts)) ∧ ACalls Tryz.prog 45 [.imm (cIV ks (T :: ts)), .imm x.iv] [] (.imm (.tup [(ofP x ks (T :: ts)).1.iv, .lit (.int .i64 (ofP x ks (T :: ts)).2)])) []) → ∀ t ∈ l, ∃ a' x, t = .node 149 0 a' emptyB [x] ∧ ∀ T : Tree, T.whole = true → T.size ≤ 100000000 → fineW (ofP x ks (T :: ts)) := fun l h t hmt => by
      obtain ⟨a', x, e, _, h2⟩ := h t hmt
      exact ⟨a', x, e, fun T h3 h4 => (h2 T h3 h4).1⟩
    have hsum : ∀ R : Tree × Int, fineT R → (asP R 121).2 = 0 → ∃ n' a' b' cs, R.1 = .node 121 n' a' b' cs ∧ cs.length ≤ 100000000 ∧ ∀ c ∈ cs, ∃ k' n' a' b' y, c = .node k' n' a' b' [y] ∧ y.whole = true ∧ y.size ≤ 100000000 := fun R f h => by
      obtain ⟨h2, h3⟩ := iU h
      obtain ⟨s1, s2, s3⟩ := f h2
      obtain ⟨n', a', b', cs, e, hl, hc⟩ := fT s1 s2 s3 (.inr h3)
      rw [h3] at e
      refine ⟨n', a', b', cs, e, hl, fun c hm => ?_⟩
      obtain ⟨k', n', a', b', y, e, _, hy, hys⟩ := hc c hm
      exact ⟨k', n', a', b', y, e, hy, hys⟩
    have hlen : ∀ (S : Tree) (l : List Tree) (L : List Tree × Int), (arms1 S l L).2 = 0 → L.2 = 0 ∧ arms1 S l L = L := fun S l L h => by
      unfold arms1 at h ⊢
      split at h
      · cases h
      · rename_i h2; rw [if_neg h2]; exact ⟨h, rfl⟩
    by_cases e16 : k = 147
    · subst e16
      obtain ⟨x, arms, rfl, hne, hx, ha⟩ := mA (p9 rfl)
      obtain ⟨c1, f1⟩ := h0 x (by simp) hx
      have hA := harms arms fun t ht => ⟨by simp [ht], ha t ht⟩
      rw [List.length_cons] at hkl2
      rw [show ofP (.node 147 n a b (x :: arms)) ks ts = case1 (ofP x ks ts) (arms1 (ofP x ks ts).1 arms (ofArms arms (kidsOf (ofP x ks ts).1) (ofP x ks ts).1 ks ts)) by rw [ofP]; rfl]
      refine aDK _ _ _ _ 147 n a b x arms (hwk x (by simp)) (by omega) _ _ (dL f1) (fun h => ?_) (as_a ks ts x _ 121 (fun h => (f1 h).2.1) c1) fun h => ?_
      · obtain ⟨h2, h3⟩ := hlen _ _ _ h
        rw [h3]
        obtain ⟨g1, g2⟩ := oD ks ts _ arms _ (hweak arms hA) h2
        refine ⟨fun e => hne ?_, by omega, g2⟩
        rw [e] at g1
        exact List.length_eq_zero_iff.1 g1.symm
      · obtain ⟨n', a', b', cs, e, hl, hc⟩ := hsum _ f1 h
        have hR := f1 (iU h).1
        rw [e] at hR ⊢
        exact aCL n' a' b' cs arms ks ts _ hl (by omega) (by omega) hR.2.1 hR.2.2 hc hA
    · have e17 : k = 148 := by omega
      subst e17
      obtain ⟨x, T, arms, rfl, hne, hx, hT, ha⟩ := kB (p10 rfl)
      obtain ⟨c1, f1⟩ := h0 x (by simp) hx
      obtain ⟨c4, f4⟩ := hst T hT
      have hA := harms arms fun t ht => ⟨by simp [ht], ha t ht⟩
      rw [List.length_cons, List.length_cons] at hkl2
      rw [show ofP (.node 148 n a b (x :: T :: arms)) ks ts = fold1 (ofP x ks ts) (starT ks T) (arms1 (ofP x ks ts).1 arms (ofArms arms (kidsOf (ofP x ks ts).1) (starT ks T).1 ks ts)) by rw [ofP]; rfl]
      refine aEm _ _ _ _ 148 n a b x T arms (hwk x (by simp)) (hwk T (by simp)) (by omega) _ _ _ (dL f1) (dL f4) (fun h => ?_) (as_a ks ts x _ 121 (fun h => (f1 h).2.1) c1) c4 fun h h4 => ?_
      · obtain ⟨h2, h3⟩ := hlen _ _ _ h
        rw [h3]
        obtain ⟨g1, g2⟩ := oD ks ts _ arms _ (hweak arms hA) h2
        exact ⟨by omega, g2⟩
      · obtain ⟨n', a', b', cs, e, hl, hc⟩ := hsum _ f1 h
        have hR := f4 h4
        rw [e]
        exact aCL n' a' b' cs arms ks ts _ hl (by omega) (by omega) hR.2.1 hR.2.2 hc hA
end Go.Proofs.YtocaohipfiapkaaGreatDoor.Ab
namespace Go.Proofs.YtocaohipfiapkaaGreatDoor.Ab
set_option linter.unusedVariables false
set_option linter.unusedSimpArgs false
open Go.RowKit
attribute [local irreducible] AWP AOps AExit AThen ABlock ANoGoto FeetOk
/-- The type of a term in a context, and the error. -/
def TypeP (ks ts : List Tree) (n : Tree) : Tree × Int :=
  if tcheckP n ≠ 0 then (.nil, tcheckP n) else if (ks.any fun K => decide (checkP isKindP K ≠ 0)) = true ∨ (ts.any fun T => decide (starE ks T ≠ 0)) = true then (.nil, 2) else ofP n ks ts
set_option maxHeartbeats 4000000 in
set_option maxRecDepth 10000 in
theorem aEn (K : Tree) (hs : K.size ≤ 100000000) : ACalls Tryz.prog 42 [.imm K.iv] [] (.imm (.lit (.bool (decide (checkP isKindP K ≠ 0))))) [] := by
  have c1 := qQ K hs
  generalize checkP isKindP K = e at *
  generalize K.iv = ki at *
  by_cases h : e = 0
  · subst h
    refine aH Tryz.func42 rfl rfl (nb rfl) rfl ?_
    repeat' (first | refine aE ?_ | (refine aG ?_;  first | refine aB tabOk rfl rfl rfl (nb rfl) rfl ?_ | (refine aI rfl rfl rfl (nb rfl) rfl rfl rfl (fun hq => ?_) (fun hq => ?_) <;> (first | (simp only [sD, sE, sB, sC, sN, sM, sT, sF] at hq; try (exfalso; omega)) | skip)) | refine aD rfl rfl (nb rfl) rfl rfl rfl rfl (c1) ?_) | (refine aK ?_;  first | refine aF ?_ | refine aM ?_))
    all_goals first
      | exact absurd rfl (by assumption)
      | (refine aO (by first | exact .inl rfl | exact .inr rfl) (aW rfl (aA rfl)) rfl ?_; rfl)
  · rw [show decide (e ≠ 0) = true from decide_eq_true h]
    refine aH Tryz.func42 rfl rfl (nb rfl) rfl ?_
    repeat' (first | refine aE ?_ | (refine aG ?_;  first | refine aB tabOk rfl rfl rfl (nb rfl) rfl ?_ | (refine aI rfl rfl rfl (nb rfl) rfl rfl rfl (fun hq => ?_) (fun hq => ?_) <;> (first | (simp only [sD, sE, sB, sC, sN, sM, sT, sF] at hq; try (exfalso; omega)) | skip)) | refine aD rfl rfl (nb rfl) rfl rfl rfl rfl (c1) ?_) | (refine aK ?_;  first | refine aF ?_ | refine aM ?_))
    all_goals first
      | exact absurd (by assumption) h
      | (refine aO (by first | exact .inl rfl | exact .inr rfl) (aW rfl (aA rfl)) rfl ?_; rfl)
set_option maxHeartbeats 4000000 in
set_option maxRecDepth 10000 in
theorem aCQ (ks : List Tree) (hk : okK ks) (hl : ks.length ≤ 90000) (T : Tree) (hs : T.size ≤ 100000000) :
    ACalls Tryz.prog 43 [.imm T.iv, .obj 1001 0] [(1001, .cells [.imm (.sl false ks.length (Tree.ivs ks))])] (.imm (.lit (.bool (decide (starE ks T ≠ 0))))) [(1001, .cells [.imm (.sl false ks.length (Tree.ivs ks))])] := by
  have c1 := zH (iD false ks) hk (by omega) T hs
  generalize starE ks T = e at *
  generalize T.iv = ti at *
  generalize Tree.ivs ks = KI at *
  generalize ks.length = kl at *
  by_cases h : e = 0
  · subst h
    refine bX [1001] Tryz.func43 rfl rfl (nb rfl) rfl rfl ?_
    repeat' (first | refine aE ?_ | (refine aG ?_;  first | refine aB tabOk rfl rfl rfl (nb rfl) rfl ?_ | (refine aI rfl rfl rfl (nb rfl) rfl rfl rfl (fun hq => ?_) (fun hq => ?_) <;> (first | (simp only [sD, sE, sB, sC, sN, sM, sT, sF] at hq; try (exfalso; omega)) | skip)) | refine aD rfl rfl (nb rfl) rfl rfl rfl rfl (c1) ?_ | refine bK tabOk rfl rfl rfl (nb rfl) rfl rfl rfl rfl ?_) | (refine aK ?_;  first | refine aF ?_ | refine aM ?_))
    all_goals first
      | exact absurd rfl (by assumption)
      | (refine cB (cA (by first | exact .inl rfl | exact .inr rfl) (aW rfl (aA rfl)) rfl (by repeat' first | exact trivial | refine ⟨rfl, ?_⟩) rfl ?_); rfl)
  · rw [show decide (e ≠ 0) = true from decide_eq_true h]
    refine bX [1001] Tryz.func43 rfl rfl (nb rfl) rfl rfl ?_
    repeat' (first | refine aE ?_ | (refine aG ?_;  first | refine aB tabOk rfl rfl rfl (nb rfl) rfl ?_ | (refine aI rfl rfl rfl (nb rfl) rfl rfl rfl (fun hq => ?_) (fun hq => ?_) <;> (first | (simp only [sD, sE, sB, sC, sN, sM, sT, sF] at hq; try (exfalso; omega)) | skip)) | refine aD rfl rfl (nb rfl) rfl rfl rfl rfl (c1) ?_ | refine bK tabOk rfl rfl rfl (nb rfl) rfl rfl rfl rfl ?_) | (refine aK ?_;  first | refine aF ?_ | refine aM ?_))
    all_goals first
      | exact absurd (by assumption) h
      | (refine cB (cA (by first | exact .inl rfl | exact .inr rfl) (aW rfl (aA rfl)) rfl (by repeat' first | exact trivial | refine ⟨rfl, ?_⟩) rfl ?_); rfl)
theorem iW {t : Tree} (h : tcheckP t = 0) : isTermP t = true ∧ t.whole = true ∧ t.size ≤ 65536 := by
  unfold tcheckP at h
  obtain ⟨h1, h2, h3⟩ := bI h
  exact ⟨h3, h1, h2⟩
theorem tV {ks : List Tree} {c : Tree} (h : starE ks c = 0) : checkP isConP c = 0 := by
  by_cases h2 : checkP isConP c = 0
  · exact h2
  · have e : KindP ks c = (.nil, checkP isConP c) := by unfold KindP; rw [if_pos h2]
    unfold starE at h
    rw [e] at h
    dsimp only at h
    rw [if_neg fun h3 => h2 h3.1] at h
    exact absurd h h2
set_option maxHeartbeats 8000000 in
set_option maxRecDepth 10000 in
theorem aDO (ks ts : List Tree) (n : Tree) (hn : n.size ≤ 1500) (hkl : ks.length ≤ 80000) (htl : ts.length ≤ 800000) (hk : ∀ K ∈ ks, K.size ≤ 100000000) (ht : ∀ T ∈ ts, T.size ≤ 100000000) :
    ACalls Tryz.prog 22 [.imm (.sl false ks.length (Tree.ivs ks)), .imm (.sl false ts.length (Tree.ivs ts)), .imm n.iv] [] (.imm (.tup [(TypeP ks ts n).1.iv, .lit (.int .i64 (TypeP ks ts n).2)])) [] := by
  have c1 := yW n (by omega)
  unfold TypeP
  by_cases h1 : tcheckP n = 0
  · obtain ⟨w1, w2, _⟩ := iW h1
    have c2 := jD ks 42 (fun K => decide (checkP isKindP K ≠ 0)) (by omega) fun j h => aEn _ (hk _ (List.getElem_mem h))
    rw [h1] at c1
    rw [if_neg (by simpa using h1)]
    cases hb : (ks.any fun K => decide (checkP isKindP K ≠ 0)) with
    | true =>
      rw [hb] at c2
      rw [if_pos (.inl rfl)]
      generalize n.iv = ni at *
      generalize Tree.ivs ks = KI at *
      generalize Tree.ivs ts = TI at *
      clear hk ht
      refine cK Tryz.func22 rfl rfl (nb rfl) rfl ?_
      repeat' (first | refine aE ?_ | (refine aG ?_;  first | refine aB tabOk rfl rfl rfl (nb rfl) rfl ?_ | refine bL rfl rfl (nb rfl) ?_ | (refine aI rfl rfl rfl (nb rfl) rfl rfl rfl (fun hq => ?_) (fun hq => ?_) <;> (first | (simp only [sD, sE, sB, sC, sN, sM, sT, sF] at hq; try (exfalso; omega)) | skip)) | refine cH 1001 (d := 3) rfl rfl rfl (nb rfl) rfl rfl rfl rfl rfl rfl rfl ?_ | refine aD rfl rfl (nb rfl) rfl rfl rfl rfl (c1) ?_ | refine aD rfl rfl (nb rfl) rfl rfl rfl rfl (c2) ?_ | refine bK tabOk rfl rfl rfl (nb rfl) rfl rfl rfl rfl ?_) | (refine aK ?_;  first | refine aF ?_ | refine aL ?_ | refine aM ?_ | refine aS ?_ | refine aC (b := true) rfl (fun _ => ?_) nTf | refine aC (b := false) rfl nFt (fun _ => ?_)) | (refine aJ ?_;  first | refine aU ?_ | refine aN ?_))
      all_goals first | (exfalso; omega) | exact absurd rfl (by assumption) | (refine cN (aO (by first | exact .inl rfl | exact .inr rfl) (aV rfl (aA rfl) (aA rfl)) rfl ?_); rfl)
    | false =>
      rw [hb] at c2
      have hok : okK ks := fun K hK => by
        have h := List.any_eq_false.1 hb K hK
        simpa using h
      have c3 := jC ts 43 (.sl false ks.length (Tree.ivs ks)) (fun T => decide (starE ks T ≠ 0)) (by omega) fun j h => aCQ ks hok (by omega) _ (ht _ (List.getElem_mem h))
      cases hl : (ts.any fun T => decide (starE ks T ≠ 0)) with
      | true =>
        rw [hl] at c3
        rw [if_pos (.inr rfl)]
        generalize n.iv = ni at *
        generalize Tree.ivs ks = KI at *
        generalize Tree.ivs ts = TI at *
        clear hk ht hok
        refine cK Tryz.func22 rfl rfl (nb rfl) rfl ?_
        repeat' (first | refine aE ?_ | (refine aG ?_;  first | refine aB tabOk rfl rfl rfl (nb rfl) rfl ?_ | (refine aI rfl rfl rfl (nb rfl) rfl rfl rfl (fun hq => ?_) (fun hq => ?_) <;> (first | (simp only [sD, sE, sB, sC, sN, sM, sT, sF] at hq; try (exfalso; omega)) | skip)) | refine cH 1001 (d := 3) rfl rfl rfl (nb rfl) rfl rfl rfl rfl rfl rfl rfl ?_ | refine aD rfl rfl (nb rfl) rfl rfl rfl rfl (c1) ?_ | refine aD rfl rfl (nb rfl) rfl rfl rfl rfl (c2) ?_ | refine bW rfl rfl (nb rfl) rfl rfl rfl rfl c3 (by repeat' first | exact trivial | refine ⟨rfl, ?_⟩) rfl (by show ([1001] : List Nat).Nodup; decide) ?_ | refine bK tabOk rfl rfl rfl (nb rfl) rfl rfl rfl rfl ?_) | (refine aK ?_;  first | refine aF ?_ | refine aL ?_ | refine aM ?_ | refine aS ?_ | refine aC (b := true) rfl (fun _ => ?_) nTf | refine aC (b := false) rfl nFt (fun _ => ?_)) | (refine aJ ?_;  first | refine aU ?_ | refine aN ?_))
        all_goals first | (exfalso; omega) | exact absurd rfl (by assumption) | (refine cN (aO (by first | exact .inl rfl | exact .inr rfl) (aV rfl (aA rfl) (aA rfl)) rfl ?_); rfl)
      | false =>
        rw [hl] at c3
        rw [if_neg (by simp)]
        have c4 := aCP n ks ts w1 w2 hn hok (by omega) (by omega) fun T hT => by
          have h := List.any_eq_false.1 hl T hT
          exact ⟨(bI (tV (by simpa using h))).1, ht T hT⟩
        unfold cIV at c4
        generalize ofP n ks ts = Q at *
        obtain ⟨Q1, Q2⟩ := Q
        dsimp only at *
        generalize Q1.iv = qi at *
        generalize n.iv = ni at *
        generalize Tree.ivs ks = KI at *
        generalize Tree.ivs ts = TI at *
        clear hk ht hok
        refine cK Tryz.func22 rfl rfl (nb rfl) rfl ?_
        repeat' (first | refine aE ?_ | (refine aG ?_;  first | refine aB tabOk rfl rfl rfl (nb rfl) rfl ?_ | (refine aI rfl rfl rfl (nb rfl) rfl rfl rfl (fun hq => ?_) (fun hq => ?_) <;> (first | (simp only [sD, sE, sB, sC, sN, sM, sT, sF] at hq; try (exfalso; omega)) | skip)) | refine cH 1001 (d := 3) rfl rfl rfl (nb rfl) rfl rfl rfl rfl rfl rfl rfl ?_ | refine aD rfl rfl (nb rfl) rfl rfl rfl rfl (c1) ?_ | refine aD rfl rfl (nb rfl) rfl rfl rfl rfl (c2) ?_ | refine bW rfl rfl (nb rfl) rfl rfl rfl rfl c3 (by repeat' first | exact trivial | refine ⟨rfl, ?_⟩) rfl (by show ([1001] : List Nat).Nodup; decide) ?_ | refine aD rfl rfl (nb rfl) rfl rfl rfl rfl (c4) ?_ | refine aT tabOk rfl rfl (nb rfl) rfl ?_ | refine bK tabOk rfl rfl rfl (nb rfl) rfl rfl rfl rfl ?_) | (refine aK ?_;  first | refine aF ?_ | refine aL ?_ | refine aM ?_ | refine aS ?_ | refine aC (b := false) rfl nFt (fun _ => ?_)) | (refine aJ ?_;  first | refine aU ?_))
        all_goals first | (exfalso; omega) | exact absurd rfl (by assumption) | (refine cN (aO (by first | exact .inl rfl | exact .inr rfl) (aV rfl (aA rfl) (aA rfl)) rfl ?_); rfl)
  · rw [if_pos h1]
    generalize tcheckP n = e at *
    generalize n.iv = ni at *
    generalize Tree.ivs ks = KI at *
    generalize Tree.ivs ts = TI at *
    clear hk ht
    refine cK Tryz.func22 rfl rfl (nb rfl) rfl ?_
    repeat' (first | refine aE ?_ | (refine aG ?_;  first | refine aB tabOk rfl rfl rfl (nb rfl) rfl ?_ | (refine aI rfl rfl rfl (nb rfl) rfl rfl rfl (fun hq => ?_) (fun hq => ?_) <;> (first | (simp only [sD, sE, sB, sC, sN, sM, sT, sF] at hq; try (exfalso; omega)) | skip)) | refine cH 1001 (d := 3) rfl rfl rfl (nb rfl) rfl rfl rfl rfl rfl rfl rfl ?_ | refine aD rfl rfl (nb rfl) rfl rfl rfl rfl (c1) ?_) | (refine aK ?_;  first | refine aF ?_ | refine aL ?_ | refine aM ?_ | refine aC (b := true) rfl (fun _ => ?_) nTf) | (refine aJ ?_;  first | refine aN ?_))
    all_goals first | (exfalso; omega) | exact absurd rfl (by assumption) | (refine cN (aO (by first | exact .inl rfl | exact .inr rfl) (aV rfl (aA rfl) (aA rfl)) rfl ?_); rfl)
theorem aEH (t : Tree) : t.iv.nz = t.iv := by cases t <;> rw [Tree.iv] <;> rfl
theorem xC {X : IV} {l : List Tree} (h : rowIV X l) : X.nz = .sl false l.length (Tree.ivs l) := by
  rcases h with ⟨f, rfl⟩ | ⟨rfl, rfl⟩
  · cases f <;> rfl
  · rw [Tree.ivs]; rfl
theorem aCR {X Y : IV} {ks ts : List Tree} (hX : rowIV X ks) (hY : rowIV Y ts) (n : Tree) (hn : n.size ≤ 1500) (hkl : ks.length ≤ 80000) (htl : ts.length ≤ 800000) (hk : ∀ K ∈ ks, K.size ≤ 100000000) (ht : ∀ T ∈ ts, T.size ≤ 100000000) :
    ACalls Tryz.prog 22 [.imm X, .imm Y, .imm n.iv] [] (.imm (.tup [(TypeP ks ts n).1.iv, .lit (.int .i64 (TypeP ks ts n).2)])) [] := by
  refine aBf ?_
  show ACalls _ _ [.imm X.nz, .imm Y.nz, .imm n.iv.nz] _ _ _
  rw [xC hX, xC hY, aEH]
  exact aDO ks ts n hn hkl htl hk ht
set_option maxHeartbeats 4000000 in
set_option maxRecDepth 10000 in
theorem xD (n : Tree) (hn : n.size ≤ 1500) : ACalls Tryz.prog 9 [.imm n.iv] [] (.imm (.tup [(TypeP [] [] n).1.iv, .lit (.int .i64 (TypeP [] [] n).2)])) [] := by
  have c1 := aCR nZ nZ n hn (by decide) (by decide) (fun K h => (List.not_mem_nil h).elim) fun K h => (List.not_mem_nil h).elim
  generalize TypeP [] [] n = Q at *
  obtain ⟨Q1, Q2⟩ := Q
  dsimp only at *
  generalize Q1.iv = qi at *
  generalize n.iv = ni at *
  refine aH Tryz.func9 rfl rfl (nb rfl) rfl ?_
  repeat' (first | refine aE ?_ | (refine aG ?_;  first | refine aB tabOk rfl rfl rfl (nb rfl) rfl ?_ | refine aD rfl rfl (nb rfl) rfl rfl rfl rfl (c1) ?_) | (refine aK ?_;  first | refine aF ?_ | refine aM ?_))
  all_goals first | (exfalso; omega) | exact absurd rfl (by assumption) | (refine aO (by first | exact .inl rfl | exact .inr rfl) (aV rfl (aA rfl) (aA rfl)) rfl ?_; rfl)
end Go.Proofs.YtocaohipfiapkaaGreatDoor.Ab
namespace Go.Proofs.YtocaohipfiapkaaGreatDoor.Ab
set_option linter.unusedVariables false
set_option linter.unusedSimpArgs false
open Go.RowKit
theorem fM {R S : Tree × Int} (h : (star1 R S).2 = 0) : R.2 = 0 ∧ R.1.kind = 100 ∧ S.2 = 0 ∧ star1 R S = S := by
  unfold star1 at h ⊢
  split at h
  · rename_i h1; exact absurd h h1
  · rename_i h1
    split at h
    · cases h
    · rename_i h2
      rw [if_neg h1, if_neg h2]
      exact ⟨by simpa using h1, by simpa using h2, h, rfl⟩
/-- More kinds behind. -/
theorem aBA (ks' : List Tree) (c : Tree) : ∀ ks, isConP c = true → (kindP c ks).2 = 0 → kindP c (ks ++ ks') = kindP c ks := by
  induction c using Tree.sind with
  | h c ih =>
    intro ks hf h
    cases c with
    | nil => rw [isConP] at hf; cases hf
    | node k n a b kids =>
      obtain ⟨q0, q1, q2, q3, q4⟩ := dJ hf
      rw [kindP] at h ⊢
      rw [kindP]
      have hfld : ∀ (kd : Int) (ctx : List Tree) (l : List Tree), (∀ t ∈ l, t ∈ kids) → (∀ t ∈ kids, ∃ n' a' b' c, t = .node kd n' a' b' [c] ∧ isConP c = true) → (starsF l ctx).2 = 0 → starsF l (ctx ++ ks') = starsF l ctx := by
        intro kd ctx l
        induction l with
        | nil => intro _ _ _; rw [starsF, starsF]
        | cons t l ih2 =>
          intro hm hall h0
          rw [starsF] at h0 ⊢
          obtain ⟨g1, g2, g3, g4⟩ := fM h0
          have hmt := hm t (by simp)
          have hz := bN (k := k) (n := n) (a := a) (b := b) hmt
          obtain ⟨n', a', b', c, rfl, hc⟩ := hall t hmt
          have hz2 := bN (k := kd) (n := n') (a := a') (b := b') (kids := [c]) (t := c) (by simp)
          rw [kindF, kindH] at g1 ⊢
          rw [ih c (by omega) ctx hc g1, ih2 (fun t ht => hm t (by simp [ht])) hall g3]
          rw [starsF, kindF, kindH]
      by_cases k0 : k = 110
      · rw [if_pos k0] at h ⊢
        rw [if_pos k0]
        obtain ⟨n0, _, _⟩ := q0 k0
        by_cases hn : n ≥ (ks.length : Int)
        · rw [if_pos hn] at h; cases h
        · rw [if_neg hn, if_neg (by rw [List.length_append]; omega), List.getD_eq_getElem?_getD, List.getElem?_append_left (by omega), ← List.getD_eq_getElem?_getD]
      rw [if_neg k0] at h ⊢
      rw [if_neg k0]
      by_cases k1 : k = 114
      · rw [if_pos k1] at h ⊢
        rw [if_pos k1]
        obtain ⟨x, y, rfl, hx, hy⟩ := q1 (.inl k1)
        rw [starsP, starsP, starsP] at h ⊢
        obtain ⟨g1, g2, g3, g4⟩ := fM h
        obtain ⟨g5, _, _, _⟩ := fM g3
        rw [ih x (bN (by simp)) ks hx g1, ih y (bN (by simp)) ks hy g5]
        rw [starsP, starsP, starsP]
      rw [if_neg k1] at h ⊢
      rw [if_neg k1]
      by_cases k2 : k = 115
      · rw [if_pos k2] at h ⊢
        rw [if_pos k2]
        exact hfld 116 ks kids (fun _ h => h) (q2 k2) h
      rw [if_neg k2] at h ⊢
      rw [if_neg k2]
      by_cases k3 : k = 117 ∨ k = 118
      · rw [if_pos k3] at h ⊢
        rw [if_pos k3]
        obtain ⟨K, y, rfl, hK, hy⟩ := q3 (by omega)
        rw [bindK] at h ⊢
        obtain ⟨g1, _⟩ := fM h
        have := ih y (bN (by simp)) (K :: ks) hy g1
        rw [List.cons_append] at this
        rw [this, bindK]
      rw [if_neg k3] at h ⊢
      rw [if_neg k3]
      by_cases k4 : k = 119
      · rw [if_pos k4] at h ⊢
        rw [if_pos k4]
        obtain ⟨K, y, rfl, hK, hy⟩ := q3 (by omega)
        rw [lamK] at h ⊢
        have g1 : (kindP y (K :: ks)).2 = 0 := by
          unfold lam1 at h
          split at h
          · rename_i h1; exact absurd h h1
          · rename_i h1; simpa using h1
        have := ih y (bN (by simp)) (K :: ks) hy g1
        rw [List.cons_append] at this
        rw [this, lamK]
      rw [if_neg k4] at h ⊢
      rw [if_neg k4]
      by_cases k5 : k = 120
      · rw [if_pos k5] at h ⊢
        rw [if_pos k5]
        obtain ⟨x, y, rfl, hx, hy⟩ := q1 (.inr k5)
        rw [appK] at h ⊢
        have g : (kindP x ks).2 = 0 ∧ (kindP y ks).2 = 0 := by
          unfold app1 at h
          split at h
          · rename_i h1; exact absurd h h1
          · rename_i h1
            split at h
            · rename_i h2; exact absurd h h2
            · rename_i h2; exact ⟨by simpa using h1, by simpa using h2⟩
        rw [ih x (bN (by simp)) ks hx g.1, ih y (bN (by simp)) ks hy g.2, appK]
      rw [if_neg k5] at h ⊢
      rw [if_neg k5]
      by_cases k6 : k = 121
      · rw [if_pos k6] at h ⊢
        rw [if_pos k6]
        have g : (starsF kids (starK :: ks)).2 = 0 := by
          unfold sum1 at h
          split at h
          · rename_i h1; exact absurd h h1
          · rename_i h1; simpa using h1
        have := hfld 122 (starK :: ks) kids (fun _ h => h) (q4 k6) g
        rw [List.cons_append] at this
        rw [this]
      rw [if_neg k6, if_neg k6]
/-- What has a kind has no variables but those of its context. -/
theorem aBB (B : Int) (c : Tree) : ∀ (ks : List Tree) (d : Int), isConP c = true → (kindP c ks).2 = 0 → (ks.length : Int) = d + B → allV (fun n x => decide (n < x + B)) c d = true := by
  induction c using Tree.sind with
  | h c ih =>
    intro ks d hf h hd
    cases c with
    | nil => rw [isConP] at hf; cases hf
    | node k n a b kids =>
      obtain ⟨q0, q1, q2, q3, q4⟩ := dJ hf
      rw [kindP] at h
      have hfld : ∀ (kd : Int) (ctx : List Tree) (e : Int) (l : List Tree), kd = 116 ∨ kd = 122 → (ctx.length : Int) = e + B → (∀ t ∈ l, t ∈ kids) → (∀ t ∈ kids, ∃ n' a' b' c, t = .node kd n' a' b' [c] ∧ isConP c = true) → (starsF l ctx).2 = 0 → (l.all fun t => allV (fun n x => decide (n < x + B)) t e) = true := by
        intro kd ctx e l hkd hce
        induction l with
        | nil => intro _ _ _; rfl
        | cons t l ih2 =>
          intro hm hall h0
          rw [starsF] at h0
          obtain ⟨g1, g2, g3, g4⟩ := fM h0
          have hmt := hm t (by simp)
          have hz := bN (k := k) (n := n) (a := a) (b := b) hmt
          obtain ⟨n', a', b', c, rfl, hc⟩ := hall t hmt
          have hz2 := bN (k := kd) (n := n') (a := a') (b := b') (kids := [c]) (t := c) (by simp)
          rw [kindF, kindH] at g1
          have hb : bindsP kd = 0 := by rcases hkd with rfl | rfl <;> rfl
          rw [List.all_cons, ih2 (fun t ht => hm t (by simp [ht])) hall g3, Bool.and_true, eE _ _ (by omega), hb, Int.add_zero, List.all_cons, List.all_nil, Bool.and_true]
          exact ih c (by omega) ctx e hc g1 hce
      by_cases k0 : k = 110
      · rw [if_pos k0] at h
        subst k0
        rw [jX]
        by_cases hn : n ≥ (ks.length : Int)
        · rw [if_pos hn] at h; cases h
        · exact decide_eq_true (by omega)
      rw [if_neg k0] at h
      rw [eE _ _ k0]
      by_cases k1 : k = 114
      · rw [if_pos k1] at h
        obtain ⟨x, y, rfl, hx, hy⟩ := q1 (.inl k1)
        rw [starsP, starsP, starsP] at h
        obtain ⟨g1, g2, g3, g4⟩ := fM h
        obtain ⟨g5, _, _, _⟩ := fM g3
        subst k1
        rw [show bindsP 114 = 0 from rfl, Int.add_zero, List.all_cons, List.all_cons, List.all_nil, Bool.and_true, ih x (bN (by simp)) ks d hx g1 hd, ih y (bN (by simp)) ks d hy g5 hd]
        rfl
      rw [if_neg k1] at h
      by_cases k2 : k = 115
      · rw [if_pos k2] at h
        subst k2
        rw [show bindsP 115 = 0 from rfl, Int.add_zero]
        exact hfld 116 ks d kids (.inl rfl) hd (fun _ h => h) (q2 rfl) h
      rw [if_neg k2] at h
      have hbind : ∀ K y : Tree, kids = [K, y] → isKindP K = true → isConP y = true → bindsP k = 1 → (kindP y (K :: ks)).2 = 0 → (kids.all fun t => allV (fun n x => decide (n < x + B)) t (d + bindsP k)) = true := fun K y e hK hy hb g1 => by
        subst e
        rw [hb, List.all_cons, List.all_cons, List.all_nil, Bool.and_true, aBq _ _ _ hK, Bool.true_and]
        exact ih y (bN (by simp)) (K :: ks) (d + 1) hy g1 (by rw [List.length_cons]; omega)
      by_cases k3 : k = 117 ∨ k = 118
      · rw [if_pos k3] at h
        obtain ⟨K, y, e, hK, hy⟩ := q3 (by omega)
        refine hbind K y e hK hy (by rcases k3 with rfl | rfl <;> rfl) ?_
        rw [e, bindK] at h
        exact (fM h).1
      rw [if_neg k3] at h
      by_cases k4 : k = 119
      · rw [if_pos k4] at h
        obtain ⟨K, y, e, hK, hy⟩ := q3 (by omega)
        refine hbind K y e hK hy (by subst k4; rfl) ?_
        rw [e, lamK] at h
        unfold lam1 at h
        split at h
        · rename_i h1; exact absurd h h1
        · rename_i h1; simpa using h1
      rw [if_neg k4] at h
      by_cases k5 : k = 120
      · rw [if_pos k5] at h
        obtain ⟨x, y, rfl, hx, hy⟩ := q1 (.inr k5)
        rw [appK] at h
        have g : (kindP x ks).2 = 0 ∧ (kindP y ks).2 = 0 := by
          unfold app1 at h
          split at h
          · rename_i h1; exact absurd h h1
          · rename_i h1
            split at h
            · rename_i h2; exact absurd h h2
            · rename_i h2; exact ⟨by simpa using h1, by simpa using h2⟩
        subst k5
        rw [show bindsP 120 = 0 from rfl, Int.add_zero, List.all_cons, List.all_cons, List.all_nil, Bool.and_true, ih x (bN (by simp)) ks d hx g.1 hd, ih y (bN (by simp)) ks d hy g.2 hd]
        rfl
      rw [if_neg k5] at h
      by_cases k6 : k = 121
      · rw [if_pos k6] at h
        have g : (starsF kids (starK :: ks)).2 = 0 := by
          unfold sum1 at h
          split at h
          · rename_i h1; exact absurd h h1
          · rename_i h1; simpa using h1
        subst k6
        rw [show bindsP 121 = 1 from rfl]
        exact hfld 122 (starK :: ks) (d + 1) kids (.inr rfl) (by rw [List.length_cons]; omega) (fun _ h => h) (q4 rfl) g
      · -- leaves
        have hk : kids = [] := by
          rw [isConP, Bool.and_eq_true] at hf
          have h2 := hf.2
          rw [if_neg k0] at h2
          by_cases k7 : k = 111 ∨ k = 112 ∨ k = 113
          · rw [if_pos k7] at h2
            exact List.eq_nil_of_length_eq_zero (by simpa using h2)
          · rw [if_neg k7, if_neg (by omega), if_neg (by omega), if_neg (by omega), if_neg (by omega)] at h2
            cases h2
        rw [hk]; rfl
theorem zK {ks : List Tree} {c : Tree} (h : starE ks c = 0) : (KindP ks c).2 = 0 := by
  unfold starE at h
  split at h
  · cases h
  · exact h
end Go.Proofs.YtocaohipfiapkaaGreatDoor.Ab
namespace Go.Proofs.YtocaohipfiapkaaGreatDoor.Ab
set_option linter.unusedVariables false
set_option linter.unusedSimpArgs false
theorem tW {k n : Int} {a b : ByteArray} {kids : List Tree} (hk : k ≠ 120) : redexP (.node k n a b kids) = none := by
  unfold redexP
  split
  · rename_i h
    cases h
    rw [if_neg fun h => hk h.1]
  · rfl
theorem rS {k n : Int} {a b : ByteArray} {kids : List Tree} (hk : k ≠ 120) : stepP (.node k n a b kids) = if (stepPs kids).2.2.2 ≠ 0 then (.nil, false, (stepPs kids).2.2.2) else if (stepPs kids).2.2.1 = true then (.node k n a b (kids.set (stepPs kids).1 (stepPs kids).2.1), true, 0) else (.nil, false, 0) := by
  rw [stepP, tW hk]
theorem nF : ∀ l : List Tree, (stepPs l).2.2 = (false, 0) → ∀ t ∈ l, (stepP t).2 = (false, 0)
  | [], _, t, ht => (List.not_mem_nil ht).elim
  | u :: l, h, t, ht => by
    rw [stepPs] at h
    split at h
    · rename_i h1
      exact absurd (congrArg Prod.snd h) h1
    · rename_i h1
      split at h
      · cases h
      · rename_i h2
        rcases List.mem_cons.1 ht with rfl | ht
        · have e : (stepP t).2.2 = 0 := by simpa using h1
          have e2 : (stepP t).2.1 = false := by simpa using h2
          rw [← e, ← e2]
        · exact nF l h t ht
theorem iX : ∀ l : List Tree, (stepPs l).2.2 = (true, 0) → ∃ h : (stepPs l).1 < l.length, stepP l[(stepPs l).1] = ((stepPs l).2.1, true, 0)
  | [], h => by rw [stepPs] at h; cases h
  | u :: l, h => by
    rw [stepPs] at h ⊢
    split at h
    · cases h
    · rename_i h1
      rw [if_neg h1]
      have e : (stepP u).2.2 = 0 := by simpa using h1
      split at h
      · rename_i h2
        rw [if_pos h2]
        refine ⟨Nat.zero_lt_succ _, ?_⟩
        show stepP u = ((stepP u).1, true, 0)
        rw [← h2, ← e]
      · rename_i h2
        rw [if_neg h2]
        obtain ⟨g1, g2⟩ := iX l h
        exact ⟨by show (stepPs l).1 + 1 < l.length + 1; omega, by show stepP ((u :: l)[(stepPs l).1 + 1]'(by rw [List.length_cons]; omega)) = _; exact g2⟩
/-- What an ending run is. -/
theorem gV (f : Nat) (t : Tree) (h : (normalP f t).2 = 0) : checkP isConP t = 0 ∧ ((stepP t).2 = (false, 0) ∧ normalP f t = (t, 0) ∨ ∃ f', f = f' + 1 ∧ (stepP t).2 = (true, 0) ∧ normalP f t = normalP f' (stepP t).1) := by
  have hS : (StepP t).2.2 = 0 → checkP isConP t = 0 ∧ StepP t = stepP t := fun h => by
    unfold StepP at h ⊢
    by_cases hc : checkP isConP t = 0
    · rw [if_pos hc]; exact ⟨hc, rfl⟩
    · rw [if_neg hc] at h; exact absurd h hc
  cases f with
  | zero =>
    rw [normalP] at h ⊢
    split at h
    · rename_i h1; exact absurd h h1
    · rename_i h1
      have h1' : (StepP t).2.2 = 0 := by simpa using h1
      obtain ⟨hc, e⟩ := hS h1'
      split at h
      · cases h
      · rename_i h2
        rw [if_neg h1, if_neg h2]
        rw [e] at h1' h2
        have h2' : (stepP t).2.1 = false := by simpa using h2
        exact ⟨hc, .inl ⟨by rw [← h1', ← h2'], rfl⟩⟩
  | succ f =>
    rw [normalP] at h ⊢
    split at h
    · rename_i h1; exact absurd h h1
    · rename_i h1
      have h1' : (StepP t).2.2 = 0 := by simpa using h1
      obtain ⟨hc, e⟩ := hS h1'
      rw [if_neg h1]
      rw [e] at h1' ⊢
      by_cases h2 : (stepP t).2.1 = true
      · rw [if_pos h2]
        exact ⟨hc, .inr ⟨f, rfl, by rw [← h1', ← h2], rfl⟩⟩
      · rw [if_neg h2]
        have h2' : (stepP t).2.1 = false := by simpa using h2
        exact ⟨hc, .inl ⟨by rw [← h1', ← h2'], rfl⟩⟩
theorem oE {t : Tree} (hc : checkP isConP t = 0) : StepP t = stepP t := by unfold StepP; rw [if_pos hc]
theorem gW {t : Tree} (hc : checkP isConP t = 0) (h : (stepP t).2 = (false, 0)) (f : Nat) : normalP f t = (t, 0) := mU (by rw [oE hc]; exact h) f
theorem nG {t : Tree} (hc : checkP isConP t = 0) (h : (stepP t).2 = (true, 0)) (f : Nat) : normalP (f + 1) t = normalP f (stepP t).1 := by
  rw [normalP, oE hc, if_neg (by rw [h]; simp), if_pos (by rw [h])]
theorem fW : ∀ (f : Nat) (t : Tree), (normalP f t).2 = 0 → normalP (f + 1) t = normalP f t
  | f, t, h => by
    obtain ⟨hc, h1 | ⟨f', rfl, h2, h3⟩⟩ := gV f t h
    · rw [h1.2, gW hc h1.1]
    · rw [nG hc h2, h3]
      rw [h3] at h
      exact fW f' _ h
/-- A part of what was checked was checked. -/
theorem tX {t c : Tree} (hc : checkP isConP t = 0) (h1 : isConP c = true) (h2 : c.whole = true) (h3 : c.size ≤ t.size) : checkP isConP c = 0 := by
  obtain ⟨g1, g2, g3⟩ := bI hc
  rw [gB isConP c h2 (by omega), if_pos h1]
end Go.Proofs.YtocaohipfiapkaaGreatDoor.Ab
namespace Go.Proofs.YtocaohipfiapkaaGreatDoor.Ab
set_option linter.unusedVariables false
set_option linter.unusedSimpArgs false
/-- What a tree's change keeps. -/
def pres (t t' : Tree) : Prop := (isConP t = true → isConP t' = true) ∧ (∀ kd : Int, okNamed kd t = true → kd = 116 ∨ kd = 122 → okNamed kd t' = true ∧ t'.name = t.name) ∧ (isKindP t = true → isKindP t' = true)
theorem tY (t : Tree) : pres t t := ⟨id, fun _ h _ => ⟨h, rfl⟩, id⟩
theorem namesOf {l m : List Tree} (hl : m.length = l.length) (h : ∀ j (h : j < l.length) (h' : j < m.length), m[j].name = l[j].name) : m.map Tree.name = l.map Tree.name := by
  refine List.ext_getElem (by simp [hl]) fun j h1 h2 => ?_
  rw [List.getElem_map, List.getElem_map]
  exact h j (by simpa using h2) (by simpa using h1)
theorem kF : ∀ l m : List Tree, l.map Tree.name = m.map Tree.name → distinctP l = distinctP m
  | [], [], _ => rfl
  | [], _ :: _, h => by simp at h
  | _ :: _, [], h => by simp at h
  | t :: l, u :: m, h => by
    simp only [List.map_cons, List.cons.injEq] at h
    have key : ∀ (x : ByteArray) (l : List Tree), (l.any fun u => eqB u.name x) = (l.map Tree.name).any fun y => eqB y x := fun x l => by rw [List.any_map]; rfl
    rw [distinctP, distinctP, key, key, h.1, h.2, kF l m h.2]
theorem zL {l m : List Tree} {p : Tree → Bool} (hl : m.length = l.length) (h : ∀ j (h : j < l.length) (h' : j < m.length), p l[j] = true → p m[j] = true) (ha : l.all p = true) : m.all p = true := by
  rw [List.all_eq_true] at ha ⊢
  intro t ht
  obtain ⟨j, hj, rfl⟩ := List.mem_iff_getElem.1 ht
  exact h j (by omega) hj (ha _ (List.getElem_mem (by omega)))
theorem aCS {k n : Int} {a b : ByteArray} {l m : List Tree} (hk : k ≠ 110) (hl : m.length = l.length) (h : ∀ j (h : j < l.length) (h' : j < m.length), pres l[j] m[j]) (hc : isConP (.node k n a b l) = true) : isConP (.node k n a b m) = true := by
  rw [isConP, Bool.and_eq_true] at hc ⊢
  refine ⟨hc.1, ?_⟩
  have h2 := hc.2
  rw [if_neg hk] at h2 ⊢
  have hcons : isCons l = true → isCons m = true := fun hc => by
    rw [eL] at hc ⊢
    exact zL hl (fun j h1 h2 => (h j h1 h2).1) hc
  have hnam : ∀ kd : Int, kd = 116 ∨ kd = 122 → namedPs l kd = true → namedPs m kd = true ∧ m.map Tree.name = l.map Tree.name := fun kd hkd hn => by
    rw [cZ] at hn ⊢
    refine ⟨zL hl (fun j h1 h2 ho => ((h j h1 h2).2.1 kd ho hkd).1) hn, namesOf hl fun j h1 h2 => ((h j h1 h2).2.1 kd ?_ hkd).2⟩
    exact List.all_eq_true.1 hn _ (List.getElem_mem h1)
  by_cases k1 : k = 111 ∨ k = 112 ∨ k = 113
  · rw [if_pos k1] at h2 ⊢; rw [hl]; exact h2
  rw [if_neg k1] at h2 ⊢
  by_cases k2 : k = 114 ∨ k = 120
  · rw [if_pos k2, Bool.and_eq_true] at h2 ⊢
    exact ⟨by rw [hl]; exact h2.1, hcons h2.2⟩
  rw [if_neg k2] at h2 ⊢
  by_cases k3 : k = 115
  · rw [if_pos k3, Bool.and_eq_true] at h2 ⊢
    obtain ⟨g1, g2⟩ := hnam 116 (.inl rfl) h2.1
    exact ⟨g1, by rw [iV m l g2]; exact h2.2⟩
  rw [if_neg k3] at h2 ⊢
  by_cases k4 : k = 117 ∨ k = 118 ∨ k = 119
  · rw [if_pos k4] at h2 ⊢
    by_cases hl2 : l.length = 2
    · obtain ⟨x, y, rfl⟩ := two hl2
      obtain ⟨x', y', rfl⟩ := two (by rw [hl]; exact hl2)
      rw [isCon2, Bool.and_eq_true] at h2 ⊢
      exact ⟨(h 0 (by simp) (by simp)).2.2 h2.1, (h 1 (by simp) (by simp)).1 h2.2⟩
    · rw [eQ hl2] at h2; cases h2
  rw [if_neg k4] at h2 ⊢
  by_cases k5 : k = 121
  · rw [if_pos k5, Bool.and_eq_true, Bool.and_eq_true] at h2 ⊢
    obtain ⟨g1, g2⟩ := hnam 122 (.inr rfl) h2.1.2
    exact ⟨⟨by rw [hl]; exact h2.1.1, g1⟩, by rw [kF m l g2]; exact h2.2⟩
  · rw [if_neg k5] at h2; cases h2
theorem zM {k n : Int} {a b : ByteArray} {l m : List Tree} (hl : m.length = l.length) (h : ∀ j (h : j < l.length) (h' : j < m.length), pres l[j] m[j]) (kd : Int) (ho : okNamed kd (.node k n a b l) = true) : okNamed kd (.node k n a b m) = true := by
  rw [okNamed, Bool.and_eq_true] at ho ⊢
  refine ⟨ho.1, ?_⟩
  have h2 := ho.2
  by_cases hl1 : l.length = 1
  · obtain ⟨x, rfl⟩ := one_of hl1
    obtain ⟨x', rfl⟩ := one_of (show m.length = 1 by rw [hl]; exact hl1)
    rw [isCon1] at h2 ⊢
    exact (h 0 (by simp) (by simp)).1 h2
  · rw [eX hl1] at h2; cases h2
theorem aBC {k n : Int} {a b : ByteArray} {l m : List Tree} (hl : m.length = l.length) (h : ∀ j (h : j < l.length) (h' : j < m.length), pres l[j] m[j]) (ho : isKindP (.node k n a b l) = true) : isKindP (.node k n a b m) = true := by
  rw [isKindP] at ho ⊢
  by_cases k0 : k = 100
  · rw [if_pos k0] at ho ⊢; rw [hl]; exact ho
  · rw [if_neg k0] at ho ⊢
    by_cases k1 : k = 101
    · rw [if_pos k1, Bool.and_eq_true, dI, List.all_map] at ho ⊢
      exact ⟨by rw [hl]; exact ho.1, zL hl (fun j h1 h2 hq => (h j h1 h2).2.2 hq) ho.2⟩
    · rw [if_neg k1] at ho; cases ho
theorem tZ {k n : Int} {a b : ByteArray} {l m : List Tree} (hk : k ≠ 110) (hl : m.length = l.length) (h : ∀ j (h : j < l.length) (h' : j < m.length), pres l[j] m[j]) : pres (.node k n a b l) (.node k n a b m) :=
  ⟨aCS hk hl h, fun kd ho _ => ⟨zM hl h kd ho, rfl⟩, aBC hl h⟩
theorem vE {n : Int} (h0 : 0 ≤ n) (h1 : n ≤ 65536) : isConP (varT n) = true := by
  unfold varT
  rw [isConP, if_pos rfl]
  have hbare : bareP n emptyB emptyB false ((110 : Int) == 110) = true := by
    unfold bareP
    rw [(dO _ _).2 rfl]
    simp
  rw [hbare, decide_eq_true (by omega : n ≥ 0), decide_eq_true h1]
  rfl
section
variable {σ : Type} (V : Int → Int → σ → Tree × σ)
theorem rT (d : Int) : ∀ (l : List Tree) (s : σ) (j : Nat) (h : j < l.length) (h' : j < (walkSs V l d s).1.length), ∃ s', (walkSs V l d s).1[j] = (walkS V l[j] d s').1
  | [], s, j, h, _ => by simp at h
  | t :: l, s, 0, h, h' => ⟨s, by simp only [walkSs, List.getElem_cons_zero]⟩
  | t :: l, s, j + 1, h, h' => by
    have h2 : j < (walkSs V l d (walkS V t d s).2).1.length := by rw [dW]; simpa using h
    obtain ⟨s', e⟩ := rT d l (walkS V t d s).2 j (by simpa using h) h2
    exact ⟨s', by simp only [walkSs, List.getElem_cons_succ]; exact e⟩
theorem zN (hV : ∀ (n d : Int) (s : σ), 0 ≤ n → n ≤ 65536 → 0 ≤ d → isConP (V n d s).1 = true) (t : Tree) : ∀ (d : Int) (s : σ), 0 ≤ d → pres t (walkS V t d s).1 := by
  induction t using Tree.sind with
  | h t ih =>
    intro d s hd
    cases t with
    | nil => rw [walkS]; exact tY _
    | node k n a b kids =>
      by_cases hk : k = 110
      · subst hk
        refine ⟨fun hc => ?_, fun kd ho hkd => ?_, fun ho => ?_⟩
        · obtain ⟨h0, h1, _⟩ := (dJ hc).1 rfl
          rw [eZ]
          exact hV n d s h0 h1 hd
        · rw [okNamed] at ho
          simp only [Bool.and_eq_true, beq_iff_eq] at ho
          omega
        · rw [isKindP, if_neg (by decide), if_neg (by decide)] at ho; cases ho
      · rw [nY _ _ _ _ kids hk]
        have hb := eY k
        refine tZ hk (dW ..) fun j h1 h2 => ?_
        obtain ⟨s', e⟩ := rT V _ kids s j h1 h2
        rw [e]
        exact ih _ (bN (List.getElem_mem h1)) _ _ (by omega)
end
theorem zO (t : Tree) (i : Int) (y : Tree) (h : (substP t i y).2 = 0) : isConP (substP t i y).1 = true := by
  obtain ⟨_, _, hc, hy⟩ := jQ t i y h
  have hcon := (bI hc).2.2
  unfold substP at h ⊢
  rw [if_neg (by simpa using hc)] at h ⊢
  rw [if_neg (by simpa using hy)] at h ⊢
  split at h
  · cases h
  · rename_i hi
    rw [if_neg hi]
    split at h
    · cases h
    · rename_i h1
      rw [if_neg h1]
      refine (zN (substV i y.size y) (fun n d s h0 h2 hd => ?_) t 0 (0, 0) (Int.le_refl _)).1 hcon
      unfold substV
      split
      · exact vE h0 h2
      · rename_i h3
        split
        · exact vE (by omega) (by omega)
        · split
          · exact vE h0 h2
          · rename_i h4
            exact tT y hy d 0 (Int.le_refl _) (by omega)
theorem mD (t : Tree) : isKindP t = true → (stepP t).2 = (false, 0) := by
  induction t using Tree.sind with
  | h t ih =>
    intro h
    cases t with
    | nil => rw [isKindP] at h; cases h
    | node k n a b kids =>
      rw [isKindP] at h
      have key : k ≠ 120 → (∀ t ∈ kids, isKindP t = true) → (stepP (.node k n a b kids)).2 = (false, 0) := fun hk hall => by
        have hs : ∀ l : List Tree, (∀ t ∈ l, (stepP t).2 = (false, 0)) → (stepPs l).2.2 = (false, 0) := by
          intro l
          induction l with
          | nil => intro _; rw [stepPs]
          | cons t l ih2 =>
            intro hq
            have h1 := hq t (by simp)
            rw [stepPs, if_neg (by rw [h1]; simp), if_neg (by rw [h1]; simp)]
            exact ih2 fun t ht => hq t (by simp [ht])
        have h1 := hs kids fun t ht => ih t (bN ht) (hall t ht)
        rw [rS hk, if_neg (by rw [h1]; simp), if_neg (by rw [h1]; simp)]
      by_cases k0 : k = 100
      · rw [if_pos k0, Bool.and_eq_true] at h
        have e0 : kids = [] := List.eq_nil_of_length_eq_zero (by simpa using h.2)
        exact key (by omega) fun t ht => by rw [e0] at ht; cases ht
      · rw [if_neg k0] at h
        by_cases k1 : k = 101
        · rw [if_pos k1, Bool.and_eq_true, dI, List.all_map] at h
          exact key (by omega) fun t ht => List.all_eq_true.1 h.2 t ht
        · rw [if_neg k1] at h; cases h
theorem uA (t : Tree) : (stepP t).2 = (true, 0) → pres t (stepP t).1 := by
  induction t using Tree.sind with
  | h t ih =>
    intro h
    cases t with
    | nil => rw [stepP] at h; cases h
    | node k n a b kids =>
      cases hr : redexP (.node k n a b kids) with
      | some p =>
        obtain ⟨bd, y⟩ := p
        obtain ⟨n', a', b', n2, a2, b2, u, e⟩ := gO hr
        cases e
        rw [stepP, hr] at h ⊢
        dsimp only at h ⊢
        have h0 : (substP bd 0 y).2 = 0 := congrArg Prod.snd h
        refine ⟨fun _ => zO bd 0 y h0, fun kd ho hkd => ?_, fun ho => ?_⟩
        · rw [okNamed] at ho
          simp only [Bool.and_eq_true, beq_iff_eq] at ho
          omega
        · rw [isKindP, if_neg (by decide), if_neg (by decide)] at ho; cases ho
      | none =>
        rw [stepP, hr] at h ⊢
        dsimp only at h ⊢
        by_cases q1 : (stepPs kids).2.2.2 = 0
        · rw [if_neg (show ¬ (stepPs kids).2.2.2 ≠ 0 by simpa using q1)] at h ⊢
          by_cases q2 : (stepPs kids).2.2.1 = true
          · rw [if_pos q2] at h ⊢
            obtain ⟨hi, hmv⟩ := iX kids (by rw [← q1, ← q2])
            generalize (stepPs kids).1 = i at *
            generalize (stepPs kids).2.1 = t' at *
            dsimp only
            have hp := ih kids[i] (bN (List.getElem_mem hi)) (by rw [hmv])
            rw [hmv] at hp
            dsimp only at hp
            by_cases hk : k = 110
            · refine ⟨fun hc => ?_, fun kd ho hkd => ?_, fun ho => ?_⟩
              · have := ((dJ hc).1 hk).2.2
                rw [this] at hi
                exact absurd hi (by simp)
              · rw [okNamed] at ho
                simp only [Bool.and_eq_true, beq_iff_eq] at ho
                omega
              · rw [isKindP, if_neg (by omega), if_neg (by omega)] at ho; cases ho
            · refine tZ hk (by rw [List.length_set]) fun j h1 h2 => ?_
              by_cases hij : i = j
              · subst hij
                rw [List.getElem_set_self]
                exact hp
              · rw [List.getElem_set_ne hij]
                exact tY _
          · rw [if_neg q2] at h; cases h
        · rw [if_pos q1] at h; cases h
theorem aCT {k n : Int} {a b : ByteArray} {kids : List Tree} (h : isConP (.node k n a b kids) = true) : ∀ t ∈ kids, isConP t = true ∨ isKindP t = true ∨ okNamed 116 t = true ∨ okNamed 122 t = true := by
  intro t ht
  rw [isConP, Bool.and_eq_true] at h
  have h2 := h.2
  by_cases k0 : k = 110
  · rw [if_pos k0, Bool.and_eq_true] at h2
    have e0 : kids = [] := List.eq_nil_of_length_eq_zero (by simpa using h2.2)
    rw [e0] at ht; cases ht
  rw [if_neg k0] at h2
  by_cases k1 : k = 111 ∨ k = 112 ∨ k = 113
  · rw [if_pos k1] at h2
    have e0 : kids = [] := List.eq_nil_of_length_eq_zero (by simpa using h2)
    rw [e0] at ht; cases ht
  rw [if_neg k1] at h2
  by_cases k2 : k = 114 ∨ k = 120
  · rw [if_pos k2, Bool.and_eq_true, eL] at h2
    exact .inl (List.all_eq_true.1 h2.2 t ht)
  rw [if_neg k2] at h2
  by_cases k3 : k = 115
  · rw [if_pos k3, Bool.and_eq_true, cZ] at h2
    exact .inr (.inr (.inl (List.all_eq_true.1 h2.1 t ht)))
  rw [if_neg k3] at h2
  by_cases k4 : k = 117 ∨ k = 118 ∨ k = 119
  · rw [if_pos k4] at h2
    by_cases hl2 : kids.length = 2
    · obtain ⟨x, y, rfl⟩ := two hl2
      rw [isCon2, Bool.and_eq_true] at h2
      rcases List.mem_cons.1 ht with rfl | ht
      · exact .inr (.inl h2.1)
      · rw [List.mem_singleton.1 ht]; exact .inl h2.2
    · rw [eQ hl2] at h2; cases h2
  rw [if_neg k4] at h2
  by_cases k5 : k = 121
  · rw [if_pos k5, Bool.and_eq_true, Bool.and_eq_true, cZ] at h2
    exact .inr (.inr (.inr (List.all_eq_true.1 h2.1.2 t ht)))
  · rw [if_neg k5] at h2; cases h2
theorem rU : ∀ l : List Tree, (∀ t ∈ l, (stepP t).2.2 = 0 ∨ (stepP t).2.2 = 3) → (stepPs l).2.2.2 = 0 ∨ (stepPs l).2.2.2 = 3
  | [], _ => by rw [stepPs]; exact .inl rfl
  | t :: l, h => by
    rw [stepPs]
    split
    · exact h t (by simp)
    · split
      · exact .inl rfl
      · exact rU l fun t ht => h t (by simp [ht])
theorem eT {t : Tree} (h1 : isConP t = true) (h2 : t.whole = true) (h3 : t.size ≤ 65536) : checkP isConP t = 0 := by rw [gB isConP t h2 h3, if_pos h1]
theorem xE (t : Tree) : (isConP t = true ∨ isKindP t = true ∨ okNamed 116 t = true ∨ okNamed 122 t = true) → t.whole = true → t.size ≤ 65536 → (stepP t).2.2 = 0 ∨ (stepP t).2.2 = 3 := by
  induction t using Tree.sind with
  | h t ih =>
    intro h hw hs
    by_cases hkd : isKindP t = true
    · rw [mD t hkd]; exact .inl rfl
    cases t with
    | nil => rw [stepP]; exact .inl rfl
    | node k n a b kids =>
      have hgo : redexP (.node k n a b kids) = none → (∀ t ∈ kids, isConP t = true ∨ isKindP t = true ∨ okNamed 116 t = true ∨ okNamed 122 t = true) → (stepP (.node k n a b kids)).2.2 = 0 ∨ (stepP (.node k n a b kids)).2.2 = 3 := fun hr hall => by
        have h1 := rU kids fun t ht => ih t (bN ht) (hall t ht) (bF hw ht) (by have := bN (k := k) (n := n) (a := a) (b := b) ht; omega)
        rw [stepP, hr]
        dsimp only
        split
        · exact h1
        · split
          · exact .inl rfl
          · exact .inl rfl
      have hnm : ∀ kd : Int, kd = 116 ∨ kd = 122 → okNamed kd (.node k n a b kids) = true → (stepP (.node k n a b kids)).2.2 = 0 ∨ (stepP (.node k n a b kids)).2.2 = 3 := fun kd hkd ho => by
        rw [okNamed] at ho
        simp only [Bool.and_eq_true, beq_iff_eq] at ho
        refine hgo (tW (by omega)) fun t ht => ?_
        have h2 := ho.2
        by_cases hl1 : kids.length = 1
        · obtain ⟨x, rfl⟩ := one_of hl1
          rw [isCon1] at h2
          rw [List.mem_singleton.1 ht]
          exact .inl h2
        · rw [eX hl1] at h2; cases h2
      rcases h with h | h | h | h
      · cases hr : redexP (.node k n a b kids) with
        | none => exact hgo hr (aCT h)
        | some p =>
          obtain ⟨bd, y⟩ := p
          obtain ⟨n', a', b', n2, a2, b2, u, e⟩ := gO hr
          cases e
          obtain ⟨x', y', e, hx, hy⟩ := (dJ h).2.1 (.inr rfl)
          cases e
          obtain ⟨u', bd', e, hu, hbd⟩ := (dJ hx).2.2.2.1 (by decide)
          cases e
          have hw1 := bF hw (show Tree.node 119 n2 a2 b2 [u, bd] ∈ _ by simp)
          have hw2 := bF hw1 (show bd ∈ [u, bd] by simp)
          have hw3 := bF hw (show y ∈ _ by simp)
          have s1 := bN (k := 120) (n := n) (a := a) (b := b) (kids := [.node 119 n2 a2 b2 [u, bd], y]) (t := y) (by simp)
          have s2 := bN (k := 120) (n := n) (a := a) (b := b) (kids := [.node 119 n2 a2 b2 [u, bd], y]) (t := .node 119 n2 a2 b2 [u, bd]) (by simp)
          have s3 := bN (k := 119) (n := n2) (a := a2) (b := b2) (kids := [u, bd]) (t := bd) (by simp)
          rw [stepP, hr]
          dsimp only
          unfold substP
          rw [if_neg (by simpa using eT hbd hw2 (by omega)), if_neg (by simpa using eT hy hw3 (by omega)), if_neg (by decide)]
          split
          · exact .inr rfl
          · exact .inl rfl
      · exact absurd h hkd
      · exact hnm 116 (.inl rfl) h
      · exact hnm 122 (.inr rfl) h
/-- What keeps a checked constructor from having a normal form: it is too large, or takes too long. -/
theorem rV : ∀ (f : Nat) (t : Tree), isConP t = true → t.whole = true → (normalP f t).2 = 0 ∨ (normalP f t).2 = 3 ∨ (normalP f t).2 = 18 := by
  have hchk : ∀ t : Tree, isConP t = true → t.whole = true → (StepP t).2.2 = 3 ∨ t.size ≤ 65536 ∧ StepP t = stepP t := fun t hc hw => by
    by_cases hs : t.size ≤ 65536
    · exact .inr ⟨hs, oE (eT hc hw hs)⟩
    · have h3 : checkP isConP t = 3 := by
        have := rI t hw 65536 (by decide) (by omega)
        unfold checkP
        rw [this, if_neg (by decide)]
      unfold StepP
      rw [if_neg (by rw [h3]; decide)]
      exact .inl h3
  intro f
  induction f with
  | zero =>
    intro t hc hw
    rw [normalP]
    rcases hchk t hc hw with h | ⟨hs, e⟩
    · rw [if_pos (by rw [h]; decide)]; exact .inr (.inl h)
    · split
      · rename_i h1
        rw [e] at h1 ⊢
        rcases xE t (.inl hc) hw hs with h | h
        · exact absurd h h1
        · exact .inr (.inl h)
      · split
        · exact .inr (.inr rfl)
        · exact .inl rfl
  | succ f ih =>
    intro t hc hw
    rw [normalP]
    rcases hchk t hc hw with h | ⟨hs, e⟩
    · rw [if_pos (by rw [h]; decide)]; exact .inr (.inl h)
    · split
      · rename_i h1
        rw [e] at h1 ⊢
        rcases xE t (.inl hc) hw hs with h | h
        · exact absurd h h1
        · exact .inr (.inl h)
      · rename_i h1
        have h1' : (StepP t).2.2 = 0 := by simpa using h1
        split
        · rename_i h2
          have hf := qU t h2 h1'
          rw [e] at hf h2 h1' ⊢
          exact ih _ ((uA t (by rw [← h1', ← h2])).1 hc) hf.1
        · exact .inl rfl
end Go.Proofs.YtocaohipfiapkaaGreatDoor.Ab
namespace Go.Proofs.YtocaohipfiapkaaGreatDoor.Ab
set_option linter.unusedVariables false
set_option linter.unusedSimpArgs false
open Go.RowKit
attribute [local irreducible] AWP AOps AExit AThen ABlock ANoGoto FeetOk
/-- A node with kids alone. -/
def conT (k : Int) (kids : List Tree) : Tree := .node k 0 emptyB emptyB kids
def conIV (k : Int) (n : Nat) (cs : List IV) : IV := .ptr [.lit (.int .i64 k), .lit (.int .i64 0), .lit (.string ⟨#[]⟩), .lit (.string ⟨#[]⟩), .sl false n cs] 0
theorem eI (k : Int) (kids : List Tree) : (conT k kids).iv = conIV k kids.length (Tree.ivs kids) := by unfold conT conIV; rw [Tree.iv]; rfl
def higherT : Tree := conT 101 [conT 100 [], conT 100 []]
def sstarT : Tree := conT 100 []
/-- What a token is handed. -/
def tokP (c : Tree) : Tree × Int := if (shiftP c 1 0).2 ≠ 0 then (.nil, 3) else (conT 120 [conT 110 [], (shiftP c 1 0).1], 0)
def aroundP (kind : Int) : Nat → Tree → Tree
  | 0, c => c
  | n + 1, c => conT kind [sstarT, aroundP kind n c]
set_option maxHeartbeats 4000000 in
set_option maxRecDepth 10000 in
theorem nH (k : Int) (f : Bool) (n : Nat) (cs : List IV) : ACalls Tryz.prog 18 [.imm (.lit (.int .i64 k)), .imm (.sl f n cs)] [] (.imm (conIV k n cs)) [] := by
  refine cK Tryz.func18 rfl rfl (nb rfl) rfl ?_
  repeat' (first | refine aE ?_ | (refine aG ?_;  first | refine aB tabOk rfl rfl rfl (nb rfl) rfl ?_ | refine eP tabOk rfl rfl rfl (nb rfl) rfl rfl rfl rfl rfl ?_ | refine kS (t := 34) rfl rfl rfl (nb rfl) rfl rfl rfl rfl rfl rfl rfl ?_) | (refine aK ?_;  first | refine aF ?_ | refine aM ?_))
  all_goals (refine dS (dU (g := 8) rfl rfl) ?_; refine aO (by first | exact .inl rfl | exact .inr rfl) (aW rfl (aA rfl)) rfl ?_; cases f <;> rfl)
set_option maxHeartbeats 4000000 in
set_option maxRecDepth 10000 in
theorem pQ (k : Int) : ACalls Tryz.prog 18 [.imm (.lit (.int .i64 k)), .imm (.lit (.slice none 0 0))] [] (.imm (conIV k 0 [])) [] := by
  refine cK Tryz.func18 rfl rfl (nb rfl) rfl ?_
  repeat' (first | refine aE ?_ | (refine aG ?_;  first | refine aB tabOk rfl rfl rfl (nb rfl) rfl ?_ | refine eP tabOk rfl rfl rfl (nb rfl) rfl rfl rfl rfl rfl ?_ | refine kS (t := 34) rfl rfl rfl (nb rfl) rfl rfl rfl rfl rfl rfl rfl ?_) | (refine aK ?_;  first | refine aF ?_ | refine aM ?_))
  all_goals (refine dS ((fH (h0 := 8) (k0 := 4) 500 25 1 rfl rfl (by simp) rfl rfl).trans ((cM (g := 500) rfl (by repeat' first | exact trivial | exact fun _ => rfl | refine ⟨?_, ?_⟩) (by repeat' first | exact trivial | exact fun _ => rfl | refine ⟨?_, ?_⟩)).trans (dU (g := 8) rfl rfl))) ?_; refine aO (by first | exact .inl rfl | exact .inr rfl) (aW rfl (aA rfl)) rfl ?_; rfl)
set_option maxHeartbeats 4000000 in
set_option maxRecDepth 10000 in
theorem xF : ACalls Tryz.prog 19 [] [] (.imm higherT.iv) [] := by
  have c0 := pQ 100
  have c1 := nH 101 true 2 [conIV 100 0 [], conIV 100 0 []]
  unfold conIV at *
  refine aH Tryz.func19 rfl rfl (nb rfl) rfl ?_
  repeat' (first | refine aE ?_ | (refine aG ?_;  first | refine aB tabOk rfl rfl rfl (nb rfl) rfl ?_ | refine aD rfl rfl (nb rfl) rfl rfl rfl rfl (c0) ?_ | refine aD rfl rfl (nb rfl) rfl rfl rfl rfl (c1) ?_ | refine bS tabOk rfl rfl rfl (nb rfl) rfl rfl rfl rfl rfl rfl rfl rfl rfl ?_) | (refine aK ?_;  first | refine aF ?_ | refine aM ?_))
  all_goals (refine aO (by first | exact .inl rfl | exact .inr rfl) (aW rfl (aA rfl)) rfl ?_; rfl)
end Go.Proofs.YtocaohipfiapkaaGreatDoor.Ab
namespace Go.Proofs.YtocaohipfiapkaaGreatDoor.Ab
set_option linter.unusedVariables false
set_option linter.unusedSimpArgs false
open Go.RowKit
attribute [local irreducible] AWP AOps AExit AThen ABlock ANoGoto FeetOk
theorem fY (kind : Int) (c : Tree) (hc : c.whole = true) : ∀ n : Nat, (aroundP kind n c).whole = true ∧ (aroundP kind n c).size = c.size + 2 * n
  | 0 => ⟨hc, by rw [aroundP]; omega⟩
  | n + 1 => by
    have h := fY kind c hc n
    rw [aroundP]
    unfold conT sstarT conT
    refine ⟨?_, ?_⟩
    · show Tree.wholes [_, _] = true
      rw [Tree.wholes, Tree.wholes, h.1]; rfl
    · simp only [Tree.size, Tree.sizes]; omega
theorem oF (c : Tree) (h : (tokP c).2 = 0) : (tokP c).1.whole = true ∧ (tokP c).1.size ≤ c.size + 2 := by
  unfold tokP at h ⊢
  by_cases h0 : (shiftP c 1 0).2 = 0
  · rw [if_neg (by simpa using h0)] at h ⊢
    have := eC c 1 0 h0
    unfold conT
    refine ⟨?_, ?_⟩
    · show Tree.wholes [_, _] = true
      rw [Tree.wholes, Tree.wholes, this.1]; rfl
    · simp only [Tree.size, Tree.sizes]; omega
  · rw [if_pos h0] at h; cases h
set_option maxHeartbeats 4000000 in
set_option maxRecDepth 10000 in
theorem xG (kind : Int) (m : Int) (c : Tree) (hc : c.whole = true) (h0 : 0 ≤ m) (hm : m ≤ 100000000) : ACalls Tryz.prog 40 [.imm (.lit (.int .i64 kind)), .imm (.lit (.int .i64 m)), .imm c.iv] [] (.imm (aroundP kind m.toNat c).iv) [] := by
  obtain ⟨n, rfl⟩ : ∃ n : Nat, m = n := ⟨m.toNat, by omega⟩
  rw [Int.toNat_natCast]
  have c0 := pQ 100
  refine aH Tryz.func40 rfl rfl (nb rfl) rfl ?_
  repeat' (first | refine aE ?_ | (refine aG ?_;  first | refine aB tabOk rfl rfl rfl (nb rfl) rfl ?_) | (refine aK ?_;  first | refine aF ?_ | refine aL ?_ | refine aR ?_))
  refine bZ (ι := {j : Nat // j ≤ n}) (fun j => S.f ⟨[(8, .imm (.lit (.int .i64 (j.1 : Int)))), (7, .imm (.lit (.int .i64 (n : Int)))), (2, .imm (aroundP kind j.1 c).iv), (0, .imm (.lit (.int .i64 kind)))], []⟩) (fun j => n - j.1) ⟨0, Nat.zero_le _⟩ (bT (by repeat' first | exact trivial | refine ⟨rfl, ?_⟩) (by repeat' first | exact trivial | refine ⟨rfl, ?_⟩)) ?_
  rintro ⟨j, hj⟩
  dsimp only
  obtain ⟨px, hpx⟩ := bR (bJ (fY kind c hc j).1)
  by_cases hlt : j < n
  · have hnx : (aroundP kind (j + 1) c).iv = conIV kind 2 [conIV 100 0 [], .ptr px 0] := by
      rw [aroundP, eI, Tree.ivs, Tree.ivs, hpx]; rfl
    rw [hpx]
    have c1 := nH kind true 2 [conIV 100 0 [], .ptr px 0]
    unfold conIV at c0 c1 hnx
    repeat' (first | refine aE ?_ | (refine aG ?_;  first | refine aB tabOk rfl rfl rfl (nb rfl) rfl ?_ | (refine aI rfl rfl rfl (nb rfl) rfl rfl rfl (fun hq => ?_) (fun hq => ?_) <;> (first | (simp only [sD, sE, sB, sC, sN, sM, sT, sF] at hq; try (exfalso; omega)) | skip)) | refine aD rfl rfl (nb rfl) rfl rfl rfl rfl (c0) ?_ | refine aD rfl rfl (nb rfl) rfl rfl rfl rfl (c1) ?_ | refine bO rfl rfl rfl (nb rfl) rfl rfl (by omega) ?_ | refine bS tabOk rfl rfl rfl (nb rfl) rfl rfl rfl rfl rfl rfl rfl rfl rfl ?_) | (refine aK ?_;  first | refine aF ?_ | refine aL ?_ | refine bD ?_ | refine aR ?_ | refine aS ?_ | refine aC (b := true) rfl (fun _ => ?_) nTf) | (refine aJ ?_;  first | refine aU ?_) | (refine aP ?_;  first | refine bM ?_))
    all_goals first
      | (exfalso; omega)
      | (refine ⟨⟨j + 1, hlt⟩, (by show n - (j + 1) < n - j; omega), ?_⟩; dsimp only; rw [hnx]; exact (bT (by repeat' first | exact trivial | refine ⟨rfl, ?_⟩) (by repeat' first | exact trivial | refine ⟨rfl, ?_⟩)))
  · have ej : j = n := by omega
    subst ej
    rw [hpx]
    repeat' (first | refine aE ?_ | (refine aG ?_;  first | refine aB tabOk rfl rfl rfl (nb rfl) rfl ?_ | (refine aI rfl rfl rfl (nb rfl) rfl rfl rfl (fun hq => ?_) (fun hq => ?_) <;> (first | (simp only [sD, sE, sB, sC, sN, sM, sT, sF] at hq; try (exfalso; omega)) | skip))) | (refine aK ?_;  first | refine aF ?_ | refine aL ?_ | refine aM ?_ | refine bQ ?_ | refine aC (b := false) rfl nFt (fun _ => ?_)) | (refine aJ ?_;  first | refine aU ?_ | refine bH ?_) | (refine aP ?_;  first | refine bE ?_))
    all_goals first
      | (exfalso; omega)
      | (refine aO (by first | exact .inl rfl | exact .inr rfl) (aW rfl (aA rfl)) rfl ?_; rfl)
set_option maxHeartbeats 4000000 in
set_option maxRecDepth 10000 in
theorem aAu (c : Tree) (hs : c.size ≤ 100000000) : ACalls Tryz.prog 16 [.imm c.iv] [] (.imm (.tup [(tokP c).1.iv, .lit (.int .i64 (tokP c).2)])) [] := by
  have c1 := pP c 1 0 hs
  have c0 := pQ 110
  unfold tokP
  have hf := eC c 1 0
  generalize shiftP c 1 0 = S at *
  obtain ⟨S1, S2⟩ := S
  dsimp only at *
  by_cases h0 : S2 = 0
  · subst h0
    rw [if_neg (by simp)]
    obtain ⟨px, hpx⟩ := bR (bJ (hf rfl).1)
    have c2 := nH 120 true 2 [conIV 110 0 [], .ptr px 0]
    have hnx : (conT 120 [conT 110 [], S1]).iv = conIV 120 2 [conIV 110 0 [], .ptr px 0] := by
      rw [eI, Tree.ivs, Tree.ivs, Tree.ivs, eI, hpx]; rfl
    rw [hnx]
    rw [hpx] at c1
    unfold conIV at *
    refine aH Tryz.func16 rfl rfl (nb rfl) rfl ?_
    repeat' (first | refine aE ?_ | (refine aG ?_;  first | refine aB tabOk rfl rfl rfl (nb rfl) rfl ?_ | (refine aI rfl rfl rfl (nb rfl) rfl rfl rfl (fun hq => ?_) (fun hq => ?_) <;> (first | (simp only [sD, sE, sB, sC, sN, sM, sT, sF] at hq; try (exfalso; omega)) | skip)) | refine aD rfl rfl (nb rfl) rfl rfl rfl rfl (c0) ?_ | refine aD rfl rfl (nb rfl) rfl rfl rfl rfl (c1) ?_ | refine aD rfl rfl (nb rfl) rfl rfl rfl rfl (c2) ?_ | refine bS tabOk rfl rfl rfl (nb rfl) rfl rfl rfl rfl rfl rfl rfl rfl rfl ?_) | (refine aK ?_;  first | refine aF ?_ | refine aL ?_ | refine aM ?_ | refine aS ?_ | refine aC (b := false) rfl nFt (fun _ => ?_)) | (refine aJ ?_;  first | refine aU ?_))
    all_goals first
      | exact absurd rfl (by assumption)
      | (refine aO (by first | exact .inl rfl | exact .inr rfl) (aV rfl (aA rfl) (aA rfl)) rfl ?_; rfl)
  · rw [if_pos h0]
    refine aH Tryz.func16 rfl rfl (nb rfl) rfl ?_
    repeat' (first | refine aE ?_ | (refine aG ?_;  first | refine aB tabOk rfl rfl rfl (nb rfl) rfl ?_ | (refine aI rfl rfl rfl (nb rfl) rfl rfl rfl (fun hq => ?_) (fun hq => ?_) <;> (first | (simp only [sD, sE, sB, sC, sN, sM, sT, sF] at hq; try (exfalso; omega)) | skip)) | refine aD rfl rfl (nb rfl) rfl rfl rfl rfl (c1) ?_) | (refine aK ?_;  first | refine aF ?_ | refine aL ?_ | refine aM ?_ | refine aC (b := true) rfl (fun _ => ?_) nTf) | (refine aJ ?_;  first | refine aN ?_))
    all_goals first
      | exact absurd (by assumption) h0
      | (refine aO (by first | exact .inl rfl | exact .inr rfl) (aV rfl (aA rfl) (aA rfl)) rfl ?_; rfl)
end Go.Proofs.YtocaohipfiapkaaGreatDoor.Ab
namespace Go.Proofs.YtocaohipfiapkaaGreatDoor.Ab
set_option linter.unusedVariables false
set_option linter.unusedSimpArgs false
def kidH : List Tree → Tree
  | [] => .nil
  | c :: _ => c
def allTok (c : Tree) : Tree × Int := if (tokP c).2 ≠ 0 then (.nil, (tokP c).2) else (conT 117 [higherT, conT 114 [(tokP c).1, (tokP c).1]], 0)
def fldOf (a : ByteArray) (R : Tree × Int) : Tree × Int := if R.2 ≠ 0 then (.nil, R.2) else (.node 116 0 a emptyB [R.1], 0)
/-- All of them, or the first error. -/
def seqP : List (Tree × Int) → List Tree × Int
  | [] => ([], 0)
  | r :: rs => if r.2 ≠ 0 then ([], r.2) else if (seqP rs).2 ≠ 0 then ([], (seqP rs).2) else (r.1 :: (seqP rs).1, 0)
def tfinP (k n : Int) (R : List Tree × Int) : Tree × Int :=
  if R.2 ≠ 0 then (.nil, R.2) else if k = 164 then (aroundP 118 n.toNat (kidH R.1), 0) else if k = 165 then (aroundP 117 n.toNat (conT 114 R.1), 0) else (conT 115 R.1, 0)
mutual
/-- The constructor of a signature, and the error. -/
def transP : Tree → Tree × Int
  | .nil => (.nil, 0)
  | .node k n _ _ kids => if k = 160 then (kidH kids, 0) else if k = 161 then allTok (kidH kids) else tfinP k n (seqP (if k = 162 then fldRs kids else plnRs kids))
def fldRs : List Tree → List (Tree × Int)
  | [] => []
  | t :: ts => fldR t :: fldRs ts
def fldR : Tree → Tree × Int
  | .nil => (.nil, 0)
  | .node _ _ a _ ks => one1 a ks
def one1 (a : ByteArray) : List Tree → Tree × Int
  | [c] => fldOf a (transP c)
  | _ => (.nil, 0)
def plnRs : List Tree → List (Tree × Int)
  | [] => []
  | t :: ts => transP t :: plnRs ts
end
theorem oG : ∀ l : List Tree, fldRs l = l.map fldR
  | [] => by rw [fldRs]; rfl
  | t :: ts => by rw [fldRs, oG ts]; rfl
theorem nI : ∀ rs : List (Tree × Int), (∀ r ∈ rs, r.2 = 0) → seqP rs = (rs.map (·.1), 0)
  | [], _ => rfl
  | r :: rs, h => by
    have ih := nI rs fun r' hr => h r' (by simp [hr])
    rw [seqP, if_neg (by simpa using h r (by simp)), if_neg (by rw [ih]; simp), ih]
    rfl
theorem xH : ∀ (rs : List (Tree × Int)) (j : Nat) (h : j < rs.length), (∀ i (hi : i < j), (rs[i]'(by omega)).2 = 0) → rs[j].2 ≠ 0 → seqP rs = ([], rs[j].2)
  | [], _, h, _, _ => by simp at h
  | r :: rs, 0, _, _, hb => by rw [List.getElem_cons_zero] at hb ⊢; rw [seqP, if_pos hb]
  | r :: rs, j + 1, h, hn, hb => by
    have h0 := hn 0 (by omega)
    rw [List.getElem_cons_zero] at h0
    rw [List.getElem_cons_succ] at hb ⊢
    have ih := xH rs j (by simpa using h) (fun i hi => by have := hn (i + 1) (by omega); rwa [List.getElem_cons_succ] at this) hb
    rw [seqP, if_neg (by simpa using h0), if_pos (by rw [ih]; exact hb), ih]
theorem xI (rs : List (Tree × Int)) (h : (seqP rs).2 = 0) : ∀ r ∈ rs, r.2 = 0 := by
  induction rs with
  | nil => intro r hr; cases hr
  | cons x rs ih =>
    rw [seqP] at h
    split at h
    · rename_i h0; exact absurd h h0
    · rename_i h0
      split at h
      · rename_i h1; exact absurd h h1
      · rename_i h1
        intro r hr
        rcases List.mem_cons.1 hr with rfl | hr
        · simpa using h0
        · exact ih (by simpa using h1) r hr
end Go.Proofs.YtocaohipfiapkaaGreatDoor.Ab
namespace Go.Proofs.YtocaohipfiapkaaGreatDoor.Ab
set_option linter.unusedVariables false
set_option linter.unusedSimpArgs false
open Go.RowKit
attribute [local irreducible] AWP AOps AExit AThen ABlock ANoGoto FeetOk
theorem mE (t : Tree) : isSigP t = true → t.whole = true → (transP t).2 = 0 → (transP t).1.whole = true ∧ (transP t).1.size ≤ 9 * t.size := by
  induction t using Tree.sind with
  | h t ih =>
    intro hs hw he
    obtain ⟨k, n, a, b, kids, rfl⟩ := bY hw
    rw [transP] at he ⊢
    rcases iC hs with ⟨hk, c, rfl, hc⟩ | ⟨rfl, hf, _⟩
    · have hcw := (bI hc).1
      have hc1 := gE hcw
      have hsz : (Tree.node k n a b [c]).size = c.size + 1 := by simp only [Tree.size, Tree.sizes]; omega
      rw [hsz]
      by_cases h160 : k = 160
      · rw [if_pos h160]
        exact ⟨hcw, by show c.size ≤ _; omega⟩
      · rw [if_neg h160, if_pos (by omega)] at he ⊢
        unfold allTok at he ⊢
        have e : kidH [c] = c := rfl
        rw [e] at he ⊢
        by_cases h0 : (tokP c).2 = 0
        · rw [if_neg (by simpa using h0)]
          have hf := oF c h0
          refine ⟨?_, ?_⟩
          · show Tree.wholes [higherT, conT 114 [_, _]] = true
            rw [Tree.wholes, Tree.wholes]
            have : (conT 114 [(tokP c).1, (tokP c).1]).whole = true := by
              show Tree.wholes [_, _] = true
              rw [Tree.wholes, Tree.wholes, hf.1]; rfl
            rw [this]; rfl
          · simp only [conT, higherT, Tree.size, Tree.sizes]
            omega
        · rw [if_pos h0] at he; exact absurd he h0
    · rw [if_neg (by decide), if_neg (by decide), if_pos rfl, oG] at he ⊢
      unfold tfinP at he ⊢
      have h0 : (seqP (kids.map fldR)).2 = 0 := by
        by_cases h : (seqP (kids.map fldR)).2 = 0
        · exact h
        · rw [if_pos h] at he; exact absurd he h
      have hall := xI _ h0
      rw [nI _ hall, if_neg (by simp), if_neg (by decide), if_neg (by decide)]
      have key : ∀ l : List Tree, (∀ t ∈ l, t ∈ kids) → Tree.wholes ((l.map fldR).map (·.1)) = true ∧ Tree.sizes ((l.map fldR).map (·.1)) ≤ 9 * Tree.sizes l := by
        intro l
        induction l with
        | nil => intro _; exact ⟨rfl, Nat.le_refl _⟩
        | cons t ts ih2 =>
          intro hm
          have hmt := hm t (by simp)
          obtain ⟨g1, g2⟩ := ih2 fun t' h' => hm t' (by simp [h'])
          have hz := bN (k := 162) (n := n) (a := a) (b := b) hmt
          have hwt := bF hw hmt
          have he1 := hall (fldR t) (List.mem_map_of_mem hmt)
          obtain ⟨n', a', b', c, rfl, hc⟩ := fG (hf t hmt)
          have hcs : (Tree.node 163 n' a' b' [c]).size = c.size + 1 := by simp only [Tree.size, Tree.sizes]; omega
          have e : fldR (.node 163 n' a' b' [c]) = fldOf a' (transP c) := by rw [fldR, one1]
          have hc0 : (transP c).2 = 0 := by
            rw [e] at he1
            unfold fldOf at he1
            by_cases h : (transP c).2 = 0
            · exact h
            · rw [if_pos h] at he1; exact absurd he1 h
          have h1 := ih c (by omega) hc (bF hwt (List.mem_singleton.2 rfl)) hc0
          have e2 : (fldR (.node 163 n' a' b' [c])).1 = .node 116 0 a' emptyB [(transP c).1] := by
            rw [e]; unfold fldOf; rw [if_neg (by simpa using hc0)]
          rw [List.map_cons, List.map_cons, e2]
          refine ⟨?_, ?_⟩
          · rw [Tree.wholes, g1]
            have : (Tree.node 116 0 a' emptyB [(transP c).1]).whole = true := by
              show Tree.wholes [_] = true
              rw [Tree.wholes, h1.1]; rfl
            rw [this]; rfl
          · simp only [Tree.sizes, Tree.size]
            omega
      have := key kids fun _ h => h
      refine ⟨this.1, ?_⟩
      simp only [conT, Tree.size]
      omega
theorem fN (t : Tree) (hf : tForm t) (hw : t.whole = true) (he : (transP t).2 = 0) : (transP t).1.whole = true ∧ (transP t).1.size ≤ 9 * t.size + 40000 := by
  have hex : ∀ t, isExP t = true → t.whole = true → (transP t).2 = 0 → (transP t).1.whole = true ∧ (transP t).1.size ≤ 9 * t.size + 17000 := by
    intro t hf hw he
    obtain ⟨n, a, b, c, rfl, h0, h1, hc⟩ := uY hf
    have hcw : c.whole = true := bF hw (List.mem_singleton.2 rfl)
    rw [transP, if_neg (by decide), if_neg (by decide), if_neg (by decide), plnRs, plnRs] at he ⊢
    have hc0 : (transP c).2 = 0 := by
      by_cases h : (transP c).2 = 0
      · exact h
      · exfalso
        have e : seqP [transP c] = ([], (transP c).2) := by rw [seqP, if_pos h]
        rw [e] at he
        unfold tfinP at he
        rw [if_pos h] at he
        exact h he
    have h2 := mE c hc hcw hc0
    have e : seqP [transP c] = ([(transP c).1], 0) := nI _ (by intro r hr; rw [List.mem_singleton.1 hr]; exact hc0)
    rw [e]
    unfold tfinP
    rw [if_neg (by simp), if_pos rfl]
    have h3 := fY 118 (transP c).1 h2.1 n.toNat
    refine ⟨h3.1, ?_⟩
    show (aroundP 118 n.toNat (transP c).1).size ≤ _
    simp only [Tree.size, Tree.sizes]
    omega
  rcases hf with h | h | h
  · have := mE t h hw he
    exact ⟨this.1, by omega⟩
  · have := hex t h hw he
    exact ⟨this.1, by omega⟩
  · obtain ⟨n, a, b, c, e, rfl, h0, h1, hc, hee⟩ := wQ h
    have hcw : c.whole = true := bF hw (by simp)
    have hew : e.whole = true := bF hw (by simp)
    rw [transP, if_neg (by decide), if_neg (by decide), if_neg (by decide), plnRs, plnRs, plnRs] at he ⊢
    have hs0 : (seqP [transP c, transP e]).2 = 0 := by
      by_cases h : (seqP [transP c, transP e]).2 = 0
      · exact h
      · exfalso
        unfold tfinP at he
        rw [if_pos h] at he
        exact h he
    have hall := xI _ hs0
    have hc0 := hall _ (List.mem_cons_self)
    have he0 := hall (transP e) (by simp)
    rw [nI _ hall]
    unfold tfinP
    rw [if_neg (by simp), if_neg (by decide), if_pos rfl]
    have h2 := mE c hc hcw hc0
    have h3 := hex e hee hew he0
    have hw4 : (conT 114 [(transP c).1, (transP e).1]).whole = true := by
      show Tree.wholes [_, _] = true
      rw [Tree.wholes, Tree.wholes, h2.1, h3.1]; rfl
    have h4 := fY 117 _ hw4 n.toNat
    refine ⟨h4.1, ?_⟩
    show (aroundP 117 n.toNat (conT 114 [(transP c).1, (transP e).1])).size ≤ _
    have h5 : (conT 114 [(transP c).1, (transP e).1]).size = 1 + (transP c).1.size + (transP e).1.size := by simp only [conT, Tree.size, Tree.sizes]; omega
    simp only [Tree.size, Tree.sizes]
    omega
set_option maxHeartbeats 4000000 in
set_option maxRecDepth 10000 in
theorem aBD (n : Int) (a b : ByteArray) (c : Tree) (hc : c.whole = true) : ACalls Tryz.prog 39 [.imm (Tree.iv (.node 163 n a b [c]))] [] (.imm c.iv) [] := by
  refine aH Tryz.func39 rfl rfl (nb rfl) rfl ?_
  repeat' (first | refine aE ?_ | (refine aG ?_;  first | refine aB tabOk rfl rfl rfl (nb rfl) rfl ?_ | (refine aI rfl rfl rfl (nb rfl) rfl rfl rfl (fun hq => ?_) (fun hq => ?_) <;> (first | (simp only [sD, sE, sB, sC, sN, sM, sT, sF] at hq; try (exfalso; omega)) | skip)) | refine aY tabOk rfl rfl rfl (nb rfl) rfl rfl rfl rfl (by first | rfl | omega) (by first | omega | simp) ?_) | (refine aK ?_;  first | refine aF ?_ | refine aL ?_ | refine aM ?_ | refine aC (b := true) rfl (fun _ => ?_) nTf) | (refine aJ ?_;  first | refine aN ?_))
  all_goals first
    | exact absurd rfl (by assumption)
    | (refine aO (by first | exact .inl rfl | exact .inr rfl) (aW rfl (aA rfl)) rfl ?_; rfl)
set_option maxHeartbeats 4000000 in
set_option maxRecDepth 10000 in
theorem oH (k n : Int) (a b : ByteArray) (kids : List Tree) (hk : k ≠ 163) : ACalls Tryz.prog 39 [.imm (Tree.iv (.node k n a b kids))] [] (.imm (Tree.iv (.node k n a b kids))) [] := by
  refine aH Tryz.func39 rfl rfl (nb rfl) rfl ?_
  repeat' (first | refine aE ?_ | (refine aG ?_;  first | refine aB tabOk rfl rfl rfl (nb rfl) rfl ?_ | (refine aI rfl rfl rfl (nb rfl) rfl rfl rfl (fun hq => ?_) (fun hq => ?_) <;> (first | (simp only [sD, sE, sB, sC, sN, sM, sT, sF] at hq; try (exfalso; omega)) | skip))) | (refine aK ?_;  first | refine aF ?_ | refine aL ?_ | refine aM ?_ | refine aS ?_ | refine aC (b := false) rfl nFt (fun _ => ?_)) | (refine aJ ?_;  first | refine aU ?_))
  all_goals first
    | exact absurd (by assumption) hk
    | (refine aO (by first | exact .inl rfl | exact .inr rfl) (aW rfl (aA rfl)) rfl ?_; rfl)
end Go.Proofs.YtocaohipfiapkaaGreatDoor.Ab
namespace Go.Proofs.YtocaohipfiapkaaGreatDoor.Ab
set_option linter.unusedVariables false
set_option linter.unusedSimpArgs false
open Go.RowKit
attribute [local irreducible] AWP AOps AExit AThen ABlock ANoGoto FeetOk
theorem aCU (a : ByteArray) (R : Tree × Int) (pr : List IV) (h0 : R.2 = 0) (hp : R.1.iv = .ptr pr 0) : (fldOf a R).1.iv = .ptr [.lit (.int .i64 116), .lit (.int .i64 0), .lit (.string a), .lit (.string ⟨#[]⟩), .sl false 1 [.ptr pr 0]] 0 := by
  unfold fldOf
  rw [if_neg (by simpa using h0), Tree.iv, Tree.ivs, Tree.ivs, hp]
  rfl
theorem uB (a : ByteArray) (R : Tree × Int) : (fldOf a R).2 = R.2 := by
  unfold fldOf
  by_cases h : R.2 = 0
  · rw [if_neg (by simpa using h), h]
  · rw [if_pos h]
set_option maxHeartbeats 16000000 in
set_option maxRecDepth 10000 in
theorem kG (k n : Int) (a b : ByteArray) (kids : List Tree) (rs : List (Tree × Int)) (hk3 : k = 162 ∨ k = 164 ∨ k = 165) (hn : k ≠ 162 → 0 ≤ n ∧ n ≤ 8192) (h1 : k = 164 → kids.length = 1) (hl : kids.length ≤ 100000000) (hlen : rs.length = kids.length)
    (hk : ∀ j (h : j < kids.length) (h' : j < rs.length), ∃ kk nn aa bb ks c, kids[j] = .node kk nn aa bb ks ∧ ACalls Tryz.prog 39 [.imm kids[j].iv] [] (.imm c.iv) [] ∧
      ACalls Tryz.prog 21 [.imm c.iv] [] (.imm (.tup [(transP c).1.iv, .lit (.int .i64 (transP c).2)])) [] ∧ ((transP c).2 = 0 → (transP c).1.whole = true) ∧ ((kk = 163 ∧ rs[j] = fldOf aa (transP c)) ∨ (kk ≠ 163 ∧ rs[j] = transP c))) :
    ACalls Tryz.prog 21 [.imm (Tree.iv (.node k n a b kids))] [] (.imm (.tup [(tfinP k n (seqP rs)).1.iv, .lit (.int .i64 (tfinP k n (seqP rs)).2)])) [] := by
  obtain ⟨Q, hQ⟩ : ∃ Q, tfinP k n (seqP rs) = Q := ⟨_, rfl⟩
  rw [hQ]
  refine aH Tryz.func21 rfl rfl (nb rfl) rfl ?_
  repeat' (first | refine aE ?_ | (refine aG ?_;  first | refine aB tabOk rfl rfl rfl (nb rfl) rfl ?_ | (refine aI rfl rfl rfl (nb rfl) rfl rfl rfl (fun hq => ?_) (fun hq => ?_) <;> (first | (simp only [sD, sE, sB, sC, sN, sM, sT, sF] at hq; try (exfalso; omega)) | skip)) | refine aT tabOk rfl rfl (nb rfl) rfl ?_) | (refine aK ?_;  first | refine aF ?_ | refine aL ?_ | refine aR ?_ | refine aS ?_ | refine aC (b := false) rfl nFt (fun _ => ?_)) | (refine aJ ?_;  first | refine aU ?_) | (refine aP ?_;  first | refine bM ?_))
  all_goals first
    | (exfalso; omega)
    | skip
  refine cP (mL (t := 6) 500 25 1 rfl (by simp) rfl rfl) ?_
  refine bZ (ι := {j : Nat // j ≤ kids.length ∧ ∀ i (hi : i < j) (hi2 : i < rs.length), (rs[i]).2 = 0 ∧ (rs[i]).1.whole = true}) (fun j => S.f ⟨[(50, .imm (.lit (.int .i64 (j.1 : Int)))), (49, .imm (.lit (.int .i64 (kids.length : Int)))), (48, .imm (.sl false kids.length (Tree.ivs kids))), (6, .ref 500 j.1), (0, .imm (Tree.iv (.node k n a b kids)))], [(500, .arr 25 1 j.1 (Tree.ivs ((rs.take j.1).map (·.1))))]⟩) (fun j => kids.length - j.1) ⟨0, Nat.zero_le _, fun i hi => absurd hi (by omega)⟩ (bT (by repeat' first | exact trivial | refine ⟨rfl, ?_⟩) (by repeat' first | exact trivial | refine ⟨rfl, ?_⟩)) ?_
  rintro ⟨j, hj, hok⟩
  dsimp only
  have hil := dG ((rs.take j).map (·.1))
  rw [List.length_map, List.length_take, hlen, Nat.min_eq_left hj] at hil
  by_cases hlt : j < kids.length
  · have hlt2 : j < rs.length := by omega
    have hget := cC kids j hlt
    obtain ⟨kk, nn, aa, bb, ks, c, ek, ci, ct, cw, hr⟩ := hk j hlt hlt2
    have hnx : Tree.ivs ((rs.take (j + 1)).map (·.1)) = Tree.ivs ((rs.take j).map (·.1)) ++ [rs[j].1.iv] := by
      rw [List.take_succ_eq_append_getElem hlt2, List.map_append, dC, dC, List.map_append]; rfl
    rw [ek] at hget ci
    by_cases h0 : (transP c).2 = 0
    · have hw0 := cw h0
      obtain ⟨pr, hpr⟩ := bR (bJ hw0)
      rw [h0, hpr] at ct
      have hr2 : rs[j].2 = 0 ∧ rs[j].1.whole = true := by
        rcases hr with ⟨_, e⟩ | ⟨_, e⟩
        · rw [e, uB]
          refine ⟨h0, ?_⟩
          unfold fldOf
          rw [if_neg (by simpa using h0)]
          show Tree.wholes [_] = true
          rw [Tree.wholes, hw0]; rfl
        · rw [e]; exact ⟨h0, hw0⟩
      have hok2 : ∀ i (hi : i < j + 1) (hi2 : i < rs.length), (rs[i]).2 = 0 ∧ (rs[i]).1.whole = true := fun i hi hi2 => by
        by_cases hij : i = j
        · subst hij; exact hr2
        · exact hok i (by omega) hi2
      rcases hr with ⟨hkk, e⟩ | ⟨hkk, e⟩
      · rw [e, aCU aa _ pr h0 hpr] at hnx
        clear hk hQ hr2 ek
        generalize Tree.ivs ((rs.take j).map (·.1)) = ZI at *
        repeat' (first | refine aE ?_ | (refine aG ?_;  first | refine aB tabOk rfl rfl rfl (nb rfl) rfl ?_ | (refine aI rfl rfl rfl (nb rfl) rfl rfl rfl (fun hq => ?_) (fun hq => ?_) <;> (first | (simp only [sD, sE, sB, sC, sN, sM, sT, sF] at hq; try (exfalso; omega)) | skip)) | refine bA tabOk rfl rfl rfl (nb rfl) rfl rfl rfl hget ?_ | refine aD rfl rfl (nb rfl) rfl rfl rfl rfl (ci) ?_ | refine aD rfl rfl (nb rfl) rfl rfl rfl rfl (ct) ?_ | refine cI tabOk rfl rfl rfl (nb rfl) rfl rfl rfl rfl rfl rfl rfl (by first | omega | decide) rfl (by first | omega | (dsimp only; omega)) (by first | omega | (dsimp only; omega)) ?_ | refine bO rfl rfl rfl (nb rfl) rfl rfl (by omega) ?_ | refine bS tabOk rfl rfl rfl (nb rfl) rfl rfl rfl rfl rfl rfl rfl rfl rfl ?_ | refine aT tabOk rfl rfl (nb rfl) rfl ?_ | refine bB tabOk rfl rfl rfl (nb rfl) rfl rfl rfl rfl (by first | assumption | omega) ?_) | (refine aK ?_;  first | refine aF ?_ | refine aL ?_ | refine bD ?_ | refine aR ?_ | refine aS ?_ | refine aC (b := true) rfl (fun _ => ?_) nTf | refine aC (b := false) rfl nFt (fun _ => ?_)) | (refine aJ ?_;  first | refine aU ?_) | (refine aP ?_;  first | refine bM ?_))
        all_goals first
          | exact absurd rfl (by assumption)
          | exact absurd hkk (by assumption)
          | (exfalso; omega)
          | (refine ⟨⟨j + 1, hlt, hok2⟩, (by show kids.length - (j + 1) < kids.length - j; omega), ?_⟩; dsimp only; rw [hnx]; exact (bT (by repeat' first | exact trivial | refine ⟨rfl, ?_⟩) (by repeat' first | exact trivial | refine ⟨rfl, ?_⟩)))
      · rw [e, hpr] at hnx
        clear hk hQ hr2 ek
        generalize Tree.ivs ((rs.take j).map (·.1)) = ZI at *
        repeat' (first | refine aE ?_ | (refine aG ?_;  first | refine aB tabOk rfl rfl rfl (nb rfl) rfl ?_ | (refine aI rfl rfl rfl (nb rfl) rfl rfl rfl (fun hq => ?_) (fun hq => ?_) <;> (first | (simp only [sD, sE, sB, sC, sN, sM, sT, sF] at hq; try (exfalso; omega)) | skip)) | refine bA tabOk rfl rfl rfl (nb rfl) rfl rfl rfl hget ?_ | refine aD rfl rfl (nb rfl) rfl rfl rfl rfl (ci) ?_ | refine aD rfl rfl (nb rfl) rfl rfl rfl rfl (ct) ?_ | refine cI tabOk rfl rfl rfl (nb rfl) rfl rfl rfl rfl rfl rfl rfl (by first | omega | decide) rfl (by first | omega | (dsimp only; omega)) (by first | omega | (dsimp only; omega)) ?_ | refine bO rfl rfl rfl (nb rfl) rfl rfl (by omega) ?_ | refine bS tabOk rfl rfl rfl (nb rfl) rfl rfl rfl rfl rfl rfl rfl rfl rfl ?_ | refine bB tabOk rfl rfl rfl (nb rfl) rfl rfl rfl rfl (by first | assumption | omega) ?_) | (refine aK ?_;  first | refine aF ?_ | refine aL ?_ | refine bD ?_ | refine aR ?_ | refine aS ?_ | refine aC (b := true) rfl (fun _ => ?_) nTf | refine aC (b := false) rfl nFt (fun _ => ?_)) | (refine aJ ?_;  first | refine aU ?_) | (refine aP ?_;  first | refine bM ?_))
        all_goals first
          | exact absurd rfl (by assumption)
          | exact absurd (by assumption) hkk
          | (exfalso; omega)
          | (refine ⟨⟨j + 1, hlt, hok2⟩, (by show kids.length - (j + 1) < kids.length - j; omega), ?_⟩; dsimp only; rw [hnx]; exact (bT (by repeat' first | exact trivial | refine ⟨rfl, ?_⟩) (by repeat' first | exact trivial | refine ⟨rfl, ?_⟩)))
    · have hr2 : rs[j].2 = (transP c).2 := by
        rcases hr with ⟨_, e⟩ | ⟨_, e⟩
        · rw [e, uB]
        · rw [e]
      have hbad := xH rs j hlt2 (fun i hi => (hok i hi (by omega)).1) (by rw [hr2]; exact h0)
      have hQ2 : Q = (.nil, (transP c).2) := by
        rw [← hQ, hbad, hr2]; unfold tfinP; rw [if_pos h0]
      subst hQ2
      clear hk hQ hr hr2 hbad ek hnx
      generalize Tree.ivs ((rs.take j).map (·.1)) = ZI at *
      generalize (transP c).2 = E at *
      repeat' (first | refine aE ?_ | (refine aG ?_;  first | refine aB tabOk rfl rfl rfl (nb rfl) rfl ?_ | (refine aI rfl rfl rfl (nb rfl) rfl rfl rfl (fun hq => ?_) (fun hq => ?_) <;> (first | (simp only [sD, sE, sB, sC, sN, sM, sT, sF] at hq; try (exfalso; omega)) | skip)) | refine bA tabOk rfl rfl rfl (nb rfl) rfl rfl rfl hget ?_ | refine aD rfl rfl (nb rfl) rfl rfl rfl rfl (ci) ?_ | refine aD rfl rfl (nb rfl) rfl rfl rfl rfl (ct) ?_ | refine bB tabOk rfl rfl rfl (nb rfl) rfl rfl rfl rfl (by first | assumption | omega) ?_) | (refine aK ?_;  first | refine aF ?_ | refine aL ?_ | refine aR ?_ | refine aM ?_ | refine aS ?_ | refine aC (b := true) rfl (fun _ => ?_) nTf) | (refine aJ ?_;  first | refine aU ?_ | refine aN ?_) | (refine aP ?_;  first | refine aX ?_))
      all_goals first
        | exact absurd (by assumption) h0
        | exact absurd rfl (by assumption)
        | (exfalso; omega)
        | (refine aO (by first | exact .inl rfl | exact .inr rfl) (aV rfl (aA rfl) (aA rfl)) rfl ?_; rfl)
  · have ej : j = kids.length := by omega
    subst ej
    have et : rs.take kids.length = rs := by rw [← hlen, List.take_length]
    rw [et] at hil ⊢
    have hall : ∀ r ∈ rs, r.2 = 0 := fun r hr => by
      obtain ⟨i, hi, rfl⟩ := List.getElem_of_mem hr
      exact (hok i (by omega) hi).1
    have hallw : ∀ r ∈ rs, r.1.whole = true := fun r hr => by
      obtain ⟨i, hi, rfl⟩ := List.getElem_of_mem hr
      exact (hok i (by omega) hi).2
    have hseq := nI rs hall
    rw [hseq] at hQ
    unfold tfinP at hQ
    rw [if_neg (by simp)] at hQ
    obtain ⟨L, hL⟩ : ∃ L, rs.map (·.1) = L := ⟨_, rfl⟩
    rw [hL] at hQ ⊢
    have hLl : L.length = kids.length := by rw [← hL, List.length_map, hlen]
    have hLw : ∀ t ∈ L, t.whole = true := fun t ht => by
      rw [← hL] at ht
      obtain ⟨r, hr, rfl⟩ := List.mem_map.1 ht
      exact hallw r hr
    rw [hL] at hil
    clear hk hok hall hallw hseq et
    refine cP ((Imp.of_le (σ' := S.f ⟨[(50, .imm (.lit (.int .i64 (kids.length : Int)))), (49, .imm (.lit (.int .i64 (kids.length : Int)))), (6, .ref 500 kids.length), (0, .imm (Tree.iv (.node k n a b kids)))], [(500, .arr 25 1 kids.length (Tree.ivs L))]⟩) (bT (by repeat' first | exact trivial | refine ⟨rfl, ?_⟩) (by repeat' first | exact trivial | refine ⟨rfl, ?_⟩))).trans (cM (g := 500) rfl (by repeat' first | exact trivial | exact fun _ => rfl | refine ⟨?_, ?_⟩) (by repeat' first | exact trivial | exact fun _ => rfl | refine ⟨?_, ?_⟩))) ?_
    by_cases k164 : k = 164
    · have hl1 := h1 k164
      obtain ⟨x, rfl⟩ := one_of (by rw [hLl, hl1] : L.length = 1)
      have hn1 := hn (by omega)
      have hxw := hLw x (by simp)
      rw [if_pos k164] at hQ
      have hQ2 : Q = (aroundP 118 n.toNat x, 0) := by rw [← hQ]; rfl
      subst hQ2
      have ca := xG 118 n x hxw hn1.1 (by omega)
      have h0 : (Tree.ivs [x])[0 * 1]? = some x.iv := rfl
      rw [hl1] at *
      obtain ⟨px, hpx⟩ := bR (bJ hxw)
      rw [hpx] at ca h0
      generalize Tree.ivs [x] = ZI at *
      repeat' (first | refine aE ?_ | (refine aG ?_;  first | refine aB tabOk rfl rfl rfl (nb rfl) rfl ?_ | (refine aI rfl rfl rfl (nb rfl) rfl rfl rfl (fun hq => ?_) (fun hq => ?_) <;> (first | (simp only [sD, sE, sB, sC, sN, sM, sT, sF] at hq; try (exfalso; omega)) | skip)) | refine bA tabOk rfl rfl rfl (nb rfl) rfl rfl rfl h0 ?_ | refine aD rfl rfl (nb rfl) rfl rfl rfl rfl (ca) ?_ | refine aY tabOk rfl rfl rfl (nb rfl) rfl rfl rfl rfl (by first | rfl | omega) (by first | omega | simp) ?_) | (refine aK ?_;  first | refine aF ?_ | refine aL ?_ | refine aR ?_ | refine aM ?_ | refine bQ ?_ | refine aC (b := true) rfl (fun _ => ?_) nTf | refine aC (b := false) rfl nFt (fun _ => ?_) | refine aQ mixed (by kernel_rfl) ?_) | (refine aJ ?_;  first | refine aU ?_ | refine bH ?_ | refine aN ?_) | (refine aP ?_;  first | refine bE ?_ | refine aX ?_) | refine bC (aZ (by kernel_rfl)) ?_)
      all_goals first
        | exact absurd rfl (by assumption)
        | exact absurd k164 (by assumption)
        | (exfalso; omega)
        | (refine aO (by first | exact .inl rfl | exact .inr rfl) (aV rfl (aA rfl) (aA rfl)) rfl ?_; rfl)
    · rw [if_neg k164] at hQ
      by_cases k165 : k = 165
      · rw [if_pos k165] at hQ
        have hn1 := hn (by omega)
        have hw4 : (conT 114 L).whole = true := tH hLw
        have ca := xG 117 n (conT 114 L) hw4 hn1.1 (by omega)
        have c1 := nH 114 false kids.length (Tree.ivs L)
        have e4 : (conT 114 L).iv = conIV 114 kids.length (Tree.ivs L) := by rw [eI, hLl]
        rw [e4] at ca
        subst hQ
        dsimp only
        generalize Tree.ivs L = ZI at *
        unfold conIV at *
        repeat' (first | refine aE ?_ | (refine aG ?_;  first | refine aB tabOk rfl rfl rfl (nb rfl) rfl ?_ | (refine aI rfl rfl rfl (nb rfl) rfl rfl rfl (fun hq => ?_) (fun hq => ?_) <;> (first | (simp only [sD, sE, sB, sC, sN, sM, sT, sF] at hq; try (exfalso; omega)) | skip)) | refine aD rfl rfl (nb rfl) rfl rfl rfl rfl (c1) ?_ | refine aD rfl rfl (nb rfl) rfl rfl rfl rfl (ca) ?_) | (refine aK ?_;  first | refine aF ?_ | refine aL ?_ | refine aR ?_ | refine aM ?_ | refine bQ ?_ | refine aC (b := true) rfl (fun _ => ?_) nTf | refine aC (b := false) rfl nFt (fun _ => ?_) | refine aQ mixed (by kernel_rfl) ?_) | (refine aJ ?_;  first | refine aU ?_ | refine bH ?_ | refine aN ?_) | (refine aP ?_;  first | refine bE ?_ | refine aX ?_) | refine bC (aZ (by kernel_rfl)) ?_)
        all_goals first
          | exact absurd rfl (by assumption)
          | exact absurd (by assumption) k164
          | exact absurd k165 (by assumption)
          | (exfalso; omega)
          | (refine aO (by first | exact .inl rfl | exact .inr rfl) (aV rfl (aA rfl) (aA rfl)) rfl ?_; rfl)
      · rw [if_neg k165] at hQ
        have c1 := nH 115 false kids.length (Tree.ivs L)
        have e4 : (conT 115 L).iv = conIV 115 kids.length (Tree.ivs L) := by rw [eI, hLl]
        subst hQ
        dsimp only
        rw [e4]
        generalize Tree.ivs L = ZI at *
        unfold conIV at *
        repeat' (first | refine aE ?_ | (refine aG ?_;  first | refine aB tabOk rfl rfl rfl (nb rfl) rfl ?_ | (refine aI rfl rfl rfl (nb rfl) rfl rfl rfl (fun hq => ?_) (fun hq => ?_) <;> (first | (simp only [sD, sE, sB, sC, sN, sM, sT, sF] at hq; try (exfalso; omega)) | skip)) | refine aD rfl rfl (nb rfl) rfl rfl rfl rfl (c1) ?_) | (refine aK ?_;  first | refine aF ?_ | refine aL ?_ | refine aR ?_ | refine aM ?_ | refine bQ ?_ | refine aS ?_ | refine aC (b := false) rfl nFt (fun _ => ?_)) | (refine aJ ?_;  first | refine aU ?_ | refine bH ?_) | (refine aP ?_;  first | refine bM ?_ | refine bE ?_))
        all_goals first
          | exact absurd rfl (by assumption)
          | exact absurd (by assumption) k164
          | exact absurd (by assumption) k165
          | (exfalso; omega)
          | (refine aO (by first | exact .inl rfl | exact .inr rfl) (aV rfl (aA rfl) (aA rfl)) rfl ?_; rfl)
end Go.Proofs.YtocaohipfiapkaaGreatDoor.Ab
namespace Go.Proofs.YtocaohipfiapkaaGreatDoor.Ab
set_option linter.unusedVariables false
set_option linter.unusedSimpArgs false
open Go.RowKit
attribute [local irreducible] AWP AOps AExit AThen ABlock ANoGoto FeetOk
theorem aCV (k n : Int) (R : List Tree × Int) (h0 : (tfinP k n R).2 ≠ 0) : (tfinP k n R).1 = .nil := by
  unfold tfinP at h0 ⊢
  split
  · rfl
  · rename_i h1
    rw [if_neg h1] at h0
    exfalso
    revert h0
    split
    · simp
    · split <;> simp
theorem zP (t : Tree) (h0 : (transP t).2 ≠ 0) : (transP t).1 = .nil := by
  cases t with
  | nil => rw [transP] at h0; exact absurd rfl h0
  | node k n a b kids =>
    rw [transP] at h0 ⊢
    split
    · rename_i h1; rw [if_pos h1] at h0; exact absurd rfl h0
    · rename_i h1
      rw [if_neg h1] at h0
      split
      · rename_i h2
        rw [if_pos h2] at h0
        unfold allTok at h0 ⊢
        split
        · rfl
        · rename_i h3; rw [if_neg h3] at h0; exact absurd rfl h0
      · rename_i h2
        rw [if_neg h2] at h0
        exact aCV _ _ _ h0
theorem iY : higherT.iv = conIV 101 2 [conIV 100 0 [], conIV 100 0 []] := by
  unfold higherT
  rw [eI, Tree.ivs, Tree.ivs, Tree.ivs, eI, Tree.ivs]
  rfl
set_option maxHeartbeats 8000000 in
set_option maxRecDepth 10000 in
theorem zQ (n : Int) (a b : ByteArray) (c : Tree) (hcs : c.size ≤ 100000000) : ACalls Tryz.prog 21 [.imm (Tree.iv (.node 161 n a b [c]))] [] (.imm (.tup [(allTok c).1.iv, .lit (.int .i64 (allTok c).2)])) [] := by
  have c1 := aAu c hcs
  have c0 := xF
  have hf := oF c
  rw [iY] at c0
  unfold allTok
  generalize tokP c = S at *
  obtain ⟨S1, S2⟩ := S
  dsimp only at *
  by_cases h0 : S2 = 0
  · subst h0
    rw [if_neg (by simp)]
    obtain ⟨px, hpx⟩ := bR (bJ (hf rfl).1)
    have c2 := nH 114 true 2 [.ptr px 0, .ptr px 0]
    have c3 := nH 117 true 2 [conIV 101 2 [conIV 100 0 [], conIV 100 0 []], conIV 114 2 [.ptr px 0, .ptr px 0]]
    have hnx : (conT 117 [higherT, conT 114 [S1, S1]]).iv = conIV 117 2 [conIV 101 2 [conIV 100 0 [], conIV 100 0 []], conIV 114 2 [.ptr px 0, .ptr px 0]] := by
      rw [eI, Tree.ivs, Tree.ivs, Tree.ivs, iY, eI, Tree.ivs, Tree.ivs, Tree.ivs, hpx]; rfl
    rw [hnx]
    rw [hpx] at c1
    clear hf hnx
    unfold conIV at *
    refine aH Tryz.func21 rfl rfl (nb rfl) rfl ?_
    repeat' (first | refine aE ?_ | (refine aG ?_;  first | refine aB tabOk rfl rfl rfl (nb rfl) rfl ?_ | (refine aI rfl rfl rfl (nb rfl) rfl rfl rfl (fun hq => ?_) (fun hq => ?_) <;> (first | (simp only [sD, sE, sB, sC, sN, sM, sT, sF] at hq; try (exfalso; omega)) | skip)) | refine aD rfl rfl (nb rfl) rfl rfl rfl rfl (c0) ?_ | refine aD rfl rfl (nb rfl) rfl rfl rfl rfl (c1) ?_ | refine aD rfl rfl (nb rfl) rfl rfl rfl rfl (c2) ?_ | refine aD rfl rfl (nb rfl) rfl rfl rfl rfl (c3) ?_ | refine bS tabOk rfl rfl rfl (nb rfl) rfl rfl rfl rfl rfl rfl rfl rfl rfl ?_ | refine aY tabOk rfl rfl rfl (nb rfl) rfl rfl rfl rfl (by first | rfl | omega) (by first | omega | simp) ?_) | (refine aK ?_;  first | refine aF ?_ | refine aL ?_ | refine aR ?_ | refine aM ?_ | refine aS ?_ | refine aC (b := true) rfl (fun _ => ?_) nTf | refine aC (b := false) rfl nFt (fun _ => ?_)) | (refine aJ ?_;  first | refine aU ?_ | refine aN ?_) | (refine aP ?_;  first | refine aX ?_))
    all_goals first
      | exact absurd rfl (by assumption)
      | (refine aO (by first | exact .inl rfl | exact .inr rfl) (aV rfl (aA rfl) (aA rfl)) rfl ?_; rfl)
  · rw [if_pos h0]
    refine aH Tryz.func21 rfl rfl (nb rfl) rfl ?_
    repeat' (first | refine aE ?_ | (refine aG ?_;  first | refine aB tabOk rfl rfl rfl (nb rfl) rfl ?_ | (refine aI rfl rfl rfl (nb rfl) rfl rfl rfl (fun hq => ?_) (fun hq => ?_) <;> (first | (simp only [sD, sE, sB, sC, sN, sM, sT, sF] at hq; try (exfalso; omega)) | skip)) | refine aD rfl rfl (nb rfl) rfl rfl rfl rfl (c1) ?_ | refine aY tabOk rfl rfl rfl (nb rfl) rfl rfl rfl rfl (by first | rfl | omega) (by first | omega | simp) ?_) | (refine aK ?_;  first | refine aF ?_ | refine aL ?_ | refine aR ?_ | refine aM ?_ | refine aC (b := true) rfl (fun _ => ?_) nTf | refine aC (b := false) rfl nFt (fun _ => ?_)) | (refine aJ ?_;  first | refine aN ?_) | (refine aP ?_;  first | refine aX ?_))
    all_goals first
      | exact absurd (by assumption) h0
      | exact absurd rfl (by assumption)
      | (refine aO (by first | exact .inl rfl | exact .inr rfl) (aV rfl (aA rfl) (aA rfl)) rfl ?_; rfl)
set_option maxHeartbeats 8000000 in
set_option maxRecDepth 10000 in
theorem zR (n : Int) (a b : ByteArray) (c : Tree) : ACalls Tryz.prog 21 [.imm (Tree.iv (.node 160 n a b [c]))] [] (.imm (.tup [c.iv, .lit (.int .i64 0)])) [] := by
  refine aH Tryz.func21 rfl rfl (nb rfl) rfl ?_
  repeat' (first | refine aE ?_ | (refine aG ?_;  first | refine aB tabOk rfl rfl rfl (nb rfl) rfl ?_ | (refine aI rfl rfl rfl (nb rfl) rfl rfl rfl (fun hq => ?_) (fun hq => ?_) <;> (first | (simp only [sD, sE, sB, sC, sN, sM, sT, sF] at hq; try (exfalso; omega)) | skip)) | refine aY tabOk rfl rfl rfl (nb rfl) rfl rfl rfl rfl (by first | rfl | omega) (by first | omega | simp) ?_) | (refine aK ?_;  first | refine aF ?_ | refine aL ?_ | refine aR ?_ | refine aM ?_ | refine aC (b := true) rfl (fun _ => ?_) nTf) | (refine aJ ?_;  first | refine aN ?_) | (refine aP ?_;  first | refine aX ?_))
  all_goals first
    | exact absurd rfl (by assumption)
    | (refine aO (by first | exact .inl rfl | exact .inr rfl) (aV rfl (aA rfl) (aA rfl)) rfl ?_; rfl)
theorem aDP (t : Tree) : tForm t → t.whole = true → t.size ≤ 100000000 → ACalls Tryz.prog 21 [.imm t.iv] [] (.imm (.tup [(transP t).1.iv, .lit (.int .i64 (transP t).2)])) [] := by
  induction t using Tree.sind with
  | h t ih =>
    intro hf hw hs
    have hfin := hf
    obtain ⟨k, n, a, b, kids, rfl⟩ := bY hw
    rcases hf with hf | hf | hf
    · rcases iC hf with ⟨hk, c, rfl, hc⟩ | ⟨rfl, hfl, _⟩
      · have hcw := (bI hc).1
        have hsz : (Tree.node k n a b [c]).size = c.size + 1 := by simp only [Tree.size, Tree.sizes]; omega
        rw [transP]
        rcases hk with rfl | rfl
        · rw [if_pos rfl]
          exact zR n a b c
        · rw [if_neg (by decide), if_pos rfl]
          exact zQ n a b c (by omega)
      · rw [transP, if_neg (by decide), if_neg (by decide), if_pos rfl, oG]
        have hkl := cG kids hw
        have hsz : (Tree.node 162 n a b kids).size = 1 + Tree.sizes kids := by simp only [Tree.size]; try omega
        refine kG 162 n a b kids (kids.map fldR) (.inl rfl) (fun e => absurd rfl e) (fun e => absurd e (by decide)) (by omega) (by rw [List.length_map]) ?_
        intro j hj hj'
        have hm := List.getElem_mem hj
        obtain ⟨n', a', b', c, e, hc⟩ := fG (hfl _ hm)
        have hz := bN (k := 162) (n := n) (a := a) (b := b) hm
        have hwm := bF hw hm
        rw [List.getElem_map, e]
        rw [e] at hz hwm
        have hcw : c.whole = true := bF hwm (List.mem_singleton.2 rfl)
        have hcs : (Tree.node 163 n' a' b' [c]).size = c.size + 1 := by simp only [Tree.size, Tree.sizes]; omega
        exact ⟨163, n', a', b', [c], c, rfl, aBD n' a' b' c hcw, ih c (by omega) (.inl hc) hcw (by omega), fun h0 => (fN c (.inl hc) hcw h0).1, .inl ⟨rfl, by rw [fldR, one1]⟩⟩
    · obtain ⟨n', a', b', c, e, g0, g1, hc⟩ := uY hf
      cases e
      have hcw : c.whole = true := bF hw (List.mem_singleton.2 rfl)
      have hsz : (Tree.node 164 n a b [c]).size = c.size + 1 := by simp only [Tree.size, Tree.sizes]; omega
      rw [transP, if_neg (by decide), if_neg (by decide), if_neg (by decide), plnRs, plnRs]
      refine kG 164 n a b [c] [transP c] (.inr (.inl rfl)) (fun _ => ⟨g0, g1⟩) (fun _ => rfl) (by simp) rfl ?_
      intro j hj hj'
      obtain rfl : j = 0 := by simp only [List.length_cons, List.length_nil] at hj; omega
      obtain ⟨kk, nn, aa, bb, ks, rfl⟩ := bY hcw
      have hk : kk ≠ 163 := fun e => by subst e; rcases iC hc with ⟨h, _⟩ | ⟨h, _⟩ <;> omega
      exact ⟨kk, nn, aa, bb, ks, _, rfl, oH kk nn aa bb ks hk, ih _ (by omega) (.inl hc) hcw (by omega), fun h0 => (fN _ (.inl hc) hcw h0).1, .inr ⟨hk, rfl⟩⟩
    · obtain ⟨n', a', b', c, x, e, g0, g1, hc, hx⟩ := wQ hf
      cases e
      have hcw : c.whole = true := bF hw (by simp)
      have hxw : x.whole = true := bF hw (by simp)
      have hsz : (Tree.node 165 n a b [c, x]).size = c.size + x.size + 1 := by simp only [Tree.size, Tree.sizes]; omega
      have hc1 := gE hcw
      have hx1 := gE hxw
      rw [transP, if_neg (by decide), if_neg (by decide), if_neg (by decide), plnRs, plnRs, plnRs]
      refine kG 165 n a b [c, x] [transP c, transP x] (.inr (.inr rfl)) (fun _ => ⟨g0, g1⟩) (fun e => absurd e (by decide)) (by simp) rfl ?_
      intro j hj hj'
      simp only [List.length_cons, List.length_nil] at hj
      match j, hj with
      | 0, _ =>
        obtain ⟨kk, nn, aa, bb, ks, rfl⟩ := bY hcw
        have hk : kk ≠ 163 := fun e => by subst e; rcases iC hc with ⟨h, _⟩ | ⟨h, _⟩ <;> omega
        exact ⟨kk, nn, aa, bb, ks, _, rfl, oH kk nn aa bb ks hk, ih _ (by omega) (.inl hc) hcw (by omega), fun h0 => (fN _ (.inl hc) hcw h0).1, .inr ⟨hk, rfl⟩⟩
      | 1, _ =>
        obtain ⟨nn, aa, bb, c2, rfl, _⟩ := uY hx
        exact ⟨164, nn, aa, bb, [c2], _, rfl, oH 164 nn aa bb [c2] (by decide), ih _ (by omega) (.inr (.inl hx)) hxw (by omega), fun h0 => (fN _ (.inr (.inl hx)) hxw h0).1, .inr ⟨by decide, rfl⟩⟩
      | j + 2, h => omega
/-- What sem.Trans tells. -/
def sTransP (t : Tree) : Tree × Int := if checkP sformP t ≠ 0 then (.nil, checkP sformP t) else sizedP (transP t).1 (transP t).2
/-- What sem.Token tells. -/
def tokT (T : Tree) : Tree := conT 139 [higherT, conT 134 [T, conT 130 []]]
def sTokenP (c : Tree) : Tree × Int := if checkP isConP c ≠ 0 then (.nil, checkP isConP c) else if (tokP c).2 ≠ 0 then (.nil, (tokP c).2) else sizedP (tokT (tokP c).1) 0
set_option maxHeartbeats 4000000 in
set_option maxRecDepth 10000 in
theorem aAv (t : Tree) (hs : t.size ≤ 100000) : ACalls Tryz.prog 8 [.imm t.iv] [] (.imm (.tup [(sTransP t).1.iv, .lit (.int .i64 (sTransP t).2)])) [] := by
  have c1 := qY t (by omega)
  obtain ⟨Q, hQ⟩ : ∃ Q, sTransP t = Q := ⟨_, rfl⟩
  rw [hQ]
  unfold sTransP at hQ
  by_cases hc : checkP sformP t = 0
  · rw [if_neg (by simpa using hc)] at hQ
    rw [hc] at c1
    obtain ⟨hw, hz, hf⟩ := bI hc
    have ht := aCB hf
    have c2 := aDP t ht hw (by omega)
    have hsz : (transP t).1.size ≤ 100000000 := by
      by_cases h0 : (transP t).2 = 0
      · have := (fN t ht hw h0).2; omega
      · rw [zP t h0]; decide
    have c3 := aAm (transP t).1 (transP t).2 hsz
    rw [hQ] at c3
    clear hQ hsz ht hf hw hz hc
    generalize transP t = W at *
    obtain ⟨W1, W2⟩ := W
    obtain ⟨Q1, Q2⟩ := Q
    dsimp only at *
    refine aH Tryz.func8 rfl rfl (nb rfl) rfl ?_
    repeat' (first | refine aE ?_ | (refine aG ?_;  first | refine aB tabOk rfl rfl rfl (nb rfl) rfl ?_ | (refine aI rfl rfl rfl (nb rfl) rfl rfl rfl (fun hq => ?_) (fun hq => ?_) <;> (first | (simp only [sD, sE, sB, sC, sN, sM, sT, sF] at hq; try (exfalso; omega)) | skip)) | refine aD rfl rfl (nb rfl) rfl rfl rfl rfl (c1) ?_ | refine aD rfl rfl (nb rfl) rfl rfl rfl rfl (c2) ?_ | refine aD rfl rfl (nb rfl) rfl rfl rfl rfl (c3) ?_) | (refine aK ?_;  first | refine aF ?_ | refine aL ?_ | refine aM ?_ | refine aS ?_ | refine aC (b := false) rfl nFt (fun _ => ?_)) | (refine aJ ?_;  first | refine aU ?_))
    all_goals first
      | exact absurd rfl (by assumption)
      | (refine aO (by first | exact .inl rfl | exact .inr rfl) (aV rfl (aA rfl) (aA rfl)) rfl ?_; rfl)
  · rw [if_pos hc] at hQ
    subst hQ
    generalize checkP sformP t = C at *
    refine aH Tryz.func8 rfl rfl (nb rfl) rfl ?_
    repeat' (first | refine aE ?_ | (refine aG ?_;  first | refine aB tabOk rfl rfl rfl (nb rfl) rfl ?_ | (refine aI rfl rfl rfl (nb rfl) rfl rfl rfl (fun hq => ?_) (fun hq => ?_) <;> (first | (simp only [sD, sE, sB, sC, sN, sM, sT, sF] at hq; try (exfalso; omega)) | skip)) | refine aD rfl rfl (nb rfl) rfl rfl rfl rfl (c1) ?_) | (refine aK ?_;  first | refine aF ?_ | refine aL ?_ | refine aM ?_ | refine aC (b := true) rfl (fun _ => ?_) nTf) | (refine aJ ?_;  first | refine aN ?_))
    all_goals first
      | exact absurd rfl (by assumption)
      | exact absurd (by assumption) hc
      | (refine aO (by first | exact .inl rfl | exact .inr rfl) (aV rfl (aA rfl) (aA rfl)) rfl ?_; rfl)
set_option maxHeartbeats 4000000 in
set_option maxRecDepth 10000 in
theorem aDQ (c : Tree) (hs : c.size ≤ 100000) : ACalls Tryz.prog 7 [.imm c.iv] [] (.imm (.tup [(sTokenP c).1.iv, .lit (.int .i64 (sTokenP c).2)])) [] := by
  have c1 := eA c (by omega)
  have c2 := aAu c (by omega)
  have c0 := xF
  have c4 := pQ 130
  have hf := oF c
  obtain ⟨Q, hQ⟩ : ∃ Q, sTokenP c = Q := ⟨_, rfl⟩
  rw [hQ]
  unfold sTokenP at hQ
  by_cases hc : checkP isConP c = 0
  · rw [if_neg (by simpa using hc)] at hQ
    rw [hc] at c1
    generalize tokP c = S at *
    obtain ⟨S1, S2⟩ := S
    dsimp only at *
    by_cases h0 : S2 = 0
    · subst h0
      rw [if_neg (by simp)] at hQ
      obtain ⟨g1, g2⟩ := hf rfl
      obtain ⟨px, hpx⟩ := bR (bJ g1)
      have hsz : (tokT S1).size = S1.size + 6 := by simp only [tokT, conT, higherT, Tree.size, Tree.sizes]; omega
      have c3 := aAm (tokT S1) 0 (by omega)
      rw [hQ] at c3
      have hnx : (tokT S1).iv = conIV 139 2 [conIV 101 2 [conIV 100 0 [], conIV 100 0 []], conIV 134 2 [.ptr px 0, conIV 130 0 []]] := by
        unfold tokT
        rw [eI, Tree.ivs, Tree.ivs, Tree.ivs, iY, eI, Tree.ivs, Tree.ivs, Tree.ivs, eI, hpx]; rfl
      have c5 := nH 134 true 2 [.ptr px 0, conIV 130 0 []]
      have c6 := nH 139 true 2 [conIV 101 2 [conIV 100 0 [], conIV 100 0 []], conIV 134 2 [.ptr px 0, conIV 130 0 []]]
      rw [hnx] at c3
      rw [hpx] at c2
      rw [iY] at c0
      clear hQ hsz hf hnx hc g1 g2
      obtain ⟨Q1, Q2⟩ := Q
      dsimp only at *
      unfold conIV at *
      refine aH Tryz.func7 rfl rfl (nb rfl) rfl ?_
      repeat' (first | refine aE ?_ | (refine aG ?_;  first | refine aB tabOk rfl rfl rfl (nb rfl) rfl ?_ | (refine aI rfl rfl rfl (nb rfl) rfl rfl rfl (fun hq => ?_) (fun hq => ?_) <;> (first | (simp only [sD, sE, sB, sC, sN, sM, sT, sF] at hq; try (exfalso; omega)) | skip)) | refine aD rfl rfl (nb rfl) rfl rfl rfl rfl (c1) ?_ | refine aD rfl rfl (nb rfl) rfl rfl rfl rfl (c2) ?_ | refine aD rfl rfl (nb rfl) rfl rfl rfl rfl (c0) ?_ | refine aD rfl rfl (nb rfl) rfl rfl rfl rfl (c4) ?_ | refine aD rfl rfl (nb rfl) rfl rfl rfl rfl (c5) ?_ | refine aD rfl rfl (nb rfl) rfl rfl rfl rfl (c6) ?_ | refine aD rfl rfl (nb rfl) rfl rfl rfl rfl (c3) ?_ | refine bS tabOk rfl rfl rfl (nb rfl) rfl rfl rfl rfl rfl rfl rfl rfl rfl ?_) | (refine aK ?_;  first | refine aF ?_ | refine aL ?_ | refine aM ?_ | refine aS ?_ | refine aC (b := false) rfl nFt (fun _ => ?_)) | (refine aJ ?_;  first | refine aU ?_))
      all_goals first
        | exact absurd rfl (by assumption)
        | (refine aO (by first | exact .inl rfl | exact .inr rfl) (aV rfl (aA rfl) (aA rfl)) rfl ?_; rfl)
    · rw [if_pos h0] at hQ
      subst hQ
      refine aH Tryz.func7 rfl rfl (nb rfl) rfl ?_
      repeat' (first | refine aE ?_ | (refine aG ?_;  first | refine aB tabOk rfl rfl rfl (nb rfl) rfl ?_ | (refine aI rfl rfl rfl (nb rfl) rfl rfl rfl (fun hq => ?_) (fun hq => ?_) <;> (first | (simp only [sD, sE, sB, sC, sN, sM, sT, sF] at hq; try (exfalso; omega)) | skip)) | refine aD rfl rfl (nb rfl) rfl rfl rfl rfl (c1) ?_ | refine aD rfl rfl (nb rfl) rfl rfl rfl rfl (c2) ?_) | (refine aK ?_;  first | refine aF ?_ | refine aL ?_ | refine aM ?_ | refine aS ?_ | refine aC (b := true) rfl (fun _ => ?_) nTf | refine aC (b := false) rfl nFt (fun _ => ?_)) | (refine aJ ?_;  first | refine aU ?_ | refine aN ?_))
      all_goals first
        | exact absurd (by assumption) h0
        | exact absurd rfl (by assumption)
        | (refine aO (by first | exact .inl rfl | exact .inr rfl) (aV rfl (aA rfl) (aA rfl)) rfl ?_; rfl)
  · rw [if_pos hc] at hQ
    subst hQ
    generalize checkP isConP c = C at *
    refine aH Tryz.func7 rfl rfl (nb rfl) rfl ?_
    repeat' (first | refine aE ?_ | (refine aG ?_;  first | refine aB tabOk rfl rfl rfl (nb rfl) rfl ?_ | (refine aI rfl rfl rfl (nb rfl) rfl rfl rfl (fun hq => ?_) (fun hq => ?_) <;> (first | (simp only [sD, sE, sB, sC, sN, sM, sT, sF] at hq; try (exfalso; omega)) | skip)) | refine aD rfl rfl (nb rfl) rfl rfl rfl rfl (c1) ?_) | (refine aK ?_;  first | refine aF ?_ | refine aL ?_ | refine aM ?_ | refine aC (b := true) rfl (fun _ => ?_) nTf) | (refine aJ ?_;  first | refine aN ?_))
    all_goals first
      | exact absurd rfl (by assumption)
      | exact absurd (by assumption) hc
      | (refine aO (by first | exact .inl rfl | exact .inr rfl) (aV rfl (aA rfl) (aA rfl)) rfl ?_; rfl)
end Go.Proofs.YtocaohipfiapkaaGreatDoor.Ab
namespace Go.Proofs.YtocaohipfiapkaaGreatDoor.Ab
set_option linter.unusedVariables false
set_option linter.unusedSimpArgs false
theorem aCW (nu : Bool) : bareP 0 emptyB emptyB false nu = true := by
  unfold bareP
  rw [(dO _ _).2 rfl]
  cases nu <;> rfl
theorem aAw (k : Int) (hk : k = 114 ∨ k = 120) (x y : Tree) (hx : isConP x = true) (hy : isConP y = true) : isConP (conT k [x, y]) = true := by
  unfold conT
  rw [isConP, aCW, if_neg (by omega), if_neg (by omega), if_pos hk, eL]
  simp [hx, hy]
theorem aCX (k : Int) (hk : k = 117 ∨ k = 118 ∨ k = 119) (x y : Tree) (hx : isKindP x = true) (hy : isConP y = true) : isConP (conT k [x, y]) = true := by
  unfold conT
  rw [isConP, aCW, if_neg (by omega), if_neg (by omega), if_neg (by omega), if_neg (by omega), if_pos hk, isCon2, hx, hy]
  rfl
end Go.Proofs.YtocaohipfiapkaaGreatDoor.Ab
namespace Go.Proofs.YtocaohipfiapkaaGreatDoor.Ab
set_option linter.unusedVariables false
set_option linter.unusedSimpArgs false
open Go.RowKit
theorem vF {c : Tree} (hc : checkP isConP c = 0) (hv : allV (fun n d => decide (n < d)) c 0 = true) (d : Int) : shiftP c d 0 = (c, 0) := by
  have hf := (bI hc).2.2
  have ho := dR c hf
  rw [tS c hc d 0 (Int.le_refl _), if_pos (rJ _ _ c 0 ho hv fun n x _ _ _ hp => by
    have hp : n < x := by simpa using hp
    unfold okG
    exact decide_eq_true (.inl hp))]
  rw [zE (fun n d => decide (n < d)) (shG d 0) (fun n _ => n) c 0 ho hv fun n x _ _ _ hp => by
    unfold shG
    rw [if_pos (.inl (by simpa using hp))]]
  rw [aDB c 0 ho]
/-- The normal form of what is no application: that of its parts. -/
theorem aBE : ∀ (f : Nat) (k n : Int) (a b : ByteArray) (kids : List Tree), k ≠ 120 → (∀ t ∈ kids, isConP t = true ∨ isKindP t = true) → (normalP f (.node k n a b kids)).2 = 0 →
    ∃ kids', (normalP f (.node k n a b kids)).1 = .node k n a b kids' ∧ kids'.length = kids.length ∧ ∀ j (h : j < kids.length) (h' : j < kids'.length), (isKindP kids[j] = true → kids'[j] = kids[j]) ∧ (isConP kids[j] = true → normalP f kids[j] = (kids'[j], 0)) := by
  intro f
  induction f with
  | zero =>
    intro k n a b kids hk hall h
    obtain ⟨hc, h1 | ⟨f', e, _⟩⟩ := gV _ _ h
    · rw [h1.2]
      obtain ⟨hw, hs, hf⟩ := bI hc
      refine ⟨kids, rfl, rfl, fun j hj _ => ⟨fun _ => rfl, fun hcj => ?_⟩⟩
      have hm : kids[j] ∈ kids := List.getElem_mem hj
      have hst : (stepPs kids).2.2 = (false, 0) := by
        have h2 := h1.1
        rw [rS hk] at h2
        split at h2
        · rename_i h3; exact absurd (congrArg Prod.snd h2) h3
        · rename_i h3
          split at h2
          · cases h2
          · rename_i h4
            have e3 : (stepPs kids).2.2.2 = 0 := by simpa using h3
            have e4 : (stepPs kids).2.2.1 = false := by simpa using h4
            rw [← e3, ← e4]
      exact gW (tX hc hcj (bF hw hm) (by have := bN (k := k) (n := n) (a := a) (b := b) hm; omega)) (nF _ hst _ hm) 0
    · cases e
  | succ f ih =>
    intro k n a b kids hk hall h
    obtain ⟨hc, h1 | ⟨f', e, h2, h3⟩⟩ := gV _ _ h
    · have h0 : (normalP f (.node k n a b kids)).2 = 0 := by rw [gW hc h1.1]
      obtain ⟨kids', g1, g2, g3⟩ := ih k n a b kids hk hall h0
      rw [fW _ _ h0]
      refine ⟨kids', g1, g2, fun j h h' => ⟨(g3 j h h').1, fun hcj => ?_⟩⟩
      have e3 := (g3 j h h').2 hcj
      rw [fW _ _ (by rw [e3]), e3]
    · cases e
      obtain ⟨hw, hs, hf⟩ := bI hc
      rw [rS hk] at h2 h3
      by_cases q1 : (stepPs kids).2.2.2 = 0
      · rw [if_neg (show ¬ (stepPs kids).2.2.2 ≠ 0 by simpa using q1)] at h2 h3
        by_cases q2 : (stepPs kids).2.2.1 = true
        · rw [if_pos q2] at h2 h3
          obtain ⟨hi, hmv⟩ := iX kids (by rw [← q1, ← q2])
          generalize (stepPs kids).1 = i at *
          generalize (stepPs kids).2.1 = t' at *
          have hmi : kids[i] ∈ kids := List.getElem_mem hi
          have hci : isConP kids[i] = true := by
            rcases hall _ hmi with h | h
            · exact h
            · have := mD _ h
              rw [hmv] at this
              cases this
          have hct : isConP t' = true := by
            have := (uA kids[i] (by rw [hmv])).1 hci
            rw [hmv] at this
            exact this
          rw [h3] at h
          obtain ⟨kids', g1, g2, g3⟩ := ih k n a b _ hk (fun t ht => by
            rcases List.mem_or_eq_of_mem_set ht with h | h
            · exact hall t h
            · rw [h]; exact .inl hct) h
          rw [h3]
          rw [List.length_set] at g2
          refine ⟨kids', g1, g2, fun j hj hj' => ?_⟩
          obtain ⟨r1, r2⟩ := g3 j (by rw [List.length_set]; exact hj) hj'
          by_cases hij : i = j
          · subst hij
            rw [List.getElem_set_self] at r1 r2
            refine ⟨fun hk2 => ?_, fun _ => ?_⟩
            · have := mD _ hk2
              rw [hmv] at this
              cases this
            · have e3 := r2 hct
              have hck := tX hc hci (bF hw hmi) (by have := bN (k := k) (n := n) (a := a) (b := b) hmi; omega)
              rw [nG hck (by rw [hmv]), hmv]
              exact e3
          · rw [List.getElem_set_ne hij] at r1 r2
            exact ⟨r1, fun hcj => by
              have e3 := r2 hcj
              rw [fW _ _ (by rw [e3]), e3]⟩
        · rw [if_neg q2] at h2; cases h2
      · rw [if_pos q1] at h2; cases h2
theorem xJ {k n : Int} {a b : ByteArray} {x y : Tree} (hk : k ≠ 120) (hx : isConP x = true ∨ isKindP x = true) (hy : isConP y = true) (h : (normalP 1000 (.node k n a b [x, y])).2 = 0) :
    ∃ x' y', (normalP 1000 (.node k n a b [x, y])).1 = .node k n a b [x', y'] ∧ (isKindP x = true → x' = x) ∧ (isConP x = true → normalP 1000 x = (x', 0)) ∧ normalP 1000 y = (y', 0) := by
  obtain ⟨kids', g1, g2, g3⟩ := aBE 1000 k n a b [x, y] hk (fun t ht => by
    rcases List.mem_cons.1 ht with rfl | ht
    · exact hx
    · rw [List.mem_singleton.1 ht]; exact .inl hy) h
  obtain ⟨x', y', rfl⟩ := two (show kids'.length = 2 from g2)
  have h0 := g3 0 (by simp) (by simp)
  have h1 := g3 1 (by simp) (by simp)
  exact ⟨x', y', g1, h0.1, h0.2, h1.2 hy⟩
theorem aBF {K : Tree} (h : isKindP K = true) (hk : K.kind = 100) : K = conT 100 [] := by
  cases K with
  | nil => cases hk
  | node k n a b kids =>
    have hk : k = 100 := hk
    subst hk
    rw [isKindP, if_pos rfl, Bool.and_eq_true] at h
    have e0 : kids = [] := List.eq_nil_of_length_eq_zero (by simpa using h.2)
    have hb := h.1
    unfold bareP at hb
    simp only [Bool.and_eq_true, Bool.or_eq_true, Bool.false_or, beq_iff_eq, dO] at hb
    unfold conT
    rw [e0]
    simp_all
/-- What a closed type's token is. -/
theorem gL {c : Tree} (hs : starE [] c = 0) : checkP isConP c = 0 ∧ tokP c = (conT 120 [conT 110 [], c], 0) ∧ kindP c [] = (conT 100 [], 0) ∧ kindP c [higherT] = (conT 100 [], 0) := by
  have hc := tV hs
  obtain ⟨mw, ms, mf⟩ := bI hc
  have hK := zK hs
  have ek : KindP [] c = kindP c [] := by unfold KindP; rw [if_neg (by simpa using hc)]
  have hfine := mC [] c (fun K hK => (List.not_mem_nil hK).elim) hK
  have hkd : (KindP [] c).1.kind = 100 := by
    unfold starE at hs
    by_cases h : (KindP [] c).1.kind = 100
    · exact h
    · rw [if_pos ⟨hK, h⟩] at hs; cases hs
  rw [ek] at hK hfine hkd
  have e1 : kindP c [] = (conT 100 [], 0) := by
    have := aBF hfine.1 hkd
    rw [← this, ← hK]
  have e2 := aBA [higherT] c [] mf hK
  rw [List.nil_append] at e2
  have hv := aBB 0 c [] 0 mf hK rfl
  have hv2 : allV (fun n d => decide (n < d)) c 0 = true := by
    refine rJ _ _ c 0 (dR c mf) hv fun n x _ _ _ hp => ?_
    have hp : n < x + 0 := by simpa using hp
    exact decide_eq_true (by omega)
  refine ⟨hc, ?_, e1, by rw [e2, e1]⟩
  unfold tokP
  rw [vF hc hv2 1, if_neg (by simp)]
/-- The kind of a token's type. -/
theorem rW {c : Tree} (hs : starE [] c = 0) : kindP (conT 120 [conT 110 [], c]) [higherT] = (conT 100 [], 0) := by
  obtain ⟨_, _, _, h⟩ := gL hs
  unfold conT at *
  rw [kindP, if_neg (by decide), if_neg (by decide), if_neg (by decide), if_neg (by decide), if_neg (by decide), if_pos rfl, appK]
  have e : kindP (.node 110 0 emptyB emptyB []) [higherT] = (higherT, 0) := by
    rw [kindP, if_pos rfl, if_neg (by simp)]; rfl
  rw [h, e]
  unfold app1
  rw [if_neg (by simp), if_neg (by simp), if_neg]
  · rfl
  · rintro (h | h)
    · exact h rfl
    · have e2 : kid0 higherT = conT 100 [] := rfl
      rw [e2, show (Tree.node 100 0 emptyB emptyB [], (0 : Int)).1 = conT 100 [] from rfl, (nX _ _).2 rfl] at h
      cases h
end Go.Proofs.YtocaohipfiapkaaGreatDoor.Ab
namespace Go.Proofs.YtocaohipfiapkaaGreatDoor.Ab
set_option linter.unusedVariables false
set_option linter.unusedSimpArgs false
open Go.RowKit
def tokC (c : Tree) : Tree := conT 120 [conT 110 [], c]
def allC (c : Tree) : Tree := conT 117 [higherT, conT 114 [tokC c, tokC c]]
def varT0 : Tree := .node 130 0 emptyB emptyB []
def tokX (c : Tree) : Tree := .node 139 0 emptyB emptyB [higherT, .node 134 0 emptyB emptyB [tokC c, varT0]]
theorem kH {c : Tree} (hc : checkP isConP c = 0) (hz : c.size ≤ 60) : checkP isConP (tokC c) = 0 ∧ (tokC c).size ≤ 62 ∧ (tokC c).whole = true := by
  obtain ⟨w, s, f⟩ := bI hc
  have h1 : isConP (tokC c) = true := aAw 120 (.inr rfl) _ _ (by decide +kernel) f
  have h2 : (tokC c).whole = true := by
    show Tree.wholes [conT 110 [], c] = true
    rw [Tree.wholes, Tree.wholes, w]; rfl
  have h3 : (tokC c).size ≤ 62 := by
    unfold tokC conT
    simp only [Tree.size, Tree.sizes]
    omega
  exact ⟨eT h1 h2 (by omega), h3, h2⟩
theorem nJ {c : Tree} (hc : checkP isConP c = 0) (hz : c.size ≤ 60) : checkP isConP (allC c) = 0 ∧ (allC c).size ≤ 200 ∧ (allC c).whole = true ∧ isConP (conT 114 [tokC c, tokC c]) = true := by
  obtain ⟨h1, h2, h3⟩ := kH hc hz
  have f := (bI h1).2.2
  have h0 : isConP (conT 114 [tokC c, tokC c]) = true := aAw 114 (.inl rfl) _ _ f f
  have h4 : isConP (allC c) = true := aCX 117 (.inl rfl) _ _ (by decide +kernel) h0
  have h5 : (allC c).whole = true := by
    show Tree.wholes [higherT, conT 114 [tokC c, tokC c]] = true
    rw [Tree.wholes, Tree.wholes, show (conT 114 [tokC c, tokC c]).whole = true by show Tree.wholes [tokC c, tokC c] = true; rw [Tree.wholes, Tree.wholes, h3]; rfl]
    rfl
  have h6 : (allC c).size ≤ 200 := by
    have : higherT.size = 3 := rfl
    unfold allC conT at *
    simp only [Tree.size, Tree.sizes] at *
    omega
  exact ⟨eT h4 h5 (by omega), h6, h5, h0⟩
theorem xK {C : Tree} (hC : checkP isConP C = 0) : isTermP (.node 134 0 emptyB emptyB [C, varT0]) = true := by
  have hv : isTermP varT0 = true := by decide +kernel
  have hh : headP 134 0 emptyB emptyB = true := by decide +kernel
  rw [isTermP, if_neg (by decide), if_pos rfl, hh, isT_ct, hv]
  unfold tconP
  rw [hC]; rfl
theorem aBG {C : Tree} (hC : checkP isConP C = 0) (hz : C.size ≤ 200) : tcheckP (.node 134 0 emptyB emptyB [C, varT0]) = 0 := by
  have hw : (Tree.node 134 0 emptyB emptyB [C, varT0]).whole = true := by
    show Tree.wholes [C, varT0] = true
    rw [Tree.wholes, Tree.wholes, (bI hC).1]; rfl
  have hv : varT0.size = 1 := rfl
  unfold tcheckP
  rw [gB isTermP _ hw (by simp only [Tree.size, Tree.sizes]; omega), if_pos (xK hC)]
theorem mF {c : Tree} (hc : checkP isConP c = 0) (hz : c.size ≤ 60) : tcheckP (tokX c) = 0 ∧ (tokX c).size ≤ 100 := by
  obtain ⟨h1, h2, h3⟩ := kH hc hz
  have hh : headP 139 0 emptyB emptyB = true := by decide +kernel
  have hk : tkindP higherT = true := by decide +kernel
  have ht : isTermP (tokX c) = true := by
    unfold tokX
    rw [isTermP, if_neg (by decide), if_neg (by decide), if_pos rfl, hh, isT_kt, hk, xK h1]; rfl
  have hw : (tokX c).whole = true := by
    show Tree.wholes [higherT, .node 134 0 emptyB emptyB [tokC c, varT0]] = true
    rw [Tree.wholes, Tree.wholes, show (Tree.node 134 0 emptyB emptyB [tokC c, varT0]).whole = true by show Tree.wholes [tokC c, varT0] = true; rw [Tree.wholes, Tree.wholes, h3]; rfl]
    rfl
  have hs : (tokX c).size ≤ 100 := by
    have e1 : higherT.size = 3 := rfl
    have e2 : varT0.size = 1 := rfl
    unfold tokX
    simp only [Tree.size, Tree.sizes]
    omega
  unfold tcheckP
  rw [gB isTermP _ hw (by omega), if_pos ht]
  exact ⟨rfl, hs⟩
theorem aBH {c : Tree} (hs : starE [] c = 0) (hz : c.size ≤ 60) : sTokenP c = (tokX c, 0) := by
  obtain ⟨hc, e, _⟩ := gL hs
  obtain ⟨t1, t2⟩ := mF hc hz
  have hw := (iW t1).2.1
  unfold sTokenP
  rw [if_neg (by simpa using hc), e, if_neg (by simp)]
  have e2 : tokT (conT 120 [conT 110 [], c]) = tokX c := rfl
  rw [e2, wR _ hw, if_neg (by omega)]
def typS (c : Tree) : Tree := .node 161 0 emptyB emptyB [c]
theorem aBI {c : Tree} (hs : starE [] c = 0) (hz : c.size ≤ 60) : sTransP (typS c) = (allC c, 0) := by
  obtain ⟨hc, e, _⟩ := gL hs
  obtain ⟨_, a2, a3, _⟩ := nJ hc hz
  have hsig : isSigP (typS c) = true := by
    have hb : sbareP 0 emptyB emptyB false false = true := by decide +kernel
    unfold typS
    rw [isSigP, hb, if_pos (.inr rfl), sig1, hc]; rfl
  have hw : (typS c).whole = true := by
    show Tree.wholes [c] = true
    rw [Tree.wholes, (bI hc).1]; rfl
  have hf : checkP sformP (typS c) = 0 := by
    rw [gB sformP _ hw (by unfold typS; simp only [Tree.size, Tree.sizes]; omega), if_pos]
    unfold sformP
    rw [hsig]; rfl
  have et : transP (typS c) = (allC c, 0) := by
    unfold typS
    rw [transP, if_neg (by decide), if_pos rfl]
    show allTok c = _
    unfold allTok
    rw [e, if_neg (by simp)]
    rfl
  unfold sTransP
  rw [if_neg (by simpa using hf), et]
  show sizedP (allC c) 0 = _
  rw [wR _ a3, if_neg (by omega)]
theorem aAx {ks : List Tree} {c : Tree} (hc : checkP isConP c = 0) (h : kindP c ks = (conT 100 [], 0)) : starT ks c = normalP 1000 c := by
  have e : KindP ks c = (conT 100 [], 0) := by unfold KindP; rw [if_neg (by simpa using hc), h]
  have e2 : starE ks c = 0 := by
    unfold starE
    rw [e, if_neg]
    rintro ⟨_, h⟩
    exact h rfl
  unfold starT
  rw [e2, if_neg (by simp)]
theorem aDR (ks : List Tree) (T : Tree) : ofP varT0 ks [T] = normalP 1000 T := by
  unfold varT0
  rw [ofP, if_pos rfl, if_neg (by simp)]
  rfl
theorem aBJ {t : Tree} (h : (normalP 1000 t).2 = 0) : normalP 1000 (normalP 1000 t).1 = ((normalP 1000 t).1, 0) := (mV 1000 1000 t h).2
theorem kI {n : Tree} (h : tcheckP n = 0) : TypeP [] [] n = ofP n [] [] := by
  unfold TypeP
  rw [if_neg (by simpa using h), if_neg (by simp)]
/-- A function of a variable of a type. -/
theorem xL {ks : List Tree} {C : Tree} (hc : checkP isConP C = 0) (hk : kindP C ks = (conT 100 [], 0)) (h : (normalP 1000 C).2 = 0) :
    ofP (.node 134 0 emptyB emptyB [C, varT0]) ks [] = (tyT 114 [(normalP 1000 C).1, (normalP 1000 C).1], 0) := by
  rw [show ofP (.node 134 0 emptyB emptyB [C, varT0]) ks [] = lamT1 (starT ks C) (ofP varT0 ks ((starT ks C).1 :: [])) by rw [ofP]; rfl, aAx hc hk, aDR, aBJ h]
  unfold lamT1
  rw [if_neg (by simpa using h), if_neg (by simp)]
theorem aAy {ks : List Tree} {C : Tree} (hc : checkP isConP C = 0) (hk : kindP C ks = (conT 100 [], 0)) (h : (normalP 1000 C).2 ≠ 0) :
    ofP (.node 134 0 emptyB emptyB [C, varT0]) ks [] = (.nil, (normalP 1000 C).2) := by
  rw [show ofP (.node 134 0 emptyB emptyB [C, varT0]) ks [] = lamT1 (starT ks C) (ofP varT0 ks ((starT ks C).1 :: [])) by rw [ofP]; rfl, aAx hc hk]
  unfold lamT1
  rw [if_pos h]
theorem aBK {c : Tree} (hs : starE [] c = 0) (hz : c.size ≤ 60) : TypeP [] [] (tokX c) = if (normalP 1000 (tokC c)).2 = 0 then (tyT 117 [higherT, tyT 114 [(normalP 1000 (tokC c)).1, (normalP 1000 (tokC c)).1]], 0) else (.nil, (normalP 1000 (tokC c)).2) := by
  obtain ⟨hc, e, _⟩ := gL hs
  have hk := rW hs
  obtain ⟨t1, t2⟩ := mF hc hz
  have h1 := (kH hc hz).1
  rw [kI t1]
  unfold tokX
  rw [show ofP (.node 139 0 emptyB emptyB [higherT, .node 134 0 emptyB emptyB [tokC c, varT0]]) [] [] = tlam1 higherT (shiftsP []).2 (ofP (.node 134 0 emptyB emptyB [tokC c, varT0]) (higherT :: []) (shiftsP []).1) by rw [ofP]; rfl]
  have es : shiftsP [] = ([], 0) := by rw [shiftsP]
  rw [es]
  unfold tlam1
  rw [if_neg (by simp)]
  by_cases h : (normalP 1000 (tokC c)).2 = 0
  · rw [if_pos h, xL h1 hk h, if_neg (by simp)]
  · rw [if_neg h, aAy h1 hk h, if_pos h]
theorem zS {c : Tree} (hs : starE [] c = 0) : kindP (allC c) [] = (conT 100 [], 0) := by
  have hk : kindP (tokC c) [higherT] = (conT 100 [], 0) := rW hs
  have h100 : star1 (conT 100 [], 0) (starK, 0) = (conT 100 [], 0) := by
    unfold star1
    rw [if_neg (by simp), if_neg (by intro h; exact h rfl)]
    rfl
  have e1 : kindP (conT 114 [tokC c, tokC c]) [higherT] = (conT 100 [], 0) := by
    unfold conT
    rw [kindP, if_neg (by decide), if_pos rfl, starsP, starsP, starsP, hk, h100]
    show star1 (conT 100 [], 0) (conT 100 [], 0) = _
    unfold star1
    rw [if_neg (by simp), if_neg (by intro h; exact h rfl)]
    rfl
  unfold allC
  rw [conT, kindP, if_neg (by decide), if_neg (by decide), if_neg (by decide), if_pos (.inl rfl), bindK, e1, h100]
/-- What the place's type is, where it has a normal form. -/
theorem zT {c : Tree} (hs : starE [] c = 0) (hz : c.size ≤ 60) (h : (normalP 1000 (allC c)).2 = 0) : (normalP 1000 (allC c)).1 = tyT 117 [higherT, tyT 114 [(normalP 1000 (tokC c)).1, (normalP 1000 (tokC c)).1]] := by
  obtain ⟨hc, _⟩ := gL hs
  have h0 := (nJ hc hz).2.2.2
  have h1 := (bI (kH hc hz).1).2.2
  unfold allC conT at h ⊢
  unfold conT at h0
  obtain ⟨x', y', g1, g2, _, g4⟩ := xJ (k := 117) (by decide) (.inr (by decide +kernel)) h0 h
  rw [g1, g2 (by decide +kernel)]
  obtain ⟨x2, y2, q1, _, q3, q4⟩ := xJ (k := 114) (by decide) (.inl h1) h1 (by rw [g4])
  rw [g4] at q1
  have q1 : y' = _ := q1
  have e1 := q3 h1
  rw [e1] at q4
  cases q4
  rw [q1, e1]
  rfl
theorem zU {C : Tree} (hc : checkP isConP C = 0) (hz : C.size ≤ 200) (hk : kindP C [] = (conT 100 [], 0)) : TypeP [] [] (.node 134 0 emptyB emptyB [C, varT0]) = if (normalP 1000 C).2 = 0 then (tyT 114 [(normalP 1000 C).1, (normalP 1000 C).1], 0) else (.nil, (normalP 1000 C).2) := by
  rw [kI (aBG hc hz)]
  by_cases h : (normalP 1000 C).2 = 0
  · rw [if_pos h, xL hc hk h]
  · rw [if_neg h, aAy hc hk h]
/-- The law, in plain words. -/
theorem token_law {c : Tree} (hs : starE [] c = 0) (hz : c.size ≤ 60) :
    sTokenP c = (tokX c, 0) ∧ sTransP (typS c) = (allC c, 0) ∧
    ((TypeP [] [] (tokX c)).2 = 3 ∨ (TypeP [] [] (tokX c)).2 = 18 ∨ (TypeP [] [] (tokX c)).2 = 0 ∧ ((TypeP [] [] (.node 134 0 emptyB emptyB [allC c, varT0])).2 = 3 ∨ (TypeP [] [] (.node 134 0 emptyB emptyB [allC c, varT0])).2 = 18 ∨
      TypeP [] [] (.node 134 0 emptyB emptyB [allC c, varT0]) = (tyT 114 [(TypeP [] [] (tokX c)).1, (TypeP [] [] (tokX c)).1], 0))) := by
  obtain ⟨hc, _⟩ := gL hs
  refine ⟨aBH hs hz, aBI hs hz, ?_⟩
  obtain ⟨a1, a2, a3, _⟩ := nJ hc hz
  obtain ⟨b1, b2, b3⟩ := kH hc hz
  rw [aBK hs hz, zU a1 a2 (zS hs)]
  rcases rV 1000 (tokC c) (bI b1).2.2 b3 with h | h | h
  · rw [if_pos h]
    refine .inr (.inr ⟨rfl, ?_⟩)
    rcases rV 1000 (allC c) (bI a1).2.2 a3 with h2 | h2 | h2
    · rw [if_pos h2, zT hs hz h2]
      exact .inr (.inr rfl)
    · rw [if_neg (by rw [h2]; decide)]; exact .inl h2
    · rw [if_neg (by rw [h2]; decide)]; exact .inr (.inl h2)
  · rw [if_neg (by rw [h]; decide)]; exact .inl h
  · rw [if_neg (by rw [h]; decide)]; exact .inr (.inl h)
end Go.Proofs.YtocaohipfiapkaaGreatDoor.Ab
namespace Go.Proofs.YtocaohipfiapkaaGreatDoor.RP
set_option linter.unusedVariables false
set_option linter.unusedSimpArgs false
open Go.RowKit Go.Lib Go.Proofs.YtocaohipfiapkaaGreatDoorW.PrintWords Go.Proofs.YtocaohipfiapkaaGreatDoorW.PrintLast Go.Proofs.YtocaohipfiapkaaGreatDoorW.PrintMore Go.Proofs.YtocaohipfiapkaaGreatDoor.PAll
theorem w64 {x : Int} (h0 : -9223372036854775808 ≤ x) (h1 : x ≤ 9223372036854775807) : wrap64 x = x := by unfold wrap64; omega
theorem w64s (a : Nat) (h : a ≤ 9000000) : wrap64 ((a : Int) + 1) = ((a + 1 : Nat) : Int) := by rw [w64] <;> omega
def nn (d : Nat × Nat) : Int × Int := if d.1 = 65533 ∧ d.2 = 1 then (0, 0) else (d.1, d.2)
/-- Is the text valid from a place on? -/
def vf (s : ByteArray) (pos : Nat) : Bool := validD (s.data.toList.drop pos)
def high (r : Int) : Int := if 128 ≤ r ∧ r ≤ 1114111 ∧ r ≠ 65533 ∧ (r < 55296 ∨ 57343 < r) then 1 else 0
def blank (r : Int) : Int := if r = 32 ∨ r = 9 ∨ r = 10 then 3 else high r
def digit (r : Int) : Int := if 48 ≤ r ∧ r ≤ 57 then 2 else blank r
/-- A rune's class. -/
def classP (r : Int) : Int := if (65 ≤ r ∧ r ≤ 90) ∨ (97 ≤ r ∧ r ≤ 122) ∨ r = 95 then 1 else digit r
theorem aEI (k : Nat) (r : Int) : utf8_ValidRune.f (k + 1) r = some (decide ((0 ≤ r ∧ r < 55296) ∨ (57343 < r ∧ r ≤ 1114111))) := by
  unfold utf8_ValidRune.f
  by_cases h : 0 ≤ r
  · rw [if_pos h]
    by_cases h2 : r < 55296
    · rw [decide_eq_true h2, decide_eq_true (Or.inl ⟨h, h2⟩)]
      simp only [utf8_ValidRune.j0, if_true]
    · rw [decide_eq_false h2]
      simp only [utf8_ValidRune.j0, Bool.false_eq_true, if_false]
      by_cases h3 : 57343 < r
      · rw [if_pos h3]
        by_cases h4 : r ≤ 1114111
        · rw [if_pos h4, decide_eq_true (Or.inr ⟨h3, h4⟩)]
        · rw [if_neg h4, decide_eq_false (by omega)]
      · rw [if_neg h3, decide_eq_false (by omega)]
  · rw [if_neg h, decide_eq_false (by omega)]
    simp only [utf8_ValidRune.j0, Bool.false_eq_true, if_false]
    rw [if_neg (by omega)]
theorem c_j3 (k : Nat) (r : Int) (b : Bool) : runes_Class.j3 (k + 2) r b = some (if b = true then 3 else high r) := by
  cases b with
  | true => simp only [runes_Class.j3, if_true]
  | false =>
    simp only [runes_Class.j3, Bool.false_eq_true, if_false]
    unfold high
    by_cases h : 128 ≤ r
    · rw [if_pos h]
      by_cases h2 : r = 65533
      · rw [if_pos h2, if_neg (by omega)]
      · rw [if_neg h2, aEI]
        simp only [Option.bind_some]
        by_cases h3 : (0 ≤ r ∧ r < 55296) ∨ (57343 < r ∧ r ≤ 1114111)
        · rw [decide_eq_true h3, if_pos rfl, if_pos (by omega)]
        · rw [decide_eq_false h3, if_neg (by decide), if_neg (by omega)]
    · rw [if_neg h, if_neg (by omega)]
theorem c_j2 (k : Nat) (r : Int) (b : Bool) : runes_Class.j2 (k + 3) r b = some (if b = true then 2 else blank r) := by
  cases b with
  | true => simp only [runes_Class.j2, if_true]
  | false =>
    simp only [runes_Class.j2, Bool.false_eq_true, if_false, c_j3]
    unfold blank
    by_cases h : r = 32
    · rw [if_pos h, if_pos (by simpa using h), if_pos (by omega)]
    · rw [if_neg h]
      by_cases h2 : r = 9
      · rw [if_pos h2, if_pos (by simpa using h2), if_pos (by omega)]
      · rw [if_neg h2]
        by_cases h3 : r = 10
        · rw [if_pos (by simpa using h3), if_pos (by omega)]
        · rw [if_neg (by simpa using h3), if_neg (by omega)]
theorem c_j1 (k : Nat) (r : Int) (b : Bool) : runes_Class.j1 (k + 4) r b = some (if b = true then 1 else digit r) := by
  cases b with
  | true => simp only [runes_Class.j1, if_true]
  | false =>
    simp only [runes_Class.j1, Bool.false_eq_true, if_false, c_j2]
    unfold digit
    by_cases h : 48 ≤ r
    · rw [if_pos h]
      by_cases h2 : r ≤ 57
      · rw [if_pos (by simpa using h2), if_pos ⟨h, h2⟩]
      · rw [if_neg (by simpa using h2), if_neg (by omega)]
    · rw [if_neg h, if_neg (by omega)]
theorem c_j0 (k : Nat) (r : Int) (b : Bool) : runes_Class.j0 (k + 5) r b = some (if b = true then 1 else if (97 ≤ r ∧ r ≤ 122) ∨ r = 95 then 1 else digit r) := by
  cases b with
  | true => simp only [runes_Class.j0, if_true, c_j1]
  | false =>
    simp only [runes_Class.j0, Bool.false_eq_true, if_false, c_j1]
    by_cases h : 97 ≤ r
    · rw [if_pos h]
      by_cases h2 : r ≤ 122
      · rw [if_pos h2, if_pos (by simpa using h2), if_pos (by omega)]
      · rw [if_neg h2, if_neg (by simp; omega), if_neg (by omega)]
    · rw [if_neg h]
      by_cases h3 : r = 95
      · rw [if_pos (by simpa using h3), if_pos (by omega)]
      · rw [if_neg (by simpa using h3), if_neg (by omega)]
theorem aCY (k : Nat) (r : Int) : runes_Class.f (k + 5) r = some (classP r) := by
  unfold runes_Class.f classP
  rw [c_j0, c_j0]
  by_cases h : 65 ≤ r
  · rw [if_pos h]
    by_cases h2 : r ≤ 90
    · rw [if_pos (by simpa using h2), if_pos (by omega)]
    · rw [if_neg (by simpa using h2)]
      by_cases h3 : (97 ≤ r ∧ r ≤ 122) ∨ r = 95
      · rw [if_pos h3, if_pos (by omega)]
      · rw [if_neg h3, if_neg (by omega)]
  · rw [if_neg h, if_neg (by decide)]
    by_cases h3 : (97 ≤ r ∧ r ≤ 122) ∨ r = 95
    · rw [if_pos h3, if_pos (by omega)]
    · rw [if_neg h3, if_neg (by omega)]
/-- May a rune not stand in a text? -/
def badR (r : Int) : Prop := r = 65533 ∨ (r < 32 ∧ ¬ classP r = 3) ∨ r = 127
instance (r : Int) : Decidable (badR r) := by unfold badR; infer_instance
/-- Is a rune right within a name (first: at its begin)? -/
def okR (first : Bool) (r : Int) : Bool := decide (classP r = 1) || (!first && (decide (classP r = 2) || decide (r = 39)))
/-- runes.Name's loop. -/
def nm (s : ByteArray) : Nat → Nat → Bool
  | 0, _ => true
  | f + 1, pos => if pos < s.size then (if okR (decide (pos = 0)) (Utf8.decode s pos).1 = true then nm s f (pos + (Utf8.decode s pos).2) else false) else true
def nameP (s : ByteArray) : Bool := decide (1 ≤ s.size ∧ s.size ≤ 32) && validD s.data.toList && nm s s.size 0
theorem aEJ {s : ByteArray} {f pos : Nat} (hp : pos < s.size) (h : okR (decide (pos = 0)) (Utf8.decode s pos).1 = true) : nm s (f + 1) pos = nm s f (pos + (Utf8.decode s pos).2) := by simp [nm, hp, h]
theorem aEo {s : ByteArray} {f pos : Nat} (hp : pos < s.size) (h : okR (decide (pos = 0)) (Utf8.decode s pos).1 = false) : nm s (f + 1) pos = false := by simp [nm, hp, h]
theorem aEp {s : ByteArray} {f pos : Nat} (hp : ¬ pos < s.size) : nm s f pos = true := by cases f <;> simp [nm, hp]
theorem xM (s : ByteArray) (a b : Nat) : (s.extract a b).data.toList = (s.data.toList.drop a).take (b - a) := by
  simp [ByteArray.data_extract, Array.toList_extract, List.extract_eq_take_drop]
theorem aBL (s : ByteArray) (P : Nat) : (s.extract P s.size).data.toList = s.data.toList.drop P := by
  rw [xM]
  have h2 : s.data.toList.length = s.size := Array.length_toList
  rw [List.take_of_length_le (by rw [List.length_drop]; omega)]
end Go.Proofs.YtocaohipfiapkaaGreatDoor.RP
namespace Go.Proofs.YtocaohipfiapkaaGreatDoor.RW
set_option linter.unusedVariables false
set_option linter.unusedSimpArgs false
open Go.RowKit Go.Lib Go.Proofs.YtocaohipfiapkaaGreatDoorW.PrintWords Go.Proofs.YtocaohipfiapkaaGreatDoorW.PrintLast Go.Proofs.YtocaohipfiapkaaGreatDoorW.PrintMore Go.Proofs.YtocaohipfiapkaaGreatDoor.RP Go.Proofs.YtocaohipfiapkaaGreatDoor.PAll
def Tabs (w : World) : Prop := Lib.Utf8Tabs (Tryz.laysValid_ren.g 3) (Tryz.laysValid_ren.g 4) w
theorem xN {a b : Bool} (h : a = b) : Ending.returned (.bool a) = .returned (.bool b) := by rw [h]
theorem zV {w w1 : World} (hb : Below w.heap.size w w1) (s : ByteArray) (p : Nat) : Below w.heap.size w (w1.iter s p) := hb.alloc hb.size _
/-- One step of the iterator in block k: a world that is as it was, but for that block. -/
theorem aBM {P : Program} {w wr : World} {k : Nat} {s : ByteArray} {pos : Nat} (hk : wr.heap[k]? = some (.stringIter s pos)) (hp : pos < s.size) (hw : w.heap.size ≤ k) (hb : Below w.heap.size w wr) :
    ∃ W2 : World, (∀ ty, (Instr.next (.pointer (some ⟨k, 0, none⟩)) true ty).run P wr = .ok (.tuple #[.bool true, .int .i64 pos, .int .i32 (Utf8.decode s pos).1]) W2) ∧
      (∀ j, j ≠ k → W2.heap[j]? = wr.heap[j]?) ∧ W2.heap[k]? = some (.stringIter s (pos + (Utf8.decode s pos).2)) ∧ W2.heap.size = wr.heap.size ∧ Below w.heap.size w W2 :=
  ⟨wr.iterAt k s (pos + (Utf8.decode s pos).2), fun ty => run_next_any_at wr k s pos ty hk hp, fun j hj => iterAt_other wr k j s _ hj, iterAt_heap wr k s pos _ hk, iterAt_size wr k s _, below_iterAt hb hw s _⟩
theorem aCZ {w1 : World} (s : ByteArray) (p : Nat) : (w1.iter s p).heap[w1.heap.size]? = some (.stringIter s p) := by simp [World.iter_heap]
theorem aBN (r : Int) (w : World) : Calls Tryz.prog 113 #[.int .i32 r] w fun e w' => e = .returned (.int .i64 (classP r)) ∧ Drawn0 w w' :=
  runes_Class.calls 5 r _ w (aCY 0 r)
theorem zW (s : ByteArray) (w : World) (h : s.toList = []) :
    Calls Tryz.prog 79 #[.string s] w fun e w' => e = .returned (.bool false) ∧ Below w.heap.size w w' := by
  have h2 : s.toList.isEmpty = true := by rw [h]; rfl
  go_enter Tryz.func79, Tryz.ntmps79
  go_wp2
  go_ret
  exact ⟨rfl, Below.refl _ _⟩
theorem aBO (s : ByteArray) (w : World) (hs : s.size ≤ 1000000) (h : s.toList.isEmpty = false) (h2 : 32 < (s.size : Int)) :
    Calls Tryz.prog 79 #[.string s] w fun e w' => e = .returned (.bool false) ∧ Below w.heap.size w w' := by
  go_enter Tryz.func79, Tryz.ntmps79
  go_wp2
  go_ret
  exact ⟨rfl, Below.refl _ _⟩
theorem aBP (s : ByteArray) (w : World) (hs : s.size ≤ 1000000) (hT : Tabs w) (h : s.toList.isEmpty = false) (h2 : (s.size : Int) ≤ 32) (hv : validD s.data.toList = false) :
    Calls Tryz.prog 79 #[.string s] w fun e w' => e = .returned (.bool false) ∧ Below w.heap.size w w' := by
  have cV := Any.utf8_ValidString Tryz.laysValid s w (by omega) hT
  rw [hv] at cV
  clear hv hT
  go_enter Tryz.func79, Tryz.ntmps79
  go_wp2_with (go_at_call 112; refine cV.mono ?_; rintro e w1 ⟨rfl, hb⟩)
  go_ret
  exact ⟨rfl, hb⟩
theorem ok1 {r : Int} {b : Bool} (h : (classP r == 1) = true) : okR b r = true := by
  unfold okR; simp only [beq_iff_eq] at h; simp [h]
theorem ok2 {r : Int} {pos : Nat} (h : (classP r == 2) = true) (h0 : ((pos : Int) == 0) = false) : okR (decide (pos = 0)) r = true := by
  have : ¬ pos = 0 := by simp only [beq_eq_false_iff_ne] at h0; omega
  unfold okR; simp only [beq_iff_eq] at h; simp [h, this]
theorem ok3 {r : Int} {pos : Nat} (h : ((pos : Int) == 0) = false ∧ (r != 39) = false) : okR (decide (pos = 0)) r = true := by
  have : ¬ pos = 0 := by have h0 := h.1; simp only [beq_eq_false_iff_ne] at h0; omega
  have h2 := h.2
  simp only [bne_eq_false_iff_eq] at h2
  unfold okR; simp [h2, this]
theorem no1 {r : Int} {pos : Nat} (c1 : (classP r == 1) = false) (c2 : (classP r == 2) = true) (h0 : ((pos : Int) == 0) = true) : okR (decide (pos = 0)) r = false := by
  have : pos = 0 := by simp only [beq_iff_eq] at h0; omega
  simp only [beq_eq_false_iff_ne] at c1
  unfold okR; simp [c1, this]
theorem no2 {r : Int} {pos : Nat} (c1 : (classP r == 1) = false) (c2 : (classP r == 2) = false) (h0 : pos = 0) : okR (decide (pos = 0)) r = false := by
  simp only [beq_eq_false_iff_ne] at c1
  unfold okR; simp [c1, h0]
theorem no3 {r : Int} {pos : Nat} (c1 : (classP r == 1) = false) (c2 : (classP r == 2) = false) (h : ((pos : Int) == 0) = true ∨ (r != 39) = true) : okR (decide (pos = 0)) r = false := by
  simp only [beq_eq_false_iff_ne] at c1 c2
  rcases h with h | h
  · have : pos = 0 := by simp only [beq_iff_eq] at h; omega
    unfold okR; simp [c1, this]
  · simp only [bne_iff_ne] at h
    unfold okR; simp [c1, c2, h]
theorem toList_eq (s : ByteArray) : s.toList = s.data.toList := by
  have h := ByteArray.toList_mk s.data.toList
  have e : (ByteArray.mk s.data.toList.toArray) = s := by cases s; simp
  rw [e] at h
  exact h
theorem xO (s : ByteArray) : s.toList.length = s.size := by
  rw [toList_eq]
  exact Array.length_toList
theorem aDS (s : ByteArray) (w : World) (hs : s.size ≤ 1000000) (hT : Tabs w) (h : s.toList.isEmpty = false) (h2 : (s.size : Int) ≤ 32) (hv : validD s.data.toList = true) :
    Calls Tryz.prog 79 #[.string s] w fun e w' => e = .returned (.bool (nm s s.size 0)) ∧ Below w.heap.size w w' := by
  have cV := Any.utf8_ValidString Tryz.laysValid s w (by omega) hT
  rw [hv] at cV
  clear hv hT
  go_enter Tryz.func79, Tryz.ntmps79
  go_wp2_with (go_at_call 112; refine cV.mono ?_; rintro e w1 ⟨rfl, hb⟩)
  have HBs := Aside0.mk hb.size
  go_loopg [3] (s.size + 1) (fun gk v3 wr => ∃ (f pos : Nat), gk = f + 1 ∧ Aside0 (Below w.heap.size w wr) ∧ Aside0 (wr.heap[w1.heap.size]? = some (.stringIter s pos)) ∧ Aside0 (nm s f pos = nm s s.size 0 ∧ s.size ≤ pos + f))
  case atStart => exact ⟨s.size, 0, rfl, ⟨zV hb _ _⟩, ⟨aCZ s 0⟩, ⟨rfl, by omega⟩⟩
  case round =>
    obtain ⟨f, pos, rfl, HB, HI, HA⟩ := hrel
    by_cases hp : pos < s.size
    · obtain ⟨W2, hnx, hm, hi, hz, hb2⟩ := aBM (P := Tryz.prog) HI.out hp HBs.out HB.out
      have HB2 := Aside0.mk hb2
      have HI2 := Aside0.mk hi
      clear hm hi hz hb2 HI HB
      have hwd := width_pos s pos
      obtain ⟨f, rfl⟩ : ∃ f', f = f' + 1 := ⟨f - 1, by have := HA.out.2; omega⟩
      go_wp2_with (go_at_call 113; refine (aBN _ _).mono ?_; rintro e w3 ⟨rfl, ⟨nd, rfl⟩⟩)
      all_goals first
        | (go_ret; exact ⟨xN ((aEo hp (by first | exact no1 ‹_› ‹_› ‹_› | exact no2 ‹_› ‹_› ‹_› | exact no3 ‹_› ‹_› ‹_›)).symm.trans HA.out.1), by repeat (first | exact HB2.out | apply dA)⟩)
        | (go_roundg (f + 1)
           case measure => omega
           case rel => exact ⟨f, pos + (Utf8.decode s pos).2, rfl, ⟨by repeat (first | exact HB2.out | apply dA)⟩, ⟨HI2.out⟩, ⟨(aEJ hp (by first | exact ok1 ‹_› | exact ok2 ‹_› ‹_› | exact ok3 ‹_›)).symm.trans HA.out.1, by have := HA.out.2; omega⟩⟩)
    · have hnx : ∀ ty, (Instr.next (.pointer (some ⟨w1.heap.size, 0, none⟩)) true ty).run Tryz.prog wr = _ := fun ty => run_next_end_at wr _ s pos ty HI.out hp
      go_wp2
      go_ret
      exact ⟨xN ((aEp hp).symm.trans HA.out.1), HB.out⟩
theorem aDa (s : ByteArray) (w : World) (hs : s.size ≤ 1000000) (hT : Tabs w) :
    Calls Tryz.prog 79 #[.string s] w fun e w' => e = .returned (.bool (nameP s)) ∧ Below w.heap.size w w' := by
  have hz := xO s
  unfold nameP
  by_cases h0 : s.toList = []
  · rw [h0] at hz
    simp only [List.length_nil] at hz
    rw [decide_eq_false (by omega), Bool.false_and, Bool.false_and]
    exact zW s w h0
  · have he : s.toList.isEmpty = false := by simpa using h0
    have h1 : 0 < s.toList.length := List.length_pos_iff.2 h0
    by_cases h2 : 32 < (s.size : Int)
    · rw [decide_eq_false (by omega), Bool.false_and, Bool.false_and]
      exact aBO s w hs he h2
    · rw [decide_eq_true (by omega), Bool.true_and]
      cases hv : validD s.data.toList with
      | false => exact aBP s w hs hT he (by omega) hv
      | true => exact aDS s w hs hT he (by omega) hv
end Go.Proofs.YtocaohipfiapkaaGreatDoor.RW
namespace Go.Proofs.YtocaohipfiapkaaGreatDoor.RP
set_option linter.unusedVariables false
set_option linter.unusedSimpArgs false
open Go.RowKit Go.Lib Go.Proofs.YtocaohipfiapkaaGreatDoorW.PrintWords Go.Proofs.YtocaohipfiapkaaGreatDoorW.PrintLast Go.Proofs.YtocaohipfiapkaaGreatDoorW.PrintMore
/-- A rune that may be written. -/
def goodR (r : Int) : Prop := 0 ≤ r ∧ r ≤ 1114111 ∧ (r < 55296 ∨ 57343 < r)
def Good (l : List Int) : Prop := ∀ r, r ∈ l → goodR r
/-- Runes of a text that may be read. -/
def TextL (l : List Int) : Prop := ∀ r, r ∈ l → goodR r ∧ ¬ badR r
theorem TextL.drop {l : List Int} (h : TextL l) (n : Nat) : TextL (l.drop n) := fun x hx => h x (List.mem_of_mem_drop hx)
theorem TextL.take {l : List Int} (h : TextL l) (n : Nat) : TextL (l.take n) := fun x hx => h x (List.mem_of_mem_take hx)
theorem Good.drop {l : List Int} (h : Good l) (n : Nat) : Good (l.drop n) := fun x hx => h x (List.mem_of_mem_drop hx)
theorem Good.take {l : List Int} (h : Good l) (n : Nat) : Good (l.take n) := fun x hx => h x (List.mem_of_mem_take hx)
theorem TextL.append {a b : List Int} (h : TextL a) (k : TextL b) : TextL (a ++ b) := fun x hx => by
  rcases List.mem_append.1 hx with hx | hx
  · exact h x hx
  · exact k x hx
theorem zX {a b : ByteArray} (h : a.data.toList = b.data.toList) : a = b := by
  apply ByteArray.ext
  apply Array.ext'
  exact h
theorem iZ (a : ByteArray) : a.data.toList.length = a.size := Array.length_toList
instance : DecidableEq ByteArray := fun a b => decidable_of_iff (a.data.toList = b.data.toList) ⟨zX, fun h => by rw [h]⟩
instance (a : ByteArray) (l : List ByteArray) : Decidable (a ∈ l) := decidable_of_iff (l.any (fun x => decide (x = a)) = true) (by
  rw [List.any_eq_true]
  exact ⟨fun ⟨x, h, e⟩ => by rw [← of_decide_eq_true e]; exact h, fun h => ⟨a, h, decide_eq_true rfl⟩⟩)
end Go.Proofs.YtocaohipfiapkaaGreatDoor.RP
namespace Go.Proofs.YtocaohipfiapkaaGreatDoor.RP
set_option linter.unusedVariables false
set_option linter.unusedSimpArgs false
open Go.RowKit Go.Lib Go.Proofs.YtocaohipfiapkaaGreatDoorW.PrintWords Go.Proofs.YtocaohipfiapkaaGreatDoorW.PrintLast Go.Proofs.YtocaohipfiapkaaGreatDoorW.PrintMore Go.Proofs.YtocaohipfiapkaaGreatDoor.PAll
theorem toListB (s : ByteArray) : s.toList = s.data.toList := by
  have h := ByteArray.toList_mk s.data.toList
  have e : (ByteArray.mk s.data.toList.toArray) = s := by cases s; simp
  rw [e] at h
  exact h
theorem pE {a b : ByteArray} : a.toList = b.toList ↔ a = b := by
  rw [toListB, toListB]
  exact ⟨zX, fun h => by rw [h]⟩
def wordsL : List ByteArray := (lexer_words.f).getD []
theorem aBQ : lexer_words.f = some wordsL := rfl
def wordB (s : ByteArray) : Bool := decide (s ∈ wordsL)
theorem aDb (l : List ByteArray) (a : ByteArray) (hl : l.length ≤ 1000000) : ∀ (d i k : Nat), i ≤ l.length → l.length - i ≤ d → d + 1 ≤ k →
    ∃ z, slices_Index_string_string.l0 k l a (l.length : Int) (i : Int) = some z ∧ (0 ≤ z ↔ a ∈ l.drop i) := by
  intro d
  induction d with
  | zero =>
    intro i k h1 h2 hk
    obtain ⟨k, rfl⟩ : ∃ m, k = m + 1 := ⟨k - 1, by omega⟩
    simp only [slices_Index_string_string.l0]
    rw [if_neg (by omega), List.drop_eq_nil_of_le (by omega)]
    exact ⟨-1, rfl, by simp⟩
  | succ d ih =>
    intro i k h1 h2 hk
    obtain ⟨k, rfl⟩ : ∃ m, k = m + 1 := ⟨k - 1, by omega⟩
    simp only [slices_Index_string_string.l0]
    by_cases hi : i < l.length
    · have hd : l.drop i = rdOf ByteArray.empty l (i : Int) :: l.drop (i + 1) := by
        rw [List.drop_eq_getElem_cons hi]
        simp [rdOf, List.getD, hi]
      rw [if_pos (by omega), if_pos (by omega), if_pos (by omega), hd]
      by_cases he : a = rdOf ByteArray.empty l (i : Int)
      · rw [if_pos (pE.2 he)]
        exact ⟨_, rfl, ⟨fun _ => by rw [← he]; exact List.mem_cons_self, fun _ => by omega⟩⟩
      · rw [if_neg (fun h => he (pE.1 h)), w64s i (by omega)]
        obtain ⟨z, hz, hm⟩ := ih (i + 1) k (by omega) (by omega) (by omega)
        exact ⟨z, hz, hm.trans ⟨fun h => List.mem_cons_of_mem _ h, fun h => (List.mem_cons.1 h).resolve_left he⟩⟩
    · rw [if_neg (by omega), List.drop_eq_nil_of_le (by omega)]
      exact ⟨-1, rfl, by simp⟩
theorem xP (l : List ByteArray) (a : ByteArray) (hl : l.length ≤ 1000000) : slices_Contains_string_string.f (l.length + 1) l a = some (decide (a ∈ l)) := by
  unfold slices_Contains_string_string.f slices_Index_string_string.f
  obtain ⟨z, hz, hm⟩ := aDb l a hl l.length 0 (l.length + 1) (by omega) (by omega) (by omega)
  have e : (((0 : Nat)) : Int) = 0 := rfl
  rw [e] at hz
  rw [hz]
  simp only [Option.bind_some, List.drop_zero] at hm ⊢
  rw [decide_eq_decide.2 hm]
theorem aDT (s : ByteArray) : lexer_Word.f (wordsL.length + 1) s = some (wordB s) := by
  unfold lexer_Word.f
  rw [aBQ]
  simp only [Option.bind_some]
  rw [xP wordsL s (by decide)]
  rfl
def nameB (w : ByteArray) : Bool := nameP w && !wordB w
end Go.Proofs.YtocaohipfiapkaaGreatDoor.RP
namespace Go.Proofs.YtocaohipfiapkaaGreatDoor.RP
set_option linter.unusedVariables false
set_option linter.unusedSimpArgs false
open Go.RowKit Go.Lib Go.Proofs.YtocaohipfiapkaaGreatDoorW.PrintWords Go.Proofs.YtocaohipfiapkaaGreatDoorW.PrintLast Go.Proofs.YtocaohipfiapkaaGreatDoorW.PrintMore Go.Proofs.YtocaohipfiapkaaGreatDoor.RP Go.Proofs.YtocaohipfiapkaaGreatDoor.RW Go.Proofs.YtocaohipfiapkaaGreatDoor.PAll
def consHead (b : UInt8) : List (List UInt8) → List (List UInt8)
  | [] => [[b]]
  | p :: r => (b :: p) :: r
def pcs : List UInt8 → List (List UInt8)
  | [] => [[]]
  | b :: t => if b = 46 then [] :: pcs t else consHead b (pcs t)
theorem aDc (l : List UInt8) : pcs l ≠ [] := by
  cases l with
  | nil => simp [pcs]
  | cons b t =>
    rw [pcs]
    split
    · simp
    · cases pcs t <;> simp [consHead]
theorem aAz : ∀ (a c : List UInt8), pcs (a ++ 46 :: c) = pcs a ++ pcs c
  | [], c => rfl
  | b :: a, c => by
    rw [List.cons_append, pcs, pcs, aAz a c]
    split
    · rfl
    · cases hp : pcs a with
      | nil => exact absurd hp (aDc a)
      | cons x r => rfl
theorem nK : ∀ (a : List UInt8), (46 : UInt8) ∉ a → pcs a = [a]
  | [], _ => rfl
  | b :: a, h => by
    rw [pcs, if_neg (fun e => h (by rw [e]; exact List.mem_cons_self)), nK a (fun hm => h (List.mem_cons_of_mem _ hm))]
    rfl
def mkB (l : List UInt8) : ByteArray := ⟨l.toArray⟩
theorem xQ (s : ByteArray) : mkB s.data.toList = s := by cases s; simp [mkB]
theorem aDd (l : List UInt8) : (mkB l).size = l.length := by rw [← iZ]; rfl
def pcsB (s : ByteArray) : List ByteArray := (pcs s.data.toList).map mkB
abbrev dotB : ByteArray := ⟨#[46]⟩
theorem oI (s : ByteArray) : indexB s dotB = indexByte s.data.toList 46 := by
  have := one s dotB rfl
  exact this
theorem xR : ∀ (n : Nat) (s : ByteArray), s.size ≤ n → Lib.splitB dotB 0 (Lib.countB s dotB) s = pcsB s := by
  intro n
  induction n with
  | zero =>
    intro s hs
    rcases indexB_cases s dotB with h | ⟨i, h1, h2⟩
    · rw [splitB_miss _ _ _ _ h]
      have hn : (46 : UInt8) ∉ s.data.toList := fun hm => by
        obtain ⟨k, hk⟩ := List.getElem?_of_mem hm
        exact indexByte_none (by rw [← oI]; exact h) k hk
      unfold pcsB
      rw [nK _ hn]; simp [xQ]
    · exfalso
      have : dotB.size = 1 := rfl
      omega
  | succ n ih =>
    intro s hs
    rcases indexB_cases s dotB with h | ⟨i, h1, h2⟩
    · rw [splitB_miss _ _ _ _ h]
      have hn : (46 : UInt8) ∉ s.data.toList := fun hm => by
        obtain ⟨k, hk⟩ := List.getElem?_of_mem hm
        exact indexByte_none (by rw [← oI]; exact h) k hk
      unfold pcsB
      rw [nK _ hn]; simp [xQ]
    · have hd : dotB.size = 1 := rfl
      rw [countB_hit s dotB i (by omega) h1, show 1 + Lib.countB (s.extract (i + dotB.size) s.size) dotB = Lib.countB (s.extract (i + dotB.size) s.size) dotB + 1 by omega, splitB_hit _ _ _ _ i h1, hd]
      rw [ih (s.extract (i + 1) s.size) (by rw [ByteArray.size_extract]; omega)]
      obtain ⟨g1, g2⟩ := indexByte_some (l := s.data.toList) (c := 46) (o := i) (by rw [← oI]; exact h1)
      have hlt : i < s.data.toList.length := (List.getElem?_eq_some_iff.1 g1).1
      have e : s.data.toList = s.data.toList.take i ++ 46 :: s.data.toList.drop (i + 1) := by
        conv => lhs; rw [← List.take_append_drop i s.data.toList]
        rw [List.drop_eq_getElem_cons hlt]
        have : s.data.toList[i] = 46 := by rw [List.getElem?_eq_getElem hlt] at g1; exact Option.some.inj g1
        rw [this]
      have hn : (46 : UInt8) ∉ s.data.toList.take i := fun hm => by
        obtain ⟨k, hk⟩ := List.getElem?_of_mem hm
        have hki : k < i := by have := (List.getElem?_eq_some_iff.1 hk).1; rw [List.length_take] at this; omega
        rw [List.getElem?_take_of_lt hki] at hk
        exact g2 k hki hk
      unfold pcsB
      conv => rhs; rw [e, aAz, nK _ hn]
      rw [List.map_append, List.map_singleton, List.singleton_append, Nat.add_zero]
      congr 1
      · apply zX; rw [xM]; simp [mkB]
      · rw [aBL]
def longP (s : ByteArray) : Bool := decide (s.size ≤ 128) && (pcsB s).all nameB
def splitP (s : ByteArray) : List ByteArray := if longP s = true then pcsB s else []
end Go.Proofs.YtocaohipfiapkaaGreatDoor.RP
namespace Go.Proofs.YtocaohipfiapkaaGreatDoor.Ab
set_option linter.unusedVariables false
set_option linter.unusedSimpArgs false
open Go.RowKit Go.Lib Go.Proofs.YtocaohipfiapkaaGreatDoorW.PrintWords Go.Proofs.YtocaohipfiapkaaGreatDoorW.PrintLast Go.Proofs.YtocaohipfiapkaaGreatDoorW.PrintMore Go.Proofs.YtocaohipfiapkaaGreatDoor.RP Go.Proofs.YtocaohipfiapkaaGreatDoor.RW Go.Proofs.YtocaohipfiapkaaGreatDoor.PAll
theorem pF {P : Program} {f : FuncId} {l : List Value} {r : Value} (he : Enters P f) (h1 : r.oneCell' = true)
    (h : ∀ w M, Amb w M → Calls P f l.toArray w fun e w' => e = .returned r ∧ Below w.heap.size w w') : ACalls P f (l.map fun v => .imm (.lit v)) [] (.imm (.lit r)) [] := by
  have := nR (P := P) (f := f) (args := l.map .lit) (r := .lit r) he (fun w M vs ha hv => by
    rw [iL hv]
    exact (h w M ha).mono fun e w' ⟨h2, h3⟩ => ⟨r, h2, h3, iK h1⟩)
  rw [List.map_map] at this
  exact this
theorem aDe {w : World} {M : Nat → Prop} (h : Amb w M) : Tabs w := h.tabs
theorem aEq (s : ByteArray) : ACalls Tryz.prog 80 [.imm (.lit (.string s))] [] (.imm (.lit (.bool (wordB s)))) [] :=
  pF (l := [.string s]) ⟨_, Tryz.func80, rfl, rfl⟩ rfl (fun w M ha => lexer_Word.calls _ s _ w (aDT s))
end Go.Proofs.YtocaohipfiapkaaGreatDoor.Ab
namespace Go.Proofs.YtocaohipfiapkaaGreatDoor.Ab
set_option linter.unusedVariables false
set_option linter.unusedSimpArgs false
open Go.RowKit Go.Lib Go.Proofs.YtocaohipfiapkaaGreatDoorW.PrintWords Go.Proofs.YtocaohipfiapkaaGreatDoorW.PrintLast Go.Proofs.YtocaohipfiapkaaGreatDoorW.PrintMore Go.Proofs.YtocaohipfiapkaaGreatDoor.RP Go.Proofs.YtocaohipfiapkaaGreatDoor.RW Go.Proofs.YtocaohipfiapkaaGreatDoor.PAll
attribute [local irreducible] AWP AOps AExit AThen ABlock ANoGoto FeetOk
theorem rX (l : List ByteArray) (j : Nat) (h : j < l.length) : (strs l)[j * 1]? = some (.lit (.string l[j])) := by unfold strs; simp [h]
end Go.Proofs.YtocaohipfiapkaaGreatDoor.Ab
namespace Go.Proofs.YtocaohipfiapkaaGreatDoor.Ab
set_option linter.unusedVariables false
set_option linter.unusedSimpArgs false
open Go.RowKit Go.Lib Go.Proofs.YtocaohipfiapkaaGreatDoorW.PrintWords Go.Proofs.YtocaohipfiapkaaGreatDoorW.PrintLast Go.Proofs.YtocaohipfiapkaaGreatDoorW.PrintMore Go.Proofs.YtocaohipfiapkaaGreatDoor.RP Go.Proofs.YtocaohipfiapkaaGreatDoor.RW Go.Proofs.YtocaohipfiapkaaGreatDoor.PAll
theorem xS (s : ByteArray) (hs : s.size ≤ 1000000) : ACalls Tryz.prog 79 [.imm (.lit (.string s))] [] (.imm (.lit (.bool (nameP s)))) [] :=
  pF (l := [.string s]) ⟨_, Tryz.func79, rfl, rfl⟩ rfl (fun w M ha => aDa s w hs (aDe ha))
theorem aAA : ∀ l : List UInt8, (pcs l).length ≤ l.length + 1
  | [] => Nat.le_refl _
  | b :: t => by
    have := aAA t
    rw [pcs]
    split
    · simp only [List.length_cons]; omega
    · cases hp : pcs t with
      | nil => simp [consHead]
      | cons x r => rw [hp] at this; simp only [consHead, List.length_cons] at this ⊢; omega
theorem rY (s : ByteArray) : (pcsB s).length ≤ s.size + 1 := by
  unfold pcsB; rw [List.length_map, ← iZ]; exact aAA _
theorem aAB (s : ByteArray) (hs : s.size ≤ 1000000) : ACalls Tryz.prog 58 [.imm (.lit (.string s)), .imm (.lit (.string dotB))] [] (.imm (.sl false (pcsB s).length (strs (pcsB s)))) [] :=
  nR (args := [.lit (.string s), .lit (.string dotB)]) (r := .sl false (pcsB s).length (strs (pcsB s))) ⟨_, Tryz.func58, rfl, rfl⟩ (fun w M vs ha hv => by
    obtain ⟨v, us, rfl, h1, h2⟩ := iA hv
    obtain ⟨v2, us, rfl, h3, h4⟩ := iA h2
    rw [kU h1, kU h3, qL h4]
    obtain ⟨m, hm⟩ := ha.most
    have hl := rY s
    have hc : Lib.countB s dotB + 1 = (pcsB s).length := by
      rw [← xR s.size s (Nat.le_refl _), splitB_all dotB (by decide) 0 _ s rfl]
    refine (Tryz.strings_Split s dotB m w (by omega) hm (by decide)).mono fun e w' ⟨he, hw⟩ => ⟨_, he, ?_, ?_⟩
    · rw [hw]; exact below_alloc _
    · rw [hc, xR s.size s (Nat.le_refl _)] at *
      subst hw
      exact uP (cells := ((pcsB s).map Value.string).toArray) (T := 9) (fz := (0, 0)) (by show (w.heap.push _)[w.heap.size]? = _; simp) (Nat.le_refl _) (by rw [List.take_of_length_le (by simp)]) (Nat.le_refl _) (by unfold slMax; omega))
end Go.Proofs.YtocaohipfiapkaaGreatDoor.Ab
namespace Go.Proofs.YtocaohipfiapkaaGreatDoor.Ab
set_option linter.unusedVariables false
set_option linter.unusedSimpArgs false
open Go.RowKit Go.Lib Go.Proofs.YtocaohipfiapkaaGreatDoorW.PrintWords Go.Proofs.YtocaohipfiapkaaGreatDoorW.PrintLast Go.Proofs.YtocaohipfiapkaaGreatDoorW.PrintMore Go.Proofs.YtocaohipfiapkaaGreatDoor.RP Go.Proofs.YtocaohipfiapkaaGreatDoor.RW Go.Proofs.YtocaohipfiapkaaGreatDoor.PAll
attribute [local irreducible] AWP AOps AExit AThen ABlock ANoGoto FeetOk
set_option maxHeartbeats 4000000 in
set_option maxRecDepth 10000 in
theorem aDf (s : ByteArray) (hs : s.size ≤ 1000000) : ACalls Tryz.prog 56 [.imm (.lit (.string s))] [] (.imm (.lit (.bool (nameB s)))) [] := by
  have c1 := xS s hs
  have c2 := aEq s
  unfold nameB
  refine aH Tryz.func56 rfl rfl (nb rfl) rfl ?_
  repeat' (first | refine aE ?_ | (refine aG ?_; first | refine aB tabOk rfl rfl rfl (nb rfl) rfl ?_ | refine bL rfl rfl (nb rfl) ?_ | (refine aI rfl rfl rfl (nb rfl) rfl rfl rfl (fun hq => ?_) (fun hq => ?_) <;> (first | (simp only [sD, sE, sB, sC, sN, sM, sT, sF] at hq; try (exfalso; omega)) | skip))| (refine bP rfl rfl rfl (nb rfl) rfl rfl rfl (c1) (fun hq => ?_) (fun hq => ?_)) | (refine bP rfl rfl rfl (nb rfl) rfl rfl rfl (c2) (fun hq => ?_) (fun hq => ?_)) | refine bO rfl rfl rfl (nb rfl) rfl rfl (by omega) ?_ | refine cO rfl rfl rfl (nb rfl) rfl rfl rfl (by omega) (by omega) ?_ | refine cF rfl rfl rfl (nb rfl) rfl rfl rfl (by omega) (by omega) ?_ | refine bS tabOk rfl rfl rfl (nb rfl) rfl rfl rfl rfl rfl rfl rfl rfl rfl ?_ | refine aT tabOk rfl rfl (nb rfl) rfl ?_ | refine cL tabOk rfl rfl rfl (nb rfl) rfl rfl rfl rfl rfl rfl ?_ | refine bK tabOk rfl rfl rfl (nb rfl) rfl rfl rfl rfl ?_ | refine bG tabOk rfl rfl rfl rfl rfl rfl rfl rfl rfl rfl rfl ?_ | refine bB tabOk rfl rfl rfl (nb rfl) rfl rfl rfl rfl (by first | assumption | omega) ?_ | refine aY tabOk rfl rfl rfl (nb rfl) rfl rfl rfl rfl (by first | rfl | omega) (by first | omega | simp) ?_ | refine bA tabOk rfl rfl rfl (nb rfl) rfl rfl rfl (by assumption) ?_ | refine bA tabOk rfl rfl rfl (nb rfl) rfl rfl rfl (cC _ _ (by first | assumption | omega)) ?_ | refine bO rfl rfl rfl (nb rfl) rfl rfl (by omega) ?_ | ((fail_if_success (refine cJ (b := true) rfl rfl rfl ?_)); (fail_if_success (refine cJ (b := false) rfl rfl rfl ?_)); refine dD rfl rfl rfl (fun hq => ?_) (fun hq => ?_) <;> first | subst hq | (first | (simp only [sD, sE, sB, sC, sN, sM, sT, sF] at hq; try (exfalso; omega)) | skip)) | fail) | (refine aK ?_; first | refine aF ?_ | refine aL ?_ | refine bD ?_ | refine aR ?_ | refine aM ?_ | refine bQ ?_ | refine aS ?_ | refine aC (b := true) rfl (fun _ => ?_) nTf | refine aC (b := false) rfl nFt (fun _ => ?_) | refine dY ?_ | refine dX ?_ | refine dZ mixed (by kernel_rfl) ?_ | refine aQ mixed (by kernel_rfl) ?_ | (refine aC rfl (fun hq => ?_) (fun hq => ?_) <;> first | subst hq | (first | (simp only [sD, sE, sB, sC, sN, sM, sT, sF] at hq; try (exfalso; omega)) | skip)) | fail) | (refine aJ ?_; first | refine aU ?_ | refine bH ?_ | refine aN ?_ | fail) | (refine aP ?_; first | refine bM ?_ | refine bE ?_ | refine dB (by decide) ?_ | refine aX ?_ | fail) | refine bC (aZ (by kernel_rfl)) ?_ | fail)
  all_goals (refine aO (by first | exact .inl rfl | exact .inr rfl) (aW rfl (aA rfl)) rfl ?_; refine cE ?_; simp_all)
set_option maxHeartbeats 4000000 in
set_option maxRecDepth 10000 in
theorem aEr (s : ByteArray) (hs : s.size ≤ 1000000) : ACalls Tryz.prog 55 [.imm (.lit (.string s))] [] (.imm (.lit (.bool (!nameB s)))) [] := by
  have c1 := aDf s hs
  refine aH Tryz.func55 rfl rfl (nb rfl) rfl ?_
  repeat' (first | refine aE ?_ | (refine aG ?_; first | refine aB tabOk rfl rfl rfl (nb rfl) rfl ?_ | refine bL rfl rfl (nb rfl) ?_ | (refine aI rfl rfl rfl (nb rfl) rfl rfl rfl (fun hq => ?_) (fun hq => ?_) <;> (first | (simp only [sD, sE, sB, sC, sN, sM, sT, sF] at hq; try (exfalso; omega)) | skip))| (refine bP rfl rfl rfl (nb rfl) rfl rfl rfl (c1) (fun hq => ?_) (fun hq => ?_)) | refine bO rfl rfl rfl (nb rfl) rfl rfl (by omega) ?_ | refine cO rfl rfl rfl (nb rfl) rfl rfl rfl (by omega) (by omega) ?_ | refine cF rfl rfl rfl (nb rfl) rfl rfl rfl (by omega) (by omega) ?_ | refine bS tabOk rfl rfl rfl (nb rfl) rfl rfl rfl rfl rfl rfl rfl rfl rfl ?_ | refine aT tabOk rfl rfl (nb rfl) rfl ?_ | refine cL tabOk rfl rfl rfl (nb rfl) rfl rfl rfl rfl rfl rfl ?_ | refine bK tabOk rfl rfl rfl (nb rfl) rfl rfl rfl rfl ?_ | refine bG tabOk rfl rfl rfl rfl rfl rfl rfl rfl rfl rfl rfl ?_ | refine bB tabOk rfl rfl rfl (nb rfl) rfl rfl rfl rfl (by first | assumption | omega) ?_ | refine aY tabOk rfl rfl rfl (nb rfl) rfl rfl rfl rfl (by first | rfl | omega) (by first | omega | simp) ?_ | refine bA tabOk rfl rfl rfl (nb rfl) rfl rfl rfl (by assumption) ?_ | refine bA tabOk rfl rfl rfl (nb rfl) rfl rfl rfl (cC _ _ (by first | assumption | omega)) ?_ | refine bO rfl rfl rfl (nb rfl) rfl rfl (by omega) ?_ | ((fail_if_success (refine cJ (b := true) rfl rfl rfl ?_)); (fail_if_success (refine cJ (b := false) rfl rfl rfl ?_)); refine dD rfl rfl rfl (fun hq => ?_) (fun hq => ?_) <;> first | subst hq | (first | (simp only [sD, sE, sB, sC, sN, sM, sT, sF] at hq; try (exfalso; omega)) | skip)) | fail) | (refine aK ?_; first | refine aF ?_ | refine aL ?_ | refine bD ?_ | refine aR ?_ | refine aM ?_ | refine bQ ?_ | refine aS ?_ | refine aC (b := true) rfl (fun _ => ?_) nTf | refine aC (b := false) rfl nFt (fun _ => ?_) | refine dY ?_ | refine dX ?_ | refine dZ mixed (by kernel_rfl) ?_ | refine aQ mixed (by kernel_rfl) ?_ | (refine aC rfl (fun hq => ?_) (fun hq => ?_) <;> first | subst hq | (first | (simp only [sD, sE, sB, sC, sN, sM, sT, sF] at hq; try (exfalso; omega)) | skip)) | fail) | (refine aJ ?_; first | refine aU ?_ | refine bH ?_ | refine aN ?_ | fail) | (refine aP ?_; first | refine bM ?_ | refine bE ?_ | refine dB (by decide) ?_ | refine aX ?_ | fail) | refine bC (aZ (by kernel_rfl)) ?_ | fail)
  all_goals (refine aO (by first | exact .inl rfl | exact .inr rfl) (aW rfl (aA rfl)) rfl ?_; refine cE ?_; simp_all)
set_option maxHeartbeats 4000000 in
set_option maxRecDepth 10000 in
theorem xT (b : Bool) (l : List ByteArray) (f : FuncId) (R : ByteArray → Bool) (hl : l.length ≤ 1000000)
    (hf : ∀ i (hi : i < l.length), ACalls Tryz.prog f [.imm (.lit (.string l[i]))] [] (.imm (.lit (.bool (R l[i])))) []) :
    ∃ r : Int, (0 ≤ r ↔ l.any R = true) ∧ ACalls Tryz.prog 81 [.imm (.sl b l.length (strs l)), .imm (.func f [] [])] [] (.imm (.lit (.int .i64 r))) [] := by
  have hex : (∃ j, ∃ hj : j < l.length, R l[j] = true ∧ ∀ i (hi : i < l.length), i < j → R l[i] = false) ∨ (∀ i (hi : i < l.length), R l[i] = false) := by
    clear hf
    induction l with
    | nil => exact .inr (fun i hi => by simp at hi)
    | cons x l ih =>
      cases hx : R x with
      | true => exact .inl ⟨0, by simp, hx, fun i hi h => by omega⟩
      | false =>
        rcases ih (by simp at hl; omega) with ⟨j, hj, h1, h2⟩ | h
        · refine .inl ⟨j + 1, by simp; omega, by simpa using h1, fun i hi h => ?_⟩
          cases i with
          | zero => simpa using hx
          | succ i => simpa using h2 i (by simpa using hi) (by omega)
        · refine .inr fun i hi => ?_
          cases i with
          | zero => simpa using hx
          | succ i => simpa using h i (by simpa using hi)
  have walk : ∀ (z : Nat), z ≤ l.length → (∀ i (hi : i < l.length), i < z → R l[i] = false) → (∀ hz : z < l.length, R l[z] = true) →
      ACalls Tryz.prog 81 [.imm (.sl b l.length (strs l)), .imm (.func f [] [])] [] (.imm (.lit (.int .i64 (if z < l.length then (z : Int) else -1)))) [] := by
    intro z hz hno hyes
    refine aH Tryz.func81 rfl rfl (nb rfl) rfl ?_
    repeat' (first | refine aE ?_ | (refine aG ?_; first | refine aB tabOk rfl rfl rfl (nb rfl) rfl ?_ | refine bL rfl rfl (nb rfl) ?_ | (refine aI rfl rfl rfl (nb rfl) rfl rfl rfl (fun hq => ?_) (fun hq => ?_) <;> (first | (simp only [sD, sE, sB, sC, sN, sM, sT, sF] at hq; try (exfalso; omega)) | skip)) | refine bO rfl rfl rfl (nb rfl) rfl rfl (by omega) ?_ | refine cO rfl rfl rfl (nb rfl) rfl rfl rfl (by omega) (by omega) ?_ | refine cF rfl rfl rfl (nb rfl) rfl rfl rfl (by omega) (by omega) ?_ | refine bS tabOk rfl rfl rfl (nb rfl) rfl rfl rfl rfl rfl rfl rfl rfl rfl ?_ | refine aT tabOk rfl rfl (nb rfl) rfl ?_ | refine cL tabOk rfl rfl rfl (nb rfl) rfl rfl rfl rfl rfl rfl ?_ | refine bK tabOk rfl rfl rfl (nb rfl) rfl rfl rfl rfl ?_ | refine bG tabOk rfl rfl rfl rfl rfl rfl rfl rfl rfl rfl rfl ?_ | refine bB tabOk rfl rfl rfl (nb rfl) rfl rfl rfl rfl (by first | assumption | omega) ?_ | refine aY tabOk rfl rfl rfl (nb rfl) rfl rfl rfl rfl (by first | rfl | omega) (by first | omega | simp) ?_ | refine bA tabOk rfl rfl rfl (nb rfl) rfl rfl rfl (by assumption) ?_ | refine bA tabOk rfl rfl rfl (nb rfl) rfl rfl rfl (cC _ _ (by first | assumption | omega)) ?_ | refine bO rfl rfl rfl (nb rfl) rfl rfl (by omega) ?_ | ((fail_if_success (refine cJ (b := true) rfl rfl rfl ?_)); (fail_if_success (refine cJ (b := false) rfl rfl rfl ?_)); refine dD rfl rfl rfl (fun hq => ?_) (fun hq => ?_) <;> first | subst hq | (first | (simp only [sD, sE, sB, sC, sN, sM, sT, sF] at hq; try (exfalso; omega)) | skip)) | fail) | (refine aK ?_; first | refine aF ?_ | refine aL ?_ | refine bD ?_ | refine aR ?_ | refine aM ?_ | refine bQ ?_ | refine aS ?_ | refine aC (b := true) rfl (fun _ => ?_) nTf | refine aC (b := false) rfl nFt (fun _ => ?_) | refine dY ?_ | refine dX ?_ | refine dZ mixed (by kernel_rfl) ?_ | refine aQ mixed (by kernel_rfl) ?_ | (refine aC rfl (fun hq => ?_) (fun hq => ?_) <;> first | subst hq | (first | (simp only [sD, sE, sB, sC, sN, sM, sT, sF] at hq; try (exfalso; omega)) | skip)) | fail) | (refine aJ ?_; first | refine aU ?_ | refine bH ?_ | refine aN ?_ | fail) | (refine aP ?_; first | refine bM ?_ | refine bE ?_ | refine dB (by decide) ?_ | refine aX ?_ | fail) | refine bC (aZ (by kernel_rfl)) ?_ | fail)
    refine bZ (ι := {j : Nat // j ≤ z}) (fun j => S.f ⟨[(8, .imm (.lit (.int .i64 (j.1 : Int)))), (7, .imm (.lit (.int .i64 (l.length : Int)))), (0, .imm (.sl b l.length (strs l))), (1, .imm (.func f [] []))], []⟩) (fun j => l.length - j.1) ⟨0, Nat.zero_le _⟩ (bT (by repeat' first | exact trivial | refine ⟨rfl, ?_⟩) (by repeat' first | exact trivial | refine ⟨rfl, ?_⟩)) ?_
    rintro ⟨j, hj⟩
    dsimp only
    by_cases hlt : j < l.length
    · have c := hf j hlt
      by_cases hjz : j < z
      · rw [hno j hlt hjz] at c
        repeat' (first | refine aE ?_ | (refine aG ?_; first | refine aB tabOk rfl rfl rfl (nb rfl) rfl ?_ | refine bL rfl rfl (nb rfl) ?_ | (refine aI rfl rfl rfl (nb rfl) rfl rfl rfl (fun hq => ?_) (fun hq => ?_) <;> (first | (simp only [sD, sE, sB, sC, sN, sM, sT, sF] at hq; try (exfalso; omega)) | skip))| refine bA tabOk rfl rfl rfl (nb rfl) rfl rfl rfl (rX l j hlt) ?_ | refine aD rfl rfl (nb rfl) rfl rfl rfl rfl (c) ?_ | refine bO rfl rfl rfl (nb rfl) rfl rfl (by omega) ?_ | refine cO rfl rfl rfl (nb rfl) rfl rfl rfl (by omega) (by omega) ?_ | refine cF rfl rfl rfl (nb rfl) rfl rfl rfl (by omega) (by omega) ?_ | refine bS tabOk rfl rfl rfl (nb rfl) rfl rfl rfl rfl rfl rfl rfl rfl rfl ?_ | refine aT tabOk rfl rfl (nb rfl) rfl ?_ | refine cL tabOk rfl rfl rfl (nb rfl) rfl rfl rfl rfl rfl rfl ?_ | refine bK tabOk rfl rfl rfl (nb rfl) rfl rfl rfl rfl ?_ | refine bG tabOk rfl rfl rfl rfl rfl rfl rfl rfl rfl rfl rfl ?_ | refine bB tabOk rfl rfl rfl (nb rfl) rfl rfl rfl rfl (by first | assumption | omega) ?_ | refine aY tabOk rfl rfl rfl (nb rfl) rfl rfl rfl rfl (by first | rfl | omega) (by first | omega | simp) ?_ | refine bA tabOk rfl rfl rfl (nb rfl) rfl rfl rfl (by assumption) ?_ | refine bA tabOk rfl rfl rfl (nb rfl) rfl rfl rfl (cC _ _ (by first | assumption | omega)) ?_ | refine bO rfl rfl rfl (nb rfl) rfl rfl (by omega) ?_ | ((fail_if_success (refine cJ (b := true) rfl rfl rfl ?_)); (fail_if_success (refine cJ (b := false) rfl rfl rfl ?_)); refine dD rfl rfl rfl (fun hq => ?_) (fun hq => ?_) <;> first | subst hq | (first | (simp only [sD, sE, sB, sC, sN, sM, sT, sF] at hq; try (exfalso; omega)) | skip)) | fail) | (refine aK ?_; first | refine aF ?_ | refine aL ?_ | refine bD ?_ | refine aR ?_ | refine aM ?_ | refine bQ ?_ | refine aS ?_ | refine aC (b := true) rfl (fun _ => ?_) nTf | refine aC (b := false) rfl nFt (fun _ => ?_) | refine dY ?_ | refine dX ?_ | refine dZ mixed (by kernel_rfl) ?_ | refine aQ mixed (by kernel_rfl) ?_ | (refine aC rfl (fun hq => ?_) (fun hq => ?_) <;> first | subst hq | (first | (simp only [sD, sE, sB, sC, sN, sM, sT, sF] at hq; try (exfalso; omega)) | skip)) | fail) | (refine aJ ?_; first | refine aU ?_ | refine bH ?_ | refine aN ?_ | fail) | (refine aP ?_; first | refine bM ?_ | refine bE ?_ | refine dB (by decide) ?_ | refine aX ?_ | fail) | refine bC (aZ (by kernel_rfl)) ?_ | fail)
        all_goals exact ⟨⟨j + 1, hjz⟩, (by show l.length - (j + 1) < l.length - j; omega), (bT (by repeat' first | exact trivial | refine ⟨rfl, ?_⟩) (by repeat' first | exact trivial | refine ⟨rfl, ?_⟩))⟩
      · have e : j = z := by omega
        subst e
        rw [hyes hlt] at c
        repeat' (first | refine aE ?_ | (refine aG ?_; first | refine aB tabOk rfl rfl rfl (nb rfl) rfl ?_ | refine bL rfl rfl (nb rfl) ?_ | (refine aI rfl rfl rfl (nb rfl) rfl rfl rfl (fun hq => ?_) (fun hq => ?_) <;> (first | (simp only [sD, sE, sB, sC, sN, sM, sT, sF] at hq; try (exfalso; omega)) | skip))| refine bA tabOk rfl rfl rfl (nb rfl) rfl rfl rfl (rX l j hlt) ?_ | refine aD rfl rfl (nb rfl) rfl rfl rfl rfl (c) ?_ | refine bO rfl rfl rfl (nb rfl) rfl rfl (by omega) ?_ | refine cO rfl rfl rfl (nb rfl) rfl rfl rfl (by omega) (by omega) ?_ | refine cF rfl rfl rfl (nb rfl) rfl rfl rfl (by omega) (by omega) ?_ | refine bS tabOk rfl rfl rfl (nb rfl) rfl rfl rfl rfl rfl rfl rfl rfl rfl ?_ | refine aT tabOk rfl rfl (nb rfl) rfl ?_ | refine cL tabOk rfl rfl rfl (nb rfl) rfl rfl rfl rfl rfl rfl ?_ | refine bK tabOk rfl rfl rfl (nb rfl) rfl rfl rfl rfl ?_ | refine bG tabOk rfl rfl rfl rfl rfl rfl rfl rfl rfl rfl rfl ?_ | refine bB tabOk rfl rfl rfl (nb rfl) rfl rfl rfl rfl (by first | assumption | omega) ?_ | refine aY tabOk rfl rfl rfl (nb rfl) rfl rfl rfl rfl (by first | rfl | omega) (by first | omega | simp) ?_ | refine bA tabOk rfl rfl rfl (nb rfl) rfl rfl rfl (by assumption) ?_ | refine bA tabOk rfl rfl rfl (nb rfl) rfl rfl rfl (cC _ _ (by first | assumption | omega)) ?_ | refine bO rfl rfl rfl (nb rfl) rfl rfl (by omega) ?_ | ((fail_if_success (refine cJ (b := true) rfl rfl rfl ?_)); (fail_if_success (refine cJ (b := false) rfl rfl rfl ?_)); refine dD rfl rfl rfl (fun hq => ?_) (fun hq => ?_) <;> first | subst hq | (first | (simp only [sD, sE, sB, sC, sN, sM, sT, sF] at hq; try (exfalso; omega)) | skip)) | fail) | (refine aK ?_; first | refine aF ?_ | refine aL ?_ | refine bD ?_ | refine aR ?_ | refine aM ?_ | refine bQ ?_ | refine aS ?_ | refine aC (b := true) rfl (fun _ => ?_) nTf | refine aC (b := false) rfl nFt (fun _ => ?_) | refine dY ?_ | refine dX ?_ | refine dZ mixed (by kernel_rfl) ?_ | refine aQ mixed (by kernel_rfl) ?_ | (refine aC rfl (fun hq => ?_) (fun hq => ?_) <;> first | subst hq | (first | (simp only [sD, sE, sB, sC, sN, sM, sT, sF] at hq; try (exfalso; omega)) | skip)) | fail) | (refine aJ ?_; first | refine aU ?_ | refine bH ?_ | refine aN ?_ | fail) | (refine aP ?_; first | refine bM ?_ | refine bE ?_ | refine dB (by decide) ?_ | refine aX ?_ | fail) | refine bC (aZ (by kernel_rfl)) ?_ | fail)
        all_goals (refine aO (by first | exact .inl rfl | exact .inr rfl) (aW rfl (aA rfl)) rfl ?_; exact iJ (by rw [if_pos hlt]))
    · repeat' (first | refine aE ?_ | (refine aG ?_; first | refine aB tabOk rfl rfl rfl (nb rfl) rfl ?_ | refine bL rfl rfl (nb rfl) ?_ | (refine aI rfl rfl rfl (nb rfl) rfl rfl rfl (fun hq => ?_) (fun hq => ?_) <;> (first | (simp only [sD, sE, sB, sC, sN, sM, sT, sF] at hq; try (exfalso; omega)) | skip)) | refine bO rfl rfl rfl (nb rfl) rfl rfl (by omega) ?_ | refine cO rfl rfl rfl (nb rfl) rfl rfl rfl (by omega) (by omega) ?_ | refine cF rfl rfl rfl (nb rfl) rfl rfl rfl (by omega) (by omega) ?_ | refine bS tabOk rfl rfl rfl (nb rfl) rfl rfl rfl rfl rfl rfl rfl rfl rfl ?_ | refine aT tabOk rfl rfl (nb rfl) rfl ?_ | refine cL tabOk rfl rfl rfl (nb rfl) rfl rfl rfl rfl rfl rfl ?_ | refine bK tabOk rfl rfl rfl (nb rfl) rfl rfl rfl rfl ?_ | refine bG tabOk rfl rfl rfl rfl rfl rfl rfl rfl rfl rfl rfl ?_ | refine bB tabOk rfl rfl rfl (nb rfl) rfl rfl rfl rfl (by first | assumption | omega) ?_ | refine aY tabOk rfl rfl rfl (nb rfl) rfl rfl rfl rfl (by first | rfl | omega) (by first | omega | simp) ?_ | refine bA tabOk rfl rfl rfl (nb rfl) rfl rfl rfl (by assumption) ?_ | refine bA tabOk rfl rfl rfl (nb rfl) rfl rfl rfl (cC _ _ (by first | assumption | omega)) ?_ | refine bO rfl rfl rfl (nb rfl) rfl rfl (by omega) ?_ | ((fail_if_success (refine cJ (b := true) rfl rfl rfl ?_)); (fail_if_success (refine cJ (b := false) rfl rfl rfl ?_)); refine dD rfl rfl rfl (fun hq => ?_) (fun hq => ?_) <;> first | subst hq | (first | (simp only [sD, sE, sB, sC, sN, sM, sT, sF] at hq; try (exfalso; omega)) | skip)) | fail) | (refine aK ?_; first | refine aF ?_ | refine aL ?_ | refine bD ?_ | refine aR ?_ | refine aM ?_ | refine bQ ?_ | refine aS ?_ | refine aC (b := true) rfl (fun _ => ?_) nTf | refine aC (b := false) rfl nFt (fun _ => ?_) | refine dY ?_ | refine dX ?_ | refine dZ mixed (by kernel_rfl) ?_ | refine aQ mixed (by kernel_rfl) ?_ | (refine aC rfl (fun hq => ?_) (fun hq => ?_) <;> first | subst hq | (first | (simp only [sD, sE, sB, sC, sN, sM, sT, sF] at hq; try (exfalso; omega)) | skip)) | fail) | (refine aJ ?_; first | refine aU ?_ | refine bH ?_ | refine aN ?_ | fail) | (refine aP ?_; first | refine bM ?_ | refine bE ?_ | refine dB (by decide) ?_ | refine aX ?_ | fail) | refine bC (aZ (by kernel_rfl)) ?_ | fail)
      all_goals (refine aO (by first | exact .inl rfl | exact .inr rfl) (aW rfl (aA rfl)) rfl ?_; exact iJ (by rw [if_neg (by omega)]))
  rcases hex with ⟨j, hj, h1, h2⟩ | h
  · refine ⟨_, ?_, walk j (by omega) (fun i hi h => h2 i hi h) (fun _ => h1)⟩
    rw [if_pos hj]
    exact ⟨fun _ => List.any_eq_true.2 ⟨l[j], List.getElem_mem hj, h1⟩, fun _ => by omega⟩
  · refine ⟨_, ?_, walk l.length (Nat.le_refl _) (fun i hi _ => h i hi) (fun hz => absurd hz (Nat.lt_irrefl _))⟩
    rw [if_neg (Nat.lt_irrefl _)]
    refine ⟨fun h => by omega, fun ha => ?_⟩
    obtain ⟨x, hx, hR⟩ := List.any_eq_true.1 ha
    obtain ⟨i, hi, rfl⟩ := List.mem_iff_getElem.1 hx
    rw [h i hi] at hR; cases hR
set_option maxHeartbeats 4000000 in
set_option maxRecDepth 10000 in
theorem rZ (b : Bool) (l : List ByteArray) (f : FuncId) (R : ByteArray → Bool) (hl : l.length ≤ 1000000)
    (hf : ∀ i (hi : i < l.length), ACalls Tryz.prog f [.imm (.lit (.string l[i]))] [] (.imm (.lit (.bool (R l[i])))) []) :
    ACalls Tryz.prog 57 [.imm (.sl b l.length (strs l)), .imm (.func f [] [])] [] (.imm (.lit (.bool (l.any R)))) [] := by
  obtain ⟨r, hr, c⟩ := xT b l f R hl hf
  generalize l.any R = q at hr
  refine aH Tryz.func57 rfl rfl (nb rfl) rfl ?_
  repeat' (first | refine aE ?_ | (refine aG ?_; first | refine aB tabOk rfl rfl rfl (nb rfl) rfl ?_ | refine bL rfl rfl (nb rfl) ?_ | (refine aI rfl rfl rfl (nb rfl) rfl rfl rfl (fun hq => ?_) (fun hq => ?_) <;> (first | (simp only [sD, sE, sB, sC, sN, sM, sT, sF] at hq; try (exfalso; omega)) | skip))| refine aD rfl rfl (nb rfl) rfl rfl rfl rfl (c) ?_ | refine bO rfl rfl rfl (nb rfl) rfl rfl (by omega) ?_ | refine cO rfl rfl rfl (nb rfl) rfl rfl rfl (by omega) (by omega) ?_ | refine cF rfl rfl rfl (nb rfl) rfl rfl rfl (by omega) (by omega) ?_ | refine bS tabOk rfl rfl rfl (nb rfl) rfl rfl rfl rfl rfl rfl rfl rfl rfl ?_ | refine aT tabOk rfl rfl (nb rfl) rfl ?_ | refine cL tabOk rfl rfl rfl (nb rfl) rfl rfl rfl rfl rfl rfl ?_ | refine bK tabOk rfl rfl rfl (nb rfl) rfl rfl rfl rfl ?_ | refine bG tabOk rfl rfl rfl rfl rfl rfl rfl rfl rfl rfl rfl ?_ | refine bB tabOk rfl rfl rfl (nb rfl) rfl rfl rfl rfl (by first | assumption | omega) ?_ | refine aY tabOk rfl rfl rfl (nb rfl) rfl rfl rfl rfl (by first | rfl | omega) (by first | omega | simp) ?_ | refine bA tabOk rfl rfl rfl (nb rfl) rfl rfl rfl (by assumption) ?_ | refine bA tabOk rfl rfl rfl (nb rfl) rfl rfl rfl (cC _ _ (by first | assumption | omega)) ?_ | refine bO rfl rfl rfl (nb rfl) rfl rfl (by omega) ?_ | ((fail_if_success (refine cJ (b := true) rfl rfl rfl ?_)); (fail_if_success (refine cJ (b := false) rfl rfl rfl ?_)); refine dD rfl rfl rfl (fun hq => ?_) (fun hq => ?_) <;> first | subst hq | (first | (simp only [sD, sE, sB, sC, sN, sM, sT, sF] at hq; try (exfalso; omega)) | skip)) | fail) | (refine aK ?_; first | refine aF ?_ | refine aL ?_ | refine bD ?_ | refine aR ?_ | refine aM ?_ | refine bQ ?_ | refine aS ?_ | refine aC (b := true) rfl (fun _ => ?_) nTf | refine aC (b := false) rfl nFt (fun _ => ?_) | refine dY ?_ | refine dX ?_ | refine dZ mixed (by kernel_rfl) ?_ | refine aQ mixed (by kernel_rfl) ?_ | (refine aC rfl (fun hq => ?_) (fun hq => ?_) <;> first | subst hq | (first | (simp only [sD, sE, sB, sC, sN, sM, sT, sF] at hq; try (exfalso; omega)) | skip)) | fail) | (refine aJ ?_; first | refine aU ?_ | refine bH ?_ | refine aN ?_ | fail) | (refine aP ?_; first | refine bM ?_ | refine bE ?_ | refine dB (by decide) ?_ | refine aX ?_ | fail) | refine bC (aZ (by kernel_rfl)) ?_ | fail)
  all_goals (refine aO (by first | exact .inl rfl | exact .inr rfl) (aW rfl (aA rfl)) rfl ?_; refine cE ?_; cases q <;> first | rfl | (exfalso; simp at hr; omega))
theorem xU (l : List ByteArray) (R : ByteArray → Bool) : (l.any fun x => !R x) = !(l.all R) := by
  induction l with
  | nil => rfl
  | cons x l ih => simp [ih, Bool.not_and]
theorem sG (s : ByteArray) : ∀ p ∈ pcsB s, p.size ≤ s.size := by
  have key : ∀ (l : List UInt8), ∀ p ∈ pcs l, p.length ≤ l.length := by
    intro l
    induction l with
    | nil => intro p hp; simp [pcs] at hp; simp [hp]
    | cons b t ih =>
      intro p hp
      rw [pcs] at hp
      split at hp
      · rcases List.mem_cons.1 hp with rfl | hp
        · simp
        · have := ih p hp; simp; omega
      · cases hq : pcs t with
        | nil => exact absurd hq (aDc t)
        | cons x r =>
          rw [hq] at hp ih
          simp only [consHead] at hp
          rcases List.mem_cons.1 hp with rfl | hp
          · have := ih x List.mem_cons_self; simp; omega
          · have := ih p (List.mem_cons_of_mem _ hp); simp; omega
  intro p hp
  unfold pcsB at hp
  obtain ⟨q, hq, rfl⟩ := List.mem_map.1 hp
  rw [aDd, ← iZ s]
  exact key _ q hq
set_option maxHeartbeats 4000000 in
set_option maxRecDepth 10000 in
theorem aAC (s : ByteArray) (hs : s.size ≤ 100000) : ACalls Tryz.prog 28 [.imm (.lit (.string s))] [] (.imm (.lit (.bool (longP s)))) [] := by
  have hl := rY s
  have c1 := aAB s (by omega)
  have c2 := rZ false (pcsB s) 55 (fun x => !nameB x) (by omega) (fun i hi => aEr _ (Nat.le_trans (sG s _ (List.getElem_mem hi)) (by omega)))
  rw [xU] at c2
  unfold longP
  generalize (pcsB s).all nameB = q at c2
  refine aH Tryz.func28 rfl rfl (nb rfl) rfl ?_
  repeat' (first | refine aE ?_ | (refine aG ?_; first | refine aB tabOk rfl rfl rfl (nb rfl) rfl ?_ | refine bL rfl rfl (nb rfl) ?_ | (refine aI rfl rfl rfl (nb rfl) rfl rfl rfl (fun hq => ?_) (fun hq => ?_) <;> (first | (simp only [sD, sE, sB, sC, sN, sM, sT, sF] at hq; try (exfalso; omega)) | skip))| refine aD rfl rfl (nb rfl) rfl rfl rfl rfl (c1) ?_ | (refine bP rfl rfl rfl (nb rfl) rfl rfl rfl (c2) (fun hq => ?_) (fun hq => ?_)) | refine bO rfl rfl rfl (nb rfl) rfl rfl (by omega) ?_ | refine cO rfl rfl rfl (nb rfl) rfl rfl rfl (by omega) (by omega) ?_ | refine cF rfl rfl rfl (nb rfl) rfl rfl rfl (by omega) (by omega) ?_ | refine bS tabOk rfl rfl rfl (nb rfl) rfl rfl rfl rfl rfl rfl rfl rfl rfl ?_ | refine aT tabOk rfl rfl (nb rfl) rfl ?_ | refine cL tabOk rfl rfl rfl (nb rfl) rfl rfl rfl rfl rfl rfl ?_ | refine bK tabOk rfl rfl rfl (nb rfl) rfl rfl rfl rfl ?_ | refine bG tabOk rfl rfl rfl rfl rfl rfl rfl rfl rfl rfl rfl ?_ | refine bB tabOk rfl rfl rfl (nb rfl) rfl rfl rfl rfl (by first | assumption | omega) ?_ | refine aY tabOk rfl rfl rfl (nb rfl) rfl rfl rfl rfl (by first | rfl | omega) (by first | omega | simp) ?_ | refine bA tabOk rfl rfl rfl (nb rfl) rfl rfl rfl (by assumption) ?_ | refine bA tabOk rfl rfl rfl (nb rfl) rfl rfl rfl (cC _ _ (by first | assumption | omega)) ?_ | refine bO rfl rfl rfl (nb rfl) rfl rfl (by omega) ?_ | ((fail_if_success (refine cJ (b := true) rfl rfl rfl ?_)); (fail_if_success (refine cJ (b := false) rfl rfl rfl ?_)); refine dD rfl rfl rfl (fun hq => ?_) (fun hq => ?_) <;> first | subst hq | (first | (simp only [sD, sE, sB, sC, sN, sM, sT, sF] at hq; try (exfalso; omega)) | skip)) | fail) | (refine aK ?_; first | refine aF ?_ | refine aL ?_ | refine bD ?_ | refine aR ?_ | refine aM ?_ | refine bQ ?_ | refine aS ?_ | refine aC (b := true) rfl (fun _ => ?_) nTf | refine aC (b := false) rfl nFt (fun _ => ?_) | refine dY ?_ | refine dX ?_ | refine dZ mixed (by kernel_rfl) ?_ | refine aQ mixed (by kernel_rfl) ?_ | (refine aC rfl (fun hq => ?_) (fun hq => ?_) <;> first | subst hq | (first | (simp only [sD, sE, sB, sC, sN, sM, sT, sF] at hq; try (exfalso; omega)) | skip)) | fail) | (refine aJ ?_; first | refine aU ?_ | refine bH ?_ | refine aN ?_ | fail) | (refine aP ?_; first | refine bM ?_ | refine bE ?_ | refine dB (by decide) ?_ | refine aX ?_ | fail) | refine bC (aZ (by kernel_rfl)) ?_ | fail)
  all_goals (refine aO (by first | exact .inl rfl | exact .inr rfl) (aW rfl (aA rfl)) rfl ?_; refine cE ?_; cases q <;> simp_all <;> omega)
set_option maxHeartbeats 4000000 in
set_option maxRecDepth 10000 in
theorem aDg (s : ByteArray) (hs : s.size ≤ 100000) : ACalls Tryz.prog 29 [.imm (.lit (.string s))] [] (.imm (.sl false (splitP s).length (strs (splitP s)))) [] := by
  have c1 := aAC s hs
  have c2 := aAB s (by omega)
  unfold splitP
  cases h : longP s with
  | true =>
    rw [h] at c1
    rw [if_pos rfl]
    refine aH Tryz.func29 rfl rfl (nb rfl) rfl ?_
    repeat' (first | refine aE ?_ | (refine aG ?_; first | refine aB tabOk rfl rfl rfl (nb rfl) rfl ?_ | refine bL rfl rfl (nb rfl) ?_ | (refine aI rfl rfl rfl (nb rfl) rfl rfl rfl (fun hq => ?_) (fun hq => ?_) <;> (first | (simp only [sD, sE, sB, sC, sN, sM, sT, sF] at hq; try (exfalso; omega)) | skip))| refine aD rfl rfl (nb rfl) rfl rfl rfl rfl (c1) ?_ | refine aD rfl rfl (nb rfl) rfl rfl rfl rfl (c2) ?_ | refine bO rfl rfl rfl (nb rfl) rfl rfl (by omega) ?_ | refine cO rfl rfl rfl (nb rfl) rfl rfl rfl (by omega) (by omega) ?_ | refine cF rfl rfl rfl (nb rfl) rfl rfl rfl (by omega) (by omega) ?_ | refine bS tabOk rfl rfl rfl (nb rfl) rfl rfl rfl rfl rfl rfl rfl rfl rfl ?_ | refine aT tabOk rfl rfl (nb rfl) rfl ?_ | refine cL tabOk rfl rfl rfl (nb rfl) rfl rfl rfl rfl rfl rfl ?_ | refine bK tabOk rfl rfl rfl (nb rfl) rfl rfl rfl rfl ?_ | refine bG tabOk rfl rfl rfl rfl rfl rfl rfl rfl rfl rfl rfl ?_ | refine bB tabOk rfl rfl rfl (nb rfl) rfl rfl rfl rfl (by first | assumption | omega) ?_ | refine aY tabOk rfl rfl rfl (nb rfl) rfl rfl rfl rfl (by first | rfl | omega) (by first | omega | simp) ?_ | refine bA tabOk rfl rfl rfl (nb rfl) rfl rfl rfl (by assumption) ?_ | refine bA tabOk rfl rfl rfl (nb rfl) rfl rfl rfl (cC _ _ (by first | assumption | omega)) ?_ | refine bO rfl rfl rfl (nb rfl) rfl rfl (by omega) ?_ | ((fail_if_success (refine cJ (b := true) rfl rfl rfl ?_)); (fail_if_success (refine cJ (b := false) rfl rfl rfl ?_)); refine dD rfl rfl rfl (fun hq => ?_) (fun hq => ?_) <;> first | subst hq | (first | (simp only [sD, sE, sB, sC, sN, sM, sT, sF] at hq; try (exfalso; omega)) | skip)) | fail) | (refine aK ?_; first | refine aF ?_ | refine aL ?_ | refine bD ?_ | refine aR ?_ | refine aM ?_ | refine bQ ?_ | refine aS ?_ | refine aC (b := true) rfl (fun _ => ?_) nTf | refine aC (b := false) rfl nFt (fun _ => ?_) | refine dY ?_ | refine dX ?_ | refine dZ mixed (by kernel_rfl) ?_ | refine aQ mixed (by kernel_rfl) ?_ | (refine aC rfl (fun hq => ?_) (fun hq => ?_) <;> first | subst hq | (first | (simp only [sD, sE, sB, sC, sN, sM, sT, sF] at hq; try (exfalso; omega)) | skip)) | fail) | (refine aJ ?_; first | refine aU ?_ | refine bH ?_ | refine aN ?_ | fail) | (refine aP ?_; first | refine bM ?_ | refine bE ?_ | refine dB (by decide) ?_ | refine aX ?_ | fail) | refine bC (aZ (by kernel_rfl)) ?_ | fail)
    all_goals (refine aO (by first | exact .inl rfl | exact .inr rfl) (aW rfl (aA rfl)) rfl ?_; rfl)
  | false =>
    rw [h] at c1
    rw [if_neg (by simp)]
    refine aH Tryz.func29 rfl rfl (nb rfl) rfl ?_
    repeat' (first | refine aE ?_ | (refine aG ?_; first | refine aB tabOk rfl rfl rfl (nb rfl) rfl ?_ | refine bL rfl rfl (nb rfl) ?_ | (refine aI rfl rfl rfl (nb rfl) rfl rfl rfl (fun hq => ?_) (fun hq => ?_) <;> (first | (simp only [sD, sE, sB, sC, sN, sM, sT, sF] at hq; try (exfalso; omega)) | skip))| refine aD rfl rfl (nb rfl) rfl rfl rfl rfl (c1) ?_ | refine aD rfl rfl (nb rfl) rfl rfl rfl rfl (c2) ?_ | refine bO rfl rfl rfl (nb rfl) rfl rfl (by omega) ?_ | refine cO rfl rfl rfl (nb rfl) rfl rfl rfl (by omega) (by omega) ?_ | refine cF rfl rfl rfl (nb rfl) rfl rfl rfl (by omega) (by omega) ?_ | refine bS tabOk rfl rfl rfl (nb rfl) rfl rfl rfl rfl rfl rfl rfl rfl rfl ?_ | refine aT tabOk rfl rfl (nb rfl) rfl ?_ | refine cL tabOk rfl rfl rfl (nb rfl) rfl rfl rfl rfl rfl rfl ?_ | refine bK tabOk rfl rfl rfl (nb rfl) rfl rfl rfl rfl ?_ | refine bG tabOk rfl rfl rfl rfl rfl rfl rfl rfl rfl rfl rfl ?_ | refine bB tabOk rfl rfl rfl (nb rfl) rfl rfl rfl rfl (by first | assumption | omega) ?_ | refine aY tabOk rfl rfl rfl (nb rfl) rfl rfl rfl rfl (by first | rfl | omega) (by first | omega | simp) ?_ | refine bA tabOk rfl rfl rfl (nb rfl) rfl rfl rfl (by assumption) ?_ | refine bA tabOk rfl rfl rfl (nb rfl) rfl rfl rfl (cC _ _ (by first | assumption | omega)) ?_ | refine bO rfl rfl rfl (nb rfl) rfl rfl (by omega) ?_ | ((fail_if_success (refine cJ (b := true) rfl rfl rfl ?_)); (fail_if_success (refine cJ (b := false) rfl rfl rfl ?_)); refine dD rfl rfl rfl (fun hq => ?_) (fun hq => ?_) <;> first | subst hq | (first | (simp only [sD, sE, sB, sC, sN, sM, sT, sF] at hq; try (exfalso; omega)) | skip)) | fail) | (refine aK ?_; first | refine aF ?_ | refine aL ?_ | refine bD ?_ | refine aR ?_ | refine aM ?_ | refine bQ ?_ | refine aS ?_ | refine aC (b := true) rfl (fun _ => ?_) nTf | refine aC (b := false) rfl nFt (fun _ => ?_) | refine dY ?_ | refine dX ?_ | refine dZ mixed (by kernel_rfl) ?_ | refine aQ mixed (by kernel_rfl) ?_ | (refine aC rfl (fun hq => ?_) (fun hq => ?_) <;> first | subst hq | (first | (simp only [sD, sE, sB, sC, sN, sM, sT, sF] at hq; try (exfalso; omega)) | skip)) | fail) | (refine aJ ?_; first | refine aU ?_ | refine bH ?_ | refine aN ?_ | fail) | (refine aP ?_; first | refine bM ?_ | refine bE ?_ | refine dB (by decide) ?_ | refine aX ?_ | fail) | refine bC (aZ (by kernel_rfl)) ?_ | fail)
    all_goals (refine aO (by first | exact .inl rfl | exact .inr rfl) (aW rfl (aCl (aA rfl))) rfl ?_; rfl)
end Go.Proofs.YtocaohipfiapkaaGreatDoor.Ab
