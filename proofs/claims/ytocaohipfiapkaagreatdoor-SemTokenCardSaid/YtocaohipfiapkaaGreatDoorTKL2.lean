/- Words, walks and laws under the claim's statement: what it uses of them. No condition of its own. -/
import Derived.Test.YtocaohipfiapkaaGreatDoorTKL1
namespace Go.Proofs.YtocaohipfiapkaaGreatDoor.Ab
set_option linter.unusedVariables false
set_option linter.unusedSimpArgs false
open Go.RowKit
/-- What is told is a constructor, not too large. -/
def fineC (B : Nat) (R : Tree × Int) : Prop := R.2 = 0 → isConP R.1 = true ∧ R.1.whole = true ∧ R.1.size ≤ B
theorem zG {A B : Nat} {R : Tree × Int} (h : fineC A R) (hl : A ≤ B) : fineC B R := fun h0 => by
  obtain ⟨h1, h2, h3⟩ := h h0
  exact ⟨h1, h2, by omega⟩
theorem bU {B : Nat} {t : Tree} {e : Int} (h : e ≠ 0) : fineC B (t, e) := fun h0 => absurd h0 h
theorem iE {B : Nat} {R : Tree × Int} (h : R.2 = 0 → checkP isConP R.1 = 0) (hB : 65536 ≤ B) : fineC B R := fun h0 => by
  obtain ⟨h1, h2, h3⟩ := bI (h h0)
  exact ⟨h3, h1, by omega⟩
theorem gR (t : Tree) (h : (normalP 1000 t).2 = 0) : checkP isConP (normalP 1000 t).1 = 0 := by
  have h1 := (mV 1000 1000 t h).1
  generalize (normalP 1000 t).1 = u at *
  unfold StepP at h1
  by_cases hc : checkP isConP u = 0
  · exact hc
  · rw [if_neg hc] at h1
    have : checkP isConP u = 0 := congrArg Prod.snd h1
    exact absurd this hc
theorem eF (ks : List Tree) (c : Tree) (h : (starT ks c).2 = 0) : checkP isConP (starT ks c).1 = 0 := by
  unfold starT at h ⊢
  split at h
  · rename_i h1; exact absurd h h1
  · rename_i h1; rw [if_neg h1]; exact gR c h
theorem kC (n b : Tree) (h : (filledP n b).2 = 0) : checkP isConP (filledP n b).1 = 0 := by
  unfold filledP at h ⊢
  split at h
  · rename_i h1; exact absurd h h1
  · rename_i h1; rw [if_neg h1]; exact gR _ h
/-- Parts of what a type is. -/
theorem oZ {B : Nat} {T : Tree} (h1 : isConP T = true) (h2 : T.whole = true) (h3 : T.size ≤ B) (hk : T.kind = 114) : ∃ n a b x y, T = .node 114 n a b [x, y] ∧ isConP x = true ∧ isConP y = true ∧ x.whole = true ∧ y.whole = true ∧ x.size ≤ B ∧ y.size ≤ B := by
  obtain ⟨k, n, a, b, kids, rfl⟩ := bY h2
  rw [Tree.kind] at hk
  subst hk
  obtain ⟨x, y, rfl, hx, hy⟩ := (dJ h1).2.1 (.inl rfl)
  have sx := bN (k := 114) (n := n) (a := a) (b := b) (kids := [x, y]) (t := x) (by simp)
  have sy := bN (k := 114) (n := n) (a := a) (b := b) (kids := [x, y]) (t := y) (by simp)
  exact ⟨n, a, b, x, y, rfl, hx, hy, bF h2 (by simp), bF h2 (by simp), by omega, by omega⟩
theorem iT {B : Nat} {T : Tree} (h1 : isConP T = true) (h2 : T.whole = true) (h3 : T.size ≤ B) (hk : T.kind = 117 ∨ T.kind = 118) : ∃ n a b K y, T = .node T.kind n a b [K, y] ∧ isKindP K = true ∧ isConP y = true ∧ K.whole = true ∧ y.whole = true ∧ K.size ≤ B ∧ y.size ≤ B := by
  obtain ⟨k, n, a, b, kids, rfl⟩ := bY h2
  rw [Tree.kind] at hk ⊢
  obtain ⟨x, y, rfl, hx, hy⟩ := (dJ h1).2.2.2.1 (by omega)
  have sx := bN (k := k) (n := n) (a := a) (b := b) (kids := [x, y]) (t := x) (by simp)
  have sy := bN (k := k) (n := n) (a := a) (b := b) (kids := [x, y]) (t := y) (by simp)
  exact ⟨n, a, b, x, y, rfl, hx, hy, bF h2 (by simp), bF h2 (by simp), by omega, by omega⟩
/-- Fields of a record, cases of a sum. -/
theorem fT {B : Nat} {T : Tree} (h1 : isConP T = true) (h2 : T.whole = true) (h3 : T.size ≤ B) (hk : T.kind = 115 ∨ T.kind = 121) : ∃ n a b kids, T = .node T.kind n a b kids ∧ kids.length ≤ B ∧ ∀ t ∈ kids, ∃ k' n' a' b' c, t = .node k' n' a' b' [c] ∧ isConP c = true ∧ c.whole = true ∧ c.size ≤ B := by
  obtain ⟨k, n, a, b, kids, rfl⟩ := bY h2
  rw [Tree.kind] at hk ⊢
  have hl := cG kids h2
  refine ⟨n, a, b, kids, rfl, by simp only [Tree.size] at h3; omega, fun t ht => ?_⟩
  have st := bN (k := k) (n := n) (a := a) (b := b) ht
  have wt := bF h2 ht
  have key : ∃ k' n' a' b' c, t = .node k' n' a' b' [c] ∧ isConP c = true := by
    rcases hk with hk | hk
    · obtain ⟨n', a', b', c, e, hc⟩ := (dJ h1).2.2.1 hk t ht
      exact ⟨116, n', a', b', c, e, hc⟩
    · obtain ⟨n', a', b', c, e, hc⟩ := (dJ h1).2.2.2.2 hk t ht
      exact ⟨122, n', a', b', c, e, hc⟩
  obtain ⟨k', n', a', b', c, rfl, hc⟩ := key
  have sc := bN (k := k') (n := n') (a := a') (b := b') (kids := [c]) (t := c) (by simp)
  exact ⟨k', n', a', b', c, rfl, hc, bF wt (by simp), by omega⟩
theorem oA : ∀ {l : List Tree} {a : ByteArray} {p : Tree}, partP l a = some p → ∃ t ∈ l, p = kid0 t
  | [], _, _, h => by rw [partP] at h; cases h
  | t :: ts, a, p, h => by
    rw [partP] at h
    split at h
    · cases h; exact ⟨t, by simp, rfl⟩
    · obtain ⟨u, hu, e⟩ := oA h; exact ⟨u, by simp [hu], e⟩
theorem rO {B : Nat} {T p : Tree} {a : ByteArray} (h1 : isConP T = true) (h2 : T.whole = true) (h3 : T.size ≤ B) (hk : T.kind = 115 ∨ T.kind = 121) (h : partP (kidsOf T) a = some p) : isConP p = true ∧ p.whole = true ∧ p.size ≤ B := by
  obtain ⟨n, a', b, kids, e, hl, hf⟩ := fT h1 h2 h3 hk
  generalize T.kind = k at *
  subst e
  obtain ⟨t, ht, rfl⟩ := oA h
  obtain ⟨k', n', a', b', c, rfl, hc⟩ := hf t ht
  exact hc
theorem iU {R : Tree × Int} {k : Int} (h : (asP R k).2 = 0) : R.2 = 0 ∧ R.1.kind = k := by
  unfold asP at h
  split at h
  · cases h
  · rename_i h1
    refine ⟨h, ?_⟩
    by_cases hk : R.1.kind = k
    · exact hk
    · exact absurd ⟨h, hk⟩ h1
theorem aBx {x y : Tree} (hx : isConP x = true) (hy : isConP y = true) : isConP (tyT 114 [x, y]) = true := by
  show isConP (.node 114 0 emptyB emptyB [x, y]) = true
  rw [isConP, if_neg (by decide), if_neg (by decide), if_pos (by decide), isCons, isCons, isCons, hx, hy, show bareP 0 emptyB emptyB false ((114 : Int) == 110) = true by decide +kernel]; rfl
theorem aDG {K x : Tree} (hK : isKindP K = true) (hx : isConP x = true) : isConP (tyT 117 [K, x]) = true := by
  show isConP (.node 117 0 emptyB emptyB [K, x]) = true
  rw [isConP, if_neg (by decide), if_neg (by decide), if_neg (by decide), if_neg (by decide), if_pos (by decide), isCon2, hx, hK]
  decide +kernel
theorem kD (k : Int) (h : k = 111 ∨ k = 112 ∨ k = 113) : isConP (tyT k []) = true := by rcases h with rfl | rfl | rfl <;> decide +kernel
theorem tU {k : Int} {x y : Tree} (hx : x.whole = true) (hy : y.whole = true) : (tyT k [x, y]).whole = true := by
  show Tree.wholes [x, y] = true
  rw [Tree.wholes, Tree.wholes, hx, hy]; rfl
theorem fU : ∀ ts : List Tree, (shiftsP ts).2 = 0 → (shiftsP ts).1.length = ts.length ∧ ∀ T ∈ (shiftsP ts).1, T.whole = true ∧ T.size ≤ 65536
  | [], _ => ⟨rfl, fun T h => by cases h⟩
  | t :: ts, h => by
    rw [shiftsP] at h ⊢
    split at h
    · rename_i h1; exact absurd h h1
    · rename_i h1
      split at h
      · rename_i h2; exact absurd h h2
      · rename_i h2
        rw [if_neg h1, if_neg h2]
        obtain ⟨g1, g2⟩ := fU ts (by simpa using h2)
        obtain ⟨f1, f2, f3⟩ := eC t 1 0 (by simpa using h1)
        obtain ⟨_, f4, _⟩ := bI f3
        refine ⟨by simp [g1], fun T hT => ?_⟩
        rcases List.mem_cons.1 hT with rfl | hT
        · exact ⟨f1, by omega⟩
        · exact g2 T hT
theorem gK {R : Tree × Int} {L : List Tree × Int} (h : (consP R L).2 = 0) : R.2 = 0 ∧ L.2 = 0 ∧ (consP R L).1 = R.1 :: L.1 := by
  unfold consP at h ⊢
  split at h
  · rename_i h1; exact absurd h h1
  · rename_i h1
    split at h
    · rename_i h2; exact absurd h h2
    · rename_i h2
      rw [if_neg h1, if_neg h2]
      exact ⟨by simpa using h1, by simpa using h2, rfl⟩
/-- The fields of a record's type are named as its fields. -/
theorem pA (ks ts : List Tree) : ∀ l : List Tree, (∀ t ∈ l, armForm 137 t) → (ofRec l ks ts).2 = 0 → (ofRec l ks ts).1.map Tree.name = l.map Tree.name
  | [], _, _ => by rw [ofRec]
  | t :: l, hf, h => by
    rw [ofRec] at h ⊢
    obtain ⟨h1, h2, h3⟩ := gK h
    rw [h3, List.map_cons, List.map_cons, pA ks ts l (fun t ht => hf t (by simp [ht])) h2]
    congr 1
    obtain ⟨a, x, rfl, hx, hl⟩ := hf t (by simp)
    rw [ofField] at h1 ⊢
    unfold field1 at h1 ⊢
    split at h1
    · rename_i h4; exact absurd h1 h4
    · rename_i h4; rw [if_neg h4]; rfl
theorem iV : ∀ l m : List Tree, l.map Tree.name = m.map Tree.name → risingP l = risingP m
  | [], [], _ => rfl
  | [], _ :: _, h => by simp at h
  | _ :: _, [], h => by simp at h
  | [t], [u], _ => rfl
  | [t], u :: v :: r, h => by simp at h
  | t :: s :: r, [u], h => by simp at h
  | t :: s :: r, u :: v :: q, h => by
    simp only [List.map_cons, List.cons.injEq] at h
    rw [risingP, risingP, h.1, h.2.1, iV (s :: r) (v :: q) (by simp [h.2.1, h.2.2])]
theorem wU (t : Tree) : ∀ ks ts : List Tree, isTermP t = true → t.whole = true → fineC (65537 * t.size) (ofP t ks ts) := by
  induction t using Tree.sind with
  | h t ih =>
    intro ks ts hf hw
    obtain ⟨k, n, a, b, kids, rfl⟩ := bY hw
    obtain ⟨p0, p1, p2, p3, p4, p5, p6, p7, p8, p9, p10, pk⟩ := mB hf
    have hz : 1 ≤ (Tree.node k n a b kids).size := by simp only [Tree.size]; omega
    have hwk : ∀ t ∈ kids, t.whole = true := fun t h => bF hw h
    have hsz : (Tree.node k n a b kids).size = Tree.sizes kids + 1 := by simp only [Tree.size]; omega
    have hin : ∀ t ∈ kids, t.size ≤ Tree.sizes kids := fun t h => cU h
    have hbig : 65536 ≤ 65537 * (Tree.node k n a b kids).size := by omega
    have hk' : ∀ x ∈ kids, isTermP x = true → ∀ ks ts, fineC (65537 * x.size) (ofP x ks ts) := fun x hx h ks ts => ih x (by have := hin x hx; omega) ks ts h (hwk x hx)
    rw [ofP]
    by_cases e0 : k = 130
    · rw [if_pos e0]
      split
      · exact bU (by decide)
      · exact iE (gR _) hbig
    rw [if_neg e0]
    by_cases e1 : k = 131
    · rw [if_pos e1]; exact fun _ => ⟨kD _ (.inl rfl), rfl, by show 1 ≤ _; omega⟩
    rw [if_neg e1]
    by_cases e2 : k = 132
    · rw [if_pos e2]; exact fun _ => ⟨kD _ (.inr (.inl rfl)), rfl, by show 1 ≤ _; omega⟩
    rw [if_neg e2]
    by_cases e3 : k = 133
    · rw [if_pos e3]; exact fun _ => ⟨kD _ (.inr (.inr rfl)), rfl, by show 1 ≤ _; omega⟩
    rw [if_neg e3]
    by_cases e4 : k = 139
    · rw [if_pos e4]
      obtain ⟨K, x, rfl, hK, hx⟩ := lY (p1 e4)
      obtain ⟨wK, sK, fK⟩ := bI hK
      have h1 := hk' x (by simp) hx (K :: ks) (shiftsP ts).1
      rw [ofTLam]
      unfold tlam1
      split
      · rename_i h; exact bU h
      · split
        · rename_i h; exact bU h
        · rename_i h2
          intro _
          obtain ⟨g1, g2, g3⟩ := h1 (by simpa using h2)
          refine ⟨aDG fK g1, tU wK g2, ?_⟩
          rw [hsz]
          simp only [tyT, Tree.size, Tree.sizes]
          omega
    rw [if_neg e4]
    by_cases e5 : k = 143
    · rw [if_pos e5]
      obtain ⟨x, y, rfl, hx, hy⟩ := dH (p3 (by omega))
      have h2 := hk' y (by simp) hy ks ((ofP x ks ts).1 :: ts)
      rw [ofLet]
      unfold let1
      split
      · rename_i h; exact bU h
      · refine zG h2 ?_
        rw [hsz]; simp only [Tree.sizes]; omega
    rw [if_neg e5]
    by_cases e6 : k = 134
    · rw [if_pos e6]
      obtain ⟨T, y, rfl, hT, hy⟩ := fD (p2 (by omega))
      have h2 := hk' y (by simp) hy ks ((starT ks T).1 :: ts)
      have h3 := bI hT
      have hT1 := gE h3.1
      rw [ofLam]
      unfold lamT1
      split
      · rename_i h; exact bU h
      · rename_i h1
        split
        · rename_i h; exact bU h
        · rename_i h4
          intro _
          obtain ⟨g1, g2, g3⟩ := h2 (by simpa using h4)
          obtain ⟨f1, f2, f3⟩ := bI (eF ks T (by simpa using h1))
          refine ⟨aBx f3 g1, tU f1 g2, ?_⟩
          rw [hsz]
          simp only [tyT, Tree.size, Tree.sizes]
          omega
    rw [if_neg e6]
    by_cases e7 : k = 135
    · rw [if_pos e7]
      obtain ⟨x, y, rfl, hx, hy⟩ := dH (p3 (by omega))
      have h1 := hk' x (by simp) hx ks ts
      rw [ofApp]
      unfold appT1
      split
      · rename_i h; exact bU h
      · rename_i h3
        split
        · rename_i h; exact bU h
        · split
          · exact bU (by decide)
          · rename_i h5
            intro _
            obtain ⟨g1, g2, g3⟩ := h1 (by simpa using h3)
            generalize (ofP x ks ts).1 = F at *
            have hk : F.kind = 114 := by
              by_cases hk : F.kind = 114
              · exact hk
              · exact absurd (.inl hk) h5
            obtain ⟨n', a', b', u, v, rfl, hu, hv, wu, wv, su, sv⟩ := oZ g1 g2 g3 hk
            refine ⟨hv, wv, ?_⟩
            show v.size ≤ _
            rw [hsz]; simp only [Tree.sizes]; omega
    rw [if_neg e7]
    by_cases e8 : k = 136
    · rw [if_pos e8]
      obtain ⟨q1, q2⟩ := p4 e8
      have key : ∀ l : List Tree, (∀ t ∈ l, t ∈ kids) → (ofRec l ks ts).2 = 0 → (∀ u ∈ (ofRec l ks ts).1, okNamed 116 u = true) ∧ Tree.wholes (ofRec l ks ts).1 = true ∧ Tree.sizes (ofRec l ks ts).1 ≤ 65537 * Tree.sizes l := by
        intro l
        induction l with
        | nil => intro _ _; rw [ofRec]; exact ⟨fun u h => (List.not_mem_nil h).elim, rfl, Nat.zero_le _⟩
        | cons t l ih2 =>
          intro hm h
          rw [ofRec] at h ⊢
          obtain ⟨h1, h2, h3⟩ := gK h
          obtain ⟨g1, g2, g3⟩ := ih2 (fun t ht => hm t (by simp [ht])) h2
          have hmt := hm t (by simp)
          obtain ⟨a', x, rfl, hx, hl⟩ := q1 t hmt
          have sx := bN (k := 137) (n := 0) (a := a') (b := emptyB) (kids := [x]) (t := x) (by simp)
          have hi := ih x (by have := hin _ hmt; omega) ks ts hx (bF (hwk _ hmt) (by simp))
          have e : ofField (.node 137 0 a' emptyB [x]) ks ts = field1 a' (ofP x ks ts) := by rw [ofField, ofH]
          rw [e] at h1 h3 ⊢
          rw [h3]
          unfold field1 at h1 ⊢
          split at h1
          · rename_i h4; exact absurd h1 h4
          · rename_i h4
            rw [if_neg h4]
            obtain ⟨f1, f2, f3⟩ := hi (by simpa using h4)
            refine ⟨fun u hu => ?_, ?_, ?_⟩
            · rcases List.mem_cons.1 hu with rfl | hu
              · show okNamed 116 (.node 116 0 a' emptyB [_]) = true
                rw [okNamed, isCon1, f1, hl, show bareP 0 a' emptyB true false = true by unfold bareP; rw [Bool.true_or, Bool.and_true]; decide +kernel]; rfl
              · exact g1 u hu
            · rw [Tree.wholes, g2, Bool.and_true]
              show Tree.wholes [_] = true
              rw [Tree.wholes, f2]; rfl
            · simp only [Tree.sizes, Tree.size]
              omega
      unfold rec1
      split
      · rename_i h; exact bU h
      · rename_i h
        intro _
        have h0 : (ofRec kids ks ts).2 = 0 := by simpa using h
        obtain ⟨g1, g2, g3⟩ := key kids (fun _ h => h) h0
        have hr := iV _ _ (pA ks ts kids q1 h0)
        rw [q2] at hr
        refine ⟨?_, g2, ?_⟩
        · show isConP (.node 115 0 emptyB emptyB _) = true
          rw [isConP, if_neg (by decide), if_neg (by decide), if_neg (by decide), if_pos (by decide), cZ, hr, List.all_eq_true.2 g1]
          decide +kernel
        · rw [hsz]
          simp only [tyT, Tree.size]
          omega
    rw [if_neg e8]
    by_cases e9 : k = 138
    · rw [if_pos e9]
      obtain ⟨x, rfl, hx⟩ := kW (p5 e9)
      have h1 := hk' x (by simp) hx ks ts
      rw [ofH]
      unfold proj1
      split
      · rename_i h; exact bU h
      · rename_i h
        obtain ⟨h2, h3⟩ := iU (by simpa using h)
        obtain ⟨g1, g2, g3⟩ := h1 h2
        unfold part1
        split
        · exact bU (by decide)
        · rename_i p hp
          intro _
          obtain ⟨f1, f2, f3⟩ := rO g1 g2 g3 (.inl h3) hp
          refine ⟨f1, f2, ?_⟩
          rw [hsz]; simp only [Tree.sizes]; omega
    rw [if_neg e9]
    by_cases e10 : k = 140
    · rw [if_pos e10]
      obtain ⟨x, C, rfl, hx, hC⟩ := lZ (p6 e10)
      rw [ofTApp]
      unfold tapp1
      split
      · rename_i h; exact bU h
      · split
        · rename_i h; exact bU h
        · split
          · exact bU (by decide)
          · exact iE (kC _ _) hbig
    rw [if_neg e10]
    by_cases e11 : k = 141
    · rw [if_pos e11]
      obtain ⟨C, x, T, rfl, hC, hx, hT⟩ := jY (p7 e11)
      rw [ofPack]
      unfold pack1
      split
      · rename_i h; exact bU h
      · rename_i h1
        split
        · rename_i h; exact bU h
        · split
          · rename_i h; exact bU h
          · split
            · exact bU (by decide)
            · unfold alike1
              split
              · rename_i h; exact bU h
              · split
                · exact bU (by decide)
                · exact iE (fun _ => eF ks T (by simpa using h1)) hbig
    rw [if_neg e11]
    by_cases e12 : k = 142
    · rw [if_pos e12]
      obtain ⟨x, y, rfl, hx, hy⟩ := dH (p3 (by omega))
      rw [ofUnpack]
      unfold unpack1
      split
      · rename_i h; exact bU h
      · split
        · rename_i h; exact bU h
        · split
          · rename_i h; exact bU h
          · split
            · exact bU (by decide)
            · intro h0
              obtain ⟨g1, g2, g3⟩ := eC _ _ _ h0
              have g4 := bI g3
              exact ⟨tT _ g3 _ _ (by omega) h0, g1, by omega⟩
    rw [if_neg e12]
    by_cases e13 : k = 144
    · rw [if_pos e13]
      obtain ⟨x, y, z, rfl, hx, hy, hz2⟩ := jZ (p8 e13)
      have h1 := hk' y (by simp) hy ks ts
      rw [ofIf]
      unfold choice1
      split
      · rename_i h; exact bU h
      · split
        · rename_i h; exact bU h
        · rename_i h2
          split
          · rename_i h; exact bU h
          · split
            · exact bU (by decide)
            · intro _
              obtain ⟨g1, g2, g3⟩ := h1 (by simpa using h2)
              refine ⟨g1, g2, ?_⟩
              rw [hsz]; simp only [Tree.sizes]; omega
    rw [if_neg e13]
    by_cases e14 : k = 145
    · rw [if_pos e14]
      obtain ⟨x, y, rfl, hx, hy⟩ := dH (p3 (by omega))
      rw [ofOp]
      unfold op1
      split
      · rename_i h; exact bU h
      · split
        · rename_i h; exact bU h
        · split
          · exact bU (by decide)
          · split
            · exact fun _ => ⟨kD _ (.inl rfl), rfl, by show 1 ≤ _; omega⟩
            · exact fun _ => ⟨kD _ (.inr (.inl rfl)), rfl, by show 1 ≤ _; omega⟩
    rw [if_neg e14]
    by_cases e15 : k = 146
    · rw [if_pos e15]
      obtain ⟨T, x, rfl, hT, hx⟩ := fD (p2 (by omega))
      rw [ofIn]
      unfold in1
      split
      · rename_i h; exact bU h
      · rename_i h1
        split
        · rename_i h; exact bU h
        · split
          · exact bU (by decide)
          · cases partP (kidsOf (starT ks T).1) a with
            | none => exact bU (by decide)
            | some p =>
              rw [in2]
              unfold alike1
              split
              · rename_i h; exact bU h
              · split
                · exact bU (by decide)
                · exact iE (fun _ => eF ks T (by simpa using h1)) hbig
    rw [if_neg e15]
    have harms : ∀ (l : List Tree) (cs : List Tree) (self : Tree), (∀ t ∈ l, t ∈ kids ∧ armForm 149 t) → (ofArms l cs self ks ts).2 = 0 → ∀ u ∈ (ofArms l cs self ks ts).1, isConP u = true ∧ u.whole = true ∧ u.size ≤ 65537 * Tree.sizes kids := by
      intro l
      induction l with
      | nil => intro cs self _ _ u hu; rw [ofArms] at hu; cases hu
      | cons t l ih2 =>
        intro cs self hm h
        rw [ofArms] at h ⊢
        unfold arm1 at h ⊢
        split at h
        · rename_i h1; exact absurd h h1
        · rename_i h1
          rw [if_neg h1]
          obtain ⟨h2, h3, h4⟩ := gK h
          rw [h4]
          intro u hu
          rcases List.mem_cons.1 hu with rfl | hu
          · obtain ⟨hmt, a', x, rfl, hx, hl⟩ := hm t (by simp)
            have sx := bN (k := 149) (n := 0) (a := a') (b := emptyB) (kids := [x]) (t := x) (by simp)
            have h5 := hin _ hmt
            rw [ofArm, ofH] at h2 ⊢
            obtain ⟨g1, g2, g3⟩ := ih x (by omega) _ _ hx (bF (hwk _ hmt) (by simp)) h2
            exact ⟨g1, g2, by omega⟩
          · exact ih2 cs.tail self (fun t ht => hm t (by simp [ht])) h3 u hu
    by_cases e16 : k = 147
    · rw [if_pos e16]
      obtain ⟨x, arms, rfl, hne, hx, ha⟩ := mA (p9 e16)
      rw [ofCase]
      unfold case1
      split
      · rename_i h; exact bU h
      · split
        · rename_i h; exact bU h
        · rename_i h1
          have h0 : (arms1 (ofP x ks ts).1 arms (ofArms arms (kidsOf (ofP x ks ts).1) (ofP x ks ts).1 ks ts)).2 = 0 := by simpa using h1
          unfold arms1 at h0 ⊢
          split at h0
          · cases h0
          · rename_i h3
            rw [if_neg h3]
            have h4 := harms arms _ _ (fun t ht => ⟨by simp [ht], ha t ht⟩) h0
            unfold alikeP
            split
            · exact bU (by decide)
            · intro _
              cases arms with
              | nil => exact absurd rfl hne
              | cons t l =>
                rw [ofArms] at h0 h4 ⊢
                unfold arm1 at h0 h4 ⊢
                split at h0
                · rename_i h5; exact absurd h0 h5
                · rename_i h5
                  rw [if_neg h5] at h4 ⊢
                  obtain ⟨h6, h7, h8⟩ := gK h0
                  rw [h8] at h4 ⊢
                  obtain ⟨g1, g2, g3⟩ := h4 _ (List.mem_cons_self ..)
                  refine ⟨g1, g2, ?_⟩
                  show Tree.size (ofArm t ks _).1 ≤ _
                  rw [hsz]; omega
    · rw [if_neg e16]
      have e17 : k = 148 := by omega
      obtain ⟨x, T, arms, rfl, hne, hx, hT, ha⟩ := kB (p10 e17)
      rw [ofFold]
      unfold fold1
      split
      · rename_i h; exact bU h
      · split
        · rename_i h; exact bU h
        · rename_i h1
          split
          · rename_i h; exact bU h
          · unfold alikeP
            split
            · exact bU (by decide)
            · exact iE (fun _ => eF ks T (by simpa using h1)) hbig
end Go.Proofs.YtocaohipfiapkaaGreatDoor.Ab
namespace Go.Proofs.YtocaohipfiapkaaGreatDoor.Ab
set_option linter.unusedVariables false
set_option linter.unusedSimpArgs false
open Go.RowKit
attribute [local irreducible] AWP AOps AExit AThen ABlock ANoGoto FeetOk
set_option maxHeartbeats 16000000 in
set_option maxRecDepth 10000 in
theorem aEg (t : Tree) : ∀ (ctx : List Tree) (X : IV), isConP t = true → t.whole = true → rowIV X ctx → okCtx ctx → (∀ c ∈ ctx, c.size ≤ 200000) → ctx.length + t.size ≤ 200000 →
    ACalls Tryz.prog 26 [.imm X, .imm t.iv] [] (.imm (.tup [(kindP t ctx).1.iv, .lit (.int .i64 (kindP t ctx).2)])) [] := by
  induction t using Tree.sind with
  | h t ih =>
    intro ctx X hf hw hX ho hB hs
    have hfw := bJ hw
    obtain ⟨k, n, a, b, kids, rfl⟩ := bY hw
    obtain ⟨p1, p2, p3, p4, p5⟩ := dJ hf
    have hlk := cG kids hw
    have hls : kids.length + 1 ≤ 200000 - ctx.length := by simp only [Tree.size] at hs; omega
    have cst := aAq
    rw [mZ] at cst
    have hsz : ∀ t ∈ kids, t.size < (Tree.node k n a b kids).size := fun t h => bN h
    have hwk : ∀ t ∈ kids, t.whole = true := fun t h => bF hw h
    rw [kindP]
    by_cases e0 : k = 110
    · rw [if_pos e0]
      obtain ⟨q1, q2, rfl⟩ := p1 e0
      subst e0
      rw [Tree.iv, Tree.ivs]
      by_cases hn : n ≥ (ctx.length : Int)
      · rw [if_pos hn]
        rcases hX with ⟨f, rfl⟩ | ⟨rfl, rfl⟩
        · generalize Tree.ivs ctx = Z at *
          clear ih p1 p2 p3 p4 p5 hB ho
          refine aH Tryz.func26 rfl rfl (nb rfl) rfl ?_
          repeat' (first | refine aE ?_ | (refine aG ?_;  first | refine aB tabOk rfl rfl rfl (nb rfl) rfl ?_ | (refine aI rfl rfl rfl (nb rfl) rfl rfl rfl (fun hq => ?_) (fun hq => ?_) <;> (first | (simp only [sD, sE, sB, sC, sN, sM, sT, sF] at hq; try (exfalso; omega)) | skip)) | refine aT tabOk rfl rfl (nb rfl) rfl ?_) | (refine aK ?_;  first | refine aF ?_ | refine aL ?_ | refine aR ?_ | refine aM ?_ | refine aC (b := true) rfl (fun _ => ?_) nTf) | (refine aJ ?_;  first | refine aN ?_) | (refine aP ?_;  first | refine aX ?_))
          all_goals first
            | (exfalso; omega)
            | exact absurd rfl (by assumption)
            | (refine aO (by first | exact .inl rfl | exact .inr rfl) (aV rfl (aA rfl) (aA rfl)) rfl ?_; rfl)
        · clear ih p1 p2 p3 p4 p5 hB ho
          refine aH Tryz.func26 rfl rfl (nb rfl) rfl ?_
          repeat' (first | refine aE ?_ | (refine aG ?_;  first | refine aB tabOk rfl rfl rfl (nb rfl) rfl ?_ | (refine aI rfl rfl rfl (nb rfl) rfl rfl rfl (fun hq => ?_) (fun hq => ?_) <;> (first | (simp only [sD, sE, sB, sC, sN, sM, sT, sF] at hq; try (exfalso; omega)) | skip)) | refine aT tabOk rfl rfl (nb rfl) rfl ?_) | (refine aK ?_;  first | refine aF ?_ | refine aL ?_ | refine aR ?_ | refine aM ?_ | refine aC (b := true) rfl (fun _ => ?_) nTf) | (refine aJ ?_;  first | refine aN ?_) | (refine aP ?_;  first | refine aX ?_))
          all_goals first
            | (exfalso; simp at hn; omega)
            | exact absurd rfl (by assumption)
            | (refine aO (by first | exact .inl rfl | exact .inr rfl) (aV rfl (aA rfl) (aA rfl)) rfl ?_; rfl)
      · rw [if_neg hn]
        obtain ⟨m, rfl⟩ : ∃ m : Nat, n = (m : Int) := ⟨n.toNat, by omega⟩
        have hlt : m < ctx.length := by omega
        have e : ctx.getD m .nil = ctx[m] := by simp [List.getD, hlt]
        rw [Int.toNat_natCast]
        rcases hX with ⟨f, rfl⟩ | ⟨rfl, rfl⟩
        · have hget := cC ctx m hlt
          obtain ⟨pc, hpc⟩ := bR (bJ (ho _ (List.getElem_mem hlt)).2)
          dsimp only
          rw [e, hpc]
          rw [hpc] at hget
          generalize Tree.ivs ctx = Z at *
          clear ih p1 p2 p3 p4 p5 hB ho
          refine aH Tryz.func26 rfl rfl (nb rfl) rfl ?_
          repeat' (first | refine aE ?_ | (refine aG ?_;  first | refine aB tabOk rfl rfl rfl (nb rfl) rfl ?_ | (refine aI rfl rfl rfl (nb rfl) rfl rfl rfl (fun hq => ?_) (fun hq => ?_) <;> (first | (simp only [sD, sE, sB, sC, sN, sM, sT, sF] at hq; try (exfalso; omega)) | skip)) | refine bA tabOk rfl rfl rfl (nb rfl) rfl rfl rfl hget ?_ | refine aT tabOk rfl rfl (nb rfl) rfl ?_ | refine bB tabOk rfl rfl rfl (nb rfl) rfl rfl rfl rfl (by first | assumption | omega) ?_) | (refine aK ?_;  first | refine aF ?_ | refine aL ?_ | refine aR ?_ | refine aM ?_ | refine aS ?_ | refine aC (b := true) rfl (fun _ => ?_) nTf | refine aC (b := false) rfl nFt (fun _ => ?_)) | (refine aJ ?_;  first | refine aU ?_ | refine aN ?_) | (refine aP ?_;  first | refine aX ?_))
          all_goals first
            | (exfalso; omega)
            | exact absurd rfl (by assumption)
            | (refine aO (by first | exact .inl rfl | exact .inr rfl) (aV rfl (aA rfl) (aA rfl)) rfl ?_; rfl)
        · simp at hlt
    · rw [if_neg e0]
      by_cases e1 : k = 114
      · rw [if_pos e1, lW]
        obtain ⟨x, y, rfl, hx, hy⟩ := p2 (by omega)
        subst e1
        have c1 := uZ X false [x, y] (fun t => kindP t ctx) (by simp) (fun t ht h0 => by
            have hc : isConP t = true := by simp at ht; rcases ht with rfl | rfl <;> assumption
            exact (eN t ctx 200000 hc (hwk t ht) ho hB (by omega) h0).2.1)
          (fun t ht => by
            have hc : isConP t = true := by simp at ht; rcases ht with rfl | rfl <;> assumption
            exact ih t (hsz t ht) ctx X hc (hwk t ht) hX ho hB (by have := hsz t ht; omega))
        generalize starsG _ = Q at *
        clear ih p1 p2 p3 p4 p5 hB ho hsz hwk
        rw [Tree.iv]
        generalize Tree.ivs [x, y] = Z at *
        change ACalls _ _ [_, .imm (.sl false 2 Z)] _ _ _ at c1
        refine aH Tryz.func26 rfl rfl (nb rfl) rfl ?_
        repeat' (first | refine aE ?_ | (refine aG ?_;  first | refine aB tabOk rfl rfl rfl (nb rfl) rfl ?_ | (refine aI rfl rfl rfl (nb rfl) rfl rfl rfl (fun hq => ?_) (fun hq => ?_) <;> (first | (simp only [sD, sE, sB, sC, sN, sM, sT, sF] at hq; try (exfalso; omega)) | skip)) | refine aD rfl rfl (nb rfl) rfl rfl rfl rfl (c1) ?_) | (refine aK ?_;  first | refine aF ?_ | refine aL ?_ | refine aR ?_ | refine aM ?_ | refine aC (b := true) rfl (fun _ => ?_) nTf | refine aC (b := false) rfl nFt (fun _ => ?_)) | (refine aJ ?_;  first | refine aN ?_) | (refine aP ?_;  first | refine aX ?_))
        all_goals first
          | (exfalso; omega)
          | exact absurd rfl (by assumption)
          | (refine aO (by first | exact .inl rfl | exact .inr rfl) (aV rfl (aA rfl) (aA rfl)) rfl ?_; rfl)
      · rw [if_neg e1]
        have hin : ∀ kind : Int, (∀ t ∈ kids, ∃ n' a' b' c, t = .node kind n' a' b' [c] ∧ isConP c = true) → ∀ (ctx' : List Tree) (X' : IV), rowIV X' ctx' → okCtx ctx' → (∀ c ∈ ctx', c.size ≤ 200000) → ctx'.length ≤ ctx.length + 1 →
            ACalls Tryz.prog 47 [.imm X', .imm (.sl false (innerP kids).length (Tree.ivs (innerP kids)))] [] (.imm (.tup [(starsF kids ctx').1.iv, .lit (.int .i64 (starsF kids ctx').2)])) [] := fun kind hp ctx' X' hX' ho' hB' hl' => by
          have c1 := uZ X' false (innerP kids) (fun t => kindP t ctx') (by unfold innerP; rw [List.length_map]; omega)
            (fun t ht h0 => by
              obtain ⟨u, hu, rfl⟩ := List.mem_map.1 ht
              obtain ⟨n', a', b', c, rfl, hc⟩ := hp u hu
              exact (eN c ctx' 200000 hc (bF (hwk _ hu) (by simp)) ho' hB' (by omega) h0).2.1)
            (fun t ht => by
              obtain ⟨u, hu, rfl⟩ := List.mem_map.1 ht
              obtain ⟨n', a', b', c, rfl, hc⟩ := hp u hu
              have h1 := hsz _ hu
              have h2 := bN (k := kind) (n := n') (a := a') (b := b') (kids := [c]) (t := c) (by simp)
              exact ih c (by omega) ctx' X' hc (bF (hwk _ hu) (by simp)) hX' ho' hB' (by omega))
          have e : (innerP kids).map (fun t => kindP t ctx') = kids.map fun t => kindF t ctx' := by
            unfold innerP
            rw [List.map_map]
            refine List.map_congr_left fun u hu => ?_
            obtain ⟨n', a', b', c, rfl, hc⟩ := hp u hu
            show kindP c ctx' = _
            rw [kindF, kindH]
          rw [e, ← lX] at c1
          exact c1
        have hinn : ∀ kind : Int, (∀ t ∈ kids, ∃ n' a' b' c, t = .node kind n' a' b' [c] ∧ isConP c = true) → ACalls Tryz.prog 48 [.imm (Tree.iv (.node k n a b kids))] [] (.imm (.sl false (innerP kids).length (Tree.ivs (innerP kids)))) [] := fun kind hp =>
          aDE k n a b kids (by omega) fun t ht => by
            obtain ⟨n', a', b', c, rfl, hc⟩ := hp t ht
            exact ⟨kind, n', a', b', c, rfl, bF (hwk _ ht) (by simp)⟩
        by_cases e2 : k = 115
        · rw [if_pos e2]
          subst e2
          have c1 := hinn 116 (p3 rfl)
          have c2 := hin 116 (p3 rfl) ctx X hX ho hB (by omega)
          generalize starsF kids ctx = Q at *
          generalize (innerP kids).length = L at *
          generalize Tree.ivs (innerP kids) = Y at *
          rw [Tree.iv] at c1 ⊢
          generalize Tree.ivs kids = Z at *
          clear ih p1 p2 p3 p4 p5 hB ho hsz hwk hin hinn
          refine aH Tryz.func26 rfl rfl (nb rfl) rfl ?_
          repeat' (first | refine aE ?_ | (refine aG ?_;  first | refine aB tabOk rfl rfl rfl (nb rfl) rfl ?_ | (refine aI rfl rfl rfl (nb rfl) rfl rfl rfl (fun hq => ?_) (fun hq => ?_) <;> (first | (simp only [sD, sE, sB, sC, sN, sM, sT, sF] at hq; try (exfalso; omega)) | skip)) | refine aD rfl rfl (nb rfl) rfl rfl rfl rfl (c1) ?_ | refine aD rfl rfl (nb rfl) rfl rfl rfl rfl (c2) ?_) | (refine aK ?_;  first | refine aF ?_ | refine aL ?_ | refine aR ?_ | refine aM ?_ | refine aC (b := true) rfl (fun _ => ?_) nTf | refine aC (b := false) rfl nFt (fun _ => ?_)) | (refine aJ ?_;  first | refine aN ?_) | (refine aP ?_;  first | refine aX ?_))
          all_goals first
            | (exfalso; omega)
            | exact absurd rfl (by assumption)
            | (refine aO (by first | exact .inl rfl | exact .inr rfl) (aV rfl (aA rfl) (aA rfl)) rfl ?_; rfl)
        · rw [if_neg e2]
          by_cases e3 : k = 117 ∨ k = 118
          · rw [if_pos e3]
            obtain ⟨x, y, rfl, hx, hy⟩ := p4 (by omega)
            have wx := hwk x (by simp)
            have wy := hwk y (by simp)
            have sx := hsz x (by simp)
            have sy := hsz y (by simp)
            have c1 := rN x wx hX (by omega)
            have ho' := iR hx wx ho
            have hB' : ∀ c ∈ x :: ctx, c.size ≤ 200000 := fun c hc => by
              rcases List.mem_cons.1 hc with rfl | hc
              · omega
              · exact hB c hc
            have c2 := uZ _ true [y] (fun t => kindP t (x :: ctx)) (by simp)
              (fun t ht h0 => by rw [List.mem_singleton.1 ht] at *; exact (eN y _ 200000 hy wy ho' hB' (by omega) h0).2.1)
              (fun t ht => by rw [List.mem_singleton.1 ht] at *; exact ih y (by omega) (x :: ctx) _ hy wy (iD false _) ho' hB' (by rw [List.length_cons]; simp only [Tree.size, Tree.sizes] at hs sy ⊢; have := gE wx; omega))
            rw [bindK]
            change ACalls _ _ _ _ (.imm (.tup [(star1 (kindP y (x :: ctx)) (starK, 0)).1.iv, .lit (.int .i64 (star1 (kindP y (x :: ctx)) (starK, 0)).2)])) _ at c2
            generalize star1 _ _ = Q at *
            generalize Tree.ivs (x :: ctx) = Y at *
            generalize (x :: ctx).length = L at *
            obtain ⟨px, hpx⟩ := bR (bJ wx)
            obtain ⟨py, hpy⟩ := bR (bJ wy)
            rw [Tree.iv, Tree.ivs, Tree.ivs, Tree.ivs, hpx, hpy]
            rw [hpx] at c1
            rw [Tree.ivs, Tree.ivs, hpy] at c2
            change ACalls _ _ [_, .imm (.sl true 1 [.ptr py 0])] _ _ _ at c2
            clear ih p1 p2 p3 p4 p5 hB ho hsz hwk hin hinn ho' hB'
            rcases e3 with rfl | rfl
            · refine aH Tryz.func26 rfl rfl (nb rfl) rfl ?_
              repeat' (first | refine aE ?_ | (refine aG ?_;  first | refine aB tabOk rfl rfl rfl (nb rfl) rfl ?_ | (refine aI rfl rfl rfl (nb rfl) rfl rfl rfl (fun hq => ?_) (fun hq => ?_) <;> (first | (simp only [sD, sE, sB, sC, sN, sM, sT, sF] at hq; try (exfalso; omega)) | skip)) | refine aD rfl rfl (nb rfl) rfl rfl rfl rfl (c1) ?_ | refine aD rfl rfl (nb rfl) rfl rfl rfl rfl (c2) ?_ | refine bS tabOk rfl rfl rfl (nb rfl) rfl rfl rfl rfl rfl rfl rfl rfl rfl ?_ | refine aY tabOk rfl rfl rfl (nb rfl) rfl rfl rfl rfl (by first | rfl | omega) (by first | omega | simp) ?_) | (refine aK ?_;  first | refine aF ?_ | refine aL ?_ | refine aR ?_ | refine aM ?_ | refine aS ?_ | refine aC (b := true) rfl (fun _ => ?_) nTf | refine aC (b := false) rfl nFt (fun _ => ?_) | refine aQ mixed (by kernel_rfl) ?_) | (refine aJ ?_;  first | refine aU ?_ | refine aN ?_) | (refine aP ?_;  first | refine aX ?_) | refine bC (aZ (by kernel_rfl)) ?_)
              all_goals first
                | (exfalso; omega)
                | exact absurd rfl (by assumption)
                | (refine aO (by first | exact .inl rfl | exact .inr rfl) (aV rfl (aA rfl) (aA rfl)) rfl ?_; rfl)
            · refine aH Tryz.func26 rfl rfl (nb rfl) rfl ?_
              repeat' (first | refine aE ?_ | (refine aG ?_;  first | refine aB tabOk rfl rfl rfl (nb rfl) rfl ?_ | (refine aI rfl rfl rfl (nb rfl) rfl rfl rfl (fun hq => ?_) (fun hq => ?_) <;> (first | (simp only [sD, sE, sB, sC, sN, sM, sT, sF] at hq; try (exfalso; omega)) | skip)) | refine aD rfl rfl (nb rfl) rfl rfl rfl rfl (c1) ?_ | refine aD rfl rfl (nb rfl) rfl rfl rfl rfl (c2) ?_ | refine bS tabOk rfl rfl rfl (nb rfl) rfl rfl rfl rfl rfl rfl rfl rfl rfl ?_ | refine aY tabOk rfl rfl rfl (nb rfl) rfl rfl rfl rfl (by first | rfl | omega) (by first | omega | simp) ?_) | (refine aK ?_;  first | refine aF ?_ | refine aL ?_ | refine bD ?_ | refine aR ?_ | refine aM ?_ | refine aC (b := true) rfl (fun _ => ?_) nTf | refine aC (b := false) rfl nFt (fun _ => ?_) | refine aQ mixed (by kernel_rfl) ?_) | (refine aJ ?_;  first | refine aU ?_ | refine aN ?_) | (refine aP ?_;  first | refine aX ?_) | refine bC (aZ (by kernel_rfl)) ?_)
              all_goals first
                | (exfalso; omega)
                | exact absurd rfl (by assumption)
                | (refine aO (by first | exact .inl rfl | exact .inr rfl) (aV rfl (aA rfl) (aA rfl)) rfl ?_; rfl)
          · rw [if_neg e3]
            by_cases e4 : k = 119
            · rw [if_pos e4]
              obtain ⟨x, y, rfl, hx, hy⟩ := p4 (by omega)
              subst e4
              have wx := hwk x (by simp)
              have wy := hwk y (by simp)
              have sx := hsz x (by simp)
              have sy := hsz y (by simp)
              have c1 := rN x wx hX (by omega)
              have ho' := iR hx wx ho
              have hB' : ∀ c ∈ x :: ctx, c.size ≤ 200000 := fun c hc => by
                rcases List.mem_cons.1 hc with rfl | hc
                · omega
                · exact hB c hc
              have c2 := ih y (by omega) (x :: ctx) _ hy wy (iD false _) ho' hB' (by rw [List.length_cons]; simp only [Tree.size, Tree.sizes] at hs sy ⊢; have := gE wx; omega)
              have hfi := eN y (x :: ctx) 200000 hy wy ho' hB' (by omega)
              rw [lamK]
              unfold lam1
              generalize kindP y (x :: ctx) = Q at *
              generalize Tree.ivs (x :: ctx) = Y at *
              generalize (x :: ctx).length = L at *
              obtain ⟨px, hpx⟩ := bR (bJ wx)
              obtain ⟨py, hpy⟩ := bR (bJ wy)
              rw [Tree.iv, Tree.ivs, Tree.ivs, Tree.ivs, hpx, hpy]
              rw [hpx] at c1
              rw [hpy] at c2
              obtain ⟨Q1, Q2⟩ := Q
              dsimp only at *
              clear ih p1 p2 p3 p4 p5 hB ho hsz hwk hin hinn ho' hB'
              by_cases h0 : Q2 = 0
              · obtain ⟨g1, g2, g3⟩ := hfi h0
                obtain ⟨pq, hpq⟩ := bR (bJ g2)
                subst h0
                rw [if_neg (by simp)]
                dsimp only
                rw [Tree.iv, Tree.ivs, Tree.ivs, Tree.ivs, hpx, hpq]
                rw [hpq] at c2
                clear hfi g1 g2 g3
                refine aH Tryz.func26 rfl rfl (nb rfl) rfl ?_
                repeat' (first | refine aE ?_ | (refine aG ?_;  first | refine aB tabOk rfl rfl rfl (nb rfl) rfl ?_ | (refine aI rfl rfl rfl (nb rfl) rfl rfl rfl (fun hq => ?_) (fun hq => ?_) <;> (first | (simp only [sD, sE, sB, sC, sN, sM, sT, sF] at hq; try (exfalso; omega)) | skip)) | refine aD rfl rfl (nb rfl) rfl rfl rfl rfl (c1) ?_ | refine aD rfl rfl (nb rfl) rfl rfl rfl rfl (c2) ?_ | refine bS tabOk rfl rfl rfl (nb rfl) rfl rfl rfl rfl rfl rfl rfl rfl rfl ?_ | refine aT tabOk rfl rfl (nb rfl) rfl ?_ | refine aY tabOk rfl rfl rfl (nb rfl) rfl rfl rfl rfl (by first | rfl | omega) (by first | omega | simp) ?_) | (refine aK ?_;  first | refine aF ?_ | refine aL ?_ | refine bD ?_ | refine aR ?_ | refine aM ?_ | refine aS ?_ | refine aC (b := true) rfl (fun _ => ?_) nTf | refine aC (b := false) rfl nFt (fun _ => ?_) | refine aQ mixed (by kernel_rfl) ?_) | (refine aJ ?_;  first | refine aU ?_ | refine aN ?_) | (refine aP ?_;  first | refine aX ?_) | refine bC (aZ (by kernel_rfl)) ?_)
                all_goals first
                  | (exfalso; omega)
                  | exact absurd rfl (by assumption)
                  | (refine aO (by first | exact .inl rfl | exact .inr rfl) (aV rfl (aA rfl) (aA rfl)) rfl ?_; rfl)
              · rw [if_pos h0]
                generalize Q1.iv = qi at *
                clear hfi
                refine aH Tryz.func26 rfl rfl (nb rfl) rfl ?_
                repeat' (first | refine aE ?_ | (refine aG ?_;  first | refine aB tabOk rfl rfl rfl (nb rfl) rfl ?_ | (refine aI rfl rfl rfl (nb rfl) rfl rfl rfl (fun hq => ?_) (fun hq => ?_) <;> (first | (simp only [sD, sE, sB, sC, sN, sM, sT, sF] at hq; try (exfalso; omega)) | skip)) | refine aD rfl rfl (nb rfl) rfl rfl rfl rfl (c1) ?_ | refine aD rfl rfl (nb rfl) rfl rfl rfl rfl (c2) ?_ | refine aY tabOk rfl rfl rfl (nb rfl) rfl rfl rfl rfl (by first | rfl | omega) (by first | omega | simp) ?_) | (refine aK ?_;  first | refine aF ?_ | refine aL ?_ | refine bD ?_ | refine aR ?_ | refine aM ?_ | refine aC (b := true) rfl (fun _ => ?_) nTf | refine aC (b := false) rfl nFt (fun _ => ?_) | refine aQ mixed (by kernel_rfl) ?_) | (refine aJ ?_;  first | refine aU ?_ | refine aN ?_) | (refine aP ?_;  first | refine aX ?_) | refine bC (aZ (by kernel_rfl)) ?_)
                all_goals first
                  | (exfalso; omega)
                  | exact absurd rfl (by assumption)
                  | (refine aO (by first | exact .inl rfl | exact .inr rfl) (aV rfl (aA rfl) (aA rfl)) rfl ?_; rfl)
            · rw [if_neg e4]
              by_cases e5 : k = 120
              · rw [if_pos e5]
                obtain ⟨x, y, rfl, hx, hy⟩ := p2 (by omega)
                subst e5
                have wx := hwk x (by simp)
                have wy := hwk y (by simp)
                have sx := hsz x (by simp)
                have sy := hsz y (by simp)
                have gF : fineK 100000000 (kindP x ctx) := fun h0 => by
                  obtain ⟨g1, g2, g3⟩ := eN x ctx 200000 hx wx ho hB (by omega) h0
                  exact ⟨g1, g2, by omega⟩
                have gG : fineK 100000000 (kindP y ctx) := fun h0 => by
                  obtain ⟨g1, g2, g3⟩ := eN y ctx 200000 hy wy ho hB (by omega) h0
                  exact ⟨g1, g2, by omega⟩
                have c1 := aDF X 120 n a b x y (kindP x ctx) (kindP y ctx) wx wy (ih x sx ctx X hx wx hX ho hB (by omega)) (ih y sy ctx X hy wy hX ho hB (by omega)) gF gG
                rw [appK]
                generalize app1 _ _ = Q at *
                rw [Tree.iv] at c1 ⊢
                generalize Tree.ivs [x, y] = Z at *
                clear ih p1 p2 p3 p4 p5 hB ho hsz hwk hin hinn gF gG
                refine aH Tryz.func26 rfl rfl (nb rfl) rfl ?_
                repeat' (first | refine aE ?_ | (refine aG ?_;  first | refine aB tabOk rfl rfl rfl (nb rfl) rfl ?_ | (refine aI rfl rfl rfl (nb rfl) rfl rfl rfl (fun hq => ?_) (fun hq => ?_) <;> (first | (simp only [sD, sE, sB, sC, sN, sM, sT, sF] at hq; try (exfalso; omega)) | skip)) | refine aD rfl rfl (nb rfl) rfl rfl rfl rfl (c1) ?_) | (refine aK ?_;  first | refine aF ?_ | refine aL ?_ | refine bD ?_ | refine aR ?_ | refine aM ?_ | refine aC (b := true) rfl (fun _ => ?_) nTf | refine aC (b := false) rfl nFt (fun _ => ?_)) | (refine aJ ?_;  first | refine aU ?_ | refine aN ?_) | (refine aP ?_;  first | refine aX ?_))
                all_goals first
                  | (exfalso; omega)
                  | exact absurd rfl (by assumption)
                  | (refine aO (by first | exact .inl rfl | exact .inr rfl) (aV rfl (aA rfl) (aA rfl)) rfl ?_; rfl)
              · rw [if_neg e5]
                by_cases e6 : k = 121
                · rw [if_pos e6]
                  subst e6
                  have ho' := iR lV rfl ho
                  have hB' : ∀ c ∈ starK :: ctx, c.size ≤ 200000 := fun c hc => by
                    rcases List.mem_cons.1 hc with rfl | hc
                    · show 1 ≤ 200000; omega
                    · exact hB c hc
                  have c1 := hinn 122 (p5 rfl)
                  have c2 := rN starK rfl hX (by omega)
                  have c3 := hin 122 (p5 rfl) (starK :: ctx) _ (iD false _) ho' hB' (by rw [List.length_cons]; omega)
                  have c4 := aEf 121 n a b kids (by omega) fun t ht => by
                    obtain ⟨n', a', b', c, rfl, hc⟩ := p5 rfl t ht
                    have h1 := hsz _ ht
                    have h2 := bN (k := 122) (n := n') (a := a') (b := b') (kids := [c]) (t := c) (by simp)
                    exact ⟨n', a', b', c, rfl, bF (hwk _ ht) (by simp), hc, by omega⟩
                  rw [mZ] at c2
                  unfold sum1
                  generalize starsF kids (starK :: ctx) = Q at *
                  generalize fitsP kids = e at *
                  generalize (innerP kids).length = L at *
                  generalize Tree.ivs (innerP kids) = Y at *
                  generalize Tree.ivs (starK :: ctx) = W at *
                  generalize (starK :: ctx).length = M at *
                  rw [Tree.iv] at c1 c4 ⊢
                  generalize Tree.ivs kids = Z at *
                  obtain ⟨Q1, Q2⟩ := Q
                  dsimp only at *
                  generalize Q1.iv = qi at *
                  clear ih p1 p2 p3 p4 p5 hB ho hsz hwk hin hinn ho' hB'
                  by_cases h0 : Q2 = 0
                  · subst h0
                    rw [if_neg (by simp)]
                    by_cases h1 : e = 0
                    · subst h1
                      rw [if_neg (by simp), mZ]
                      refine aH Tryz.func26 rfl rfl (nb rfl) rfl ?_
                      repeat' (first | refine aE ?_ | (refine aG ?_;  first | refine aB tabOk rfl rfl rfl (nb rfl) rfl ?_ | (refine aI rfl rfl rfl (nb rfl) rfl rfl rfl (fun hq => ?_) (fun hq => ?_) <;> (first | (simp only [sD, sE, sB, sC, sN, sM, sT, sF] at hq; try (exfalso; omega)) | skip)) | refine aD rfl rfl (nb rfl) rfl rfl rfl rfl (c1) ?_ | refine aD rfl rfl (nb rfl) rfl rfl rfl rfl (c2) ?_ | refine aD rfl rfl (nb rfl) rfl rfl rfl rfl (c3) ?_ | refine aD rfl rfl (nb rfl) rfl rfl rfl rfl (c4) ?_ | refine aD rfl rfl (nb rfl) rfl rfl rfl rfl (cst) ?_) | (refine aK ?_;  first | refine aF ?_ | refine aL ?_ | refine bD ?_ | refine aR ?_ | refine aM ?_ | refine aS ?_ | refine aC (b := true) rfl (fun _ => ?_) nTf | refine aC (b := false) rfl nFt (fun _ => ?_)) | (refine aJ ?_;  first | refine aU ?_) | (refine aP ?_;  first | refine bM ?_))
                      all_goals first
                        | (exfalso; omega)
                        | exact absurd rfl (by assumption)
                        | (refine aO (by first | exact .inl rfl | exact .inr rfl) (aV rfl (aA rfl) (aA rfl)) rfl ?_; rfl)
                    · rw [if_pos h1]
                      refine aH Tryz.func26 rfl rfl (nb rfl) rfl ?_
                      repeat' (first | refine aE ?_ | (refine aG ?_;  first | refine aB tabOk rfl rfl rfl (nb rfl) rfl ?_ | (refine aI rfl rfl rfl (nb rfl) rfl rfl rfl (fun hq => ?_) (fun hq => ?_) <;> (first | (simp only [sD, sE, sB, sC, sN, sM, sT, sF] at hq; try (exfalso; omega)) | skip)) | refine aD rfl rfl (nb rfl) rfl rfl rfl rfl (c1) ?_ | refine aD rfl rfl (nb rfl) rfl rfl rfl rfl (c2) ?_ | refine aD rfl rfl (nb rfl) rfl rfl rfl rfl (c3) ?_ | refine aD rfl rfl (nb rfl) rfl rfl rfl rfl (c4) ?_ | refine aD rfl rfl (nb rfl) rfl rfl rfl rfl (cst) ?_) | (refine aK ?_;  first | refine aF ?_ | refine aL ?_ | refine bD ?_ | refine aR ?_ | refine aM ?_ | refine aS ?_ | refine aC (b := true) rfl (fun _ => ?_) nTf | refine aC (b := false) rfl nFt (fun _ => ?_)) | (refine aJ ?_;  first | refine aU ?_ | refine aN ?_) | (refine aP ?_;  first | refine aX ?_))
                      all_goals first
                        | (exfalso; omega)
                        | exact absurd rfl (by assumption)
                        | (refine aO (by first | exact .inl rfl | exact .inr rfl) (aV rfl (aA rfl) (aA rfl)) rfl ?_; rfl)
                  · rw [if_pos h0]
                    refine aH Tryz.func26 rfl rfl (nb rfl) rfl ?_
                    repeat' (first | refine aE ?_ | (refine aG ?_;  first | refine aB tabOk rfl rfl rfl (nb rfl) rfl ?_ | (refine aI rfl rfl rfl (nb rfl) rfl rfl rfl (fun hq => ?_) (fun hq => ?_) <;> (first | (simp only [sD, sE, sB, sC, sN, sM, sT, sF] at hq; try (exfalso; omega)) | skip)) | refine aD rfl rfl (nb rfl) rfl rfl rfl rfl (c1) ?_ | refine aD rfl rfl (nb rfl) rfl rfl rfl rfl (c2) ?_ | refine aD rfl rfl (nb rfl) rfl rfl rfl rfl (c3) ?_ | refine aD rfl rfl (nb rfl) rfl rfl rfl rfl (cst) ?_) | (refine aK ?_;  first | refine aF ?_ | refine aL ?_ | refine bD ?_ | refine aR ?_ | refine aM ?_ | refine aC (b := true) rfl (fun _ => ?_) nTf | refine aC (b := false) rfl nFt (fun _ => ?_)) | (refine aJ ?_;  first | refine aU ?_ | refine aN ?_) | (refine aP ?_;  first | refine aX ?_))
                    all_goals first
                      | (exfalso; omega)
                      | exact absurd rfl (by assumption)
                      | (refine aO (by first | exact .inl rfl | exact .inr rfl) (aV rfl (aA rfl) (aA rfl)) rfl ?_; rfl)
                · rw [if_neg e6, mZ]
                  rw [Tree.iv]
                  generalize Tree.ivs kids = Z at *
                  clear ih p1 p2 p3 p4 p5 hB ho hsz hwk hin hinn
                  refine aH Tryz.func26 rfl rfl (nb rfl) rfl ?_
                  repeat' (first | refine aE ?_ | (refine aG ?_;  first | refine aB tabOk rfl rfl rfl (nb rfl) rfl ?_ | (refine aI rfl rfl rfl (nb rfl) rfl rfl rfl (fun hq => ?_) (fun hq => ?_) <;> (first | (simp only [sD, sE, sB, sC, sN, sM, sT, sF] at hq; try (exfalso; omega)) | skip)) | refine aD rfl rfl (nb rfl) rfl rfl rfl rfl (cst) ?_) | (refine aK ?_;  first | refine aF ?_ | refine aL ?_ | refine bD ?_ | refine aR ?_ | refine aM ?_ | refine aS ?_ | refine aC (b := false) rfl nFt (fun _ => ?_)) | (refine aJ ?_;  first | refine aU ?_) | (refine aP ?_;  first | refine bM ?_))
                  all_goals first
                    | (exfalso; omega)
                    | exact absurd rfl (by assumption)
                    | (refine aO (by first | exact .inl rfl | exact .inr rfl) (aV rfl (aA rfl) (aA rfl)) rfl ?_; rfl)
end Go.Proofs.YtocaohipfiapkaaGreatDoor.Ab
namespace Go.Proofs.YtocaohipfiapkaaGreatDoor.Ab
set_option linter.unusedVariables false
set_option linter.unusedSimpArgs false
open Go.RowKit
attribute [local irreducible] AWP AOps AExit AThen ABlock ANoGoto FeetOk
/-- A context of kinds that were checked. -/
def okK (ks : List Tree) : Prop := ∀ K ∈ ks, checkP isKindP K = 0
theorem aAr {ks : List Tree} (h : okK ks) : okCtx ks := fun K hK => by
  obtain ⟨h1, _, h3⟩ := bI (h K hK)
  exact ⟨h3, h1⟩
theorem wV {ks : List Tree} (h : okK ks) : ∀ K ∈ ks, K.size ≤ 200000 := fun K hK => by
  obtain ⟨_, h2, _⟩ := bI (h K hK)
  omega
set_option maxHeartbeats 16000000 in
set_option maxRecDepth 10000 in
theorem aCF {X : IV} {ks : List Tree} (hX : rowIV X ks) (hk : okK ks) (hl : ks.length ≤ 100000) (c : Tree) (hs : c.size ≤ 100000000) :
    ACalls Tryz.prog 12 [.imm X, .imm c.iv] [] (.imm (.tup [(KindP ks c).1.iv, .lit (.int .i64 (KindP ks c).2)])) [] := by
  have c1 := eA c hs
  have c2 : checkP isConP c = 0 → ACalls Tryz.prog 26 [.imm X, .imm c.iv] [] (.imm (.tup [(kindP c ks).1.iv, .lit (.int .i64 (kindP c ks).2)])) [] := fun h => by
    obtain ⟨h1, h2, h3⟩ := bI h
    exact aEg c ks X h3 h1 hX (aAr hk) (wV hk) (by omega)
  unfold KindP
  generalize kindP c ks = Q at *
  generalize checkP isConP c = e at *
  rcases hX with ⟨f, rfl⟩ | ⟨rfl, rfl⟩
  · refine aH Tryz.func12 rfl rfl (nb rfl) rfl ?_
    repeat' (first | refine aE ?_ | (refine aG ?_;  first | refine aB tabOk rfl rfl rfl (nb rfl) rfl ?_ | refine aT tabOk rfl rfl (nb rfl) rfl ?_) | (refine aK ?_;  first | refine aF ?_ | refine aL ?_ | refine aR ?_))
    refine bZ (ι := {j : Nat // j ≤ ks.length}) (fun j => S.f ⟨[(13, .imm (.lit (.int .i64 (j.1 : Int)))), (12, .imm (.lit (.int .i64 (ks.length : Int)))), (11, .imm (.sl f ks.length (Tree.ivs ks))), (0, .imm (.sl f ks.length (Tree.ivs ks))), (1, .imm c.iv), (6, .imm (.lit (.int .i64 0)))], []⟩) (fun j => ks.length - j.1) ⟨0, Nat.zero_le _⟩ (bT (by repeat' first | exact trivial | refine ⟨rfl, ?_⟩) (by repeat' first | exact trivial | refine ⟨rfl, ?_⟩)) ?_
    rintro ⟨j, hj⟩
    dsimp only
    by_cases hlt : j < ks.length
    · have hget := cC ks j hlt
      have hkj := hk _ (List.getElem_mem hlt)
      have c3 := qQ ks[j] (by have := (bI hkj).2.1; omega)
      rw [hkj] at c3
      generalize Tree.ivs ks = Z at *
      repeat' (first | refine aE ?_ | (refine aG ?_;  first | refine aB tabOk rfl rfl rfl (nb rfl) rfl ?_ | (refine aI rfl rfl rfl (nb rfl) rfl rfl rfl (fun hq => ?_) (fun hq => ?_) <;> (first | (simp only [sD, sE, sB, sC, sN, sM, sT, sF] at hq; try (exfalso; omega)) | skip)) | refine bA tabOk rfl rfl rfl (nb rfl) rfl rfl rfl hget ?_ | refine aD rfl rfl (nb rfl) rfl rfl rfl rfl (c3) ?_ | refine bO rfl rfl rfl (nb rfl) rfl rfl (by omega) ?_ | refine bB tabOk rfl rfl rfl (nb rfl) rfl rfl rfl rfl (by first | assumption | omega) ?_) | (refine aK ?_;  first | refine aF ?_ | refine aL ?_ | refine bD ?_ | refine aR ?_ | refine aS ?_ | refine aC (b := true) rfl (fun _ => ?_) nTf) | (refine aJ ?_;  first | refine aU ?_) | (refine aP ?_;  first | refine bM ?_))
      all_goals first
        | (exfalso; omega)
        | exact absurd rfl (by assumption)
        | exact ⟨⟨j + 1, hlt⟩, (by show ks.length - (j + 1) < ks.length - j; omega), (bT (by repeat' first | exact trivial | refine ⟨rfl, ?_⟩) (by repeat' first | exact trivial | refine ⟨rfl, ?_⟩))⟩
    · have ej : j = ks.length := by omega
      subst ej
      generalize Tree.ivs ks = Z at *
      by_cases h0 : e = 0
      · have c4 := c2 h0
        subst h0
        rw [if_neg (by simp)]
        obtain ⟨Q1, Q2⟩ := Q
        dsimp only at *
        generalize Q1.iv = qi at *
        repeat' (first | refine aE ?_ | (refine aG ?_;  first | refine aB tabOk rfl rfl rfl (nb rfl) rfl ?_ | (refine aI rfl rfl rfl (nb rfl) rfl rfl rfl (fun hq => ?_) (fun hq => ?_) <;> (first | (simp only [sD, sE, sB, sC, sN, sM, sT, sF] at hq; try (exfalso; omega)) | skip)) | refine aD rfl rfl (nb rfl) rfl rfl rfl rfl (c1) ?_ | refine aD rfl rfl (nb rfl) rfl rfl rfl rfl (c4) ?_) | (refine aK ?_;  first | refine aF ?_ | refine aL ?_ | refine aM ?_ | refine bQ ?_ | refine aS ?_ | refine aC (b := false) rfl nFt (fun _ => ?_)) | (refine aJ ?_;  first | refine aU ?_ | refine bH ?_) | (refine aP ?_;  first | refine bE ?_))
        all_goals first
          | (exfalso; omega)
          | exact absurd rfl (by assumption)
          | (refine aO (by first | exact .inl rfl | exact .inr rfl) (aV rfl (aA rfl) (aA rfl)) rfl ?_; rfl)
      · rw [if_pos h0]
        repeat' (first | refine aE ?_ | (refine aG ?_;  first | refine aB tabOk rfl rfl rfl (nb rfl) rfl ?_ | (refine aI rfl rfl rfl (nb rfl) rfl rfl rfl (fun hq => ?_) (fun hq => ?_) <;> (first | (simp only [sD, sE, sB, sC, sN, sM, sT, sF] at hq; try (exfalso; omega)) | skip)) | refine aD rfl rfl (nb rfl) rfl rfl rfl rfl (c1) ?_) | (refine aK ?_;  first | refine aF ?_ | refine aL ?_ | refine aM ?_ | refine bQ ?_ | refine aC (b := true) rfl (fun _ => ?_) nTf | refine aC (b := false) rfl nFt (fun _ => ?_)) | (refine aJ ?_;  first | refine aU ?_ | refine bH ?_ | refine aN ?_) | (refine aP ?_;  first | refine bE ?_))
        all_goals first
          | (exfalso; omega)
          | exact absurd rfl (by assumption)
          | (refine aO (by first | exact .inl rfl | exact .inr rfl) (aV rfl (aA rfl) (aA rfl)) rfl ?_; rfl)
  · refine aH Tryz.func12 rfl rfl (nb rfl) rfl ?_
    repeat' (first | refine aE ?_ | (refine aG ?_;  first | refine aB tabOk rfl rfl rfl (nb rfl) rfl ?_ | refine aT tabOk rfl rfl (nb rfl) rfl ?_) | (refine aK ?_;  first | refine aF ?_ | refine aL ?_ | refine aR ?_))
    refine bZ (ι := Unit) (fun _ => S.f ⟨[(13, .imm (.lit (.int .i64 0))), (12, .imm (.lit (.int .i64 0))), (0, .imm (.lit (.slice none 0 0))), (1, .imm c.iv), (6, .imm (.lit (.int .i64 0)))], []⟩) (fun _ => 0) () (bT (by repeat' first | exact trivial | refine ⟨rfl, ?_⟩) (by repeat' first | exact trivial | refine ⟨rfl, ?_⟩)) ?_
    rintro ⟨⟩
    by_cases h0 : e = 0
    · have c4 := c2 h0
      subst h0
      rw [if_neg (by simp)]
      obtain ⟨Q1, Q2⟩ := Q
      dsimp only at *
      generalize Q1.iv = qi at *
      repeat' (first | refine aE ?_ | (refine aG ?_;  first | refine aB tabOk rfl rfl rfl (nb rfl) rfl ?_ | (refine aI rfl rfl rfl (nb rfl) rfl rfl rfl (fun hq => ?_) (fun hq => ?_) <;> (first | (simp only [sD, sE, sB, sC, sN, sM, sT, sF] at hq; try (exfalso; omega)) | skip)) | refine aD rfl rfl (nb rfl) rfl rfl rfl rfl (c1) ?_ | refine aD rfl rfl (nb rfl) rfl rfl rfl rfl (c4) ?_) | (refine aK ?_;  first | refine aF ?_ | refine aL ?_ | refine aM ?_ | refine bQ ?_ | refine aS ?_ | refine aC (b := false) rfl nFt (fun _ => ?_)) | (refine aJ ?_;  first | refine aU ?_ | refine bH ?_) | (refine aP ?_;  first | refine bE ?_))
      all_goals first
        | (exfalso; omega)
        | exact absurd rfl (by assumption)
        | (refine aO (by first | exact .inl rfl | exact .inr rfl) (aV rfl (aA rfl) (aA rfl)) rfl ?_; rfl)
    · rw [if_pos h0]
      repeat' (first | refine aE ?_ | (refine aG ?_;  first | refine aB tabOk rfl rfl rfl (nb rfl) rfl ?_ | (refine aI rfl rfl rfl (nb rfl) rfl rfl rfl (fun hq => ?_) (fun hq => ?_) <;> (first | (simp only [sD, sE, sB, sC, sN, sM, sT, sF] at hq; try (exfalso; omega)) | skip)) | refine aD rfl rfl (nb rfl) rfl rfl rfl rfl (c1) ?_) | (refine aK ?_;  first | refine aF ?_ | refine aL ?_ | refine aM ?_ | refine bQ ?_ | refine aC (b := true) rfl (fun _ => ?_) nTf | refine aC (b := false) rfl nFt (fun _ => ?_)) | (refine aJ ?_;  first | refine aU ?_ | refine bH ?_ | refine aN ?_) | (refine aP ?_;  first | refine bE ?_))
      all_goals first
        | (exfalso; omega)
        | exact absurd rfl (by assumption)
        | (refine aO (by first | exact .inl rfl | exact .inr rfl) (aV rfl (aA rfl) (aA rfl)) rfl ?_; rfl)
theorem mC (ks : List Tree) (c : Tree) (hk : okK ks) : fineK 400000 (KindP ks c) := fun h => by
  unfold KindP at h ⊢
  split at h
  · rename_i h1; exact absurd h h1
  · rename_i h1
    rw [if_neg h1]
    obtain ⟨g1, g2, g3⟩ := bI (show checkP isConP c = 0 by simpa using h1)
    obtain ⟨f1, f2, f3⟩ := eN c ks 200000 g3 g1 (aAr hk) (wV hk) (by omega) h
    exact ⟨f1, f2, by omega⟩
set_option maxHeartbeats 4000000 in
set_option maxRecDepth 10000 in
theorem zH {X : IV} {ks : List Tree} (hX : rowIV X ks) (hk : okK ks) (hl : ks.length ≤ 100000) (c : Tree) (hs : c.size ≤ 100000000) :
    ACalls Tryz.prog 5 [.imm X, .imm c.iv] [] (.imm (.lit (.int .i64 (starE ks c)))) [] := by
  have c1 := aCF hX hk hl c hs
  have hf := mC ks c hk
  unfold starE
  generalize KindP ks c = Q at *
  obtain ⟨Q1, Q2⟩ := Q
  dsimp only at *
  by_cases h0 : Q2 = 0
  · obtain ⟨g1, g2, g3⟩ := hf h0
    subst h0
    obtain ⟨k, n, a, b, ks', rfl⟩ := bY g2
    rw [Tree.iv] at c1
    generalize Tree.ivs ks' = Z at *
    rw [Tree.kind]
    by_cases h1 : k = 100
    · subst h1
      rw [if_neg (by simp)]
      clear hf g1 g2 g3
      refine aH Tryz.func5 rfl rfl (nb rfl) rfl ?_
      repeat' (first | refine aE ?_ | (refine aG ?_;  first | refine aB tabOk rfl rfl rfl (nb rfl) rfl ?_ | (refine aI rfl rfl rfl (nb rfl) rfl rfl rfl (fun hq => ?_) (fun hq => ?_) <;> (first | (simp only [sD, sE, sB, sC, sN, sM, sT, sF] at hq; try (exfalso; omega)) | skip)) | refine aD rfl rfl (nb rfl) rfl rfl rfl rfl (c1) ?_) | (refine aK ?_;  first | refine aF ?_ | refine aL ?_ | refine aM ?_ | refine aS ?_ | refine aC (b := false) rfl nFt (fun _ => ?_)) | (refine aJ ?_;  first | refine aU ?_))
      all_goals first
        | (exfalso; omega)
        | exact absurd rfl (by assumption)
        | (refine aO (by first | exact .inl rfl | exact .inr rfl) (aW rfl (aA rfl)) rfl ?_; rfl)
    · rw [if_pos ⟨rfl, h1⟩]
      clear hf g1 g2 g3
      refine aH Tryz.func5 rfl rfl (nb rfl) rfl ?_
      repeat' (first | refine aE ?_ | (refine aG ?_;  first | refine aB tabOk rfl rfl rfl (nb rfl) rfl ?_ | (refine aI rfl rfl rfl (nb rfl) rfl rfl rfl (fun hq => ?_) (fun hq => ?_) <;> (first | (simp only [sD, sE, sB, sC, sN, sM, sT, sF] at hq; try (exfalso; omega)) | skip)) | refine aD rfl rfl (nb rfl) rfl rfl rfl rfl (c1) ?_) | (refine aK ?_;  first | refine aF ?_ | refine aL ?_ | refine aM ?_ | refine aC (b := true) rfl (fun _ => ?_) nTf) | (refine aJ ?_;  first | refine aN ?_))
      all_goals first
        | (exfalso; omega)
        | exact absurd rfl (by assumption)
        | (refine aO (by first | exact .inl rfl | exact .inr rfl) (aW rfl (aA rfl)) rfl ?_; rfl)
  · rw [if_neg fun h => h0 h.1]
    generalize Q1.iv = qi at *
    clear hf
    refine aH Tryz.func5 rfl rfl (nb rfl) rfl ?_
    repeat' (first | refine aE ?_ | (refine aG ?_;  first | refine aB tabOk rfl rfl rfl (nb rfl) rfl ?_ | refine bL rfl rfl (nb rfl) ?_ | (refine aI rfl rfl rfl (nb rfl) rfl rfl rfl (fun hq => ?_) (fun hq => ?_) <;> (first | (simp only [sD, sE, sB, sC, sN, sM, sT, sF] at hq; try (exfalso; omega)) | skip)) | refine aD rfl rfl (nb rfl) rfl rfl rfl rfl (c1) ?_) | (refine aK ?_;  first | refine aF ?_ | refine aL ?_ | refine aM ?_ | refine aS ?_ | refine aC (b := false) rfl nFt (fun _ => ?_)) | (refine aJ ?_;  first | refine aU ?_))
    all_goals first
      | (exfalso; omega)
      | exact absurd rfl (by assumption)
      | (refine aO (by first | exact .inl rfl | exact .inr rfl) (aW rfl (aA rfl)) rfl ?_; rfl)
end Go.Proofs.YtocaohipfiapkaaGreatDoor.Ab
namespace Go.Proofs.YtocaohipfiapkaaGreatDoor.Ab
set_option linter.unusedVariables false
set_option linter.unusedSimpArgs false
open Go.RowKit
theorem wW {P : Program} {fn : Func} {r r' : AV} {e : Exit} {s : List (Nat × AV)} {m m0 m' : Mem} (he : e = .normal ∨ e = .ret) (hr : Results P fn (S.f ⟨s, m⟩) r') (hn : ∀ g ∈ r'.names, m'.get g ≠ none) (hl : LeM m m') (hm : m'.all (fun p => p.2.names.isEmpty) = true) (h : r' = r) : AExit P fn m0.get r m'.get e (S.f ⟨s, m⟩) := by
  subst h
  refine ⟨he, hr, fun g o hg => hl.get g o hg, fun g hg => .inr (hn g hg), fun g o hg k hk => ?_⟩
  have key : ∀ l : Mem, l.all (fun p => p.2.names.isEmpty) = true → l.get g = some o → o.names = [] := by
    intro l
    induction l with
    | nil => intro _ h; cases h
    | cons p l ih =>
      intro h1 h2
      rw [List.all_cons, Bool.and_eq_true] at h1
      simp only [Mem.get] at h2
      split at h2
      · cases h2; simpa using h1.1
      · exact ih h1.2 h2
  rw [key m' hm hg] at hk
  cases hk
attribute [local irreducible] AWP AOps AExit AThen ABlock ANoGoto FeetOk
/-- A context, as a struct of two lists. -/
abbrev cIV (ks ts : List Tree) : IV := .agg [.sl false ks.length (Tree.ivs ks), .sl false ts.length (Tree.ivs ts)]
set_option maxHeartbeats 4000000 in
set_option maxRecDepth 10000 in
theorem aCG (k : Int) (px py : List IV) (f : Bool) : ACalls Tryz.prog 73 [.imm (.lit (.int .i64 k)), .imm (.sl f 2 [.ptr px 0, .ptr py 0])] [] (.imm (.ptr [.lit (.int .i64 k), .lit (.int .i64 0), .lit (.string ⟨#[]⟩), .lit (.string ⟨#[]⟩), .sl false 2 [.ptr px 0, .ptr py 0]] 0)) [] := by
  cases f
  · refine aH Tryz.func73 rfl rfl (nb rfl) rfl ?_
    repeat' (first | refine aE ?_ | (refine aG ?_;  first | refine aB tabOk rfl rfl rfl (nb rfl) rfl ?_ | refine aT tabOk rfl rfl (nb rfl) rfl ?_) | (refine aK ?_;  first | refine aF ?_ | refine aM ?_))
    all_goals (refine aO (by first | exact .inl rfl | exact .inr rfl) (aW rfl (aA rfl)) rfl ?_; rfl)
  · refine aH Tryz.func73 rfl rfl (nb rfl) rfl ?_
    repeat' (first | refine aE ?_ | (refine aG ?_;  first | refine aB tabOk rfl rfl rfl (nb rfl) rfl ?_ | refine aT tabOk rfl rfl (nb rfl) rfl ?_) | (refine aK ?_;  first | refine aF ?_ | refine aM ?_))
    all_goals (refine aO (by first | exact .inl rfl | exact .inr rfl) (aW rfl (aA rfl)) rfl ?_; rfl)
set_option maxHeartbeats 4000000 in
set_option maxRecDepth 10000 in
theorem zI (k : Int) : ACalls Tryz.prog 73 [.imm (.lit (.int .i64 k)), .imm (.lit (.slice none 0 0))] [] (.imm (tyT k []).iv) [] := by
  show ACalls _ _ _ _ (.imm (.ptr [.lit (.int .i64 k), .lit (.int .i64 0), .lit (.string ⟨#[]⟩), .lit (.string ⟨#[]⟩), .sl false 0 []] 0)) _
  refine aH Tryz.func73 rfl rfl (nb rfl) rfl ?_
  repeat' (first | refine aE ?_ | (refine aG ?_;  first | refine aB tabOk rfl rfl rfl (nb rfl) rfl ?_ | refine aT tabOk rfl rfl (nb rfl) rfl ?_) | (refine aK ?_;  first | refine aF ?_ | refine aM ?_))
  all_goals (refine aO (by first | exact .inl rfl | exact .inr rfl) (aW rfl (aA rfl)) rfl ?_; rfl)
set_option maxHeartbeats 4000000 in
set_option maxRecDepth 10000 in
/-- con, of which a variable is to be made. -/
theorem aEh (k : Int) : ACalls Tryz.prog 73 [.imm (.lit (.int .i64 k)), .imm (.lit (.slice none 0 0))] [(600, .fut)] (.obj 600 0)
    [(600, .cells [.imm (.lit (.int .i64 k)), .imm (.lit (.int .i64 0)), .imm (.lit (.string ⟨#[]⟩)), .imm (.lit (.string ⟨#[]⟩)), .imm (.lit (.slice none 0 0))])] := by
  refine bX [600] Tryz.func73 rfl rfl (nb rfl) rfl rfl ?_
  repeat' (first | refine aE ?_ | (refine aG ?_;  first | refine aB tabOk rfl rfl rfl (nb rfl) rfl ?_ | refine eP (d := 7) tabOk rfl rfl rfl (nb rfl) rfl rfl rfl rfl rfl ?_ | refine aBm 600 (d := 8) rfl rfl rfl (nb rfl) rfl rfl rfl rfl rfl ?_) | (refine aK ?_;  first | refine aF ?_ | refine aM ?_))
  all_goals
    (refine cB (wW (by first | exact .inl rfl | exact .inr rfl) (aW rfl (aA rfl)) (by intro g hg; rw [List.mem_singleton.1 hg]; simp [Mem.get]) (by repeat' first | exact trivial | refine ⟨rfl, ?_⟩) rfl ?_); rfl)
set_option maxHeartbeats 4000000 in
set_option maxRecDepth 10000 in
theorem nB (n b : Tree) (hs : n.size ≤ 100000000) (hb : b.size ≤ 100000000) : ACalls Tryz.prog 125 [.imm n.iv, .imm b.iv] [] (.imm (.tup [(filledP n b).1.iv, .lit (.int .i64 (filledP n b).2)])) [] := by
  have c1 := aAl n 0 b hs hb
  have hf := fun h => (jQ n 0 b h).2.1
  unfold filledP
  generalize substP n 0 b = R at *
  obtain ⟨R1, R2⟩ := R
  dsimp only at *
  by_cases h0 : R2 = 0
  · have c2 := qV R1 (by have := hf h0; omega)
    subst h0
    rw [if_neg (by simp)]
    generalize normalP 1000 R1 = Q at *
    obtain ⟨Q1, Q2⟩ := Q
    dsimp only at *
    generalize Q1.iv = qi at *
    generalize R1.iv = ri at *
    refine aH Tryz.func125 rfl rfl (nb rfl) rfl ?_
    repeat' (first | refine aE ?_ | (refine aG ?_;  first | refine aB tabOk rfl rfl rfl (nb rfl) rfl ?_ | (refine aI rfl rfl rfl (nb rfl) rfl rfl rfl (fun hq => ?_) (fun hq => ?_) <;> (first | (simp only [sD, sE, sB, sC, sN, sM, sT, sF] at hq; try (exfalso; omega)) | skip)) | refine aD rfl rfl (nb rfl) rfl rfl rfl rfl (c1) ?_ | refine aD rfl rfl (nb rfl) rfl rfl rfl rfl (c2) ?_) | (refine aK ?_;  first | refine aF ?_ | refine aL ?_ | refine aM ?_ | refine aS ?_ | refine aC (b := false) rfl nFt (fun _ => ?_)) | (refine aJ ?_;  first | refine aU ?_))
    all_goals first
      | (exfalso; omega)
      | exact absurd rfl (by assumption)
      | (refine aO (by first | exact .inl rfl | exact .inr rfl) (aV rfl (aA rfl) (aA rfl)) rfl ?_; rfl)
  · rw [if_pos h0]
    generalize R1.iv = ri at *
    refine aH Tryz.func125 rfl rfl (nb rfl) rfl ?_
    repeat' (first | refine aE ?_ | (refine aG ?_;  first | refine aB tabOk rfl rfl rfl (nb rfl) rfl ?_ | (refine aI rfl rfl rfl (nb rfl) rfl rfl rfl (fun hq => ?_) (fun hq => ?_) <;> (first | (simp only [sD, sE, sB, sC, sN, sM, sT, sF] at hq; try (exfalso; omega)) | skip)) | refine aD rfl rfl (nb rfl) rfl rfl rfl rfl (c1) ?_) | (refine aK ?_;  first | refine aF ?_ | refine aL ?_ | refine aM ?_ | refine aC (b := true) rfl (fun _ => ?_) nTf) | (refine aJ ?_;  first | refine aN ?_))
    all_goals first
      | (exfalso; omega)
      | exact absurd rfl (by assumption)
      | (refine aO (by first | exact .inl rfl | exact .inr rfl) (aV rfl (aA rfl) (aA rfl)) rfl ?_; rfl)
set_option maxHeartbeats 4000000 in
set_option maxRecDepth 10000 in
theorem aDH (ks ts : List Tree) (hk : okK ks) (hl : ks.length ≤ 100000) (c : Tree) (hs : c.size ≤ 100000000) :
    ACalls Tryz.prog 122 [.imm (cIV ks ts), .imm c.iv] [] (.imm (.tup [(starT ks c).1.iv, .lit (.int .i64 (starT ks c).2)])) [] := by
  have c1 := zH (iD false ks) hk hl c hs
  have c2 := qV c hs
  unfold starT cIV
  generalize starE ks c = e at *
  generalize normalP 1000 c = Q at *
  obtain ⟨Q1, Q2⟩ := Q
  dsimp only at *
  generalize Tree.ivs ks = KI at *
  generalize Tree.ivs ts = TI at *
  generalize ks.length = kl at *
  generalize ts.length = tl at *
  by_cases h0 : e = 0
  · subst h0
    rw [if_neg (by simp)]
    dsimp only
    generalize Q1.iv = qi at *
    refine aH Tryz.func122 rfl rfl (nb rfl) rfl ?_
    repeat' (first | refine aE ?_ | (refine aG ?_;  first | refine aB tabOk rfl rfl rfl (nb rfl) rfl ?_ | (refine aI rfl rfl rfl (nb rfl) rfl rfl rfl (fun hq => ?_) (fun hq => ?_) <;> (first | (simp only [sD, sE, sB, sC, sN, sM, sT, sF] at hq; try (exfalso; omega)) | skip)) | refine aD rfl rfl (nb rfl) rfl rfl rfl rfl (c1) ?_ | refine aD rfl rfl (nb rfl) rfl rfl rfl rfl (c2) ?_ | refine aT tabOk rfl rfl (nb rfl) rfl ?_) | (refine aK ?_;  first | refine aF ?_ | refine aL ?_ | refine aM ?_ | refine aS ?_ | refine aC (b := false) rfl nFt (fun _ => ?_)) | (refine aJ ?_;  first | refine aU ?_))
    all_goals first
      | (exfalso; omega)
      | exact absurd rfl (by assumption)
      | (refine aO (by first | exact .inl rfl | exact .inr rfl) (aV rfl (aA rfl) (aA rfl)) rfl ?_; rfl)
  · rw [if_pos h0]
    refine aH Tryz.func122 rfl rfl (nb rfl) rfl ?_
    repeat' (first | refine aE ?_ | (refine aG ?_;  first | refine aB tabOk rfl rfl rfl (nb rfl) rfl ?_ | (refine aI rfl rfl rfl (nb rfl) rfl rfl rfl (fun hq => ?_) (fun hq => ?_) <;> (first | (simp only [sD, sE, sB, sC, sN, sM, sT, sF] at hq; try (exfalso; omega)) | skip)) | refine aD rfl rfl (nb rfl) rfl rfl rfl rfl (c1) ?_ | refine aT tabOk rfl rfl (nb rfl) rfl ?_) | (refine aK ?_;  first | refine aF ?_ | refine aL ?_ | refine aM ?_ | refine aC (b := true) rfl (fun _ => ?_) nTf) | (refine aJ ?_;  first | refine aN ?_))
    all_goals first
      | (exfalso; omega)
      | exact absurd rfl (by assumption)
      | (refine aO (by first | exact .inl rfl | exact .inr rfl) (aV rfl (aA rfl) (aA rfl)) rfl ?_; rfl)
set_option maxHeartbeats 4000000 in
set_option maxRecDepth 10000 in
theorem as_a (ks ts : List Tree) (x : Tree) (R : Tree × Int) (kind : Int) (hw : R.2 = 0 → R.1.whole = true)
    (c1 : ACalls Tryz.prog 45 [.imm (cIV ks ts), .imm x.iv] [] (.imm (.tup [R.1.iv, .lit (.int .i64 R.2)])) []) :
    ACalls Tryz.prog 123 [.imm (cIV ks ts), .imm x.iv, .imm (.lit (.int .i64 kind))] [] (.imm (.tup [(asP R kind).1.iv, .lit (.int .i64 (asP R kind).2)])) [] := by
  obtain ⟨Q1, Q2⟩ := R
  unfold asP
  unfold cIV at *
  dsimp only at *
  generalize Tree.ivs ks = KI at *
  generalize Tree.ivs ts = TI at *
  generalize ks.length = kl at *
  generalize ts.length = tl at *
  by_cases h0 : Q2 = 0
  · obtain ⟨k, n, a, b, kids, rfl⟩ := bY (hw h0)
    subst h0
    rw [Tree.kind]
    clear hw
    by_cases h1 : k = kind
    · rw [if_neg (by simpa using h1)]
      subst h1
      rw [Tree.iv] at *
      generalize Tree.ivs kids = Z at *
      refine aH Tryz.func123 rfl rfl (nb rfl) rfl ?_
      repeat' (first | refine aE ?_ | (refine aG ?_;  first | refine aB tabOk rfl rfl rfl (nb rfl) rfl ?_ | (refine aI rfl rfl rfl (nb rfl) rfl rfl rfl (fun hq => ?_) (fun hq => ?_) <;> (first | (simp only [sD, sE, sB, sC, sN, sM, sT, sF] at hq; try (exfalso; omega)) | skip)) | refine aD rfl rfl (nb rfl) rfl rfl rfl rfl (c1) ?_ | refine aT tabOk rfl rfl (nb rfl) rfl ?_) | (refine aK ?_;  first | refine aF ?_ | refine aL ?_ | refine aM ?_ | refine aS ?_ | refine aC (b := false) rfl nFt (fun _ => ?_)) | (refine aJ ?_;  first | refine aU ?_))
      all_goals first
        | (exfalso; omega)
        | exact absurd rfl (by assumption)
        | (refine aO (by first | exact .inl rfl | exact .inr rfl) (aV rfl (aA rfl) (aA rfl)) rfl ?_; rfl)
    · rw [if_pos ⟨rfl, h1⟩]
      rw [Tree.iv] at c1
      generalize Tree.ivs kids = Z at *
      refine aH Tryz.func123 rfl rfl (nb rfl) rfl ?_
      repeat' (first | refine aE ?_ | (refine aG ?_;  first | refine aB tabOk rfl rfl rfl (nb rfl) rfl ?_ | (refine aI rfl rfl rfl (nb rfl) rfl rfl rfl (fun hq => ?_) (fun hq => ?_) <;> (first | (simp only [sD, sE, sB, sC, sN, sM, sT, sF] at hq; try (exfalso; omega)) | skip)) | refine aD rfl rfl (nb rfl) rfl rfl rfl rfl (c1) ?_ | refine aT tabOk rfl rfl (nb rfl) rfl ?_) | (refine aK ?_;  first | refine aF ?_ | refine aL ?_ | refine aM ?_ | refine aC (b := true) rfl (fun _ => ?_) nTf) | (refine aJ ?_;  first | refine aN ?_))
      all_goals first
        | (exfalso; omega)
        | exact absurd rfl (by assumption)
        | (refine aO (by first | exact .inl rfl | exact .inr rfl) (aV rfl (aA rfl) (aA rfl)) rfl ?_; rfl)
  · rw [if_neg fun h => h0 h.1]
    generalize Q1.iv = qi at *
    clear hw
    refine aH Tryz.func123 rfl rfl (nb rfl) rfl ?_
    repeat' (first | refine aE ?_ | (refine aG ?_;  first | refine aB tabOk rfl rfl rfl (nb rfl) rfl ?_ | refine bL rfl rfl (nb rfl) ?_ | (refine aI rfl rfl rfl (nb rfl) rfl rfl rfl (fun hq => ?_) (fun hq => ?_) <;> (first | (simp only [sD, sE, sB, sC, sN, sM, sT, sF] at hq; try (exfalso; omega)) | skip)) | refine aD rfl rfl (nb rfl) rfl rfl rfl rfl (c1) ?_ | refine aT tabOk rfl rfl (nb rfl) rfl ?_) | (refine aK ?_;  first | refine aF ?_ | refine aL ?_ | refine aM ?_ | refine aS ?_ | refine aC (b := false) rfl nFt (fun _ => ?_)) | (refine aJ ?_;  first | refine aU ?_))
    all_goals first
      | (exfalso; omega)
      | exact absurd rfl (by assumption)
      | (refine aO (by first | exact .inl rfl | exact .inr rfl) (aV rfl (aA rfl) (aA rfl)) rfl ?_; rfl)
end Go.Proofs.YtocaohipfiapkaaGreatDoor.Ab
namespace Go.Proofs.YtocaohipfiapkaaGreatDoor.Ab
set_option linter.unusedVariables false
set_option linter.unusedSimpArgs false
open Go.RowKit
attribute [local irreducible] AWP AOps AExit AThen ABlock ANoGoto FeetOk
/-- What was gathered, ahead of what is gathered yet. -/
def accP (acc : List Tree) (L : List Tree × Int) : List Tree × Int := if L.2 ≠ 0 then ([], L.2) else (acc ++ L.1, 0)
theorem oB {acc : List Tree} {R : Tree × Int} {L : List Tree × Int} (h : R.2 = 0) : accP acc (consP R L) = accP (acc ++ [R.1]) L := by
  by_cases h2 : L.2 = 0
  · simp [consP, accP, h, h2]
  · simp [consP, accP, h, h2]
theorem rP {acc : List Tree} {R : Tree × Int} {L : List Tree × Int} (h : R.2 ≠ 0) : accP acc (consP R L) = ([], R.2) := by
  simp [consP, accP, h]
theorem rQ (acc : List Tree) : accP acc ([], 0) = (acc, 0) := by
  unfold accP
  simp
theorem oC (L : List Tree × Int) (h : L.2 ≠ 0 → L.1 = []) : accP [] L = L := by
  obtain ⟨l, e⟩ := L
  unfold accP
  dsimp only at *
  by_cases h2 : e = 0
  · simp [h2]
  · rw [if_pos h2, h h2]
theorem nC (t : Tree) (ts : List Tree) : shiftsP (t :: ts) = consP (shiftP t 1 0) (shiftsP ts) := by rw [shiftsP]; rfl
theorem wX : ∀ ts : List Tree, (shiftsP ts).2 ≠ 0 → (shiftsP ts).1 = []
  | [], h => absurd rfl h
  | t :: ts, h => by
    rw [nC] at h ⊢
    unfold consP at h ⊢
    split
    · rfl
    · rename_i h1
      rw [if_neg h1] at h
      split
      · rfl
      · rename_i h2; rw [if_neg h2] at h; exact absurd rfl h
set_option maxHeartbeats 8000000 in
set_option maxRecDepth 10000 in
theorem aCH (ks ts : List Tree) (T : Tree) (hT : T.whole = true) (hl : ts.length ≤ 900000) :
    ACalls Tryz.prog 75 [.imm (cIV ks ts), .imm T.iv] [] (.imm (cIV ks (T :: ts))) [] := by
  obtain ⟨pt, hpt⟩ := bR (bJ hT)
  have c1 := rM true pt false ts.length (Tree.ivs ts) hl (dG ts)
  unfold cIV
  rw [Tree.ivs, hpt, List.length_cons, Nat.add_comm ts.length 1]
  generalize Tree.ivs ks = KI at *
  generalize Tree.ivs ts = TI at *
  generalize ks.length = kl at *
  generalize ts.length = tl at *
  refine aH Tryz.func75 rfl rfl (nb rfl) rfl ?_
  repeat' (first | refine aE ?_ | (refine aG ?_;  first | refine aB tabOk rfl rfl rfl (nb rfl) rfl ?_ | refine aD rfl rfl (nb rfl) rfl rfl rfl rfl (c1) ?_ | refine bS tabOk rfl rfl rfl (nb rfl) rfl rfl rfl rfl rfl rfl rfl rfl rfl ?_ | refine aT tabOk rfl rfl (nb rfl) rfl ?_ | refine cL tabOk rfl rfl rfl (nb rfl) rfl rfl rfl rfl rfl rfl ?_ | refine bG tabOk rfl rfl rfl rfl rfl rfl rfl rfl rfl rfl rfl ?_) | (refine aK ?_;  first | refine aF ?_ | refine aL ?_ | refine aM ?_ | refine aQ mixed (by kernel_rfl) ?_) | (refine aJ ?_;  first | refine aU ?_) | refine bC (aZ (by kernel_rfl)) ?_)
  all_goals (refine aO (by first | exact .inl rfl | exact .inr rfl) (aW rfl (jE rfl rfl (tabOk _ _ rfl).1 rfl rfl)) rfl ?_; rfl)
set_option maxHeartbeats 16000000 in
set_option maxRecDepth 10000 in
theorem aAs (ks ts : List Tree) (K : Tree) (hK : K.whole = true) (hkl : ks.length ≤ 900000) (hl : ts.length ≤ 900000) (ht : ∀ T ∈ ts, T.whole = true ∧ T.size ≤ 100000000) :
    ACalls Tryz.prog 74 [.imm (cIV ks ts), .imm K.iv] [] (.imm (.tup [if (shiftsP ts).2 ≠ 0 then cIV ks ts else cIV (K :: ks) (shiftsP ts).1, .lit (.int .i64 (shiftsP ts).2)])) [] := by
  obtain ⟨pk, hpk⟩ := bR (bJ hK)
  have c1 := rM true pk false ks.length (Tree.ivs ks) hkl (dG ks)
  have hQ0 := oC (shiftsP ts) (wX ts)
  have hQl : (shiftsP ts).2 = 0 → (shiftsP ts).1.length = ts.length := fun h => (fU ts h).1
  generalize hQ : shiftsP ts = Q at *
  unfold cIV
  rw [Tree.ivs, hpk, List.length_cons, Nat.add_comm ks.length 1]
  generalize Tree.ivs ks = KI at *
  generalize ks.length = kl at *
  refine cK Tryz.func74 rfl rfl (nb rfl) rfl ?_
  repeat' (first | refine aE ?_ | (refine aG ?_;  first | refine aB tabOk rfl rfl rfl (nb rfl) rfl ?_ | refine eP (d := 17) tabOk rfl rfl rfl (nb rfl) rfl rfl rfl rfl rfl ?_ | refine aD rfl rfl (nb rfl) rfl rfl rfl rfl (c1) ?_ | refine bS tabOk rfl rfl rfl (nb rfl) rfl rfl rfl rfl rfl rfl rfl rfl rfl ?_ | refine aT tabOk rfl rfl (nb rfl) rfl ?_ | refine cL tabOk rfl rfl rfl (nb rfl) rfl rfl rfl rfl rfl rfl ?_ | refine bG tabOk rfl rfl rfl rfl rfl rfl rfl rfl rfl rfl rfl ?_) | (refine aK ?_;  first | refine aF ?_ | refine aL ?_ | refine aR ?_))
  refine cP (fH (h0 := 6) (k0 := 1) 500 25 1 rfl rfl (by simp) rfl rfl) ?_
  refine bZ (ι := {p : Nat × List Tree // p.1 ≤ ts.length ∧ p.2.length = p.1 ∧ accP p.2 (shiftsP (ts.drop p.1)) = Q}) (fun p => S.f ⟨[(21, .imm (.lit (.int .i64 (p.1.1 : Int)))), (20, .imm (.lit (.int .i64 (ts.length : Int)))), (19, .imm (.sl false ts.length (Tree.ivs ts))), (2, .imm (.ptr [.sl false kl KI, .sl false ts.length (Tree.ivs ts)] 0)), (6, .obj 6 0), (4, .obj 4 0)], [(500, .arr 25 1 p.1.1 (Tree.ivs p.1.2)), (6, .cells [.imm (.sl false (1 + kl) (.ptr pk 0 :: KI)), .ref 500 p.1.1]), (4, .cells [.imm (.lit (.slice none 0 0)), .imm (.lit (.slice none 0 0))])]⟩) (fun p => ts.length - p.1.1) ⟨(0, []), Nat.zero_le _, rfl, by rw [List.drop_zero, hQ]; exact hQ0⟩ (bT (by repeat' first | exact trivial | refine ⟨rfl, ?_⟩) (by repeat' first | exact trivial | refine ⟨rfl, ?_⟩)) ?_
  clear hQ0
  rintro ⟨⟨j, acc⟩, hj, hal, hac⟩
  dsimp only at hj hal hac ⊢
  by_cases hlt : j < ts.length
  · have hget := cC ts j hlt
    have hm := ht _ (List.getElem_mem hlt)
    have c2 := pP ts[j] 1 0 hm.2
    rw [List.drop_eq_getElem_cons hlt, nC] at hac
    have hsf := eC ts[j] 1 0
    generalize shiftP ts[j] 1 0 = R at *
    obtain ⟨R1, R2⟩ := R
    dsimp only at *
    by_cases h0 : R2 = 0
    · rw [oB h0] at hac
      obtain ⟨g1, _, _⟩ := hsf h0
      obtain ⟨pr, hpr⟩ := bR (bJ g1)
      subst h0
      rw [hpr] at c2
      have hnx : Tree.ivs (acc ++ [R1]) = Tree.ivs acc ++ [.ptr pr 0] := by rw [dC, dC, List.map_append, List.map_cons, hpr]; rfl
      have hil := dG acc
      rw [hal] at hil
      generalize hAI : Tree.ivs acc = AI at *
      clear ht hsf
      repeat' (first | refine aE ?_ | (refine aG ?_;  first | refine aB tabOk rfl rfl rfl (nb rfl) rfl ?_ | (refine aI rfl rfl rfl (nb rfl) rfl rfl rfl (fun hq => ?_) (fun hq => ?_) <;> (first | (simp only [sD, sE, sB, sC, sN, sM, sT, sF] at hq; try (exfalso; omega)) | skip)) | refine bA tabOk rfl rfl rfl (nb rfl) rfl rfl rfl hget ?_ | refine aD rfl rfl (nb rfl) rfl rfl rfl rfl (c2) ?_ | refine cI tabOk rfl rfl rfl (nb rfl) rfl rfl rfl rfl rfl rfl rfl (by first | omega | decide) rfl (by first | omega | (dsimp only; omega)) (by first | omega | (dsimp only; omega)) ?_ | refine bO rfl rfl rfl (nb rfl) rfl rfl (by omega) ?_ | refine bS tabOk rfl rfl rfl (nb rfl) rfl rfl rfl rfl rfl rfl rfl rfl rfl ?_ | refine bK tabOk rfl rfl rfl (nb rfl) rfl rfl rfl rfl ?_ | refine bG tabOk rfl rfl rfl rfl rfl rfl rfl rfl rfl rfl rfl ?_ | refine bB tabOk rfl rfl rfl (nb rfl) rfl rfl rfl rfl (by first | assumption | omega) ?_) | (refine aK ?_;  first | refine aF ?_ | refine aL ?_ | refine bD ?_ | refine aR ?_ | refine aS ?_ | refine aC (b := true) rfl (fun _ => ?_) nTf | refine aC (b := false) rfl nFt (fun _ => ?_)) | (refine aJ ?_;  first | refine aU ?_) | (refine aP ?_;  first | refine bM ?_))
      all_goals first
        | (exfalso; omega)
        | exact absurd rfl (by assumption)
        | (refine ⟨⟨(j + 1, acc ++ [R1]), hlt, by rw [List.length_append, hal]; rfl, hac⟩, (by show ts.length - (j + 1) < ts.length - j; omega), ?_⟩; dsimp only; rw [hnx]; exact (bT (by repeat' first | exact trivial | refine ⟨rfl, ?_⟩) (by repeat' first | exact trivial | refine ⟨rfl, ?_⟩)))
    · rw [rP h0] at hac
      generalize R1.iv = ri at *
      subst hac
      dsimp only
      rw [if_pos h0]
      clear ht hsf
      generalize Tree.ivs acc = AI at *
      repeat' (first | refine aE ?_ | (refine aG ?_;  first | refine aB tabOk rfl rfl rfl (nb rfl) rfl ?_ | (refine aI rfl rfl rfl (nb rfl) rfl rfl rfl (fun hq => ?_) (fun hq => ?_) <;> (first | (simp only [sD, sE, sB, sC, sN, sM, sT, sF] at hq; try (exfalso; omega)) | skip)) | refine bA tabOk rfl rfl rfl (nb rfl) rfl rfl rfl hget ?_ | refine aD rfl rfl (nb rfl) rfl rfl rfl rfl (c2) ?_ | refine bG tabOk rfl rfl rfl rfl rfl rfl rfl rfl rfl rfl rfl ?_ | refine bB tabOk rfl rfl rfl (nb rfl) rfl rfl rfl rfl (by first | assumption | omega) ?_) | (refine aK ?_;  first | refine aF ?_ | refine aL ?_ | refine aR ?_ | refine aM ?_ | refine aS ?_ | refine aC (b := true) rfl (fun _ => ?_) nTf) | (refine aJ ?_;  first | refine aU ?_ | refine aN ?_) | (refine aP ?_;  first | refine aX ?_))
      all_goals first
        | (exfalso; omega)
        | exact absurd rfl (by assumption)
        | (refine cN (aO (by first | exact .inl rfl | exact .inr rfl) (aV rfl (jE rfl rfl (tabOk _ _ rfl).1 rfl rfl) (aA rfl)) rfl ?_); rfl)
  · have ej : j = ts.length := by omega
    subst ej
    rw [List.drop_length, show shiftsP [] = ([], 0) from rfl, rQ] at hac
    subst hac
    dsimp only
    rw [if_neg (by simp), hal]
    generalize Tree.ivs acc = AI at *
    generalize Tree.ivs ts = TI at *
    clear ht
    repeat' (first | refine aE ?_ | (refine aG ?_;  first | refine aB tabOk rfl rfl rfl (nb rfl) rfl ?_ | (refine aI rfl rfl rfl (nb rfl) rfl rfl rfl (fun hq => ?_) (fun hq => ?_) <;> (first | (simp only [sD, sE, sB, sC, sN, sM, sT, sF] at hq; try (exfalso; omega)) | skip)) | refine bK tabOk rfl rfl rfl (nb rfl) rfl rfl rfl rfl ?_ | refine bG tabOk rfl rfl rfl rfl rfl rfl rfl rfl rfl rfl rfl ?_) | (refine aK ?_;  first | refine aF ?_ | refine aL ?_ | refine aM ?_ | refine bQ ?_ | refine aC (b := false) rfl nFt (fun _ => ?_)) | (refine aJ ?_;  first | refine aU ?_ | refine bH ?_) | (refine aP ?_;  first | refine bE ?_))
    all_goals first
      | (exfalso; omega)
      | exact absurd rfl (by assumption)
      | (refine dS ((Imp.of_le (σ' := S.f ⟨[(4, .obj 4 0), (5, .imm (.lit (.int .i64 0)))], [(500, .arr 25 1 ts.length AI), (4, .cells [.imm (.sl false (1 + kl) (.ptr pk 0 :: KI)), .ref 500 ts.length])]⟩) (bT (by repeat' first | exact trivial | refine ⟨rfl, ?_⟩) (by repeat' first | exact trivial | refine ⟨rfl, ?_⟩))).trans (cM (g := 500) rfl (by repeat' first | exact trivial | exact fun _ => rfl | refine ⟨?_, ?_⟩) (by repeat' first | exact trivial | exact fun _ => rfl | refine ⟨?_, ?_⟩))) ?_
         refine aO (by first | exact .inl rfl | exact .inr rfl) (aV rfl (jE rfl rfl (tabOk _ _ rfl).1 rfl rfl) (aA rfl)) rfl ?_; rfl)
end Go.Proofs.YtocaohipfiapkaaGreatDoor.Ab
namespace Go.Proofs.YtocaohipfiapkaaGreatDoor.Ab
set_option linter.unusedVariables false
set_option linter.unusedSimpArgs false
open Go.RowKit
attribute [local irreducible] AWP AOps AExit AThen ABlock ANoGoto FeetOk
/-- Each has one part. -/
def onePart (kids : List Tree) : Prop := ∀ t ∈ kids, ∃ k' n' a' b' c, t = .node k' n' a' b' [c] ∧ c.whole = true
def partR (kids : List Tree) (a : ByteArray) : IV := match partP kids a with
  | none => .tup [.lit (.pointer none), .lit (.bool false)]
  | some p => .tup [p.iv, .lit (.bool true)]
set_option maxHeartbeats 8000000 in
set_option maxRecDepth 10000 in
theorem aCI (k n : Int) (a b : ByteArray) (kids : List Tree) (l : ByteArray) (hl : kids.length ≤ 100000000) (hp : onePart kids) :
    ACalls Tryz.prog 124 [.imm (Tree.iv (.node k n a b kids)), .imm (.lit (.string l))] [] (.imm (partR kids l)) [] := by
  generalize hQ : partR kids l = Q
  refine aH Tryz.func124 rfl rfl (nb rfl) rfl ?_
  repeat' (first | refine aE ?_ | (refine aG ?_;  first | refine aB tabOk rfl rfl rfl (nb rfl) rfl ?_ | refine aT tabOk rfl rfl (nb rfl) rfl ?_) | (refine aK ?_;  first | refine aF ?_ | refine aL ?_ | refine aR ?_))
  refine bZ (ι := {j : Nat // j ≤ kids.length ∧ partR (kids.drop j) l = Q}) (fun j => S.f ⟨[(13, .imm (.lit (.int .i64 (j.1 : Int)))), (12, .imm (.lit (.int .i64 (kids.length : Int)))), (11, .imm (.sl false kids.length (Tree.ivs kids))), (1, .imm (.lit (.string l)))], []⟩) (fun j => kids.length - j.1) ⟨0, Nat.zero_le _, hQ⟩ (bT (by repeat' first | exact trivial | refine ⟨rfl, ?_⟩) (by repeat' first | exact trivial | refine ⟨rfl, ?_⟩)) ?_
  clear hQ
  rintro ⟨j, hj, hQ⟩
  dsimp only
  by_cases hlt : j < kids.length
  · have hget := cC kids j hlt
    obtain ⟨k', n', a', b', c, e, hcw⟩ := hp _ (List.getElem_mem hlt)
    obtain ⟨pc, hpc⟩ := bR (bJ hcw)
    rw [List.drop_eq_getElem_cons hlt, e] at hQ
    rw [e, Tree.iv, Tree.ivs, Tree.ivs, hpc] at hget
    unfold partR at hQ
    rw [partP, Tree.name] at hQ
    change _ = some (IV.ptr [.lit (.int .i64 k'), .lit (.int .i64 n'), .lit (.string a'), .lit (.string b'), .sl false 1 [.ptr pc 0]] 0) at hget
    clear hp
    by_cases h : a'.toList = l.toList
    · rw [if_pos (by unfold eqB; exact beq_iff_eq.2 h), show kid0 (.node k' n' a' b' [c]) = c from rfl] at hQ
      dsimp only at hQ
      rw [hpc] at hQ
      subst hQ
      repeat' (first | refine aE ?_ | (refine aG ?_;  first | refine aB tabOk rfl rfl rfl (nb rfl) rfl ?_ | (refine aI rfl rfl rfl (nb rfl) rfl rfl rfl (fun hq => ?_) (fun hq => ?_) <;> (first | (simp only [sD, sE, sB, sC, sN, sM, sT, sF] at hq; try (exfalso; omega)) | skip)) | refine bA tabOk rfl rfl rfl (nb rfl) rfl rfl rfl hget ?_ | refine bO rfl rfl rfl (nb rfl) rfl rfl (by omega) ?_ | refine bB tabOk rfl rfl rfl (nb rfl) rfl rfl rfl rfl (by first | assumption | omega) ?_ | refine aY tabOk rfl rfl rfl (nb rfl) rfl rfl rfl rfl (by first | rfl | omega) (by first | omega | simp) ?_) | (refine aK ?_;  first | refine aF ?_ | refine aL ?_ | refine bD ?_ | refine aR ?_ | refine aM ?_ | refine aS ?_ | refine aC (b := true) rfl (fun _ => ?_) nTf | refine aC (b := false) rfl nFt (fun _ => ?_)) | (refine aJ ?_;  first | refine aU ?_ | refine aN ?_) | (refine aP ?_;  first | refine bM ?_ | refine aX ?_))
      all_goals first
        | (exfalso; omega)
        | exact absurd h (by assumption)
        | (refine aO (by first | exact .inl rfl | exact .inr rfl) (aV rfl (aA rfl) (aA rfl)) rfl ?_; rfl)
    · rw [if_neg (show ¬ eqB a' l = true from fun h2 => h (beq_iff_eq.1 h2))] at hQ
      repeat' (first | refine aE ?_ | (refine aG ?_;  first | refine aB tabOk rfl rfl rfl (nb rfl) rfl ?_ | (refine aI rfl rfl rfl (nb rfl) rfl rfl rfl (fun hq => ?_) (fun hq => ?_) <;> (first | (simp only [sD, sE, sB, sC, sN, sM, sT, sF] at hq; try (exfalso; omega)) | skip)) | refine bA tabOk rfl rfl rfl (nb rfl) rfl rfl rfl hget ?_ | refine bO rfl rfl rfl (nb rfl) rfl rfl (by omega) ?_ | refine bB tabOk rfl rfl rfl (nb rfl) rfl rfl rfl rfl (by first | assumption | omega) ?_ | refine aY tabOk rfl rfl rfl (nb rfl) rfl rfl rfl rfl (by first | rfl | omega) (by first | omega | simp) ?_) | (refine aK ?_;  first | refine aF ?_ | refine aL ?_ | refine bD ?_ | refine aR ?_ | refine aM ?_ | refine aS ?_ | refine aC (b := true) rfl (fun _ => ?_) nTf | refine aC (b := false) rfl nFt (fun _ => ?_)) | (refine aJ ?_;  first | refine aU ?_ | refine aN ?_) | (refine aP ?_;  first | refine bM ?_ | refine aX ?_))
      all_goals first
        | (exfalso; omega)
        | exact absurd (by assumption) h
        | exact ⟨⟨j + 1, hlt, hQ⟩, (by show kids.length - (j + 1) < kids.length - j; omega), (bT (by repeat' first | exact trivial | refine ⟨rfl, ?_⟩) (by repeat' first | exact trivial | refine ⟨rfl, ?_⟩))⟩
  · have ej : j = kids.length := by omega
    subst ej
    rw [List.drop_length] at hQ
    unfold partR at hQ
    rw [partP] at hQ
    subst hQ
    generalize Tree.ivs kids = Z at *
    repeat' (first | refine aE ?_ | (refine aG ?_;  first | refine aB tabOk rfl rfl rfl (nb rfl) rfl ?_ | (refine aI rfl rfl rfl (nb rfl) rfl rfl rfl (fun hq => ?_) (fun hq => ?_) <;> (first | (simp only [sD, sE, sB, sC, sN, sM, sT, sF] at hq; try (exfalso; omega)) | skip))) | (refine aK ?_;  first | refine aF ?_ | refine aL ?_ | refine aM ?_ | refine bQ ?_ | refine aC (b := false) rfl nFt (fun _ => ?_)) | (refine aJ ?_;  first | refine aU ?_ | refine bH ?_) | (refine aP ?_;  first | refine bE ?_))
    all_goals first
      | (exfalso; omega)
      | (refine aO (by first | exact .inl rfl | exact .inr rfl) (aV rfl (aA rfl) (aA rfl)) rfl ?_; rfl)
set_option maxHeartbeats 4000000 in
set_option maxRecDepth 10000 in
theorem aCJ (s t : Tree) (pt : List IV) (hpt : t.iv = .ptr pt 0) (hs : s.whole = true) (ht : t.whole = true) (hs1 : s.size ≤ 100000000) (ht1 : t.size ≤ 100000000) :
    ACalls Tryz.prog 143 [.imm s.iv, .obj 1001 0] [(1001, .cells [.imm (.ptr pt 0)])] (.imm (.lit (.bool (!sameP s t)))) [(1001, .cells [.imm (.ptr pt 0)])] := by
  have c1 := iQ s t (.inr hs) (.inr ht) hs1 ht1
  rw [hpt] at c1
  generalize sameP s t = q at *
  generalize s.iv = si at *
  refine bX [1001] Tryz.func143 rfl rfl (nb rfl) rfl rfl ?_
  repeat' (first | refine aE ?_ | (refine aG ?_;  first | refine aB tabOk rfl rfl rfl (nb rfl) rfl ?_ | refine aD rfl rfl (nb rfl) rfl rfl rfl rfl (c1) ?_ | refine bK tabOk rfl rfl rfl (nb rfl) rfl rfl rfl rfl ?_) | (refine aK ?_;  first | refine aF ?_ | refine aM ?_))
  all_goals (refine cB (cA (by first | exact .inl rfl | exact .inr rfl) (aW rfl (aA rfl)) rfl (by repeat' first | exact trivial | refine ⟨rfl, ?_⟩) rfl ?_); rfl)
set_option maxHeartbeats 4000000 in
set_option maxRecDepth 10000 in
theorem aAt (l : List Tree) (t : Tree) (hl : l.length ≤ 100000000) (hs : ∀ s ∈ l, s.whole = true ∧ s.size ≤ 100000000) (ht : t.whole = true) (ht1 : t.size ≤ 100000000) :
    ACalls Tryz.prog 128 [.imm (.sl false l.length (Tree.ivs l)), .imm t.iv] [] (.imm (.tup [(alikeP l t).1.iv, .lit (.int .i64 (alikeP l t).2)])) [] := by
  obtain ⟨pt, hpt⟩ := bR (bJ ht)
  have hc := jC l 143 (.ptr pt 0) (fun s => !sameP s t) (by omega) fun j h => aCJ _ t pt hpt (hs _ (List.getElem_mem h)).1 ht (hs _ (List.getElem_mem h)).2 ht1
  unfold alikeP
  generalize (l.any fun s => !sameP s t) = q at *
  rw [hpt]
  generalize Tree.ivs l = LI at *
  cases q with
  | true =>
    rw [if_pos rfl]
    refine aH Tryz.func128 rfl rfl (nb rfl) rfl ?_
    repeat' (first | refine aE ?_ | (refine aG ?_;  first | refine aB tabOk rfl rfl rfl (nb rfl) rfl ?_ | refine cH 1001 (d := 3) rfl rfl rfl (nb rfl) rfl rfl rfl rfl rfl rfl rfl ?_ | refine bW rfl rfl (nb rfl) rfl rfl rfl rfl hc (by repeat' first | exact trivial | refine ⟨rfl, ?_⟩) rfl (by show ([1001] : List Nat).Nodup; decide) ?_) | (refine aK ?_;  first | refine aF ?_ | refine aL ?_ | refine aM ?_ | refine aC (b := true) rfl (fun _ => ?_) nTf) | (refine aJ ?_;  first | refine aN ?_))
    all_goals first
      | exact absurd rfl (by assumption)
      | (refine aO (by first | exact .inl rfl | exact .inr rfl) (aV rfl (aA rfl) (aA rfl)) rfl ?_; rfl)
  | false =>
    rw [if_neg (by simp)]
    dsimp only
    rw [hpt]
    refine aH Tryz.func128 rfl rfl (nb rfl) rfl ?_
    repeat' (first | refine aE ?_ | (refine aG ?_;  first | refine aB tabOk rfl rfl rfl (nb rfl) rfl ?_ | refine cH 1001 (d := 3) rfl rfl rfl (nb rfl) rfl rfl rfl rfl rfl rfl rfl ?_ | refine bW rfl rfl (nb rfl) rfl rfl rfl rfl hc (by repeat' first | exact trivial | refine ⟨rfl, ?_⟩) rfl (by show ([1001] : List Nat).Nodup; decide) ?_ | refine bK tabOk rfl rfl rfl (nb rfl) rfl rfl rfl rfl ?_) | (refine aK ?_;  first | refine aF ?_ | refine aL ?_ | refine aM ?_ | refine aS ?_ | refine aC (b := false) rfl nFt (fun _ => ?_)) | (refine aJ ?_;  first | refine aU ?_))
    all_goals first
      | exact absurd rfl (by assumption)
      | (refine aO (by first | exact .inl rfl | exact .inr rfl) (aV rfl (aA rfl) (aA rfl)) rfl ?_; rfl)
set_option maxHeartbeats 4000000 in
set_option maxRecDepth 10000 in
theorem aDI (s t : Tree) (hs : s.whole = true) (ht : t.whole = true) : ACalls Tryz.prog 142 [.imm s.iv, .imm t.iv] [] (.imm (.lit (.bool (eqB s.name t.name)))) [] := by
  obtain ⟨k, n, a, b, ks, rfl⟩ := bY hs
  obtain ⟨k', n', a', b', ks', rfl⟩ := bY ht
  rw [Tree.name, Tree.name, Tree.iv, Tree.iv]
  generalize Tree.ivs ks = Z at *
  generalize Tree.ivs ks' = Z' at *
  by_cases h : a.toList = a'.toList
  · rw [show eqB a a' = true from beq_iff_eq.2 h]
    refine aH Tryz.func142 rfl rfl (nb rfl) rfl ?_
    repeat' (first | refine aE ?_ | (refine aG ?_;  first | refine aB tabOk rfl rfl rfl (nb rfl) rfl ?_ | (refine aI rfl rfl rfl (nb rfl) rfl rfl rfl (fun hq => ?_) (fun hq => ?_) <;> (first | (simp only [sD, sE, sB, sC, sN, sM, sT, sF] at hq; try (exfalso; omega)) | skip))) | (refine aK ?_;  first | refine aF ?_ | refine aL ?_ | refine aM ?_ | refine aQ mixed (by kernel_rfl) ?_) | (refine aJ ?_;  first | refine aU ?_) | refine bC (aZ (by kernel_rfl)) ?_)
    all_goals first
      | exact absurd h (by assumption)
      | (refine aO (by first | exact .inl rfl | exact .inr rfl) (aW rfl (aA rfl)) rfl ?_; rfl)
  · have e : eqB a a' = false := by rw [Bool.eq_false_iff]; exact fun h2 => h (beq_iff_eq.1 h2)
    rw [e]
    refine aH Tryz.func142 rfl rfl (nb rfl) rfl ?_
    repeat' (first | refine aE ?_ | (refine aG ?_;  first | refine aB tabOk rfl rfl rfl (nb rfl) rfl ?_ | (refine aI rfl rfl rfl (nb rfl) rfl rfl rfl (fun hq => ?_) (fun hq => ?_) <;> (first | (simp only [sD, sE, sB, sC, sN, sM, sT, sF] at hq; try (exfalso; omega)) | skip))) | (refine aK ?_;  first | refine aF ?_ | refine aL ?_ | refine aM ?_ | refine aQ mixed (by kernel_rfl) ?_) | (refine aJ ?_;  first | refine aU ?_) | refine bC (aZ (by kernel_rfl)) ?_)
    all_goals first
      | exact absurd (by assumption) h
      | (refine aO (by first | exact .inl rfl | exact .inr rfl) (aW rfl (aA rfl)) rfl ?_; rfl)
theorem pB : ∀ l l' : List Tree, namesEq l l' = zipP (fun s t => eqB s.name t.name) l l'
  | [], [] => by simp [namesEq, zipP]
  | t :: ts, u :: us => by simp [namesEq, zipP, pB ts us]
  | [], _ :: _ => by simp [namesEq, zipP]
  | _ :: _, [] => by simp [namesEq, zipP]
theorem aDJ (l l' : List Tree) (hl : l.length ≤ 100000000) (hl' : l'.length ≤ 100000000) (h : ∀ t ∈ l, t.whole = true) (h' : ∀ t ∈ l', t.whole = true) :
    ACalls Tryz.prog 23 [.imm (.sl false l.length (Tree.ivs l)), .imm (.sl false l'.length (Tree.ivs l')), .imm (.func 142 [] [])] [] (.imm (.lit (.bool (namesEq l l')))) [] := by
  rw [pB]
  exact lH l l' _ (fun s t => eqB s.name t.name) (by omega) (by omega) fun i hi hk => aDI _ _ (h _ (List.getElem_mem hi)) (h' _ (List.getElem_mem hk))
/-- The method for a term. -/
def ruleF (k : Int) : FuncId :=
  if k = 134 then 97 else if k = 135 then 98 else if k = 136 then 99 else if k = 138 then 100
  else if k = 140 then 101 else if k = 141 then 102 else if k = 142 then 103 else if k = 144 then 104
  else if k = 145 then 105 else if k = 146 then 106 else if k = 147 then 107 else 108
set_option maxHeartbeats 8000000 in
set_option maxRecDepth 10000 in
theorem aEi (k n : Int) (a b : ByteArray) (kids : List Tree) : ACalls Tryz.prog 76 [.imm (Tree.iv (.node k n a b kids))] [] (.imm (.func (ruleF k) [] [])) [] := by
  generalize hF : ruleF k = F
  unfold ruleF at hF
  rw [Tree.iv]
  generalize Tree.ivs kids = Z at *
  refine aH Tryz.func76 rfl rfl (nb rfl) rfl ?_
  repeat' (first | refine aE ?_ | (refine aG ?_;  first | refine aB tabOk rfl rfl rfl (nb rfl) rfl ?_ | (refine aI rfl rfl rfl (nb rfl) rfl rfl rfl (fun hq => ?_) (fun hq => ?_) <;> (first | (simp only [sD, sE, sB, sC, sN, sM, sT, sF] at hq; try (exfalso; omega)) | skip))) | (refine aK ?_;  first | refine aF ?_ | refine aL ?_ | refine aR ?_ | refine aM ?_ | refine aS ?_ | refine aC (b := true) rfl (fun _ => ?_) nTf | refine aC (b := false) rfl nFt (fun _ => ?_)) | (refine aJ ?_;  first | refine aU ?_ | refine aN ?_) | (refine aP ?_;  first | refine bM ?_ | refine aX ?_))
  all_goals (simp_all; first | (subst hF; refine aO (by first | exact .inl rfl | exact .inr rfl) (aW rfl (aA rfl)) rfl ?_; rfl) | (refine aO (by first | exact .inl rfl | exact .inr rfl) (aW rfl (aA rfl)) rfl ?_; simp_all))
end Go.Proofs.YtocaohipfiapkaaGreatDoor.Ab
namespace Go.Proofs.YtocaohipfiapkaaGreatDoor.Ab
set_option linter.unusedVariables false
set_option linter.unusedSimpArgs false
open Go.RowKit
attribute [local irreducible] AWP AOps AExit AThen ABlock ANoGoto FeetOk
theorem vA (k : Int) {x y : Tree} {px py : List IV} (hx : x.iv = .ptr px 0) (hy : y.iv = .ptr py 0) : (tyT k [x, y]).iv = .ptr [.lit (.int .i64 k), .lit (.int .i64 0), .lit (.string ⟨#[]⟩), .lit (.string ⟨#[]⟩), .sl false 2 [.ptr px 0, .ptr py 0]] 0 := by
  unfold tyT
  rw [Tree.iv, Tree.ivs, Tree.ivs, Tree.ivs, hx, hy]
  rfl
theorem dQ (k n : Int) (a b : ByteArray) {x y : Tree} {px py : List IV} (hx : x.iv = .ptr px 0) (hy : y.iv = .ptr py 0) : (Tree.node k n a b [x, y]).iv = .ptr [.lit (.int .i64 k), .lit (.int .i64 n), .lit (.string a), .lit (.string b), .sl false 2 [.ptr px 0, .ptr py 0]] 0 := by
  rw [Tree.iv, Tree.ivs, Tree.ivs, Tree.ivs, hx, hy]
  rfl
theorem iF (k n : Int) (a b : ByteArray) {x : Tree} {px : List IV} (hx : x.iv = .ptr px 0) : (Tree.node k n a b [x]).iv = .ptr [.lit (.int .i64 k), .lit (.int .i64 n), .lit (.string a), .lit (.string b), .sl false 1 [.ptr px 0]] 0 := by
  rw [Tree.iv, Tree.ivs, Tree.ivs, hx]
  rfl
theorem wY (k n : Int) (a b : ByteArray) {x y z : Tree} {px py pz : List IV} (hx : x.iv = .ptr px 0) (hy : y.iv = .ptr py 0) (hz : z.iv = .ptr pz 0) : (Tree.node k n a b [x, y, z]).iv = .ptr [.lit (.int .i64 k), .lit (.int .i64 n), .lit (.string a), .lit (.string b), .sl false 3 [.ptr px 0, .ptr py 0, .ptr pz 0]] 0 := by
  rw [Tree.iv, Tree.ivs, Tree.ivs, Tree.ivs, Tree.ivs, hx, hy, hz]
  rfl
theorem vB {R : Tree × Int} {k : Int} (h : (asP R k).2 = 0) : asP R k = R := by
  unfold asP at h ⊢
  split at h
  · cases h
  · rename_i h1; rw [if_neg h1]
/-- A type that was told. -/
def fineW (R : Tree × Int) : Prop := R.2 = 0 → R.1.whole = true ∧ R.1.size ≤ 100000000
def fineT (R : Tree × Int) : Prop := R.2 = 0 → isConP R.1 = true ∧ R.1.whole = true ∧ R.1.size ≤ 100000000
theorem dL {R : Tree × Int} (h : fineT R) : fineW R := fun h0 => (h h0).2
section
variable (kl tl : Nat) (KI TI : List IV)
set_option maxHeartbeats 8000000 in
set_option maxRecDepth 10000 in
theorem aEE (C2 : IV) (k n : Int) (a b : ByteArray) (T y : Tree) (hT : T.whole = true) (hy : y.whole = true) (A B : Tree × Int) (fA : fineW A) (fB : fineW B)
    (c1 : ACalls Tryz.prog 122 [.imm (IV.agg [.sl false kl KI, .sl false tl TI]), .imm T.iv] [] (.imm (.tup [(A).1.iv, .lit (.int .i64 (A).2)])) [])
    (c2 : A.2 = 0 → ACalls Tryz.prog 75 [.imm (IV.agg [.sl false kl KI, .sl false tl TI]), .imm A.1.iv] [] (.imm C2) [])
    (c3 : A.2 = 0 → ACalls Tryz.prog 45 [.imm C2, .imm y.iv] [] (.imm (.tup [(B).1.iv, .lit (.int .i64 (B).2)])) []) :
    ACalls Tryz.prog 97 [.imm (IV.agg [.sl false kl KI, .sl false tl TI]), .imm (Tree.iv (.node k n a b [T, y]))] [] (.imm (.tup [(lamT1 A B).1.iv, .lit (.int .i64 (lamT1 A B).2)])) [] := by
  obtain ⟨pT, hpT⟩ := bR (bJ hT)
  obtain ⟨py, hpy⟩ := bR (bJ hy)
  rw [dQ k n a b hpT hpy]
  rw [hpT] at c1
  rw [hpy] at c3
  unfold lamT1
  obtain ⟨A1, A2⟩ := A
  obtain ⟨B1, B2⟩ := B
  unfold fineW at fA fB
  dsimp only at *
  by_cases h1 : A2 = 0
  · replace c2 := c2 h1
    replace c3 := c3 h1
    obtain ⟨pa, hpa⟩ := bR (bJ (fA h1).1)
    subst h1
    rw [if_neg (by simp)]
    rw [hpa] at c1 c2
    by_cases h2 : B2 = 0
    · obtain ⟨pb, hpb⟩ := bR (bJ (fB h2).1)
      subst h2
      rw [if_neg (by simp), vA 114 hpa hpb]
      rw [hpb] at c3
      have c4 := aCG 114 pa pb true
      clear fA fB
      refine aH Tryz.func97 rfl rfl (nb rfl) rfl ?_
      repeat' (first | refine aE ?_ | (refine aG ?_;  first | refine aB tabOk rfl rfl rfl (nb rfl) rfl ?_ | (refine aI rfl rfl rfl (nb rfl) rfl rfl rfl (fun hq => ?_) (fun hq => ?_) <;> (first | (simp only [sD, sE, sB, sC, sN, sM, sT, sF] at hq; try (exfalso; omega)) | skip)) | refine aD rfl rfl (nb rfl) rfl rfl rfl rfl (c1) ?_ | refine aD rfl rfl (nb rfl) rfl rfl rfl rfl (c2) ?_ | refine aD rfl rfl (nb rfl) rfl rfl rfl rfl (c3) ?_ | refine aD rfl rfl (nb rfl) rfl rfl rfl rfl (c4) ?_ | refine bS tabOk rfl rfl rfl (nb rfl) rfl rfl rfl rfl rfl rfl rfl rfl rfl ?_ | refine aT tabOk rfl rfl (nb rfl) rfl ?_ | refine aY tabOk rfl rfl rfl (nb rfl) rfl rfl rfl rfl (by first | rfl | omega) (by first | omega | simp) ?_) | (refine aK ?_;  first | refine aF ?_ | refine aL ?_ | refine aM ?_ | refine aS ?_ | refine aC (b := false) rfl nFt (fun _ => ?_) | refine aQ mixed (by kernel_rfl) ?_) | (refine aJ ?_;  first | refine aU ?_) | refine bC (aZ (by kernel_rfl)) ?_)
      all_goals first | (exfalso; omega) | exact absurd rfl (by assumption) | (refine aO (by first | exact .inl rfl | exact .inr rfl) (aV rfl (aA rfl) (aA rfl)) rfl ?_; rfl)
    · rw [if_pos h2]
      generalize B1.iv = bi at *
      clear fA fB
      refine aH Tryz.func97 rfl rfl (nb rfl) rfl ?_
      repeat' (first | refine aE ?_ | (refine aG ?_;  first | refine aB tabOk rfl rfl rfl (nb rfl) rfl ?_ | (refine aI rfl rfl rfl (nb rfl) rfl rfl rfl (fun hq => ?_) (fun hq => ?_) <;> (first | (simp only [sD, sE, sB, sC, sN, sM, sT, sF] at hq; try (exfalso; omega)) | skip)) | refine aD rfl rfl (nb rfl) rfl rfl rfl rfl (c1) ?_ | refine aD rfl rfl (nb rfl) rfl rfl rfl rfl (c2) ?_ | refine aD rfl rfl (nb rfl) rfl rfl rfl rfl (c3) ?_ | refine aT tabOk rfl rfl (nb rfl) rfl ?_ | refine aY tabOk rfl rfl rfl (nb rfl) rfl rfl rfl rfl (by first | rfl | omega) (by first | omega | simp) ?_) | (refine aK ?_;  first | refine aF ?_ | refine aL ?_ | refine aM ?_ | refine aS ?_ | refine aC (b := true) rfl (fun _ => ?_) nTf | refine aC (b := false) rfl nFt (fun _ => ?_) | refine aQ mixed (by kernel_rfl) ?_) | (refine aJ ?_;  first | refine aU ?_ | refine aN ?_) | refine bC (aZ (by kernel_rfl)) ?_)
      all_goals first | (exfalso; omega) | exact absurd rfl (by assumption) | (refine aO (by first | exact .inl rfl | exact .inr rfl) (aV rfl (aA rfl) (aA rfl)) rfl ?_; rfl)
  · rw [if_pos h1]
    generalize A1.iv = ai at *
    clear fA fB c2 c3
    refine aH Tryz.func97 rfl rfl (nb rfl) rfl ?_
    repeat' (first | refine aE ?_ | (refine aG ?_;  first | refine aB tabOk rfl rfl rfl (nb rfl) rfl ?_ | (refine aI rfl rfl rfl (nb rfl) rfl rfl rfl (fun hq => ?_) (fun hq => ?_) <;> (first | (simp only [sD, sE, sB, sC, sN, sM, sT, sF] at hq; try (exfalso; omega)) | skip)) | refine aD rfl rfl (nb rfl) rfl rfl rfl rfl (c1) ?_ | refine aT tabOk rfl rfl (nb rfl) rfl ?_ | refine aY tabOk rfl rfl rfl (nb rfl) rfl rfl rfl rfl (by first | rfl | omega) (by first | omega | simp) ?_) | (refine aK ?_;  first | refine aF ?_ | refine aL ?_ | refine aM ?_ | refine aC (b := true) rfl (fun _ => ?_) nTf | refine aQ mixed (by kernel_rfl) ?_) | (refine aJ ?_;  first | refine aU ?_ | refine aN ?_) | refine bC (aZ (by kernel_rfl)) ?_)
    all_goals first | (exfalso; omega) | exact absurd rfl (by assumption) | (refine aO (by first | exact .inl rfl | exact .inr rfl) (aV rfl (aA rfl) (aA rfl)) rfl ?_; rfl)
set_option maxHeartbeats 8000000 in
set_option maxRecDepth 10000 in
theorem aEF (k n : Int) (a b : ByteArray) (x y : Tree) (hx : x.whole = true) (hy : y.whole = true) (F X : Tree × Int) (fF : fineT F) (fX : fineW X)
    (c1 : ACalls Tryz.prog 45 [.imm (IV.agg [.sl false kl KI, .sl false tl TI]), .imm x.iv] [] (.imm (.tup [(F).1.iv, .lit (.int .i64 (F).2)])) []) (c2 : ACalls Tryz.prog 45 [.imm (IV.agg [.sl false kl KI, .sl false tl TI]), .imm y.iv] [] (.imm (.tup [(X).1.iv, .lit (.int .i64 (X).2)])) []) :
    ACalls Tryz.prog 98 [.imm (IV.agg [.sl false kl KI, .sl false tl TI]), .imm (Tree.iv (.node k n a b [x, y]))] [] (.imm (.tup [(appT1 F X).1.iv, .lit (.int .i64 (appT1 F X).2)])) [] := by
  obtain ⟨px, hpx⟩ := bR (bJ hx)
  obtain ⟨py, hpy⟩ := bR (bJ hy)
  rw [dQ k n a b hpx hpy]
  rw [hpx] at c1
  rw [hpy] at c2
  unfold appT1
  obtain ⟨F1, F2⟩ := F
  obtain ⟨X1, X2⟩ := X
  unfold fineT at fF
  unfold fineW at fX
  dsimp only at *
  by_cases h1 : F2 = 0
  · obtain ⟨f1, f2, f3⟩ := fF h1
    subst h1
    rw [if_neg (by simp)]
    by_cases h2 : X2 = 0
    · obtain ⟨g2, g3⟩ := fX h2
      subst h2
      rw [if_neg (by simp)]
      by_cases hk : F1.kind = 114
      · obtain ⟨n', a', b', u, v, rfl, hu, hv, wu, wv, su, sv⟩ := oZ f1 f2 f3 hk
        have cs := iQ u X1 (.inr wu) (.inr g2) su g3
        have e0 : kid0 (.node 114 n' a' b' [u, v]) = u := rfl
        have e1 : kid1 (.node 114 n' a' b' [u, v]) = v := rfl
        rw [e0, e1]
        obtain ⟨pu, hpu⟩ := bR (bJ wu)
        obtain ⟨pv, hpv⟩ := bR (bJ wv)
        rw [dQ 114 n' a' b' hpu hpv] at c1
        rw [hpu] at cs
        generalize X1.iv = xi at *
        clear fF fX f1 f2 f3 g2 g3
        cases hs : sameP u X1 with
        | true =>
          rw [hs] at cs
          rw [if_neg (by simp [Tree.kind]), hpv]
          refine aH Tryz.func98 rfl rfl (nb rfl) rfl ?_
          repeat' (first | refine aE ?_ | (refine aG ?_;  first | refine aB tabOk rfl rfl rfl (nb rfl) rfl ?_ | (refine aI rfl rfl rfl (nb rfl) rfl rfl rfl (fun hq => ?_) (fun hq => ?_) <;> (first | (simp only [sD, sE, sB, sC, sN, sM, sT, sF] at hq; try (exfalso; omega)) | skip)) | refine aD rfl rfl (nb rfl) rfl rfl rfl rfl (c1) ?_ | refine aD rfl rfl (nb rfl) rfl rfl rfl rfl (c2) ?_ | refine aD rfl rfl (nb rfl) rfl rfl rfl rfl (cs) ?_ | refine aT tabOk rfl rfl (nb rfl) rfl ?_ | refine aY tabOk rfl rfl rfl (nb rfl) rfl rfl rfl rfl (by first | rfl | omega) (by first | omega | simp) ?_) | (refine aK ?_;  first | refine aF ?_ | refine aL ?_ | refine aR ?_ | refine aM ?_ | refine aS ?_ | refine aC (b := false) rfl nFt (fun _ => ?_) | refine aQ mixed (by kernel_rfl) ?_) | (refine aJ ?_;  first | refine aU ?_) | (refine aP ?_;  first | refine bM ?_) | refine bC (aZ (by kernel_rfl)) ?_)
          all_goals first | (exfalso; omega) | exact absurd rfl (by assumption) | (refine aO (by first | exact .inl rfl | exact .inr rfl) (aV rfl (aA rfl) (aA rfl)) rfl ?_; rfl)
        | false =>
          rw [hs] at cs
          rw [if_pos (.inr rfl)]
          refine aH Tryz.func98 rfl rfl (nb rfl) rfl ?_
          repeat' (first | refine aE ?_ | (refine aG ?_;  first | refine aB tabOk rfl rfl rfl (nb rfl) rfl ?_ | (refine aI rfl rfl rfl (nb rfl) rfl rfl rfl (fun hq => ?_) (fun hq => ?_) <;> (first | (simp only [sD, sE, sB, sC, sN, sM, sT, sF] at hq; try (exfalso; omega)) | skip)) | refine aD rfl rfl (nb rfl) rfl rfl rfl rfl (c1) ?_ | refine aD rfl rfl (nb rfl) rfl rfl rfl rfl (c2) ?_ | refine aD rfl rfl (nb rfl) rfl rfl rfl rfl (cs) ?_ | refine aT tabOk rfl rfl (nb rfl) rfl ?_ | refine aY tabOk rfl rfl rfl (nb rfl) rfl rfl rfl rfl (by first | rfl | omega) (by first | omega | simp) ?_) | (refine aK ?_;  first | refine aF ?_ | refine aL ?_ | refine aR ?_ | refine aM ?_ | refine aS ?_ | refine aC (b := true) rfl (fun _ => ?_) nTf | refine aC (b := false) rfl nFt (fun _ => ?_) | refine aQ mixed (by kernel_rfl) ?_) | (refine aJ ?_;  first | refine aU ?_ | refine aN ?_) | (refine aP ?_;  first | refine aX ?_) | refine bC (aZ (by kernel_rfl)) ?_)
          all_goals first | (exfalso; omega) | exact absurd rfl (by assumption) | (refine aO (by first | exact .inl rfl | exact .inr rfl) (aV rfl (aA rfl) (aA rfl)) rfl ?_; rfl)
      · rw [if_pos (.inl hk)]
        obtain ⟨k', n', a', b', ks, rfl⟩ := bY f2
        rw [Tree.kind] at hk
        rw [Tree.iv] at c1
        generalize Tree.ivs ks = Z at *
        generalize X1.iv = xi at *
        clear fF fX f1 f2 f3 g2 g3
        refine aH Tryz.func98 rfl rfl (nb rfl) rfl ?_
        repeat' (first | refine aE ?_ | (refine aG ?_;  first | refine aB tabOk rfl rfl rfl (nb rfl) rfl ?_ | refine bL rfl rfl (nb rfl) ?_ | (refine aI rfl rfl rfl (nb rfl) rfl rfl rfl (fun hq => ?_) (fun hq => ?_) <;> (first | (simp only [sD, sE, sB, sC, sN, sM, sT, sF] at hq; try (exfalso; omega)) | skip)) | refine aD rfl rfl (nb rfl) rfl rfl rfl rfl (c1) ?_ | refine aD rfl rfl (nb rfl) rfl rfl rfl rfl (c2) ?_ | refine aT tabOk rfl rfl (nb rfl) rfl ?_ | refine aY tabOk rfl rfl rfl (nb rfl) rfl rfl rfl rfl (by first | rfl | omega) (by first | omega | simp) ?_) | (refine aK ?_;  first | refine aF ?_ | refine aL ?_ | refine aR ?_ | refine aM ?_ | refine aS ?_ | refine aC (b := true) rfl (fun _ => ?_) nTf | refine aC (b := false) rfl nFt (fun _ => ?_) | refine aQ mixed (by kernel_rfl) ?_) | (refine aJ ?_;  first | refine aU ?_ | refine aN ?_) | (refine aP ?_;  first | refine aX ?_) | refine bC (aZ (by kernel_rfl)) ?_)
        all_goals first | (exfalso; omega) | exact absurd rfl (by assumption) | (refine aO (by first | exact .inl rfl | exact .inr rfl) (aV rfl (aA rfl) (aA rfl)) rfl ?_; rfl)
    · rw [if_pos h2]
      generalize X1.iv = xi at *
      generalize F1.iv = fi at *
      clear fF fX
      refine aH Tryz.func98 rfl rfl (nb rfl) rfl ?_
      repeat' (first | refine aE ?_ | (refine aG ?_;  first | refine aB tabOk rfl rfl rfl (nb rfl) rfl ?_ | (refine aI rfl rfl rfl (nb rfl) rfl rfl rfl (fun hq => ?_) (fun hq => ?_) <;> (first | (simp only [sD, sE, sB, sC, sN, sM, sT, sF] at hq; try (exfalso; omega)) | skip)) | refine aD rfl rfl (nb rfl) rfl rfl rfl rfl (c1) ?_ | refine aD rfl rfl (nb rfl) rfl rfl rfl rfl (c2) ?_ | refine aT tabOk rfl rfl (nb rfl) rfl ?_ | refine aY tabOk rfl rfl rfl (nb rfl) rfl rfl rfl rfl (by first | rfl | omega) (by first | omega | simp) ?_) | (refine aK ?_;  first | refine aF ?_ | refine aL ?_ | refine aR ?_ | refine aM ?_ | refine aS ?_ | refine aC (b := true) rfl (fun _ => ?_) nTf | refine aC (b := false) rfl nFt (fun _ => ?_) | refine aQ mixed (by kernel_rfl) ?_) | (refine aJ ?_;  first | refine aU ?_ | refine aN ?_) | (refine aP ?_;  first | refine aX ?_) | refine bC (aZ (by kernel_rfl)) ?_)
      all_goals first | (exfalso; omega) | exact absurd rfl (by assumption) | (refine aO (by first | exact .inl rfl | exact .inr rfl) (aV rfl (aA rfl) (aA rfl)) rfl ?_; rfl)
  · rw [if_pos h1]
    generalize F1.iv = fi at *
    clear fF fX
    refine aH Tryz.func98 rfl rfl (nb rfl) rfl ?_
    repeat' (first | refine aE ?_ | (refine aG ?_;  first | refine aB tabOk rfl rfl rfl (nb rfl) rfl ?_ | (refine aI rfl rfl rfl (nb rfl) rfl rfl rfl (fun hq => ?_) (fun hq => ?_) <;> (first | (simp only [sD, sE, sB, sC, sN, sM, sT, sF] at hq; try (exfalso; omega)) | skip)) | refine aD rfl rfl (nb rfl) rfl rfl rfl rfl (c1) ?_ | refine aT tabOk rfl rfl (nb rfl) rfl ?_ | refine aY tabOk rfl rfl rfl (nb rfl) rfl rfl rfl rfl (by first | rfl | omega) (by first | omega | simp) ?_) | (refine aK ?_;  first | refine aF ?_ | refine aL ?_ | refine aM ?_ | refine aC (b := true) rfl (fun _ => ?_) nTf | refine aQ mixed (by kernel_rfl) ?_) | (refine aJ ?_;  first | refine aU ?_ | refine aN ?_) | refine bC (aZ (by kernel_rfl)) ?_)
    all_goals first | (exfalso; omega) | exact absurd rfl (by assumption) | (refine aO (by first | exact .inl rfl | exact .inr rfl) (aV rfl (aA rfl) (aA rfl)) rfl ?_; rfl)
set_option maxHeartbeats 8000000 in
set_option maxRecDepth 10000 in
theorem op_a (k n : Int) (a b : ByteArray) (x y : Tree) (hx : x.whole = true) (hy : y.whole = true) (F X : Tree × Int) (fF : fineW F) (fX : fineW X)
    (c1 : ACalls Tryz.prog 45 [.imm (IV.agg [.sl false kl KI, .sl false tl TI]), .imm x.iv] [] (.imm (.tup [(F).1.iv, .lit (.int .i64 (F).2)])) []) (c2 : ACalls Tryz.prog 45 [.imm (IV.agg [.sl false kl KI, .sl false tl TI]), .imm y.iv] [] (.imm (.tup [(X).1.iv, .lit (.int .i64 (X).2)])) []) :
    ACalls Tryz.prog 105 [.imm (IV.agg [.sl false kl KI, .sl false tl TI]), .imm (Tree.iv (.node k n a b [x, y]))] [] (.imm (.tup [(op1 n F X).1.iv, .lit (.int .i64 (op1 n F X).2)])) [] := by
  obtain ⟨px, hpx⟩ := bR (bJ hx)
  obtain ⟨py, hpy⟩ := bR (bJ hy)
  rw [dQ k n a b hpx hpy]
  rw [hpx] at c1
  rw [hpy] at c2
  have d1 := zI 111
  have d2 := zI 112
  unfold op1
  obtain ⟨F1, F2⟩ := F
  obtain ⟨X1, X2⟩ := X
  unfold fineW at fF fX
  dsimp only at *
  by_cases h1 : F2 = 0
  · obtain ⟨k1, n1, a1, b1, ks1, rfl⟩ := bY (fF h1).1
    subst h1
    rw [if_neg (by simp)]
    by_cases h2 : X2 = 0
    · obtain ⟨k2, n2, a2, b2, ks2, rfl⟩ := bY (fX h2).1
      subst h2
      rw [if_neg (by simp)]
      rw [Tree.iv] at c1 c2
      rw [Tree.kind, Tree.kind]
      generalize Tree.ivs ks1 = Z1 at *
      generalize Tree.ivs ks2 = Z2 at *
      clear fF fX
      by_cases h3 : k1 = 111
      · by_cases h4 : k2 = 111
        · subst h3 h4
          rw [if_neg (by simp)]
          by_cases h5 : n ≤ 3
          · rw [if_pos h5]
            dsimp only
            generalize (tyT 111 []).iv = ti at *
            refine aH Tryz.func105 rfl rfl (nb rfl) rfl ?_
            repeat' (first | refine aE ?_ | (refine aG ?_;  first | refine aB tabOk rfl rfl rfl (nb rfl) rfl ?_ | (refine aI rfl rfl rfl (nb rfl) rfl rfl rfl (fun hq => ?_) (fun hq => ?_) <;> (first | (simp only [sD, sE, sB, sC, sN, sM, sT, sF] at hq; try (exfalso; omega)) | skip)) | refine aD rfl rfl (nb rfl) rfl rfl rfl rfl (c1) ?_ | refine aD rfl rfl (nb rfl) rfl rfl rfl rfl (c2) ?_ | refine aD rfl rfl (nb rfl) rfl rfl rfl rfl (d1) ?_ | refine aT tabOk rfl rfl (nb rfl) rfl ?_ | refine aY tabOk rfl rfl rfl (nb rfl) rfl rfl rfl rfl (by first | rfl | omega) (by first | omega | simp) ?_) | (refine aK ?_;  first | refine aF ?_ | refine aL ?_ | refine aR ?_ | refine aM ?_ | refine aS ?_ | refine aC (b := true) rfl (fun _ => ?_) nTf | refine aC (b := false) rfl nFt (fun _ => ?_) | refine aQ mixed (by kernel_rfl) ?_) | (refine aJ ?_;  first | refine aU ?_ | refine aN ?_) | (refine aP ?_;  first | refine aX ?_) | refine bC (aZ (by kernel_rfl)) ?_)
            all_goals first | (exfalso; omega) | exact absurd rfl (by assumption) | (refine aO (by first | exact .inl rfl | exact .inr rfl) (aV rfl (aA rfl) (aA rfl)) rfl ?_; rfl)
          · rw [if_neg h5]
            dsimp only
            generalize (tyT 112 []).iv = ti at *
            refine aH Tryz.func105 rfl rfl (nb rfl) rfl ?_
            repeat' (first | refine aE ?_ | (refine aG ?_;  first | refine aB tabOk rfl rfl rfl (nb rfl) rfl ?_ | (refine aI rfl rfl rfl (nb rfl) rfl rfl rfl (fun hq => ?_) (fun hq => ?_) <;> (first | (simp only [sD, sE, sB, sC, sN, sM, sT, sF] at hq; try (exfalso; omega)) | skip)) | refine aD rfl rfl (nb rfl) rfl rfl rfl rfl (c1) ?_ | refine aD rfl rfl (nb rfl) rfl rfl rfl rfl (c2) ?_ | refine aD rfl rfl (nb rfl) rfl rfl rfl rfl (d2) ?_ | refine aT tabOk rfl rfl (nb rfl) rfl ?_ | refine aY tabOk rfl rfl rfl (nb rfl) rfl rfl rfl rfl (by first | rfl | omega) (by first | omega | simp) ?_) | (refine aK ?_;  first | refine aF ?_ | refine aL ?_ | refine aR ?_ | refine aM ?_ | refine aS ?_ | refine aC (b := false) rfl nFt (fun _ => ?_) | refine aQ mixed (by kernel_rfl) ?_) | (refine aJ ?_;  first | refine aU ?_) | (refine aP ?_;  first | refine bM ?_) | refine bC (aZ (by kernel_rfl)) ?_)
            all_goals first | (exfalso; omega) | exact absurd rfl (by assumption) | (refine aO (by first | exact .inl rfl | exact .inr rfl) (aV rfl (aA rfl) (aA rfl)) rfl ?_; rfl)
        · rw [if_pos (.inr h4)]
          subst h3
          refine aH Tryz.func105 rfl rfl (nb rfl) rfl ?_
          repeat' (first | refine aE ?_ | (refine aG ?_;  first | refine aB tabOk rfl rfl rfl (nb rfl) rfl ?_ | (refine aI rfl rfl rfl (nb rfl) rfl rfl rfl (fun hq => ?_) (fun hq => ?_) <;> (first | (simp only [sD, sE, sB, sC, sN, sM, sT, sF] at hq; try (exfalso; omega)) | skip)) | refine aD rfl rfl (nb rfl) rfl rfl rfl rfl (c1) ?_ | refine aD rfl rfl (nb rfl) rfl rfl rfl rfl (c2) ?_ | refine aT tabOk rfl rfl (nb rfl) rfl ?_ | refine aY tabOk rfl rfl rfl (nb rfl) rfl rfl rfl rfl (by first | rfl | omega) (by first | omega | simp) ?_) | (refine aK ?_;  first | refine aF ?_ | refine aL ?_ | refine aR ?_ | refine aM ?_ | refine aS ?_ | refine aC (b := true) rfl (fun _ => ?_) nTf | refine aC (b := false) rfl nFt (fun _ => ?_) | refine aQ mixed (by kernel_rfl) ?_) | (refine aJ ?_;  first | refine aU ?_ | refine aN ?_) | (refine aP ?_;  first | refine aX ?_) | refine bC (aZ (by kernel_rfl)) ?_)
          all_goals first | (exfalso; omega) | exact absurd rfl (by assumption) | (refine aO (by first | exact .inl rfl | exact .inr rfl) (aV rfl (aA rfl) (aA rfl)) rfl ?_; rfl)
      · rw [if_pos (.inl h3)]
        refine aH Tryz.func105 rfl rfl (nb rfl) rfl ?_
        repeat' (first | refine aE ?_ | (refine aG ?_;  first | refine aB tabOk rfl rfl rfl (nb rfl) rfl ?_ | refine bL rfl rfl (nb rfl) ?_ | (refine aI rfl rfl rfl (nb rfl) rfl rfl rfl (fun hq => ?_) (fun hq => ?_) <;> (first | (simp only [sD, sE, sB, sC, sN, sM, sT, sF] at hq; try (exfalso; omega)) | skip)) | refine aD rfl rfl (nb rfl) rfl rfl rfl rfl (c1) ?_ | refine aD rfl rfl (nb rfl) rfl rfl rfl rfl (c2) ?_ | refine aT tabOk rfl rfl (nb rfl) rfl ?_ | refine aY tabOk rfl rfl rfl (nb rfl) rfl rfl rfl rfl (by first | rfl | omega) (by first | omega | simp) ?_) | (refine aK ?_;  first | refine aF ?_ | refine aL ?_ | refine aR ?_ | refine aM ?_ | refine aS ?_ | refine aC (b := true) rfl (fun _ => ?_) nTf | refine aC (b := false) rfl nFt (fun _ => ?_) | refine aQ mixed (by kernel_rfl) ?_) | (refine aJ ?_;  first | refine aU ?_ | refine aN ?_) | (refine aP ?_;  first | refine aX ?_) | refine bC (aZ (by kernel_rfl)) ?_)
        all_goals first | (exfalso; omega) | exact absurd rfl (by assumption) | (refine aO (by first | exact .inl rfl | exact .inr rfl) (aV rfl (aA rfl) (aA rfl)) rfl ?_; rfl)
    · rw [if_pos h2]
      generalize X1.iv = xi at *
      rw [Tree.iv] at c1
      generalize Tree.ivs ks1 = Z1 at *
      clear fF fX
      refine aH Tryz.func105 rfl rfl (nb rfl) rfl ?_
      repeat' (first | refine aE ?_ | (refine aG ?_;  first | refine aB tabOk rfl rfl rfl (nb rfl) rfl ?_ | (refine aI rfl rfl rfl (nb rfl) rfl rfl rfl (fun hq => ?_) (fun hq => ?_) <;> (first | (simp only [sD, sE, sB, sC, sN, sM, sT, sF] at hq; try (exfalso; omega)) | skip)) | refine aD rfl rfl (nb rfl) rfl rfl rfl rfl (c1) ?_ | refine aD rfl rfl (nb rfl) rfl rfl rfl rfl (c2) ?_ | refine aT tabOk rfl rfl (nb rfl) rfl ?_ | refine aY tabOk rfl rfl rfl (nb rfl) rfl rfl rfl rfl (by first | rfl | omega) (by first | omega | simp) ?_) | (refine aK ?_;  first | refine aF ?_ | refine aL ?_ | refine aR ?_ | refine aM ?_ | refine aS ?_ | refine aC (b := true) rfl (fun _ => ?_) nTf | refine aC (b := false) rfl nFt (fun _ => ?_) | refine aQ mixed (by kernel_rfl) ?_) | (refine aJ ?_;  first | refine aU ?_ | refine aN ?_) | (refine aP ?_;  first | refine aX ?_) | refine bC (aZ (by kernel_rfl)) ?_)
      all_goals first | (exfalso; omega) | exact absurd rfl (by assumption) | (refine aO (by first | exact .inl rfl | exact .inr rfl) (aV rfl (aA rfl) (aA rfl)) rfl ?_; rfl)
  · rw [if_pos h1]
    generalize F1.iv = fi at *
    clear fF fX
    refine aH Tryz.func105 rfl rfl (nb rfl) rfl ?_
    repeat' (first | refine aE ?_ | (refine aG ?_;  first | refine aB tabOk rfl rfl rfl (nb rfl) rfl ?_ | (refine aI rfl rfl rfl (nb rfl) rfl rfl rfl (fun hq => ?_) (fun hq => ?_) <;> (first | (simp only [sD, sE, sB, sC, sN, sM, sT, sF] at hq; try (exfalso; omega)) | skip)) | refine aD rfl rfl (nb rfl) rfl rfl rfl rfl (c1) ?_ | refine aT tabOk rfl rfl (nb rfl) rfl ?_ | refine aY tabOk rfl rfl rfl (nb rfl) rfl rfl rfl rfl (by first | rfl | omega) (by first | omega | simp) ?_) | (refine aK ?_;  first | refine aF ?_ | refine aL ?_ | refine aM ?_ | refine aC (b := true) rfl (fun _ => ?_) nTf | refine aQ mixed (by kernel_rfl) ?_) | (refine aJ ?_;  first | refine aU ?_ | refine aN ?_) | refine bC (aZ (by kernel_rfl)) ?_)
    all_goals first | (exfalso; omega) | exact absurd rfl (by assumption) | (refine aO (by first | exact .inl rfl | exact .inr rfl) (aV rfl (aA rfl) (aA rfl)) rfl ?_; rfl)
set_option maxHeartbeats 8000000 in
set_option maxRecDepth 10000 in
theorem aEj (k n : Int) (a b : ByteArray) (x : Tree) (hx : x.whole = true) (R : Tree × Int) (fR : fineT R)
    (c1 : ACalls Tryz.prog 123 [.imm (IV.agg [.sl false kl KI, .sl false tl TI]), .imm x.iv, .imm (.lit (.int .i64 115))] [] (.imm (.tup [(asP R 115).1.iv, .lit (.int .i64 (asP R 115).2)])) []) :
    ACalls Tryz.prog 100 [.imm (IV.agg [.sl false kl KI, .sl false tl TI]), .imm (Tree.iv (.node k n a b [x]))] [] (.imm (.tup [(proj1 a R).1.iv, .lit (.int .i64 (proj1 a R).2)])) [] := by
  obtain ⟨px, hpx⟩ := bR (bJ hx)
  rw [iF k n a b hpx]
  rw [hpx] at c1
  unfold proj1
  by_cases h1 : (asP R 115).2 = 0
  · rw [if_neg (by simpa using h1)]
    obtain ⟨h0, hk⟩ := iU h1
    rw [vB h1] at c1
    obtain ⟨R1, R2⟩ := R
    unfold fineT at fR
    dsimp only at *
    obtain ⟨g1, g2, g3⟩ := fR h0
    obtain ⟨n', a', b', kids, e, hl, hf⟩ := fT g1 g2 g3 (.inl hk)
    rw [hk] at e
    subst e h0
    have c2 := aCI 115 n' a' b' kids a (by omega) fun t ht => by
      obtain ⟨k', n', a', b', c, e, _, hc, _⟩ := hf t ht
      exact ⟨k', n', a', b', c, e, hc⟩
    unfold part1
    rw [kidsOf]
    unfold partR at c2
    rw [Tree.iv] at c1 c2
    generalize Tree.ivs kids = Z at *
    clear fR g1 g2 g3 hf hk h1
    cases hp : partP kids a with
    | none =>
      rw [hp] at c2
      dsimp only at *
      refine aH Tryz.func100 rfl rfl (nb rfl) rfl ?_
      repeat' (first | refine aE ?_ | (refine aG ?_;  first | refine aB tabOk rfl rfl rfl (nb rfl) rfl ?_ | (refine aI rfl rfl rfl (nb rfl) rfl rfl rfl (fun hq => ?_) (fun hq => ?_) <;> (first | (simp only [sD, sE, sB, sC, sN, sM, sT, sF] at hq; try (exfalso; omega)) | skip)) | refine aD rfl rfl (nb rfl) rfl rfl rfl rfl (c1) ?_ | refine aD rfl rfl (nb rfl) rfl rfl rfl rfl (c2) ?_ | refine aT tabOk rfl rfl (nb rfl) rfl ?_ | refine aY tabOk rfl rfl rfl (nb rfl) rfl rfl rfl rfl (by first | rfl | omega) (by first | omega | simp) ?_) | (refine aK ?_;  first | refine aF ?_ | refine aL ?_ | refine aM ?_ | refine aS ?_ | refine aC (b := true) rfl (fun _ => ?_) nTf | refine aC (b := false) rfl nFt (fun _ => ?_) | refine aQ mixed (by kernel_rfl) ?_) | (refine aJ ?_;  first | refine aU ?_ | refine aN ?_) | refine bC (aZ (by kernel_rfl)) ?_)
      all_goals first | (exfalso; omega) | exact absurd rfl (by assumption) | (refine aO (by first | exact .inl rfl | exact .inr rfl) (aV rfl (aA rfl) (aA rfl)) rfl ?_; rfl)
    | some p =>
      rw [hp] at c2
      dsimp only at *
      generalize p.iv = pi at *
      refine aH Tryz.func100 rfl rfl (nb rfl) rfl ?_
      repeat' (first | refine aE ?_ | (refine aG ?_;  first | refine aB tabOk rfl rfl rfl (nb rfl) rfl ?_ | (refine aI rfl rfl rfl (nb rfl) rfl rfl rfl (fun hq => ?_) (fun hq => ?_) <;> (first | (simp only [sD, sE, sB, sC, sN, sM, sT, sF] at hq; try (exfalso; omega)) | skip)) | refine aD rfl rfl (nb rfl) rfl rfl rfl rfl (c1) ?_ | refine aD rfl rfl (nb rfl) rfl rfl rfl rfl (c2) ?_ | refine aT tabOk rfl rfl (nb rfl) rfl ?_ | refine aY tabOk rfl rfl rfl (nb rfl) rfl rfl rfl rfl (by first | rfl | omega) (by first | omega | simp) ?_) | (refine aK ?_;  first | refine aF ?_ | refine aL ?_ | refine aM ?_ | refine aS ?_ | refine aC (b := false) rfl nFt (fun _ => ?_) | refine aQ mixed (by kernel_rfl) ?_) | (refine aJ ?_;  first | refine aU ?_) | refine bC (aZ (by kernel_rfl)) ?_)
      all_goals first | (exfalso; omega) | exact absurd rfl (by assumption) | (refine aO (by first | exact .inl rfl | exact .inr rfl) (aV rfl (aA rfl) (aA rfl)) rfl ?_; rfl)
  · rw [if_pos h1]
    generalize asP R 115 = Q at *
    obtain ⟨Q1, Q2⟩ := Q
    dsimp only at *
    generalize Q1.iv = qi at *
    clear fR
    refine aH Tryz.func100 rfl rfl (nb rfl) rfl ?_
    repeat' (first | refine aE ?_ | (refine aG ?_;  first | refine aB tabOk rfl rfl rfl (nb rfl) rfl ?_ | (refine aI rfl rfl rfl (nb rfl) rfl rfl rfl (fun hq => ?_) (fun hq => ?_) <;> (first | (simp only [sD, sE, sB, sC, sN, sM, sT, sF] at hq; try (exfalso; omega)) | skip)) | refine aD rfl rfl (nb rfl) rfl rfl rfl rfl (c1) ?_ | refine aT tabOk rfl rfl (nb rfl) rfl ?_ | refine aY tabOk rfl rfl rfl (nb rfl) rfl rfl rfl rfl (by first | rfl | omega) (by first | omega | simp) ?_) | (refine aK ?_;  first | refine aF ?_ | refine aL ?_ | refine aM ?_ | refine aC (b := true) rfl (fun _ => ?_) nTf | refine aQ mixed (by kernel_rfl) ?_) | (refine aJ ?_;  first | refine aU ?_ | refine aN ?_) | refine bC (aZ (by kernel_rfl)) ?_)
    all_goals first | (exfalso; omega) | exact absurd rfl (by assumption) | (refine aO (by first | exact .inl rfl | exact .inr rfl) (aV rfl (aA rfl) (aA rfl)) rfl ?_; rfl)
set_option maxHeartbeats 8000000 in
set_option maxRecDepth 10000 in
theorem aEk (k n : Int) (a b : ByteArray) (x C : Tree) (hx : x.whole = true) (hC : C.whole = true) (hCs : C.size ≤ 100000000) (R K : Tree × Int) (fR : fineT R) (fK : fineK 100000000 K)
    (c1 : ACalls Tryz.prog 45 [.imm (IV.agg [.sl false kl KI, .sl false tl TI]), .imm x.iv] [] (.imm (.tup [(R).1.iv, .lit (.int .i64 (R).2)])) [])
    (c2 : ACalls Tryz.prog 12 [.imm (.sl false kl KI), .imm C.iv] [] (.imm (.tup [(K).1.iv, .lit (.int .i64 (K).2)])) []) :
    ACalls Tryz.prog 101 [.imm (IV.agg [.sl false kl KI, .sl false tl TI]), .imm (Tree.iv (.node k n a b [x, C]))] [] (.imm (.tup [(tapp1 R K C).1.iv, .lit (.int .i64 (tapp1 R K C).2)])) [] := by
  obtain ⟨px, hpx⟩ := bR (bJ hx)
  obtain ⟨pC, hpC⟩ := bR (bJ hC)
  rw [dQ k n a b hpx hpC]
  rw [hpx] at c1
  rw [hpC] at c2
  unfold tapp1
  obtain ⟨F1, F2⟩ := R
  obtain ⟨X1, X2⟩ := K
  unfold fineT at fR
  unfold fineK at fK
  dsimp only at *
  by_cases h1 : F2 = 0
  · obtain ⟨f1, f2, f3⟩ := fR h1
    subst h1
    rw [if_neg (by simp)]
    by_cases h2 : X2 = 0
    · obtain ⟨g1, g2, g3⟩ := fK h2
      subst h2
      rw [if_neg (by simp)]
      by_cases hk : F1.kind = 117
      · obtain ⟨n', a', b', u, v, e, hu, hv, wu, wv, su, sv⟩ := iT f1 f2 f3 (.inl hk)
        rw [hk] at e
        subst e
        have cs := iQ u X1 (.inr wu) (.inr g2) su g3
        have cf := nB v C sv hCs
        rw [hpC] at cf
        have e0 : kid0 (.node 117 n' a' b' [u, v]) = u := rfl
        have e1 : kid1 (.node 117 n' a' b' [u, v]) = v := rfl
        rw [e0, e1]
        obtain ⟨pu, hpu⟩ := bR (bJ wu)
        obtain ⟨pv, hpv⟩ := bR (bJ wv)
        rw [dQ 117 n' a' b' hpu hpv] at c1
        rw [hpu] at cs
        rw [hpv] at cf
        generalize X1.iv = xi at *
        generalize filledP v C = Q at *
        obtain ⟨Q1, Q2⟩ := Q
        dsimp only at *
        clear fR fK f1 f2 f3 g1 g2 g3
        cases hs : sameP u X1 with
        | true =>
          rw [hs] at cs
          rw [if_neg (by simp [Tree.kind])]
          dsimp only
          generalize Q1.iv = qi at *
          refine aH Tryz.func101 rfl rfl (nb rfl) rfl ?_
          repeat' (first | refine aE ?_ | (refine aG ?_;  first | refine aB tabOk rfl rfl rfl (nb rfl) rfl ?_ | (refine aI rfl rfl rfl (nb rfl) rfl rfl rfl (fun hq => ?_) (fun hq => ?_) <;> (first | (simp only [sD, sE, sB, sC, sN, sM, sT, sF] at hq; try (exfalso; omega)) | skip)) | refine aD rfl rfl (nb rfl) rfl rfl rfl rfl (c1) ?_ | refine aD rfl rfl (nb rfl) rfl rfl rfl rfl (c2) ?_ | refine aD rfl rfl (nb rfl) rfl rfl rfl rfl (cs) ?_ | refine aD rfl rfl (nb rfl) rfl rfl rfl rfl (cf) ?_ | refine aT tabOk rfl rfl (nb rfl) rfl ?_ | refine aY tabOk rfl rfl rfl (nb rfl) rfl rfl rfl rfl (by first | rfl | omega) (by first | omega | simp) ?_) | (refine aK ?_;  first | refine aF ?_ | refine aL ?_ | refine aR ?_ | refine aM ?_ | refine aS ?_ | refine aC (b := false) rfl nFt (fun _ => ?_) | refine aQ mixed (by kernel_rfl) ?_) | (refine aJ ?_;  first | refine aU ?_) | (refine aP ?_;  first | refine bM ?_) | refine bC (aZ (by kernel_rfl)) ?_)
          all_goals first | (exfalso; omega) | exact absurd rfl (by assumption) | (refine aO (by first | exact .inl rfl | exact .inr rfl) (aV rfl (aA rfl) (aA rfl)) rfl ?_; rfl)
        | false =>
          rw [hs] at cs
          rw [if_pos (.inr rfl)]
          refine aH Tryz.func101 rfl rfl (nb rfl) rfl ?_
          repeat' (first | refine aE ?_ | (refine aG ?_;  first | refine aB tabOk rfl rfl rfl (nb rfl) rfl ?_ | (refine aI rfl rfl rfl (nb rfl) rfl rfl rfl (fun hq => ?_) (fun hq => ?_) <;> (first | (simp only [sD, sE, sB, sC, sN, sM, sT, sF] at hq; try (exfalso; omega)) | skip)) | refine aD rfl rfl (nb rfl) rfl rfl rfl rfl (c1) ?_ | refine aD rfl rfl (nb rfl) rfl rfl rfl rfl (c2) ?_ | refine aD rfl rfl (nb rfl) rfl rfl rfl rfl (cs) ?_ | refine aT tabOk rfl rfl (nb rfl) rfl ?_ | refine aY tabOk rfl rfl rfl (nb rfl) rfl rfl rfl rfl (by first | rfl | omega) (by first | omega | simp) ?_) | (refine aK ?_;  first | refine aF ?_ | refine aL ?_ | refine aR ?_ | refine aM ?_ | refine aS ?_ | refine aC (b := true) rfl (fun _ => ?_) nTf | refine aC (b := false) rfl nFt (fun _ => ?_) | refine aQ mixed (by kernel_rfl) ?_) | (refine aJ ?_;  first | refine aU ?_ | refine aN ?_) | (refine aP ?_;  first | refine aX ?_) | refine bC (aZ (by kernel_rfl)) ?_)
          all_goals first | (exfalso; omega) | exact absurd rfl (by assumption) | (refine aO (by first | exact .inl rfl | exact .inr rfl) (aV rfl (aA rfl) (aA rfl)) rfl ?_; rfl)
      · rw [if_pos (.inl hk)]
        obtain ⟨k', n', a', b', ks, rfl⟩ := bY f2
        rw [Tree.kind] at hk
        rw [Tree.iv] at c1
        generalize Tree.ivs ks = Z at *
        generalize X1.iv = xi at *
        clear fR fK f1 f2 f3 g1 g2 g3
        refine aH Tryz.func101 rfl rfl (nb rfl) rfl ?_
        repeat' (first | refine aE ?_ | (refine aG ?_;  first | refine aB tabOk rfl rfl rfl (nb rfl) rfl ?_ | refine bL rfl rfl (nb rfl) ?_ | (refine aI rfl rfl rfl (nb rfl) rfl rfl rfl (fun hq => ?_) (fun hq => ?_) <;> (first | (simp only [sD, sE, sB, sC, sN, sM, sT, sF] at hq; try (exfalso; omega)) | skip)) | refine aD rfl rfl (nb rfl) rfl rfl rfl rfl (c1) ?_ | refine aD rfl rfl (nb rfl) rfl rfl rfl rfl (c2) ?_ | refine aT tabOk rfl rfl (nb rfl) rfl ?_ | refine aY tabOk rfl rfl rfl (nb rfl) rfl rfl rfl rfl (by first | rfl | omega) (by first | omega | simp) ?_) | (refine aK ?_;  first | refine aF ?_ | refine aL ?_ | refine aR ?_ | refine aM ?_ | refine aS ?_ | refine aC (b := true) rfl (fun _ => ?_) nTf | refine aC (b := false) rfl nFt (fun _ => ?_) | refine aQ mixed (by kernel_rfl) ?_) | (refine aJ ?_;  first | refine aU ?_ | refine aN ?_) | (refine aP ?_;  first | refine aX ?_) | refine bC (aZ (by kernel_rfl)) ?_)
        all_goals first | (exfalso; omega) | exact absurd rfl (by assumption) | (refine aO (by first | exact .inl rfl | exact .inr rfl) (aV rfl (aA rfl) (aA rfl)) rfl ?_; rfl)
    · rw [if_pos h2]
      generalize X1.iv = xi at *
      generalize F1.iv = fi at *
      clear fR fK
      refine aH Tryz.func101 rfl rfl (nb rfl) rfl ?_
      repeat' (first | refine aE ?_ | (refine aG ?_;  first | refine aB tabOk rfl rfl rfl (nb rfl) rfl ?_ | (refine aI rfl rfl rfl (nb rfl) rfl rfl rfl (fun hq => ?_) (fun hq => ?_) <;> (first | (simp only [sD, sE, sB, sC, sN, sM, sT, sF] at hq; try (exfalso; omega)) | skip)) | refine aD rfl rfl (nb rfl) rfl rfl rfl rfl (c1) ?_ | refine aD rfl rfl (nb rfl) rfl rfl rfl rfl (c2) ?_ | refine aT tabOk rfl rfl (nb rfl) rfl ?_ | refine aY tabOk rfl rfl rfl (nb rfl) rfl rfl rfl rfl (by first | rfl | omega) (by first | omega | simp) ?_) | (refine aK ?_;  first | refine aF ?_ | refine aL ?_ | refine aR ?_ | refine aM ?_ | refine aS ?_ | refine aC (b := true) rfl (fun _ => ?_) nTf | refine aC (b := false) rfl nFt (fun _ => ?_) | refine aQ mixed (by kernel_rfl) ?_) | (refine aJ ?_;  first | refine aU ?_ | refine aN ?_) | (refine aP ?_;  first | refine aX ?_) | refine bC (aZ (by kernel_rfl)) ?_)
      all_goals first | (exfalso; omega) | exact absurd rfl (by assumption) | (refine aO (by first | exact .inl rfl | exact .inr rfl) (aV rfl (aA rfl) (aA rfl)) rfl ?_; rfl)
  · rw [if_pos h1]
    generalize F1.iv = fi at *
    clear fR fK
    refine aH Tryz.func101 rfl rfl (nb rfl) rfl ?_
    repeat' (first | refine aE ?_ | (refine aG ?_;  first | refine aB tabOk rfl rfl rfl (nb rfl) rfl ?_ | (refine aI rfl rfl rfl (nb rfl) rfl rfl rfl (fun hq => ?_) (fun hq => ?_) <;> (first | (simp only [sD, sE, sB, sC, sN, sM, sT, sF] at hq; try (exfalso; omega)) | skip)) | refine aD rfl rfl (nb rfl) rfl rfl rfl rfl (c1) ?_ | refine aT tabOk rfl rfl (nb rfl) rfl ?_ | refine aY tabOk rfl rfl rfl (nb rfl) rfl rfl rfl rfl (by first | rfl | omega) (by first | omega | simp) ?_) | (refine aK ?_;  first | refine aF ?_ | refine aL ?_ | refine aM ?_ | refine aC (b := true) rfl (fun _ => ?_) nTf | refine aQ mixed (by kernel_rfl) ?_) | (refine aJ ?_;  first | refine aU ?_ | refine aN ?_) | refine bC (aZ (by kernel_rfl)) ?_)
    all_goals first | (exfalso; omega) | exact absurd rfl (by assumption) | (refine aO (by first | exact .inl rfl | exact .inr rfl) (aV rfl (aA rfl) (aA rfl)) rfl ?_; rfl)
end
end Go.Proofs.YtocaohipfiapkaaGreatDoor.Ab
namespace Go.Proofs.YtocaohipfiapkaaGreatDoor.Ab
set_option linter.unusedVariables false
set_option linter.unusedSimpArgs false
open Go.RowKit
attribute [local irreducible] AWP AOps AExit AThen ABlock ANoGoto FeetOk
section
variable (kl tl : Nat) (KI TI : List IV)
theorem fV (n b : Tree) : fineT (filledP n b) := fun h => by
  obtain ⟨h1, h2, h3⟩ := bI (kC n b h)
  exact ⟨h3, h1, by omega⟩
set_option maxHeartbeats 8000000 in
set_option maxRecDepth 10000 in
theorem aEl (k n : Int) (a b : ByteArray) (C x T : Tree) (hC : C.whole = true) (hx : x.whole = true) (hT : T.whole = true) (hCs : C.size ≤ 100000000) (S K A : Tree × Int) (fS : fineT S) (fK : fineK 100000000 K) (fA : fineW A)
    (c1 : ACalls Tryz.prog 122 [.imm (IV.agg [.sl false kl KI, .sl false tl TI]), .imm T.iv] [] (.imm (.tup [(S).1.iv, .lit (.int .i64 (S).2)])) [])
    (c2 : ACalls Tryz.prog 12 [.imm (.sl false kl KI), .imm C.iv] [] (.imm (.tup [(K).1.iv, .lit (.int .i64 (K).2)])) [])
    (c3 : ACalls Tryz.prog 45 [.imm (IV.agg [.sl false kl KI, .sl false tl TI]), .imm x.iv] [] (.imm (.tup [(A).1.iv, .lit (.int .i64 (A).2)])) []) :
    ACalls Tryz.prog 102 [.imm (IV.agg [.sl false kl KI, .sl false tl TI]), .imm (Tree.iv (.node k n a b [C, x, T]))] [] (.imm (.tup [(pack1 S K A C).1.iv, .lit (.int .i64 (pack1 S K A C).2)])) [] := by
  obtain ⟨px, hpx⟩ := bR (bJ hx)
  obtain ⟨pC, hpC⟩ := bR (bJ hC)
  obtain ⟨pT, hpT⟩ := bR (bJ hT)
  rw [wY k n a b hpC hpx hpT]
  rw [hpT] at c1
  rw [hpC] at c2
  rw [hpx] at c3
  unfold pack1
  obtain ⟨S1, S2⟩ := S
  obtain ⟨K1, K2⟩ := K
  obtain ⟨A1, A2⟩ := A
  unfold fineT at fS
  unfold fineK at fK
  unfold fineW at fA
  dsimp only at *
  by_cases h1 : S2 = 0
  · obtain ⟨s1, s2, s3⟩ := fS h1
    subst h1
    rw [if_neg (by simp)]
    by_cases h2 : K2 = 0
    · obtain ⟨k1, k2, k3⟩ := fK h2
      subst h2
      rw [if_neg (by simp)]
      by_cases h3 : A2 = 0
      · obtain ⟨a1, a2⟩ := fA h3
        subst h3
        rw [if_neg (by simp)]
        by_cases hk : S1.kind = 118
        · obtain ⟨n', a', b', u, v, e, hu, hv, wu, wv, su, sv⟩ := iT s1 s2 s3 (.inr hk)
          rw [hk] at e
          subst e
          have cs := iQ u K1 (.inr wu) (.inr k2) su k3
          have cf := nB v C sv hCs
          have hff := fV v C
          rw [hpC] at cf
          have e0 : kid0 (.node 118 n' a' b' [u, v]) = u := rfl
          have e1 : kid1 (.node 118 n' a' b' [u, v]) = v := rfl
          rw [e0, e1]
          obtain ⟨pu, hpu⟩ := bR (bJ wu)
          obtain ⟨pv, hpv⟩ := bR (bJ wv)
          rw [hpu] at cs
          rw [hpv] at cf
          generalize K1.iv = ki at *
          unfold alike1
          generalize filledP v C = Q at *
          obtain ⟨Q1, Q2⟩ := Q
          unfold fineT at hff
          dsimp only at hff cf ⊢
          rw [dQ 118 n' a' b' hpu hpv] at c1
          cases hs : sameP u K1 with
          | true =>
            rw [hs] at cs
            rw [if_neg (by simp [Tree.kind])]
            by_cases h4 : Q2 = 0
            · obtain ⟨q1, q2, q3⟩ := hff h4
              have cq := iQ A1 Q1 (.inr a1) (.inr q2) a2 q3
              subst h4
              rw [if_neg (by simp)]
              generalize A1.iv = ai at *
              generalize Q1.iv = qi at *
              clear fS fK fA s1 s2 s3 k1 k2 k3 a1 a2 hff q1 q2 q3
              cases hq : sameP A1 Q1 with
              | true =>
                rw [hq] at cq
                rw [if_neg (by simp)]
                dsimp only
                rw [dQ 118 n' a' b' hpu hpv]
                refine aH Tryz.func102 rfl rfl (nb rfl) rfl ?_
                repeat' (first | refine aE ?_ | (refine aG ?_;  first | refine aB tabOk rfl rfl rfl (nb rfl) rfl ?_ | (refine aI rfl rfl rfl (nb rfl) rfl rfl rfl (fun hq => ?_) (fun hq => ?_) <;> (first | (simp only [sD, sE, sB, sC, sN, sM, sT, sF] at hq; try (exfalso; omega)) | skip)) | refine aD rfl rfl (nb rfl) rfl rfl rfl rfl (c1) ?_ | refine aD rfl rfl (nb rfl) rfl rfl rfl rfl (c2) ?_ | refine aD rfl rfl (nb rfl) rfl rfl rfl rfl (c3) ?_ | refine aD rfl rfl (nb rfl) rfl rfl rfl rfl (cs) ?_ | refine aD rfl rfl (nb rfl) rfl rfl rfl rfl (cf) ?_ | refine aD rfl rfl (nb rfl) rfl rfl rfl rfl (cq) ?_ | refine aT tabOk rfl rfl (nb rfl) rfl ?_ | refine aY tabOk rfl rfl rfl (nb rfl) rfl rfl rfl rfl (by first | rfl | omega) (by first | omega | simp) ?_) | (refine aK ?_;  first | refine aF ?_ | refine aL ?_ | refine aR ?_ | refine aM ?_ | refine aS ?_ | refine aC (b := false) rfl nFt (fun _ => ?_) | refine aQ mixed (by kernel_rfl) ?_) | (refine aJ ?_;  first | refine aU ?_) | (refine aP ?_;  first | refine bM ?_) | refine bC (aZ (by kernel_rfl)) ?_)
                all_goals first | (exfalso; omega) | exact absurd rfl (by assumption) | (refine aO (by first | exact .inl rfl | exact .inr rfl) (aV rfl (aA rfl) (aA rfl)) rfl ?_; rfl)
              | false =>
                rw [hq] at cq
                rw [if_pos rfl]
                refine aH Tryz.func102 rfl rfl (nb rfl) rfl ?_
                repeat' (first | refine aE ?_ | (refine aG ?_;  first | refine aB tabOk rfl rfl rfl (nb rfl) rfl ?_ | (refine aI rfl rfl rfl (nb rfl) rfl rfl rfl (fun hq => ?_) (fun hq => ?_) <;> (first | (simp only [sD, sE, sB, sC, sN, sM, sT, sF] at hq; try (exfalso; omega)) | skip)) | refine aD rfl rfl (nb rfl) rfl rfl rfl rfl (c1) ?_ | refine aD rfl rfl (nb rfl) rfl rfl rfl rfl (c2) ?_ | refine aD rfl rfl (nb rfl) rfl rfl rfl rfl (c3) ?_ | refine aD rfl rfl (nb rfl) rfl rfl rfl rfl (cs) ?_ | refine aD rfl rfl (nb rfl) rfl rfl rfl rfl (cf) ?_ | refine aD rfl rfl (nb rfl) rfl rfl rfl rfl (cq) ?_ | refine aT tabOk rfl rfl (nb rfl) rfl ?_ | refine aY tabOk rfl rfl rfl (nb rfl) rfl rfl rfl rfl (by first | rfl | omega) (by first | omega | simp) ?_) | (refine aK ?_;  first | refine aF ?_ | refine aL ?_ | refine aR ?_ | refine aM ?_ | refine aS ?_ | refine aC (b := true) rfl (fun _ => ?_) nTf | refine aC (b := false) rfl nFt (fun _ => ?_) | refine aQ mixed (by kernel_rfl) ?_) | (refine aJ ?_;  first | refine aU ?_ | refine aN ?_) | (refine aP ?_;  first | refine bM ?_ | refine aX ?_) | refine bC (aZ (by kernel_rfl)) ?_)
                all_goals first | (exfalso; omega) | exact absurd rfl (by assumption) | (refine aO (by first | exact .inl rfl | exact .inr rfl) (aV rfl (aA rfl) (aA rfl)) rfl ?_; rfl)
            · rw [if_pos h4]
              generalize A1.iv = ai at *
              generalize Q1.iv = qi at *
              clear fS fK fA s1 s2 s3 k1 k2 k3 a1 a2 hff
              refine aH Tryz.func102 rfl rfl (nb rfl) rfl ?_
              repeat' (first | refine aE ?_ | (refine aG ?_;  first | refine aB tabOk rfl rfl rfl (nb rfl) rfl ?_ | (refine aI rfl rfl rfl (nb rfl) rfl rfl rfl (fun hq => ?_) (fun hq => ?_) <;> (first | (simp only [sD, sE, sB, sC, sN, sM, sT, sF] at hq; try (exfalso; omega)) | skip)) | refine aD rfl rfl (nb rfl) rfl rfl rfl rfl (c1) ?_ | refine aD rfl rfl (nb rfl) rfl rfl rfl rfl (c2) ?_ | refine aD rfl rfl (nb rfl) rfl rfl rfl rfl (c3) ?_ | refine aD rfl rfl (nb rfl) rfl rfl rfl rfl (cs) ?_ | refine aD rfl rfl (nb rfl) rfl rfl rfl rfl (cf) ?_ | refine aT tabOk rfl rfl (nb rfl) rfl ?_ | refine aY tabOk rfl rfl rfl (nb rfl) rfl rfl rfl rfl (by first | rfl | omega) (by first | omega | simp) ?_) | (refine aK ?_;  first | refine aF ?_ | refine aL ?_ | refine aR ?_ | refine aM ?_ | refine aS ?_ | refine aC (b := true) rfl (fun _ => ?_) nTf | refine aC (b := false) rfl nFt (fun _ => ?_) | refine aQ mixed (by kernel_rfl) ?_) | (refine aJ ?_;  first | refine aU ?_ | refine aN ?_) | (refine aP ?_;  first | refine bM ?_ | refine aX ?_) | refine bC (aZ (by kernel_rfl)) ?_)
              all_goals first | (exfalso; omega) | exact absurd rfl (by assumption) | (refine aO (by first | exact .inl rfl | exact .inr rfl) (aV rfl (aA rfl) (aA rfl)) rfl ?_; rfl)
          | false =>
            rw [hs] at cs
            rw [if_pos (.inr rfl)]
            generalize A1.iv = ai at *
            clear fS fK fA s1 s2 s3 k1 k2 k3 a1 a2 hff
            refine aH Tryz.func102 rfl rfl (nb rfl) rfl ?_
            repeat' (first | refine aE ?_ | (refine aG ?_;  first | refine aB tabOk rfl rfl rfl (nb rfl) rfl ?_ | (refine aI rfl rfl rfl (nb rfl) rfl rfl rfl (fun hq => ?_) (fun hq => ?_) <;> (first | (simp only [sD, sE, sB, sC, sN, sM, sT, sF] at hq; try (exfalso; omega)) | skip)) | refine aD rfl rfl (nb rfl) rfl rfl rfl rfl (c1) ?_ | refine aD rfl rfl (nb rfl) rfl rfl rfl rfl (c2) ?_ | refine aD rfl rfl (nb rfl) rfl rfl rfl rfl (c3) ?_ | refine aD rfl rfl (nb rfl) rfl rfl rfl rfl (cs) ?_ | refine aT tabOk rfl rfl (nb rfl) rfl ?_ | refine aY tabOk rfl rfl rfl (nb rfl) rfl rfl rfl rfl (by first | rfl | omega) (by first | omega | simp) ?_) | (refine aK ?_;  first | refine aF ?_ | refine aL ?_ | refine aR ?_ | refine aM ?_ | refine aS ?_ | refine aC (b := true) rfl (fun _ => ?_) nTf | refine aC (b := false) rfl nFt (fun _ => ?_) | refine aQ mixed (by kernel_rfl) ?_) | (refine aJ ?_;  first | refine aU ?_ | refine aN ?_) | (refine aP ?_;  first | refine aX ?_) | refine bC (aZ (by kernel_rfl)) ?_)
            all_goals first | (exfalso; omega) | exact absurd rfl (by assumption) | (refine aO (by first | exact .inl rfl | exact .inr rfl) (aV rfl (aA rfl) (aA rfl)) rfl ?_; rfl)
        · rw [if_pos (.inl hk)]
          obtain ⟨k', n', a', b', ks, rfl⟩ := bY s2
          rw [Tree.kind] at hk
          rw [Tree.iv] at c1
          generalize Tree.ivs ks = Z at *
          generalize K1.iv = ki at *
          generalize A1.iv = ai at *
          clear fS fK fA s1 s2 s3 k1 k2 k3 a1 a2
          refine aH Tryz.func102 rfl rfl (nb rfl) rfl ?_
          repeat' (first | refine aE ?_ | (refine aG ?_;  first | refine aB tabOk rfl rfl rfl (nb rfl) rfl ?_ | refine bL rfl rfl (nb rfl) ?_ | (refine aI rfl rfl rfl (nb rfl) rfl rfl rfl (fun hq => ?_) (fun hq => ?_) <;> (first | (simp only [sD, sE, sB, sC, sN, sM, sT, sF] at hq; try (exfalso; omega)) | skip)) | refine aD rfl rfl (nb rfl) rfl rfl rfl rfl (c1) ?_ | refine aD rfl rfl (nb rfl) rfl rfl rfl rfl (c2) ?_ | refine aD rfl rfl (nb rfl) rfl rfl rfl rfl (c3) ?_ | refine aT tabOk rfl rfl (nb rfl) rfl ?_ | refine aY tabOk rfl rfl rfl (nb rfl) rfl rfl rfl rfl (by first | rfl | omega) (by first | omega | simp) ?_) | (refine aK ?_;  first | refine aF ?_ | refine aL ?_ | refine aR ?_ | refine aM ?_ | refine aS ?_ | refine aC (b := true) rfl (fun _ => ?_) nTf | refine aC (b := false) rfl nFt (fun _ => ?_) | refine aQ mixed (by kernel_rfl) ?_) | (refine aJ ?_;  first | refine aU ?_ | refine aN ?_) | (refine aP ?_;  first | refine aX ?_) | refine bC (aZ (by kernel_rfl)) ?_)
          all_goals first | (exfalso; omega) | exact absurd rfl (by assumption) | (refine aO (by first | exact .inl rfl | exact .inr rfl) (aV rfl (aA rfl) (aA rfl)) rfl ?_; rfl)
      · rw [if_pos h3]
        generalize S1.iv = si at *
        generalize K1.iv = ki at *
        generalize A1.iv = ai at *
        clear fS fK fA
        refine aH Tryz.func102 rfl rfl (nb rfl) rfl ?_
        repeat' (first | refine aE ?_ | (refine aG ?_;  first | refine aB tabOk rfl rfl rfl (nb rfl) rfl ?_ | (refine aI rfl rfl rfl (nb rfl) rfl rfl rfl (fun hq => ?_) (fun hq => ?_) <;> (first | (simp only [sD, sE, sB, sC, sN, sM, sT, sF] at hq; try (exfalso; omega)) | skip)) | refine aD rfl rfl (nb rfl) rfl rfl rfl rfl (c1) ?_ | refine aD rfl rfl (nb rfl) rfl rfl rfl rfl (c2) ?_ | refine aD rfl rfl (nb rfl) rfl rfl rfl rfl (c3) ?_ | refine aT tabOk rfl rfl (nb rfl) rfl ?_ | refine aY tabOk rfl rfl rfl (nb rfl) rfl rfl rfl rfl (by first | rfl | omega) (by first | omega | simp) ?_) | (refine aK ?_;  first | refine aF ?_ | refine aL ?_ | refine aR ?_ | refine aM ?_ | refine aS ?_ | refine aC (b := true) rfl (fun _ => ?_) nTf | refine aC (b := false) rfl nFt (fun _ => ?_) | refine aQ mixed (by kernel_rfl) ?_) | (refine aJ ?_;  first | refine aU ?_ | refine aN ?_) | (refine aP ?_;  first | refine aX ?_) | refine bC (aZ (by kernel_rfl)) ?_)
        all_goals first | (exfalso; omega) | exact absurd rfl (by assumption) | (refine aO (by first | exact .inl rfl | exact .inr rfl) (aV rfl (aA rfl) (aA rfl)) rfl ?_; rfl)
    · rw [if_pos h2]
      generalize S1.iv = si at *
      generalize K1.iv = ki at *
      clear fS fK fA
      refine aH Tryz.func102 rfl rfl (nb rfl) rfl ?_
      repeat' (first | refine aE ?_ | (refine aG ?_;  first | refine aB tabOk rfl rfl rfl (nb rfl) rfl ?_ | (refine aI rfl rfl rfl (nb rfl) rfl rfl rfl (fun hq => ?_) (fun hq => ?_) <;> (first | (simp only [sD, sE, sB, sC, sN, sM, sT, sF] at hq; try (exfalso; omega)) | skip)) | refine aD rfl rfl (nb rfl) rfl rfl rfl rfl (c1) ?_ | refine aD rfl rfl (nb rfl) rfl rfl rfl rfl (c2) ?_ | refine aT tabOk rfl rfl (nb rfl) rfl ?_ | refine aY tabOk rfl rfl rfl (nb rfl) rfl rfl rfl rfl (by first | rfl | omega) (by first | omega | simp) ?_) | (refine aK ?_;  first | refine aF ?_ | refine aL ?_ | refine aM ?_ | refine aS ?_ | refine aC (b := true) rfl (fun _ => ?_) nTf | refine aC (b := false) rfl nFt (fun _ => ?_) | refine aQ mixed (by kernel_rfl) ?_) | (refine aJ ?_;  first | refine aU ?_ | refine aN ?_) | refine bC (aZ (by kernel_rfl)) ?_)
      all_goals first | (exfalso; omega) | exact absurd rfl (by assumption) | (refine aO (by first | exact .inl rfl | exact .inr rfl) (aV rfl (aA rfl) (aA rfl)) rfl ?_; rfl)
  · rw [if_pos h1]
    generalize S1.iv = si at *
    clear fS fK fA
    refine aH Tryz.func102 rfl rfl (nb rfl) rfl ?_
    repeat' (first | refine aE ?_ | (refine aG ?_;  first | refine aB tabOk rfl rfl rfl (nb rfl) rfl ?_ | (refine aI rfl rfl rfl (nb rfl) rfl rfl rfl (fun hq => ?_) (fun hq => ?_) <;> (first | (simp only [sD, sE, sB, sC, sN, sM, sT, sF] at hq; try (exfalso; omega)) | skip)) | refine aD rfl rfl (nb rfl) rfl rfl rfl rfl (c1) ?_ | refine aT tabOk rfl rfl (nb rfl) rfl ?_ | refine aY tabOk rfl rfl rfl (nb rfl) rfl rfl rfl rfl (by first | rfl | omega) (by first | omega | simp) ?_) | (refine aK ?_;  first | refine aF ?_ | refine aL ?_ | refine aM ?_ | refine aC (b := true) rfl (fun _ => ?_) nTf | refine aQ mixed (by kernel_rfl) ?_) | (refine aJ ?_;  first | refine aU ?_ | refine aN ?_) | refine bC (aZ (by kernel_rfl)) ?_)
    all_goals first | (exfalso; omega) | exact absurd rfl (by assumption) | (refine aO (by first | exact .inl rfl | exact .inr rfl) (aV rfl (aA rfl) (aA rfl)) rfl ?_; rfl)
set_option maxHeartbeats 8000000 in
set_option maxRecDepth 10000 in
theorem in_a (k n : Int) (a b : ByteArray) (T x : Tree) (hT : T.whole = true) (hx : x.whole = true) (S A : Tree × Int) (fS : fineT S) (fA : fineW A)
    (c1 : ACalls Tryz.prog 122 [.imm (IV.agg [.sl false kl KI, .sl false tl TI]), .imm T.iv] [] (.imm (.tup [(S).1.iv, .lit (.int .i64 (S).2)])) [])
    (c3 : ACalls Tryz.prog 45 [.imm (IV.agg [.sl false kl KI, .sl false tl TI]), .imm x.iv] [] (.imm (.tup [(A).1.iv, .lit (.int .i64 (A).2)])) []) :
    ACalls Tryz.prog 106 [.imm (IV.agg [.sl false kl KI, .sl false tl TI]), .imm (Tree.iv (.node k n a b [T, x]))] [] (.imm (.tup [(in1 a S A).1.iv, .lit (.int .i64 (in1 a S A).2)])) [] := by
  obtain ⟨px, hpx⟩ := bR (bJ hx)
  obtain ⟨pT, hpT⟩ := bR (bJ hT)
  rw [dQ k n a b hpT hpx]
  rw [hpT] at c1
  rw [hpx] at c3
  unfold in1
  obtain ⟨S1, S2⟩ := S
  obtain ⟨A1, A2⟩ := A
  unfold fineT at fS
  unfold fineW at fA
  dsimp only at *
  by_cases h1 : S2 = 0
  · obtain ⟨s1, s2, s3⟩ := fS h1
    subst h1
    rw [if_neg (by simp)]
    by_cases h3 : A2 = 0
    · obtain ⟨a1, a2⟩ := fA h3
      subst h3
      rw [if_neg (by simp)]
      by_cases hk : S1.kind = 121
      · rw [if_neg (by simpa using hk)]
        obtain ⟨n', a', b', kids, e, hl, hf⟩ := fT s1 s2 s3 (.inr hk)
        have hpf := fun p hp => @rO 100000000 S1 p a s1 s2 s3 (.inr hk) hp
        have hS1 : S1.size ≤ 100000000 := s3
        rw [hk] at e
        have c2 := aCI 121 n' a' b' kids a (by omega) fun t ht => by
          obtain ⟨k', n', a', b', c, e, _, hc, _⟩ := hf t ht
          exact ⟨k', n', a', b', c, e, hc⟩
        rw [← e] at c2
        unfold partR at c2
        have e2 : kids = kidsOf S1 := by rw [e]; rfl
        rw [e2] at c2
        have e3 : S1.iv = .ptr [.lit (.int .i64 121), .lit (.int .i64 n'), .lit (.string a'), .lit (.string b'), .sl false kids.length (Tree.ivs kids)] 0 := by rw [e, Tree.iv]
        generalize Tree.ivs kids = Z at *
        generalize kids.length = L at *
        clear hf e e2
        cases hp : partP (kidsOf S1) a with
        | none =>
          rw [hp] at c2
          rw [in2]
          dsimp only at *
          rw [e3] at c1 c2
          generalize A1.iv = ai at *
          clear fS fA s1 s2 s3 a1 a2 hk hpf
          refine aH Tryz.func106 rfl rfl (nb rfl) rfl ?_
          repeat' (first | refine aE ?_ | (refine aG ?_;  first | refine aB tabOk rfl rfl rfl (nb rfl) rfl ?_ | (refine aI rfl rfl rfl (nb rfl) rfl rfl rfl (fun hq => ?_) (fun hq => ?_) <;> (first | (simp only [sD, sE, sB, sC, sN, sM, sT, sF] at hq; try (exfalso; omega)) | skip)) | refine aD rfl rfl (nb rfl) rfl rfl rfl rfl (c1) ?_ | refine aD rfl rfl (nb rfl) rfl rfl rfl rfl (c2) ?_ | refine aD rfl rfl (nb rfl) rfl rfl rfl rfl (c3) ?_ | refine aT tabOk rfl rfl (nb rfl) rfl ?_ | refine aY tabOk rfl rfl rfl (nb rfl) rfl rfl rfl rfl (by first | rfl | omega) (by first | omega | simp) ?_) | (refine aK ?_;  first | refine aF ?_ | refine aL ?_ | refine aM ?_ | refine aS ?_ | refine aC (b := true) rfl (fun _ => ?_) nTf | refine aC (b := false) rfl nFt (fun _ => ?_) | refine aQ mixed (by kernel_rfl) ?_) | (refine aJ ?_;  first | refine aU ?_ | refine aN ?_) | refine bC (aZ (by kernel_rfl)) ?_)
          all_goals first | (exfalso; omega) | exact absurd rfl (by assumption) | (refine aO (by first | exact .inl rfl | exact .inr rfl) (aV rfl (aA rfl) (aA rfl)) rfl ?_; rfl)
        | some p =>
          rw [hp] at c2
          obtain ⟨p1, p2, p3⟩ := hpf p hp
          have cf := nB p S1 p3 hS1
          have hff := fV p S1
          rw [in2]
          unfold alike1
          dsimp only at *
          generalize filledP p S1 = Q at *
          obtain ⟨Q1, Q2⟩ := Q
          unfold fineT at hff
          dsimp only at hff cf ⊢
          generalize p.iv = pi at *
          by_cases h4 : Q2 = 0
          · obtain ⟨q1, q2, q3⟩ := hff h4
            have cq := iQ A1 Q1 (.inr a1) (.inr q2) a2 q3
            subst h4
            rw [if_neg (by simp)]
            generalize A1.iv = ai at *
            generalize Q1.iv = qi at *
            clear fS fA s1 s2 s3 a1 a2 hff q1 q2 q3 hpf p1 p2 p3 hk
            cases hq : sameP A1 Q1 with
            | true =>
              rw [hq] at cq
              rw [if_neg (by simp)]
              dsimp only
              rw [e3] at c1 c2 cf ⊢
              refine aH Tryz.func106 rfl rfl (nb rfl) rfl ?_
              repeat' (first | refine aE ?_ | (refine aG ?_;  first | refine aB tabOk rfl rfl rfl (nb rfl) rfl ?_ | (refine aI rfl rfl rfl (nb rfl) rfl rfl rfl (fun hq => ?_) (fun hq => ?_) <;> (first | (simp only [sD, sE, sB, sC, sN, sM, sT, sF] at hq; try (exfalso; omega)) | skip)) | refine aD rfl rfl (nb rfl) rfl rfl rfl rfl (c1) ?_ | refine aD rfl rfl (nb rfl) rfl rfl rfl rfl (c2) ?_ | refine aD rfl rfl (nb rfl) rfl rfl rfl rfl (c3) ?_ | refine aD rfl rfl (nb rfl) rfl rfl rfl rfl (cf) ?_ | refine aD rfl rfl (nb rfl) rfl rfl rfl rfl (cq) ?_ | refine aT tabOk rfl rfl (nb rfl) rfl ?_ | refine aY tabOk rfl rfl rfl (nb rfl) rfl rfl rfl rfl (by first | rfl | omega) (by first | omega | simp) ?_) | (refine aK ?_;  first | refine aF ?_ | refine aL ?_ | refine aR ?_ | refine aM ?_ | refine aS ?_ | refine aC (b := false) rfl nFt (fun _ => ?_) | refine aQ mixed (by kernel_rfl) ?_) | (refine aJ ?_;  first | refine aU ?_) | (refine aP ?_;  first | refine bM ?_) | refine bC (aZ (by kernel_rfl)) ?_)
              all_goals first | (exfalso; omega) | exact absurd rfl (by assumption) | (refine aO (by first | exact .inl rfl | exact .inr rfl) (aV rfl (aA rfl) (aA rfl)) rfl ?_; rfl)
            | false =>
              rw [hq] at cq
              rw [if_pos rfl]
              rw [e3] at c1 c2 cf
              refine aH Tryz.func106 rfl rfl (nb rfl) rfl ?_
              repeat' (first | refine aE ?_ | (refine aG ?_;  first | refine aB tabOk rfl rfl rfl (nb rfl) rfl ?_ | (refine aI rfl rfl rfl (nb rfl) rfl rfl rfl (fun hq => ?_) (fun hq => ?_) <;> (first | (simp only [sD, sE, sB, sC, sN, sM, sT, sF] at hq; try (exfalso; omega)) | skip)) | refine aD rfl rfl (nb rfl) rfl rfl rfl rfl (c1) ?_ | refine aD rfl rfl (nb rfl) rfl rfl rfl rfl (c2) ?_ | refine aD rfl rfl (nb rfl) rfl rfl rfl rfl (c3) ?_ | refine aD rfl rfl (nb rfl) rfl rfl rfl rfl (cf) ?_ | refine aD rfl rfl (nb rfl) rfl rfl rfl rfl (cq) ?_ | refine aT tabOk rfl rfl (nb rfl) rfl ?_ | refine aY tabOk rfl rfl rfl (nb rfl) rfl rfl rfl rfl (by first | rfl | omega) (by first | omega | simp) ?_) | (refine aK ?_;  first | refine aF ?_ | refine aL ?_ | refine aR ?_ | refine aM ?_ | refine aS ?_ | refine aC (b := true) rfl (fun _ => ?_) nTf | refine aC (b := false) rfl nFt (fun _ => ?_) | refine aQ mixed (by kernel_rfl) ?_) | (refine aJ ?_;  first | refine aU ?_ | refine aN ?_) | (refine aP ?_;  first | refine aX ?_) | refine bC (aZ (by kernel_rfl)) ?_)
              all_goals first | (exfalso; omega) | exact absurd rfl (by assumption) | (refine aO (by first | exact .inl rfl | exact .inr rfl) (aV rfl (aA rfl) (aA rfl)) rfl ?_; rfl)
          · rw [if_pos h4]
            generalize A1.iv = ai at *
            generalize Q1.iv = qi at *
            rw [e3] at c1 c2 cf
            clear fS fA s1 s2 s3 a1 a2 hff hpf p1 p2 p3 hk
            refine aH Tryz.func106 rfl rfl (nb rfl) rfl ?_
            repeat' (first | refine aE ?_ | (refine aG ?_;  first | refine aB tabOk rfl rfl rfl (nb rfl) rfl ?_ | (refine aI rfl rfl rfl (nb rfl) rfl rfl rfl (fun hq => ?_) (fun hq => ?_) <;> (first | (simp only [sD, sE, sB, sC, sN, sM, sT, sF] at hq; try (exfalso; omega)) | skip)) | refine aD rfl rfl (nb rfl) rfl rfl rfl rfl (c1) ?_ | refine aD rfl rfl (nb rfl) rfl rfl rfl rfl (c2) ?_ | refine aD rfl rfl (nb rfl) rfl rfl rfl rfl (c3) ?_ | refine aD rfl rfl (nb rfl) rfl rfl rfl rfl (cf) ?_ | refine aT tabOk rfl rfl (nb rfl) rfl ?_ | refine aY tabOk rfl rfl rfl (nb rfl) rfl rfl rfl rfl (by first | rfl | omega) (by first | omega | simp) ?_) | (refine aK ?_;  first | refine aF ?_ | refine aL ?_ | refine aR ?_ | refine aM ?_ | refine aS ?_ | refine aC (b := true) rfl (fun _ => ?_) nTf | refine aC (b := false) rfl nFt (fun _ => ?_) | refine aQ mixed (by kernel_rfl) ?_) | (refine aJ ?_;  first | refine aU ?_ | refine aN ?_) | (refine aP ?_;  first | refine aX ?_) | refine bC (aZ (by kernel_rfl)) ?_)
            all_goals first | (exfalso; omega) | exact absurd rfl (by assumption) | (refine aO (by first | exact .inl rfl | exact .inr rfl) (aV rfl (aA rfl) (aA rfl)) rfl ?_; rfl)
      · rw [if_pos hk]
        obtain ⟨k', n', a', b', ks, rfl⟩ := bY s2
        rw [Tree.kind] at hk
        rw [Tree.iv] at c1
        generalize Tree.ivs ks = Z at *
        generalize A1.iv = ai at *
        clear fS fA s1 s2 s3 a1 a2
        refine aH Tryz.func106 rfl rfl (nb rfl) rfl ?_
        repeat' (first | refine aE ?_ | (refine aG ?_;  first | refine aB tabOk rfl rfl rfl (nb rfl) rfl ?_ | (refine aI rfl rfl rfl (nb rfl) rfl rfl rfl (fun hq => ?_) (fun hq => ?_) <;> (first | (simp only [sD, sE, sB, sC, sN, sM, sT, sF] at hq; try (exfalso; omega)) | skip)) | refine aD rfl rfl (nb rfl) rfl rfl rfl rfl (c1) ?_ | refine aD rfl rfl (nb rfl) rfl rfl rfl rfl (c3) ?_ | refine aT tabOk rfl rfl (nb rfl) rfl ?_ | refine aY tabOk rfl rfl rfl (nb rfl) rfl rfl rfl rfl (by first | rfl | omega) (by first | omega | simp) ?_) | (refine aK ?_;  first | refine aF ?_ | refine aL ?_ | refine aM ?_ | refine aS ?_ | refine aC (b := true) rfl (fun _ => ?_) nTf | refine aC (b := false) rfl nFt (fun _ => ?_) | refine aQ mixed (by kernel_rfl) ?_) | (refine aJ ?_;  first | refine aU ?_ | refine aN ?_) | refine bC (aZ (by kernel_rfl)) ?_)
        all_goals first | (exfalso; omega) | exact absurd rfl (by assumption) | (refine aO (by first | exact .inl rfl | exact .inr rfl) (aV rfl (aA rfl) (aA rfl)) rfl ?_; rfl)
    · rw [if_pos h3]
      generalize S1.iv = si at *
      generalize A1.iv = ai at *
      clear fS fA
      refine aH Tryz.func106 rfl rfl (nb rfl) rfl ?_
      repeat' (first | refine aE ?_ | (refine aG ?_;  first | refine aB tabOk rfl rfl rfl (nb rfl) rfl ?_ | (refine aI rfl rfl rfl (nb rfl) rfl rfl rfl (fun hq => ?_) (fun hq => ?_) <;> (first | (simp only [sD, sE, sB, sC, sN, sM, sT, sF] at hq; try (exfalso; omega)) | skip)) | refine aD rfl rfl (nb rfl) rfl rfl rfl rfl (c1) ?_ | refine aD rfl rfl (nb rfl) rfl rfl rfl rfl (c3) ?_ | refine aT tabOk rfl rfl (nb rfl) rfl ?_ | refine aY tabOk rfl rfl rfl (nb rfl) rfl rfl rfl rfl (by first | rfl | omega) (by first | omega | simp) ?_) | (refine aK ?_;  first | refine aF ?_ | refine aL ?_ | refine aM ?_ | refine aS ?_ | refine aC (b := true) rfl (fun _ => ?_) nTf | refine aC (b := false) rfl nFt (fun _ => ?_) | refine aQ mixed (by kernel_rfl) ?_) | (refine aJ ?_;  first | refine aU ?_ | refine aN ?_) | refine bC (aZ (by kernel_rfl)) ?_)
      all_goals first | (exfalso; omega) | exact absurd rfl (by assumption) | (refine aO (by first | exact .inl rfl | exact .inr rfl) (aV rfl (aA rfl) (aA rfl)) rfl ?_; rfl)
  · rw [if_pos h1]
    generalize S1.iv = si at *
    clear fS fA
    refine aH Tryz.func106 rfl rfl (nb rfl) rfl ?_
    repeat' (first | refine aE ?_ | (refine aG ?_;  first | refine aB tabOk rfl rfl rfl (nb rfl) rfl ?_ | (refine aI rfl rfl rfl (nb rfl) rfl rfl rfl (fun hq => ?_) (fun hq => ?_) <;> (first | (simp only [sD, sE, sB, sC, sN, sM, sT, sF] at hq; try (exfalso; omega)) | skip)) | refine aD rfl rfl (nb rfl) rfl rfl rfl rfl (c1) ?_ | refine aT tabOk rfl rfl (nb rfl) rfl ?_ | refine aY tabOk rfl rfl rfl (nb rfl) rfl rfl rfl rfl (by first | rfl | omega) (by first | omega | simp) ?_) | (refine aK ?_;  first | refine aF ?_ | refine aL ?_ | refine aM ?_ | refine aC (b := true) rfl (fun _ => ?_) nTf | refine aQ mixed (by kernel_rfl) ?_) | (refine aJ ?_;  first | refine aU ?_ | refine aN ?_) | refine bC (aZ (by kernel_rfl)) ?_)
    all_goals first | (exfalso; omega) | exact absurd rfl (by assumption) | (refine aO (by first | exact .inl rfl | exact .inr rfl) (aV rfl (aA rfl) (aA rfl)) rfl ?_; rfl)
set_option maxHeartbeats 8000000 in
set_option maxRecDepth 10000 in
theorem wZ (kl2 tl2 : Nat) (KI2 TI2 : List IV) (C3 : IV) (k n : Int) (a b : ByteArray) (x y : Tree) (hx : x.whole = true) (hy : y.whole = true) (R B : Tree × Int) (e : Int) (fR : fineT R) (fB : fineW B)
    (c1 : ACalls Tryz.prog 123 [.imm (IV.agg [.sl false kl KI, .sl false tl TI]), .imm x.iv, .imm (.lit (.int .i64 118))] [] (.imm (.tup [(asP R 118).1.iv, .lit (.int .i64 (asP R 118).2)])) [])
    (c2 : (asP R 118).2 = 0 → ACalls Tryz.prog 74 [.imm (IV.agg [.sl false kl KI, .sl false tl TI]), .imm (kid0 R.1).iv] [] (.imm (.tup [(IV.agg [.sl false kl2 KI2, .sl false tl2 TI2]), .lit (.int .i64 e)])) [])
    (c3 : (asP R 118).2 = 0 → e = 0 → ACalls Tryz.prog 75 [.imm (IV.agg [.sl false kl2 KI2, .sl false tl2 TI2]), .imm (kid1 R.1).iv] [] (.imm C3) [])
    (c4 : (asP R 118).2 = 0 → e = 0 → ACalls Tryz.prog 45 [.imm C3, .imm y.iv] [] (.imm (.tup [(B).1.iv, .lit (.int .i64 (B).2)])) []) :
    ACalls Tryz.prog 103 [.imm (IV.agg [.sl false kl KI, .sl false tl TI]), .imm (Tree.iv (.node k n a b [x, y]))] [] (.imm (.tup [(unpack1 R e B).1.iv, .lit (.int .i64 (unpack1 R e B).2)])) [] := by
  obtain ⟨px, hpx⟩ := bR (bJ hx)
  obtain ⟨py, hpy⟩ := bR (bJ hy)
  rw [dQ k n a b hpx hpy]
  rw [hpx] at c1
  rw [hpy] at c4
  unfold unpack1
  by_cases h1 : (asP R 118).2 = 0
  · rw [if_neg (by simpa using h1)]
    replace c2 := c2 h1
    replace c3 := c3 h1
    replace c4 := c4 h1
    obtain ⟨h0, hk⟩ := iU h1
    rw [vB h1] at c1
    clear h1
    obtain ⟨R1, R2⟩ := R
    obtain ⟨B1, B2⟩ := B
    unfold fineT at fR
    unfold fineW at fB
    dsimp only at *
    obtain ⟨s1, s2, s3⟩ := fR h0
    obtain ⟨n', a', b', u, v, e2, hu, hv, wu, wv, su, sv⟩ := iT s1 s2 s3 (.inr hk)
    rw [hk] at e2
    subst e2 h0
    have e0 : kid0 (.node 118 n' a' b' [u, v]) = u := rfl
    have e1 : kid1 (.node 118 n' a' b' [u, v]) = v := rfl
    rw [e0] at c2
    rw [e1] at c3
    obtain ⟨pu, hpu⟩ := bR (bJ wu)
    obtain ⟨pv, hpv⟩ := bR (bJ wv)
    rw [dQ 118 n' a' b' hpu hpv] at c1
    rw [hpu] at c2
    rw [hpv] at c3
    clear fR s1 s2 s3 hk
    by_cases h2 : e = 0
    · replace c3 := c3 h2
      replace c4 := c4 h2
      subst h2
      rw [if_neg (by simp)]
      by_cases h3 : B2 = 0
      · obtain ⟨b1, b2⟩ := fB h3
        have c6 := wS B1 0 b2
        have c7 := pP B1 (-1) 0 b2
        subst h3
        rw [if_neg (by simp)]
        clear fB b1 b2
        cases ho : occP B1 0 with
        | true =>
          rw [if_pos rfl]
          rw [ho] at c6
          generalize B1.iv = bi at *
          refine aH Tryz.func103 rfl rfl (nb rfl) rfl ?_
          refine cP (eH 8 (by simp) rfl rfl) ?_
          repeat' (first | refine aE ?_ | (refine aG ?_;  first | refine aB tabOk rfl rfl rfl (nb rfl) rfl ?_ | (refine aI rfl rfl rfl (nb rfl) rfl rfl rfl (fun hq => ?_) (fun hq => ?_) <;> (first | (simp only [sD, sE, sB, sC, sN, sM, sT, sF] at hq; try (exfalso; omega)) | skip)) | refine eB 8 (d := 8) tabOk rfl rfl rfl (nb rfl) rfl rfl rfl rfl ?_ | refine aD rfl rfl (nb rfl) rfl rfl rfl rfl (c1) ?_ | refine aD rfl rfl (nb rfl) rfl rfl rfl rfl (c2) ?_ | refine aD rfl rfl (nb rfl) rfl rfl rfl rfl (c3) ?_ | refine aD rfl rfl (nb rfl) rfl rfl rfl rfl (c4) ?_ | refine aD rfl rfl (nb rfl) rfl rfl rfl rfl (c6) ?_ | refine aT tabOk rfl rfl (nb rfl) rfl ?_ | refine bK tabOk rfl rfl rfl (nb rfl) rfl rfl rfl rfl ?_ | refine bG tabOk rfl rfl rfl rfl rfl rfl rfl rfl rfl rfl rfl ?_ | refine aY tabOk rfl rfl rfl (nb rfl) rfl rfl rfl rfl (by first | rfl | omega) (by first | omega | simp) ?_) | (refine aK ?_;  first | refine aF ?_ | refine aL ?_ | refine aR ?_ | refine aM ?_ | refine aS ?_ | refine aC (b := true) rfl (fun _ => ?_) nTf | refine aC (b := false) rfl nFt (fun _ => ?_) | refine aQ mixed (by kernel_rfl) ?_) | (refine aJ ?_;  first | refine aU ?_ | refine aN ?_) | (refine aP ?_;  first | refine aX ?_) | refine bC (aZ (by kernel_rfl)) ?_)
          all_goals first | (exfalso; omega) | exact absurd rfl (by assumption) | (refine aO (by first | exact .inl rfl | exact .inr rfl) (aV rfl (aA rfl) (aA rfl)) rfl ?_; rfl)
        | false =>
          rw [if_neg (by simp)]
          rw [ho] at c6
          generalize shiftP B1 (-1) 0 = Q at *
          obtain ⟨Q1, Q2⟩ := Q
          dsimp only at *
          generalize B1.iv = bi at *
          generalize Q1.iv = qi at *
          refine aH Tryz.func103 rfl rfl (nb rfl) rfl ?_
          refine cP (eH 8 (by simp) rfl rfl) ?_
          repeat' (first | refine aE ?_ | (refine aG ?_;  first | refine aB tabOk rfl rfl rfl (nb rfl) rfl ?_ | (refine aI rfl rfl rfl (nb rfl) rfl rfl rfl (fun hq => ?_) (fun hq => ?_) <;> (first | (simp only [sD, sE, sB, sC, sN, sM, sT, sF] at hq; try (exfalso; omega)) | skip)) | refine eB 8 (d := 8) tabOk rfl rfl rfl (nb rfl) rfl rfl rfl rfl ?_ | refine aD rfl rfl (nb rfl) rfl rfl rfl rfl (c1) ?_ | refine aD rfl rfl (nb rfl) rfl rfl rfl rfl (c2) ?_ | refine aD rfl rfl (nb rfl) rfl rfl rfl rfl (c3) ?_ | refine aD rfl rfl (nb rfl) rfl rfl rfl rfl (c4) ?_ | refine aD rfl rfl (nb rfl) rfl rfl rfl rfl (c6) ?_ | refine aD rfl rfl (nb rfl) rfl rfl rfl rfl (c7) ?_ | refine aT tabOk rfl rfl (nb rfl) rfl ?_ | refine bK tabOk rfl rfl rfl (nb rfl) rfl rfl rfl rfl ?_ | refine bG tabOk rfl rfl rfl rfl rfl rfl rfl rfl rfl rfl rfl ?_ | refine aY tabOk rfl rfl rfl (nb rfl) rfl rfl rfl rfl (by first | rfl | omega) (by first | omega | simp) ?_) | (refine aK ?_;  first | refine aF ?_ | refine aL ?_ | refine aR ?_ | refine aM ?_ | refine aS ?_ | refine aC (b := false) rfl nFt (fun _ => ?_) | refine aQ mixed (by kernel_rfl) ?_) | (refine aJ ?_;  first | refine aU ?_) | (refine aP ?_;  first | refine bM ?_) | refine bC (aZ (by kernel_rfl)) ?_)
          all_goals first | (exfalso; omega) | exact absurd rfl (by assumption) | (refine aO (by first | exact .inl rfl | exact .inr rfl) (aV rfl (aA rfl) (aA rfl)) rfl ?_; rfl)
      · rw [if_pos h3]
        generalize B1.iv = bi at *
        clear fB
        refine aH Tryz.func103 rfl rfl (nb rfl) rfl ?_
        refine cP (eH 8 (by simp) rfl rfl) ?_
        repeat' (first | refine aE ?_ | (refine aG ?_;  first | refine aB tabOk rfl rfl rfl (nb rfl) rfl ?_ | (refine aI rfl rfl rfl (nb rfl) rfl rfl rfl (fun hq => ?_) (fun hq => ?_) <;> (first | (simp only [sD, sE, sB, sC, sN, sM, sT, sF] at hq; try (exfalso; omega)) | skip)) | refine eB 8 (d := 8) tabOk rfl rfl rfl (nb rfl) rfl rfl rfl rfl ?_ | refine aD rfl rfl (nb rfl) rfl rfl rfl rfl (c1) ?_ | refine aD rfl rfl (nb rfl) rfl rfl rfl rfl (c2) ?_ | refine aD rfl rfl (nb rfl) rfl rfl rfl rfl (c3) ?_ | refine aD rfl rfl (nb rfl) rfl rfl rfl rfl (c4) ?_ | refine aT tabOk rfl rfl (nb rfl) rfl ?_ | refine bK tabOk rfl rfl rfl (nb rfl) rfl rfl rfl rfl ?_ | refine bG tabOk rfl rfl rfl rfl rfl rfl rfl rfl rfl rfl rfl ?_ | refine aY tabOk rfl rfl rfl (nb rfl) rfl rfl rfl rfl (by first | rfl | omega) (by first | omega | simp) ?_) | (refine aK ?_;  first | refine aF ?_ | refine aL ?_ | refine aR ?_ | refine aM ?_ | refine aS ?_ | refine aC (b := true) rfl (fun _ => ?_) nTf | refine aC (b := false) rfl nFt (fun _ => ?_) | refine aQ mixed (by kernel_rfl) ?_) | (refine aJ ?_;  first | refine aU ?_ | refine aN ?_) | (refine aP ?_;  first | refine aX ?_) | refine bC (aZ (by kernel_rfl)) ?_)
        all_goals first | (exfalso; omega) | exact absurd rfl (by assumption) | (refine aO (by first | exact .inl rfl | exact .inr rfl) (aV rfl (aA rfl) (aA rfl)) rfl ?_; rfl)
    · rw [if_pos h2]
      clear c3 c4 fB
      refine aH Tryz.func103 rfl rfl (nb rfl) rfl ?_
      refine cP (eH 8 (by simp) rfl rfl) ?_
      repeat' (first | refine aE ?_ | (refine aG ?_;  first | refine aB tabOk rfl rfl rfl (nb rfl) rfl ?_ | (refine aI rfl rfl rfl (nb rfl) rfl rfl rfl (fun hq => ?_) (fun hq => ?_) <;> (first | (simp only [sD, sE, sB, sC, sN, sM, sT, sF] at hq; try (exfalso; omega)) | skip)) | refine eB 8 (d := 8) tabOk rfl rfl rfl (nb rfl) rfl rfl rfl rfl ?_ | refine aD rfl rfl (nb rfl) rfl rfl rfl rfl (c1) ?_ | refine aD rfl rfl (nb rfl) rfl rfl rfl rfl (c2) ?_ | refine aT tabOk rfl rfl (nb rfl) rfl ?_ | refine bG tabOk rfl rfl rfl rfl rfl rfl rfl rfl rfl rfl rfl ?_ | refine aY tabOk rfl rfl rfl (nb rfl) rfl rfl rfl rfl (by first | rfl | omega) (by first | omega | simp) ?_) | (refine aK ?_;  first | refine aF ?_ | refine aL ?_ | refine aM ?_ | refine aS ?_ | refine aC (b := true) rfl (fun _ => ?_) nTf | refine aC (b := false) rfl nFt (fun _ => ?_) | refine aQ mixed (by kernel_rfl) ?_) | (refine aJ ?_;  first | refine aU ?_ | refine aN ?_) | refine bC (aZ (by kernel_rfl)) ?_)
      all_goals first | (exfalso; omega) | exact absurd rfl (by assumption) | (refine aO (by first | exact .inl rfl | exact .inr rfl) (aV rfl (aA rfl) (aA rfl)) rfl ?_; rfl)
  · rw [if_pos h1]
    clear c2 c3 c4
    generalize asP R 118 = Q at *
    obtain ⟨Q1, Q2⟩ := Q
    dsimp only at *
    generalize Q1.iv = qi at *
    clear fR fB
    refine aH Tryz.func103 rfl rfl (nb rfl) rfl ?_
    refine cP (eH 8 (by simp) rfl rfl) ?_
    repeat' (first | refine aE ?_ | (refine aG ?_;  first | refine aB tabOk rfl rfl rfl (nb rfl) rfl ?_ | (refine aI rfl rfl rfl (nb rfl) rfl rfl rfl (fun hq => ?_) (fun hq => ?_) <;> (first | (simp only [sD, sE, sB, sC, sN, sM, sT, sF] at hq; try (exfalso; omega)) | skip)) | refine aD rfl rfl (nb rfl) rfl rfl rfl rfl (c1) ?_ | refine aT tabOk rfl rfl (nb rfl) rfl ?_ | refine aY tabOk rfl rfl rfl (nb rfl) rfl rfl rfl rfl (by first | rfl | omega) (by first | omega | simp) ?_) | (refine aK ?_;  first | refine aF ?_ | refine aL ?_ | refine aM ?_ | refine aC (b := true) rfl (fun _ => ?_) nTf | refine aQ mixed (by kernel_rfl) ?_) | (refine aJ ?_;  first | refine aU ?_ | refine aN ?_) | refine bC (aZ (by kernel_rfl)) ?_)
    all_goals first | (exfalso; omega) | exact absurd rfl (by assumption) | (refine aO (by first | exact .inl rfl | exact .inr rfl) (aV rfl (aA rfl) (aA rfl)) rfl ?_; rfl)
end
end Go.Proofs.YtocaohipfiapkaaGreatDoor.Ab
namespace Go.Proofs.YtocaohipfiapkaaGreatDoor.Ab
set_option linter.unusedVariables false
set_option linter.unusedSimpArgs false
open Go.RowKit
attribute [local irreducible] AWP AOps AExit AThen ABlock ANoGoto FeetOk
section
variable (kl tl : Nat) (KI TI : List IV)
set_option maxHeartbeats 16000000 in
set_option maxRecDepth 10000 in
theorem aCK (k n : Int) (a b : ByteArray) (x y z : Tree) (hx : x.whole = true) (hy : y.whole = true) (hz : z.whole = true) (A B C : Tree × Int) (fA : fineW A) (fB : fineW B) (fC : fineW C)
    (c1 : ACalls Tryz.prog 45 [.imm (IV.agg [.sl false kl KI, .sl false tl TI]), .imm x.iv] [] (.imm (.tup [(A).1.iv, .lit (.int .i64 (A).2)])) []) (c2 : ACalls Tryz.prog 45 [.imm (IV.agg [.sl false kl KI, .sl false tl TI]), .imm y.iv] [] (.imm (.tup [(B).1.iv, .lit (.int .i64 (B).2)])) []) (c3 : ACalls Tryz.prog 45 [.imm (IV.agg [.sl false kl KI, .sl false tl TI]), .imm z.iv] [] (.imm (.tup [(C).1.iv, .lit (.int .i64 (C).2)])) []) :
    ACalls Tryz.prog 104 [.imm (IV.agg [.sl false kl KI, .sl false tl TI]), .imm (Tree.iv (.node k n a b [x, y, z]))] [] (.imm (.tup [(choice1 A B C).1.iv, .lit (.int .i64 (choice1 A B C).2)])) [] := by
  obtain ⟨px, hpx⟩ := bR (bJ hx)
  obtain ⟨py, hpy⟩ := bR (bJ hy)
  obtain ⟨pz, hpz⟩ := bR (bJ hz)
  rw [wY k n a b hpx hpy hpz]
  rw [hpx] at c1
  rw [hpy] at c2
  rw [hpz] at c3
  generalize hQ : choice1 A B C = Q
  unfold choice1 at hQ
  obtain ⟨A1, A2⟩ := A
  obtain ⟨B1, B2⟩ := B
  obtain ⟨C1, C2⟩ := C
  unfold fineW at fA fB fC
  dsimp only at *
  refine cK Tryz.func104 rfl rfl (nb rfl) rfl ?_
  repeat' (first | refine aE ?_ | (refine aG ?_;  first | refine aB tabOk rfl rfl rfl (nb rfl) rfl ?_ | refine aT tabOk rfl rfl (nb rfl) rfl ?_) | (refine aK ?_;  first | refine aF ?_ | refine aL ?_ | refine aR ?_))
  refine cP (mL (t := 6) 500 25 1 rfl (by simp) rfl rfl) ?_
  refine bZ (ι := {j : Nat // j ≤ 3 ∧ (0 < j → A2 = 0) ∧ (1 < j → B2 = 0) ∧ (2 < j → C2 = 0)}) (fun j => S.f ⟨[(16, .imm (.lit (.int .i64 (j.1 : Int)))), (15, .imm (.lit (.int .i64 3))), (14, .imm (.sl false 3 [.ptr px 0, .ptr py 0, .ptr pz 0])), (2, .imm (.ptr [.sl false kl KI, .sl false tl TI] 0)), (6, .ref 500 j.1)], [(500, .arr 25 1 j.1 ([A1.iv, B1.iv, C1.iv].take j.1))]⟩) (fun j => 3 - j.1) ⟨0, by omega, by omega, by omega, by omega⟩ (bT (by repeat' first | exact trivial | refine ⟨rfl, ?_⟩) (by repeat' first | exact trivial | refine ⟨rfl, ?_⟩)) ?_
  rintro ⟨j, hj, i1, i2, i3⟩
  dsimp only
  match j, hj with
  | 0, _ =>
    by_cases h : A2 = 0
    · obtain ⟨pa, hpa⟩ := bR (bJ (fA h).1)
      rw [hpa] at c1 ⊢
      have h' := h
      rw [h] at c1
      clear fA fB fC hQ
      repeat' (first | refine aE ?_ | (refine aG ?_;  first | refine aB tabOk rfl rfl rfl (nb rfl) rfl ?_ | (refine aI rfl rfl rfl (nb rfl) rfl rfl rfl (fun hq => ?_) (fun hq => ?_) <;> (first | (simp only [sD, sE, sB, sC, sN, sM, sT, sF] at hq; try (exfalso; omega)) | skip)) | refine aD rfl rfl (nb rfl) rfl rfl rfl rfl (c1) ?_ | refine cI tabOk rfl rfl rfl (nb rfl) rfl rfl rfl rfl rfl rfl rfl (by first | omega | decide) rfl (by first | omega | (dsimp only; omega)) (by first | omega | (dsimp only; omega)) ?_ | refine bO rfl rfl rfl (nb rfl) rfl rfl (by omega) ?_ | refine bS tabOk rfl rfl rfl (nb rfl) rfl rfl rfl rfl rfl rfl rfl rfl rfl ?_ | refine bB tabOk rfl rfl rfl (nb rfl) rfl rfl rfl rfl (by first | assumption | omega) ?_) | (refine aK ?_;  first | refine aF ?_ | refine aL ?_ | refine bD ?_ | refine aR ?_ | refine aS ?_ | refine aC (b := true) rfl (fun _ => ?_) nTf | refine aC (b := false) rfl nFt (fun _ => ?_)) | (refine aJ ?_;  first | refine aU ?_) | (refine aP ?_;  first | refine bM ?_))
      all_goals first
        | (exfalso; omega)
        | exact absurd rfl (by assumption)
        | exact ⟨⟨1, by omega, fun _ => h', by omega, by omega⟩, (by show 3 - 1 < 3 - 0; omega), (bT (by repeat' first | exact trivial | refine ⟨rfl, ?_⟩) (by repeat' first | exact trivial | refine ⟨rfl, ?_⟩))⟩
    · rw [if_pos h] at hQ
      subst hQ
      generalize A1.iv = ai at *
      clear fA fB fC
      repeat' (first | refine aE ?_ | (refine aG ?_;  first | refine aB tabOk rfl rfl rfl (nb rfl) rfl ?_ | (refine aI rfl rfl rfl (nb rfl) rfl rfl rfl (fun hq => ?_) (fun hq => ?_) <;> (first | (simp only [sD, sE, sB, sC, sN, sM, sT, sF] at hq; try (exfalso; omega)) | skip)) | refine aD rfl rfl (nb rfl) rfl rfl rfl rfl (c1) ?_ | refine bB tabOk rfl rfl rfl (nb rfl) rfl rfl rfl rfl (by first | assumption | omega) ?_) | (refine aK ?_;  first | refine aF ?_ | refine aL ?_ | refine aR ?_ | refine aM ?_ | refine aS ?_ | refine aC (b := true) rfl (fun _ => ?_) nTf) | (refine aJ ?_;  first | refine aU ?_ | refine aN ?_) | (refine aP ?_;  first | refine aX ?_))
      all_goals first | (exfalso; omega) | exact absurd rfl (by assumption) | (refine cN (aO (by first | exact .inl rfl | exact .inr rfl) (aV rfl (aA rfl) (aA rfl)) rfl ?_); rfl)
  | 1, _ =>
    have hA := i1 (by omega)
    rw [if_neg (by simpa using hA)] at hQ
    by_cases h : B2 = 0
    · obtain ⟨pb, hpb⟩ := bR (bJ (fB h).1)
      obtain ⟨pa, hpa⟩ := bR (bJ (fA hA).1)
      rw [hpb] at c2 ⊢
      rw [hpa]
      have h' := h
      rw [h] at c2
      clear fA fB fC hQ
      repeat' (first | refine aE ?_ | (refine aG ?_;  first | refine aB tabOk rfl rfl rfl (nb rfl) rfl ?_ | (refine aI rfl rfl rfl (nb rfl) rfl rfl rfl (fun hq => ?_) (fun hq => ?_) <;> (first | (simp only [sD, sE, sB, sC, sN, sM, sT, sF] at hq; try (exfalso; omega)) | skip)) | refine aD rfl rfl (nb rfl) rfl rfl rfl rfl (c2) ?_ | refine cI tabOk rfl rfl rfl (nb rfl) rfl rfl rfl rfl rfl rfl rfl (by first | omega | decide) rfl (by first | omega | (dsimp only; omega)) (by first | omega | (dsimp only; omega)) ?_ | refine bO rfl rfl rfl (nb rfl) rfl rfl (by omega) ?_ | refine bS tabOk rfl rfl rfl (nb rfl) rfl rfl rfl rfl rfl rfl rfl rfl rfl ?_ | refine bB tabOk rfl rfl rfl (nb rfl) rfl rfl rfl rfl (by first | assumption | omega) ?_) | (refine aK ?_;  first | refine aF ?_ | refine aL ?_ | refine bD ?_ | refine aR ?_ | refine aS ?_ | refine aC (b := true) rfl (fun _ => ?_) nTf | refine aC (b := false) rfl nFt (fun _ => ?_)) | (refine aJ ?_;  first | refine aU ?_) | (refine aP ?_;  first | refine bM ?_))
      all_goals first
        | (exfalso; omega)
        | exact absurd rfl (by assumption)
        | exact ⟨⟨2, by omega, fun _ => hA, fun _ => h', by omega⟩, (by show 3 - 2 < 3 - 1; omega), (bT (by repeat' first | exact trivial | refine ⟨rfl, ?_⟩) (by repeat' first | exact trivial | refine ⟨rfl, ?_⟩))⟩
    · rw [if_pos h] at hQ
      subst hQ
      generalize A1.iv = ai at *
      generalize B1.iv = bi at *
      clear fA fB fC
      repeat' (first | refine aE ?_ | (refine aG ?_;  first | refine aB tabOk rfl rfl rfl (nb rfl) rfl ?_ | (refine aI rfl rfl rfl (nb rfl) rfl rfl rfl (fun hq => ?_) (fun hq => ?_) <;> (first | (simp only [sD, sE, sB, sC, sN, sM, sT, sF] at hq; try (exfalso; omega)) | skip)) | refine aD rfl rfl (nb rfl) rfl rfl rfl rfl (c2) ?_ | refine bB tabOk rfl rfl rfl (nb rfl) rfl rfl rfl rfl (by first | assumption | omega) ?_) | (refine aK ?_;  first | refine aF ?_ | refine aL ?_ | refine aR ?_ | refine aM ?_ | refine aS ?_ | refine aC (b := true) rfl (fun _ => ?_) nTf) | (refine aJ ?_;  first | refine aU ?_ | refine aN ?_) | (refine aP ?_;  first | refine aX ?_))
      all_goals first | (exfalso; omega) | exact absurd rfl (by assumption) | (refine cN (aO (by first | exact .inl rfl | exact .inr rfl) (aV rfl (aA rfl) (aA rfl)) rfl ?_); rfl)
  | 2, _ =>
    have hA := i1 (by omega)
    have hB := i2 (by omega)
    rw [if_neg (by simpa using hA), if_neg (by simpa using hB)] at hQ
    by_cases h : C2 = 0
    · obtain ⟨pc, hpc⟩ := bR (bJ (fC h).1)
      obtain ⟨pb, hpb⟩ := bR (bJ (fB hB).1)
      obtain ⟨pa, hpa⟩ := bR (bJ (fA hA).1)
      rw [hpc] at c3 ⊢
      rw [hpa, hpb]
      have h' := h
      rw [h] at c3
      clear fA fB fC hQ
      repeat' (first | refine aE ?_ | (refine aG ?_;  first | refine aB tabOk rfl rfl rfl (nb rfl) rfl ?_ | (refine aI rfl rfl rfl (nb rfl) rfl rfl rfl (fun hq => ?_) (fun hq => ?_) <;> (first | (simp only [sD, sE, sB, sC, sN, sM, sT, sF] at hq; try (exfalso; omega)) | skip)) | refine aD rfl rfl (nb rfl) rfl rfl rfl rfl (c3) ?_ | refine cI tabOk rfl rfl rfl (nb rfl) rfl rfl rfl rfl rfl rfl rfl (by first | omega | decide) rfl (by first | omega | (dsimp only; omega)) (by first | omega | (dsimp only; omega)) ?_ | refine bO rfl rfl rfl (nb rfl) rfl rfl (by omega) ?_ | refine bS tabOk rfl rfl rfl (nb rfl) rfl rfl rfl rfl rfl rfl rfl rfl rfl ?_ | refine bB tabOk rfl rfl rfl (nb rfl) rfl rfl rfl rfl (by first | assumption | omega) ?_) | (refine aK ?_;  first | refine aF ?_ | refine aL ?_ | refine bD ?_ | refine aR ?_ | refine aS ?_ | refine aC (b := true) rfl (fun _ => ?_) nTf | refine aC (b := false) rfl nFt (fun _ => ?_)) | (refine aJ ?_;  first | refine aU ?_) | (refine aP ?_;  first | refine bM ?_))
      all_goals first
        | (exfalso; omega)
        | exact absurd rfl (by assumption)
        | exact ⟨⟨3, by omega, fun _ => hA, fun _ => hB, fun _ => h'⟩, (by show 3 - 3 < 3 - 2; omega), (bT (by repeat' first | exact trivial | refine ⟨rfl, ?_⟩) (by repeat' first | exact trivial | refine ⟨rfl, ?_⟩))⟩
    · rw [if_pos h] at hQ
      subst hQ
      generalize A1.iv = ai at *
      generalize B1.iv = bi at *
      generalize C1.iv = ci at *
      clear fA fB fC
      repeat' (first | refine aE ?_ | (refine aG ?_;  first | refine aB tabOk rfl rfl rfl (nb rfl) rfl ?_ | (refine aI rfl rfl rfl (nb rfl) rfl rfl rfl (fun hq => ?_) (fun hq => ?_) <;> (first | (simp only [sD, sE, sB, sC, sN, sM, sT, sF] at hq; try (exfalso; omega)) | skip)) | refine aD rfl rfl (nb rfl) rfl rfl rfl rfl (c3) ?_ | refine bB tabOk rfl rfl rfl (nb rfl) rfl rfl rfl rfl (by first | assumption | omega) ?_) | (refine aK ?_;  first | refine aF ?_ | refine aL ?_ | refine aR ?_ | refine aM ?_ | refine aS ?_ | refine aC (b := true) rfl (fun _ => ?_) nTf) | (refine aJ ?_;  first | refine aU ?_ | refine aN ?_) | (refine aP ?_;  first | refine aX ?_))
      all_goals first | (exfalso; omega) | exact absurd rfl (by assumption) | (refine cN (aO (by first | exact .inl rfl | exact .inr rfl) (aV rfl (aA rfl) (aA rfl)) rfl ?_); rfl)
  | 3, _ =>
    have hA := i1 (by omega)
    have hB := i2 (by omega)
    have hC := i3 (by omega)
    rw [if_neg (by simpa using hA), if_neg (by simpa using hB), if_neg (by simpa using hC)] at hQ
    obtain ⟨gc, gc2⟩ := fC hC
    obtain ⟨gb, gb2⟩ := fB hB
    have ga := (fA hA).1
    have cs := iQ B1 C1 (.inr gb) (.inr gc) gb2 gc2
    obtain ⟨pc, hpc⟩ := bR (bJ gc)
    obtain ⟨pb, hpb⟩ := bR (bJ gb)
    obtain ⟨k1, n1, a1, b1, ks1, rfl⟩ := bY ga
    rw [hpb, hpc] at cs
    rw [hpb, hpc, Tree.iv]
    rw [Tree.kind] at hQ
    generalize Tree.ivs ks1 = Z at *
    clear fA fB fC c1 c2 c3
    refine cP (cM (g := 500) rfl (by repeat' first | exact trivial | exact fun _ => rfl | refine ⟨?_, ?_⟩) (by repeat' first | exact trivial | exact fun _ => rfl | refine ⟨?_, ?_⟩)) ?_
    show AWP _ _ _ _ _ (S.f ⟨[(16, .imm (.lit (.int .i64 ((3 : Nat) : Int)))), (15, .imm (.lit (.int .i64 3))), (14, .imm (.sl false 3 [.ptr px 0, .ptr py 0, .ptr pz 0])), (2, .imm (.ptr [.sl false kl KI, .sl false tl TI] 0)), (6, .imm (.sl false 3 [.ptr [.lit (.int .i64 k1), .lit (.int .i64 n1), .lit (.string a1), .lit (.string b1), .sl false ks1.length Z] 0, .ptr pb 0, .ptr pc 0]))], []⟩)
    by_cases h1 : k1 = 112
    · subst h1
      cases hs : sameP B1 C1 with
      | true =>
        rw [hs] at cs hQ
        rw [if_neg (by simp)] at hQ
        subst hQ
        dsimp only
        rw [hpb]
        repeat' (first | refine aE ?_ | (refine aG ?_;  first | refine aB tabOk rfl rfl rfl (nb rfl) rfl ?_ | (refine aI rfl rfl rfl (nb rfl) rfl rfl rfl (fun hq => ?_) (fun hq => ?_) <;> (first | (simp only [sD, sE, sB, sC, sN, sM, sT, sF] at hq; try (exfalso; omega)) | skip)) | refine aD rfl rfl (nb rfl) rfl rfl rfl rfl (cs) ?_ | refine bB tabOk rfl rfl rfl (nb rfl) rfl rfl rfl rfl (by first | assumption | omega) ?_ | refine aY tabOk rfl rfl rfl (nb rfl) rfl rfl rfl rfl (by first | rfl | omega) (by first | omega | simp) ?_) | (refine aK ?_;  first | refine aF ?_ | refine aL ?_ | refine aM ?_ | refine bQ ?_ | refine aS ?_ | refine aC (b := false) rfl nFt (fun _ => ?_) | refine aQ mixed (by kernel_rfl) ?_) | (refine aJ ?_;  first | refine aU ?_ | refine bH ?_) | (refine aP ?_;  first | refine bE ?_) | refine bC (aZ (by kernel_rfl)) ?_)
        all_goals first | (exfalso; omega) | exact absurd rfl (by assumption) | (refine cN (aO (by first | exact .inl rfl | exact .inr rfl) (aV rfl (aA rfl) (aA rfl)) rfl ?_); rfl)
      | false =>
        rw [hs] at cs hQ
        rw [if_pos (.inr rfl)] at hQ
        subst hQ
        repeat' (first | refine aE ?_ | (refine aG ?_;  first | refine aB tabOk rfl rfl rfl (nb rfl) rfl ?_ | (refine aI rfl rfl rfl (nb rfl) rfl rfl rfl (fun hq => ?_) (fun hq => ?_) <;> (first | (simp only [sD, sE, sB, sC, sN, sM, sT, sF] at hq; try (exfalso; omega)) | skip)) | refine aD rfl rfl (nb rfl) rfl rfl rfl rfl (cs) ?_ | refine bB tabOk rfl rfl rfl (nb rfl) rfl rfl rfl rfl (by first | assumption | omega) ?_ | refine aY tabOk rfl rfl rfl (nb rfl) rfl rfl rfl rfl (by first | rfl | omega) (by first | omega | simp) ?_) | (refine aK ?_;  first | refine aF ?_ | refine aL ?_ | refine aM ?_ | refine bQ ?_ | refine aC (b := true) rfl (fun _ => ?_) nTf | refine aC (b := false) rfl nFt (fun _ => ?_) | refine aQ mixed (by kernel_rfl) ?_) | (refine aJ ?_;  first | refine aU ?_ | refine bH ?_ | refine aN ?_) | (refine aP ?_;  first | refine bE ?_) | refine bC (aZ (by kernel_rfl)) ?_)
        all_goals first | (exfalso; omega) | exact absurd rfl (by assumption) | (refine cN (aO (by first | exact .inl rfl | exact .inr rfl) (aV rfl (aA rfl) (aA rfl)) rfl ?_); rfl)
    · rw [if_pos (.inl h1)] at hQ
      subst hQ
      repeat' (first | refine aE ?_ | (refine aG ?_;  first | refine aB tabOk rfl rfl rfl (nb rfl) rfl ?_ | refine bL rfl rfl (nb rfl) ?_ | (refine aI rfl rfl rfl (nb rfl) rfl rfl rfl (fun hq => ?_) (fun hq => ?_) <;> (first | (simp only [sD, sE, sB, sC, sN, sM, sT, sF] at hq; try (exfalso; omega)) | skip)) | refine aY tabOk rfl rfl rfl (nb rfl) rfl rfl rfl rfl (by first | rfl | omega) (by first | omega | simp) ?_) | (refine aK ?_;  first | refine aF ?_ | refine aL ?_ | refine aM ?_ | refine bQ ?_ | refine aC (b := true) rfl (fun _ => ?_) nTf | refine aC (b := false) rfl nFt (fun _ => ?_) | refine aQ mixed (by kernel_rfl) ?_) | (refine aJ ?_;  first | refine aU ?_ | refine bH ?_ | refine aN ?_) | (refine aP ?_;  first | refine bE ?_) | refine bC (aZ (by kernel_rfl)) ?_)
      all_goals first | (exfalso; omega) | exact absurd rfl (by assumption) | (refine cN (aO (by first | exact .inl rfl | exact .inr rfl) (aV rfl (aA rfl) (aA rfl)) rfl ?_); rfl)
  | j + 4, h => omega
end
end Go.Proofs.YtocaohipfiapkaaGreatDoor.Ab
namespace Go.Proofs.YtocaohipfiapkaaGreatDoor.Ab
set_option linter.unusedVariables false
set_option linter.unusedSimpArgs false
open Go.RowKit
attribute [local irreducible] AWP AOps AExit AThen ABlock ANoGoto FeetOk
theorem aBy (ks ts : List Tree) : ∀ l : List Tree, (ofRec l ks ts).2 ≠ 0 → (ofRec l ks ts).1 = []
  | [], h => by rw [ofRec] at h; exact absurd rfl h
  | t :: l, h => by
    rw [ofRec] at h ⊢
    unfold consP at h ⊢
    split
    · rfl
    · rename_i h1
      rw [if_neg h1] at h
      split
      · rfl
      · rename_i h2; rw [if_neg h2] at h; exact absurd rfl h
section
variable (kl tl : Nat) (KI TI : List IV)
set_option maxHeartbeats 16000000 in
set_option maxRecDepth 10000 in
theorem aEG (k n : Int) (a b : ByteArray) (kids ks ts : List Tree) (hkl : kids.length ≤ 100000000)
    (hf : ∀ t ∈ kids, ∃ a' x, t = .node 137 0 a' emptyB [x] ∧ x.whole = true ∧ fineW (ofP x ks ts) ∧ ACalls Tryz.prog 45 [.imm (IV.agg [.sl false kl KI, .sl false tl TI]), .imm x.iv] [] (.imm (.tup [(ofP x ks ts).1.iv, .lit (.int .i64 (ofP x ks ts).2)])) []) :
    ACalls Tryz.prog 99 [.imm (IV.agg [.sl false kl KI, .sl false tl TI]), .imm (Tree.iv (.node k n a b kids))] [] (.imm (.tup [(rec1 (ofRec kids ks ts)).1.iv, .lit (.int .i64 (rec1 (ofRec kids ks ts)).2)])) [] := by
  have hQ0 := oC (ofRec kids ks ts) (aBy ks ts kids)
  generalize hQ : ofRec kids ks ts = Q at *
  have c0 := aEh 115
  rw [Tree.iv]
  refine cK Tryz.func99 rfl rfl (nb rfl) rfl ?_
  refine cP (eH 600 (by simp) rfl rfl) ?_
  repeat' (first | refine aE ?_ | (refine aG ?_;  first | refine aB tabOk rfl rfl rfl (nb rfl) rfl ?_ | refine bW rfl rfl (nb rfl) rfl rfl rfl rfl c0 (by exact ⟨rfl, trivial⟩) rfl (by simp) ?_ | refine aT tabOk rfl rfl (nb rfl) rfl ?_) | (refine aK ?_;  first | refine aF ?_ | refine aL ?_ | refine aR ?_))
  refine cP (fH (h0 := 600) (k0 := 4) 500 25 1 rfl rfl (by simp) rfl rfl) ?_
  refine bZ (ι := {p : Nat × List Tree // p.1 ≤ kids.length ∧ p.2.length = p.1 ∧ accP p.2 (ofRec (kids.drop p.1) ks ts) = Q}) (fun p => S.f ⟨[(17, .imm (.lit (.int .i64 (p.1.1 : Int)))), (16, .imm (.lit (.int .i64 (kids.length : Int)))), (15, .imm (.sl false kids.length (Tree.ivs kids))), (2, .imm (.ptr [.sl false kl KI, .sl false tl TI] 0)), (6, .obj 600 0)], [(500, .arr 25 1 p.1.1 (Tree.ivs p.1.2)), (600, .cells [.imm (.lit (.int .i64 115)), .imm (.lit (.int .i64 0)), .imm (.lit (.string ⟨#[]⟩)), .imm (.lit (.string ⟨#[]⟩)), .ref 500 p.1.1])]⟩) (fun p => kids.length - p.1.1) ⟨(0, []), Nat.zero_le _, rfl, by rw [List.drop_zero, hQ]; exact hQ0⟩ (bT (by repeat' first | exact trivial | refine ⟨rfl, ?_⟩) (by repeat' first | exact trivial | refine ⟨rfl, ?_⟩)) ?_
  clear hQ0 c0
  rintro ⟨⟨j, acc⟩, hj, hal, hac⟩
  dsimp only at hj hal hac ⊢
  by_cases hlt : j < kids.length
  · have hget := cC kids j hlt
    obtain ⟨a', x, et, hx, hfx, c2⟩ := hf _ (List.getElem_mem hlt)
    obtain ⟨px, hpx⟩ := bR (bJ hx)
    rw [List.drop_eq_getElem_cons hlt, ofRec, et] at hac
    rw [show ofField (.node 137 0 a' emptyB [x]) ks ts = field1 a' (ofP x ks ts) by rw [ofField, ofH]] at hac
    rw [et, iF 137 0 a' emptyB hpx] at hget
    rw [hpx] at c2
    unfold field1 at hac
    generalize ofP x ks ts = R at *
    obtain ⟨R1, R2⟩ := R
    unfold fineW at hfx
    dsimp only at *
    by_cases h0 : R2 = 0
    · rw [if_neg (by simpa using h0), oB rfl] at hac
      obtain ⟨g1, _⟩ := hfx h0
      obtain ⟨pr, hpr⟩ := bR (bJ g1)
      subst h0
      rw [hpr] at c2
      have hnx : Tree.ivs (acc ++ [.node 116 0 a' emptyB [R1]]) = Tree.ivs acc ++ [.ptr [.lit (.int .i64 116), .lit (.int .i64 0), .lit (.string a'), .lit (.string emptyB), .sl false 1 [.ptr pr 0]] 0] := by rw [dC, dC, List.map_append, List.map_cons, iF 116 0 a' emptyB hpr]; rfl
      have hil := dG acc
      rw [hal] at hil
      generalize hAI : Tree.ivs acc = AI at *
      clear hf hfx
      repeat' (first | refine aE ?_ | (refine aG ?_;  first | refine aB tabOk rfl rfl rfl (nb rfl) rfl ?_ | (refine aI rfl rfl rfl (nb rfl) rfl rfl rfl (fun hq => ?_) (fun hq => ?_) <;> (first | (simp only [sD, sE, sB, sC, sN, sM, sT, sF] at hq; try (exfalso; omega)) | skip)) | refine bA tabOk rfl rfl rfl (nb rfl) rfl rfl rfl hget ?_ | refine aD rfl rfl (nb rfl) rfl rfl rfl rfl (c2) ?_ | refine cI tabOk rfl rfl rfl (nb rfl) rfl rfl rfl rfl rfl rfl rfl (by first | omega | decide) rfl (by first | omega | (dsimp only; omega)) (by first | omega | (dsimp only; omega)) ?_ | refine bO rfl rfl rfl (nb rfl) rfl rfl (by omega) ?_ | refine bS tabOk rfl rfl rfl (nb rfl) rfl rfl rfl rfl rfl rfl rfl rfl rfl ?_ | refine aT tabOk rfl rfl (nb rfl) rfl ?_ | refine bK tabOk rfl rfl rfl (nb rfl) rfl rfl rfl rfl ?_ | refine bG tabOk rfl rfl rfl rfl rfl rfl rfl rfl rfl rfl rfl ?_ | refine bB tabOk rfl rfl rfl (nb rfl) rfl rfl rfl rfl (by first | assumption | omega) ?_ | refine aY tabOk rfl rfl rfl (nb rfl) rfl rfl rfl rfl (by first | rfl | omega) (by first | omega | simp) ?_) | (refine aK ?_;  first | refine aF ?_ | refine aL ?_ | refine bD ?_ | refine aR ?_ | refine aS ?_ | refine aC (b := true) rfl (fun _ => ?_) nTf | refine aC (b := false) rfl nFt (fun _ => ?_) | refine aQ mixed (by kernel_rfl) ?_) | (refine aJ ?_;  first | refine aU ?_) | (refine aP ?_;  first | refine bM ?_) | refine bC (aZ (by kernel_rfl)) ?_)
      all_goals first
        | (exfalso; omega)
        | exact absurd rfl (by assumption)
        | (refine ⟨⟨(j + 1, acc ++ [.node 116 0 a' emptyB [R1]]), hlt, by rw [List.length_append, hal]; rfl, hac⟩, (by show kids.length - (j + 1) < kids.length - j; omega), ?_⟩; dsimp only; rw [hnx]; exact (bT (by repeat' first | exact trivial | refine ⟨rfl, ?_⟩) (by repeat' first | exact trivial | refine ⟨rfl, ?_⟩)))
    · rw [if_pos h0, rP h0] at hac
      generalize R1.iv = ri at *
      subst hac
      unfold rec1
      dsimp only
      rw [if_pos h0]
      clear hf hfx
      generalize Tree.ivs acc = AI at *
      repeat' (first | refine aE ?_ | (refine aG ?_;  first | refine aB tabOk rfl rfl rfl (nb rfl) rfl ?_ | (refine aI rfl rfl rfl (nb rfl) rfl rfl rfl (fun hq => ?_) (fun hq => ?_) <;> (first | (simp only [sD, sE, sB, sC, sN, sM, sT, sF] at hq; try (exfalso; omega)) | skip)) | refine bA tabOk rfl rfl rfl (nb rfl) rfl rfl rfl hget ?_ | refine aD rfl rfl (nb rfl) rfl rfl rfl rfl (c2) ?_ | refine bB tabOk rfl rfl rfl (nb rfl) rfl rfl rfl rfl (by first | assumption | omega) ?_ | refine aY tabOk rfl rfl rfl (nb rfl) rfl rfl rfl rfl (by first | rfl | omega) (by first | omega | simp) ?_) | (refine aK ?_;  first | refine aF ?_ | refine aL ?_ | refine aR ?_ | refine aM ?_ | refine aS ?_ | refine aC (b := true) rfl (fun _ => ?_) nTf | refine aQ mixed (by kernel_rfl) ?_) | (refine aJ ?_;  first | refine aU ?_ | refine aN ?_) | (refine aP ?_;  first | refine aX ?_) | refine bC (aZ (by kernel_rfl)) ?_)
      all_goals first
        | (exfalso; omega)
        | exact absurd rfl (by assumption)
        | (refine cN (aO (by first | exact .inl rfl | exact .inr rfl) (aV rfl (aA rfl) (aA rfl)) rfl ?_); rfl)
  · have ej : j = kids.length := by omega
    subst ej
    rw [List.drop_length, show ofRec [] ks ts = ([], 0) by rw [ofRec], rQ] at hac
    subst hac
    unfold rec1
    dsimp only
    rw [if_neg (by simp)]
    have e : (tyT 115 acc).iv = .ptr [.lit (.int .i64 115), .lit (.int .i64 0), .lit (.string ⟨#[]⟩), .lit (.string ⟨#[]⟩), .sl false kids.length (Tree.ivs acc)] 0 := by unfold tyT; rw [Tree.iv, hal]; rfl
    rw [e]
    generalize Tree.ivs acc = AI at *
    generalize Tree.ivs kids = ZI at *
    clear hf
    repeat' (first | refine aE ?_ | (refine aG ?_;  first | refine aB tabOk rfl rfl rfl (nb rfl) rfl ?_ | (refine aI rfl rfl rfl (nb rfl) rfl rfl rfl (fun hq => ?_) (fun hq => ?_) <;> (first | (simp only [sD, sE, sB, sC, sN, sM, sT, sF] at hq; try (exfalso; omega)) | skip))) | (refine aK ?_;  first | refine aF ?_ | refine aL ?_ | refine aM ?_ | refine bQ ?_ | refine aC (b := false) rfl nFt (fun _ => ?_)) | (refine aJ ?_;  first | refine aU ?_ | refine bH ?_) | (refine aP ?_;  first | refine bE ?_))
    all_goals first
      | (exfalso; omega)
      | exact absurd rfl (by assumption)
      | (refine dS ((Imp.of_le (σ' := S.f ⟨[(4, .obj 600 0), (5, .imm (.lit (.int .i64 0)))], [(500, .arr 25 1 kids.length AI), (600, .cells [.imm (.lit (.int .i64 115)), .imm (.lit (.int .i64 0)), .imm (.lit (.string ⟨#[]⟩)), .imm (.lit (.string ⟨#[]⟩)), .ref 500 kids.length])]⟩) (bT (by repeat' first | exact trivial | refine ⟨rfl, ?_⟩) (by repeat' first | exact trivial | refine ⟨rfl, ?_⟩))).trans ((cM (g := 500) rfl (by repeat' first | exact trivial | exact fun _ => rfl | refine ⟨?_, ?_⟩) (by repeat' first | exact trivial | exact fun _ => rfl | refine ⟨?_, ?_⟩)).trans (dU (g := 600) rfl rfl))) ?_
         refine aO (by first | exact .inl rfl | exact .inr rfl) (aV rfl (aA rfl) (aA rfl)) rfl ?_; rfl)
end
end Go.Proofs.YtocaohipfiapkaaGreatDoor.Ab
namespace Go.Proofs.YtocaohipfiapkaaGreatDoor.Ab
set_option linter.unusedVariables false
set_option linter.unusedSimpArgs false
open Go.RowKit
attribute [local irreducible] AWP AOps AExit AThen ABlock ANoGoto FeetOk
theorem zJ (ks ts : List Tree) (self : Tree) : ∀ l cs : List Tree, (ofArms l cs self ks ts).2 ≠ 0 → (ofArms l cs self ks ts).1 = []
  | [], cs, h => by rw [ofArms] at h; exact absurd rfl h
  | t :: l, cs, h => by
    rw [ofArms] at h ⊢
    unfold arm1 at h ⊢
    split
    · rfl
    · rename_i h1
      rw [if_neg h1] at h
      unfold consP at h ⊢
      split
      · rfl
      · rename_i h2
        rw [if_neg h2] at h
        split
        · rfl
        · rename_i h3; rw [if_neg h3] at h; exact absurd rfl h
/-- The arms' types, and the error. -/
def armsIV (R : List Tree × Int) : IV := .tup [if R.2 = 0 then .sl false R.1.length (Tree.ivs R.1) else .lit (.slice none 0 0), .lit (.int .i64 R.2)]
theorem pD : ∀ l m : List Tree, namesEq l m = true → l.length = m.length
  | [], [], _ => rfl
  | t :: l, u :: m, h => by
    rw [namesEq, Bool.and_eq_true] at h
    rw [List.length_cons, List.length_cons, pD l m h.2]
  | [], _ :: _, h => by simp [namesEq] at h
  | _ :: _, [], h => by simp [namesEq] at h
set_option maxHeartbeats 16000000 in
set_option maxRecDepth 10000 in
theorem aCL (n : Int) (a b : ByteArray) (cs l ks ts : List Tree) (self : Tree) (hcl : cs.length ≤ 100000000) (hll : l.length ≤ 100000000) (htl : ts.length ≤ 900000) (hsw : self.whole = true) (hss : self.size ≤ 100000000)
    (hcs : ∀ c ∈ cs, ∃ k' n' a' b' y, c = .node k' n' a' b' [y] ∧ y.whole = true ∧ y.size ≤ 100000000)
    (hl : ∀ t ∈ l, ∃ a' x, t = .node 149 0 a' emptyB [x] ∧ x.whole = true ∧ ∀ T : Tree, T.whole = true → T.size ≤ 100000000 → fineW (ofP x ks (T :: ts)) ∧ ACalls Tryz.prog 45 [.imm (cIV ks (T :: ts)), .imm x.iv] [] (.imm (.tup [(ofP x ks (T :: ts)).1.iv, .lit (.int .i64 (ofP x ks (T :: ts)).2)])) []) :
    ACalls Tryz.prog 127 [.imm (cIV ks ts), .imm (Tree.iv (.node 121 n a b cs)), .imm self.iv, .imm (.sl false l.length (Tree.ivs l))] [] (.imm (armsIV (arms1 (.node 121 n a b cs) l (ofArms l cs self ks ts)))) [] := by
  have hwc : ∀ c ∈ cs, c.whole = true := fun c hc => by
    obtain ⟨k', n', a', b', y, rfl, hy, _⟩ := hcs c hc
    show Tree.wholes [y] = true
    rw [Tree.wholes, hy]; rfl
  have hwl : ∀ t ∈ l, t.whole = true := fun c hc => by
    obtain ⟨a', y, rfl, hy, _⟩ := hl c hc
    show Tree.wholes [y] = true
    rw [Tree.wholes, hy]; rfl
  have c1 := aDJ cs l hcl hll hwc hwl
  unfold arms1
  rw [kidsOf, Tree.iv]
  have hty : ∀ T : Tree, T.whole = true → ACalls Tryz.prog 75 [.imm (cIV ks ts), .imm T.iv] [] (.imm (cIV ks (T :: ts))) [] := fun T hT => aCH ks ts T hT htl
  obtain ⟨ps, hps⟩ := bR (bJ hsw)
  rw [hps]
  unfold cIV at *
  cases hne : namesEq cs l with
  | false =>
    rw [hne] at c1
    rw [if_pos rfl]
    generalize Tree.ivs ks = KI at *
    generalize Tree.ivs ts = TI at *
    generalize Tree.ivs cs = CI at *
    generalize Tree.ivs l = LI at *
    clear hwc hwl hcs hl hty
    refine aH Tryz.func127 rfl rfl (nb rfl) rfl ?_
    repeat' (first | refine aE ?_ | (refine aG ?_;  first | refine aB tabOk rfl rfl rfl (nb rfl) rfl ?_ | refine aD rfl rfl (nb rfl) rfl rfl rfl rfl (c1) ?_ | refine aT tabOk rfl rfl (nb rfl) rfl ?_) | (refine aK ?_;  first | refine aF ?_ | refine aL ?_ | refine aM ?_ | refine aC (b := true) rfl (fun _ => ?_) nTf) | (refine aJ ?_;  first | refine aN ?_))
    all_goals first | (exfalso; omega) | exact absurd rfl (by assumption) | (refine aO (by first | exact .inl rfl | exact .inr rfl) (aV rfl (aA rfl) (aA rfl)) rfl ?_; rfl)
  | true =>
    have hlen := pD cs l hne
    rw [hne] at c1
    rw [if_neg (by simp)]
    have hQ0 := oC (ofArms l cs self ks ts) (zJ ks ts self l cs)
    generalize hQ : ofArms l cs self ks ts = Q at *
    refine cK Tryz.func127 rfl rfl (nb rfl) rfl ?_
    repeat' (first | refine aE ?_ | (refine aG ?_;  first | refine aB tabOk rfl rfl rfl (nb rfl) rfl ?_ | refine aD rfl rfl (nb rfl) rfl rfl rfl rfl (c1) ?_ | refine aT tabOk rfl rfl (nb rfl) rfl ?_) | (refine aK ?_;  first | refine aF ?_ | refine aL ?_ | refine aR ?_ | refine aS ?_ | refine aC (b := false) rfl nFt (fun _ => ?_)) | (refine aJ ?_;  first | refine aU ?_))
    all_goals try (exfalso; exact absurd rfl (by assumption))
    refine cP (mL (t := 10) 500 25 1 rfl (by simp) rfl rfl) ?_
    refine bZ (ι := {p : Nat × List Tree // p.1 ≤ l.length ∧ p.2.length = p.1 ∧ accP p.2 (ofArms (l.drop p.1) (cs.drop p.1) self ks ts) = Q}) (fun p => S.f ⟨[(25, .imm (.lit (.int .i64 (p.1.1 : Int)))), (24, .imm (.lit (.int .i64 (l.length : Int)))), (23, .imm (.sl false l.length (Tree.ivs l))), (4, .imm (.ptr [.sl false ks.length (Tree.ivs ks), .sl false ts.length (Tree.ivs ts)] 0)), (1, .imm (.ptr [.lit (.int .i64 121), .lit (.int .i64 n), .lit (.string a), .lit (.string b), .sl false cs.length (Tree.ivs cs)] 0)), (2, .imm (.ptr ps 0)), (10, .ref 500 p.1.1)], [(500, .arr 25 1 p.1.1 (Tree.ivs p.1.2))]⟩) (fun p => l.length - p.1.1) ⟨(0, []), Nat.zero_le _, rfl, by rw [List.drop_zero, List.drop_zero, hQ]; exact hQ0⟩ (bT (by repeat' first | exact trivial | refine ⟨rfl, ?_⟩) (by repeat' first | exact trivial | refine ⟨rfl, ?_⟩)) ?_
    clear hQ0 c1
    rintro ⟨⟨j, acc⟩, hj, hal, hac⟩
    dsimp only at hj hal hac ⊢
    by_cases hlt : j < l.length
    · have hltc : j < cs.length := by omega
      have hget := cC l j hlt
      have hgetc := cC cs j hltc
      obtain ⟨a', x, et, hx, hfx⟩ := hl _ (List.getElem_mem hlt)
      obtain ⟨k1, n1, a1, b1, y, ec, hy, hys⟩ := hcs _ (List.getElem_mem hltc)
      obtain ⟨px, hpx⟩ := bR (bJ hx)
      obtain ⟨py, hpy⟩ := bR (bJ hy)
      rw [List.drop_eq_getElem_cons hlt, List.drop_eq_getElem_cons hltc, ofArms, et, ec] at hac
      rw [List.headD_cons, List.tail_cons, show kid0 (.node k1 n1 a1 b1 [y]) = y from rfl] at hac
      rw [et, iF 149 0 a' emptyB hpx] at hget
      rw [ec, iF k1 n1 a1 b1 hpy] at hgetc
      have c2 := nB y self hys hss
      have hff := fV y self
      rw [hpy, hps] at c2
      unfold arm1 at hac
      generalize filledP y self = A at *
      obtain ⟨A1, A2⟩ := A
      unfold fineT at hff
      dsimp only at *
      by_cases h0 : A2 = 0
      · obtain ⟨_, w1, w2⟩ := hff h0
        have c3 := hty A1 w1
        obtain ⟨hfw, c4⟩ := hfx A1 w1 w2
        rw [show ofArm (.node 149 0 a' emptyB [x]) ks (A1 :: ts) = ofP x ks (A1 :: ts) by rw [ofArm, ofH], if_neg (by simpa using h0)] at hac
        rw [hpx] at c4
        rw [Tree.ivs, List.length_cons] at c3 c4
        subst h0
        generalize ofP x ks (A1 :: ts) = R at *
        obtain ⟨R1, R2⟩ := R
        obtain ⟨pa, hpa⟩ := bR (bJ w1)
        rw [hpa] at c2 c3 c4
        unfold fineW at hfw
        dsimp only at *
        by_cases h1 : R2 = 0
        · rw [oB h1] at hac
          obtain ⟨pr, hpr⟩ := bR (bJ (hfw h1).1)
          subst h1
          rw [hpr] at c4
          have hnx : Tree.ivs (acc ++ [R1]) = Tree.ivs acc ++ [.ptr pr 0] := by rw [dC, dC, List.map_append, List.map_cons, hpr]; rfl
          have hil := dG acc
          rw [hal] at hil
          generalize hAI : Tree.ivs acc = AI at *
          clear hl hcs hwc hwl hty hfx hff hfw
          repeat' (first | refine aE ?_ | (refine aG ?_;  first | refine aB tabOk rfl rfl rfl (nb rfl) rfl ?_ | (refine aI rfl rfl rfl (nb rfl) rfl rfl rfl (fun hq => ?_) (fun hq => ?_) <;> (first | (simp only [sD, sE, sB, sC, sN, sM, sT, sF] at hq; try (exfalso; omega)) | skip)) | refine bA tabOk rfl rfl rfl (nb rfl) rfl rfl rfl hget ?_ | refine bA tabOk rfl rfl rfl (nb rfl) rfl rfl rfl hgetc ?_ | refine aD rfl rfl (nb rfl) rfl rfl rfl rfl (c2) ?_ | refine aD rfl rfl (nb rfl) rfl rfl rfl rfl (c3) ?_ | refine aD rfl rfl (nb rfl) rfl rfl rfl rfl (c4) ?_ | refine cI tabOk rfl rfl rfl (nb rfl) rfl rfl rfl rfl rfl rfl rfl (by first | omega | decide) rfl (by first | omega | (dsimp only; omega)) (by first | omega | (dsimp only; omega)) ?_ | refine bO rfl rfl rfl (nb rfl) rfl rfl (by omega) ?_ | refine bS tabOk rfl rfl rfl (nb rfl) rfl rfl rfl rfl rfl rfl rfl rfl rfl ?_ | refine bB tabOk rfl rfl rfl (nb rfl) rfl rfl rfl rfl (by first | assumption | omega) ?_ | refine aY tabOk rfl rfl rfl (nb rfl) rfl rfl rfl rfl (by first | rfl | omega) (by first | omega | simp) ?_) | (refine aK ?_;  first | refine aF ?_ | refine aL ?_ | refine bD ?_ | refine aR ?_ | refine aS ?_ | refine aC (b := true) rfl (fun _ => ?_) nTf | refine aC (b := false) rfl nFt (fun _ => ?_) | refine aQ mixed (by kernel_rfl) ?_) | (refine aJ ?_;  first | refine aU ?_) | (refine aP ?_;  first | refine bM ?_) | refine bC (aZ (by kernel_rfl)) ?_)
          all_goals first
            | (exfalso; omega)
            | exact absurd rfl (by assumption)
            | (refine ⟨⟨(j + 1, acc ++ [R1]), hlt, by rw [List.length_append, hal]; rfl, hac⟩, (by show l.length - (j + 1) < l.length - j; omega), ?_⟩; dsimp only; rw [hnx]; exact (bT (by repeat' first | exact trivial | refine ⟨rfl, ?_⟩) (by repeat' first | exact trivial | refine ⟨rfl, ?_⟩)))
        · rw [rP h1] at hac
          generalize R1.iv = ri at *
          subst hac
          unfold armsIV
          dsimp only
          rw [if_neg h1]
          clear hl hcs hwc hwl hty hfx hff hfw
          generalize Tree.ivs acc = AI at *
          repeat' (first | refine aE ?_ | (refine aG ?_;  first | refine aB tabOk rfl rfl rfl (nb rfl) rfl ?_ | (refine aI rfl rfl rfl (nb rfl) rfl rfl rfl (fun hq => ?_) (fun hq => ?_) <;> (first | (simp only [sD, sE, sB, sC, sN, sM, sT, sF] at hq; try (exfalso; omega)) | skip)) | refine bA tabOk rfl rfl rfl (nb rfl) rfl rfl rfl hget ?_ | refine bA tabOk rfl rfl rfl (nb rfl) rfl rfl rfl hgetc ?_ | refine aD rfl rfl (nb rfl) rfl rfl rfl rfl (c2) ?_ | refine aD rfl rfl (nb rfl) rfl rfl rfl rfl (c3) ?_ | refine aD rfl rfl (nb rfl) rfl rfl rfl rfl (c4) ?_ | refine bB tabOk rfl rfl rfl (nb rfl) rfl rfl rfl rfl (by first | assumption | omega) ?_ | refine aY tabOk rfl rfl rfl (nb rfl) rfl rfl rfl rfl (by first | rfl | omega) (by first | omega | simp) ?_) | (refine aK ?_;  first | refine aF ?_ | refine aL ?_ | refine aR ?_ | refine aM ?_ | refine aS ?_ | refine aC (b := true) rfl (fun _ => ?_) nTf | refine aC (b := false) rfl nFt (fun _ => ?_) | refine aQ mixed (by kernel_rfl) ?_) | (refine aJ ?_;  first | refine aU ?_ | refine aN ?_) | (refine aP ?_;  first | refine aX ?_) | refine bC (aZ (by kernel_rfl)) ?_)
          all_goals first
            | (exfalso; omega)
            | exact absurd rfl (by assumption)
            | (refine cN (aO (by first | exact .inl rfl | exact .inr rfl) (aV rfl (aA rfl) (aA rfl)) rfl ?_); rfl)
      · rw [if_pos h0] at hac
        unfold accP at hac
        rw [if_pos h0] at hac
        generalize A1.iv = ai at *
        subst hac
        unfold armsIV
        dsimp only
        rw [if_neg h0]
        clear hl hcs hwc hwl hty hfx hff
        generalize Tree.ivs acc = AI at *
        repeat' (first | refine aE ?_ | (refine aG ?_;  first | refine aB tabOk rfl rfl rfl (nb rfl) rfl ?_ | (refine aI rfl rfl rfl (nb rfl) rfl rfl rfl (fun hq => ?_) (fun hq => ?_) <;> (first | (simp only [sD, sE, sB, sC, sN, sM, sT, sF] at hq; try (exfalso; omega)) | skip)) | refine bA tabOk rfl rfl rfl (nb rfl) rfl rfl rfl hget ?_ | refine bA tabOk rfl rfl rfl (nb rfl) rfl rfl rfl hgetc ?_ | refine aD rfl rfl (nb rfl) rfl rfl rfl rfl (c2) ?_ | refine bB tabOk rfl rfl rfl (nb rfl) rfl rfl rfl rfl (by first | assumption | omega) ?_ | refine aY tabOk rfl rfl rfl (nb rfl) rfl rfl rfl rfl (by first | rfl | omega) (by first | omega | simp) ?_) | (refine aK ?_;  first | refine aF ?_ | refine aL ?_ | refine aR ?_ | refine aM ?_ | refine aS ?_ | refine aC (b := true) rfl (fun _ => ?_) nTf) | (refine aJ ?_;  first | refine aU ?_ | refine aN ?_) | (refine aP ?_;  first | refine aX ?_))
        all_goals first
          | (exfalso; omega)
          | exact absurd rfl (by assumption)
          | (refine cN (aO (by first | exact .inl rfl | exact .inr rfl) (aV rfl (aA rfl) (aA rfl)) rfl ?_); rfl)
    · have ej : j = l.length := by omega
      subst ej
      rw [List.drop_length, ofArms, rQ] at hac
      subst hac
      unfold armsIV
      dsimp only
      rw [if_pos rfl, hal]
      generalize Tree.ivs acc = AI at *
      generalize Tree.ivs l = LI at *
      generalize Tree.ivs cs = CI at *
      clear hl hcs hwc hwl hty
      repeat' (first | refine aE ?_ | (refine aG ?_;  first | refine aB tabOk rfl rfl rfl (nb rfl) rfl ?_ | (refine aI rfl rfl rfl (nb rfl) rfl rfl rfl (fun hq => ?_) (fun hq => ?_) <;> (first | (simp only [sD, sE, sB, sC, sN, sM, sT, sF] at hq; try (exfalso; omega)) | skip))) | (refine aK ?_;  first | refine aF ?_ | refine aL ?_ | refine aM ?_ | refine bQ ?_ | refine aC (b := false) rfl nFt (fun _ => ?_)) | (refine aJ ?_;  first | refine aU ?_ | refine bH ?_) | (refine aP ?_;  first | refine bE ?_))
      all_goals first
        | (exfalso; omega)
        | exact absurd rfl (by assumption)
        | (refine dS ((Imp.of_le (σ' := S.f ⟨[(8, .ref 500 l.length), (9, .imm (.lit (.int .i64 0)))], [(500, .arr 25 1 l.length AI)]⟩) (bT (by repeat' first | exact trivial | refine ⟨rfl, ?_⟩) (by repeat' first | exact trivial | refine ⟨rfl, ?_⟩))).trans (cM (g := 500) rfl (by repeat' first | exact trivial | exact fun _ => rfl | refine ⟨?_, ?_⟩) (by repeat' first | exact trivial | exact fun _ => rfl | refine ⟨?_, ?_⟩))) ?_
           refine aO (by first | exact .inl rfl | exact .inr rfl) (aV rfl (aA rfl) (aA rfl)) rfl ?_; rfl)
section
variable (kl tl : Nat) (KI TI : List IV)
set_option maxHeartbeats 8000000 in
set_option maxRecDepth 10000 in
theorem aDK (k n : Int) (a b : ByteArray) (x : Tree) (arms : List Tree) (hx : x.whole = true) (hal : arms.length ≤ 100000000) (R : Tree × Int) (L : List Tree × Int) (fR : fineW R)
    (fL : L.2 = 0 → L.1 ≠ [] ∧ L.1.length ≤ 100000000 ∧ ∀ s ∈ L.1, s.whole = true ∧ s.size ≤ 100000000)
    (c1 : ACalls Tryz.prog 123 [.imm (IV.agg [.sl false kl KI, .sl false tl TI]), .imm x.iv, .imm (.lit (.int .i64 121))] [] (.imm (.tup [(asP R 121).1.iv, .lit (.int .i64 (asP R 121).2)])) [])
    (c2 : (asP R 121).2 = 0 → ACalls Tryz.prog 127 [.imm (IV.agg [.sl false kl KI, .sl false tl TI]), .imm R.1.iv, .imm R.1.iv, .imm (.sl false arms.length (Tree.ivs arms))] [] (.imm (armsIV L)) []) :
    ACalls Tryz.prog 107 [.imm (IV.agg [.sl false kl KI, .sl false tl TI]), .imm (Tree.iv (.node k n a b (x :: arms)))] [] (.imm (.tup [(case1 R L).1.iv, .lit (.int .i64 (case1 R L).2)])) [] := by
  obtain ⟨px, hpx⟩ := bR (bJ hx)
  have hfrom := rB (x :: arms) 1 (by simp)
  rw [Tree.iv, List.length_cons]
  rw [show (x :: arms).drop 1 = arms from rfl, List.length_cons] at hfrom
  rw [Tree.ivs, hpx] at hfrom ⊢
  rw [hpx] at c1
  unfold case1
  by_cases h1 : (asP R 121).2 = 0
  · rw [if_neg (by simpa using h1)]
    replace c2 := c2 h1
    rw [vB h1] at c1
    obtain ⟨h0, hk⟩ := iU h1
    obtain ⟨R1, R2⟩ := R
    obtain ⟨L1, L2⟩ := L
    unfold fineW at fR
    dsimp only at *
    obtain ⟨pr, hpr⟩ := bR (bJ (fR h0).1)
    rw [hpr] at c1 c2
    subst h0
    unfold armsIV at c2
    dsimp only at c2
    by_cases h2 : L2 = 0
    · obtain ⟨f1, f2, f3⟩ := fL h2
      rw [if_pos h2] at c2
      cases L1 with
      | nil => exact absurd rfl f1
      | cons t0 l0 =>
        have c3 := aAt (t0 :: l0) t0 f2 f3 (f3 t0 (by simp)).1 (f3 t0 (by simp)).2
        obtain ⟨p0, hp0⟩ := bR (bJ (f3 t0 (by simp)).1)
        subst h2
        rw [if_neg (by simp), List.headD_cons]
        rw [Tree.ivs, hp0, List.length_cons] at c2 c3
        generalize alikeP (t0 :: l0) t0 = Q at *
        obtain ⟨Q1, Q2⟩ := Q
        dsimp only at *
        generalize Q1.iv = qi at *
        generalize Tree.ivs l0 = LI at *
        generalize Tree.ivs arms = AI at *
        clear fR fL f1 f3 h1
        refine aH Tryz.func107 rfl rfl (nb rfl) rfl ?_
        repeat' (first | refine aE ?_ | (refine aG ?_;  first | refine aB tabOk rfl rfl rfl (nb rfl) rfl ?_ | (refine aI rfl rfl rfl (nb rfl) rfl rfl rfl (fun hq => ?_) (fun hq => ?_) <;> (first | (simp only [sD, sE, sB, sC, sN, sM, sT, sF] at hq; try (exfalso; omega)) | skip)) | refine aD rfl rfl (nb rfl) rfl rfl rfl rfl (c1) ?_ | refine aD rfl rfl (nb rfl) rfl rfl rfl rfl (c2) ?_ | refine aD rfl rfl (nb rfl) rfl rfl rfl rfl (c3) ?_ | refine eK (l := 1) (h := arms.length + 1) tabOk rfl rfl rfl (nb rfl) rfl rfl rfl rfl rfl (by omega) (Nat.le_refl _) hfrom ?_ | refine aT tabOk rfl rfl (nb rfl) rfl ?_ | refine aY tabOk rfl rfl rfl (nb rfl) rfl rfl rfl rfl (by first | rfl | omega) (by first | omega | simp) ?_) | (refine aK ?_;  first | refine aF ?_ | refine aL ?_ | refine aM ?_ | refine aS ?_ | refine aC (b := false) rfl nFt (fun _ => ?_) | refine aQ mixed (by kernel_rfl) ?_) | (refine aJ ?_;  first | refine aU ?_) | refine bC (aZ (by kernel_rfl)) ?_)
        all_goals first | (exfalso; omega) | exact absurd rfl (by assumption) | (refine aO (by first | exact .inl rfl | exact .inr rfl) (aV rfl (aA rfl) (aA rfl)) rfl ?_; rfl)
    · rw [if_pos h2]
      rw [if_neg h2] at c2
      generalize Tree.ivs arms = AI at *
      clear fR fL h1
      refine aH Tryz.func107 rfl rfl (nb rfl) rfl ?_
      repeat' (first | refine aE ?_ | (refine aG ?_;  first | refine aB tabOk rfl rfl rfl (nb rfl) rfl ?_ | (refine aI rfl rfl rfl (nb rfl) rfl rfl rfl (fun hq => ?_) (fun hq => ?_) <;> (first | (simp only [sD, sE, sB, sC, sN, sM, sT, sF] at hq; try (exfalso; omega)) | skip)) | refine aD rfl rfl (nb rfl) rfl rfl rfl rfl (c1) ?_ | refine aD rfl rfl (nb rfl) rfl rfl rfl rfl (c2) ?_ | refine eK (l := 1) (h := arms.length + 1) tabOk rfl rfl rfl (nb rfl) rfl rfl rfl rfl rfl (by omega) (Nat.le_refl _) hfrom ?_ | refine aT tabOk rfl rfl (nb rfl) rfl ?_ | refine aY tabOk rfl rfl rfl (nb rfl) rfl rfl rfl rfl (by first | rfl | omega) (by first | omega | simp) ?_) | (refine aK ?_;  first | refine aF ?_ | refine aL ?_ | refine aM ?_ | refine aS ?_ | refine aC (b := true) rfl (fun _ => ?_) nTf | refine aC (b := false) rfl nFt (fun _ => ?_) | refine aQ mixed (by kernel_rfl) ?_) | (refine aJ ?_;  first | refine aU ?_ | refine aN ?_) | refine bC (aZ (by kernel_rfl)) ?_)
      all_goals first | (exfalso; omega) | exact absurd rfl (by assumption) | (refine aO (by first | exact .inl rfl | exact .inr rfl) (aV rfl (aA rfl) (aA rfl)) rfl ?_; rfl)
  · rw [if_pos h1]
    generalize asP R 121 = Q at *
    obtain ⟨Q1, Q2⟩ := Q
    dsimp only at *
    generalize Q1.iv = qi at *
    generalize Tree.ivs arms = AI at *
    clear fR c2 fL
    refine aH Tryz.func107 rfl rfl (nb rfl) rfl ?_
    repeat' (first | refine aE ?_ | (refine aG ?_;  first | refine aB tabOk rfl rfl rfl (nb rfl) rfl ?_ | (refine aI rfl rfl rfl (nb rfl) rfl rfl rfl (fun hq => ?_) (fun hq => ?_) <;> (first | (simp only [sD, sE, sB, sC, sN, sM, sT, sF] at hq; try (exfalso; omega)) | skip)) | refine aD rfl rfl (nb rfl) rfl rfl rfl rfl (c1) ?_ | refine aT tabOk rfl rfl (nb rfl) rfl ?_ | refine aY tabOk rfl rfl rfl (nb rfl) rfl rfl rfl rfl (by first | rfl | omega) (by first | omega | simp) ?_) | (refine aK ?_;  first | refine aF ?_ | refine aL ?_ | refine aM ?_ | refine aC (b := true) rfl (fun _ => ?_) nTf | refine aQ mixed (by kernel_rfl) ?_) | (refine aJ ?_;  first | refine aU ?_ | refine aN ?_) | refine bC (aZ (by kernel_rfl)) ?_)
    all_goals first | (exfalso; omega) | exact absurd rfl (by assumption) | (refine aO (by first | exact .inl rfl | exact .inr rfl) (aV rfl (aA rfl) (aA rfl)) rfl ?_; rfl)
set_option maxHeartbeats 8000000 in
set_option maxRecDepth 10000 in
theorem aEm (k n : Int) (a b : ByteArray) (x T : Tree) (arms : List Tree) (hx : x.whole = true) (hT : T.whole = true) (hal : arms.length ≤ 100000000) (R A : Tree × Int) (L : List Tree × Int) (fR : fineW R) (fA : fineW A)
    (fL : L.2 = 0 → L.1.length ≤ 100000000 ∧ ∀ s ∈ L.1, s.whole = true ∧ s.size ≤ 100000000)
    (c1 : ACalls Tryz.prog 123 [.imm (IV.agg [.sl false kl KI, .sl false tl TI]), .imm x.iv, .imm (.lit (.int .i64 121))] [] (.imm (.tup [(asP R 121).1.iv, .lit (.int .i64 (asP R 121).2)])) [])
    (c4 : ACalls Tryz.prog 122 [.imm (IV.agg [.sl false kl KI, .sl false tl TI]), .imm T.iv] [] (.imm (.tup [(A).1.iv, .lit (.int .i64 (A).2)])) [])
    (c2 : (asP R 121).2 = 0 → A.2 = 0 → ACalls Tryz.prog 127 [.imm (IV.agg [.sl false kl KI, .sl false tl TI]), .imm R.1.iv, .imm A.1.iv, .imm (.sl false arms.length (Tree.ivs arms))] [] (.imm (armsIV L)) []) :
    ACalls Tryz.prog 108 [.imm (IV.agg [.sl false kl KI, .sl false tl TI]), .imm (Tree.iv (.node k n a b (x :: T :: arms)))] [] (.imm (.tup [(fold1 R A L).1.iv, .lit (.int .i64 (fold1 R A L).2)])) [] := by
  obtain ⟨px, hpx⟩ := bR (bJ hx)
  obtain ⟨pT, hpT⟩ := bR (bJ hT)
  have hfrom := rB (x :: T :: arms) 2 (by simp)
  rw [Tree.iv, List.length_cons, List.length_cons]
  rw [show (x :: T :: arms).drop 2 = arms from rfl, List.length_cons, List.length_cons] at hfrom
  rw [Tree.ivs, Tree.ivs, hpx, hpT] at hfrom ⊢
  rw [hpx] at c1
  rw [hpT] at c4
  unfold fold1
  by_cases h1 : (asP R 121).2 = 0
  · rw [if_neg (by simpa using h1)]
    replace c2 := c2 h1
    rw [vB h1] at c1
    obtain ⟨h0, hk⟩ := iU h1
    obtain ⟨R1, R2⟩ := R
    obtain ⟨L1, L2⟩ := L
    obtain ⟨A1, A2⟩ := A
    unfold fineW at fR fA
    dsimp only at *
    obtain ⟨pr, hpr⟩ := bR (bJ (fR h0).1)
    rw [hpr] at c1 c2
    subst h0
    by_cases h3 : A2 = 0
    · replace c2 := c2 h3
      unfold armsIV at c2
      dsimp only at c2
      obtain ⟨wA, sA⟩ := fA h3
      obtain ⟨pa, hpa⟩ := bR (bJ wA)
      rw [if_neg (by simpa using h3)]
      rw [hpa] at c2 c4
      by_cases h2 : L2 = 0
      · obtain ⟨f2, f3⟩ := fL h2
        rw [if_pos h2] at c2
        have c3 := aAt L1 A1 f2 f3 wA sA
        rw [hpa] at c3
        subst h2 h3
        rw [if_neg (by simp)]
        generalize alikeP L1 A1 = Q at *
        obtain ⟨Q1, Q2⟩ := Q
        dsimp only at *
        generalize Q1.iv = qi at *
        generalize Tree.ivs L1 = LI at *
        generalize Tree.ivs arms = AI at *
        clear fR fL fA f3 h1
        refine aH Tryz.func108 rfl rfl (nb rfl) rfl ?_
        repeat' (first | refine aE ?_ | (refine aG ?_;  first | refine aB tabOk rfl rfl rfl (nb rfl) rfl ?_ | (refine aI rfl rfl rfl (nb rfl) rfl rfl rfl (fun hq => ?_) (fun hq => ?_) <;> (first | (simp only [sD, sE, sB, sC, sN, sM, sT, sF] at hq; try (exfalso; omega)) | skip)) | refine aD rfl rfl (nb rfl) rfl rfl rfl rfl (c1) ?_ | refine aD rfl rfl (nb rfl) rfl rfl rfl rfl (c4) ?_ | refine aD rfl rfl (nb rfl) rfl rfl rfl rfl (c2) ?_ | refine aD rfl rfl (nb rfl) rfl rfl rfl rfl (c3) ?_ | refine eK (l := 2) (h := arms.length + 1 + 1) tabOk rfl rfl rfl (nb rfl) rfl rfl rfl rfl rfl (by omega) (Nat.le_refl _) hfrom ?_ | refine aT tabOk rfl rfl (nb rfl) rfl ?_ | refine aY tabOk rfl rfl rfl (nb rfl) rfl rfl rfl rfl (by first | rfl | omega) (by first | omega | simp) ?_) | (refine aK ?_;  first | refine aF ?_ | refine aL ?_ | refine aM ?_ | refine aS ?_ | refine aC (b := false) rfl nFt (fun _ => ?_) | refine aQ mixed (by kernel_rfl) ?_) | (refine aJ ?_;  first | refine aU ?_) | refine bC (aZ (by kernel_rfl)) ?_)
        all_goals first | (exfalso; omega) | exact absurd rfl (by assumption) | (refine aO (by first | exact .inl rfl | exact .inr rfl) (aV rfl (aA rfl) (aA rfl)) rfl ?_; rfl)
      · rw [if_pos h2]
        rw [if_neg h2] at c2
        subst h3
        generalize Tree.ivs arms = AI at *
        clear fR fL fA h1
        refine aH Tryz.func108 rfl rfl (nb rfl) rfl ?_
        repeat' (first | refine aE ?_ | (refine aG ?_;  first | refine aB tabOk rfl rfl rfl (nb rfl) rfl ?_ | (refine aI rfl rfl rfl (nb rfl) rfl rfl rfl (fun hq => ?_) (fun hq => ?_) <;> (first | (simp only [sD, sE, sB, sC, sN, sM, sT, sF] at hq; try (exfalso; omega)) | skip)) | refine aD rfl rfl (nb rfl) rfl rfl rfl rfl (c1) ?_ | refine aD rfl rfl (nb rfl) rfl rfl rfl rfl (c4) ?_ | refine aD rfl rfl (nb rfl) rfl rfl rfl rfl (c2) ?_ | refine eK (l := 2) (h := arms.length + 1 + 1) tabOk rfl rfl rfl (nb rfl) rfl rfl rfl rfl rfl (by omega) (Nat.le_refl _) hfrom ?_ | refine aT tabOk rfl rfl (nb rfl) rfl ?_ | refine aY tabOk rfl rfl rfl (nb rfl) rfl rfl rfl rfl (by first | rfl | omega) (by first | omega | simp) ?_) | (refine aK ?_;  first | refine aF ?_ | refine aL ?_ | refine aM ?_ | refine aS ?_ | refine aC (b := true) rfl (fun _ => ?_) nTf | refine aC (b := false) rfl nFt (fun _ => ?_) | refine aQ mixed (by kernel_rfl) ?_) | (refine aJ ?_;  first | refine aU ?_ | refine aN ?_) | refine bC (aZ (by kernel_rfl)) ?_)
        all_goals first | (exfalso; omega) | exact absurd rfl (by assumption) | (refine aO (by first | exact .inl rfl | exact .inr rfl) (aV rfl (aA rfl) (aA rfl)) rfl ?_; rfl)
    · rw [if_pos h3]
      generalize A1.iv = ai at *
      generalize Tree.ivs arms = AI at *
      clear fR c2 fL fA h1
      refine aH Tryz.func108 rfl rfl (nb rfl) rfl ?_
      repeat' (first | refine aE ?_ | (refine aG ?_;  first | refine aB tabOk rfl rfl rfl (nb rfl) rfl ?_ | (refine aI rfl rfl rfl (nb rfl) rfl rfl rfl (fun hq => ?_) (fun hq => ?_) <;> (first | (simp only [sD, sE, sB, sC, sN, sM, sT, sF] at hq; try (exfalso; omega)) | skip)) | refine aD rfl rfl (nb rfl) rfl rfl rfl rfl (c1) ?_ | refine aD rfl rfl (nb rfl) rfl rfl rfl rfl (c4) ?_ | refine aT tabOk rfl rfl (nb rfl) rfl ?_ | refine aY tabOk rfl rfl rfl (nb rfl) rfl rfl rfl rfl (by first | rfl | omega) (by first | omega | simp) ?_) | (refine aK ?_;  first | refine aF ?_ | refine aL ?_ | refine aM ?_ | refine aS ?_ | refine aC (b := true) rfl (fun _ => ?_) nTf | refine aC (b := false) rfl nFt (fun _ => ?_) | refine aQ mixed (by kernel_rfl) ?_) | (refine aJ ?_;  first | refine aU ?_ | refine aN ?_) | refine bC (aZ (by kernel_rfl)) ?_)
      all_goals first | (exfalso; omega) | exact absurd rfl (by assumption) | (refine aO (by first | exact .inl rfl | exact .inr rfl) (aV rfl (aA rfl) (aA rfl)) rfl ?_; rfl)
  · rw [if_pos h1]
    generalize asP R 121 = Q at *
    obtain ⟨Q1, Q2⟩ := Q
    dsimp only at *
    generalize Q1.iv = qi at *
    generalize Tree.ivs arms = AI at *
    clear fR c2 fL fA
    refine aH Tryz.func108 rfl rfl (nb rfl) rfl ?_
    repeat' (first | refine aE ?_ | (refine aG ?_;  first | refine aB tabOk rfl rfl rfl (nb rfl) rfl ?_ | (refine aI rfl rfl rfl (nb rfl) rfl rfl rfl (fun hq => ?_) (fun hq => ?_) <;> (first | (simp only [sD, sE, sB, sC, sN, sM, sT, sF] at hq; try (exfalso; omega)) | skip)) | refine aD rfl rfl (nb rfl) rfl rfl rfl rfl (c1) ?_ | refine aT tabOk rfl rfl (nb rfl) rfl ?_ | refine aY tabOk rfl rfl rfl (nb rfl) rfl rfl rfl rfl (by first | rfl | omega) (by first | omega | simp) ?_) | (refine aK ?_;  first | refine aF ?_ | refine aL ?_ | refine aM ?_ | refine aC (b := true) rfl (fun _ => ?_) nTf | refine aQ mixed (by kernel_rfl) ?_) | (refine aJ ?_;  first | refine aU ?_ | refine aN ?_) | refine bC (aZ (by kernel_rfl)) ?_)
    all_goals first | (exfalso; omega) | exact absurd rfl (by assumption) | (refine aO (by first | exact .inl rfl | exact .inr rfl) (aV rfl (aA rfl) (aA rfl)) rfl ?_; rfl)
end
end Go.Proofs.YtocaohipfiapkaaGreatDoor.Ab
