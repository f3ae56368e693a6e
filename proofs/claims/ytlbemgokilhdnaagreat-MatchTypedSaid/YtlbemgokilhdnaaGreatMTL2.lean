/- Words, walks and laws under the claim's statement: what it uses of them. No condition of its own. -/
import Derived.Test.YtlbemgokilhdnaaGreatMTL1
import Derived.Test.YtlbemgokilhdnaaGreatMTAb1
import Derived.Test.YtlbemgokilhdnaaGreatMTL0
import Derived.Test.YtlbemgokilhdnaaGreatMTAb0
import Derived.Test.YtlbemgokilhdnaaGreatMTS0
import Derived.Shelf.Spec.SlicesGrow
namespace Go.Proofs.YtlbemgokilhdnaaGreat.Ab
set_option linter.unusedVariables false
set_option linter.unusedSimpArgs false
open Go.RowKit
theorem qP (l : List CellD) (hb : below l) : ∀ (f f' i : Nat), i < f → i < f' → i < l.length → growT l f i = growT l f' i
  | 0, _, _, h, _, _ => by omega
  | f + 1, 0, _, _, h, _ => by omega
  | f + 1, f' + 1, i, h, h', hi => by
    rw [growT, growT, List.getElem?_eq_getElem hi]
    dsimp only
    congr 1
    refine List.map_congr_left fun x hx => ?_
    have := hb i hi x hx
    exact qP l hb f f' x.toNat (by omega) (by omega) (by omega)
theorem oM (l : List CellD) (hb : below l) : ∀ (f i : Nat), i < f → i < l.length → (growT l f i).whole = true
  | 0, _, h, _ => by omega
  | f + 1, i, h, hi => by
    rw [growT, List.getElem?_eq_getElem hi]
    show Tree.wholes (List.map _ _) = true
    have key : ∀ ks : List Int, (∀ x ∈ ks, 0 ≤ x ∧ x < (i : Int)) → Tree.wholes (ks.map fun x => growT l f x.toNat) = true := by
      intro ks
      induction ks with
      | nil => intro _; rfl
      | cons x ks ih =>
        intro hk
        have hx := hk x List.mem_cons_self
        rw [List.map_cons, Tree.wholes, oM l hb f x.toNat (by omega) (by omega), ih (fun y hy => hk y (List.mem_cons_of_mem _ hy))]
        rfl
    exact key _ (hb i hi)
theorem sU : ∀ ts : List Tree, Tree.sizes ts = (ts.map Tree.size).sum
  | [] => rfl
  | t :: ts => by rw [Tree.sizes, sU ts]; simp
theorem yG (l : List CellD) (hb : below l) (i : Nat) (hi : i < l.length) : (growT l l.length i).size = 1 + (l[i].kids.map fun x => (growT l l.length x.toNat).size).sum := by
  obtain ⟨f, hf⟩ : ∃ f, l.length = f + 1 := ⟨l.length - 1, by omega⟩
  conv => lhs; rw [hf]
  rw [growT, List.getElem?_eq_getElem hi]
  show 1 + Tree.sizes (List.map _ _) = _
  rw [sU, List.map_map]
  congr 2
  refine List.map_congr_left fun x hx => ?_
  have := hb i hi x hx
  show (growT l f x.toNat).size = _
  rw [qP l hb f l.length x.toNat (by omega) (by omega) (by omega)]
theorem zS (l : List CellD) (hb : below l) : ∀ n, n ≤ l.length → ((List.range n).map fun i => (growT l l.length i).size).sum = n + ((allK (l.take n)).map fun x => (growT l l.length x.toNat).size).sum
  | 0, _ => by simp [allK]
  | n + 1, h => by
    rw [List.range_succ, List.map_append, List.sum_append, zS l hb n (by omega), sR l n (by omega), List.map_append, List.sum_append, List.map_singleton, List.sum_singleton, yG l hb n (by omega)]
    omega
theorem aBJ (l : List CellD) (x : Int) (h : x ∈ allK l) : ∃ i, ∃ hi : i < l.length, x ∈ l[i].kids := by
  induction l with
  | nil => cases h
  | cons c l ih =>
    rw [allK, List.mem_append] at h
    rcases h with h | h
    · exact ⟨0, by simp, h⟩
    · obtain ⟨i, hi, hx⟩ := ih h
      exact ⟨i + 1, by simpa using hi, by simpa using hx⟩
theorem aAF (l : List CellD) (hb : below l) (ho : once l) : List.Perm (allK l) ((List.range (l.length - 1)).map fun (j : Nat) => (j : Int)) := by
  rw [List.perm_iff_count]
  intro a
  by_cases h : 0 ≤ a ∧ a < ((l.length - 1 : Nat) : Int)
  · obtain ⟨j, rfl⟩ : ∃ j : Nat, a = (j : Int) := ⟨a.toNat, by omega⟩
    rw [ho j (by omega)]
    have hn : ((List.range (l.length - 1)).map fun (j : Nat) => (j : Int)).Nodup := by
      rw [List.nodup_iff_pairwise_ne, List.pairwise_map]
      exact List.nodup_range.imp (fun h1 h2 => h1 (by omega))
    rw [hn.count, if_pos]
    exact List.mem_map.2 ⟨j, List.mem_range.2 (by omega), rfl⟩
  · rw [List.count_eq_zero.2, List.count_eq_zero.2]
    · intro hm
      obtain ⟨j, hj, rfl⟩ := List.mem_map.1 hm
      rw [List.mem_range] at hj
      exact h ⟨by omega, by omega⟩
    · intro hm
      obtain ⟨i, hi, hx⟩ := aBJ l a hm
      have := hb i hi a hx
      exact h ⟨this.1, by omega⟩
theorem aAG (l : List CellD) (hb : below l) (ho : once l) (h0 : 0 < l.length) : (growT l l.length (l.length - 1)).size = l.length := by
  have h1 := zS l hb l.length (Nat.le_refl _)
  rw [List.take_length] at h1
  have h2 := ((aAF l hb ho).map (fun x => (growT l l.length x.toNat).size)).sum_nat
  rw [h2, List.map_map] at h1
  obtain ⟨n, hn⟩ : ∃ n, l.length = n + 1 := ⟨l.length - 1, by omega⟩
  have e : l.length - 1 = n := by omega
  rw [e] at h1 ⊢
  have h3 : (List.range l.length) = List.range n ++ [n] := by rw [hn, List.range_succ]
  rw [h3, List.map_append, List.sum_append, List.map_singleton, List.sum_singleton] at h1
  have h4 : ((fun x : Int => (growT l l.length x.toNat).size) ∘ fun (j : Nat) => (j : Int)) = fun i => (growT l l.length i).size := rfl
  rw [h4] at h1
  omega
theorem wD (l : List CellD) (A B : Nat) (hb : below l) (hc : ∀ c ∈ l, c.a.size ≤ A ∧ c.b.size ≤ B) : ∀ (f i : Nat), i < f → i < l.length → (growT l f i).wt ≤ (1 + A + B) * (growT l f i).size
  | 0, _, h, _ => by omega
  | f + 1, i, h, hi => by
    rw [growT, List.getElem?_eq_getElem hi]
    dsimp only
    have h1 := hc l[i] (List.getElem_mem hi)
    have key : ∀ ks : List Int, (∀ x ∈ ks, 0 ≤ x ∧ x < (i : Int)) → Tree.wts (ks.map fun x => growT l f x.toNat) ≤ (1 + A + B) * Tree.sizes (ks.map fun x => growT l f x.toNat) := by
      intro ks
      induction ks with
      | nil => intro _; exact Nat.zero_le _
      | cons x ks ih =>
        intro hk
        have hx := hk x List.mem_cons_self
        have h2 := wD l A B hb hc f x.toNat (by omega) (by omega)
        have h3 := ih (fun y hy => hk y (List.mem_cons_of_mem _ hy))
        rw [List.map_cons, Tree.wts, Tree.sizes, Nat.mul_add]
        omega
    have h4 := key _ (hb i hi)
    rw [Tree.wt, Tree.size, Nat.mul_add]
    omega
theorem yH (L : List CellD) (A B : Nat) (hc : ∀ c ∈ L, c.a.size ≤ A ∧ c.b.size ≤ B) : (openR L).1 = .nil ∨ ((openR L).1.whole = true ∧ (openR L).1.size ≤ L.length ∧ (openR L).1.wt ≤ (1 + A + B) * L.length) := by
  unfold openR
  split
  · exact .inl rfl
  · split
    · exact .inl rfl
    · split
      · rename_i h0 h1 h
        obtain ⟨hb, ho⟩ := h
        have hs := aAG L hb ho (by omega)
        have hw := wD L A B hb hc L.length (L.length - 1) (by omega) (by omega)
        rw [hs] at hw
        exact .inr ⟨oM L hb _ _ (by omega) (by omega), by rw [hs]; exact Nat.le_refl _, hw⟩
      · exact .inl rfl
theorem aBK (K : Nat) (l : List CellD) : ∀ c ∈ (l.take K).map fewCell, c.a.size ≤ 165 ∧ c.b.size ≤ 20 := fun c hc => by
  obtain ⟨d, _, rfl⟩ := List.mem_map.1 hc
  exact ⟨sS _ _, sS _ _⟩
theorem yI (l : List CellD) (hff : ∀ c ∈ l, c.f = false) : ∃ t : Tree, (t = .nil ∨ (t.whole = true ∧ t.size ≤ 60 ∧ t.wt ≤ 11160)) ∧ ACalls Tryz.prog 12 [.imm (.agg [.sl false l.length (cellIVs l)])] [] (.imm t.iv) [] := by
  refine ⟨_, ?_, wC l hff⟩
  rcases yH (fewCells10 l) 165 20 (aBK 60 l) with h | ⟨h1, h2, h3⟩
  · exact .inl h
  · have hl : (fewCells10 l).length ≤ 60 := by unfold fewCells10; rw [List.length_map, List.length_take]; omega
    exact .inr ⟨h1, by omega, by omega⟩
abbrev tyCell : Ty := .struct [.int .i64, .int .i64, .string, .string, .slice (.int .i64)]
abbrev tyTree : Ty := .struct [.slice tyCell]
theorem sV : ∀ (xs : List (List IV)), (∀ x ∈ xs, Fits (.int .i64) x) → ∃ l : List Int, l.length = xs.length ∧ xs.flatten = intIVs l
  | [], h => ⟨[], rfl, rfl⟩
  | x :: xs, h => by
    obtain ⟨l, h1, h2⟩ := sV xs (fun y hy => h y (List.mem_cons_of_mem _ hy))
    cases h x List.mem_cons_self with
    | int k n hn => exact ⟨n :: l, by simp [h1], by rw [List.flatten_cons, h2]; rfl⟩
theorem aAH {x : List IV} (h : Fits tyCell x) : ∃ c : CellD, c.f = false ∧ x = cellIV c := by
  cases h with
  | struct fs xs h =>
    cases h with
    | cons t ts x xs h1 h =>
      cases h1 with
      | int k n hn =>
        cases h with
        | cons t ts x xs h2 h =>
          cases h2 with
          | int k n2 hn2 =>
            cases h with
            | cons t ts x xs h3 h =>
              cases h3 with
              | string a ha =>
                cases h with
                | cons t ts x xs h4 h =>
                  cases h4 with
                  | string b hb =>
                    cases h with
                    | cons t ts x xs h5 h =>
                      cases h
                      cases h5 with
                      | slice e ys hy hys =>
                        obtain ⟨l, hl1, hl2⟩ := sV ys hys
                        refine ⟨⟨false, n, n2, a, b, l⟩, rfl, ?_⟩
                        rw [hl2, ← hl1]
                        rfl
theorem qQ : ∀ (xs : List (List IV)), (∀ x ∈ xs, Fits tyCell x) → ∃ l : List CellD, l.length = xs.length ∧ xs.flatten = cellIVs l ∧ ∀ c ∈ l, c.f = false
  | [], h => ⟨[], rfl, rfl, fun c hc => by cases hc⟩
  | x :: xs, h => by
    obtain ⟨l, h1, h2, h3⟩ := qQ xs (fun y hy => h y (List.mem_cons_of_mem _ hy))
    obtain ⟨c, hc, rfl⟩ := aAH (h x List.mem_cons_self)
    refine ⟨c :: l, by simp [h1], by rw [List.flatten_cons, h2]; rfl, fun d hd => ?_⟩
    rcases List.mem_cons.1 hd with rfl | hd
    · exact hc
    · exact h3 d hd
theorem sX {x : IV} (h : FitsV tyTree x) : ∃ l : List CellD, x = .agg [.sl false l.length (cellIVs l)] ∧ ∀ c ∈ l, c.f = false := by
  obtain ⟨xs, rfl, h⟩ := h
  cases h with
  | struct fs xs h =>
    cases h with
    | cons t ts x xs h1 h =>
      cases h
      cases h1 with
      | slice e ys hy hys =>
        obtain ⟨l, h1, h2, h3⟩ := qQ ys hys
        exact ⟨l, by rw [h2, ← h1]; rfl, h3⟩
end Go.Proofs.YtlbemgokilhdnaaGreat.Ab
namespace Go.Proofs.YtlbemgokilhdnaaGreat.Ab
set_option linter.unusedVariables false
set_option linter.unusedSimpArgs false
open Go.RowKit
attribute [local irreducible] AWP AOps AExit AThen ABlock ANoGoto FeetOk
set_option maxHeartbeats 8000000 in
set_option maxRecDepth 10000 in
/-- Match, of what has a witness that can be filled in. -/
theorem yJ (sig ex : Tree) (hss : sig.size ≤ 400000) (hse : ex.size ≤ 400000) (h1 : (witnessP sig ex).2 = 0) (hl : (witnessP sig ex).1.length ≤ 100000) (hcs : ∀ c ∈ (witnessP sig ex).1, c.size ≤ 100000000)
    (hok : fillOk (witnessP sig ex).1.length (witnessP sig ex).1 0 (kid0 ex) = true) (h2 : (fillP ex (witnessP sig ex).1).2 = 0) (hz : (fillP ex (witnessP sig ex).1).1.size ≤ 100000000) (h3 : mSubP sig (fillP ex (witnessP sig ex).1).1 = 0) :
    ACalls Tryz.prog 13 [.imm sig.iv, .imm ex.iv] [] (.imm (.tup [.sl false (witnessP sig ex).1.length (Tree.ivs (witnessP sig ex).1), (fillP ex (witnessP sig ex).1).1.iv, .lit (.int .i64 0)])) [] := by
  have c1 := sQ sig ex hss hse
  have c2 := aBF ex (witnessP sig ex).1 (by omega) hl hcs hok
  have c3 := yD sig (fillP ex (witnessP sig ex).1).1 (by omega) hz
  rw [h1] at c1
  rw [h2] at c2
  rw [h3] at c3
  generalize fillP ex (witnessP sig ex).1 = FF at *
  generalize witnessP sig ex = W at *
  obtain ⟨W1, W2⟩ := W
  obtain ⟨F1, F2⟩ := FF
  dsimp only at *
  refine aI Tryz.func13 rfl rfl (nb rfl) rfl ?_
  repeat' (first | refine aF ?_ | (refine aH ?_;  first | refine aC tabOk rfl rfl rfl (nb rfl) rfl ?_ | (refine aJ rfl rfl rfl (nb rfl) rfl rfl rfl (fun hq => ?_) (fun hq => ?_) <;> (first | (simp only [sD, sE, sB, sC, sN, sM, sT, sF] at hq; try (exfalso; omega)) | skip)) | refine aD rfl rfl (nb rfl) rfl rfl rfl rfl (c1) ?_ | refine aD rfl rfl (nb rfl) rfl rfl rfl rfl (c2) ?_ | refine aD rfl rfl (nb rfl) rfl rfl rfl rfl (c3) ?_) | (refine aL ?_;  first | refine aG ?_ | refine aM ?_ | refine aN ?_ | refine aT ?_ | refine aE (b := false) rfl nFt (fun _ => ?_)) | (refine aK ?_;  first | refine aU ?_))
  all_goals first
    | exact absurd rfl (by assumption)
    | (refine aP (by first | exact .inl rfl | exact .inr rfl) (dK rfl (aB rfl) (aB rfl) (aB rfl)) rfl ?_; rfl)
theorem yK : ∀ (l l' : List Tree), l.length ≠ l'.length → samePs l l' = false := fun l l' h => by rw [iT]; exact qL _ _ _ h
set_option maxHeartbeats 8000000 in
set_option maxRecDepth 10000 in
theorem aCK (t : Tree) : ∀ u : Tree, (t = .nil ∨ t.whole = true) → (u = .nil ∨ u.whole = true) → t.size ≤ 100000000 → u.size ≤ 100000000 → ACalls Tryz.prog 33 [.imm t.iv, .imm u.iv] [] (.imm (.lit (.bool (sameP t u)))) [] := by
  induction t using Tree.ind with
  | h1 =>
    intro u _ _ _ _
    cases u with
    | nil =>
      rw [show sameP .nil .nil = true by simp [sameP]]
      refine aI Tryz.func33 rfl rfl (nb rfl) rfl ?_
      repeat' (first | refine aF ?_ | (refine aH ?_;  first | refine aC tabOk rfl rfl rfl (nb rfl) rfl ?_ | refine bO rfl rfl (nb rfl) ?_ | refine aV tabOk rfl rfl (nb rfl) rfl ?_) | (refine aL ?_;  first | refine aG ?_ | refine aM ?_ | refine aN ?_ | refine aE (b := true) rfl (fun _ => ?_) nTf) | (refine aK ?_;  first | refine aO ?_))
      all_goals first
        | exact absurd rfl (by assumption)
        | exact cL (by first | exact .inl rfl | exact .inr rfl) (aX rfl (aB rfl)) rfl
    | node k n a b ks =>
      rw [show sameP .nil (.node k n a b ks) = false by simp [sameP]]
      refine aI Tryz.func33 rfl rfl (nb rfl) rfl ?_
      repeat' (first | refine aF ?_ | (refine aH ?_;  first | refine aC tabOk rfl rfl rfl (nb rfl) rfl ?_ | refine bO rfl rfl (nb rfl) ?_ | refine aV tabOk rfl rfl (nb rfl) rfl ?_) | (refine aL ?_;  first | refine aG ?_ | refine aM ?_ | refine aN ?_ | refine aE (b := true) rfl (fun _ => ?_) nTf) | (refine aK ?_;  first | refine aO ?_))
      all_goals first
        | exact absurd rfl (by assumption)
        | exact cL (by first | exact .inl rfl | exact .inr rfl) (aX rfl (aB rfl)) rfl
  | h2 k n a b ks ih =>
    intro u hw hw2 hs hs2
    cases u with
    | nil =>
      rw [show sameP (.node k n a b ks) .nil = false by simp [sameP]]
      refine aI Tryz.func33 rfl rfl (nb rfl) rfl ?_
      repeat' (first | refine aF ?_ | (refine aH ?_;  first | refine aC tabOk rfl rfl rfl (nb rfl) rfl ?_ | refine bO rfl rfl (nb rfl) ?_ | refine aV tabOk rfl rfl (nb rfl) rfl ?_) | (refine aL ?_;  first | refine aG ?_ | refine aM ?_ | refine aN ?_ | refine aE (b := true) rfl (fun _ => ?_) nTf) | (refine aK ?_;  first | refine aO ?_))
      all_goals first
        | exact absurd rfl (by assumption)
        | exact cL (by first | exact .inl rfl | exact .inr rfl) (aX rfl (aB rfl)) rfl
    | node k' n' a' b' ks' =>
      have hw : (Tree.node k n a b ks).whole = true := by
        rcases hw with h | h
        · cases h
        · exact h
      have hw2 : (Tree.node k' n' a' b' ks').whole = true := by
        rcases hw2 with h | h
        · cases h
        · exact h
      have hl := cE ks hw
      have hl2 := cE ks' hw2
      simp only [Tree.size] at hs hs2
      have hf : ∀ i (hi : i < ks.length) (hk : i < ks'.length), ACalls Tryz.prog 33 [.imm ks[i].iv, .imm ks'[i].iv] [] (.imm (.lit (.bool (sameP ks[i] ks'[i])))) [] := fun i hi hk => by
        have h1 := List.getElem_mem hi
        have h2 := List.getElem_mem hk
        have h3 := cR h1
        have h4 := cR h2
        exact ih _ h1 _ (.inr (bC hw h1)) (.inr (bC hw2 h2)) (by omega) (by omega)
      clear ih
      obtain ⟨q, hQ0⟩ : ∃ q, sameP (.node k n a b ks) (.node k' n' a' b' ks') = q := ⟨_, rfl⟩
      rw [hQ0]
      rw [sameP] at hQ0
      have hlen := yK ks ks'
      by_cases hd : (k = k' ∧ n = n' ∧ a = a' ∧ b = b') ∧ ks.length = ks'.length
      · obtain ⟨⟨rfl, rfl, rfl, rfl⟩, hl3⟩ := hd
        rw [show ((((k == k && n == n) && eqB a a) && eqB b b) && samePs ks ks') = samePs ks ks' by rw [(cZ a a).2 rfl, (cZ b b).2 rfl]; simp] at hQ0
        have hz := mP sameP ks ks' hl3
        rw [← iT, hQ0] at hz
        refine aI Tryz.func33 rfl rfl (nb rfl) rfl ?_
        repeat' (first | refine aF ?_ | (refine aH ?_;  first | refine aC tabOk rfl rfl rfl (nb rfl) rfl ?_ | refine bO rfl rfl (nb rfl) ?_ | (refine aJ rfl rfl rfl (nb rfl) rfl rfl rfl (fun hq => ?_) (fun hq => ?_) <;> (first | (simp only [sD, sE, sB, sC, sN, sM, sT, sF] at hq; try (exfalso; omega)) | skip)) | refine aV tabOk rfl rfl (nb rfl) rfl ?_) | (refine aL ?_;  first | refine aG ?_ | refine aM ?_ | refine aS ?_ | refine aN ?_ | refine aT ?_ | refine aE (b := true) rfl (fun _ => ?_) nTf | refine aE (b := false) rfl nFt (fun _ => ?_) | refine aQ mixed (by kernel_rfl) ?_) | (refine aK ?_;  first | refine aU ?_ | refine aO ?_) | refine bD (bB (by kernel_rfl)) ?_)
        all_goals first
          | exact absurd rfl (by assumption)
          | (exfalso; omega)
          | skip
        refine cD (ι := {j : Nat // j ≤ ks.length ∧ ∀ i (hi : i < ks.length) (hk : i < ks'.length), i < j → sameP ks[i] ks'[i] = true}) (fun j => S.f ⟨[(5, .imm (.lit (.int .i64 (j.1 : Int)))), (0, .imm (Tree.iv (.node k n a b ks))), (1, .imm (Tree.iv (.node k n a b ks')))], []⟩) (fun j => ks.length - j.1) ⟨0, Nat.zero_le _, fun i _ _ hi => absurd hi (Nat.not_lt_zero _)⟩ (bU (by repeat' first | exact trivial | refine ⟨rfl, ?_⟩) (by repeat' first | exact trivial | refine ⟨rfl, ?_⟩)) ?_
        rintro ⟨j, hj, hok⟩
        dsimp only
        by_cases hlt : j < ks.length
        · have hltk : j < ks'.length := by omega
          have hg1 := cG ks j hlt
          have hg2 := cG ks' j hltk
          have hc := hf j hlt hltk
          cases hS : sameP ks[j] ks'[j] with
          | true =>
            rw [hS] at hc
            have hok2 : ∀ i (hi : i < ks.length) (hk : i < ks'.length), i < j + 1 → sameP ks[i] ks'[i] = true := fun i hi hk hij => by
              by_cases e : i = j
              · subst e; exact hS
              · exact hok i hi hk (by omega)
            clear hz hf hlen
            repeat' (first | refine aF ?_ | (refine aH ?_;  first | refine aC tabOk rfl rfl rfl (nb rfl) rfl ?_ | (refine aJ rfl rfl rfl (nb rfl) rfl rfl rfl (fun hq => ?_) (fun hq => ?_) <;> (first | (simp only [sD, sE, sB, sC, sN, sM, sT, sF] at hq; try (exfalso; omega)) | skip)) | refine bE tabOk rfl rfl rfl (nb rfl) rfl rfl rfl hg1 ?_ | refine bE tabOk rfl rfl rfl (nb rfl) rfl rfl rfl hg2 ?_ | refine aD rfl rfl (nb rfl) rfl rfl rfl rfl (hc) ?_ | refine bQ rfl rfl rfl (nb rfl) rfl rfl (by omega) ?_ | refine aV tabOk rfl rfl (nb rfl) rfl ?_ | refine bF tabOk rfl rfl rfl (nb rfl) rfl rfl rfl rfl (by first | assumption | omega) ?_) | (refine aL ?_;  first | refine aG ?_ | refine aM ?_ | refine bI ?_ | refine aS ?_ | refine aT ?_ | refine aE (b := true) rfl (fun _ => ?_) nTf | refine aE (b := false) rfl nFt (fun _ => ?_) | refine aQ mixed (by kernel_rfl) ?_) | (refine aK ?_;  first | refine aU ?_) | (refine aR ?_;  first | refine bP ?_) | refine bD (bB (by kernel_rfl)) ?_)
            all_goals first
              | exact absurd rfl (by assumption)
              | (exfalso; omega)
              | exact ⟨⟨j + 1, hlt, hok2⟩, (by show ks.length - (j + 1) < ks.length - j; omega), (bU (by repeat' first | exact trivial | refine ⟨rfl, ?_⟩) (by repeat' first | exact trivial | refine ⟨rfl, ?_⟩))⟩
          | false =>
            rw [hS] at hc
            have e1 : q = false := by
              rw [Bool.eq_false_iff]
              intro hc2
              have := hz.1 hc2 j hlt hltk
              rw [hS] at this; cases this
            subst e1
            clear hz hf hlen
            repeat' (first | refine aF ?_ | (refine aH ?_;  first | refine aC tabOk rfl rfl rfl (nb rfl) rfl ?_ | (refine aJ rfl rfl rfl (nb rfl) rfl rfl rfl (fun hq => ?_) (fun hq => ?_) <;> (first | (simp only [sD, sE, sB, sC, sN, sM, sT, sF] at hq; try (exfalso; omega)) | skip)) | refine bE tabOk rfl rfl rfl (nb rfl) rfl rfl rfl hg1 ?_ | refine bE tabOk rfl rfl rfl (nb rfl) rfl rfl rfl hg2 ?_ | refine aD rfl rfl (nb rfl) rfl rfl rfl rfl (hc) ?_ | refine aV tabOk rfl rfl (nb rfl) rfl ?_ | refine bF tabOk rfl rfl rfl (nb rfl) rfl rfl rfl rfl (by first | assumption | omega) ?_) | (refine aL ?_;  first | refine aG ?_ | refine aM ?_ | refine aS ?_ | refine aN ?_ | refine aT ?_ | refine aE (b := true) rfl (fun _ => ?_) nTf | refine aQ mixed (by kernel_rfl) ?_) | (refine aK ?_;  first | refine aU ?_ | refine aO ?_) | (refine aR ?_;  first | refine aZ ?_) | refine bD (bB (by kernel_rfl)) ?_)
            all_goals first
              | exact absurd rfl (by assumption)
              | (exfalso; omega)
              | (refine aP (by first | exact .inl rfl | exact .inr rfl) (aX rfl (aB rfl)) rfl ?_; rfl)
        · have e1 : q = true := hz.2 fun i hi hk => hok i hi hk (by omega)
          subst e1
          clear hz hf hlen
          repeat' (first | refine aF ?_ | (refine aH ?_;  first | refine aC tabOk rfl rfl rfl (nb rfl) rfl ?_ | (refine aJ rfl rfl rfl (nb rfl) rfl rfl rfl (fun hq => ?_) (fun hq => ?_) <;> (first | (simp only [sD, sE, sB, sC, sN, sM, sT, sF] at hq; try (exfalso; omega)) | skip)) | refine aV tabOk rfl rfl (nb rfl) rfl ?_) | (refine aL ?_;  first | refine aG ?_ | refine aM ?_ | refine aN ?_ | refine bR ?_ | refine aE (b := false) rfl nFt (fun _ => ?_)) | (refine aK ?_;  first | refine aU ?_ | refine bJ ?_) | (refine aR ?_;  first | refine bH ?_))
          all_goals first
            | (exfalso; omega)
            | (refine aP (by first | exact .inl rfl | exact .inr rfl) (aX rfl (aB rfl)) rfl ?_; rfl)
      · have e1 : q = false := by
          rw [← hQ0]
          by_cases hl3 : ks.length = ks'.length
          · have hd : ¬ (k = k' ∧ n = n' ∧ a = a' ∧ b = b') := fun h => hd ⟨h, hl3⟩
            rw [Bool.eq_false_iff]
            intro h
            simp only [Bool.and_eq_true, beq_iff_eq, cZ] at h
            exact hd ⟨h.1.1.1.1, h.1.1.1.2, h.1.1.2, h.1.2⟩
          · rw [hlen hl3, Bool.and_false]
        subst e1
        have hd : k = k' → n = n' → a.toList = a'.toList → b.toList = b'.toList → ks.length = ks'.length → False := fun h1 h2 h3 h4 h5 => hd ⟨⟨h1, h2, (cZ a a').1 (by unfold eqB; rw [h3]; simp), (cZ b b').1 (by unfold eqB; rw [h4]; simp)⟩, h5⟩
        clear hQ0 hf hlen
        refine aI Tryz.func33 rfl rfl (nb rfl) rfl ?_
        repeat' (first | refine aF ?_ | (refine aH ?_;  first | refine aC tabOk rfl rfl rfl (nb rfl) rfl ?_ | refine bO rfl rfl (nb rfl) ?_ | (refine aJ rfl rfl rfl (nb rfl) rfl rfl rfl (fun hq => ?_) (fun hq => ?_) <;> (first | (simp only [sD, sE, sB, sC, sN, sM, sT, sF] at hq; try (exfalso; omega)) | skip)) | refine aV tabOk rfl rfl (nb rfl) rfl ?_) | (refine aL ?_;  first | refine aG ?_ | refine aM ?_ | refine aS ?_ | refine aN ?_ | refine aT ?_ | refine aE (b := true) rfl (fun _ => ?_) nTf | refine aE (b := false) rfl nFt (fun _ => ?_) | refine aQ mixed (by kernel_rfl) ?_) | (refine aK ?_;  first | refine aU ?_ | refine aO ?_) | refine bD (bB (by kernel_rfl)) ?_)
        all_goals first
          | exact absurd rfl (by assumption)
          | (exfalso; omega)
          | (exact (hd (by assumption) (by assumption) (by assumption) (by assumption) (by omega)).elim)
          | (refine aP (by first | exact .inl rfl | exact .inr rfl) (aX rfl (aB rfl)) rfl ?_; rfl)
instance : DecidableEq Tree := fun a b => decidable_of_iff (sameP a b = true) (kP a b)
def mNum : Tree := .node 111 0 emptyB emptyB []
def mOf (k : Int) (c : Tree) : Tree := .node k 0 emptyB emptyB [c]
def mField (l : ByteArray) (c : Tree) : Tree := .node 163 0 l emptyB [c]
def mEx (n : Int) (s : Tree) : Tree := .node 164 n emptyB emptyB [s]
abbrev lt : ByteArray := ⟨#[116, 58, 116]⟩
abbrev lx : ByteArray := ⟨#[118, 58, 120]⟩
def mSig : Tree := .node 162 0 emptyB emptyB [mField lt (mOf 161 mNum), mField lx (mOf 160 mNum)]
def mTo : Tree := .node 162 0 emptyB emptyB [mField lt (mOf 161 (.node 110 0 emptyB emptyB []))]
def mOut : Tree := .node 162 0 emptyB emptyB [mField lt (mOf 161 mNum)]
theorem ex_w : witnessP mSig (mEx 1 mTo) = ([mNum], 0) := by decide +kernel
theorem ex_f : fillP (mEx 1 mTo) [mNum] = (mOut, 0) := by decide +kernel
theorem ex_o : fillOk 1 [mNum] 0 mTo = true := by decide +kernel
theorem ex_s : mSubP mSig mOut = 0 := by decide +kernel
end Go.Proofs.YtlbemgokilhdnaaGreat.Ab
namespace Go.Proofs.YtlbemgokilhdnaaGreat.Ab
set_option linter.unusedVariables false
set_option linter.unusedSimpArgs false
open Go.RowKit
attribute [local irreducible] AWP AOps AExit AThen ABlock ANoGoto FeetOk
set_option maxHeartbeats 4000000 in
set_option maxRecDepth 10000 in
theorem of_a (k : Int) (pc : List IV) : ACalls Tryz.prog 31 [.imm (.lit (.int .i64 k)), .imm (.ptr pc 0)] [] (.imm (.ptr [.lit (.int .i64 k), .lit (.int .i64 0), .lit (.string ⟨#[]⟩), .lit (.string ⟨#[]⟩), .sl false 1 [.ptr pc 0]] 0)) [] := by
  refine aI Tryz.func31 rfl rfl (nb rfl) rfl ?_
  repeat' (first | refine aF ?_ | (refine aH ?_;  first | refine aC tabOk rfl rfl rfl (nb rfl) rfl ?_ | refine bY tabOk rfl rfl rfl (nb rfl) rfl rfl rfl rfl rfl rfl rfl rfl rfl ?_ | refine aV tabOk rfl rfl (nb rfl) rfl ?_) | (refine aL ?_;  first | refine aG ?_ | refine aN ?_))
  all_goals exact cL (by first | exact .inl rfl | exact .inr rfl) (aX rfl (aB rfl)) rfl
set_option maxHeartbeats 4000000 in
set_option maxRecDepth 10000 in
theorem aBL (l : ByteArray) (pc : List IV) : ACalls Tryz.prog 30 [.imm (.lit (.string l)), .imm (.ptr pc 0)] [] (.imm (.ptr [.lit (.int .i64 163), .lit (.int .i64 0), .lit (.string l), .lit (.string ⟨#[]⟩), .sl false 1 [.ptr pc 0]] 0)) [] := by
  refine aI Tryz.func30 rfl rfl (nb rfl) rfl ?_
  repeat' (first | refine aF ?_ | (refine aH ?_;  first | refine aC tabOk rfl rfl rfl (nb rfl) rfl ?_ | refine bY tabOk rfl rfl rfl (nb rfl) rfl rfl rfl rfl rfl rfl rfl rfl rfl ?_ | refine aV tabOk rfl rfl (nb rfl) rfl ?_) | (refine aL ?_;  first | refine aG ?_ | refine aN ?_))
  all_goals exact cL (by first | exact .inl rfl | exact .inr rfl) (aX rfl (aB rfl)) rfl
set_option maxHeartbeats 4000000 in
set_option maxRecDepth 10000 in
theorem aDu (n : Int) (pc : List IV) : ACalls Tryz.prog 32 [.imm (.lit (.int .i64 n)), .imm (.ptr pc 0)] [] (.imm (.ptr [.lit (.int .i64 164), .lit (.int .i64 n), .lit (.string ⟨#[]⟩), .lit (.string ⟨#[]⟩), .sl false 1 [.ptr pc 0]] 0)) [] := by
  refine aI Tryz.func32 rfl rfl (nb rfl) rfl ?_
  repeat' (first | refine aF ?_ | (refine aH ?_;  first | refine aC tabOk rfl rfl rfl (nb rfl) rfl ?_ | refine bY tabOk rfl rfl rfl (nb rfl) rfl rfl rfl rfl rfl rfl rfl rfl rfl ?_ | refine aV tabOk rfl rfl (nb rfl) rfl ?_) | (refine aL ?_;  first | refine aG ?_ | refine aN ?_))
  all_goals exact cL (by first | exact .inl rfl | exact .inr rfl) (aX rfl (aB rfl)) rfl
set_option maxHeartbeats 8000000 in
set_option maxRecDepth 10000 in
theorem eP : ACalls Tryz.prog 14 [] [] (.imm (.lit (.bool true))) [] := by
  have c1 := yJ mSig (mEx 1 mTo) (by decide) (by decide) (by rw [ex_w]) (by rw [ex_w]; decide) (by rw [ex_w]; intro c hc; rw [List.mem_singleton.1 hc]; decide) (by rw [ex_w]; exact ex_o) (by rw [ex_w]; exact congrArg Prod.snd ex_f) (by rw [ex_w, ex_f]; decide) (by rw [ex_w, ex_f]; exact ex_s)
  rw [ex_w] at c1
  dsimp only at c1
  rw [ex_f] at c1
  have c2 := aCK mNum mNum (.inr (by decide)) (.inr (by decide)) (by decide) (by decide)
  rw [(kP mNum mNum).2 rfl] at c2
  have c3 := yD mSig mOut (by decide) (by decide)
  rw [ex_s] at c3
  refine aI Tryz.func14 rfl rfl (nb rfl) rfl ?_
  repeat' (first | refine aF ?_ | (refine aH ?_;  first | refine aC tabOk rfl rfl rfl (nb rfl) rfl ?_ | refine bO rfl rfl (nb rfl) ?_ | (refine aJ rfl rfl rfl (nb rfl) rfl rfl rfl (fun hq => ?_) (fun hq => ?_) <;> (first | (simp only [sD, sE, sB, sC, sN, sM, sT, sF] at hq; try (exfalso; omega)) | skip)) | refine aD rfl rfl (nb rfl) rfl rfl rfl rfl ((of_a _ _)) ?_ | refine aD rfl rfl (nb rfl) rfl rfl rfl rfl ((aBL _ _)) ?_ | refine aD rfl rfl (nb rfl) rfl rfl rfl rfl ((aDu _ _)) ?_ | refine aD rfl rfl (nb rfl) rfl rfl rfl rfl (c1) ?_ | refine aD rfl rfl (nb rfl) rfl rfl rfl rfl (c2) ?_ | refine aD rfl rfl (nb rfl) rfl rfl rfl rfl (c3) ?_ | refine bY tabOk rfl rfl rfl (nb rfl) rfl rfl rfl rfl rfl rfl rfl rfl rfl ?_ | refine aV tabOk rfl rfl (nb rfl) rfl ?_ | refine aY tabOk rfl rfl rfl (nb rfl) rfl rfl rfl rfl (by first | rfl | omega) (by first | omega | simp) ?_) | (refine aL ?_;  first | refine aG ?_ | refine aN ?_))
  all_goals first
    | exact cL (by first | exact .inl rfl | exact .inr rfl) (aX rfl (aB rfl)) rfl
    | exact absurd rfl (by assumption)
end Go.Proofs.YtlbemgokilhdnaaGreat.Ab
namespace Go.Proofs.YtlbemgokilhdnaaGreat.Ab
set_option linter.unusedVariables false
set_option linter.unusedSimpArgs false
open Go.RowKit
attribute [local irreducible] AWP AOps AExit AThen ABlock ANoGoto FeetOk
end Go.Proofs.YtlbemgokilhdnaaGreat.Ab
namespace Go.Proofs.YtlbemgokilhdnaaGreat.Ab
set_option linter.unusedVariables false
set_option linter.unusedSimpArgs false
open Go.RowKit
attribute [local irreducible] AWP AOps AExit AThen ABlock ANoGoto FeetOk
end Go.Proofs.YtlbemgokilhdnaaGreat.Ab
namespace Go.Proofs.YtlbemgokilhdnaaGreat.Ab
set_option linter.unusedVariables false
set_option linter.unusedSimpArgs false
open Go.RowKit
attribute [local irreducible] AWP AOps AExit AThen ABlock ANoGoto FeetOk
end Go.Proofs.YtlbemgokilhdnaaGreat.Ab
namespace Go.Proofs.YtlbemgokilhdnaaGreat.Ab
set_option linter.unusedVariables false
set_option linter.unusedSimpArgs false
open Go.RowKit
attribute [local irreducible] AWP AOps AExit AThen ABlock ANoGoto FeetOk
theorem aAI (t : Tree) : t.whole = true → ∀ l : Int, (t.size : Int) ≤ l → wholeP t l = (0, l - t.size) := by
  induction t using Tree.ind with
  | h1 => intro h; simp [Tree.whole] at h
  | h2 k n a b kids ih =>
    intro h l hl
    have hz : (Tree.node k n a b kids).size = 1 + Tree.sizes kids := rfl
    rw [wholeP, if_neg (by omega)]
    have key : ∀ (ts : List Tree), (∀ t ∈ ts, t ∈ kids) → ∀ l : Int, (Tree.sizes ts : Int) ≤ l → wholePs ts l = (0, l - Tree.sizes ts) := by
      intro ts
      induction ts with
      | nil => intro _ l _; simp [wholePs, Tree.sizes]
      | cons x ts ihs =>
        intro hm l hl
        rw [Tree.sizes] at hl
        have hx := ih x (hm x List.mem_cons_self) (bC h (hm x List.mem_cons_self)) l (by omega)
        rw [wholePs, hx, if_pos rfl, ihs (fun t ht => hm t (List.mem_cons_of_mem _ ht)) _ (by omega), Tree.sizes]
        congr 1
        omega
    rw [key kids (fun t ht => ht) _ (by omega), hz]
    congr 1
    omega
theorem iJ (form : Tree → Bool) (t : Tree) (h : t.whole = true) (hs : t.size ≤ 65536) : checkP form t = if form t = true then 0 else 16 := by
  unfold checkP
  rw [aAI t h 65536 (by omega), if_pos rfl]
end Go.Proofs.YtlbemgokilhdnaaGreat.Ab
namespace Go.Proofs.YtlbemgokilhdnaaGreat.Ab
set_option linter.unusedVariables false
set_option linter.unusedSimpArgs false
open Go.RowKit
attribute [local irreducible] AWP AOps AExit AThen ABlock ANoGoto FeetOk
end Go.Proofs.YtlbemgokilhdnaaGreat.Ab
namespace Go.Proofs.YtlbemgokilhdnaaGreat.Ab
set_option linter.unusedVariables false
set_option linter.unusedSimpArgs false
open Go.RowKit
attribute [local irreducible] AWP AOps AExit AThen ABlock ANoGoto FeetOk
end Go.Proofs.YtlbemgokilhdnaaGreat.Ab
namespace Go.Proofs.YtlbemgokilhdnaaGreat.Ab
set_option linter.unusedVariables false
set_option linter.unusedSimpArgs false
open Go.RowKit
attribute [local irreducible] AWP AOps AExit AThen ABlock ANoGoto FeetOk
mutual
/-- What is made of a term, for a signature. -/
def madeP : Tree → Tree → Tree
  | .nil, x => x
  | .node k _ _ _ kids, x => if k = 162 then .node 136 0 emptyB emptyB (madeKs kids x) else x
def madeKs : List Tree → Tree → List Tree
  | [], _ => []
  | t :: ts, x => madeK t x :: madeKs ts x
def madeK : Tree → Tree → Tree
  | .nil, _ => .nil
  | .node _ _ name _ ks, x => .node 137 0 name emptyB (made1 ks (.node 138 0 name emptyB [x]))
def made1 : List Tree → Tree → List Tree
  | [c], p => [madeP c p]
  | _, _ => []
end
theorem iU (x : Tree) : ∀ l : List Tree, madeKs l x = l.map fun t => madeK t x
  | [] => by simp [madeKs]
  | t :: ts => by simp [madeKs, iU x ts]
theorem kQ (s : Tree) : ∀ x : Tree, isSigP s = true → x.whole = true → (madeP s x).whole = true ∧ (madeP s x).size ≤ s.size * (x.size + s.size) := by
  induction s using Tree.sind with
  | h s ih =>
    intro x hs hx
    cases s with
    | nil => simp [isSigP] at hs
    | node k n a b kids =>
      have hx1 := eB hx
      rw [madeP]
      by_cases h162 : k = 162
      · rw [if_pos h162]
        have hf : ∀ t ∈ kids, okSField t = true := by
          rcases dA hs with ⟨h, _⟩ | ⟨_, h, _⟩
          · omega
          · exact h
        have hsz : (Tree.node k n a b kids).size = 1 + Tree.sizes kids := by rw [Tree.size]
        have key : ∀ (l : List Tree), (∀ t ∈ l, t ∈ kids) → Tree.wholes (madeKs l x) = true ∧ Tree.sizes (madeKs l x) ≤ Tree.sizes l * (x.size + (Tree.node k n a b kids).size - 1) := by
          intro l
          induction l with
          | nil => intro _; rw [madeKs]; exact ⟨rfl, Nat.zero_le _⟩
          | cons t ts ihl =>
            intro hm
            have ht := hm t (by simp)
            have hz := bN (k := k) (n := n) (a := a) (b := b) ht
            obtain ⟨n', a', b', c, rfl, hc⟩ := cO (hf t ht)
            have hcs : (Tree.node 163 n' a' b' [c]).size = c.size + 1 := by simp only [Tree.size, Tree.sizes]; omega
            have hps : (Tree.node 138 0 a' emptyB [x]).size = x.size + 1 := by simp only [Tree.size, Tree.sizes]; omega
            have h1 := ih c (by omega) (.node 138 0 a' emptyB [x]) hc (by show Tree.wholes [x] = true; rw [Tree.wholes, hx]; rfl)
            have h2 := ihl fun t' h => hm t' (by simp [h])
            rw [madeKs, madeK, made1]
            refine ⟨?_, ?_⟩
            · rw [Tree.wholes, h2.1]
              show (Tree.wholes [_] && true) = true
              rw [Tree.wholes, h1.1]
              rfl
            · have h3 := h1.2
              rw [hps] at h3
              rw [hcs] at hz
              have h4 : c.size * (x.size + 1 + c.size) ≤ c.size * (x.size + (Tree.node k n a b kids).size - 1) := Nat.mul_le_mul_left _ (by omega)
              have h5 : (Tree.node 163 n' a' b' [c]).size * (x.size + (Tree.node k n a b kids).size - 1) = c.size * (x.size + (Tree.node k n a b kids).size - 1) + (x.size + (Tree.node k n a b kids).size - 1) := by rw [hcs, Nat.add_mul, Nat.one_mul]
              simp only [Tree.sizes]
              rw [Nat.add_mul, h5]
              have h6 : (Tree.node 137 0 a' emptyB [madeP c (.node 138 0 a' emptyB [x])]).size = (madeP c (.node 138 0 a' emptyB [x])).size + 1 := by simp only [Tree.size, Tree.sizes]; omega
              rw [h6]
              have h7 := h2.2
              omega
        have := key kids fun _ h => h
        refine ⟨this.1, ?_⟩
        rw [Tree.size, hsz]
        rw [hsz] at this
        have h8 := this.2
        have h9 : x.size + (1 + Tree.sizes kids) - 1 = x.size + Tree.sizes kids := by omega
        rw [h9] at h8
        have h10 : (1 + Tree.sizes kids) * (x.size + (1 + Tree.sizes kids)) = (1 + Tree.sizes kids) + (1 + Tree.sizes kids) * (x.size + Tree.sizes kids) := by
          rw [show x.size + (1 + Tree.sizes kids) = 1 + (x.size + Tree.sizes kids) by omega, Nat.mul_add, Nat.mul_one]
        have h11 : (1 + Tree.sizes kids) * (x.size + Tree.sizes kids) = (x.size + Tree.sizes kids) + Tree.sizes kids * (x.size + Tree.sizes kids) := by rw [Nat.add_mul, Nat.one_mul]
        omega
      · rw [if_neg h162]
        refine ⟨hx, ?_⟩
        have h1 := eB (t := .node k n a b kids) (by
          rcases dA hs with ⟨_, c, rfl, hc⟩ | ⟨h, _⟩
          · show Tree.wholes [c] = true
            rw [Tree.wholes, (bG hc).1]; rfl
          · exact absurd h h162)
        calc x.size ≤ 1 * (x.size + (Tree.node k n a b kids).size) := by omega
          _ ≤ _ := Nat.mul_le_mul_right _ h1
end Go.Proofs.YtlbemgokilhdnaaGreat.Ab
namespace Go.Proofs.YtlbemgokilhdnaaGreat.Ab
set_option linter.unusedVariables false
set_option linter.unusedSimpArgs false
open Go.RowKit
attribute [local irreducible] AWP AOps AExit AThen ABlock ANoGoto FeetOk
set_option maxHeartbeats 16000000 in
set_option maxRecDepth 10000 in
theorem aBM (s : Tree) : ∀ (x : Tree) (own left : Int), isSigP s = true → s.whole = true → x.whole = true → x.size + s.size ≤ 100000000 → own = x.size → ((madeP s x).size : Int) ≤ left → left ≤ 65536 →
    ACalls Tryz.prog 39 [.imm x.iv, .imm s.iv, .imm (.lit (.int .i64 own)), .obj 1000 0] [(1000, .cells [.imm (.lit (.int .i64 left))])] (.imm (.tup [(madeP s x).iv, .lit (.bool true)])) [(1000, .cells [.imm (.lit (.int .i64 (left - (madeP s x).size)))])] := by
  induction s using Tree.sind with
  | h s ih =>
    intro x own left hsg hw hx hsz hown hle hl6
    obtain ⟨k, n, a, b, kids, rfl⟩ := bT hw
    have hl := cE kids hw
    have hl2 : kids.length ≤ 100000000 := by simp only [Tree.size] at hsz; omega
    have hfin := kQ (.node k n a b kids) x hsg hx
    obtain ⟨Q, hQ⟩ : ∃ Q, madeP (.node k n a b kids) x = Q := ⟨_, rfl⟩
    rw [hQ] at hle hfin ⊢
    rw [madeP] at hQ
    obtain ⟨px, hpx⟩ := bV (bL hx)
    have hx1 := eB hx
    by_cases h162 : k = 162
    · subst h162
      rw [if_pos rfl, iU] at hQ
      have hf : ∀ t ∈ kids, okSField t = true := by
        rcases dA hsg with ⟨h, _⟩ | ⟨_, h, _⟩
        · omega
        · exact h
      have hQs : Q.size = 1 + Tree.sizes (kids.map fun t => madeK t x) := by rw [← hQ, Tree.size]
      have hpart : ∀ j, Tree.sizes ((kids.take j).map fun t => madeK t x) ≤ Tree.sizes (kids.map fun t => madeK t x) := fun j => by
        have := iG ((kids.take j).map fun t => madeK t x) ((kids.drop j).map fun t => madeK t x)
        rw [← List.map_append, List.take_append_drop] at this
        omega
      refine bX [1000] Tryz.func39 rfl rfl (nb rfl) rfl rfl ?_
      repeat' (first | refine aF ?_ | (refine aH ?_;  first | refine aC tabOk rfl rfl rfl (nb rfl) rfl ?_ | (refine aJ rfl rfl rfl (nb rfl) rfl rfl rfl (fun hq => ?_) (fun hq => ?_) <;> (first | (simp only [sD, sE, sB, sC, sN, sM, sT, sF] at hq; try (exfalso; omega)) | skip)) | refine dZ (d := 37) tabOk rfl rfl rfl (nb rfl) rfl rfl rfl rfl rfl ?_ | refine iE (d := 38) (t := 43) rfl rfl rfl (nb rfl) rfl rfl rfl rfl rfl rfl rfl ?_ | refine cH rfl rfl rfl (nb rfl) rfl rfl rfl (by omega) (by omega) ?_ | refine aV tabOk rfl rfl (nb rfl) rfl ?_ | refine bM tabOk rfl rfl rfl (nb rfl) rfl rfl rfl rfl ?_ | refine bK tabOk rfl rfl rfl rfl rfl rfl rfl rfl rfl rfl rfl ?_) | (refine aL ?_;  first | refine aG ?_ | refine aM ?_ | refine aS ?_ | refine aT ?_ | refine aE (b := false) rfl nFt (fun _ => ?_)) | (refine aK ?_;  first | refine aU ?_))
      all_goals first
        | exact absurd rfl (by assumption)
        | (exfalso; omega)
        | skip
      refine cT (dY (h0 := 38) (k0 := 4) 500 25 1 rfl rfl (by simp) rfl rfl) ?_
      refine cD (ι := {j : Nat // j ≤ kids.length}) (fun j => S.f ⟨[(44, .imm (.lit (.int .i64 (j.1 : Int)))), (43, .imm (.lit (.int .i64 (kids.length : Int)))), (42, .imm (.sl false kids.length (Tree.ivs kids))), (10, .obj 38 0), (0, .imm x.iv), (2, .imm (.lit (.int .i64 own))), (3, .obj 1000 0)], [(500, .arr 25 1 j.1 (Tree.ivs ((kids.take j.1).map fun t => madeK t x))), (38, .cells [.imm (.lit (.int .i64 136)), .imm (.lit (.int .i64 0)), .imm (.lit (.string ⟨#[]⟩)), .imm (.lit (.string ⟨#[]⟩)), .ref 500 j.1]), (1000, .cells [.imm (.lit (.int .i64 (left - 1 - (Tree.sizes ((kids.take j.1).map fun t => madeK t x) : Nat))))])]⟩) (fun j => kids.length - j.1) ⟨0, Nat.zero_le _⟩ (by rw [show left - 1 - ((Tree.sizes ((kids.take 0).map fun t => madeK t x) : Nat) : Int) = left - 1 by rw [List.take_zero, List.map_nil, Tree.sizes]; omega]; exact (bU (by repeat' first | exact trivial | refine ⟨rfl, ?_⟩) (by repeat' first | exact trivial | refine ⟨rfl, ?_⟩))) ?_
      rintro ⟨j, hj⟩
      dsimp only
      by_cases hlt : j < kids.length
      · have hm := List.getElem_mem hlt
        have hz := bN (k := 162) (n := n) (a := a) (b := b) hm
        have hwk := bC hw hm
        have hget := cG kids j hlt
        have hp0 := hpart j
        have hp1 := hpart (j + 1)
        have htk : (kids.take (j + 1)).map (fun t => madeK t x) = (kids.take j).map (fun t => madeK t x) ++ [madeK kids[j] x] := by
          rw [List.take_succ_eq_append_getElem hlt, List.map_append]; rfl
        have hnx : Tree.ivs ((kids.take (j + 1)).map fun t => madeK t x) = Tree.ivs ((kids.take j).map fun t => madeK t x) ++ [(madeK kids[j] x).iv] := by
          rw [htk, cQ, cQ, List.map_append]; rfl
        have hss : Tree.sizes ((kids.take (j + 1)).map fun t => madeK t x) = Tree.sizes ((kids.take j).map fun t => madeK t x) + (madeK kids[j] x).size := by
          rw [htk, iG]; simp only [Tree.sizes]; omega
        obtain ⟨n1, a1, b1, c, e, hc⟩ := cO (hf _ hm)
        rw [e] at hz hwk hget hnx hss
        have hz2 := bN (k := 163) (n := n1) (a := a1) (b := b1) (kids := [c]) (t := c) (by simp)
        have hpw : (Tree.node 138 0 a1 emptyB [x]).whole = true := by show Tree.wholes [x] = true; rw [Tree.wholes, hx]; rfl
        have hps : (Tree.node 138 0 a1 emptyB [x]).size = x.size + 1 := by simp only [Tree.size, Tree.sizes]; omega
        have hks : (madeK (.node 163 n1 a1 b1 [c]) x).size = 1 + (madeP c (.node 138 0 a1 emptyB [x])).size := by
          rw [madeK, made1]; simp only [Tree.size, Tree.sizes]; omega
        rw [hks] at hss
        have hfn := (kQ c (.node 138 0 a1 emptyB [x]) hc hpw).1
        have hfz := eB hfn
        generalize hPS : Tree.sizes ((kids.take j).map fun t => madeK t x) = PS at *
        have hcall := ih c (by omega) (.node 138 0 a1 emptyB [x]) (own + 1) (left - 1 - PS - 1) hc (bC hwk (List.mem_singleton.2 rfl)) hpw (by rw [hps]; omega) (by rw [hps]; omega) (by omega) (by omega)
        obtain ⟨pm, hpm⟩ := bV (bL hfn)
        have hpiv : (Tree.node 138 0 a1 emptyB [x]).iv = .ptr [.lit (.int .i64 138), .lit (.int .i64 0), .lit (.string a1), .lit (.string ⟨#[]⟩), .sl false 1 [.ptr px 0]] 0 := by rw [Tree.iv, Tree.ivs, Tree.ivs, hpx]; rfl
        have hkiv : (madeK (.node 163 n1 a1 b1 [c]) x).iv = .ptr [.lit (.int .i64 137), .lit (.int .i64 0), .lit (.string a1), .lit (.string ⟨#[]⟩), .sl false 1 [.ptr pm 0]] 0 := by
          rw [madeK, made1, Tree.iv, Tree.ivs, Tree.ivs, hpm]; rfl
        have hil := cX ((kids.take j).map fun t => madeK t x)
        rw [List.length_map, List.length_take, Nat.min_eq_left hj] at hil
        rw [hkiv] at hnx
        rw [hpiv, hpm] at hcall
        rw [hpx]
        have hnew : left - 1 - ((Tree.sizes ((kids.take (j + 1)).map fun t => madeK t x) : Nat) : Int) = left - 1 - (PS : Int) - 1 - ((madeP c (.node 138 0 a1 emptyB [x])).size : Int) := by rw [hss]; omega
        clear ih e hpiv hkiv hQ htk hks
        generalize Tree.ivs ((kids.take j).map fun t => madeK t x) = ZI at *
        generalize ((madeP c (.node 138 0 a1 emptyB [x])).size : Int) = MS at *
        repeat' (first | refine aF ?_ | (refine aH ?_;  first | refine aC tabOk rfl rfl rfl (nb rfl) rfl ?_ | (refine aJ rfl rfl rfl (nb rfl) rfl rfl rfl (fun hq => ?_) (fun hq => ?_) <;> (first | (simp only [sD, sE, sB, sC, sN, sM, sT, sF] at hq; try (exfalso; omega)) | skip)) | refine bE tabOk rfl rfl rfl (nb rfl) rfl rfl rfl hget ?_ | refine cH (z := left - 1 - (PS : Int) - 1) rfl rfl rfl (nb rfl) rfl rfl rfl (by omega) (by omega) ?_ | refine cS (z := own + 1) rfl rfl rfl (nb rfl) rfl rfl rfl (by omega) (by omega) ?_ | refine bW rfl rfl (nb rfl) rfl rfl rfl rfl hcall (by repeat' first | exact trivial | refine ⟨rfl, ?_⟩) rfl (by show ([1000] : List Nat).Nodup; decide) ?_ | refine cM tabOk rfl rfl rfl (nb rfl) rfl rfl rfl rfl rfl rfl rfl (by first | omega | decide) rfl (by first | omega | (dsimp only; omega)) (by first | omega | (dsimp only; omega)) ?_ | refine bQ rfl rfl rfl (nb rfl) rfl rfl (by omega) ?_ | refine bY tabOk rfl rfl rfl (nb rfl) rfl rfl rfl rfl rfl rfl rfl rfl rfl ?_ | refine aV tabOk rfl rfl (nb rfl) rfl ?_ | refine bM tabOk rfl rfl rfl (nb rfl) rfl rfl rfl rfl ?_ | refine bK tabOk rfl rfl rfl rfl rfl rfl rfl rfl rfl rfl rfl ?_ | refine bF tabOk rfl rfl rfl (nb rfl) rfl rfl rfl rfl (by first | assumption | omega) ?_ | refine aY tabOk rfl rfl rfl (nb rfl) rfl rfl rfl rfl (by first | rfl | omega) (by first | omega | simp) ?_) | (refine aL ?_;  first | refine aG ?_ | refine aM ?_ | refine bI ?_ | refine aS ?_ | refine aT ?_ | refine aE (b := true) rfl (fun _ => ?_) nTf | refine aE (b := false) rfl nFt (fun _ => ?_) | refine aQ mixed (by kernel_rfl) ?_) | (refine aK ?_;  first | refine aU ?_) | (refine aR ?_;  first | refine bP ?_) | refine bD (bB (by kernel_rfl)) ?_)
        all_goals first
          | exact absurd rfl (by assumption)
          | (exfalso; omega)
          | (refine ⟨⟨j + 1, hlt⟩, (by show kids.length - (j + 1) < kids.length - j; omega), ?_⟩; dsimp only; rw [hnx, hnew]; exact (bU (by repeat' first | exact trivial | refine ⟨rfl, ?_⟩) (by repeat' first | exact trivial | refine ⟨rfl, ?_⟩)))
      · have ej : j = kids.length := by omega
        subst ej
        rw [List.take_length]
        have hll : (kids.map fun t => madeK t x).length = kids.length := List.length_map ..
        have hiv : Q.iv = .ptr [.lit (.int .i64 136), .lit (.int .i64 0), .lit (.string ⟨#[]⟩), .lit (.string ⟨#[]⟩), .sl false kids.length (Tree.ivs (kids.map fun t => madeK t x))] 0 := by rw [← hQ, Tree.iv, hll]; rfl
        rw [hiv]
        have hend : left - (Q.size : Int) = left - 1 - ((Tree.sizes (kids.map fun t => madeK t x) : Nat) : Int) := by rw [hQs]; omega
        have hge : (0 : Int) ≤ left - 1 - ((Tree.sizes (kids.map fun t => madeK t x) : Nat) : Int) := by omega
        rw [hend]
        clear hend hiv hQ hQs hpart ih
        generalize left - 1 - ((Tree.sizes (kids.map fun t => madeK t x) : Nat) : Int) = LE at *
        generalize Tree.ivs (kids.map fun t => madeK t x) = ZI at *
        repeat' (first | refine aF ?_ | (refine aH ?_;  first | refine aC tabOk rfl rfl rfl (nb rfl) rfl ?_ | (refine aJ rfl rfl rfl (nb rfl) rfl rfl rfl (fun hq => ?_) (fun hq => ?_) <;> (first | (simp only [sD, sE, sB, sC, sN, sM, sT, sF] at hq; try (exfalso; omega)) | skip)) | refine bM tabOk rfl rfl rfl (nb rfl) rfl rfl rfl rfl ?_) | (refine aL ?_;  first | refine aG ?_ | refine aM ?_ | refine aN ?_ | refine bR ?_ | refine aE (b := false) rfl nFt (fun _ => ?_) | refine aQ mixed (by kernel_rfl) ?_) | (refine aK ?_;  first | refine aU ?_ | refine bJ ?_) | (refine aR ?_;  first | refine bH ?_) | refine bD (bB (by kernel_rfl)) ?_)
        all_goals first
          | (exfalso; omega)
          | (refine gB ((Imp.of_le (σ' := S.f ⟨[(8, .obj 38 0), (9, .imm (.lit (.bool true)))], [(500, .arr 25 1 kids.length ZI), (38, .cells [.imm (.lit (.int .i64 136)), .imm (.lit (.int .i64 0)), .imm (.lit (.string ⟨#[]⟩)), .imm (.lit (.string ⟨#[]⟩)), .ref 500 kids.length]), (1000, .cells [.imm (.lit (.int .i64 LE))])]⟩) (bU (by repeat' first | exact trivial | refine ⟨rfl, ?_⟩) (by repeat' first | exact trivial | refine ⟨rfl, ?_⟩))).trans ((cP (g := 500) rfl (by repeat' first | exact trivial | exact fun _ => rfl | refine ⟨?_, ?_⟩) (by repeat' first | exact trivial | exact fun _ => rfl | refine ⟨?_, ?_⟩)).trans (dD (g := 38) rfl rfl))) ?_
             refine bZ (by first | exact .inl rfl | exact .inr rfl) (aW rfl (aB rfl) (aB rfl)) rfl (by repeat' first | exact trivial | refine ⟨rfl, ?_⟩) rfl rfl)
    · rw [if_neg h162] at hQ
      subst hQ
      rw [hpx]
      clear ih
      generalize hXS : (x.size : Int) = XS at *
      subst hown
      refine bX [1000] Tryz.func39 rfl rfl (nb rfl) rfl rfl ?_
      repeat' (first | refine aF ?_ | (refine aH ?_;  first | refine aC tabOk rfl rfl rfl (nb rfl) rfl ?_ | (refine aJ rfl rfl rfl (nb rfl) rfl rfl rfl (fun hq => ?_) (fun hq => ?_) <;> (first | (simp only [sD, sE, sB, sC, sN, sM, sT, sF] at hq; try (exfalso; omega)) | skip)) | refine cH (z := left - own) rfl rfl rfl (nb rfl) rfl rfl (by omega) (by omega) (by omega) ?_ | refine bM tabOk rfl rfl rfl (nb rfl) rfl rfl rfl rfl ?_ | refine bK tabOk rfl rfl rfl rfl rfl rfl rfl rfl rfl rfl rfl ?_) | (refine aL ?_;  first | refine aG ?_ | refine aM ?_ | refine aN ?_ | refine aE (b := true) rfl (fun _ => ?_) nTf | refine aQ mixed (by kernel_rfl) ?_) | (refine aK ?_;  first | refine aU ?_ | refine aO ?_) | refine bD (bB (by kernel_rfl)) ?_)
      all_goals first
        | exact absurd (by assumption) h162
        | (exfalso; omega)
        | (refine cC (bZ (by first | exact .inl rfl | exact .inr rfl) (aW rfl (aB rfl) (aB rfl)) rfl (by repeat' first | exact trivial | refine ⟨rfl, ?_⟩) rfl ?_); rfl)
theorem uJ {t : Tree} (h : tcheckP t = 0) : t.whole = true := (bG (form := isTermP) h).1
end Go.Proofs.YtlbemgokilhdnaaGreat.Ab
namespace Go.Proofs.YtlbemgokilhdnaaGreat.Ab
set_option linter.unusedVariables false
set_option linter.unusedSimpArgs false
open Go.RowKit
attribute [local irreducible] AWP AOps AExit AThen ABlock ANoGoto FeetOk
section
variable {P : Program} {T : Tab} {keep : List Nat} {N : Nat} {ops : Array Oper} {K : List Foot → SF → Prop} {o : Oper} {rest : List Oper} {ks : List Foot} {s : List (Nat × AV)} {m : Mem} {d : Nat}
/-- A boxed value, by a name that was reserved. -/
theorem aAJ (g : Nat) {t : Nat} {x : Operand} {y : AV} (ho : o.op = .box t x) (hw : wantedA ops o (S.f ⟨s, m⟩) = some true) (hd : o.dst = some d) (hN : d < N) (hx : (S.f ⟨s, m⟩).ev x = some y) (h1 : y.cells.all AV.one = true) (hg : m.get g = some .fut) (hy : (AV.namesL y.cells).contains g = false)
    {cs : List AV} (hcs : y.cells = cs) (k : AOps P keep N ops K rest (⟨[g], false, false⟩ :: ks) (S.f ⟨(d, .obj g 0) :: s, m.put g (.cells cs)⟩)) : AOps P keep N ops K (o :: rest) ks (S.f ⟨s, m⟩) := by
  subst hcs
  exact jK hw hd hN (lG g ho hx h1 (by simpa using hy)).fut hg k
end
section
variable {σ : Type} (V : Int → Int → σ → Tree × σ) (B : σ → Prop)
theorem nM {k : Int} (n d : Int) (s : σ) {a b : ByteArray} (kids : List Tree) (hk : ¬ k = 110) : walkS V (.node k n a b kids) d s = (.node k n a b (walkSs V kids (d + bindsP k) s).1, (walkSs V kids (d + bindsP k) s).2) := by
  by_cases h : kids.length = 0
  · have e0 : kids = [] := List.eq_nil_of_length_eq_zero h
    subst e0
    rw [gH _ _ _ _ hk, gJ]
  · rw [gI _ _ _ _ hk h]
end
/-- What is told of what was made anew: it, or nil. -/
def told (R : Tree × Bool) : Tree := if R.2 = true then R.1 else .nil
end Go.Proofs.YtlbemgokilhdnaaGreat.Ab
namespace Go.Proofs.YtlbemgokilhdnaaGreat.Ab
set_option linter.unusedVariables false
set_option linter.unusedSimpArgs false
open Go.RowKit
attribute [local irreducible] AWP AOps AExit AThen ABlock ANoGoto FeetOk
end Go.Proofs.YtlbemgokilhdnaaGreat.Ab
namespace Go.Proofs.YtlbemgokilhdnaaGreat.Ab
set_option linter.unusedVariables false
set_option linter.unusedSimpArgs false
open Go.RowKit
attribute [local irreducible] AWP AOps AExit AThen ABlock ANoGoto FeetOk
mutual
/-- How often a variable stands in a tree, within so many binders. -/
def cntP (i : Int) : Tree → Int → Nat
  | .nil, _ => 0
  | .node k n _ _ kids, d => (if k = 110 ∧ d ≤ n ∧ n - d = i then 1 else 0) + cntPs i kids (d + bindsP k)
def cntPs (i : Int) : List Tree → Int → Nat
  | [], _ => 0
  | t :: ts, d => cntP i t d + cntPs i ts d
end
end Go.Proofs.YtlbemgokilhdnaaGreat.Ab
namespace Go.Proofs.YtlbemgokilhdnaaGreat.Ab
set_option linter.unusedVariables false
set_option linter.unusedSimpArgs false
open Go.RowKit
attribute [local irreducible] AWP AOps AExit AThen ABlock ANoGoto FeetOk
end Go.Proofs.YtlbemgokilhdnaaGreat.Ab
namespace Go.Proofs.YtlbemgokilhdnaaGreat.Ab
set_option linter.unusedVariables false
set_option linter.unusedSimpArgs false
open Go.RowKit
attribute [local irreducible] AWP AOps AExit AThen ABlock ANoGoto FeetOk
end Go.Proofs.YtlbemgokilhdnaaGreat.Ab
namespace Go.Proofs.YtlbemgokilhdnaaGreat.Ab
set_option linter.unusedVariables false
set_option linter.unusedSimpArgs false
open Go.RowKit
attribute [local irreducible] AWP AOps AExit AThen ABlock ANoGoto FeetOk
end Go.Proofs.YtlbemgokilhdnaaGreat.Ab
namespace Go.Proofs.YtlbemgokilhdnaaGreat.Ab
set_option linter.unusedVariables false
set_option linter.unusedSimpArgs false
/-- What is a signature, an abstract one, a functor's. -/
def tForm (t : Tree) : Prop := isSigP t = true ∨ isExP t = true ∨ isFunP t = true
theorem qR {t : Tree} (h : sformP t = true) : tForm t := by
  unfold sformP at h
  simp only [Bool.or_eq_true] at h
  exact h
theorem pA {t : Tree} (h : isExP t = true) : ∃ n a b c, t = .node 164 n a b [c] ∧ 0 ≤ n ∧ n ≤ 8192 ∧ isSigP c = true := by
  cases t with
  | nil => simp [isExP] at h
  | node k n a b kids =>
    by_cases h1 : kids.length = 1
    · obtain ⟨c, rfl⟩ := dG h1
      have hk := sO h
      have hk : k = 164 := hk
      subst hk
      simp only [isExP, Bool.and_eq_true] at h
      have hn := iI h.1.2
      exact ⟨n, a, b, c, rfl, hn.1, hn.2, h.2⟩
    · rw [qB h1] at h; cases h
theorem qS {t : Tree} (h : isFunP t = true) : ∃ n a b c e, t = .node 165 n a b [c, e] ∧ 0 ≤ n ∧ n ≤ 8192 ∧ isSigP c = true ∧ isExP e = true := by
  cases t with
  | nil => simp [isFunP] at h
  | node k n a b kids =>
    by_cases h1 : kids.length = 2
    · obtain ⟨c, e, rfl⟩ := two h1
      have hk := lO h
      have hk : k = 165 := hk
      subst hk
      simp only [isFunP, Bool.and_eq_true] at h
      have hn := iI h.1.2
      exact ⟨n, a, b, c, e, rfl, hn.1, hn.2, h.2.1, h.2.2⟩
    · rw [sH h1] at h; cases h
theorem aAK (t : Tree) : t.whole = true → ∀ l : Int, (wholeP t l).1 = 0 ∨ (wholeP t l).1 = 3 := by
  induction t using Tree.ind with
  | h1 => intro h; simp [Tree.whole] at h
  | h2 k n a b kids ih =>
    intro hw l
    rw [wholeP]
    split
    · exact .inr rfl
    · have key : ∀ ls : List Tree, (∀ t ∈ ls, t ∈ kids) → ∀ l : Int, (wholePs ls l).1 = 0 ∨ (wholePs ls l).1 = 3 := by
        intro ls
        induction ls with
        | nil => intro _ l; rw [wholePs]; exact .inl rfl
        | cons t ts ih2 =>
          intro hm l
          rw [wholePs]
          split
          · exact ih2 (fun t' h' => hm t' (by simp [h'])) _
          · exact ih t (hm t (by simp)) (bC hw (hm t (by simp))) l
      exact key kids (fun _ h => h) _
theorem aBN (t : Tree) (hw : t.whole = true) (l : Int) (hl : 0 ≤ l) (hs : l < t.size) : (wholeP t l).1 = 3 := by
  rcases aAK t hw l with h | h
  · have h1 := gP t l hl h
    have h2 := eE t l hl h
    omega
  · exact h
end Go.Proofs.YtlbemgokilhdnaaGreat.Ab
namespace Go.Proofs.YtlbemgokilhdnaaGreat.Ab
set_option linter.unusedVariables false
set_option linter.unusedSimpArgs false
mutual
/-- A tree with other variables: g of their numbers and of the binders around. -/
def mapV (g : Int → Int → Int) : Tree → Int → Tree
  | .nil, _ => .nil
  | .node k n a b kids, d => if k = 110 then varT (g n d) else .node k n a b (mapVs g kids (d + bindsP k))
def mapVs (g : Int → Int → Int) : List Tree → Int → List Tree
  | [], _ => []
  | t :: ts, d => mapV g t d :: mapVs g ts d
end
mutual
/-- Does it hold of each variable? -/
def allV (p : Int → Int → Bool) : Tree → Int → Bool
  | .nil, _ => true
  | .node k n _ _ kids, d => if k = 110 then p n d else allVs p kids (d + bindsP k)
def allVs (p : Int → Int → Bool) : List Tree → Int → Bool
  | [], _ => true
  | t :: ts, d => allV p t d && allVs p ts d
end
theorem sY (g : Int → Int → Int) (d : Int) : ∀ l : List Tree, mapVs g l d = l.map fun t => mapV g t d
  | [] => by rw [mapVs]; rfl
  | t :: ts => by rw [mapVs, sY g d ts]; rfl
theorem sZ (p : Int → Int → Bool) (d : Int) : ∀ l : List Tree, allVs p l d = l.all fun t => allV p t d
  | [] => by rw [allVs]; rfl
  | t :: ts => by rw [allVs, sZ p d ts]; rfl
theorem gD (g : Int → Int → Int) {k n : Int} {a b : ByteArray} {kids : List Tree} (d : Int) (hk : ¬ k = 110) : mapV g (.node k n a b kids) d = .node k n a b (kids.map fun t => mapV g t (d + bindsP k)) := by rw [mapV, if_neg hk, sY]
theorem wE (g : Int → Int → Int) {n : Int} {a b : ByteArray} {kids : List Tree} (d : Int) : mapV g (.node 110 n a b kids) d = varT (g n d) := by rw [mapV, if_pos rfl]
theorem kR (p : Int → Int → Bool) {k n : Int} {a b : ByteArray} {kids : List Tree} (d : Int) (hk : ¬ k = 110) : allV p (.node k n a b kids) d = kids.all fun t => allV p t (d + bindsP k) := by rw [allV, if_neg hk, sZ]
theorem qT (p : Int → Int → Bool) {n : Int} {a b : ByteArray} {kids : List Tree} (d : Int) : allV p (.node 110 n a b kids) d = p n d := by rw [allV, if_pos rfl]
theorem aBO (p q : Int → Int → Bool) (t : Tree) : ∀ d, okVars t = true → allV p t d = true → (∀ n x, 0 ≤ n → n ≤ 65536 → d ≤ x → p n x = true → q n x = true) → allV q t d = true := by
  induction t using Tree.ind with
  | h1 => intro d h; simp [okVars] at h
  | h2 k n a b kids ih =>
    intro d hv hp hg
    by_cases hk : k = 110
    · subst hk
      obtain ⟨q1, q2, _⟩ := eK rfl hv
      rw [qT] at hp ⊢
      exact hg n d q1 q2 (Int.le_refl _) hp
    · have hvs := eC hk hv
      have hb := gC k
      rw [kR _ _ hk, List.all_eq_true] at hp ⊢
      exact fun t ht => ih t ht _ (hvs t ht) (hp t ht) fun n x h1 h2 h3 h4 => hg n x h1 h2 (by omega) h4
theorem aAL (g : Int → Int → Int) (t : Tree) (d : Int) (hk : t.kind ≠ 110) : (mapV g t d).name = t.name := by
  cases t with
  | nil => rw [mapV]
  | node k n a b kids =>
    have hk : ¬ k = 110 := hk
    rw [gD _ _ hk]; rfl
theorem lP (f : Tree → Tree) : ∀ l : List Tree, (∀ t ∈ l, (f t).name = t.name) → risingP (l.map f) = risingP l
  | [], _ => rfl
  | [t], _ => by simp [risingP]
  | t :: u :: r, h => by
    have ih := lP f (u :: r) fun t' h' => h t' (by simp [h'])
    rw [List.map_cons] at ih
    rw [List.map_cons, List.map_cons, risingP, risingP, h t (by simp), h u (by simp), ih]
theorem mV (f : Tree → Tree) : ∀ l : List Tree, (∀ t ∈ l, (f t).name = t.name) → distinctP (l.map f) = distinctP l
  | [], _ => rfl
  | t :: r, h => by
    have ih := mV f r fun t' h' => h t' (by simp [h'])
    have e : ((r.map f).any fun u => eqB u.name t.name) = (r.any fun u => eqB u.name t.name) := by
      rw [List.any_map]
      refine Bool.eq_iff_iff.2 ?_
      rw [List.any_eq_true, List.any_eq_true]
      exact ⟨fun ⟨u, h1, h2⟩ => ⟨u, h1, by have : eqB (f u).name t.name = true := h2; rwa [h u (by simp [h1])] at this⟩, fun ⟨u, h1, h2⟩ => ⟨u, h1, by show eqB (f u).name t.name = true; rw [h u (by simp [h1])]; exact h2⟩⟩
    rw [List.map_cons, distinctP, distinctP, h t (by simp), e, ih]
theorem aAM (g : Int → Int → Int) (t : Tree) : ∀ d, isKindP t = true → mapV g t d = t := by
  induction t using Tree.ind with
  | h1 => intro d h; simp [isKindP] at h
  | h2 k n a b kids ih =>
    intro d h
    rw [isKindP] at h
    by_cases k0 : k = 100
    · rw [if_pos k0, Bool.and_eq_true] at h
      have e0 : kids = [] := List.eq_nil_of_length_eq_zero (by simpa using h.2)
      subst e0
      rw [gD _ _ (by omega)]; rfl
    · rw [if_neg k0] at h
      by_cases k1 : k = 101
      · rw [if_pos k1, Bool.and_eq_true, dO] at h
        rw [gD _ _ (by omega)]
        congr 1
        conv => rhs; rw [← List.map_id kids]
        refine List.map_congr_left fun t ht => ih t ht _ ?_
        have := List.all_eq_true.1 h.2 (isKindP t) (List.mem_map.2 ⟨t, ht, rfl⟩)
        simpa using this
      · rw [if_neg k1] at h; cases h
/-- A constructor stays one, where its variables stay within what may be. -/
theorem aBP (g : Int → Int → Int) (t : Tree) : ∀ d, isConP t = true → allV (fun n x => decide (0 ≤ g n x ∧ g n x ≤ 65536)) t d = true → isConP (mapV g t d) = true := by
  induction t using Tree.sind with
  | h t ih =>
    intro d h hp
    cases t with
    | nil => simp [isConP] at h
    | node k n a b kids =>
      rw [isConP, Bool.and_eq_true] at h
      obtain ⟨hb, h⟩ := h
      by_cases k0 : k = 110
      · subst k0
        rw [qT, decide_eq_true_eq] at hp
        rw [wE]
        unfold varT
        rw [isConP, if_pos rfl]
        have hbare : bareP (g n d) emptyB emptyB false ((110 : Int) == 110) = true := by
          unfold bareP
          rw [(cZ _ _).2 rfl]
          simp
        rw [hbare, decide_eq_true (by omega : g n d ≥ 0), decide_eq_true hp.2]
        rfl
      · rw [kR _ _ k0, List.all_eq_true] at hp
        rw [gD _ _ k0, isConP, hb, if_neg k0]
        rw [if_neg k0] at h
        have kid : ∀ t ∈ kids, isConP t = true → isConP (mapV g t (d + bindsP k)) = true := fun t ht hc => ih t (bN ht) _ hc (hp t ht)
        have named : ∀ kind : Int, kind ≠ 110 → bindsP kind = 0 → ∀ t ∈ kids, okNamed kind t = true → okNamed kind (mapV g t (d + bindsP k)) = true ∧ (mapV g t (d + bindsP k)).name = t.name := fun kind hkd hbd t ht ho => by
          have hp1 := hp t ht
          have hz := bN (k := k) (n := n) (a := a) (b := b) ht
          cases t with
          | nil => simp [okNamed] at ho
          | node k' n' a' b' ks =>
            simp only [okNamed, Bool.and_eq_true, beq_iff_eq] at ho
            obtain ⟨⟨⟨rfl, h1⟩, h2⟩, h3⟩ := ho
            refine ⟨?_, aAL _ _ _ hkd⟩
            by_cases hl : ks.length = 1
            · obtain ⟨c, rfl⟩ := dG hl
              rw [kR _ _ hkd, List.all_eq_true] at hp1
              rw [gD _ _ hkd]
              simp only [okNamed, List.map_cons, List.map_nil, isCon1, Bool.and_eq_true, beq_iff_eq]
              have hz2 := bN (k := k') (n := n') (a := a') (b := b') (kids := [c]) (t := c) (by simp)
              exact ⟨⟨⟨trivial, h1⟩, h2⟩, ih c (by omega) _ (by simpa [isCon1] using h3) (hp1 c (by simp))⟩
            · rw [eT hl] at h3; cases h3
        rw [Bool.true_and]
        by_cases k1 : k = 111 ∨ k = 112 ∨ k = 113
        · rw [if_pos k1] at h ⊢
          rw [List.length_map]; exact h
        · rw [if_neg k1] at h ⊢
          by_cases k2 : k = 114 ∨ k = 120
          · rw [if_pos k2, Bool.and_eq_true, eJ] at h ⊢
            refine ⟨by rw [List.length_map]; exact h.1, ?_⟩
            rw [List.all_eq_true] at h ⊢
            intro u hu
            obtain ⟨t, ht, rfl⟩ := List.mem_map.1 hu
            exact kid t ht (h.2 t ht)
          · rw [if_neg k2] at h ⊢
            by_cases k3 : k = 115
            · rw [if_pos k3, Bool.and_eq_true, cW, List.all_eq_true] at h ⊢
              have hn := fun t ht => named 116 (by decide) (by decide) t ht (h.1 t ht)
              refine ⟨fun u hu => ?_, ?_⟩
              · obtain ⟨t, ht, rfl⟩ := List.mem_map.1 hu
                exact (hn t ht).1
              · rw [lP _ _ fun t ht => (hn t ht).2]; exact h.2
            · rw [if_neg k3] at h ⊢
              by_cases k4 : k = 117 ∨ k = 118 ∨ k = 119
              · rw [if_pos k4] at h ⊢
                by_cases h2 : kids.length = 2
                · obtain ⟨x, y, rfl⟩ := two h2
                  simp only [isCon2, Bool.and_eq_true] at h
                  simp only [List.map_cons, List.map_nil, isCon2, Bool.and_eq_true]
                  exact ⟨by rw [aAM _ _ _ h.1]; exact h.1, kid y (by simp) h.2⟩
                · rw [eN h2] at h; cases h
              · rw [if_neg k4] at h ⊢
                by_cases k5 : k = 121
                · rw [if_pos k5, Bool.and_eq_true, Bool.and_eq_true, cW, List.all_eq_true] at h ⊢
                  have hn := fun t ht => named 122 (by decide) (by decide) t ht (h.1.2 t ht)
                  refine ⟨⟨by rw [List.length_map]; exact h.1.1, fun u hu => ?_⟩, ?_⟩
                  · obtain ⟨t, ht, rfl⟩ := List.mem_map.1 hu
                    exact (hn t ht).1
                  · rw [mV _ _ fun t ht => (hn t ht).2]; exact h.2
                · rw [if_neg k5] at h; cases h
/-- What Shift makes of a variable's number, and where it may. -/
def shG (b f : Int) (n d : Int) : Int := if n < d ∨ n - d < f then n else n + b
def okG (b f : Int) (n d : Int) : Bool := decide (n < d ∨ n - d < f ∨ (d - n ≤ b ∧ b ≤ 65536 - n))
theorem aAN (b f n d : Int) (s : Bool) : (shiftV b f n d s).2 = (s && okG b f n d) ∧ ((s && okG b f n d) = true → (shiftV b f n d s).1 = varT (shG b f n d)) := by
  unfold shiftV okG shG
  by_cases h1 : n < d ∨ n - d < f
  · rw [if_pos h1, if_pos h1, decide_eq_true (by omega)]
    exact ⟨by simp, fun _ => rfl⟩
  · rw [if_neg h1, if_neg h1]
    by_cases h2 : s = true ∧ d - n ≤ b ∧ b ≤ 65536 - n
    · rw [if_pos h2, decide_eq_true (by omega), h2.1]
      exact ⟨rfl, fun _ => rfl⟩
    · rw [if_neg h2]
      have : (s && decide (n < d ∨ n - d < f ∨ (d - n ≤ b ∧ b ≤ 65536 - n))) = false := by
        cases s with
        | false => rfl
        | true =>
          rw [Bool.true_and, decide_eq_false_iff_not]
          intro h3
          exact h2 ⟨rfl, by omega⟩
      rw [this]
      exact ⟨rfl, fun h => by cases h⟩
theorem aBQ (b f : Int) (t : Tree) : ∀ d s, okVars t = true → (walkS (shiftV b f) t d s).2 = (s && allV (okG b f) t d) ∧ ((s && allV (okG b f) t d) = true → (walkS (shiftV b f) t d s).1 = mapV (shG b f) t d) := by
  induction t using Tree.ind with
  | h1 => intro d s h; simp [okVars] at h
  | h2 k n a b' kids ih =>
    intro d s hv
    by_cases hk : k = 110
    · subst hk
      rw [eU, qT, wE]
      exact aAN b f n d s
    · have hvs := eC hk hv
      rw [nM _ _ _ _ kids hk, kR _ _ hk, gD _ _ hk]
      have key : ∀ l : List Tree, (∀ t ∈ l, t ∈ kids) → ∀ s, (walkSs (shiftV b f) l (d + bindsP k) s).2 = (s && l.all fun t => allV (okG b f) t (d + bindsP k)) ∧ ((s && l.all fun t => allV (okG b f) t (d + bindsP k)) = true → (walkSs (shiftV b f) l (d + bindsP k) s).1 = l.map fun t => mapV (shG b f) t (d + bindsP k)) := by
        intro l
        induction l with
        | nil => intro _ s; rw [walkSs]; simp
        | cons t ts ih2 =>
          intro hm s
          obtain ⟨g1, g2⟩ := ih t (hm t (by simp)) (d + bindsP k) s (hvs t (hm t (by simp)))
          obtain ⟨g3, g4⟩ := ih2 (fun t' h' => hm t' (by simp [h'])) (walkS (shiftV b f) t (d + bindsP k) s).2
          rw [walkSs, List.all_cons, List.map_cons]
          dsimp only
          rw [g1] at g3 g4
          rw [Bool.and_assoc] at g3 g4
          refine ⟨by rw [g1]; exact g3, fun h => ?_⟩
          rw [g1, g4 h]
          rw [← Bool.and_assoc, Bool.and_eq_true] at h
          rw [g2 h.1]
      obtain ⟨g1, g2⟩ := key kids (fun _ h => h) s
      exact ⟨g1, fun h => by dsimp only; rw [g2 h]⟩
theorem aAO (t : Tree) (hc : checkP isConP t = 0) (b f : Int) (hf : 0 ≤ f) : shiftP t b f = if allV (okG b f) t 0 = true then (mapV (shG b f) t 0, 0) else (.nil, 2) := by
  obtain ⟨_, _, hcon⟩ := bG hc
  obtain ⟨g1, g2⟩ := aBQ b f t 0 true (eD t hcon)
  rw [Bool.true_and] at g1 g2
  unfold shiftP
  rw [if_pos hc, decide_eq_true hf, g1]
  by_cases h : allV (okG b f) t 0 = true
  · rw [if_pos h, if_pos h, g2 h]
  · rw [if_neg h, if_neg h]
theorem nN (c : Tree) (hc : checkP isConP c = 0) (b f : Int) (hf : 0 ≤ f) (h : (shiftP c b f).2 = 0) : isConP (shiftP c b f).1 = true := by
  obtain ⟨_, _, hcon⟩ := bG hc
  rw [aAO c hc b f hf] at h ⊢
  by_cases ha : allV (okG b f) c 0 = true
  · rw [if_pos ha]
    refine aBP _ c 0 hcon (aBO _ _ c 0 (eD c hcon) ha fun n x h1 h2 h3 h4 => ?_)
    unfold okG at h4
    rw [decide_eq_true_eq] at h4 ⊢
    unfold shG
    split <;> omega
  · rw [if_neg ha] at h; cases h
end Go.Proofs.YtlbemgokilhdnaaGreat.Ab
namespace Go.Proofs.YtlbemgokilhdnaaGreat.Ab
set_option linter.unusedVariables false
set_option linter.unusedSimpArgs false
attribute [local irreducible] AWP AOps AExit AThen ABlock ANoGoto FeetOk
set_option maxHeartbeats 8000000 in
set_option maxRecDepth 10000 in
theorem aCL {σ : Type} (V : Int → Int → σ → Tree × σ) (F : FuncId) (X0 X1 : σ → IV) (J : σ → Prop)
    (hV : ∀ (n d : Int) s, J s → 0 ≤ n → n ≤ 65536 → 0 ≤ d → d ≤ 100000000 → ACalls Tryz.prog F ([.imm (varT n).iv, .imm (.lit (.int .i64 d)), .obj 1000 0, .obj 1001 0]) [(1000, .cells [.imm (X0 s)]), (1001, .cells [.imm (X1 s)])] (.imm (V n d s).1.iv) [(1000, .cells [.imm (X0 ((V n d s).2))]), (1001, .cells [.imm (X1 ((V n d s).2))])] ∧ J (V n d s).2 ∧ (V n d s).1 ≠ .nil) (t : Tree) :
    ∀ (d : Int) s, okVars t = true → t.whole = true → 0 ≤ d → d + t.size ≤ 100000000 → J s → ACalls Tryz.prog 95 [.imm t.iv, .imm (.lit (.int .i64 d)), .func F [] [.obj 1000 0, .obj 1001 0]] [(1000, .cells [.imm (X0 s)]), (1001, .cells [.imm (X1 s)])] (.imm (walkS V t d s).1.iv) [(1000, .cells [.imm (X0 ((walkS V t d s).2))]), (1001, .cells [.imm (X1 ((walkS V t d s).2))])] ∧ J (walkS V t d s).2 ∧ (walkS V t d s).1 ≠ .nil := by
  induction t using Tree.ind with
  | h1 => intro d s _ h; simp [Tree.whole] at h
  | h2 k n a b kids ih =>
    intro d s hv hw hd hs hJ
    have hl := cE kids hw
    have hsz : (Tree.node k n a b kids).size = 1 + Tree.sizes kids := by rw [Tree.size]
    rw [hsz] at hs
    by_cases k110 : k = 110
    · obtain ⟨q1, q2, rfl, rfl, rfl⟩ := eK k110 hv
      subst k110
      have hc := hV n d s hJ q1 q2 hd (by omega)
      rw [eU]
      refine ⟨?_, hc.2⟩
      have hc := hc.1
      generalize V n d s = R at *
      obtain ⟨R1, R2⟩ := R
      dsimp only at hc ⊢
      refine bX [1000, 1001] Tryz.func95 rfl rfl (nb rfl) rfl rfl ?_
      repeat' (first | refine aF ?_ | (refine aH ?_;  first | refine aC tabOk rfl rfl rfl (nb rfl) rfl ?_ | (refine aJ rfl rfl rfl (nb rfl) rfl rfl rfl (fun hq => ?_) (fun hq => ?_) <;> (first | (simp only [sD, sE, sB, sC, sN, sM, sT, sF] at hq; try (exfalso; omega)) | skip)) | refine bW rfl rfl (nb rfl) rfl rfl rfl rfl hc (by repeat' first | exact trivial | refine ⟨rfl, ?_⟩) rfl (by show ([1000, 1001] : List Nat).Nodup; decide) ?_) | (refine aL ?_;  first | refine aG ?_ | refine aM ?_ | refine aN ?_ | refine aE (b := true) rfl (fun _ => ?_) nTf) | (refine aK ?_;  first | refine aO ?_))
      all_goals first
        | exact absurd rfl (by assumption)
        | (refine cC (bZ (by first | exact .inl rfl | exact .inr rfl) (aX rfl (aB rfl)) rfl (by repeat' first | exact trivial | refine ⟨rfl, ?_⟩) rfl ?_); rfl)
    · by_cases hk0 : kids.length = 0
      · have e0 : kids = [] := List.eq_nil_of_length_eq_zero hk0
        subst e0
        rw [gH _ _ _ _ k110]
        refine ⟨?_, hJ, by simp⟩
        refine bX [1000, 1001] Tryz.func95 rfl rfl (nb rfl) rfl rfl ?_
        repeat' (first | refine aF ?_ | (refine aH ?_;  first | refine aC tabOk rfl rfl rfl (nb rfl) rfl ?_ | (refine aJ rfl rfl rfl (nb rfl) rfl rfl rfl (fun hq => ?_) (fun hq => ?_) <;> (first | (simp only [sD, sE, sB, sC, sN, sM, sT, sF] at hq; try (exfalso; omega)) | skip)) | refine aV tabOk rfl rfl (nb rfl) rfl ?_) | (refine aL ?_;  first | refine aG ?_ | refine aM ?_ | refine aN ?_ | refine aT ?_ | refine aE (b := true) rfl (fun _ => ?_) nTf | refine aE (b := false) rfl nFt (fun _ => ?_)) | (refine aK ?_;  first | refine aU ?_ | refine aO ?_))
        all_goals first
          | exact absurd rfl (by assumption)
          | exact absurd (by assumption) k110
          | (refine cC (bZ (by first | exact .inl rfl | exact .inr rfl) (aX rfl (aB rfl)) rfl (by repeat' first | exact trivial | refine ⟨rfl, ?_⟩) rfl ?_); rfl)
      · rw [gI _ _ _ _ k110 hk0]
        dsimp only
        have hb := gC k
        have hvs := eC k110 hv
        have hind : ∀ j (h : j < kids.length) s', J s' → ACalls Tryz.prog 95 [.imm kids[j].iv, .imm (.lit (.int .i64 (d + bindsP k))), .func F [] [.obj 1000 0, .obj 1001 0]] [(1000, .cells [.imm (X0 s')]), (1001, .cells [.imm (X1 s')])] (.imm (walkS V kids[j] (d + bindsP k) s').1.iv) [(1000, .cells [.imm (X0 ((walkS V kids[j] (d + bindsP k) s').2))]), (1001, .cells [.imm (X1 ((walkS V kids[j] (d + bindsP k) s').2))])] ∧ J (walkS V kids[j] (d + bindsP k) s').2 ∧ (walkS V kids[j] (d + bindsP k) s').1 ≠ .nil := fun j h s' hJ' => by
          have hm := List.getElem_mem h
          have hz := cR hm
          exact ih _ hm _ s' (hvs _ hm) (bC hw hm) (by omega) (by omega) hJ'
        clear ih
        have hJs : ∀ j, j ≤ kids.length → J (walkSs V (kids.take j) (d + bindsP k) s).2 := by
          intro j
          induction j with
          | zero => intro _; rw [List.take_zero, gJ]; exact hJ
          | succ j ihj =>
            intro hj
            rw [eO V (d + bindsP k) s hj]
            exact (hind j hj _ (ihj (by omega))).2.1
        have hJe := hJs kids.length (Nat.le_refl _)
        rw [List.take_length] at hJe
        refine ⟨?_, hJe, by simp⟩
        clear hJe
        have cb := tY k n a b kids
        refine bX [1000, 1001] Tryz.func95 rfl rfl (nb rfl) rfl rfl ?_
        repeat' (first | refine aF ?_ | (refine aH ?_;  first | refine aC tabOk rfl rfl rfl (nb rfl) rfl ?_ | (refine aJ rfl rfl rfl (nb rfl) rfl rfl rfl (fun hq => ?_) (fun hq => ?_) <;> (first | (simp only [sD, sE, sB, sC, sN, sM, sT, sF] at hq; try (exfalso; omega)) | skip)) | refine aV tabOk rfl rfl (nb rfl) rfl ?_ | refine cU tabOk rfl rfl rfl (nb rfl) rfl rfl rfl rfl rfl rfl ?_ | refine bK tabOk rfl rfl rfl rfl rfl rfl rfl rfl rfl rfl rfl ?_) | (refine aL ?_;  first | refine aG ?_ | refine aM ?_ | refine aS ?_ | refine aT ?_ | refine aE (b := false) rfl nFt (fun _ => ?_)) | (refine aK ?_;  first | refine aU ?_))
        all_goals first
          | exact absurd (by assumption) k110
          | (exfalso; omega)
          | skip
        refine cT (dY (h0 := 7) (k0 := 4) 500 25 1 rfl rfl (by simp) rfl rfl) ?_
        refine cD (ι := {j : Nat // j ≤ kids.length}) (fun j => S.f ⟨[(35, .imm (.lit (.int .i64 (j.1 : Int)))), (34, .imm (.lit (.int .i64 (kids.length : Int)))), (33, .imm (.sl false kids.length (Tree.ivs kids))), (7, .obj 7 0), (0, .imm (Tree.iv (.node k n a b kids))), (1, .imm (.lit (.int .i64 d))), (2, .func F [] [.obj 1000 0, .obj 1001 0])], (500, .arr 25 1 j.1 (Tree.ivs (walkSs V (kids.take j.1) (d + bindsP k) s).1)) :: (7, .cells [.imm (.lit (.int .i64 k)), .imm (.lit (.int .i64 n)), .imm (.lit (.string a)), .imm (.lit (.string b)), .ref 500 j.1]) :: [(1000, .cells [.imm (X0 ((walkSs V (kids.take j.1) (d + bindsP k) s).2))]), (1001, .cells [.imm (X1 ((walkSs V (kids.take j.1) (d + bindsP k) s).2))])]⟩) (fun j => kids.length - j.1) ⟨0, Nat.zero_le _⟩ (bU (by repeat' first | exact trivial | refine ⟨rfl, ?_⟩) (by repeat' first | exact trivial | refine ⟨rfl, ?_⟩)) ?_
        rintro ⟨j, hj⟩
        dsimp only
        by_cases hlt : j < kids.length
        · have hget := cG kids j hlt
          have hnx := eO V (d + bindsP k) s hlt
          obtain ⟨hc, _, hnn⟩ := hind j hlt _ (hJs j hj)
          obtain ⟨pc, hpc⟩ := bV hnn
          rw [hpc] at hc
          have hll := dU V (kids.take j) (d + bindsP k) s
          rw [List.length_take, Nat.min_eq_left hj] at hll
          have hiv : Tree.ivs (walkSs V (kids.take (j + 1)) (d + bindsP k) s).1 = Tree.ivs (walkSs V (kids.take j) (d + bindsP k) s).1 ++ [(walkS V kids[j] (d + bindsP k) (walkSs V (kids.take j) (d + bindsP k) s).2).1.iv] := by
            rw [hnx, cQ, cQ, List.map_append]; rfl
          rw [hpc] at hiv
          clear hpc hnn
          have hst : (walkSs V (kids.take (j + 1)) (d + bindsP k) s).2 = (walkS V kids[j] (d + bindsP k) (walkSs V (kids.take j) (d + bindsP k) s).2).2 := by rw [hnx]
          clear hnx hind hJs
          have hil := cX (walkSs V (kids.take j) (d + bindsP k) s).1
          rw [hll] at hil
          generalize walkS V kids[j] (d + bindsP k) (walkSs V (kids.take j) (d + bindsP k) s).2 = W at *
          generalize walkSs V (kids.take j) (d + bindsP k) s = Z at *
          obtain ⟨W1, W2⟩ := W
          obtain ⟨Z1, Z2⟩ := Z
          dsimp only at *
          generalize Tree.ivs Z1 = ZI at *
          generalize hsum : d + bindsP k = dk at *
          repeat' (first | refine aF ?_ | (refine aH ?_;  first | refine aC tabOk rfl rfl rfl (nb rfl) rfl ?_ | (refine aJ rfl rfl rfl (nb rfl) rfl rfl rfl (fun hq => ?_) (fun hq => ?_) <;> (first | (simp only [sD, sE, sB, sC, sN, sM, sT, sF] at hq; try (exfalso; omega)) | skip)) | refine bE tabOk rfl rfl rfl (nb rfl) rfl rfl rfl hget ?_ | refine aD rfl rfl (nb rfl) rfl rfl rfl rfl (cb) ?_ | refine cS (z := dk) rfl rfl rfl (nb rfl) rfl rfl hsum (by omega) (by omega) ?_ | refine bW rfl rfl (nb rfl) rfl rfl rfl rfl hc (by repeat' first | exact trivial | refine ⟨rfl, ?_⟩) rfl (by show ([1000, 1001] : List Nat).Nodup; decide) ?_ | refine cM tabOk rfl rfl rfl (nb rfl) rfl rfl rfl rfl rfl rfl rfl (by first | omega | decide) rfl (by first | omega | (dsimp only; omega)) (by first | omega | (dsimp only; omega)) ?_ | refine bQ rfl rfl rfl (nb rfl) rfl rfl (by omega) ?_ | refine bY tabOk rfl rfl rfl (nb rfl) rfl rfl rfl rfl rfl rfl rfl rfl rfl ?_ | refine bM tabOk rfl rfl rfl (nb rfl) rfl rfl rfl rfl ?_ | refine bK tabOk rfl rfl rfl rfl rfl rfl rfl rfl rfl rfl rfl ?_ | refine bF tabOk rfl rfl rfl (nb rfl) rfl rfl rfl rfl (by first | assumption | omega) ?_) | (refine aL ?_;  first | refine aG ?_ | refine aM ?_ | refine bI ?_ | refine aS ?_ | refine aT ?_ | refine aE (b := true) rfl (fun _ => ?_) nTf | refine aQ mixed (by kernel_rfl) ?_) | (refine aK ?_;  first | refine aU ?_) | (refine aR ?_;  first | refine bP ?_) | refine bD (bB (by kernel_rfl)) ?_)
          all_goals first
            | (exfalso; omega)
            | (refine ⟨⟨j + 1, hlt⟩, (by show kids.length - (j + 1) < kids.length - j; omega), ?_⟩; dsimp only; rw [hiv, hst]; exact (bU (by repeat' first | exact trivial | refine ⟨rfl, ?_⟩) (by repeat' first | exact trivial | refine ⟨rfl, ?_⟩)))
        · have ej : j = kids.length := by omega
          subst ej
          rw [List.take_length]
          have hll := dU V kids (d + bindsP k) s
          clear hind hJs
          generalize walkSs V kids (d + bindsP k) s = Z at *
          obtain ⟨Z1, Z2⟩ := Z
          dsimp only at *
          have hiv : (Tree.node k n a b Z1).iv = .ptr [.lit (.int .i64 k), .lit (.int .i64 n), .lit (.string a), .lit (.string b), .sl false kids.length (Tree.ivs Z1)] 0 := by rw [Tree.iv, hll]
          rw [hiv]
          generalize Tree.ivs Z1 = ZI at *
          repeat' (first | refine aF ?_ | (refine aH ?_;  first | refine aC tabOk rfl rfl rfl (nb rfl) rfl ?_ | (refine aJ rfl rfl rfl (nb rfl) rfl rfl rfl (fun hq => ?_) (fun hq => ?_) <;> (first | (simp only [sD, sE, sB, sC, sN, sM, sT, sF] at hq; try (exfalso; omega)) | skip))) | (refine aL ?_;  first | refine aG ?_ | refine aM ?_ | refine aN ?_ | refine bR ?_ | refine aE (b := false) rfl nFt (fun _ => ?_)) | (refine aK ?_;  first | refine aU ?_ | refine bJ ?_) | (refine aR ?_;  first | refine bH ?_))
          all_goals first
            | (exfalso; omega)
            | (refine gB ((Imp.of_le (σ' := S.f ⟨[(6, .obj 7 0)], (500, .arr 25 1 kids.length ZI) :: (7, .cells [.imm (.lit (.int .i64 k)), .imm (.lit (.int .i64 n)), .imm (.lit (.string a)), .imm (.lit (.string b)), .ref 500 kids.length]) :: [(1000, .cells [.imm (X0 Z2)]), (1001, .cells [.imm (X1 Z2)])]⟩) (bU (by repeat' first | exact trivial | refine ⟨rfl, ?_⟩) (by repeat' first | exact trivial | refine ⟨rfl, ?_⟩))).trans ((cP (g := 500) rfl (by repeat' first | exact trivial | exact fun _ => rfl | refine ⟨?_, ?_⟩) (by repeat' first | exact trivial | exact fun _ => rfl | refine ⟨?_, ?_⟩)).trans (dD (g := 7) rfl rfl))) ?_
               refine bZ (by first | exact .inl rfl | exact .inr rfl) (aX rfl (aB rfl)) rfl (by repeat' first | exact trivial | refine ⟨rfl, ?_⟩) rfl rfl)
end Go.Proofs.YtlbemgokilhdnaaGreat.Ab
namespace Go.Proofs.YtlbemgokilhdnaaGreat.Ab
set_option linter.unusedVariables false
set_option linter.unusedSimpArgs false
/-- What Occurs makes of a variable. -/
def occV (i n d : Int) (s : Bool) : Tree × Bool := (varT n, s || decide (0 ≤ i ∧ d ≤ n ∧ n - d = i))
def occP (c : Tree) (i : Int) : Bool := decide (checkP isConP c = 0) && decide (0 ≤ i ∧ 0 < cntP i c 0)
theorem aCM (i : Int) (t : Tree) : ∀ d s, okVars t = true → (walkS (occV i) t d s).2 = (s || decide (0 ≤ i ∧ 0 < cntP i t d)) := by
  induction t using Tree.ind with
  | h1 => intro d s h; simp [okVars] at h
  | h2 k n a b kids ih =>
    intro d s hv
    by_cases hk : k = 110
    · obtain ⟨_, _, rfl, rfl, rfl⟩ := eK hk hv
      subst hk
      rw [eU, cntP, cntPs]
      unfold occV
      dsimp only
      congr 1
      by_cases h : d ≤ n ∧ n - d = i
      · rw [if_pos ⟨rfl, h⟩]
        exact decide_eq_decide.2 ⟨fun h1 => ⟨h1.1, by omega⟩, fun h1 => ⟨h1.1, h⟩⟩
      · rw [if_neg fun h1 => h h1.2]
        exact decide_eq_decide.2 ⟨fun h1 => absurd h1.2 h, fun h1 => absurd h1.2 (by omega)⟩
    · have hvs := eC hk hv
      rw [nM _ _ _ _ kids hk, cntP, if_neg fun h1 => hk h1.1, Nat.zero_add]
      have key : ∀ l : List Tree, (∀ t ∈ l, t ∈ kids) → ∀ s, (walkSs (occV i) l (d + bindsP k) s).2 = (s || decide (0 ≤ i ∧ 0 < cntPs i l (d + bindsP k))) := by
        intro l
        induction l with
        | nil => intro _ s; rw [walkSs, cntPs]; simp
        | cons t ts ih2 =>
          intro hm s
          rw [walkSs, cntPs]
          dsimp only
          rw [ih2 (fun t' h' => hm t' (by simp [h'])), ih t (hm t (by simp)) _ _ (hvs t (hm t (by simp))), Bool.or_assoc]
          congr 1
          rw [← Bool.decide_or]
          exact decide_eq_decide.2 (by omega)
      exact key kids (fun _ h => h) s
end Go.Proofs.YtlbemgokilhdnaaGreat.Ab
namespace Go.Proofs.YtlbemgokilhdnaaGreat.Ab
set_option linter.unusedVariables false
set_option linter.unusedSimpArgs false
def starK : Tree := .node 100 0 emptyB emptyB []
def kid1 : Tree → Tree
  | .node _ _ _ _ (_ :: c :: _) => c
  | _ => .nil
/-- One more that must be a type. -/
def star1 (R S : Tree × Int) : Tree × Int := if R.2 ≠ 0 then (.nil, R.2) else if R.1.kind ≠ 100 then (.nil, 10) else S
def lam1 (K : Tree) (R : Tree × Int) : Tree × Int := if R.2 ≠ 0 then (.nil, R.2) else (.node 101 0 emptyB emptyB [K, R.1], 0)
def app1 (F X : Tree × Int) : Tree × Int := if F.2 ≠ 0 then (.nil, F.2) else if X.2 ≠ 0 then (.nil, X.2) else if F.1.kind ≠ 101 ∨ sameP (kid0 F.1) X.1 = false then (.nil, 10) else (kid1 F.1, 0)
mutual
/-- Does a sum's own variable stand but where it may? -/
def placedP : Tree → Bool
  | .nil => true
  | .node k n a b kids => if k = 110 then true else if k = 115 then placedFs kids else !(occP (.node k n a b kids) 0)
def placedFs : List Tree → Bool
  | [] => true
  | t :: ts => placedF t && placedFs ts
def placedF : Tree → Bool
  | .nil => true
  | .node _ _ _ _ ks => placedH ks
def placedH : List Tree → Bool
  | [] => true
  | c :: _ => placedP c
end
def fitsP (kids : List Tree) : Int := if placedFs kids = true then 0 else 15
def sum1 (kids : List Tree) (R : Tree × Int) : Tree × Int := if R.2 ≠ 0 then (.nil, R.2) else if fitsP kids ≠ 0 then (.nil, fitsP kids) else (starK, 0)
mutual
/-- The kind of a constructor, and the error. -/
def kindP : Tree → List Tree → Tree × Int
  | .nil, _ => (.nil, 0)
  | .node k n _ _ kids, ctx =>
    if k = 110 then (if n ≥ (ctx.length : Int) then (.nil, 8) else (ctx.getD n.toNat .nil, 0))
    else if k = 114 then starsP kids ctx
    else if k = 115 then starsF kids ctx
    else if k = 117 ∨ k = 118 then bindK kids ctx
    else if k = 119 then lamK kids ctx
    else if k = 120 then appK kids ctx
    else if k = 121 then sum1 kids (starsF kids (starK :: ctx))
    else (starK, 0)
def starsP : List Tree → List Tree → Tree × Int
  | [], _ => (starK, 0)
  | t :: ts, ctx => star1 (kindP t ctx) (starsP ts ctx)
def starsF : List Tree → List Tree → Tree × Int
  | [], _ => (starK, 0)
  | t :: ts, ctx => star1 (kindF t ctx) (starsF ts ctx)
def kindF : Tree → List Tree → Tree × Int
  | .nil, _ => (.nil, 0)
  | .node _ _ _ _ ks, ctx => kindH ks ctx
def kindH : List Tree → List Tree → Tree × Int
  | [], _ => (.nil, 0)
  | c :: _, ctx => kindP c ctx
def bindK : List Tree → List Tree → Tree × Int
  | [K, c], ctx => star1 (kindP c (K :: ctx)) (starK, 0)
  | _, _ => (.nil, 0)
def lamK : List Tree → List Tree → Tree × Int
  | [K, c], ctx => lam1 K (kindP c (K :: ctx))
  | _, _ => (.nil, 0)
def appK : List Tree → List Tree → Tree × Int
  | [f, x], ctx => app1 (kindP f ctx) (kindP x ctx)
  | _, _ => (.nil, 0)
end
/-- Kinds of a context. -/
def okCtx (ctx : List Tree) : Prop := ∀ t ∈ ctx, isKindP t = true ∧ t.whole = true
theorem iV {K : Tree} {ctx : List Tree} (h1 : isKindP K = true) (h2 : K.whole = true) (h : okCtx ctx) : okCtx (K :: ctx) := fun t ht => by
  rcases List.mem_cons.1 ht with rfl | ht
  · exact ⟨h1, h2⟩
  · exact h t ht
theorem lQ : isKindP starK = true := by decide +kernel
theorem qU {k n : Int} {a b : ByteArray} {kids : List Tree} (h : isKindP (.node k n a b kids) = true) (hk : k = 101) : ∃ x y, kids = [x, y] ∧ isKindP x = true ∧ isKindP y = true := by
  subst hk
  rw [isKindP, if_neg (by decide), if_pos rfl, Bool.and_eq_true, Bool.and_eq_true, dO] at h
  have hl : kids.length = 2 := by have := h.1.2; simp at this; omega
  obtain ⟨x, y, rfl⟩ := two hl
  have h2 := h.2
  simp at h2
  exact ⟨x, y, rfl, h2.1, h2.2⟩
/-- A con has the parts that its kind asks for. -/
theorem dH {k n : Int} {a b : ByteArray} {kids : List Tree} (h : isConP (.node k n a b kids) = true) :
    (k = 110 → 0 ≤ n ∧ n ≤ 65536 ∧ kids = []) ∧ ((k = 114 ∨ k = 120) → ∃ x y, kids = [x, y] ∧ isConP x = true ∧ isConP y = true) ∧ (k = 115 → ∀ t ∈ kids, ∃ n' a' b' c, t = .node 116 n' a' b' [c] ∧ isConP c = true) ∧
    ((k = 117 ∨ k = 118 ∨ k = 119) → ∃ x y, kids = [x, y] ∧ isKindP x = true ∧ isConP y = true) ∧ (k = 121 → ∀ t ∈ kids, ∃ n' a' b' c, t = .node 122 n' a' b' [c] ∧ isConP c = true) := by
  have hv := eD _ h
  rw [isConP, Bool.and_eq_true] at h
  obtain ⟨_, h⟩ := h
  have named : ∀ kind : Int, (∀ t ∈ kids, okNamed kind t = true) → ∀ t ∈ kids, ∃ n' a' b' c, t = .node kind n' a' b' [c] ∧ isConP c = true := fun kind hn t ht => by
    have ho := hn t ht
    cases t with
    | nil => simp [okNamed] at ho
    | node k' n' a' b' ks =>
      simp only [okNamed, Bool.and_eq_true, beq_iff_eq] at ho
      obtain ⟨⟨⟨rfl, _⟩, _⟩, h3⟩ := ho
      by_cases hl : ks.length = 1
      · obtain ⟨c, rfl⟩ := dG hl
        exact ⟨n', a', b', c, rfl, by simpa [isCon1] using h3⟩
      · rw [eT hl] at h3; cases h3
  refine ⟨fun hk => ?_, fun hk => ?_, fun hk => ?_, fun hk => ?_, fun hk => ?_⟩
  · obtain ⟨q1, q2, _, _, q5⟩ := eK hk hv
    exact ⟨q1, q2, q5⟩
  · rw [if_neg (by omega), if_neg (by omega), if_pos hk, Bool.and_eq_true, eJ] at h
    have hl : kids.length = 2 := by have := h.1; simp at this; omega
    obtain ⟨x, y, rfl⟩ := two hl
    have := h.2
    simp at this
    exact ⟨x, y, rfl, this.1, this.2⟩
  · rw [if_neg (by omega), if_neg (by omega), if_neg (by omega), if_pos hk, Bool.and_eq_true, cW, List.all_eq_true] at h
    exact named 116 h.1
  · rw [if_neg (by omega), if_neg (by omega), if_neg (by omega), if_neg (by omega), if_pos hk] at h
    by_cases h2 : kids.length = 2
    · obtain ⟨x, y, rfl⟩ := two h2
      simp only [isCon2, Bool.and_eq_true] at h
      exact ⟨x, y, rfl, h.1, h.2⟩
    · rw [eN h2] at h; cases h
  · rw [if_neg (by omega), if_neg (by omega), if_neg (by omega), if_neg (by omega), if_neg (by omega), if_pos hk, Bool.and_eq_true, Bool.and_eq_true, cW, List.all_eq_true] at h
    exact named 122 h.1.2
end Go.Proofs.YtlbemgokilhdnaaGreat.Ab
namespace Go.Proofs.YtlbemgokilhdnaaGreat.Ab
set_option linter.unusedVariables false
set_option linter.unusedSimpArgs false
open Go.RowKit
/-- A kind of a constructor in a context, and the error. -/
def KindP (ks : List Tree) (c : Tree) : Tree × Int := if checkP isConP c ≠ 0 then (.nil, checkP isConP c) else kindP c ks
def starE (ks : List Tree) (c : Tree) : Int := if (KindP ks c).2 = 0 ∧ (KindP ks c).1.kind ≠ 100 then 10 else (KindP ks c).2
def starT (ks : List Tree) (c : Tree) : Tree × Int := if starE ks c ≠ 0 then (.nil, starE ks c) else normalP 1000 c
def filledP (n by_ : Tree) : Tree × Int := if (substP n 0 by_).2 ≠ 0 then (.nil, (substP n 0 by_).2) else normalP 1000 (substP n 0 by_).1
/-- All of a context's types under one more variable. -/
def shiftsP : List Tree → List Tree × Int
  | [] => ([], 0)
  | t :: ts => if (shiftP t 1 0).2 ≠ 0 then ([], (shiftP t 1 0).2) else if (shiftsP ts).2 ≠ 0 then ([], (shiftsP ts).2) else ((shiftP t 1 0).1 :: (shiftsP ts).1, 0)
def asP (R : Tree × Int) (kind : Int) : Tree × Int := if R.2 = 0 ∧ R.1.kind ≠ kind then (.nil, 11) else R
def tyT (k : Int) (kids : List Tree) : Tree := .node k 0 emptyB emptyB kids
def kidsOf : Tree → List Tree
  | .nil => []
  | .node _ _ _ _ kids => kids
def partP : List Tree → ByteArray → Option Tree
  | [], _ => none
  | t :: ts, l => if eqB t.name l = true then some (kid0 t) else partP ts l
def tlam1 (K : Tree) (e : Int) (R : Tree × Int) : Tree × Int := if e ≠ 0 then (.nil, e) else if R.2 ≠ 0 then (.nil, R.2) else (tyT 117 [K, R.1], 0)
def let1 (X Y : Tree × Int) : Tree × Int := if X.2 ≠ 0 then (.nil, X.2) else Y
def lamT1 (A B : Tree × Int) : Tree × Int := if A.2 ≠ 0 then (.nil, A.2) else if B.2 ≠ 0 then (.nil, B.2) else (tyT 114 [A.1, B.1], 0)
def appT1 (F X : Tree × Int) : Tree × Int := if F.2 ≠ 0 then (.nil, F.2) else if X.2 ≠ 0 then (.nil, X.2) else if F.1.kind ≠ 114 ∨ sameP (kid0 F.1) X.1 = false then (.nil, 11) else (kid1 F.1, 0)
def rec1 (L : List Tree × Int) : Tree × Int := if L.2 ≠ 0 then (.nil, L.2) else (tyT 115 L.1, 0)
def consP (R : Tree × Int) (L : List Tree × Int) : List Tree × Int := if R.2 ≠ 0 then ([], R.2) else if L.2 ≠ 0 then ([], L.2) else (R.1 :: L.1, 0)
def field1 (a : ByteArray) (R : Tree × Int) : Tree × Int := if R.2 ≠ 0 then (.nil, R.2) else (.node 116 0 a emptyB [R.1], 0)
def part1 (e : Int) (T : Tree) (a : ByteArray) : Tree × Int := match partP (kidsOf T) a with
  | none => (.nil, e)
  | some p => (p, 0)
def proj1 (a : ByteArray) (R : Tree × Int) : Tree × Int := if (asP R 115).2 ≠ 0 then (.nil, (asP R 115).2) else part1 11 R.1 a
def tapp1 (R K : Tree × Int) (C : Tree) : Tree × Int := if R.2 ≠ 0 then (.nil, R.2) else if K.2 ≠ 0 then (.nil, K.2) else if R.1.kind ≠ 117 ∨ sameP (kid0 R.1) K.1 = false then (.nil, 11) else filledP (kid1 R.1) C
def alike1 (A : Tree) (B : Tree × Int) (S : Tree) : Tree × Int := if B.2 ≠ 0 then (.nil, B.2) else if sameP A B.1 = false then (.nil, 11) else (S, 0)
def pack1 (T K A : Tree × Int) (C : Tree) : Tree × Int := if T.2 ≠ 0 then (.nil, T.2) else if K.2 ≠ 0 then (.nil, K.2) else if A.2 ≠ 0 then (.nil, A.2) else if T.1.kind ≠ 118 ∨ sameP (kid0 T.1) K.1 = false then (.nil, 11) else alike1 A.1 (filledP (kid1 T.1) C) T.1
def unpack1 (T : Tree × Int) (e : Int) (B : Tree × Int) : Tree × Int := if (asP T 118).2 ≠ 0 then (.nil, (asP T 118).2) else if e ≠ 0 then (.nil, e) else if B.2 ≠ 0 then (.nil, B.2) else if occP B.1 0 = true then (.nil, 11) else shiftP B.1 (-1) 0
def choice1 (A B C : Tree × Int) : Tree × Int := if A.2 ≠ 0 then (.nil, A.2) else if B.2 ≠ 0 then (.nil, B.2) else if C.2 ≠ 0 then (.nil, C.2) else if A.1.kind ≠ 112 ∨ sameP B.1 C.1 = false then (.nil, 11) else (B.1, 0)
def op1 (n : Int) (A B : Tree × Int) : Tree × Int := if A.2 ≠ 0 then (.nil, A.2) else if B.2 ≠ 0 then (.nil, B.2) else if A.1.kind ≠ 111 ∨ B.1.kind ≠ 111 then (.nil, 11) else if n ≤ 3 then (tyT 111 [], 0) else (tyT 112 [], 0)
def in2 (A : Tree) (S : Tree) : Option Tree → Tree × Int
  | none => (.nil, 14)
  | some p => alike1 A (filledP p S) S
def in1 (a : ByteArray) (S A : Tree × Int) : Tree × Int := if S.2 ≠ 0 then (.nil, S.2) else if A.2 ≠ 0 then (.nil, A.2) else if S.1.kind ≠ 121 then (.nil, 11) else in2 A.1 S.1 (partP (kidsOf S.1) a)
def namesEq : List Tree → List Tree → Bool
  | [], [] => true
  | t :: ts, u :: us => eqB t.name u.name && namesEq ts us
  | _, _ => false
def alikeP (l : List Tree) (t : Tree) : Tree × Int := if (l.any fun s => !sameP s t) = true then (.nil, 11) else (t, 0)
def arm1 (A R : Tree × Int) (L : List Tree × Int) : List Tree × Int := if A.2 ≠ 0 then ([], A.2) else consP R L
def arms1 (S : Tree) (l : List Tree) (L : List Tree × Int) : List Tree × Int := if namesEq (kidsOf S) l = false then ([], 14) else L
def case1 (S : Tree × Int) (L : List Tree × Int) : Tree × Int := if (asP S 121).2 ≠ 0 then (.nil, (asP S 121).2) else if L.2 ≠ 0 then (.nil, L.2) else alikeP L.1 (L.1.headD .nil)
def fold1 (S T : Tree × Int) (L : List Tree × Int) : Tree × Int := if (asP S 121).2 ≠ 0 then (.nil, (asP S 121).2) else if T.2 ≠ 0 then (.nil, T.2) else if L.2 ≠ 0 then (.nil, L.2) else alikeP L.1 T.1
mutual
/-- The type of a term, and the error. -/
def ofP : Tree → List Tree → List Tree → Tree × Int
  | .nil, _, _ => (.nil, 0)
  | .node k n a _ kids, ks, ts =>
    if k = 130 then (if n ≥ (ts.length : Int) then (.nil, 8) else normalP 1000 (ts.getD n.toNat .nil))
    else if k = 131 then (tyT 111 [], 0)
    else if k = 132 then (tyT 112 [], 0)
    else if k = 133 then (tyT 113 [], 0)
    else if k = 139 then ofTLam kids ks ts
    else if k = 143 then ofLet kids ks ts
    else if k = 134 then ofLam kids ks ts
    else if k = 135 then ofApp kids ks ts
    else if k = 136 then rec1 (ofRec kids ks ts)
    else if k = 138 then proj1 a (ofH kids ks ts)
    else if k = 140 then ofTApp kids ks ts
    else if k = 141 then ofPack kids ks ts
    else if k = 142 then ofUnpack kids ks ts
    else if k = 144 then ofIf kids ks ts
    else if k = 145 then ofOp n kids ks ts
    else if k = 146 then ofIn a kids ks ts
    else if k = 147 then ofCase kids ks ts
    else ofFold kids ks ts
termination_by structural x => x
def ofH : List Tree → List Tree → List Tree → Tree × Int
  | x :: _, ks, ts => ofP x ks ts
  | [], _, _ => (.nil, 0)
termination_by structural x => x
def ofTLam : List Tree → List Tree → List Tree → Tree × Int
  | [K, x], ks, ts => tlam1 K (shiftsP ts).2 (ofP x (K :: ks) (shiftsP ts).1)
  | _, _, _ => (.nil, 0)
termination_by structural x => x
def ofLet : List Tree → List Tree → List Tree → Tree × Int
  | [x, y], ks, ts => let1 (ofP x ks ts) (ofP y ks ((ofP x ks ts).1 :: ts))
  | _, _, _ => (.nil, 0)
termination_by structural x => x
def ofLam : List Tree → List Tree → List Tree → Tree × Int
  | [T, y], ks, ts => lamT1 (starT ks T) (ofP y ks ((starT ks T).1 :: ts))
  | _, _, _ => (.nil, 0)
termination_by structural x => x
def ofApp : List Tree → List Tree → List Tree → Tree × Int
  | [f, x], ks, ts => appT1 (ofP f ks ts) (ofP x ks ts)
  | _, _, _ => (.nil, 0)
termination_by structural x => x
def ofRec : List Tree → List Tree → List Tree → List Tree × Int
  | [], _, _ => ([], 0)
  | t :: l, ks, ts => consP (ofField t ks ts) (ofRec l ks ts)
termination_by structural x => x
def ofField : Tree → List Tree → List Tree → Tree × Int
  | .nil, _, _ => (.nil, 0)
  | .node _ _ a _ ys, ks, ts => field1 a (ofH ys ks ts)
termination_by structural x => x
def ofTApp : List Tree → List Tree → List Tree → Tree × Int
  | [x, C], ks, ts => tapp1 (ofP x ks ts) (KindP ks C) C
  | _, _, _ => (.nil, 0)
termination_by structural x => x
def ofPack : List Tree → List Tree → List Tree → Tree × Int
  | [C, x, T], ks, ts => pack1 (starT ks T) (KindP ks C) (ofP x ks ts) C
  | _, _, _ => (.nil, 0)
termination_by structural x => x
def ofUnpack : List Tree → List Tree → List Tree → Tree × Int
  | [x, y], ks, ts => unpack1 (ofP x ks ts) (shiftsP ts).2 (ofP y (kid0 (ofP x ks ts).1 :: ks) (kid1 (ofP x ks ts).1 :: (shiftsP ts).1))
  | _, _, _ => (.nil, 0)
termination_by structural x => x
def ofIf : List Tree → List Tree → List Tree → Tree × Int
  | [x, y, z], ks, ts => choice1 (ofP x ks ts) (ofP y ks ts) (ofP z ks ts)
  | _, _, _ => (.nil, 0)
termination_by structural x => x
def ofOp (n : Int) : List Tree → List Tree → List Tree → Tree × Int
  | [x, y], ks, ts => op1 n (ofP x ks ts) (ofP y ks ts)
  | _, _, _ => (.nil, 0)
termination_by structural x => x
def ofIn (a : ByteArray) : List Tree → List Tree → List Tree → Tree × Int
  | [T, x], ks, ts => in1 a (starT ks T) (ofP x ks ts)
  | _, _, _ => (.nil, 0)
termination_by structural x => x
def ofCase : List Tree → List Tree → List Tree → Tree × Int
  | x :: arms, ks, ts => case1 (ofP x ks ts) (arms1 (ofP x ks ts).1 arms (ofArms arms (kidsOf (ofP x ks ts).1) (ofP x ks ts).1 ks ts))
  | _, _, _ => (.nil, 0)
termination_by structural x => x
def ofFold : List Tree → List Tree → List Tree → Tree × Int
  | x :: T :: arms, ks, ts => fold1 (ofP x ks ts) (starT ks T) (arms1 (ofP x ks ts).1 arms (ofArms arms (kidsOf (ofP x ks ts).1) (starT ks T).1 ks ts))
  | _, _, _ => (.nil, 0)
termination_by structural x => x
def ofArms : List Tree → List Tree → Tree → List Tree → List Tree → List Tree × Int
  | [], _, _, _, _ => ([], 0)
  | t :: l, cs, self, ks, ts => arm1 (filledP (kid0 (cs.headD .nil)) self) (ofArm t ks ((filledP (kid0 (cs.headD .nil)) self).1 :: ts)) (ofArms l cs.tail self ks ts)
termination_by structural x => x
def ofArm : Tree → List Tree → List Tree → Tree × Int
  | .nil, _, _ => (.nil, 0)
  | .node _ _ _ _ ys, ks, ts => ofH ys ks ts
termination_by structural x => x
end
theorem lC : ∀ x y : List UInt8, Op.bytesLess y x = false → x ≠ y → Op.bytesLess x y = true
  | [], [], _, h => absurd rfl h
  | [], _ :: _, _, _ => by simp [Op.bytesLess]
  | _ :: _, [], h, _ => by simp [Op.bytesLess] at h
  | x :: xs, y :: ys, h, hn => by
    simp only [Op.bytesLess, Bool.or_eq_false_iff, Bool.and_eq_false_iff, decide_eq_false_iff_not, beq_eq_false_iff_ne, Bool.or_eq_true, Bool.and_eq_true, decide_eq_true_eq, beq_iff_eq] at h ⊢
    by_cases e : x = y
    · subst e
      right
      refine ⟨rfl, lC xs ys ?_ fun e => hn (by rw [e])⟩
      rcases h.2 with h2 | h2
      · exact absurd rfl h2
      · exact h2
    · left
      rcases Nat.lt_or_ge x.toNat y.toNat with h1 | h1
      · exact h1
      · exact absurd (show y < x from Nat.lt_of_le_of_ne h1 fun h2 => e (UInt8.toNat_inj.1 h2.symm)) h.1
end Go.Proofs.YtlbemgokilhdnaaGreat.Ab
namespace Go.Proofs.YtlbemgokilhdnaaGreat.Ab
set_option linter.unusedVariables false
set_option linter.unusedSimpArgs false
open Go.RowKit Go.Lib
attribute [local irreducible] AWP AOps AExit AThen ABlock ANoGoto FeetOk
theorem aAP {w : World} {M : Nat → Prop} {β : Nat → Value} {x y : IV} {vs : List Value} (h : RepAL w M β [.imm x, .imm y] vs) : ∃ u v, vs = [u, v] ∧ Rep w M x u ∧ Rep w M y v := by
  match vs, h with
  | [u, v], h =>
    rw [RepAL, RepAL, RepA, RepA] at h
    exact ⟨u, v, rfl, h.1, h.2.1⟩
  | [], h => rw [RepAL] at h; exact h.elim
  | [u], h => rw [RepAL, RepAL] at h; exact h.2.elim
  | u :: v :: x :: l, h => rw [RepAL, RepAL, RepAL] at h; exact h.2.2.elim
theorem zT (n : Nat) (h0 : 0 < n) (hn : n ≤ 100000000) : ACalls Tryz.prog 137 [.imm (.lit (.slice none 0 0)), .imm (.lit (.int .i64 (n : Int)))] [(500, .fut)] (.ref 500 0) [(500, .arr 25 1 0 [])] := by
  refine ⟨⟨_, Tryz.func137, rfl, rfl⟩, fun w M β vs hamb hm hv => ?_⟩
  obtain ⟨u, v, rfl, hu, hv2⟩ := aAP hv
  rw [zK hu, zK hv2]
  obtain ⟨ei, he⟩ : ∃ ei, (tab : Tab).at 25 = some ei := ⟨_, rfl⟩
  obtain ⟨_, jj, hjj, e1, e2, e3⟩ := tabOk _ _ he
  have hsz : ei.size = 1 := by cases he; rfl
  have hby : ei.bytes ≤ 64 := by cases he; decide
  have hzc : ei.zero.cells.size = 1 := by cases he; rfl
  have hfut : β 500 = .tuple #[] := hm.ok 500 .fut rfl
  have hj1 : jj.size = 1 := by rw [e1, hsz]
  have hjb : jj.bytes = ei.bytes := e2
  refine (Any8.slices_Grow_grow (P := Tryz.prog) Tryz.growN jj ei.zero hjj e3 (by omega) none 0 0 n [] w (Nat.le_refl _) (by omega) (by rw [hjb, Nat.zero_add]; have := Nat.mul_le_mul hn hby; omega) (by omega) (by simp) (fun _ => rfl) (fun a h => by cases h)).mono fun e w' ⟨hev, hw⟩ => ?_
  rw [Nat.zero_add] at hev hw
  have hge := grownCap_ge w n 0 25
  have hcm : grownCap w n 0 25 ≤ maxLen := grownCap_le_maxLen w n 0 25 (by simp only [maxLen]; omega)
  have hev : e = .returned (.slice (some ⟨w.heap.size, 0, none⟩) 0 (grownCap w n 0 25)) := hev
  have hw : w' = w.drew.alloc (.cells (#[] ++ Builtin.zeroCells ei.zero.cells n ++ Builtin.zeroCells ei.zero.cells (grownCap w n 0 25 - n)) 25) := hw
  generalize grownCap w n 0 25 = cp at *
  have hown : w'.ownsRow 0 25 1 (.slice (some ⟨w.heap.size, 0, none⟩) 0 cp) 0 [] := by
    rw [hw]
    refine ⟨rfl, .inr ⟨w.heap.size, _, _, rfl, Nat.zero_le _, heap_alloc_new w.drew _, Nat.zero_le _, hcm, ?_, rfl⟩⟩
    simp only [Array.size_append, size_zeroCells, hzc]
    simp
    omega
  have hbel : Below w.heap.size w w' := by rw [hw]; exact ((Below.refl _ _).drew).alloc (Nat.le_refl _) _
  let M' : Nat → Prop := fun b => (b < w.heap.size ∧ M b) ∨ b = w.heap.size
  let β' : Nat → Value := fun q => if q = 500 then .slice (some ⟨w.heap.size, 0, none⟩) 0 cp else β q
  have eg : β' 500 = .slice (some ⟨w.heap.size, 0, none⟩) 0 cp := by simp [β']
  have o1 : ∀ o, Mem.get [(500, o)] = one 500 o := fun o => by
    funext k
    simp only [Mem.get, one]
    by_cases hk : k = 500
    · subst hk; rfl
    · rw [if_neg (fun h => hk h.symm), if_neg hk]
  rw [o1, o1] at *
  refine ⟨_, hev, M', β', ?_, dL ⟨[], by rw [eg]; exact hown, rfl, by simp [RepL], by unfold slMax; omega, fun b hb => ?_⟩, ⟨hbel.os, hbel.tape, hbel.output, hbel.size, fun b hb _ => ⟨hbel.block b hb, ⟨fun h => by rcases h with h | h <;> first | exact h.2 | omega, fun h => .inl ⟨hb, h⟩⟩⟩⟩, fun q hk1 hk2 => ?_, fun q hk => ?_, fun b hb => ?_⟩
  · rw [RepA, eg]; exact ⟨Nat.le_refl _, fun _ => rfl, rfl⟩
  · rw [eg] at hb; simp only [blk, Option.some.injEq] at hb; exact .inr hb.symm
  · have : q ≠ 500 := fun e => by subst e; rw [cV] at hk2; cases hk2
    simp [β', this]
  · by_cases e : q = 500
    · rw [e, hfut]; exact LeV.fut _
    · exact absurd (eH _ e) hk
  · rw [dB, eg] at hb
    simp only [blk, Option.some.injEq] at hb
    right; omega
set_option maxHeartbeats 16000000 in
set_option maxRecDepth 10000 in
/-- One ahead of a list. -/
theorem qV (fa : Bool) (pk : List IV) (fb : Bool) (m : Nat) (cs : List IV) (hm : m ≤ 900000) (hc : cs.length = m) : ACalls Tryz.prog 112 [.imm (.sl fa 2 [.sl true 1 [.ptr pk 0], .sl fb m cs])] [] (.imm (.sl false (1 + m) (.ptr pk 0 :: cs))) [] := by
  have cg := zT (1 + m) (by omega) (by omega)
  rw [show ((1 + m : Nat) : Int) = 1 + (m : Int) by omega] at cg
  refine cI Tryz.func112 rfl rfl (nb rfl) rfl ?_
  refine cT (eG 500 (by simp) rfl rfl) ?_
  repeat' (first | refine aF ?_ | (refine aH ?_;  first | refine aC tabOk rfl rfl rfl (nb rfl) rfl ?_ | refine aV tabOk rfl rfl (nb rfl) rfl ?_) | (refine aL ?_;  first | refine aG ?_ | refine aM ?_ | refine aS ?_))
  refine cD (ι := {j : Nat // j ≤ 2}) (fun j => S.f ⟨[(11, .imm (.lit (.int .i64 (j.1 : Int)))), (10, .imm (.lit (.int .i64 2))), (9, .imm (.sl fa 2 [.sl true 1 [.ptr pk 0], .sl fb m cs])), (0, .imm (.sl fa 2 [.sl true 1 [.ptr pk 0], .sl fb m cs])), (3, .imm (.lit (.int .i64 (if j.1 = 0 then 0 else if j.1 = 1 then 1 else 1 + (m : Int)))))], [(500, .fut)]⟩) (fun j => 2 - j.1) ⟨0, Nat.zero_le _⟩ (bU (by repeat' first | exact trivial | refine ⟨rfl, ?_⟩) (by repeat' first | exact trivial | refine ⟨rfl, ?_⟩)) ?_
  rintro ⟨j, hj⟩
  dsimp only
  match j, hj with
  | 0, _ =>
    repeat' (first | refine aF ?_ | (refine aH ?_;  first | refine aC tabOk rfl rfl rfl (nb rfl) rfl ?_ | (refine aJ rfl rfl rfl (nb rfl) rfl rfl rfl (fun hq => ?_) (fun hq => ?_) <;> (first | (simp only [sD, sE, sB, sC, sN, sM, sT, sF] at hq; try (exfalso; omega)) | skip)) | refine bQ rfl rfl rfl (nb rfl) rfl rfl (by omega) ?_ | refine cS rfl rfl rfl (nb rfl) rfl rfl rfl (by omega) (by omega) ?_ | refine aV tabOk rfl rfl (nb rfl) rfl ?_ | refine bF tabOk rfl rfl rfl (nb rfl) rfl rfl rfl rfl (by first | assumption | omega) ?_) | (refine aL ?_;  first | refine aG ?_ | refine aM ?_ | refine bI ?_ | refine aS ?_ | refine aT ?_ | refine aE (b := true) rfl (fun _ => ?_) nTf | refine aE (b := false) rfl nFt (fun _ => ?_)) | (refine aK ?_;  first | refine aU ?_) | (refine aR ?_;  first | refine bP ?_))
    all_goals first
      | (exfalso; omega)
      | exact ⟨⟨1, by omega⟩, (by show 2 - 1 < 2 - 0; omega), (bU (by repeat' first | exact trivial | refine ⟨rfl, ?_⟩) (by repeat' first | exact trivial | refine ⟨rfl, ?_⟩))⟩
  | 1, _ =>
    repeat' (first | refine aF ?_ | (refine aH ?_;  first | refine aC tabOk rfl rfl rfl (nb rfl) rfl ?_ | (refine aJ rfl rfl rfl (nb rfl) rfl rfl rfl (fun hq => ?_) (fun hq => ?_) <;> (first | (simp only [sD, sE, sB, sC, sN, sM, sT, sF] at hq; try (exfalso; omega)) | skip)) | refine cS (z := 1 + (m : Int)) rfl rfl rfl (nb rfl) rfl rfl rfl (by omega) (by omega) ?_ | refine bQ rfl rfl rfl (nb rfl) rfl rfl (by omega) ?_ | refine aV tabOk rfl rfl (nb rfl) rfl ?_ | refine bF tabOk rfl rfl rfl (nb rfl) rfl rfl rfl rfl (by first | assumption | omega) ?_) | (refine aL ?_;  first | refine aG ?_ | refine aM ?_ | refine bI ?_ | refine aS ?_ | refine aT ?_ | refine aE (b := true) rfl (fun _ => ?_) nTf | refine aE (b := false) rfl nFt (fun _ => ?_)) | (refine aK ?_;  first | refine aU ?_) | (refine aR ?_;  first | refine bP ?_))
    all_goals first
      | (exfalso; omega)
      | exact ⟨⟨2, by omega⟩, (by show 2 - 2 < 2 - 1; omega), (bU (by repeat' first | exact trivial | refine ⟨rfl, ?_⟩) (by repeat' first | exact trivial | refine ⟨rfl, ?_⟩))⟩
  | 2, _ =>
    rw [if_neg (by decide), if_neg (by decide)]
    repeat' (first | refine aF ?_ | (refine aH ?_;  first | refine aC tabOk rfl rfl rfl (nb rfl) rfl ?_ | (refine aJ rfl rfl rfl (nb rfl) rfl rfl rfl (fun hq => ?_) (fun hq => ?_) <;> (first | (simp only [sD, sE, sB, sC, sN, sM, sT, sF] at hq; try (exfalso; omega)) | skip)) | refine bW rfl rfl (nb rfl) rfl rfl rfl rfl cg (by repeat' first | exact trivial | refine ⟨rfl, ?_⟩) rfl (by show ([500] : List Nat).Nodup; decide) ?_ | refine aV tabOk rfl rfl (nb rfl) rfl ?_) | (refine aL ?_;  first | refine aG ?_ | refine aM ?_ | refine aS ?_ | refine bR ?_ | refine aE (b := false) rfl nFt (fun _ => ?_)) | (refine aK ?_;  first | refine aU ?_ | refine bJ ?_) | (refine aR ?_;  first | refine bH ?_))
    all_goals first
      | (exfalso; omega)
      | skip
    refine cD (ι := {j : Nat // j ≤ 2}) (fun j => S.f ⟨[(27, .imm (.lit (.int .i64 (j.1 : Int)))), (26, .imm (.lit (.int .i64 2))), (25, .imm (.sl fa 2 [.sl true 1 [.ptr pk 0], .sl fb m cs])), (6, .ref 500 (if j.1 = 0 then 0 else if j.1 = 1 then 1 else 1 + m))], [(500, .arr 25 1 (if j.1 = 0 then 0 else if j.1 = 1 then 1 else 1 + m) (if j.1 = 0 then [] else if j.1 = 1 then [.ptr pk 0] else .ptr pk 0 :: cs))]⟩) (fun j => 2 - j.1) ⟨0, Nat.zero_le _⟩ (bU (by repeat' first | exact trivial | refine ⟨rfl, ?_⟩) (by repeat' first | exact trivial | refine ⟨rfl, ?_⟩)) ?_
    rintro ⟨j, hj⟩
    dsimp only
    match j, hj with
    | 0, _ =>
      rw [if_pos rfl, if_pos rfl]
      repeat' (first | refine aF ?_ | (refine aH ?_;  first | refine aC tabOk rfl rfl rfl (nb rfl) rfl ?_ | (refine aJ rfl rfl rfl (nb rfl) rfl rfl rfl (fun hq => ?_) (fun hq => ?_) <;> (first | (simp only [sD, sE, sB, sC, sN, sM, sT, sF] at hq; try (exfalso; omega)) | skip)) | refine cM tabOk rfl rfl rfl (nb rfl) rfl rfl rfl rfl rfl rfl rfl (by first | omega | decide) rfl (by first | omega | (dsimp only; omega)) (by first | omega | (dsimp only; omega)) ?_ | refine bQ rfl rfl rfl (nb rfl) rfl rfl (by omega) ?_ | refine bF tabOk rfl rfl rfl (nb rfl) rfl rfl rfl rfl (by first | assumption | omega) ?_) | (refine aL ?_;  first | refine aG ?_ | refine aM ?_ | refine bI ?_ | refine aS ?_ | refine aT ?_ | refine aE (b := true) rfl (fun _ => ?_) nTf) | (refine aK ?_;  first | refine aU ?_) | (refine aR ?_;  first | refine bP ?_))
      all_goals first
        | (exfalso; omega)
        | exact ⟨⟨1, by omega⟩, (by show 2 - 1 < 2 - 0; omega), (bU (by repeat' first | exact trivial | refine ⟨rfl, ?_⟩) (by repeat' first | exact trivial | refine ⟨rfl, ?_⟩))⟩
    | 1, _ =>
      rw [if_neg (by decide), if_pos rfl, if_neg (by decide), if_pos rfl]
      by_cases h0 : m = 0
      · subst h0
        have e0 : cs = [] := List.eq_nil_of_length_eq_zero hc
        subst e0
        repeat' (first | refine aF ?_ | (refine aH ?_;  first | refine aC tabOk rfl rfl rfl (nb rfl) rfl ?_ | (refine aJ rfl rfl rfl (nb rfl) rfl rfl rfl (fun hq => ?_) (fun hq => ?_) <;> (first | (simp only [sD, sE, sB, sC, sN, sM, sT, sF] at hq; try (exfalso; omega)) | skip)) | refine pW tabOk rfl rfl rfl (nb rfl) rfl rfl rfl (.inl rfl) rfl ?_ | refine bQ rfl rfl rfl (nb rfl) rfl rfl (by omega) ?_ | refine bF tabOk rfl rfl rfl (nb rfl) rfl rfl rfl rfl (by first | assumption | omega) ?_) | (refine aL ?_;  first | refine aG ?_ | refine aM ?_ | refine bI ?_ | refine aS ?_ | refine aT ?_ | refine aE (b := true) rfl (fun _ => ?_) nTf) | (refine aK ?_;  first | refine aU ?_) | (refine aR ?_;  first | refine bP ?_))
        all_goals first
          | (exfalso; omega)
          | exact ⟨⟨2, by omega⟩, (by show 2 - 2 < 2 - 1; omega), (bU (by repeat' first | exact trivial | refine ⟨rfl, ?_⟩) (by repeat' first | exact trivial | refine ⟨rfl, ?_⟩))⟩
      · repeat' (first | refine aF ?_ | (refine aH ?_;  first | refine aC tabOk rfl rfl rfl (nb rfl) rfl ?_ | (refine aJ rfl rfl rfl (nb rfl) rfl rfl rfl (fun hq => ?_) (fun hq => ?_) <;> (first | (simp only [sD, sE, sB, sC, sN, sM, sT, sF] at hq; try (exfalso; omega)) | skip)) | refine cM tabOk rfl rfl rfl (nb rfl) rfl rfl rfl rfl rfl rfl rfl (by omega) (hc.trans (Nat.mul_one m).symm) (by first | omega | (dsimp only; omega)) (by first | omega | (dsimp only; omega)) ?_ | refine bQ rfl rfl rfl (nb rfl) rfl rfl (by omega) ?_ | refine bF tabOk rfl rfl rfl (nb rfl) rfl rfl rfl rfl (by first | assumption | omega) ?_) | (refine aL ?_;  first | refine aG ?_ | refine aM ?_ | refine bI ?_ | refine aS ?_ | refine aT ?_ | refine aE (b := true) rfl (fun _ => ?_) nTf) | (refine aK ?_;  first | refine aU ?_) | (refine aR ?_;  first | refine bP ?_))
        all_goals first
          | (exfalso; omega)
          | exact ⟨⟨2, by omega⟩, (by show 2 - 2 < 2 - 1; omega), (bU (by repeat' first | exact trivial | refine ⟨rfl, ?_⟩) (by repeat' first | exact trivial | refine ⟨rfl, ?_⟩))⟩
    | 2, _ =>
      rw [if_neg (by decide), if_neg (by decide), if_neg (by decide), if_neg (by decide)]
      repeat' (first | refine aF ?_ | (refine aH ?_;  first | refine aC tabOk rfl rfl rfl (nb rfl) rfl ?_ | (refine aJ rfl rfl rfl (nb rfl) rfl rfl rfl (fun hq => ?_) (fun hq => ?_) <;> (first | (simp only [sD, sE, sB, sC, sN, sM, sT, sF] at hq; try (exfalso; omega)) | skip))) | (refine aL ?_;  first | refine aG ?_ | refine aM ?_ | refine aN ?_ | refine bR ?_ | refine aE (b := false) rfl nFt (fun _ => ?_)) | (refine aK ?_;  first | refine aU ?_ | refine bJ ?_) | (refine aR ?_;  first | refine bH ?_))
      all_goals first
        | (exfalso; omega)
        | (refine dS ((Imp.of_le (σ' := S.f ⟨[(2, .ref 500 (1 + m))], [(500, .arr 25 1 (1 + m) (.ptr pk 0 :: cs))]⟩) (bU (by repeat' first | exact trivial | refine ⟨rfl, ?_⟩) (by repeat' first | exact trivial | refine ⟨rfl, ?_⟩))).trans (cP (g := 500) rfl (by repeat' first | exact trivial | exact fun _ => rfl | refine ⟨?_, ?_⟩) (by repeat' first | exact trivial | exact fun _ => rfl | refine ⟨?_, ?_⟩))) ?_
           refine aP (by first | exact .inl rfl | exact .inr rfl) (aX rfl (aB rfl)) rfl ?_; rfl)
    | j + 3, h => omega
  | j + 3, h => omega
end Go.Proofs.YtlbemgokilhdnaaGreat.Ab
namespace Go.Proofs.YtlbemgokilhdnaaGreat.Ab
set_option linter.unusedVariables false
set_option linter.unusedSimpArgs false
open Go.RowKit
attribute [local irreducible] AWP AOps AExit AThen ABlock ANoGoto FeetOk
set_option maxHeartbeats 8000000 in
set_option maxRecDepth 10000 in
theorem aDg (i n d : Int) (s : Bool) (hn0 : 0 ≤ n) (hn : n ≤ 65536) (hd0 : 0 ≤ d) (hd : d ≤ 100000000) :
    ACalls Tryz.prog 150 [.imm (varT n).iv, .imm (.lit (.int .i64 d)), .obj 1000 0, .obj 1001 0] [(1000, .cells [.imm (.lit (.bool s))]), (1001, .cells [.imm (.lit (.int .i64 i))])]
      (.imm (occV i n d s).1.iv) [(1000, .cells [.imm (.lit (.bool (occV i n d s).2))]), (1001, .cells [.imm (.lit (.int .i64 i))])] := by
  cases s with
  | true =>
    have e : occV i n d true = (varT n, true) := rfl
    rw [e]
    unfold varT
    refine bX [1000, 1001] Tryz.func150 rfl rfl (nb rfl) rfl rfl ?_
    repeat' (first | refine aF ?_ | (refine aH ?_;  first | refine aC tabOk rfl rfl rfl (nb rfl) rfl ?_ | refine bO rfl rfl (nb rfl) ?_ | refine bM tabOk rfl rfl rfl (nb rfl) rfl rfl rfl rfl ?_ | refine bK tabOk rfl rfl rfl rfl rfl rfl rfl rfl rfl rfl rfl ?_) | (refine aL ?_;  first | refine aG ?_ | refine aM ?_ | refine aN ?_ | refine aQ mixed (by kernel_rfl) ?_) | (refine aK ?_;  first | refine aU ?_) | refine bD (bB (by kernel_rfl)) ?_)
    all_goals first
      | exact absurd rfl (by assumption)
      | (exfalso; omega)
      | (refine cC (bZ (by first | exact .inl rfl | exact .inr rfl) (aX rfl (aB rfl)) rfl (by repeat' first | exact trivial | refine ⟨rfl, ?_⟩) rfl ?_); rfl)
  | false =>
    by_cases h : 0 ≤ i ∧ d ≤ n ∧ n - d = i
    · have e : occV i n d false = (varT n, true) := by unfold occV; rw [decide_eq_true h]; rfl
      rw [e]
      unfold varT
      obtain ⟨h1, h2, h3⟩ := h
      refine bX [1000, 1001] Tryz.func150 rfl rfl (nb rfl) rfl rfl ?_
      repeat' (first | refine aF ?_ | (refine aH ?_;  first | refine aC tabOk rfl rfl rfl (nb rfl) rfl ?_ | (refine aJ rfl rfl rfl (nb rfl) rfl rfl rfl (fun hq => ?_) (fun hq => ?_) <;> (first | (simp only [sD, sE, sB, sC, sN, sM, sT, sF] at hq; try (exfalso; omega)) | skip)) | refine cH rfl rfl rfl (nb rfl) rfl rfl rfl (by omega) (by omega) ?_ | refine bM tabOk rfl rfl rfl (nb rfl) rfl rfl rfl rfl ?_ | refine bK tabOk rfl rfl rfl rfl rfl rfl rfl rfl rfl rfl rfl ?_) | (refine aL ?_;  first | refine aG ?_ | refine aM ?_ | refine aN ?_ | refine aQ mixed (by kernel_rfl) ?_) | (refine aK ?_;  first | refine aU ?_) | refine bD (bB (by kernel_rfl)) ?_)
      all_goals first
        | exact absurd rfl (by assumption)
        | (exfalso; omega)
        | (refine cC (bZ (by first | exact .inl rfl | exact .inr rfl) (aX rfl (aB rfl)) rfl (by repeat' first | exact trivial | refine ⟨rfl, ?_⟩) rfl ?_); rfl)
    · have e : occV i n d false = (varT n, false) := by unfold occV; rw [decide_eq_false h]; rfl
      rw [e]
      unfold varT
      refine bX [1000, 1001] Tryz.func150 rfl rfl (nb rfl) rfl rfl ?_
      repeat' (first | refine aF ?_ | (refine aH ?_;  first | refine aC tabOk rfl rfl rfl (nb rfl) rfl ?_ | refine bO rfl rfl (nb rfl) ?_ | (refine aJ rfl rfl rfl (nb rfl) rfl rfl rfl (fun hq => ?_) (fun hq => ?_) <;> (first | (simp only [sD, sE, sB, sC, sN, sM, sT, sF] at hq; try (exfalso; omega)) | skip)) | refine cH rfl rfl rfl (nb rfl) rfl rfl rfl (by omega) (by omega) ?_ | refine bM tabOk rfl rfl rfl (nb rfl) rfl rfl rfl rfl ?_ | refine bK tabOk rfl rfl rfl rfl rfl rfl rfl rfl rfl rfl rfl ?_) | (refine aL ?_;  first | refine aG ?_ | refine aM ?_ | refine aN ?_ | refine aQ mixed (by kernel_rfl) ?_) | (refine aK ?_;  first | refine aU ?_) | refine bD (bB (by kernel_rfl)) ?_)
      all_goals first
        | exact absurd rfl (by assumption)
        | (exfalso; omega)
        | (refine cC (bZ (by first | exact .inl rfl | exact .inr rfl) (aX rfl (aB rfl)) rfl (by repeat' first | exact trivial | refine ⟨rfl, ?_⟩) rfl ?_); rfl)
set_option maxHeartbeats 8000000 in
set_option maxRecDepth 10000 in
theorem wF (t : Tree) (i : Int) (hs : t.size ≤ 100000000) : ACalls Tryz.prog 142 [.imm t.iv, .imm (.lit (.int .i64 i))] [] (.imm (.lit (.bool (occP t i)))) [] := by
  have c1 := dX t hs
  unfold occP
  by_cases hc : checkP isConP t = 0
  · rw [decide_eq_true hc, Bool.true_and]
    obtain ⟨hw, hz, hf⟩ := bG hc
    have hv := eD t hf
    have cw := (aCL (σ := Bool) (occV i) 150 (fun s => .lit (.bool s)) (fun _ => .lit (.int .i64 i)) (fun _ => True)
      (fun n d s _ h1 h2 h3 h4 => ⟨aDg i n d s h1 h2 h3 h4, trivial, by unfold occV varT; simp⟩) t 0 false hv hw (Int.le_refl _) (by omega) trivial).1
    rw [aCM i t 0 false hv, Bool.false_or] at cw
    rw [hc] at c1
    generalize decide (0 ≤ i ∧ 0 < cntP i t 0) = Q at *
    generalize (walkS (occV i) t 0 false).1 = W at *
    clear hc hw hz hf hv
    refine aI Tryz.func142 rfl rfl (nb rfl) rfl ?_
    repeat' (first | refine aF ?_ | (refine aH ?_;  first | refine aC tabOk rfl rfl rfl (nb rfl) rfl ?_ | (refine aJ rfl rfl rfl (nb rfl) rfl rfl rfl (fun hq => ?_) (fun hq => ?_) <;> (first | (simp only [sD, sE, sB, sC, sN, sM, sT, sF] at hq; try (exfalso; omega)) | skip)) | refine aD rfl rfl (nb rfl) rfl rfl rfl rfl (c1) ?_ | refine cF 1001 (d := 3) rfl rfl rfl (nb rfl) rfl rfl rfl rfl rfl rfl rfl ?_ | refine cN 1000 tabOk rfl rfl rfl (nb rfl) rfl rfl rfl rfl rfl rfl ?_ | refine bW rfl rfl (nb rfl) rfl rfl rfl rfl cw (by repeat' first | exact trivial | refine ⟨rfl, ?_⟩) rfl (by show ([1000, 1001] : List Nat).Nodup; decide) ?_ | refine bM tabOk rfl rfl rfl (nb rfl) rfl rfl rfl rfl ?_ | refine bK tabOk rfl rfl rfl rfl rfl rfl rfl rfl rfl rfl rfl ?_) | (refine aL ?_;  first | refine aG ?_ | refine aM ?_ | refine bI ?_ | refine aN ?_ | refine aE (b := true) rfl (fun _ => ?_) nTf) | (refine aK ?_;  first | refine aU ?_))
    all_goals first
      | exact absurd rfl (by assumption)
      | (exfalso; omega)
      | (refine aP (by first | exact .inl rfl | exact .inr rfl) (aX rfl (aB rfl)) rfl ?_; rfl)
  · rw [decide_eq_false hc, Bool.false_and]
    generalize checkP isConP t = C at *
    refine aI Tryz.func142 rfl rfl (nb rfl) rfl ?_
    repeat' (first | refine aF ?_ | (refine aH ?_;  first | refine aC tabOk rfl rfl rfl (nb rfl) rfl ?_ | (refine aJ rfl rfl rfl (nb rfl) rfl rfl rfl (fun hq => ?_) (fun hq => ?_) <;> (first | (simp only [sD, sE, sB, sC, sN, sM, sT, sF] at hq; try (exfalso; omega)) | skip)) | refine aD rfl rfl (nb rfl) rfl rfl rfl rfl (c1) ?_ | refine cF 1001 (d := 3) rfl rfl rfl (nb rfl) rfl rfl rfl rfl rfl rfl rfl ?_ | refine cN 1000 tabOk rfl rfl rfl (nb rfl) rfl rfl rfl rfl rfl rfl ?_ | refine bM tabOk rfl rfl rfl (nb rfl) rfl rfl rfl rfl ?_ | refine bK tabOk rfl rfl rfl rfl rfl rfl rfl rfl rfl rfl rfl ?_) | (refine aL ?_;  first | refine aG ?_ | refine aM ?_ | refine aN ?_ | refine aT ?_ | refine aE (b := false) rfl nFt (fun _ => ?_)) | (refine aK ?_;  first | refine aU ?_))
    all_goals first
      | exact absurd (by assumption) hc
      | (exfalso; omega)
      | (refine aP (by first | exact .inl rfl | exact .inr rfl) (aX rfl (aB rfl)) rfl ?_; rfl)
end Go.Proofs.YtlbemgokilhdnaaGreat.Ab
namespace Go.Proofs.YtlbemgokilhdnaaGreat.Ab
set_option linter.unusedVariables false
set_option linter.unusedSimpArgs false
open Go.RowKit
attribute [local irreducible] AWP AOps AExit AThen ABlock ANoGoto FeetOk
theorem mW : starK.iv = .ptr [.lit (.int .i64 100), .lit (.int .i64 0), .lit (.string ⟨#[]⟩), .lit (.string ⟨#[]⟩), .sl false 0 []] 0 := rfl
set_option maxHeartbeats 4000000 in
set_option maxRecDepth 10000 in
theorem zU : ACalls Tryz.prog 108 [] [] (.imm starK.iv) [] := by
  refine aI Tryz.func108 rfl rfl (nb rfl) rfl ?_
  repeat' (first | refine aF ?_ | (refine aH ?_;  first | refine aC tabOk rfl rfl rfl (nb rfl) rfl ?_ | refine aV tabOk rfl rfl (nb rfl) rfl ?_) | (refine aL ?_;  first | refine aG ?_ | refine aN ?_))
  all_goals (refine aP (by first | exact .inl rfl | exact .inr rfl) (aX rfl (aB rfl)) rfl ?_; rfl)
set_option maxHeartbeats 4000000 in
set_option maxRecDepth 10000 in
theorem aAQ (t : Tree) (i : Int) (hs : t.size ≤ 100000000) : ACalls Tryz.prog 149 [.imm t.iv, .imm (.lit (.int .i64 i))] [] (.imm (.lit (.bool (occP t i)))) [] := by
  have c1 := wF t i hs
  refine aI Tryz.func149 rfl rfl (nb rfl) rfl ?_
  repeat' (first | refine aF ?_ | (refine aH ?_;  first | refine aC tabOk rfl rfl rfl (nb rfl) rfl ?_ | refine aD rfl rfl (nb rfl) rfl rfl rfl rfl (c1) ?_) | (refine aL ?_;  first | refine aG ?_ | refine aN ?_))
  all_goals (refine aP (by first | exact .inl rfl | exact .inr rfl) (aX rfl (aB rfl)) rfl ?_; rfl)
/-- What lies in fields, in cases. -/
def innerP (kids : List Tree) : List Tree := kids.map kid0
set_option maxHeartbeats 8000000 in
set_option maxRecDepth 10000 in
theorem aCN (k n : Int) (a b : ByteArray) (kids : List Tree) (hl : kids.length ≤ 900000) (hk : ∀ t ∈ kids, ∃ k' n' a' b' c, t = .node k' n' a' b' [c] ∧ c.whole = true) :
    ACalls Tryz.prog 105 [.imm (Tree.iv (.node k n a b kids))] [] (.imm (.sl false (innerP kids).length (Tree.ivs (innerP kids)))) [] := by
  have hlen : (innerP kids).length = kids.length := List.length_map ..
  rw [hlen]
  refine cI Tryz.func105 rfl rfl (nb rfl) rfl ?_
  repeat' (first | refine aF ?_ | (refine aH ?_;  first | refine aC tabOk rfl rfl rfl (nb rfl) rfl ?_ | refine aV tabOk rfl rfl (nb rfl) rfl ?_) | (refine aL ?_;  first | refine aG ?_ | refine aM ?_ | refine aS ?_))
  refine cT (mD (t := 3) 500 25 1 rfl (by simp) rfl rfl) ?_
  refine cD (ι := {j : Nat // j ≤ kids.length}) (fun j => S.f ⟨[(11, .imm (.lit (.int .i64 (j.1 : Int)))), (10, .imm (.lit (.int .i64 (kids.length : Int)))), (9, .imm (.sl false kids.length (Tree.ivs kids))), (3, .ref 500 j.1)], [(500, .arr 25 1 j.1 (Tree.ivs (innerP (kids.take j.1))))]⟩) (fun j => kids.length - j.1) ⟨0, Nat.zero_le _⟩ (bU (by repeat' first | exact trivial | refine ⟨rfl, ?_⟩) (by repeat' first | exact trivial | refine ⟨rfl, ?_⟩)) ?_
  rintro ⟨j, hj⟩
  dsimp only
  by_cases hlt : j < kids.length
  · have hget := cG kids j hlt
    obtain ⟨k', n', a', b', c, e, hcw⟩ := hk _ (List.getElem_mem hlt)
    obtain ⟨pc, hpc⟩ := bV (bL hcw)
    have hnx : Tree.ivs (innerP (kids.take (j + 1))) = Tree.ivs (innerP (kids.take j)) ++ [.ptr pc 0] := by
      unfold innerP
      rw [List.take_succ_eq_append_getElem hlt, List.map_append, cQ, cQ, List.map_append, e]
      show _ ++ [c.iv] = _
      rw [hpc]
    have hil := cX (innerP (kids.take j))
    unfold innerP at hil
    rw [List.length_map, List.length_take, Nat.min_eq_left hj] at hil
    rw [e] at hget
    have en : (Tree.node k' n' a' b' [c]).iv = .ptr [.lit (.int .i64 k'), .lit (.int .i64 n'), .lit (.string a'), .lit (.string b'), .sl false 1 [.ptr pc 0]] 0 := by
      rw [Tree.iv, Tree.ivs, Tree.ivs, hpc]; rfl
    rw [en] at hget
    change (Tree.ivs (innerP (kids.take j))).length = j at hil
    clear hk
    generalize Tree.ivs (innerP (kids.take j)) = ZI at *
    repeat' (first | refine aF ?_ | (refine aH ?_;  first | refine aC tabOk rfl rfl rfl (nb rfl) rfl ?_ | (refine aJ rfl rfl rfl (nb rfl) rfl rfl rfl (fun hq => ?_) (fun hq => ?_) <;> (first | (simp only [sD, sE, sB, sC, sN, sM, sT, sF] at hq; try (exfalso; omega)) | skip)) | refine bE tabOk rfl rfl rfl (nb rfl) rfl rfl rfl hget ?_ | refine cM tabOk rfl rfl rfl (nb rfl) rfl rfl rfl rfl rfl rfl rfl (by first | omega | decide) rfl (by first | omega | (dsimp only; omega)) (by first | omega | (dsimp only; omega)) ?_ | refine bQ rfl rfl rfl (nb rfl) rfl rfl (by omega) ?_ | refine bY tabOk rfl rfl rfl (nb rfl) rfl rfl rfl rfl rfl rfl rfl rfl rfl ?_ | refine bF tabOk rfl rfl rfl (nb rfl) rfl rfl rfl rfl (by first | assumption | omega) ?_ | refine aY tabOk rfl rfl rfl (nb rfl) rfl rfl rfl rfl (by first | rfl | omega) (by first | omega | simp) ?_) | (refine aL ?_;  first | refine aG ?_ | refine aM ?_ | refine bI ?_ | refine aS ?_ | refine aT ?_ | refine aE (b := true) rfl (fun _ => ?_) nTf) | (refine aK ?_;  first | refine aU ?_) | (refine aR ?_;  first | refine bP ?_))
    all_goals first
      | (exfalso; omega)
      | (refine ⟨⟨j + 1, hlt⟩, (by show kids.length - (j + 1) < kids.length - j; omega), ?_⟩; dsimp only; rw [hnx]; exact (bU (by repeat' first | exact trivial | refine ⟨rfl, ?_⟩) (by repeat' first | exact trivial | refine ⟨rfl, ?_⟩)))
  · have ej : j = kids.length := by omega
    subst ej
    rw [List.take_length]
    generalize Tree.ivs (innerP kids) = ZI at *
    repeat' (first | refine aF ?_ | (refine aH ?_;  first | refine aC tabOk rfl rfl rfl (nb rfl) rfl ?_ | (refine aJ rfl rfl rfl (nb rfl) rfl rfl rfl (fun hq => ?_) (fun hq => ?_) <;> (first | (simp only [sD, sE, sB, sC, sN, sM, sT, sF] at hq; try (exfalso; omega)) | skip))) | (refine aL ?_;  first | refine aG ?_ | refine aM ?_ | refine aN ?_ | refine bR ?_ | refine aE (b := false) rfl nFt (fun _ => ?_)) | (refine aK ?_;  first | refine aU ?_ | refine bJ ?_) | (refine aR ?_;  first | refine bH ?_))
    all_goals first
      | (exfalso; omega)
      | (refine dS ((Imp.of_le (σ' := S.f ⟨[(2, .ref 500 kids.length)], [(500, .arr 25 1 kids.length ZI)]⟩) (bU (by repeat' first | exact trivial | refine ⟨rfl, ?_⟩) (by repeat' first | exact trivial | refine ⟨rfl, ?_⟩))).trans (cP (g := 500) rfl (by repeat' first | exact trivial | exact fun _ => rfl | refine ⟨?_, ?_⟩) (by repeat' first | exact trivial | exact fun _ => rfl | refine ⟨?_, ?_⟩))) ?_
         refine aP (by first | exact .inl rfl | exact .inr rfl) (aX rfl (aB rfl)) rfl ?_; rfl)
end Go.Proofs.YtlbemgokilhdnaaGreat.Ab
namespace Go.Proofs.YtlbemgokilhdnaaGreat.Ab
set_option linter.unusedVariables false
set_option linter.unusedSimpArgs false
open Go.RowKit
attribute [local irreducible] AWP AOps AExit AThen ABlock ANoGoto FeetOk
theorem mX : ∀ l : List Tree, placedFs l = !(l.any fun t => !placedF t)
  | [] => rfl
  | t :: ts => by rw [placedFs, mX ts, List.any_cons]; cases placedF t <;> simp
set_option maxHeartbeats 4000000 in
set_option maxRecDepth 10000 in
theorem aAR (k n : Int) (a b : ByteArray) (c : Tree) (q : Bool)
    (h : ACalls Tryz.prog 136 [.imm c.iv] [] (.imm (.lit (.bool q))) []) :
    ACalls Tryz.prog 148 [.imm (Tree.iv (.node k n a b [c]))] [] (.imm (.lit (.bool (!q)))) [] := by
  refine aI Tryz.func148 rfl rfl (nb rfl) rfl ?_
  repeat' (first | refine aF ?_ | (refine aH ?_;  first | refine aC tabOk rfl rfl rfl (nb rfl) rfl ?_ | refine aD rfl rfl (nb rfl) rfl rfl rfl rfl (h) ?_ | refine aY tabOk rfl rfl rfl (nb rfl) rfl rfl rfl rfl (by first | rfl | omega) (by first | omega | simp) ?_) | (refine aL ?_;  first | refine aG ?_ | refine aN ?_))
  all_goals (refine aP (by first | exact .inl rfl | exact .inr rfl) (aX rfl (aB rfl)) rfl ?_; rfl)
set_option maxHeartbeats 8000000 in
set_option maxRecDepth 10000 in
theorem aBR (t : Tree) : isConP t = true → t.whole = true → t.size ≤ 100000000 → ACalls Tryz.prog 136 [.imm t.iv] [] (.imm (.lit (.bool (placedP t)))) [] := by
  induction t using Tree.sind with
  | h t ih =>
    intro hf hw hs
    have c2 := aAQ t 0 hs
    obtain ⟨k, n, a, b, kids, rfl⟩ := bT hw
    have hl : kids.length < 1000000000 := by have := cE kids hw; simp only [Tree.size] at hs; omega
    rw [placedP]
    by_cases h1 : k = 110
    · subst h1
      rw [if_pos rfl]
      clear c2 ih
      refine aI Tryz.func136 rfl rfl (nb rfl) rfl ?_
      repeat' (first | refine aF ?_ | (refine aH ?_;  first | refine aC tabOk rfl rfl rfl (nb rfl) rfl ?_ | (refine aJ rfl rfl rfl (nb rfl) rfl rfl rfl (fun hq => ?_) (fun hq => ?_) <;> (first | (simp only [sD, sE, sB, sC, sN, sM, sT, sF] at hq; try (exfalso; omega)) | skip))) | (refine aL ?_;  first | refine aG ?_ | refine aM ?_ | refine aS ?_ | refine aN ?_ | refine aE (b := true) rfl (fun _ => ?_) nTf) | (refine aK ?_;  first | refine aO ?_) | (refine aR ?_;  first | refine aZ ?_))
      all_goals first
        | exact absurd rfl (by assumption)
        | (exfalso; omega)
        | (refine aP (by first | exact .inl rfl | exact .inr rfl) (aX rfl (aB rfl)) rfl ?_; rfl)
    · rw [if_neg h1]
      by_cases h2 : k = 115
      · subst h2
        rw [if_pos rfl]
        have hp := (dH hf).2.2.1 rfl
        have c1 := fH kids 148 (fun t => !placedF t) hl fun j h => by
          have hm := List.getElem_mem h
          obtain ⟨n', a', b', c, e, hc⟩ := hp _ hm
          have hz := bN (k := 115) (n := n) (a := a) (b := b) hm
          have hwj := bC hw hm
          try dsimp only
          rw [e] at hz hwj ⊢
          have hz2 := bN (k := 116) (n := n') (a := a') (b := b') (kids := [c]) (t := c) (by simp)
          rw [placedF, placedH]
          exact aAR 116 n' a' b' c _ (ih c (by omega) hc (bC hwj (by simp)) (by omega))
        rw [mX]
        generalize (kids.any fun t => !placedF t) = Q at *
        clear c2 ih
        refine aI Tryz.func136 rfl rfl (nb rfl) rfl ?_
        repeat' (first | refine aF ?_ | (refine aH ?_;  first | refine aC tabOk rfl rfl rfl (nb rfl) rfl ?_ | (refine aJ rfl rfl rfl (nb rfl) rfl rfl rfl (fun hq => ?_) (fun hq => ?_) <;> (first | (simp only [sD, sE, sB, sC, sN, sM, sT, sF] at hq; try (exfalso; omega)) | skip)) | refine aD rfl rfl (nb rfl) rfl rfl rfl rfl (c1) ?_) | (refine aL ?_;  first | refine aG ?_ | refine aM ?_ | refine aS ?_ | refine aN ?_ | refine aE (b := true) rfl (fun _ => ?_) nTf | refine aE (b := false) rfl nFt (fun _ => ?_)) | (refine aK ?_;  first | refine aO ?_) | (refine aR ?_;  first | refine aZ ?_))
        all_goals first
          | exact absurd rfl (by assumption)
          | (exfalso; omega)
          | (refine aP (by first | exact .inl rfl | exact .inr rfl) (aX rfl (aB rfl)) rfl ?_; rfl)
      · rw [if_neg h2]
        generalize occP (.node k n a b kids) 0 = Q at *
        clear ih
        refine aI Tryz.func136 rfl rfl (nb rfl) rfl ?_
        repeat' (first | refine aF ?_ | (refine aH ?_;  first | refine aC tabOk rfl rfl rfl (nb rfl) rfl ?_ | (refine aJ rfl rfl rfl (nb rfl) rfl rfl rfl (fun hq => ?_) (fun hq => ?_) <;> (first | (simp only [sD, sE, sB, sC, sN, sM, sT, sF] at hq; try (exfalso; omega)) | skip)) | refine aD rfl rfl (nb rfl) rfl rfl rfl rfl (c2) ?_) | (refine aL ?_;  first | refine aG ?_ | refine aM ?_ | refine aS ?_ | refine aN ?_ | refine aT ?_ | refine aE (b := false) rfl nFt (fun _ => ?_)) | (refine aK ?_;  first | refine aU ?_) | (refine aR ?_;  first | refine bP ?_))
        all_goals first
          | exact absurd rfl (by assumption)
          | (exfalso; omega)
          | (refine aP (by first | exact .inl rfl | exact .inr rfl) (aX rfl (aB rfl)) rfl ?_; rfl)
set_option maxHeartbeats 8000000 in
set_option maxRecDepth 10000 in
theorem aDh (k n : Int) (a b : ByteArray) (kids : List Tree) (hl : kids.length ≤ 900000) (hk : ∀ t ∈ kids, ∃ n' a' b' c, t = .node 122 n' a' b' [c] ∧ c.whole = true ∧ isConP c = true ∧ c.size ≤ 100000000) :
    ACalls Tryz.prog 109 [.imm (Tree.iv (.node k n a b kids))] [] (.imm (.lit (.int .i64 (fitsP kids)))) [] := by
  generalize hR : fitsP kids = Q
  refine aI Tryz.func109 rfl rfl (nb rfl) rfl ?_
  repeat' (first | refine aF ?_ | (refine aH ?_;  first | refine aC tabOk rfl rfl rfl (nb rfl) rfl ?_ | refine aV tabOk rfl rfl (nb rfl) rfl ?_) | (refine aL ?_;  first | refine aG ?_ | refine aM ?_ | refine aS ?_))
  refine cD (ι := {j : Nat // j ≤ kids.length ∧ fitsP (kids.drop j) = Q}) (fun j => S.f ⟨[(10, .imm (.lit (.int .i64 (j.1 : Int)))), (9, .imm (.lit (.int .i64 (kids.length : Int)))), (8, .imm (.sl false kids.length (Tree.ivs kids)))], []⟩) (fun j => kids.length - j.1) ⟨0, Nat.zero_le _, hR⟩ (bU (by repeat' first | exact trivial | refine ⟨rfl, ?_⟩) (by repeat' first | exact trivial | refine ⟨rfl, ?_⟩)) ?_
  clear hR
  rintro ⟨j, hj, hR⟩
  dsimp only
  by_cases hlt : j < kids.length
  · have hget := cG kids j hlt
    obtain ⟨n', a', b', c, e, hcw, hcf, hcs⟩ := hk _ (List.getElem_mem hlt)
    have hc := aBR c hcf hcw hcs
    rw [List.drop_eq_getElem_cons hlt, e] at hR
    rw [e] at hget
    unfold fitsP at hR
    rw [placedFs, placedF, placedH] at hR
    clear hk
    cases hp : placedP c with
    | true =>
      rw [hp, Bool.true_and] at hR
      rw [hp] at hc
      repeat' (first | refine aF ?_ | (refine aH ?_;  first | refine aC tabOk rfl rfl rfl (nb rfl) rfl ?_ | (refine aJ rfl rfl rfl (nb rfl) rfl rfl rfl (fun hq => ?_) (fun hq => ?_) <;> (first | (simp only [sD, sE, sB, sC, sN, sM, sT, sF] at hq; try (exfalso; omega)) | skip)) | refine bE tabOk rfl rfl rfl (nb rfl) rfl rfl rfl hget ?_ | refine aD rfl rfl (nb rfl) rfl rfl rfl rfl (hc) ?_ | refine bQ rfl rfl rfl (nb rfl) rfl rfl (by omega) ?_ | refine bF tabOk rfl rfl rfl (nb rfl) rfl rfl rfl rfl (by first | assumption | omega) ?_ | refine aY tabOk rfl rfl rfl (nb rfl) rfl rfl rfl rfl (by first | rfl | omega) (by first | omega | simp) ?_) | (refine aL ?_;  first | refine aG ?_ | refine aM ?_ | refine bI ?_ | refine aS ?_ | refine aT ?_ | refine aE (b := true) rfl (fun _ => ?_) nTf | refine aE (b := false) rfl nFt (fun _ => ?_)) | (refine aK ?_;  first | refine aU ?_) | (refine aR ?_;  first | refine bP ?_))
      all_goals first
        | (exfalso; omega)
        | exact ⟨⟨j + 1, hlt, hR⟩, (by show kids.length - (j + 1) < kids.length - j; omega), (bU (by repeat' first | exact trivial | refine ⟨rfl, ?_⟩) (by repeat' first | exact trivial | refine ⟨rfl, ?_⟩))⟩
    | false =>
      rw [hp, Bool.false_and, if_neg (by decide)] at hR
      rw [hp] at hc
      subst hR
      repeat' (first | refine aF ?_ | (refine aH ?_;  first | refine aC tabOk rfl rfl rfl (nb rfl) rfl ?_ | (refine aJ rfl rfl rfl (nb rfl) rfl rfl rfl (fun hq => ?_) (fun hq => ?_) <;> (first | (simp only [sD, sE, sB, sC, sN, sM, sT, sF] at hq; try (exfalso; omega)) | skip)) | refine bE tabOk rfl rfl rfl (nb rfl) rfl rfl rfl hget ?_ | refine aD rfl rfl (nb rfl) rfl rfl rfl rfl (hc) ?_ | refine bF tabOk rfl rfl rfl (nb rfl) rfl rfl rfl rfl (by first | assumption | omega) ?_ | refine aY tabOk rfl rfl rfl (nb rfl) rfl rfl rfl rfl (by first | rfl | omega) (by first | omega | simp) ?_) | (refine aL ?_;  first | refine aG ?_ | refine aM ?_ | refine aS ?_ | refine aN ?_ | refine aT ?_ | refine aE (b := true) rfl (fun _ => ?_) nTf) | (refine aK ?_;  first | refine aU ?_ | refine aO ?_) | (refine aR ?_;  first | refine aZ ?_))
      all_goals first
        | (exfalso; omega)
        | (refine aP (by first | exact .inl rfl | exact .inr rfl) (aX rfl (aB rfl)) rfl ?_; rfl)
  · have ej : j = kids.length := by omega
    subst ej
    rw [List.drop_length] at hR
    unfold fitsP at hR
    rw [placedFs, if_pos rfl] at hR
    subst hR
    repeat' (first | refine aF ?_ | (refine aH ?_;  first | refine aC tabOk rfl rfl rfl (nb rfl) rfl ?_ | (refine aJ rfl rfl rfl (nb rfl) rfl rfl rfl (fun hq => ?_) (fun hq => ?_) <;> (first | (simp only [sD, sE, sB, sC, sN, sM, sT, sF] at hq; try (exfalso; omega)) | skip))) | (refine aL ?_;  first | refine aG ?_ | refine aM ?_ | refine aN ?_ | refine bR ?_ | refine aE (b := false) rfl nFt (fun _ => ?_)) | (refine aK ?_;  first | refine aU ?_ | refine bJ ?_) | (refine aR ?_;  first | refine bH ?_))
    all_goals first
      | (exfalso; omega)
      | (refine aP (by first | exact .inl rfl | exact .inr rfl) (aX rfl (aB rfl)) rfl ?_; rfl)
/-- Do all come to types? -/
def starsG : List (Tree × Int) → Tree × Int
  | [] => (starK, 0)
  | R :: Rs => star1 R (starsG Rs)
theorem lR (ctx : List Tree) : ∀ l : List Tree, starsP l ctx = starsG (l.map fun t => kindP t ctx)
  | [] => by rw [starsP]; rfl
  | t :: ts => by rw [starsP, lR ctx ts]; rfl
theorem lS (ctx : List Tree) : ∀ l : List Tree, starsF l ctx = starsG (l.map fun t => kindF t ctx)
  | [] => by rw [starsF]; rfl
  | t :: ts => by rw [starsF, lS ctx ts]; rfl
set_option maxHeartbeats 8000000 in
set_option maxRecDepth 10000 in
theorem uK (X : IV) (f : Bool) (l : List Tree) (R : Tree → Tree × Int) (hl : l.length ≤ 900000)
    (hR : ∀ t ∈ l, (R t).2 = 0 → (R t).1.whole = true)
    (h : ∀ t ∈ l, ACalls Tryz.prog 73 [.imm X, .imm t.iv] [] (.imm (.tup [(R t).1.iv, .lit (.int .i64 (R t).2)])) []) :
    ACalls Tryz.prog 104 [.imm X, .imm (.sl f l.length (Tree.ivs l))] [] (.imm (.tup [(starsG (l.map R)).1.iv, .lit (.int .i64 (starsG (l.map R)).2)])) [] := by
  generalize hQ : starsG (l.map R) = Q
  refine aI Tryz.func104 rfl rfl (nb rfl) rfl ?_
  repeat' (first | refine aF ?_ | (refine aH ?_;  first | refine aC tabOk rfl rfl rfl (nb rfl) rfl ?_ | refine aV tabOk rfl rfl (nb rfl) rfl ?_) | (refine aL ?_;  first | refine aG ?_ | refine aM ?_ | refine aS ?_))
  refine cD (ι := {j : Nat // j ≤ l.length ∧ starsG ((l.drop j).map R) = Q}) (fun j => S.f ⟨[(12, .imm (.lit (.int .i64 (j.1 : Int)))), (11, .imm (.lit (.int .i64 (l.length : Int)))), (10, .imm (.sl f l.length (Tree.ivs l))), (0, .imm X)], []⟩) (fun j => l.length - j.1) ⟨0, Nat.zero_le _, hQ⟩ (bU (by repeat' first | exact trivial | refine ⟨rfl, ?_⟩) (by repeat' first | exact trivial | refine ⟨rfl, ?_⟩)) ?_
  clear hQ
  rintro ⟨j, hj, hQ⟩
  dsimp only
  by_cases hlt : j < l.length
  · have hget := cG l j hlt
    have hm := List.getElem_mem hlt
    have hc := h _ hm
    have hw := hR _ hm
    rw [List.drop_eq_getElem_cons hlt, List.map_cons, starsG] at hQ
    generalize l[j] = t at *
    generalize R t = r at *
    unfold star1 at hQ
    by_cases h0 : r.2 = 0
    · rw [if_neg (by simpa using h0)] at hQ
      obtain ⟨k, n, a, b, ks, hk⟩ := bT (hw h0)
      obtain ⟨r1, r2⟩ := r
      dsimp only at hk h0
      subst hk h0
      rw [Tree.kind] at hQ
      by_cases h1 : k = 100
      · rw [if_neg (by simpa using h1)] at hQ
        clear h hR hw
        repeat' (first | refine aF ?_ | (refine aH ?_;  first | refine aC tabOk rfl rfl rfl (nb rfl) rfl ?_ | (refine aJ rfl rfl rfl (nb rfl) rfl rfl rfl (fun hq => ?_) (fun hq => ?_) <;> (first | (simp only [sD, sE, sB, sC, sN, sM, sT, sF] at hq; try (exfalso; omega)) | skip)) | refine bE tabOk rfl rfl rfl (nb rfl) rfl rfl rfl hget ?_ | refine aD rfl rfl (nb rfl) rfl rfl rfl rfl (hc) ?_ | refine bQ rfl rfl rfl (nb rfl) rfl rfl (by omega) ?_ | refine bF tabOk rfl rfl rfl (nb rfl) rfl rfl rfl rfl (by first | assumption | omega) ?_) | (refine aL ?_;  first | refine aG ?_ | refine aM ?_ | refine bI ?_ | refine aS ?_ | refine aT ?_ | refine aE (b := true) rfl (fun _ => ?_) nTf | refine aE (b := false) rfl nFt (fun _ => ?_)) | (refine aK ?_;  first | refine aU ?_) | (refine aR ?_;  first | refine bP ?_))
        all_goals first
          | (exfalso; omega)
          | exact absurd rfl (by assumption)
          | exact ⟨⟨j + 1, hlt, hQ⟩, (by show l.length - (j + 1) < l.length - j; omega), (bU (by repeat' first | exact trivial | refine ⟨rfl, ?_⟩) (by repeat' first | exact trivial | refine ⟨rfl, ?_⟩))⟩
      · rw [if_pos h1] at hQ
        subst hQ
        clear h hR hw
        repeat' (first | refine aF ?_ | (refine aH ?_;  first | refine aC tabOk rfl rfl rfl (nb rfl) rfl ?_ | (refine aJ rfl rfl rfl (nb rfl) rfl rfl rfl (fun hq => ?_) (fun hq => ?_) <;> (first | (simp only [sD, sE, sB, sC, sN, sM, sT, sF] at hq; try (exfalso; omega)) | skip)) | refine bE tabOk rfl rfl rfl (nb rfl) rfl rfl rfl hget ?_ | refine aD rfl rfl (nb rfl) rfl rfl rfl rfl (hc) ?_ | refine bF tabOk rfl rfl rfl (nb rfl) rfl rfl rfl rfl (by first | assumption | omega) ?_) | (refine aL ?_;  first | refine aG ?_ | refine aM ?_ | refine aS ?_ | refine aN ?_ | refine aT ?_ | refine aE (b := true) rfl (fun _ => ?_) nTf | refine aE (b := false) rfl nFt (fun _ => ?_)) | (refine aK ?_;  first | refine aU ?_ | refine aO ?_) | (refine aR ?_;  first | refine aZ ?_))
        all_goals first
          | (exfalso; omega)
          | exact absurd rfl (by assumption)
          | (refine aP (by first | exact .inl rfl | exact .inr rfl) (aW rfl (aB rfl) (aB rfl)) rfl ?_; rfl)
    · rw [if_pos h0] at hQ
      subst hQ
      clear h hR hw
      generalize r.1.iv = RI at *
      generalize r.2 = re at *
      repeat' (first | refine aF ?_ | (refine aH ?_;  first | refine aC tabOk rfl rfl rfl (nb rfl) rfl ?_ | (refine aJ rfl rfl rfl (nb rfl) rfl rfl rfl (fun hq => ?_) (fun hq => ?_) <;> (first | (simp only [sD, sE, sB, sC, sN, sM, sT, sF] at hq; try (exfalso; omega)) | skip)) | refine bE tabOk rfl rfl rfl (nb rfl) rfl rfl rfl hget ?_ | refine aD rfl rfl (nb rfl) rfl rfl rfl rfl (hc) ?_ | refine bF tabOk rfl rfl rfl (nb rfl) rfl rfl rfl rfl (by first | assumption | omega) ?_) | (refine aL ?_;  first | refine aG ?_ | refine aM ?_ | refine aS ?_ | refine aN ?_ | refine aT ?_ | refine aE (b := true) rfl (fun _ => ?_) nTf) | (refine aK ?_;  first | refine aU ?_ | refine aO ?_) | (refine aR ?_;  first | refine aZ ?_))
      all_goals first
        | (exfalso; omega)
        | exact absurd rfl (by assumption)
        | (refine aP (by first | exact .inl rfl | exact .inr rfl) (aW rfl (aB rfl) (aB rfl)) rfl ?_; rfl)
  · have ej : j = l.length := by omega
    subst ej
    rw [List.drop_length, List.map_nil, starsG] at hQ
    subst hQ
    have c1 := zU
    clear h hR
    repeat' (first | refine aF ?_ | (refine aH ?_;  first | refine aC tabOk rfl rfl rfl (nb rfl) rfl ?_ | (refine aJ rfl rfl rfl (nb rfl) rfl rfl rfl (fun hq => ?_) (fun hq => ?_) <;> (first | (simp only [sD, sE, sB, sC, sN, sM, sT, sF] at hq; try (exfalso; omega)) | skip)) | refine aD rfl rfl (nb rfl) rfl rfl rfl rfl (c1) ?_) | (refine aL ?_;  first | refine aG ?_ | refine aM ?_ | refine aN ?_ | refine bR ?_ | refine aE (b := false) rfl nFt (fun _ => ?_)) | (refine aK ?_;  first | refine aU ?_ | refine bJ ?_) | (refine aR ?_;  first | refine bH ?_))
    all_goals first
      | (exfalso; omega)
      | (refine aP (by first | exact .inl rfl | exact .inr rfl) (aW rfl (aB rfl) (aB rfl)) rfl ?_; rfl)
end Go.Proofs.YtlbemgokilhdnaaGreat.Ab
namespace Go.Proofs.YtlbemgokilhdnaaGreat.Ab
set_option linter.unusedVariables false
set_option linter.unusedSimpArgs false
open Go.RowKit
attribute [local irreducible] AWP AOps AExit AThen ABlock ANoGoto FeetOk
/-- What holds a list of trees: the list, or nil for none. -/
def rowIV (X : IV) (l : List Tree) : Prop := (∃ f, X = .sl f l.length (Tree.ivs l)) ∨ (l = [] ∧ X = .lit (.slice none 0 0))
theorem gK (f : Bool) (l : List Tree) : rowIV (.sl f l.length (Tree.ivs l)) l := .inl ⟨f, rfl⟩
theorem tB : rowIV (.lit (.slice none 0 0)) [] := .inr ⟨rfl, rfl⟩
set_option maxHeartbeats 16000000 in
set_option maxRecDepth 10000 in
/-- One ahead of nil. -/
theorem aAS (fa : Bool) (pk : List IV) : ACalls Tryz.prog 112 [.imm (.sl fa 2 [.sl true 1 [.ptr pk 0], .lit (.slice none 0 0)])] [] (.imm (.sl false 1 [.ptr pk 0])) [] := by
  have cg := zT 1 (by omega) (by omega)
  refine cI Tryz.func112 rfl rfl (nb rfl) rfl ?_
  refine cT (eG 500 (by simp) rfl rfl) ?_
  repeat' (first | refine aF ?_ | (refine aH ?_;  first | refine aC tabOk rfl rfl rfl (nb rfl) rfl ?_ | refine aV tabOk rfl rfl (nb rfl) rfl ?_) | (refine aL ?_;  first | refine aG ?_ | refine aM ?_ | refine aS ?_))
  refine cD (ι := {j : Nat // j ≤ 2}) (fun j => S.f ⟨[(11, .imm (.lit (.int .i64 (j.1 : Int)))), (10, .imm (.lit (.int .i64 2))), (9, .imm (.sl fa 2 [.sl true 1 [.ptr pk 0], .lit (.slice none 0 0)])), (0, .imm (.sl fa 2 [.sl true 1 [.ptr pk 0], .lit (.slice none 0 0)])), (3, .imm (.lit (.int .i64 (if j.1 = 0 then 0 else 1))))], [(500, .fut)]⟩) (fun j => 2 - j.1) ⟨0, Nat.zero_le _⟩ (bU (by repeat' first | exact trivial | refine ⟨rfl, ?_⟩) (by repeat' first | exact trivial | refine ⟨rfl, ?_⟩)) ?_
  rintro ⟨j, hj⟩
  dsimp only
  match j, hj with
  | 0, _ =>
    repeat' (first | refine aF ?_ | (refine aH ?_;  first | refine aC tabOk rfl rfl rfl (nb rfl) rfl ?_ | (refine aJ rfl rfl rfl (nb rfl) rfl rfl rfl (fun hq => ?_) (fun hq => ?_) <;> (first | (simp only [sD, sE, sB, sC, sN, sM, sT, sF] at hq; try (exfalso; omega)) | skip)) | refine bQ rfl rfl rfl (nb rfl) rfl rfl (by omega) ?_ | refine cS rfl rfl rfl (nb rfl) rfl rfl rfl (by omega) (by omega) ?_ | refine aV tabOk rfl rfl (nb rfl) rfl ?_ | refine bF tabOk rfl rfl rfl (nb rfl) rfl rfl rfl rfl (by first | assumption | omega) ?_) | (refine aL ?_;  first | refine aG ?_ | refine aM ?_ | refine bI ?_ | refine aS ?_ | refine aT ?_ | refine aE (b := true) rfl (fun _ => ?_) nTf | refine aE (b := false) rfl nFt (fun _ => ?_)) | (refine aK ?_;  first | refine aU ?_) | (refine aR ?_;  first | refine bP ?_))
    all_goals first
      | (exfalso; omega)
      | exact ⟨⟨1, by omega⟩, (by show 2 - 1 < 2 - 0; omega), (bU (by repeat' first | exact trivial | refine ⟨rfl, ?_⟩) (by repeat' first | exact trivial | refine ⟨rfl, ?_⟩))⟩
  | 1, _ =>
    rw [if_neg (by decide)]
    repeat' (first | refine aF ?_ | (refine aH ?_;  first | refine aC tabOk rfl rfl rfl (nb rfl) rfl ?_ | (refine aJ rfl rfl rfl (nb rfl) rfl rfl rfl (fun hq => ?_) (fun hq => ?_) <;> (first | (simp only [sD, sE, sB, sC, sN, sM, sT, sF] at hq; try (exfalso; omega)) | skip)) | refine bQ rfl rfl rfl (nb rfl) rfl rfl (by omega) ?_ | refine cS rfl rfl rfl (nb rfl) rfl rfl rfl (by omega) (by omega) ?_ | refine aV tabOk rfl rfl (nb rfl) rfl ?_ | refine bF tabOk rfl rfl rfl (nb rfl) rfl rfl rfl rfl (by first | assumption | omega) ?_) | (refine aL ?_;  first | refine aG ?_ | refine aM ?_ | refine bI ?_ | refine aS ?_ | refine aT ?_ | refine aE (b := true) rfl (fun _ => ?_) nTf | refine aE (b := false) rfl nFt (fun _ => ?_)) | (refine aK ?_;  first | refine aU ?_) | (refine aR ?_;  first | refine bP ?_))
    all_goals first
      | (exfalso; omega)
      | exact ⟨⟨2, by omega⟩, (by show 2 - 2 < 2 - 1; omega), (bU (by repeat' first | exact trivial | refine ⟨rfl, ?_⟩) (by repeat' first | exact trivial | refine ⟨rfl, ?_⟩))⟩
  | 2, _ =>
    rw [if_neg (by decide)]
    repeat' (first | refine aF ?_ | (refine aH ?_;  first | refine aC tabOk rfl rfl rfl (nb rfl) rfl ?_ | (refine aJ rfl rfl rfl (nb rfl) rfl rfl rfl (fun hq => ?_) (fun hq => ?_) <;> (first | (simp only [sD, sE, sB, sC, sN, sM, sT, sF] at hq; try (exfalso; omega)) | skip)) | refine bW rfl rfl (nb rfl) rfl rfl rfl rfl cg (by repeat' first | exact trivial | refine ⟨rfl, ?_⟩) rfl (by show ([500] : List Nat).Nodup; decide) ?_ | refine aV tabOk rfl rfl (nb rfl) rfl ?_) | (refine aL ?_;  first | refine aG ?_ | refine aM ?_ | refine aS ?_ | refine bR ?_ | refine aE (b := false) rfl nFt (fun _ => ?_)) | (refine aK ?_;  first | refine aU ?_ | refine bJ ?_) | (refine aR ?_;  first | refine bH ?_))
    all_goals first
      | (exfalso; omega)
      | skip
    refine cD (ι := {j : Nat // j ≤ 2}) (fun j => S.f ⟨[(27, .imm (.lit (.int .i64 (j.1 : Int)))), (26, .imm (.lit (.int .i64 2))), (25, .imm (.sl fa 2 [.sl true 1 [.ptr pk 0], .lit (.slice none 0 0)])), (6, .ref 500 (if j.1 = 0 then 0 else 1))], [(500, .arr 25 1 (if j.1 = 0 then 0 else 1) (if j.1 = 0 then [] else [.ptr pk 0]))]⟩) (fun j => 2 - j.1) ⟨0, Nat.zero_le _⟩ (bU (by repeat' first | exact trivial | refine ⟨rfl, ?_⟩) (by repeat' first | exact trivial | refine ⟨rfl, ?_⟩)) ?_
    rintro ⟨j, hj⟩
    dsimp only
    match j, hj with
    | 0, _ =>
      rw [if_pos rfl, if_pos rfl]
      repeat' (first | refine aF ?_ | (refine aH ?_;  first | refine aC tabOk rfl rfl rfl (nb rfl) rfl ?_ | (refine aJ rfl rfl rfl (nb rfl) rfl rfl rfl (fun hq => ?_) (fun hq => ?_) <;> (first | (simp only [sD, sE, sB, sC, sN, sM, sT, sF] at hq; try (exfalso; omega)) | skip)) | refine cM tabOk rfl rfl rfl (nb rfl) rfl rfl rfl rfl rfl rfl rfl (by first | omega | decide) rfl (by first | omega | (dsimp only; omega)) (by first | omega | (dsimp only; omega)) ?_ | refine bQ rfl rfl rfl (nb rfl) rfl rfl (by omega) ?_ | refine bF tabOk rfl rfl rfl (nb rfl) rfl rfl rfl rfl (by first | assumption | omega) ?_) | (refine aL ?_;  first | refine aG ?_ | refine aM ?_ | refine bI ?_ | refine aS ?_ | refine aT ?_ | refine aE (b := true) rfl (fun _ => ?_) nTf) | (refine aK ?_;  first | refine aU ?_) | (refine aR ?_;  first | refine bP ?_))
      all_goals first
        | (exfalso; omega)
        | exact ⟨⟨1, by omega⟩, (by show 2 - 1 < 2 - 0; omega), (bU (by repeat' first | exact trivial | refine ⟨rfl, ?_⟩) (by repeat' first | exact trivial | refine ⟨rfl, ?_⟩))⟩
    | 1, _ =>
      rw [if_neg (by decide), if_neg (by decide)]
      repeat' (first | refine aF ?_ | (refine aH ?_;  first | refine aC tabOk rfl rfl rfl (nb rfl) rfl ?_ | (refine aJ rfl rfl rfl (nb rfl) rfl rfl rfl (fun hq => ?_) (fun hq => ?_) <;> (first | (simp only [sD, sE, sB, sC, sN, sM, sT, sF] at hq; try (exfalso; omega)) | skip)) | refine pW (f := true) (ys := []) tabOk rfl rfl rfl (nb rfl) rfl rfl rfl (.inr rfl) rfl ?_ | refine bQ rfl rfl rfl (nb rfl) rfl rfl (by omega) ?_ | refine bF tabOk rfl rfl rfl (nb rfl) rfl rfl rfl rfl (by first | assumption | omega) ?_) | (refine aL ?_;  first | refine aG ?_ | refine aM ?_ | refine bI ?_ | refine aS ?_ | refine aT ?_ | refine aE (b := true) rfl (fun _ => ?_) nTf) | (refine aK ?_;  first | refine aU ?_) | (refine aR ?_;  first | refine bP ?_))
      all_goals first
        | (exfalso; omega)
        | exact ⟨⟨2, by omega⟩, (by show 2 - 2 < 2 - 1; omega), (bU (by repeat' first | exact trivial | refine ⟨rfl, ?_⟩) (by repeat' first | exact trivial | refine ⟨rfl, ?_⟩))⟩
    | 2, _ =>
      rw [if_neg (by decide), if_neg (by decide)]
      repeat' (first | refine aF ?_ | (refine aH ?_;  first | refine aC tabOk rfl rfl rfl (nb rfl) rfl ?_ | (refine aJ rfl rfl rfl (nb rfl) rfl rfl rfl (fun hq => ?_) (fun hq => ?_) <;> (first | (simp only [sD, sE, sB, sC, sN, sM, sT, sF] at hq; try (exfalso; omega)) | skip))) | (refine aL ?_;  first | refine aG ?_ | refine aM ?_ | refine aN ?_ | refine bR ?_ | refine aE (b := false) rfl nFt (fun _ => ?_)) | (refine aK ?_;  first | refine aU ?_ | refine bJ ?_) | (refine aR ?_;  first | refine bH ?_))
      all_goals first
        | (exfalso; omega)
        | (refine dS ((Imp.of_le (σ' := S.f ⟨[(2, .ref 500 1)], [(500, .arr 25 1 1 [.ptr pk 0])]⟩) (bU (by repeat' first | exact trivial | refine ⟨rfl, ?_⟩) (by repeat' first | exact trivial | refine ⟨rfl, ?_⟩))).trans (cP (g := 500) rfl (by repeat' first | exact trivial | exact fun _ => rfl | refine ⟨?_, ?_⟩) (by repeat' first | exact trivial | exact fun _ => rfl | refine ⟨?_, ?_⟩))) ?_
           refine aP (by first | exact .inl rfl | exact .inr rfl) (aX rfl (aB rfl)) rfl ?_; rfl)
    | j + 3, h => omega
  | j + 3, h => omega
theorem aAT {X : IV} {ctx : List Tree} (fa : Bool) (pk : List IV) (hX : rowIV X ctx) (hl : ctx.length ≤ 900000) : ACalls Tryz.prog 112 [.imm (.sl fa 2 [.sl true 1 [.ptr pk 0], X])] [] (.imm (.sl false (1 + ctx.length) (.ptr pk 0 :: Tree.ivs ctx))) [] := by
  rcases hX with ⟨f, rfl⟩ | ⟨rfl, rfl⟩
  · exact qV fa pk f ctx.length (Tree.ivs ctx) hl (cX ctx)
  · exact aAS fa pk
set_option maxHeartbeats 4000000 in
set_option maxRecDepth 10000 in
theorem qW {X : IV} {ctx : List Tree} (K : Tree) (hK : K.whole = true) (hX : rowIV X ctx) (hl : ctx.length ≤ 900000) : ACalls Tryz.prog 106 [.imm K.iv, .imm X] [] (.imm (.sl false (K :: ctx).length (Tree.ivs (K :: ctx)))) [] := by
  obtain ⟨pk, hpk⟩ := bV (bL hK)
  have c1 := aAT true pk hX hl
  have e : IV.sl false (K :: ctx).length (Tree.ivs (K :: ctx)) = .sl false (1 + ctx.length) (.ptr pk 0 :: Tree.ivs ctx) := by
    rw [Tree.ivs, hpk, List.length_cons, Nat.add_comm]
  rw [e, hpk]
  rcases hX with ⟨f, rfl⟩ | ⟨rfl, rfl⟩
  · generalize Tree.ivs ctx = Z at *
    refine aI Tryz.func106 rfl rfl (nb rfl) rfl ?_
    repeat' (first | refine aF ?_ | (refine aH ?_;  first | refine aC tabOk rfl rfl rfl (nb rfl) rfl ?_ | refine aD rfl rfl (nb rfl) rfl rfl rfl rfl (c1) ?_ | refine bY tabOk rfl rfl rfl (nb rfl) rfl rfl rfl rfl rfl rfl rfl rfl rfl ?_) | (refine aL ?_;  first | refine aG ?_ | refine aN ?_))
    all_goals (refine aP (by first | exact .inl rfl | exact .inr rfl) (aX rfl (aB rfl)) rfl ?_; rfl)
  · generalize Tree.ivs [] = Z at *
    refine aI Tryz.func106 rfl rfl (nb rfl) rfl ?_
    repeat' (first | refine aF ?_ | (refine aH ?_;  first | refine aC tabOk rfl rfl rfl (nb rfl) rfl ?_ | refine aD rfl rfl (nb rfl) rfl rfl rfl rfl (c1) ?_ | refine bY tabOk rfl rfl rfl (nb rfl) rfl rfl rfl rfl rfl rfl rfl rfl rfl ?_) | (refine aL ?_;  first | refine aG ?_ | refine aN ?_))
    all_goals (refine aP (by first | exact .inl rfl | exact .inr rfl) (aX rfl (aB rfl)) rfl ?_; rfl)
theorem oN : ∀ l : List (Tree × Int), (starsG l).2 = 0 → (starsG l).1 = starK
  | [], _ => rfl
  | R :: Rs, h => by
    rw [starsG] at h ⊢
    unfold star1 at h ⊢
    split at h
    · rename_i h1; exact absurd h h1
    · rename_i h1
      rw [if_neg h1]
      split at h
      · cases h
      · rename_i h2; rw [if_neg h2]; exact oN Rs h
/-- A kind that is told: whole, a kind, not too large. -/
def fineK (B : Nat) (R : Tree × Int) : Prop := R.2 = 0 → isKindP R.1 = true ∧ R.1.whole = true ∧ R.1.size ≤ B
theorem yL (B : Nat) (h : 1 ≤ B) : fineK B (starK, 0) := fun _ => ⟨lQ, rfl, by show 1 ≤ B; exact h⟩
theorem iW {B : Nat} (h : 1 ≤ B) (l : List (Tree × Int)) : fineK B (starsG l) := fun h0 => by
  rw [oN l h0]
  exact ⟨lQ, rfl, h⟩
theorem eM (t : Tree) : ∀ (ctx : List Tree) (B : Nat), isConP t = true → t.whole = true → okCtx ctx → (∀ c ∈ ctx, c.size ≤ B) → 1 ≤ B → fineK (2 * t.size + B) (kindP t ctx) := by
  induction t using Tree.sind with
  | h t ih =>
    intro ctx B hf hw ho hB h1
    obtain ⟨k, n, a, b, kids, rfl⟩ := bT hw
    obtain ⟨p1, p2, p3, p4, p5⟩ := dH hf
    rw [kindP]
    have hz : 1 ≤ (Tree.node k n a b kids).size := by simp only [Tree.size]; omega
    have hS := yL (2 * (Tree.node k n a b kids).size + B) (by omega)
    by_cases e0 : k = 110
    · rw [if_pos e0]
      obtain ⟨q1, q2, q3⟩ := p1 e0
      split
      · intro h; cases h
      · rename_i hn
        intro _
        have hlt : n.toNat < ctx.length := by omega
        have e : ctx.getD n.toNat .nil = ctx[n.toNat] := by simp [List.getD, hlt]
        dsimp only
        rw [e]
        have hm := List.getElem_mem hlt
        have := hB _ hm
        exact ⟨(ho _ hm).1, (ho _ hm).2, by omega⟩
    · rw [if_neg e0]
      by_cases e1 : k = 114
      · rw [if_pos e1, lR]; exact iW (by omega) _
      · rw [if_neg e1]
        by_cases e2 : k = 115
        · rw [if_pos e2, lS]; exact iW (by omega) _
        · rw [if_neg e2]
          by_cases e3 : k = 117 ∨ k = 118
          · rw [if_pos e3]
            obtain ⟨x, y, rfl, hx, hy⟩ := p4 (by omega)
            rw [bindK]
            have := iW (B := 2 * (Tree.node k n a b [x, y]).size + B) (by omega) [kindP y (x :: ctx)]
            exact this
          · rw [if_neg e3]
            by_cases e4 : k = 119
            · rw [if_pos e4]
              obtain ⟨x, y, rfl, hx, hy⟩ := p4 (by omega)
              have wx := bC hw (t := x) (by simp)
              have wy := bC hw (t := y) (by simp)
              have sz : (Tree.node k n a b [x, y]).size = x.size + y.size + 1 := by simp only [Tree.size, Tree.sizes]; omega
              have hi := ih y (by omega) (x :: ctx) (B + x.size) hy wy (iV hx wx ho) (fun c hc => by
                rcases List.mem_cons.1 hc with rfl | hc
                · omega
                · have := hB c hc; omega) (by omega)
              rw [lamK]
              unfold lam1
              intro h
              split at h
              · rename_i h3; exact absurd h h3
              · rename_i h3
                obtain ⟨g1, g2, g3⟩ := hi (by simpa using h3)
                rw [if_neg h3]
                refine ⟨?_, ?_, ?_⟩
                · rw [isKindP, if_neg (by decide), if_pos rfl, dO, List.map_cons, List.map_cons, hx, g1, show bareP 0 emptyB emptyB false false = true by decide +kernel]; rfl
                · show Tree.wholes [_, _] = true
                  rw [Tree.wholes, Tree.wholes, wx, g2]; rfl
                · rw [sz]
                  simp only [Tree.size, Tree.sizes]
                  omega
            · rw [if_neg e4]
              by_cases e5 : k = 120
              · rw [if_pos e5]
                obtain ⟨x, y, rfl, hx, hy⟩ := p2 (by omega)
                have wx := bC hw (t := x) (by simp)
                have sz : (Tree.node k n a b [x, y]).size = x.size + y.size + 1 := by simp only [Tree.size, Tree.sizes]; omega
                have hi := ih x (by omega) ctx B hx wx ho hB h1
                rw [appK]
                unfold app1
                intro h
                split at h
                · rename_i h3; exact absurd h h3
                · rename_i h3
                  split at h
                  · rename_i h4; exact absurd h h4
                  · rename_i h4
                    split at h
                    · cases h
                    · rename_i h5
                      rw [if_neg h3, if_neg h4, if_neg h5]
                      obtain ⟨g1, g2, g3⟩ := hi (by simpa using h3)
                      generalize kindP x ctx = F at *
                      obtain ⟨F1, F2⟩ := F
                      dsimp only at g1 g2 g3 h5
                      obtain ⟨k', n', a', b', ks, rfl⟩ := bT g2
                      have hk : k' = 101 := by
                        by_cases hk : k' = 101
                        · exact hk
                        · exact absurd (.inl hk) h5
                      obtain ⟨u, v, rfl, hu, hv⟩ := qU g1 hk
                      have wv := bC g2 (t := v) (by simp)
                      have sv := bN (k := k') (n := n') (a := a') (b := b') (kids := [u, v]) (t := v) (by simp)
                      exact ⟨hv, wv, by show v.size ≤ _; omega⟩
              · rw [if_neg e5]
                by_cases e6 : k = 121
                · rw [if_pos e6]
                  unfold sum1
                  intro h
                  split at h
                  · rename_i h3; exact absurd h h3
                  · rename_i h3
                    split at h
                    · rename_i h4; exact absurd h h4
                    · rename_i h4; rw [if_neg h3, if_neg h4]; exact hS rfl
                · rw [if_neg e6]; exact hS
set_option maxHeartbeats 8000000 in
set_option maxRecDepth 10000 in
theorem aCO (X : IV) (k n : Int) (a b : ByteArray) (f x : Tree) (F G : Tree × Int) (hf : f.whole = true) (hx : x.whole = true)
    (cf : ACalls Tryz.prog 73 [.imm X, .imm f.iv] [] (.imm (.tup [F.1.iv, .lit (.int .i64 F.2)])) [])
    (cx : ACalls Tryz.prog 73 [.imm X, .imm x.iv] [] (.imm (.tup [G.1.iv, .lit (.int .i64 G.2)])) [])
    (gF : fineK 100000000 F) (gG : fineK 100000000 G) :
    ACalls Tryz.prog 107 [.imm X, .imm (Tree.iv (.node k n a b [f, x]))] [] (.imm (.tup [(app1 F G).1.iv, .lit (.int .i64 (app1 F G).2)])) [] := by
  obtain ⟨pf, hpf⟩ := bV (bL hf)
  obtain ⟨px, hpx⟩ := bV (bL hx)
  rw [Tree.iv, Tree.ivs, Tree.ivs, Tree.ivs, hpf, hpx]
  rw [hpf] at cf
  rw [hpx] at cx
  unfold app1
  obtain ⟨F1, F2⟩ := F
  obtain ⟨G1, G2⟩ := G
  dsimp only at *
  by_cases h1 : F2 = 0
  · rw [if_neg (by simpa using h1)]
    by_cases h2 : G2 = 0
    · rw [if_neg (by simpa using h2)]
      obtain ⟨f1, f2, f3⟩ := gF h1
      obtain ⟨g1, g2, g3⟩ := gG h2
      subst h1 h2
      obtain ⟨k', n', a', b', ks, rfl⟩ := bT f2
      rw [Tree.kind]
      by_cases hk : k' = 101
      · obtain ⟨u, v, rfl, hu, hv⟩ := qU f1 hk
        subst hk
        have wu := bC f2 (t := u) (by simp)
        have wv := bC f2 (t := v) (by simp)
        have su := bN (k := 101) (n := n') (a := a') (b := b') (kids := [u, v]) (t := u) (by simp)
        have cs := gZ u G1 (.inr wu) (.inr g2) (by dsimp only at f3; omega) g3
        have e0 : kid0 (.node 101 n' a' b' [u, v]) = u := rfl
        have e1 : kid1 (.node 101 n' a' b' [u, v]) = v := rfl
        rw [e0, e1]
        obtain ⟨pu, hpu⟩ := bV (bL wu)
        obtain ⟨pv, hpv⟩ := bV (bL wv)
        rw [Tree.iv, Tree.ivs, Tree.ivs, Tree.ivs, hpu, hpv] at cf
        rw [hpu] at cs
        cases hs : sameP u G1 with
        | true =>
          rw [hs] at cs
          rw [if_neg (by simp), hpv]
          generalize G1.iv = gi at *
          clear gF gG f1 f2 f3 g1 g2 g3
          refine aI Tryz.func107 rfl rfl (nb rfl) rfl ?_
          repeat' (first | refine aF ?_ | (refine aH ?_;  first | refine aC tabOk rfl rfl rfl (nb rfl) rfl ?_ | (refine aJ rfl rfl rfl (nb rfl) rfl rfl rfl (fun hq => ?_) (fun hq => ?_) <;> (first | (simp only [sD, sE, sB, sC, sN, sM, sT, sF] at hq; try (exfalso; omega)) | skip)) | refine aD rfl rfl (nb rfl) rfl rfl rfl rfl (cf) ?_ | refine aD rfl rfl (nb rfl) rfl rfl rfl rfl (cx) ?_ | refine aD rfl rfl (nb rfl) rfl rfl rfl rfl (cs) ?_ | refine aY tabOk rfl rfl rfl (nb rfl) rfl rfl rfl rfl (by first | rfl | omega) (by first | omega | simp) ?_) | (refine aL ?_;  first | refine aG ?_ | refine aM ?_ | refine aS ?_ | refine aN ?_ | refine aT ?_ | refine aE (b := false) rfl nFt (fun _ => ?_)) | (refine aK ?_;  first | refine aU ?_) | (refine aR ?_;  first | refine bP ?_))
          all_goals first
            | (exfalso; omega)
            | exact absurd rfl (by assumption)
            | (refine aP (by first | exact .inl rfl | exact .inr rfl) (aW rfl (aB rfl) (aB rfl)) rfl ?_; rfl)
        | false =>
          rw [hs] at cs
          rw [if_pos (.inr rfl)]
          generalize G1.iv = gi at *
          clear gF gG f1 f2 f3 g1 g2 g3
          refine aI Tryz.func107 rfl rfl (nb rfl) rfl ?_
          repeat' (first | refine aF ?_ | (refine aH ?_;  first | refine aC tabOk rfl rfl rfl (nb rfl) rfl ?_ | (refine aJ rfl rfl rfl (nb rfl) rfl rfl rfl (fun hq => ?_) (fun hq => ?_) <;> (first | (simp only [sD, sE, sB, sC, sN, sM, sT, sF] at hq; try (exfalso; omega)) | skip)) | refine aD rfl rfl (nb rfl) rfl rfl rfl rfl (cf) ?_ | refine aD rfl rfl (nb rfl) rfl rfl rfl rfl (cx) ?_ | refine aD rfl rfl (nb rfl) rfl rfl rfl rfl (cs) ?_ | refine aY tabOk rfl rfl rfl (nb rfl) rfl rfl rfl rfl (by first | rfl | omega) (by first | omega | simp) ?_) | (refine aL ?_;  first | refine aG ?_ | refine aM ?_ | refine aS ?_ | refine aN ?_ | refine aT ?_ | refine aE (b := true) rfl (fun _ => ?_) nTf | refine aE (b := false) rfl nFt (fun _ => ?_)) | (refine aK ?_;  first | refine aU ?_ | refine aO ?_) | (refine aR ?_;  first | refine aZ ?_))
          all_goals first
            | (exfalso; omega)
            | exact absurd rfl (by assumption)
            | (refine aP (by first | exact .inl rfl | exact .inr rfl) (aW rfl (aB rfl) (aB rfl)) rfl ?_; rfl)
      · rw [if_pos (.inl hk)]
        rw [Tree.iv] at cf
        generalize Tree.ivs ks = Z at *
        generalize G1.iv = gi at *
        clear gF gG f1 f2 f3 g1 g2 g3
        refine aI Tryz.func107 rfl rfl (nb rfl) rfl ?_
        repeat' (first | refine aF ?_ | (refine aH ?_;  first | refine aC tabOk rfl rfl rfl (nb rfl) rfl ?_ | refine bO rfl rfl (nb rfl) ?_ | (refine aJ rfl rfl rfl (nb rfl) rfl rfl rfl (fun hq => ?_) (fun hq => ?_) <;> (first | (simp only [sD, sE, sB, sC, sN, sM, sT, sF] at hq; try (exfalso; omega)) | skip)) | refine aD rfl rfl (nb rfl) rfl rfl rfl rfl (cf) ?_ | refine aD rfl rfl (nb rfl) rfl rfl rfl rfl (cx) ?_ | refine aY tabOk rfl rfl rfl (nb rfl) rfl rfl rfl rfl (by first | rfl | omega) (by first | omega | simp) ?_) | (refine aL ?_;  first | refine aG ?_ | refine aM ?_ | refine aS ?_ | refine aN ?_ | refine aT ?_ | refine aE (b := true) rfl (fun _ => ?_) nTf | refine aE (b := false) rfl nFt (fun _ => ?_)) | (refine aK ?_;  first | refine aU ?_ | refine aO ?_) | (refine aR ?_;  first | refine aZ ?_))
        all_goals first
          | (exfalso; omega)
          | exact absurd rfl (by assumption)
          | (refine aP (by first | exact .inl rfl | exact .inr rfl) (aW rfl (aB rfl) (aB rfl)) rfl ?_; rfl)
    · rw [if_pos h2]
      subst h1
      generalize G1.iv = gi at *
      generalize F1.iv = fi at *
      clear gF gG
      refine aI Tryz.func107 rfl rfl (nb rfl) rfl ?_
      repeat' (first | refine aF ?_ | (refine aH ?_;  first | refine aC tabOk rfl rfl rfl (nb rfl) rfl ?_ | (refine aJ rfl rfl rfl (nb rfl) rfl rfl rfl (fun hq => ?_) (fun hq => ?_) <;> (first | (simp only [sD, sE, sB, sC, sN, sM, sT, sF] at hq; try (exfalso; omega)) | skip)) | refine aD rfl rfl (nb rfl) rfl rfl rfl rfl (cf) ?_ | refine aD rfl rfl (nb rfl) rfl rfl rfl rfl (cx) ?_ | refine aY tabOk rfl rfl rfl (nb rfl) rfl rfl rfl rfl (by first | rfl | omega) (by first | omega | simp) ?_) | (refine aL ?_;  first | refine aG ?_ | refine aM ?_ | refine aS ?_ | refine aN ?_ | refine aT ?_ | refine aE (b := true) rfl (fun _ => ?_) nTf | refine aE (b := false) rfl nFt (fun _ => ?_)) | (refine aK ?_;  first | refine aU ?_ | refine aO ?_) | (refine aR ?_;  first | refine aZ ?_))
      all_goals first
        | (exfalso; omega)
        | exact absurd rfl (by assumption)
        | (refine aP (by first | exact .inl rfl | exact .inr rfl) (aW rfl (aB rfl) (aB rfl)) rfl ?_; rfl)
  · rw [if_pos h1]
    generalize F1.iv = fi at *
    clear gF gG
    refine aI Tryz.func107 rfl rfl (nb rfl) rfl ?_
    repeat' (first | refine aF ?_ | (refine aH ?_;  first | refine aC tabOk rfl rfl rfl (nb rfl) rfl ?_ | (refine aJ rfl rfl rfl (nb rfl) rfl rfl rfl (fun hq => ?_) (fun hq => ?_) <;> (first | (simp only [sD, sE, sB, sC, sN, sM, sT, sF] at hq; try (exfalso; omega)) | skip)) | refine aD rfl rfl (nb rfl) rfl rfl rfl rfl (cf) ?_ | refine aY tabOk rfl rfl rfl (nb rfl) rfl rfl rfl rfl (by first | rfl | omega) (by first | omega | simp) ?_) | (refine aL ?_;  first | refine aG ?_ | refine aM ?_ | refine aN ?_ | refine aE (b := true) rfl (fun _ => ?_) nTf) | (refine aK ?_;  first | refine aO ?_))
    all_goals first
      | (exfalso; omega)
      | exact absurd rfl (by assumption)
      | (refine aP (by first | exact .inl rfl | exact .inr rfl) (aW rfl (aB rfl) (aB rfl)) rfl ?_; rfl)
end Go.Proofs.YtlbemgokilhdnaaGreat.Ab
namespace Go.Proofs.YtlbemgokilhdnaaGreat.Ab
set_option linter.unusedVariables false
set_option linter.unusedSimpArgs false
open Go.RowKit
theorem eW {l : List Tree} (h : isT_ct l = true) : ∃ T x, l = [T, x] ∧ checkP isConP T = 0 ∧ isTermP x = true := by
  match l, h with
  | [x, y], h => rw [isT_ct, Bool.and_eq_true] at h; exact ⟨x, y, rfl, beq_iff_eq.1 h.1, h.2⟩
  | [], h => rw [isT_ct] at h; cases h; all_goals simp
  | [x], h => rw [isT_ct] at h; cases h; all_goals simp
  | x :: y :: z :: r, h => rw [isT_ct] at h; cases h; all_goals simp
theorem lT {l : List Tree} (h : isT_kt l = true) : ∃ T x, l = [T, x] ∧ checkP isKindP T = 0 ∧ isTermP x = true := by
  match l, h with
  | [x, y], h => rw [isT_kt, Bool.and_eq_true] at h; exact ⟨x, y, rfl, beq_iff_eq.1 h.1, h.2⟩
  | [], h => rw [isT_kt] at h; cases h; all_goals simp
  | [x], h => rw [isT_kt] at h; cases h; all_goals simp
  | x :: y :: z :: r, h => rw [isT_kt] at h; cases h; all_goals simp
theorem dE {l : List Tree} (h : isT_tt l = true) : ∃ x y, l = [x, y] ∧ isTermP x = true ∧ isTermP y = true := by
  match l, h with
  | [x, y], h => rw [isT_tt, Bool.and_eq_true] at h; exact ⟨x, y, rfl, h.1, h.2⟩
  | [], h => rw [isT_tt] at h; cases h; all_goals simp
  | [x], h => rw [isT_tt] at h; cases h; all_goals simp
  | x :: y :: z :: r, h => rw [isT_tt] at h; cases h; all_goals simp
theorem lU {l : List Tree} (h : isT_tc l = true) : ∃ x T, l = [x, T] ∧ isTermP x = true ∧ checkP isConP T = 0 := by
  match l, h with
  | [x, y], h => rw [isT_tc, Bool.and_eq_true] at h; exact ⟨x, y, rfl, h.1, beq_iff_eq.1 h.2⟩
  | [], h => rw [isT_tc] at h; cases h; all_goals simp
  | [x], h => rw [isT_tc] at h; cases h; all_goals simp
  | x :: y :: z :: r, h => rw [isT_tc] at h; cases h; all_goals simp
theorem kS {l : List Tree} (h : isT_t l = true) : ∃ x, l = [x] ∧ isTermP x = true := by
  match l, h with
  | [x], h => rw [isT_t] at h; exact ⟨x, rfl, h⟩
  | [], h => rw [isT_t] at h; cases h; all_goals simp
  | x :: y :: r, h => rw [isT_t] at h; cases h; all_goals simp
theorem jV {l : List Tree} (h : isT_ctc l = true) : ∃ C x T, l = [C, x, T] ∧ checkP isConP C = 0 ∧ isTermP x = true ∧ checkP isConP T = 0 := by
  match l, h with
  | [x, y, z], h => rw [isT_ctc, Bool.and_eq_true, Bool.and_eq_true] at h; exact ⟨x, y, z, rfl, beq_iff_eq.1 h.1.1, h.1.2, beq_iff_eq.1 h.2⟩
  | [], h => rw [isT_ctc] at h; cases h; all_goals simp
  | [x], h => rw [isT_ctc] at h; cases h; all_goals simp
  | [x, y], h => rw [isT_ctc] at h; cases h; all_goals simp
  | x :: y :: z :: w :: r, h => rw [isT_ctc] at h; cases h; all_goals simp
theorem jW {l : List Tree} (h : isT_ttt l = true) : ∃ x y z, l = [x, y, z] ∧ isTermP x = true ∧ isTermP y = true ∧ isTermP z = true := by
  match l, h with
  | [x, y, z], h => rw [isT_ttt, Bool.and_eq_true, Bool.and_eq_true] at h; exact ⟨x, y, z, rfl, h.1.1, h.1.2, h.2⟩
  | [], h => rw [isT_ttt] at h; cases h; all_goals simp
  | [x], h => rw [isT_ttt] at h; cases h; all_goals simp
  | [x, y], h => rw [isT_ttt] at h; cases h; all_goals simp
  | x :: y :: z :: w :: r, h => rw [isT_ttt] at h; cases h; all_goals simp
/-- Fields, arms. -/
def armForm (kind : Int) (t : Tree) : Prop := ∃ a x, t = .node kind 0 a emptyB [x] ∧ isTermP x = true ∧ labelP a = true
theorem wG {kind : Int} {t : Tree} (h : okField kind t = true) : armForm kind t := by
  cases t with
  | nil => simp [okField] at h
  | node k n a b ks =>
    simp only [okField, Bool.and_eq_true, beq_iff_eq, cZ] at h
    obtain ⟨⟨⟨⟨rfl, rfl⟩, rfl⟩, hl⟩, h⟩ := h
    obtain ⟨x, rfl, hx⟩ := kS h
    exact ⟨a, x, rfl, hx, hl⟩
theorem jX {kind : Int} {l : List Tree} (h : fieldsP l kind = true) : ∀ t ∈ l, armForm kind t := by
  rw [gS, List.all_eq_true] at h
  exact fun t ht => wG (h t ht)
theorem lV {l : List Tree} (h : isT_ta l = true) : ∃ x arms, l = x :: arms ∧ arms ≠ [] ∧ isTermP x = true ∧ ∀ t ∈ arms, armForm 149 t := by
  match l, h with
  | x :: y :: r, h => rw [isT_ta, Bool.and_eq_true, Bool.and_eq_true] at h; exact ⟨x, y :: r, rfl, by simp, h.1, jX h.2.1⟩
  | [], h => rw [isT_ta] at h; cases h; all_goals simp
  | [x], h => rw [isT_ta] at h; cases h; all_goals simp
theorem jY {l : List Tree} (h : isT_tca l = true) : ∃ x T arms, l = x :: T :: arms ∧ arms ≠ [] ∧ isTermP x = true ∧ checkP isConP T = 0 ∧ ∀ t ∈ arms, armForm 149 t := by
  match l, h with
  | x :: T :: y :: r, h => rw [isT_tca, Bool.and_eq_true, Bool.and_eq_true, Bool.and_eq_true] at h; exact ⟨x, T, y :: r, rfl, by simp, h.1.1, beq_iff_eq.1 h.1.2, jX h.2.1⟩
  | [], h => rw [isT_tca] at h; cases h; all_goals simp
  | [x], h => rw [isT_tca] at h; cases h; all_goals simp
  | [x, y], h => rw [isT_tca] at h; cases h; all_goals simp
theorem lD : ∀ l : List Tree, steadyP l = true → distinctP l = true → risingP l = true
  | [], _, _ => rfl
  | [_], _, _ => rfl
  | t :: u :: r, h1, h2 => by
    rw [steadyP, Bool.and_eq_true, Bool.not_eq_true'] at h1
    rw [distinctP, Bool.and_eq_true, Bool.not_eq_true'] at h2
    rw [risingP, Bool.and_eq_true]
    refine ⟨?_, lD (u :: r) h1.2 h2.2⟩
    unfold ltB at h1 ⊢
    refine lC _ _ h1.1 fun e => ?_
    have h3 := h2.1
    rw [List.any_cons, Bool.or_eq_false_iff] at h3
    have : eqB u.name t.name = true := by unfold eqB; rw [e]; exact beq_self_eq_true _
    rw [this] at h3
    cases h3.1
/-- A term has the parts that its kind asks for. -/
theorem lW {k n : Int} {a b : ByteArray} {kids : List Tree} (h : isTermP (.node k n a b kids) = true) :
    (k = 130 → 0 ≤ n ∧ n ≤ 65536 ∧ kids = []) ∧ (k = 139 → isT_kt kids = true) ∧ ((k = 134 ∨ k = 146) → isT_ct kids = true) ∧ ((k = 135 ∨ k = 142 ∨ k = 143 ∨ k = 145) → isT_tt kids = true) ∧
    (k = 136 → (∀ t ∈ kids, armForm 137 t) ∧ risingP kids = true) ∧ (k = 138 → isT_t kids = true) ∧ (k = 140 → isT_tc kids = true) ∧ (k = 141 → isT_ctc kids = true) ∧ (k = 144 → isT_ttt kids = true) ∧ (k = 147 → isT_ta kids = true) ∧ (k = 148 → isT_tca kids = true) ∧
    (k = 130 ∨ k = 131 ∨ k = 132 ∨ k = 133 ∨ k = 134 ∨ k = 135 ∨ k = 136 ∨ k = 138 ∨ k = 139 ∨ k = 140 ∨ k = 141 ∨ k = 142 ∨ k = 143 ∨ k = 144 ∨ k = 145 ∨ k = 146 ∨ k = 147 ∨ k = 148) := by
  rw [isTermP, Bool.and_eq_true] at h
  obtain ⟨hh, h⟩ := h
  refine ⟨fun e => ?_, fun e => ?_, fun e => ?_, fun e => ?_, fun e => ?_, fun e => ?_, fun e => ?_, fun e => ?_, fun e => ?_, fun e => ?_, fun e => ?_, ?_⟩
  · subst e
    rw [if_pos (by omega), List.isEmpty_iff] at h
    simp only [headP, Bool.and_eq_true, numberP] at hh
    have hn := hh.2
    simp at hn
    exact ⟨by omega, by omega, h⟩
  · subst e; simpa using h
  · rcases e with rfl | rfl <;> simpa using h
  · rcases e with rfl | rfl | rfl | rfl <;> simpa using h
  · subst e
    simp at h
    exact ⟨jX h.1.1, lD _ h.2 h.1.2⟩
  · subst e; simpa using h
  · subst e; simpa using h
  · subst e; simpa using h
  · subst e; simpa using h
  · subst e; simpa using h
  · subst e; simpa using h
  · by_cases h1 : k = 130 ∨ k = 131 ∨ k = 132 ∨ k = 133 ∨ k = 134 ∨ k = 135 ∨ k = 136 ∨ k = 138 ∨ k = 139 ∨ k = 140 ∨ k = 141 ∨ k = 142 ∨ k = 143 ∨ k = 144 ∨ k = 145 ∨ k = 146 ∨ k = 147 ∨ k = 148
    · exact h1
    · rw [if_neg (by omega), if_neg (by omega), if_neg (by omega), if_neg (by omega), if_neg (by omega), if_neg (by omega), if_neg (by omega), if_neg (by omega), if_neg (by omega), if_neg (by omega), if_neg (by omega), if_neg (by omega)] at h
      cases h
end Go.Proofs.YtlbemgokilhdnaaGreat.Ab
namespace Go.Proofs.YtlbemgokilhdnaaGreat.Ab
set_option linter.unusedVariables false
set_option linter.unusedSimpArgs false
open Go.RowKit
/-- What is told is a constructor, not too large. -/
def fineC (B : Nat) (R : Tree × Int) : Prop := R.2 = 0 → isConP R.1 = true ∧ R.1.whole = true ∧ R.1.size ≤ B
theorem yM {A B : Nat} {R : Tree × Int} (h : fineC A R) (hl : A ≤ B) : fineC B R := fun h0 => by
  obtain ⟨h1, h2, h3⟩ := h h0
  exact ⟨h1, h2, by omega⟩
theorem cA {B : Nat} {t : Tree} {e : Int} (h : e ≠ 0) : fineC B (t, e) := fun h0 => absurd h0 h
theorem iK {B : Nat} {R : Tree × Int} (h : R.2 = 0 → checkP isConP R.1 = 0) (hB : 65536 ≤ B) : fineC B R := fun h0 => by
  obtain ⟨h1, h2, h3⟩ := bG (h h0)
  exact ⟨h3, h1, by omega⟩
theorem fE (t : Tree) (h : (normalP 1000 t).2 = 0) : checkP isConP (normalP 1000 t).1 = 0 := by
  have h1 := (uC 1000 1000 t h).1
  generalize (normalP 1000 t).1 = u at *
  unfold StepP at h1
  by_cases hc : checkP isConP u = 0
  · exact hc
  · rw [if_neg hc] at h1
    have : checkP isConP u = 0 := congrArg Prod.snd h1
    exact absurd this hc
theorem eF (ks : List Tree) (c : Tree) (h : (starT ks c).2 = 0) : checkP isConP (starT ks c).1 = 0 := by
  unfold starT at h ⊢
  split at h
  · rename_i h1; exact absurd h h1
  · rename_i h1; rw [if_neg h1]; exact fE c h
theorem jZ (n b : Tree) (h : (filledP n b).2 = 0) : checkP isConP (filledP n b).1 = 0 := by
  unfold filledP at h ⊢
  split at h
  · rename_i h1; exact absurd h h1
  · rename_i h1; rw [if_neg h1]; exact fE _ h
/-- Parts of what a type is. -/
theorem oO {B : Nat} {T : Tree} (h1 : isConP T = true) (h2 : T.whole = true) (h3 : T.size ≤ B) (hk : T.kind = 114) : ∃ n a b x y, T = .node 114 n a b [x, y] ∧ isConP x = true ∧ isConP y = true ∧ x.whole = true ∧ y.whole = true ∧ x.size ≤ B ∧ y.size ≤ B := by
  obtain ⟨k, n, a, b, kids, rfl⟩ := bT h2
  rw [Tree.kind] at hk
  subst hk
  obtain ⟨x, y, rfl, hx, hy⟩ := (dH h1).2.1 (.inl rfl)
  have sx := bN (k := 114) (n := n) (a := a) (b := b) (kids := [x, y]) (t := x) (by simp)
  have sy := bN (k := 114) (n := n) (a := a) (b := b) (kids := [x, y]) (t := y) (by simp)
  exact ⟨n, a, b, x, y, rfl, hx, hy, bC h2 (by simp), bC h2 (by simp), by omega, by omega⟩
theorem iX {B : Nat} {T : Tree} (h1 : isConP T = true) (h2 : T.whole = true) (h3 : T.size ≤ B) (hk : T.kind = 117 ∨ T.kind = 118) : ∃ n a b K y, T = .node T.kind n a b [K, y] ∧ isKindP K = true ∧ isConP y = true ∧ K.whole = true ∧ y.whole = true ∧ K.size ≤ B ∧ y.size ≤ B := by
  obtain ⟨k, n, a, b, kids, rfl⟩ := bT h2
  rw [Tree.kind] at hk ⊢
  obtain ⟨x, y, rfl, hx, hy⟩ := (dH h1).2.2.2.1 (by omega)
  have sx := bN (k := k) (n := n) (a := a) (b := b) (kids := [x, y]) (t := x) (by simp)
  have sy := bN (k := k) (n := n) (a := a) (b := b) (kids := [x, y]) (t := y) (by simp)
  exact ⟨n, a, b, x, y, rfl, hx, hy, bC h2 (by simp), bC h2 (by simp), by omega, by omega⟩
/-- Fields of a record, cases of a sum. -/
theorem fM {B : Nat} {T : Tree} (h1 : isConP T = true) (h2 : T.whole = true) (h3 : T.size ≤ B) (hk : T.kind = 115 ∨ T.kind = 121) : ∃ n a b kids, T = .node T.kind n a b kids ∧ kids.length ≤ B ∧ ∀ t ∈ kids, ∃ k' n' a' b' c, t = .node k' n' a' b' [c] ∧ isConP c = true ∧ c.whole = true ∧ c.size ≤ B := by
  obtain ⟨k, n, a, b, kids, rfl⟩ := bT h2
  rw [Tree.kind] at hk ⊢
  have hl := cE kids h2
  refine ⟨n, a, b, kids, rfl, by simp only [Tree.size] at h3; omega, fun t ht => ?_⟩
  have st := bN (k := k) (n := n) (a := a) (b := b) ht
  have wt := bC h2 ht
  have key : ∃ k' n' a' b' c, t = .node k' n' a' b' [c] ∧ isConP c = true := by
    rcases hk with hk | hk
    · obtain ⟨n', a', b', c, e, hc⟩ := (dH h1).2.2.1 hk t ht
      exact ⟨116, n', a', b', c, e, hc⟩
    · obtain ⟨n', a', b', c, e, hc⟩ := (dH h1).2.2.2.2 hk t ht
      exact ⟨122, n', a', b', c, e, hc⟩
  obtain ⟨k', n', a', b', c, rfl, hc⟩ := key
  have sc := bN (k := k') (n := n') (a := a') (b := b') (kids := [c]) (t := c) (by simp)
  exact ⟨k', n', a', b', c, rfl, hc, bC wt (by simp), by omega⟩
theorem nO : ∀ {l : List Tree} {a : ByteArray} {p : Tree}, partP l a = some p → ∃ t ∈ l, p = kid0 t
  | [], _, _, h => by rw [partP] at h; cases h
  | t :: ts, a, p, h => by
    rw [partP] at h
    split at h
    · cases h; exact ⟨t, by simp, rfl⟩
    · obtain ⟨u, hu, e⟩ := nO h; exact ⟨u, by simp [hu], e⟩
theorem qX {B : Nat} {T p : Tree} {a : ByteArray} (h1 : isConP T = true) (h2 : T.whole = true) (h3 : T.size ≤ B) (hk : T.kind = 115 ∨ T.kind = 121) (h : partP (kidsOf T) a = some p) : isConP p = true ∧ p.whole = true ∧ p.size ≤ B := by
  obtain ⟨n, a', b, kids, e, hl, hf⟩ := fM h1 h2 h3 hk
  generalize T.kind = k at *
  subst e
  obtain ⟨t, ht, rfl⟩ := nO h
  obtain ⟨k', n', a', b', c, rfl, hc⟩ := hf t ht
  exact hc
theorem iY {R : Tree × Int} {k : Int} (h : (asP R k).2 = 0) : R.2 = 0 ∧ R.1.kind = k := by
  unfold asP at h
  split at h
  · cases h
  · rename_i h1
    refine ⟨h, ?_⟩
    by_cases hk : R.1.kind = k
    · exact hk
    · exact absurd ⟨h, hk⟩ h1
theorem aAU {x y : Tree} (hx : isConP x = true) (hy : isConP y = true) : isConP (tyT 114 [x, y]) = true := by
  show isConP (.node 114 0 emptyB emptyB [x, y]) = true
  rw [isConP, if_neg (by decide), if_neg (by decide), if_pos (by decide), isCons, isCons, isCons, hx, hy, show bareP 0 emptyB emptyB false ((114 : Int) == 110) = true by decide +kernel]; rfl
theorem aCP {K x : Tree} (hK : isKindP K = true) (hx : isConP x = true) : isConP (tyT 117 [K, x]) = true := by
  show isConP (.node 117 0 emptyB emptyB [K, x]) = true
  rw [isConP, if_neg (by decide), if_neg (by decide), if_neg (by decide), if_neg (by decide), if_pos (by decide), isCon2, hx, hK]
  decide +kernel
theorem kB (k : Int) (h : k = 111 ∨ k = 112 ∨ k = 113) : isConP (tyT k []) = true := by rcases h with rfl | rfl | rfl <;> decide +kernel
theorem tC {k : Int} {x y : Tree} (hx : x.whole = true) (hy : y.whole = true) : (tyT k [x, y]).whole = true := by
  show Tree.wholes [x, y] = true
  rw [Tree.wholes, Tree.wholes, hx, hy]; rfl
theorem fN : ∀ ts : List Tree, (shiftsP ts).2 = 0 → (shiftsP ts).1.length = ts.length ∧ ∀ T ∈ (shiftsP ts).1, T.whole = true ∧ T.size ≤ 65536
  | [], _ => ⟨rfl, fun T h => by cases h⟩
  | t :: ts, h => by
    rw [shiftsP] at h ⊢
    split at h
    · rename_i h1; exact absurd h h1
    · rename_i h1
      split at h
      · rename_i h2; exact absurd h h2
      · rename_i h2
        rw [if_neg h1, if_neg h2]
        obtain ⟨g1, g2⟩ := fN ts (by simpa using h2)
        obtain ⟨f1, f2, f3⟩ := dQ t 1 0 (by simpa using h1)
        obtain ⟨_, f4, _⟩ := bG f3
        refine ⟨by simp [g1], fun T hT => ?_⟩
        rcases List.mem_cons.1 hT with rfl | hT
        · exact ⟨f1, by omega⟩
        · exact g2 T hT
theorem gL {R : Tree × Int} {L : List Tree × Int} (h : (consP R L).2 = 0) : R.2 = 0 ∧ L.2 = 0 ∧ (consP R L).1 = R.1 :: L.1 := by
  unfold consP at h ⊢
  split at h
  · rename_i h1; exact absurd h h1
  · rename_i h1
    split at h
    · rename_i h2; exact absurd h h2
    · rename_i h2
      rw [if_neg h1, if_neg h2]
      exact ⟨by simpa using h1, by simpa using h2, rfl⟩
/-- The fields of a record's type are named as its fields. -/
theorem oP (ks ts : List Tree) : ∀ l : List Tree, (∀ t ∈ l, armForm 137 t) → (ofRec l ks ts).2 = 0 → (ofRec l ks ts).1.map Tree.name = l.map Tree.name
  | [], _, _ => by rw [ofRec]
  | t :: l, hf, h => by
    rw [ofRec] at h ⊢
    obtain ⟨h1, h2, h3⟩ := gL h
    rw [h3, List.map_cons, List.map_cons, oP ks ts l (fun t ht => hf t (by simp [ht])) h2]
    congr 1
    obtain ⟨a, x, rfl, hx, hl⟩ := hf t (by simp)
    rw [ofField] at h1 ⊢
    unfold field1 at h1 ⊢
    split at h1
    · rename_i h4; exact absurd h1 h4
    · rename_i h4; rw [if_neg h4]; rfl
theorem fO : ∀ l m : List Tree, l.map Tree.name = m.map Tree.name → risingP l = risingP m
  | [], [], _ => rfl
  | [], _ :: _, h => by simp at h
  | _ :: _, [], h => by simp at h
  | [t], [u], _ => rfl
  | [t], u :: v :: r, h => by simp at h
  | t :: s :: r, [u], h => by simp at h
  | t :: s :: r, u :: v :: q, h => by
    simp only [List.map_cons, List.cons.injEq] at h
    rw [risingP, risingP, h.1, h.2.1, fO (s :: r) (v :: q) (by simp [h.2.1, h.2.2])]
theorem wH (t : Tree) : ∀ ks ts : List Tree, isTermP t = true → t.whole = true → fineC (65537 * t.size) (ofP t ks ts) := by
  induction t using Tree.sind with
  | h t ih =>
    intro ks ts hf hw
    obtain ⟨k, n, a, b, kids, rfl⟩ := bT hw
    obtain ⟨p0, p1, p2, p3, p4, p5, p6, p7, p8, p9, p10, pk⟩ := lW hf
    have hz : 1 ≤ (Tree.node k n a b kids).size := by simp only [Tree.size]; omega
    have hwk : ∀ t ∈ kids, t.whole = true := fun t h => bC hw h
    have hsz : (Tree.node k n a b kids).size = Tree.sizes kids + 1 := by simp only [Tree.size]; omega
    have hin : ∀ t ∈ kids, t.size ≤ Tree.sizes kids := fun t h => cR h
    have hbig : 65536 ≤ 65537 * (Tree.node k n a b kids).size := by omega
    have hk' : ∀ x ∈ kids, isTermP x = true → ∀ ks ts, fineC (65537 * x.size) (ofP x ks ts) := fun x hx h ks ts => ih x (by have := hin x hx; omega) ks ts h (hwk x hx)
    rw [ofP]
    by_cases e0 : k = 130
    · rw [if_pos e0]
      split
      · exact cA (by decide)
      · exact iK (fE _) hbig
    rw [if_neg e0]
    by_cases e1 : k = 131
    · rw [if_pos e1]; exact fun _ => ⟨kB _ (.inl rfl), rfl, by show 1 ≤ _; omega⟩
    rw [if_neg e1]
    by_cases e2 : k = 132
    · rw [if_pos e2]; exact fun _ => ⟨kB _ (.inr (.inl rfl)), rfl, by show 1 ≤ _; omega⟩
    rw [if_neg e2]
    by_cases e3 : k = 133
    · rw [if_pos e3]; exact fun _ => ⟨kB _ (.inr (.inr rfl)), rfl, by show 1 ≤ _; omega⟩
    rw [if_neg e3]
    by_cases e4 : k = 139
    · rw [if_pos e4]
      obtain ⟨K, x, rfl, hK, hx⟩ := lT (p1 e4)
      obtain ⟨wK, sK, fK⟩ := bG hK
      have h1 := hk' x (by simp) hx (K :: ks) (shiftsP ts).1
      rw [ofTLam]
      unfold tlam1
      split
      · rename_i h; exact cA h
      · split
        · rename_i h; exact cA h
        · rename_i h2
          intro _
          obtain ⟨g1, g2, g3⟩ := h1 (by simpa using h2)
          refine ⟨aCP fK g1, tC wK g2, ?_⟩
          rw [hsz]
          simp only [tyT, Tree.size, Tree.sizes]
          omega
    rw [if_neg e4]
    by_cases e5 : k = 143
    · rw [if_pos e5]
      obtain ⟨x, y, rfl, hx, hy⟩ := dE (p3 (by omega))
      have h2 := hk' y (by simp) hy ks ((ofP x ks ts).1 :: ts)
      rw [ofLet]
      unfold let1
      split
      · rename_i h; exact cA h
      · refine yM h2 ?_
        rw [hsz]; simp only [Tree.sizes]; omega
    rw [if_neg e5]
    by_cases e6 : k = 134
    · rw [if_pos e6]
      obtain ⟨T, y, rfl, hT, hy⟩ := eW (p2 (by omega))
      have h2 := hk' y (by simp) hy ks ((starT ks T).1 :: ts)
      have h3 := bG hT
      have hT1 := eB h3.1
      rw [ofLam]
      unfold lamT1
      split
      · rename_i h; exact cA h
      · rename_i h1
        split
        · rename_i h; exact cA h
        · rename_i h4
          intro _
          obtain ⟨g1, g2, g3⟩ := h2 (by simpa using h4)
          obtain ⟨f1, f2, f3⟩ := bG (eF ks T (by simpa using h1))
          refine ⟨aAU f3 g1, tC f1 g2, ?_⟩
          rw [hsz]
          simp only [tyT, Tree.size, Tree.sizes]
          omega
    rw [if_neg e6]
    by_cases e7 : k = 135
    · rw [if_pos e7]
      obtain ⟨x, y, rfl, hx, hy⟩ := dE (p3 (by omega))
      have h1 := hk' x (by simp) hx ks ts
      rw [ofApp]
      unfold appT1
      split
      · rename_i h; exact cA h
      · rename_i h3
        split
        · rename_i h; exact cA h
        · split
          · exact cA (by decide)
          · rename_i h5
            intro _
            obtain ⟨g1, g2, g3⟩ := h1 (by simpa using h3)
            generalize (ofP x ks ts).1 = F at *
            have hk : F.kind = 114 := by
              by_cases hk : F.kind = 114
              · exact hk
              · exact absurd (.inl hk) h5
            obtain ⟨n', a', b', u, v, rfl, hu, hv, wu, wv, su, sv⟩ := oO g1 g2 g3 hk
            refine ⟨hv, wv, ?_⟩
            show v.size ≤ _
            rw [hsz]; simp only [Tree.sizes]; omega
    rw [if_neg e7]
    by_cases e8 : k = 136
    · rw [if_pos e8]
      obtain ⟨q1, q2⟩ := p4 e8
      have key : ∀ l : List Tree, (∀ t ∈ l, t ∈ kids) → (ofRec l ks ts).2 = 0 → (∀ u ∈ (ofRec l ks ts).1, okNamed 116 u = true) ∧ Tree.wholes (ofRec l ks ts).1 = true ∧ Tree.sizes (ofRec l ks ts).1 ≤ 65537 * Tree.sizes l := by
        intro l
        induction l with
        | nil => intro _ _; rw [ofRec]; exact ⟨fun u h => (List.not_mem_nil h).elim, rfl, Nat.zero_le _⟩
        | cons t l ih2 =>
          intro hm h
          rw [ofRec] at h ⊢
          obtain ⟨h1, h2, h3⟩ := gL h
          obtain ⟨g1, g2, g3⟩ := ih2 (fun t ht => hm t (by simp [ht])) h2
          have hmt := hm t (by simp)
          obtain ⟨a', x, rfl, hx, hl⟩ := q1 t hmt
          have sx := bN (k := 137) (n := 0) (a := a') (b := emptyB) (kids := [x]) (t := x) (by simp)
          have hi := ih x (by have := hin _ hmt; omega) ks ts hx (bC (hwk _ hmt) (by simp))
          have e : ofField (.node 137 0 a' emptyB [x]) ks ts = field1 a' (ofP x ks ts) := by rw [ofField, ofH]
          rw [e] at h1 h3 ⊢
          rw [h3]
          unfold field1 at h1 ⊢
          split at h1
          · rename_i h4; exact absurd h1 h4
          · rename_i h4
            rw [if_neg h4]
            obtain ⟨f1, f2, f3⟩ := hi (by simpa using h4)
            refine ⟨fun u hu => ?_, ?_, ?_⟩
            · rcases List.mem_cons.1 hu with rfl | hu
              · show okNamed 116 (.node 116 0 a' emptyB [_]) = true
                rw [okNamed, isCon1, f1, hl, show bareP 0 a' emptyB true false = true by unfold bareP; rw [Bool.true_or, Bool.and_true]; decide +kernel]; rfl
              · exact g1 u hu
            · rw [Tree.wholes, g2, Bool.and_true]
              show Tree.wholes [_] = true
              rw [Tree.wholes, f2]; rfl
            · simp only [Tree.sizes, Tree.size]
              omega
      unfold rec1
      split
      · rename_i h; exact cA h
      · rename_i h
        intro _
        have h0 : (ofRec kids ks ts).2 = 0 := by simpa using h
        obtain ⟨g1, g2, g3⟩ := key kids (fun _ h => h) h0
        have hr := fO _ _ (oP ks ts kids q1 h0)
        rw [q2] at hr
        refine ⟨?_, g2, ?_⟩
        · show isConP (.node 115 0 emptyB emptyB _) = true
          rw [isConP, if_neg (by decide), if_neg (by decide), if_neg (by decide), if_pos (by decide), cW, hr, List.all_eq_true.2 g1]
          decide +kernel
        · rw [hsz]
          simp only [tyT, Tree.size]
          omega
    rw [if_neg e8]
    by_cases e9 : k = 138
    · rw [if_pos e9]
      obtain ⟨x, rfl, hx⟩ := kS (p5 e9)
      have h1 := hk' x (by simp) hx ks ts
      rw [ofH]
      unfold proj1
      split
      · rename_i h; exact cA h
      · rename_i h
        obtain ⟨h2, h3⟩ := iY (by simpa using h)
        obtain ⟨g1, g2, g3⟩ := h1 h2
        unfold part1
        split
        · exact cA (by decide)
        · rename_i p hp
          intro _
          obtain ⟨f1, f2, f3⟩ := qX g1 g2 g3 (.inl h3) hp
          refine ⟨f1, f2, ?_⟩
          rw [hsz]; simp only [Tree.sizes]; omega
    rw [if_neg e9]
    by_cases e10 : k = 140
    · rw [if_pos e10]
      obtain ⟨x, C, rfl, hx, hC⟩ := lU (p6 e10)
      rw [ofTApp]
      unfold tapp1
      split
      · rename_i h; exact cA h
      · split
        · rename_i h; exact cA h
        · split
          · exact cA (by decide)
          · exact iK (jZ _ _) hbig
    rw [if_neg e10]
    by_cases e11 : k = 141
    · rw [if_pos e11]
      obtain ⟨C, x, T, rfl, hC, hx, hT⟩ := jV (p7 e11)
      rw [ofPack]
      unfold pack1
      split
      · rename_i h; exact cA h
      · rename_i h1
        split
        · rename_i h; exact cA h
        · split
          · rename_i h; exact cA h
          · split
            · exact cA (by decide)
            · unfold alike1
              split
              · rename_i h; exact cA h
              · split
                · exact cA (by decide)
                · exact iK (fun _ => eF ks T (by simpa using h1)) hbig
    rw [if_neg e11]
    by_cases e12 : k = 142
    · rw [if_pos e12]
      obtain ⟨x, y, rfl, hx, hy⟩ := dE (p3 (by omega))
      rw [ofUnpack]
      unfold unpack1
      split
      · rename_i h; exact cA h
      · split
        · rename_i h; exact cA h
        · split
          · rename_i h; exact cA h
          · split
            · exact cA (by decide)
            · intro h0
              obtain ⟨g1, g2, g3⟩ := dQ _ _ _ h0
              have g4 := bG g3
              exact ⟨nN _ g3 _ _ (by omega) h0, g1, by omega⟩
    rw [if_neg e12]
    by_cases e13 : k = 144
    · rw [if_pos e13]
      obtain ⟨x, y, z, rfl, hx, hy, hz2⟩ := jW (p8 e13)
      have h1 := hk' y (by simp) hy ks ts
      rw [ofIf]
      unfold choice1
      split
      · rename_i h; exact cA h
      · split
        · rename_i h; exact cA h
        · rename_i h2
          split
          · rename_i h; exact cA h
          · split
            · exact cA (by decide)
            · intro _
              obtain ⟨g1, g2, g3⟩ := h1 (by simpa using h2)
              refine ⟨g1, g2, ?_⟩
              rw [hsz]; simp only [Tree.sizes]; omega
    rw [if_neg e13]
    by_cases e14 : k = 145
    · rw [if_pos e14]
      obtain ⟨x, y, rfl, hx, hy⟩ := dE (p3 (by omega))
      rw [ofOp]
      unfold op1
      split
      · rename_i h; exact cA h
      · split
        · rename_i h; exact cA h
        · split
          · exact cA (by decide)
          · split
            · exact fun _ => ⟨kB _ (.inl rfl), rfl, by show 1 ≤ _; omega⟩
            · exact fun _ => ⟨kB _ (.inr (.inl rfl)), rfl, by show 1 ≤ _; omega⟩
    rw [if_neg e14]
    by_cases e15 : k = 146
    · rw [if_pos e15]
      obtain ⟨T, x, rfl, hT, hx⟩ := eW (p2 (by omega))
      rw [ofIn]
      unfold in1
      split
      · rename_i h; exact cA h
      · rename_i h1
        split
        · rename_i h; exact cA h
        · split
          · exact cA (by decide)
          · cases partP (kidsOf (starT ks T).1) a with
            | none => exact cA (by decide)
            | some p =>
              rw [in2]
              unfold alike1
              split
              · rename_i h; exact cA h
              · split
                · exact cA (by decide)
                · exact iK (fun _ => eF ks T (by simpa using h1)) hbig
    rw [if_neg e15]
    have harms : ∀ (l : List Tree) (cs : List Tree) (self : Tree), (∀ t ∈ l, t ∈ kids ∧ armForm 149 t) → (ofArms l cs self ks ts).2 = 0 → ∀ u ∈ (ofArms l cs self ks ts).1, isConP u = true ∧ u.whole = true ∧ u.size ≤ 65537 * Tree.sizes kids := by
      intro l
      induction l with
      | nil => intro cs self _ _ u hu; rw [ofArms] at hu; cases hu
      | cons t l ih2 =>
        intro cs self hm h
        rw [ofArms] at h ⊢
        unfold arm1 at h ⊢
        split at h
        · rename_i h1; exact absurd h h1
        · rename_i h1
          rw [if_neg h1]
          obtain ⟨h2, h3, h4⟩ := gL h
          rw [h4]
          intro u hu
          rcases List.mem_cons.1 hu with rfl | hu
          · obtain ⟨hmt, a', x, rfl, hx, hl⟩ := hm t (by simp)
            have sx := bN (k := 149) (n := 0) (a := a') (b := emptyB) (kids := [x]) (t := x) (by simp)
            have h5 := hin _ hmt
            rw [ofArm, ofH] at h2 ⊢
            obtain ⟨g1, g2, g3⟩ := ih x (by omega) _ _ hx (bC (hwk _ hmt) (by simp)) h2
            exact ⟨g1, g2, by omega⟩
          · exact ih2 cs.tail self (fun t ht => hm t (by simp [ht])) h3 u hu
    by_cases e16 : k = 147
    · rw [if_pos e16]
      obtain ⟨x, arms, rfl, hne, hx, ha⟩ := lV (p9 e16)
      rw [ofCase]
      unfold case1
      split
      · rename_i h; exact cA h
      · split
        · rename_i h; exact cA h
        · rename_i h1
          have h0 : (arms1 (ofP x ks ts).1 arms (ofArms arms (kidsOf (ofP x ks ts).1) (ofP x ks ts).1 ks ts)).2 = 0 := by simpa using h1
          unfold arms1 at h0 ⊢
          split at h0
          · cases h0
          · rename_i h3
            rw [if_neg h3]
            have h4 := harms arms _ _ (fun t ht => ⟨by simp [ht], ha t ht⟩) h0
            unfold alikeP
            split
            · exact cA (by decide)
            · intro _
              cases arms with
              | nil => exact absurd rfl hne
              | cons t l =>
                rw [ofArms] at h0 h4 ⊢
                unfold arm1 at h0 h4 ⊢
                split at h0
                · rename_i h5; exact absurd h0 h5
                · rename_i h5
                  rw [if_neg h5] at h4 ⊢
                  obtain ⟨h6, h7, h8⟩ := gL h0
                  rw [h8] at h4 ⊢
                  obtain ⟨g1, g2, g3⟩ := h4 _ (List.mem_cons_self ..)
                  refine ⟨g1, g2, ?_⟩
                  show Tree.size (ofArm t ks _).1 ≤ _
                  rw [hsz]; omega
    · rw [if_neg e16]
      have e17 : k = 148 := by omega
      obtain ⟨x, T, arms, rfl, hne, hx, hT, ha⟩ := jY (p10 e17)
      rw [ofFold]
      unfold fold1
      split
      · rename_i h; exact cA h
      · split
        · rename_i h; exact cA h
        · rename_i h1
          split
          · rename_i h; exact cA h
          · unfold alikeP
            split
            · exact cA (by decide)
            · exact iK (fun _ => eF ks T (by simpa using h1)) hbig
end Go.Proofs.YtlbemgokilhdnaaGreat.Ab
namespace Go.Proofs.YtlbemgokilhdnaaGreat.Ab
set_option linter.unusedVariables false
set_option linter.unusedSimpArgs false
theorem tD {k n : Int} {a b : ByteArray} {kids : List Tree} (hk : k ≠ 120) : redexP (.node k n a b kids) = none := by
  unfold redexP
  split
  · rename_i h
    cases h
    rw [if_neg fun h => hk h.1]
  · rfl
theorem mY {k n : Int} {a b : ByteArray} {kids : List Tree} (hk : k ≠ 120) : stepP (.node k n a b kids) = if (stepPs kids).2.2.2 ≠ 0 then (.nil, false, (stepPs kids).2.2.2) else if (stepPs kids).2.2.1 = true then (.node k n a b (kids.set (stepPs kids).1 (stepPs kids).2.1), true, 0) else (.nil, false, 0) := by
  rw [stepP, tD hk]
/-- A field makes the step that its part makes. -/
theorem oQ {k n : Int} {a b : ByteArray} {c : Tree} (hk : k ≠ 120) : stepP (.node k n a b [c]) = if (stepP c).2.2 ≠ 0 then (.nil, false, (stepP c).2.2) else if (stepP c).2.1 = true then (.node k n a b [(stepP c).1], true, 0) else (.nil, false, 0) := by
  rw [mY hk, stepPs, stepPs]
  by_cases h1 : (stepP c).2.2 = 0
  · rw [if_neg (show ¬ (stepP c).2.2 ≠ 0 by simpa using h1), if_neg (show ¬ (stepP c).2.2 ≠ 0 by simpa using h1)]
    by_cases h2 : (stepP c).2.1 = true
    · rw [if_pos h2, if_pos h2]; rfl
    · rw [if_neg h2, if_neg h2]; rfl
  · rw [if_pos h1, if_pos h1, if_pos h1]
theorem mZ : ∀ l : List Tree, (stepPs l).2.2 = (false, 0) → ∀ t ∈ l, (stepP t).2 = (false, 0)
  | [], _, t, ht => (List.not_mem_nil ht).elim
  | u :: l, h, t, ht => by
    rw [stepPs] at h
    split at h
    · rename_i h1
      exact absurd (congrArg Prod.snd h) h1
    · rename_i h1
      split at h
      · cases h
      · rename_i h2
        rcases List.mem_cons.1 ht with rfl | ht
        · have e : (stepP t).2.2 = 0 := by simpa using h1
          have e2 : (stepP t).2.1 = false := by simpa using h2
          rw [← e, ← e2]
        · exact mZ l h t ht
theorem iZ : ∀ l : List Tree, (stepPs l).2.2 = (true, 0) → ∃ h : (stepPs l).1 < l.length, stepP l[(stepPs l).1] = ((stepPs l).2.1, true, 0)
  | [], h => by rw [stepPs] at h; cases h
  | u :: l, h => by
    rw [stepPs] at h ⊢
    split at h
    · cases h
    · rename_i h1
      rw [if_neg h1]
      have e : (stepP u).2.2 = 0 := by simpa using h1
      split at h
      · rename_i h2
        rw [if_pos h2]
        refine ⟨Nat.zero_lt_succ _, ?_⟩
        show stepP u = ((stepP u).1, true, 0)
        rw [← h2, ← e]
      · rename_i h2
        rw [if_neg h2]
        obtain ⟨g1, g2⟩ := iZ l h
        exact ⟨by show (stepPs l).1 + 1 < l.length + 1; omega, by show stepP ((u :: l)[(stepPs l).1 + 1]'(by rw [List.length_cons]; omega)) = _; exact g2⟩
/-- What an ending run is. -/
theorem hE (f : Nat) (t : Tree) (h : (normalP f t).2 = 0) : checkP isConP t = 0 ∧ ((stepP t).2 = (false, 0) ∧ normalP f t = (t, 0) ∨ ∃ f', f = f' + 1 ∧ (stepP t).2 = (true, 0) ∧ normalP f t = normalP f' (stepP t).1) := by
  have hS : (StepP t).2.2 = 0 → checkP isConP t = 0 ∧ StepP t = stepP t := fun h => by
    unfold StepP at h ⊢
    by_cases hc : checkP isConP t = 0
    · rw [if_pos hc]; exact ⟨hc, rfl⟩
    · rw [if_neg hc] at h; exact absurd h hc
  cases f with
  | zero =>
    rw [normalP] at h ⊢
    split at h
    · rename_i h1; exact absurd h h1
    · rename_i h1
      have h1' : (StepP t).2.2 = 0 := by simpa using h1
      obtain ⟨hc, e⟩ := hS h1'
      split at h
      · cases h
      · rename_i h2
        rw [if_neg h1, if_neg h2]
        rw [e] at h1' h2
        have h2' : (stepP t).2.1 = false := by simpa using h2
        exact ⟨hc, .inl ⟨by rw [← h1', ← h2'], rfl⟩⟩
  | succ f =>
    rw [normalP] at h ⊢
    split at h
    · rename_i h1; exact absurd h h1
    · rename_i h1
      have h1' : (StepP t).2.2 = 0 := by simpa using h1
      obtain ⟨hc, e⟩ := hS h1'
      rw [if_neg h1]
      rw [e] at h1' ⊢
      by_cases h2 : (stepP t).2.1 = true
      · rw [if_pos h2]
        exact ⟨hc, .inr ⟨f, rfl, by rw [← h1', ← h2], rfl⟩⟩
      · rw [if_neg h2]
        have h2' : (stepP t).2.1 = false := by simpa using h2
        exact ⟨hc, .inl ⟨by rw [← h1', ← h2'], rfl⟩⟩
theorem nP {t : Tree} (hc : checkP isConP t = 0) : StepP t = stepP t := by unfold StepP; rw [if_pos hc]
theorem hG {t : Tree} (hc : checkP isConP t = 0) (h : (stepP t).2 = (false, 0)) (f : Nat) : normalP f t = (t, 0) := mM (by rw [nP hc]; exact h) f
theorem nB {t : Tree} (hc : checkP isConP t = 0) (h : (stepP t).2 = (true, 0)) (f : Nat) : normalP (f + 1) t = normalP f (stepP t).1 := by
  rw [normalP, nP hc, if_neg (by rw [h]; simp), if_pos (by rw [h])]
theorem fP : ∀ (f : Nat) (t : Tree), (normalP f t).2 = 0 → normalP (f + 1) t = normalP f t
  | f, t, h => by
    obtain ⟨hc, h1 | ⟨f', rfl, h2, h3⟩⟩ := hE f t h
    · rw [h1.2, hG hc h1.1]
    · rw [nB hc h2, h3]
      rw [h3] at h
      exact fP f' _ h
/-- A part of what was checked was checked. -/
theorem tE {t c : Tree} (hc : checkP isConP t = 0) (h1 : isConP c = true) (h2 : c.whole = true) (h3 : c.size ≤ t.size) : checkP isConP c = 0 := by
  obtain ⟨g1, g2, g3⟩ := bG hc
  rw [iJ isConP c h2 (by omega), if_pos h1]
/-- A field, and the field that its normal form is. -/
def fieldN (f : Nat) (t t' : Tree) : Prop := ∃ n a b c c', t = .node 116 n a b [c] ∧ t' = .node 116 n a b [c'] ∧ normalP f c = (c', 0)
theorem wI : ∀ (f : Nat) (n : Int) (a b : ByteArray) (kids : List Tree), (normalP f (.node 115 n a b kids)).2 = 0 →
    ∃ kids', (normalP f (.node 115 n a b kids)).1 = .node 115 n a b kids' ∧ kids'.length = kids.length ∧ ∀ j (h : j < kids.length) (h' : j < kids'.length), fieldN f kids[j] kids'[j] := by
  intro f
  induction f with
  | zero =>
    intro n a b kids h
    obtain ⟨hc, h1 | ⟨f', e, _⟩⟩ := hE _ _ h
    · rw [h1.2]
      obtain ⟨hw, hs, hf⟩ := bG hc
      refine ⟨kids, rfl, rfl, fun j hj _ => ?_⟩
      have hm : kids[j] ∈ kids := List.getElem_mem hj
      obtain ⟨n', a', b', c, e, hcc⟩ := (dH hf).2.2.1 rfl _ hm
      have hst : (stepPs kids).2.2 = (false, 0) := by
        have h2 := h1.1
        rw [mY (by decide)] at h2
        split at h2
        · rename_i h3; exact absurd (congrArg Prod.snd h2) h3
        · rename_i h3
          split at h2
          · cases h2
          · rename_i h4
            have e3 : (stepPs kids).2.2.2 = 0 := by simpa using h3
            have e4 : (stepPs kids).2.2.1 = false := by simpa using h4
            rw [← e3, ← e4]
      have h5 := mZ _ hst _ hm
      have hw2 := bC hw hm
      have hz := bN (k := 115) (n := n) (a := a) (b := b) hm
      rw [e] at h5 hw2 hz ⊢
      have hcw := bC hw2 (show c ∈ [c] by simp)
      have hz2 := bN (k := 116) (n := n') (a := a') (b := b') (kids := [c]) (t := c) (by simp)
      rw [oQ (by decide)] at h5
      refine ⟨n', a', b', c, c, rfl, rfl, hG (tE hc hcc hcw (by omega)) ?_ 0⟩
      split at h5
      · rename_i h3; exact absurd (congrArg Prod.snd h5) h3
      · rename_i h3
        split at h5
        · cases h5
        · rename_i h4
          have e3 : (stepP c).2.2 = 0 := by simpa using h3
          have e4 : (stepP c).2.1 = false := by simpa using h4
          rw [← e3, ← e4]
    · cases e
  | succ f ih =>
    intro n a b kids h
    obtain ⟨hc, h1 | ⟨f', e, h2, h3⟩⟩ := hE _ _ h
    · have h0 : (normalP f (.node 115 n a b kids)).2 = 0 := by rw [hG hc h1.1]
      obtain ⟨kids', g1, g2, g3⟩ := ih n a b kids h0
      rw [fP _ _ h0]
      refine ⟨kids', g1, g2, fun j h h' => ?_⟩
      obtain ⟨n', a', b', c, c', e1, e2, e3⟩ := g3 j h h'
      exact ⟨n', a', b', c, c', e1, e2, by rw [fP _ _ (by rw [e3]), e3]⟩
    · cases e
      obtain ⟨hw, hs, hf⟩ := bG hc
      rw [mY (by decide)] at h2 h3
      by_cases q1 : (stepPs kids).2.2.2 = 0
      · rw [if_neg (show ¬ (stepPs kids).2.2.2 ≠ 0 by simpa using q1)] at h2 h3
        by_cases q2 : (stepPs kids).2.2.1 = true
        · rw [if_pos q2] at h2 h3
          obtain ⟨hi, hmv⟩ := iZ kids (by rw [← q1, ← q2])
          generalize (stepPs kids).1 = i at *
          generalize (stepPs kids).2.1 = t' at *
          rw [h3] at h
          obtain ⟨kids', g1, g2, g3⟩ := ih n a b _ h
          rw [h3]
          rw [List.length_set] at g2
          refine ⟨kids', g1, g2, fun j hj hj' => ?_⟩
          obtain ⟨n', a', b', c, c', e1, e2, e3⟩ := g3 j (by rw [List.length_set]; exact hj) hj'
          by_cases hij : i = j
          · subst hij
            rw [List.getElem_set_self] at e1
            have hm : kids[i] ∈ kids := List.getElem_mem hj
            obtain ⟨n2, a2, b2, c2, e, hcc⟩ := (dH hf).2.2.1 rfl _ hm
            have hw2 := bC hw hm
            have hz := bN (k := 115) (n := n) (a := a) (b := b) hm
            rw [e] at hmv hw2 hz ⊢
            have hcw := bC hw2 (show c2 ∈ [c2] by simp)
            have hz2 := bN (k := 116) (n := n2) (a := a2) (b := b2) (kids := [c2]) (t := c2) (by simp)
            have hck := tE hc hcc hcw (by omega)
            rw [oQ (by decide)] at hmv
            split at hmv
            · cases hmv
            · rename_i h5
              split at hmv
              · rename_i h6
                have e5 : (stepP c2).2.2 = 0 := by simpa using h5
                have e7 : t' = .node 116 n2 a2 b2 [(stepP c2).1] := (congrArg Prod.fst hmv).symm
                rw [e7] at e1
                cases e1
                exact ⟨_, _, _, c2, c', rfl, e2, by rw [nB hck (by rw [← e5, ← h6]), e3]⟩
              · cases hmv
          · rw [List.getElem_set_ne hij] at e1
            exact ⟨n', a', b', c, c', e1, e2, by rw [fP _ _ (by rw [e3]), e3]⟩
        · rw [if_neg q2] at h2; cases h2
      · rw [if_pos q1] at h2; cases h2
end Go.Proofs.YtlbemgokilhdnaaGreat.Ab
namespace Go.Proofs.YtlbemgokilhdnaaGreat.Ab
set_option linter.unusedVariables false
set_option linter.unusedSimpArgs false
/-- What a tree's change keeps. -/
def pres (t t' : Tree) : Prop := (isConP t = true → isConP t' = true) ∧ (∀ kd : Int, okNamed kd t = true → kd = 116 ∨ kd = 122 → okNamed kd t' = true ∧ t'.name = t.name) ∧ (isKindP t = true → isKindP t' = true)
theorem tF (t : Tree) : pres t t := ⟨id, fun _ h _ => ⟨h, rfl⟩, id⟩
theorem namesOf {l m : List Tree} (hl : m.length = l.length) (h : ∀ j (h : j < l.length) (h' : j < m.length), m[j].name = l[j].name) : m.map Tree.name = l.map Tree.name := by
  refine List.ext_getElem (by simp [hl]) fun j h1 h2 => ?_
  rw [List.getElem_map, List.getElem_map]
  exact h j (by simpa using h2) (by simpa using h1)
theorem kC : ∀ l m : List Tree, l.map Tree.name = m.map Tree.name → distinctP l = distinctP m
  | [], [], _ => rfl
  | [], _ :: _, h => by simp at h
  | _ :: _, [], h => by simp at h
  | t :: l, u :: m, h => by
    simp only [List.map_cons, List.cons.injEq] at h
    have key : ∀ (x : ByteArray) (l : List Tree), (l.any fun u => eqB u.name x) = (l.map Tree.name).any fun y => eqB y x := fun x l => by rw [List.any_map]; rfl
    rw [distinctP, distinctP, key, key, h.1, h.2, kC l m h.2]
theorem yN {l m : List Tree} {p : Tree → Bool} (hl : m.length = l.length) (h : ∀ j (h : j < l.length) (h' : j < m.length), p l[j] = true → p m[j] = true) (ha : l.all p = true) : m.all p = true := by
  rw [List.all_eq_true] at ha ⊢
  intro t ht
  obtain ⟨j, hj, rfl⟩ := List.mem_iff_getElem.1 ht
  exact h j (by omega) hj (ha _ (List.getElem_mem (by omega)))
theorem aBS {k n : Int} {a b : ByteArray} {l m : List Tree} (hk : k ≠ 110) (hl : m.length = l.length) (h : ∀ j (h : j < l.length) (h' : j < m.length), pres l[j] m[j]) (hc : isConP (.node k n a b l) = true) : isConP (.node k n a b m) = true := by
  rw [isConP, Bool.and_eq_true] at hc ⊢
  refine ⟨hc.1, ?_⟩
  have h2 := hc.2
  rw [if_neg hk] at h2 ⊢
  have hcons : isCons l = true → isCons m = true := fun hc => by
    rw [eJ] at hc ⊢
    exact yN hl (fun j h1 h2 => (h j h1 h2).1) hc
  have hnam : ∀ kd : Int, kd = 116 ∨ kd = 122 → namedPs l kd = true → namedPs m kd = true ∧ m.map Tree.name = l.map Tree.name := fun kd hkd hn => by
    rw [cW] at hn ⊢
    refine ⟨yN hl (fun j h1 h2 ho => ((h j h1 h2).2.1 kd ho hkd).1) hn, namesOf hl fun j h1 h2 => ((h j h1 h2).2.1 kd ?_ hkd).2⟩
    exact List.all_eq_true.1 hn _ (List.getElem_mem h1)
  by_cases k1 : k = 111 ∨ k = 112 ∨ k = 113
  · rw [if_pos k1] at h2 ⊢; rw [hl]; exact h2
  rw [if_neg k1] at h2 ⊢
  by_cases k2 : k = 114 ∨ k = 120
  · rw [if_pos k2, Bool.and_eq_true] at h2 ⊢
    exact ⟨by rw [hl]; exact h2.1, hcons h2.2⟩
  rw [if_neg k2] at h2 ⊢
  by_cases k3 : k = 115
  · rw [if_pos k3, Bool.and_eq_true] at h2 ⊢
    obtain ⟨g1, g2⟩ := hnam 116 (.inl rfl) h2.1
    exact ⟨g1, by rw [fO m l g2]; exact h2.2⟩
  rw [if_neg k3] at h2 ⊢
  by_cases k4 : k = 117 ∨ k = 118 ∨ k = 119
  · rw [if_pos k4] at h2 ⊢
    by_cases hl2 : l.length = 2
    · obtain ⟨x, y, rfl⟩ := two hl2
      obtain ⟨x', y', rfl⟩ := two (by rw [hl]; exact hl2)
      rw [isCon2, Bool.and_eq_true] at h2 ⊢
      exact ⟨(h 0 (by simp) (by simp)).2.2 h2.1, (h 1 (by simp) (by simp)).1 h2.2⟩
    · rw [eN hl2] at h2; cases h2
  rw [if_neg k4] at h2 ⊢
  by_cases k5 : k = 121
  · rw [if_pos k5, Bool.and_eq_true, Bool.and_eq_true] at h2 ⊢
    obtain ⟨g1, g2⟩ := hnam 122 (.inr rfl) h2.1.2
    exact ⟨⟨by rw [hl]; exact h2.1.1, g1⟩, by rw [kC m l g2]; exact h2.2⟩
  · rw [if_neg k5] at h2; cases h2
theorem yO {k n : Int} {a b : ByteArray} {l m : List Tree} (hl : m.length = l.length) (h : ∀ j (h : j < l.length) (h' : j < m.length), pres l[j] m[j]) (kd : Int) (ho : okNamed kd (.node k n a b l) = true) : okNamed kd (.node k n a b m) = true := by
  rw [okNamed, Bool.and_eq_true] at ho ⊢
  refine ⟨ho.1, ?_⟩
  have h2 := ho.2
  by_cases hl1 : l.length = 1
  · obtain ⟨x, rfl⟩ := dG hl1
    obtain ⟨x', rfl⟩ := dG (show m.length = 1 by rw [hl]; exact hl1)
    rw [isCon1] at h2 ⊢
    exact (h 0 (by simp) (by simp)).1 h2
  · rw [eT hl1] at h2; cases h2
theorem aAV {k n : Int} {a b : ByteArray} {l m : List Tree} (hl : m.length = l.length) (h : ∀ j (h : j < l.length) (h' : j < m.length), pres l[j] m[j]) (ho : isKindP (.node k n a b l) = true) : isKindP (.node k n a b m) = true := by
  rw [isKindP] at ho ⊢
  by_cases k0 : k = 100
  · rw [if_pos k0] at ho ⊢; rw [hl]; exact ho
  · rw [if_neg k0] at ho ⊢
    by_cases k1 : k = 101
    · rw [if_pos k1, Bool.and_eq_true, dO, List.all_map] at ho ⊢
      exact ⟨by rw [hl]; exact ho.1, yN hl (fun j h1 h2 hq => (h j h1 h2).2.2 hq) ho.2⟩
    · rw [if_neg k1] at ho; cases ho
theorem tG {k n : Int} {a b : ByteArray} {l m : List Tree} (hk : k ≠ 110) (hl : m.length = l.length) (h : ∀ j (h : j < l.length) (h' : j < m.length), pres l[j] m[j]) : pres (.node k n a b l) (.node k n a b m) :=
  ⟨aBS hk hl h, fun kd ho _ => ⟨yO hl h kd ho, rfl⟩, aAV hl h⟩
theorem uL {n : Int} (h0 : 0 ≤ n) (h1 : n ≤ 65536) : isConP (varT n) = true := by
  unfold varT
  rw [isConP, if_pos rfl]
  have hbare : bareP n emptyB emptyB false ((110 : Int) == 110) = true := by
    unfold bareP
    rw [(cZ _ _).2 rfl]
    simp
  rw [hbare, decide_eq_true (by omega : n ≥ 0), decide_eq_true h1]
  rfl
section
variable {σ : Type} (V : Int → Int → σ → Tree × σ)
theorem qY (d : Int) : ∀ (l : List Tree) (s : σ) (j : Nat) (h : j < l.length) (h' : j < (walkSs V l d s).1.length), ∃ s', (walkSs V l d s).1[j] = (walkS V l[j] d s').1
  | [], s, j, h, _ => by simp at h
  | t :: l, s, 0, h, h' => ⟨s, by simp only [walkSs, List.getElem_cons_zero]⟩
  | t :: l, s, j + 1, h, h' => by
    have h2 : j < (walkSs V l d (walkS V t d s).2).1.length := by rw [dU]; simpa using h
    obtain ⟨s', e⟩ := qY d l (walkS V t d s).2 j (by simpa using h) h2
    exact ⟨s', by simp only [walkSs, List.getElem_cons_succ]; exact e⟩
theorem yP (hV : ∀ (n d : Int) (s : σ), 0 ≤ n → n ≤ 65536 → 0 ≤ d → isConP (V n d s).1 = true) (t : Tree) : ∀ (d : Int) (s : σ), 0 ≤ d → pres t (walkS V t d s).1 := by
  induction t using Tree.sind with
  | h t ih =>
    intro d s hd
    cases t with
    | nil => rw [walkS]; exact tF _
    | node k n a b kids =>
      by_cases hk : k = 110
      · subst hk
        refine ⟨fun hc => ?_, fun kd ho hkd => ?_, fun ho => ?_⟩
        · obtain ⟨h0, h1, _⟩ := (dH hc).1 rfl
          rw [eU]
          exact hV n d s h0 h1 hd
        · rw [okNamed] at ho
          simp only [Bool.and_eq_true, beq_iff_eq] at ho
          omega
        · rw [isKindP, if_neg (by decide), if_neg (by decide)] at ho; cases ho
      · rw [nM _ _ _ _ kids hk]
        have hb := gC k
        refine tG hk (dU ..) fun j h1 h2 => ?_
        obtain ⟨s', e⟩ := qY V _ kids s j h1 h2
        rw [e]
        exact ih _ (bN (List.getElem_mem h1)) _ _ (by omega)
end
theorem qZ (t : Tree) (i : Int) (y : Tree) (h : (substP t i y).2 = 0) : isConP (substP t i y).1 = true := by
  obtain ⟨_, _, hc, hy⟩ := eY t i y h
  have hcon := (bG hc).2.2
  unfold substP at h ⊢
  rw [if_neg (by simpa using hc)] at h ⊢
  rw [if_neg (by simpa using hy)] at h ⊢
  split at h
  · cases h
  · rename_i hi
    rw [if_neg hi]
    split at h
    · cases h
    · rename_i h1
      rw [if_neg h1]
      refine (yP (substV i y.size y) (fun n d s h0 h2 hd => ?_) t 0 (0, 0) (Int.le_refl _)).1 hcon
      unfold substV
      split
      · exact uL h0 h2
      · rename_i h3
        split
        · exact uL (by omega) (by omega)
        · split
          · exact uL h0 h2
          · rename_i h4
            exact nN y hy d 0 (Int.le_refl _) (by omega)
theorem yQ (t : Tree) : isKindP t = true → (stepP t).2 = (false, 0) := by
  induction t using Tree.sind with
  | h t ih =>
    intro h
    cases t with
    | nil => rw [isKindP] at h; cases h
    | node k n a b kids =>
      rw [isKindP] at h
      have key : k ≠ 120 → (∀ t ∈ kids, isKindP t = true) → (stepP (.node k n a b kids)).2 = (false, 0) := fun hk hall => by
        have hs : ∀ l : List Tree, (∀ t ∈ l, (stepP t).2 = (false, 0)) → (stepPs l).2.2 = (false, 0) := by
          intro l
          induction l with
          | nil => intro _; rw [stepPs]
          | cons t l ih2 =>
            intro hq
            have h1 := hq t (by simp)
            rw [stepPs, if_neg (by rw [h1]; simp), if_neg (by rw [h1]; simp)]
            exact ih2 fun t ht => hq t (by simp [ht])
        have h1 := hs kids fun t ht => ih t (bN ht) (hall t ht)
        rw [mY hk, if_neg (by rw [h1]; simp), if_neg (by rw [h1]; simp)]
      by_cases k0 : k = 100
      · rw [if_pos k0, Bool.and_eq_true] at h
        have e0 : kids = [] := List.eq_nil_of_length_eq_zero (by simpa using h.2)
        exact key (by omega) fun t ht => by rw [e0] at ht; cases ht
      · rw [if_neg k0] at h
        by_cases k1 : k = 101
        · rw [if_pos k1, Bool.and_eq_true, dO, List.all_map] at h
          exact key (by omega) fun t ht => List.all_eq_true.1 h.2 t ht
        · rw [if_neg k1] at h; cases h
theorem aAW (t : Tree) : (stepP t).2 = (true, 0) → pres t (stepP t).1 := by
  induction t using Tree.sind with
  | h t ih =>
    intro h
    cases t with
    | nil => rw [stepP] at h; cases h
    | node k n a b kids =>
      cases hr : redexP (.node k n a b kids) with
      | some p =>
        obtain ⟨bd, y⟩ := p
        obtain ⟨n', a', b', n2, a2, b2, u, e⟩ := gQ hr
        cases e
        rw [stepP, hr] at h ⊢
        dsimp only at h ⊢
        have h0 : (substP bd 0 y).2 = 0 := congrArg Prod.snd h
        refine ⟨fun _ => qZ bd 0 y h0, fun kd ho hkd => ?_, fun ho => ?_⟩
        · rw [okNamed] at ho
          simp only [Bool.and_eq_true, beq_iff_eq] at ho
          omega
        · rw [isKindP, if_neg (by decide), if_neg (by decide)] at ho; cases ho
      | none =>
        rw [stepP, hr] at h ⊢
        dsimp only at h ⊢
        by_cases q1 : (stepPs kids).2.2.2 = 0
        · rw [if_neg (show ¬ (stepPs kids).2.2.2 ≠ 0 by simpa using q1)] at h ⊢
          by_cases q2 : (stepPs kids).2.2.1 = true
          · rw [if_pos q2] at h ⊢
            obtain ⟨hi, hmv⟩ := iZ kids (by rw [← q1, ← q2])
            generalize (stepPs kids).1 = i at *
            generalize (stepPs kids).2.1 = t' at *
            dsimp only
            have hp := ih kids[i] (bN (List.getElem_mem hi)) (by rw [hmv])
            rw [hmv] at hp
            dsimp only at hp
            by_cases hk : k = 110
            · refine ⟨fun hc => ?_, fun kd ho hkd => ?_, fun ho => ?_⟩
              · have := ((dH hc).1 hk).2.2
                rw [this] at hi
                exact absurd hi (by simp)
              · rw [okNamed] at ho
                simp only [Bool.and_eq_true, beq_iff_eq] at ho
                omega
              · rw [isKindP, if_neg (by omega), if_neg (by omega)] at ho; cases ho
            · refine tG hk (by rw [List.length_set]) fun j h1 h2 => ?_
              by_cases hij : i = j
              · subst hij
                rw [List.getElem_set_self]
                exact hp
              · rw [List.getElem_set_ne hij]
                exact tF _
          · rw [if_neg q2] at h; cases h
        · rw [if_pos q1] at h; cases h
theorem aBT {k n : Int} {a b : ByteArray} {kids : List Tree} (h : isConP (.node k n a b kids) = true) : ∀ t ∈ kids, isConP t = true ∨ isKindP t = true ∨ okNamed 116 t = true ∨ okNamed 122 t = true := by
  intro t ht
  rw [isConP, Bool.and_eq_true] at h
  have h2 := h.2
  by_cases k0 : k = 110
  · rw [if_pos k0, Bool.and_eq_true] at h2
    have e0 : kids = [] := List.eq_nil_of_length_eq_zero (by simpa using h2.2)
    rw [e0] at ht; cases ht
  rw [if_neg k0] at h2
  by_cases k1 : k = 111 ∨ k = 112 ∨ k = 113
  · rw [if_pos k1] at h2
    have e0 : kids = [] := List.eq_nil_of_length_eq_zero (by simpa using h2)
    rw [e0] at ht; cases ht
  rw [if_neg k1] at h2
  by_cases k2 : k = 114 ∨ k = 120
  · rw [if_pos k2, Bool.and_eq_true, eJ] at h2
    exact .inl (List.all_eq_true.1 h2.2 t ht)
  rw [if_neg k2] at h2
  by_cases k3 : k = 115
  · rw [if_pos k3, Bool.and_eq_true, cW] at h2
    exact .inr (.inr (.inl (List.all_eq_true.1 h2.1 t ht)))
  rw [if_neg k3] at h2
  by_cases k4 : k = 117 ∨ k = 118 ∨ k = 119
  · rw [if_pos k4] at h2
    by_cases hl2 : kids.length = 2
    · obtain ⟨x, y, rfl⟩ := two hl2
      rw [isCon2, Bool.and_eq_true] at h2
      rcases List.mem_cons.1 ht with rfl | ht
      · exact .inr (.inl h2.1)
      · rw [List.mem_singleton.1 ht]; exact .inl h2.2
    · rw [eN hl2] at h2; cases h2
  rw [if_neg k4] at h2
  by_cases k5 : k = 121
  · rw [if_pos k5, Bool.and_eq_true, Bool.and_eq_true, cW] at h2
    exact .inr (.inr (.inr (List.all_eq_true.1 h2.1.2 t ht)))
  · rw [if_neg k5] at h2; cases h2
theorem rA : ∀ l : List Tree, (∀ t ∈ l, (stepP t).2.2 = 0 ∨ (stepP t).2.2 = 3) → (stepPs l).2.2.2 = 0 ∨ (stepPs l).2.2.2 = 3
  | [], _ => by rw [stepPs]; exact .inl rfl
  | t :: l, h => by
    rw [stepPs]
    split
    · exact h t (by simp)
    · split
      · exact .inl rfl
      · exact rA l fun t ht => h t (by simp [ht])
theorem jA {t : Tree} (h1 : isConP t = true) (h2 : t.whole = true) (h3 : t.size ≤ 65536) : checkP isConP t = 0 := by rw [iJ isConP t h2 h3, if_pos h1]
theorem wJ (t : Tree) : (isConP t = true ∨ isKindP t = true ∨ okNamed 116 t = true ∨ okNamed 122 t = true) → t.whole = true → t.size ≤ 65536 → (stepP t).2.2 = 0 ∨ (stepP t).2.2 = 3 := by
  induction t using Tree.sind with
  | h t ih =>
    intro h hw hs
    by_cases hkd : isKindP t = true
    · rw [yQ t hkd]; exact .inl rfl
    cases t with
    | nil => rw [stepP]; exact .inl rfl
    | node k n a b kids =>
      have hgo : redexP (.node k n a b kids) = none → (∀ t ∈ kids, isConP t = true ∨ isKindP t = true ∨ okNamed 116 t = true ∨ okNamed 122 t = true) → (stepP (.node k n a b kids)).2.2 = 0 ∨ (stepP (.node k n a b kids)).2.2 = 3 := fun hr hall => by
        have h1 := rA kids fun t ht => ih t (bN ht) (hall t ht) (bC hw ht) (by have := bN (k := k) (n := n) (a := a) (b := b) ht; omega)
        rw [stepP, hr]
        dsimp only
        split
        · exact h1
        · split
          · exact .inl rfl
          · exact .inl rfl
      have hnm : ∀ kd : Int, kd = 116 ∨ kd = 122 → okNamed kd (.node k n a b kids) = true → (stepP (.node k n a b kids)).2.2 = 0 ∨ (stepP (.node k n a b kids)).2.2 = 3 := fun kd hkd ho => by
        rw [okNamed] at ho
        simp only [Bool.and_eq_true, beq_iff_eq] at ho
        refine hgo (tD (by omega)) fun t ht => ?_
        have h2 := ho.2
        by_cases hl1 : kids.length = 1
        · obtain ⟨x, rfl⟩ := dG hl1
          rw [isCon1] at h2
          rw [List.mem_singleton.1 ht]
          exact .inl h2
        · rw [eT hl1] at h2; cases h2
      rcases h with h | h | h | h
      · cases hr : redexP (.node k n a b kids) with
        | none => exact hgo hr (aBT h)
        | some p =>
          obtain ⟨bd, y⟩ := p
          obtain ⟨n', a', b', n2, a2, b2, u, e⟩ := gQ hr
          cases e
          obtain ⟨x', y', e, hx, hy⟩ := (dH h).2.1 (.inr rfl)
          cases e
          obtain ⟨u', bd', e, hu, hbd⟩ := (dH hx).2.2.2.1 (by decide)
          cases e
          have hw1 := bC hw (show Tree.node 119 n2 a2 b2 [u, bd] ∈ _ by simp)
          have hw2 := bC hw1 (show bd ∈ [u, bd] by simp)
          have hw3 := bC hw (show y ∈ _ by simp)
          have s1 := bN (k := 120) (n := n) (a := a) (b := b) (kids := [.node 119 n2 a2 b2 [u, bd], y]) (t := y) (by simp)
          have s2 := bN (k := 120) (n := n) (a := a) (b := b) (kids := [.node 119 n2 a2 b2 [u, bd], y]) (t := .node 119 n2 a2 b2 [u, bd]) (by simp)
          have s3 := bN (k := 119) (n := n2) (a := a2) (b := b2) (kids := [u, bd]) (t := bd) (by simp)
          rw [stepP, hr]
          dsimp only
          unfold substP
          rw [if_neg (by simpa using jA hbd hw2 (by omega)), if_neg (by simpa using jA hy hw3 (by omega)), if_neg (by decide)]
          split
          · exact .inr rfl
          · exact .inl rfl
      · exact absurd h hkd
      · exact hnm 116 (.inl rfl) h
      · exact hnm 122 (.inr rfl) h
/-- What keeps a checked constructor from having a normal form: it is too large, or takes too long. -/
theorem yR : ∀ (f : Nat) (t : Tree), isConP t = true → t.whole = true → (normalP f t).2 = 0 ∨ (normalP f t).2 = 3 ∨ (normalP f t).2 = 18 := by
  have hchk : ∀ t : Tree, isConP t = true → t.whole = true → (StepP t).2.2 = 3 ∨ t.size ≤ 65536 ∧ StepP t = stepP t := fun t hc hw => by
    by_cases hs : t.size ≤ 65536
    · exact .inr ⟨hs, nP (jA hc hw hs)⟩
    · have h3 : checkP isConP t = 3 := by
        have := aBN t hw 65536 (by decide) (by omega)
        unfold checkP
        rw [this, if_neg (by decide)]
      unfold StepP
      rw [if_neg (by rw [h3]; decide)]
      exact .inl h3
  intro f
  induction f with
  | zero =>
    intro t hc hw
    rw [normalP]
    rcases hchk t hc hw with h | ⟨hs, e⟩
    · rw [if_pos (by rw [h]; decide)]; exact .inr (.inl h)
    · split
      · rename_i h1
        rw [e] at h1 ⊢
        rcases wJ t (.inl hc) hw hs with h | h
        · exact absurd h h1
        · exact .inr (.inl h)
      · split
        · exact .inr (.inr rfl)
        · exact .inl rfl
  | succ f ih =>
    intro t hc hw
    rw [normalP]
    rcases hchk t hc hw with h | ⟨hs, e⟩
    · rw [if_pos (by rw [h]; decide)]; exact .inr (.inl h)
    · split
      · rename_i h1
        rw [e] at h1 ⊢
        rcases wJ t (.inl hc) hw hs with h | h
        · exact absurd h h1
        · exact .inr (.inl h)
      · rename_i h1
        have h1' : (StepP t).2.2 = 0 := by simpa using h1
        split
        · rename_i h2
          have hf := qF t h2 h1'
          rw [e] at hf h2 h1' ⊢
          exact ih _ ((aAW t (by rw [← h1', ← h2])).1 hc) hf.1
        · exact .inl rfl
end Go.Proofs.YtlbemgokilhdnaaGreat.Ab
namespace Go.Proofs.YtlbemgokilhdnaaGreat.Ab
set_option linter.unusedVariables false
set_option linter.unusedSimpArgs false
open Go.RowKit
attribute [local irreducible] AWP AOps AExit AThen ABlock ANoGoto FeetOk
mutual
/-- A signature's size, but for its constructors. -/
def sW : Tree → Nat
  | .nil => 0
  | .node k _ _ _ kids => if k < 160 then 1 else 1 + sWs kids
def sWs : List Tree → Nat
  | [] => 0
  | t :: ts => sW t + sWs ts
end
theorem zV (t : Tree) : sW t ≤ t.size := by
  induction t using Tree.sind with
  | h t ih =>
    cases t with
    | nil => rw [sW]; exact Nat.zero_le _
    | node k n a b kids =>
      have hsz : (Tree.node k n a b kids).size = Tree.sizes kids + 1 := by simp only [Tree.size]; omega
      have key : ∀ l : List Tree, (∀ t ∈ l, t ∈ kids) → sWs l ≤ Tree.sizes l := by
        intro l
        induction l with
        | nil => intro _; rw [sWs]; exact Nat.zero_le _
        | cons t l ih2 =>
          intro hm
          have h1 := ih t (bN (hm t (by simp)))
          have h2 := ih2 fun t ht => hm t (by simp [ht])
          rw [sWs]
          simp only [Tree.sizes]
          omega
      have := key kids fun _ h => h
      rw [sW]
      split <;> omega
section
variable (C : Tree → Int → Tree × Int)
theorem yS (hC : ∀ t d, (C t d).1.size ≤ 65536) (t : Tree) : ∀ d, (swalkP C t d).1.size ≤ 65537 * sW t := by
  induction t using Tree.sind with
  | h t ih =>
    intro d
    cases t with
    | nil => rw [swalkP]; exact Nat.zero_le _
    | node k n a b kids =>
      rw [swalkP, sW]
      split
      · rename_i hk
        have := hC (.node k n a b kids) d
        omega
      · rename_i hk
        have key : ∀ l : List Tree, (∀ t ∈ l, t ∈ kids) → Tree.sizes (swalkPs C l (d + sbindsP k n)).1 ≤ 65537 * sWs l := by
          intro l
          induction l with
          | nil => intro _; rw [swalkPs]; exact Nat.zero_le _
          | cons t l ih2 =>
            intro hm
            have h1 := ih t (bN (hm t (by simp))) (d + sbindsP k n)
            have h2 := ih2 fun t ht => hm t (by simp [ht])
            rw [swalkPs, sWs]
            split
            · exact Nat.zero_le _
            · split
              · exact Nat.zero_le _
              · simp only [Tree.sizes]; omega
        have := key kids fun _ h => h
        split
        · exact Nat.zero_le _
        · simp only [Tree.size]; omega
theorem aCQ (hC : ∀ t d, (C t d).1.kind < 160) (t : Tree) : ∀ d, sW (swalkP C t d).1 ≤ sW t := by
  induction t using Tree.sind with
  | h t ih =>
    intro d
    cases t with
    | nil => rw [swalkP]; exact Nat.le_refl _
    | node k n a b kids =>
      rw [swalkP, sW]
      split
      · rename_i hk
        have := hC (.node k n a b kids) d
        cases hq : (C (.node k n a b kids) d).1 with
        | nil => rw [sW]; omega
        | node k' n' a' b' kids' =>
          rw [hq] at this
          rw [sW, if_pos (show k' < 160 from this)]; omega
      · rename_i hk
        have key : ∀ l : List Tree, (∀ t ∈ l, t ∈ kids) → sWs (swalkPs C l (d + sbindsP k n)).1 ≤ sWs l := by
          intro l
          induction l with
          | nil => intro _; rw [swalkPs]; exact Nat.le_refl _
          | cons t l ih2 =>
            intro hm
            have h1 := ih t (bN (hm t (by simp))) (d + sbindsP k n)
            have h2 := ih2 fun t ht => hm t (by simp [ht])
            rw [swalkPs, sWs]
            split
            · rw [sWs]; exact Nat.zero_le _
            · split
              · rw [sWs]; exact Nat.zero_le _
              · rw [sWs]; omega
        have := key kids fun _ h => h
        split
        · rw [sW]; exact Nat.zero_le _
        · rw [sW, if_neg hk]; omega
end
theorem aAX {t : Tree} (h : isConP t = true) : t.kind < 160 := by
  cases t with
  | nil => rw [isConP] at h; cases h
  | node k n a b kids =>
    show k < 160
    by_cases hk : k < 160
    · exact hk
    · rw [isConP, if_neg (by omega), if_neg (by omega), if_neg (by omega), if_neg (by omega), if_neg (by omega), if_neg (by omega), Bool.and_false] at h
      cases h
theorem yT (t : Tree) (i : Int) (y : Tree) : (substP t i y).1.size ≤ 65536 ∧ (substP t i y).1.kind < 160 := by
  by_cases h : (substP t i y).2 = 0
  · exact ⟨(eY t i y h).2.1, aAX (qZ t i y h)⟩
  · have e : (substP t i y).1 = .nil := by
      unfold substP at h ⊢
      split
      · rfl
      · rename_i h1
        rw [if_neg h1] at h
        split
        · rfl
        · rename_i h2
          rw [if_neg h2] at h
          split
          · rfl
          · rename_i h3
            rw [if_neg h3] at h
            split
            · rfl
            · rename_i h4
              rw [if_neg h4] at h
              exact absurd rfl h
    rw [e]
    exact ⟨Nat.zero_le _, by show (0 : Int) < 160; decide⟩
theorem tH (y t : Tree) (d : Int) : (ssubC 0 y t d).1.size ≤ 65536 ∧ (ssubC 0 y t d).1.kind < 160 := by
  unfold ssubC
  rw [if_neg (by decide)]
  split
  · exact ⟨Nat.zero_le _, by show (0 : Int) < 160; decide⟩
  · exact yT _ _ _
theorem wL (s y : Tree) : sW (ssubstP s 0 y).1 ≤ sW s := by
  have h0 : sW .nil ≤ sW s := by rw [sW]; exact Nat.zero_le _
  unfold ssubstP
  split
  · exact h0
  · split
    · exact h0
    · split
      · exact h0
      · unfold sizedP
        split
        · exact h0
        · split
          · exact h0
          · exact aCQ _ (fun t d => (tH y t d).2) s 0
theorem aBU : ∀ (n : Int) (cs : List Tree) (i : Int) (s : Tree), sW (fillL n cs i s).1 ≤ sW s
  | n, [], i, s => by rw [fillL]; exact Nat.le_refl _
  | n, c :: cs, i, s => by
    have h0 : sW .nil ≤ sW s := by rw [sW]; exact Nat.zero_le _
    rw [fillL]
    split
    · exact h0
    · split
      · exact h0
      · exact Nat.le_trans (aBU n cs (i + 1) _) (wL s _)
theorem zW : ∀ (n : Int) (cs : List Tree) (i : Int) (s : Tree), sW s ≤ 1000 → fillOk n cs i s = true
  | n, [], i, s, h => by rw [fillOk]
  | n, c :: cs, i, s, h => by
    rw [fillOk]
    split
    · rfl
    · have h1 := yS (ssubC 0 (shiftP c (n - 1 - i) 0).1) (fun t d => (tH (shiftP c (n - 1 - i) 0).1 t d).1) s 0
      rw [Bool.and_eq_true]
      refine ⟨decide_eq_true (by omega), ?_⟩
      split
      · rfl
      · exact zW n cs (i + 1) _ (Nat.le_trans (wL s _) h)
/-- Match: the signature, and the error. -/
def matchP (a b : Tree) : Tree × Int := if (witnessP a b).2 ≠ 0 then (.nil, (witnessP a b).2) else if (fillP b (witnessP a b).1).2 ≠ 0 then (.nil, (fillP b (witnessP a b).1).2) else if mSubP a (fillP b (witnessP a b).1).1 ≠ 0 then (.nil, mSubP a (fillP b (witnessP a b).1).1) else ((fillP b (witnessP a b).1).1, 0)
theorem wM (kid sig : Tree) : ∀ (f : Nat) (i : Int) (acc : List Tree), (witsP kid sig f i acc).1.length ≤ acc.length + f
  | 0, i, acc => by rw [witsP]; exact Nat.le_refl _
  | f + 1, i, acc => by
    rw [witsP]
    split
    · exact Nat.zero_le _
    · have := wM kid sig f (i + 1) (acc ++ [‹Tree›])
      rw [List.length_append] at this
      simp only [List.length_cons, List.length_nil] at this
      omega
theorem wN {kid sig : Tree} (hs : isSigP sig = true ∧ sig.whole = true ∧ sig.size ≤ 65536) : ∀ (f : Nat) (i : Int) (acc : List Tree), (∀ c ∈ acc, checkP isConP c = 0) → ∀ c ∈ (witsP kid sig f i acc).1, checkP isConP c = 0
  | 0, i, acc, h => by rw [witsP]; exact h
  | f + 1, i, acc, h => by
    rw [witsP]
    split
    · intro c hc; cases hc
    · rename_i c hc
      refine wN hs f (i + 1) _ fun d hd => ?_
      rcases List.mem_append.1 hd with hd | hd
      · exact h d hd
      · rw [List.mem_singleton.1 hd]
        exact vY ⟨hs.1, hs.2.1, by omega⟩ hc
theorem uM (a b : Tree) : (witnessP a b).1.length ≤ 8192 ∧ ∀ c ∈ (witnessP a b).1, checkP isConP c = 0 := by
  have h0 : ([] : List Tree).length ≤ 8192 ∧ ∀ c ∈ ([] : List Tree), checkP isConP c = 0 := ⟨Nat.zero_le _, fun c hc => (List.not_mem_nil hc).elim⟩
  unfold witnessP
  split
  · exact h0
  · rename_i h1
    split
    · exact h0
    · rename_i h2
      split
      · rename_i h3
        have h1' : checkP sformP a = 0 := by simpa using h1
        have h2' : checkP sformP b = 0 := by simpa using h2
        obtain ⟨n, x, y, c, e, hc, hn0, hn⟩ := mU h2' h3.2
        have hl := wM (kid0 b) a b.num.toNat 0 []
        have hnum : b.num = n := by rw [e]; rfl
        obtain ⟨w1, w2, _⟩ := bG h1'
        exact ⟨by simp only [List.length_nil] at hl; omega, wN ⟨eV h1' h3.1, w1, w2⟩ _ _ _ fun c hc => (List.not_mem_nil hc).elim⟩
      · exact h0
theorem wO {b : Tree} {cs : List Tree} (h : (fillP b cs).2 = 0) : checkP sformP b = 0 ∧ b.kind = 164 ∧ (fillP b cs).1 = (fillL cs.length cs 0 (kid0 b)).1 ∧ checkP sformP (fillP b cs).1 = 0 := by
  unfold fillP at h ⊢
  split at h
  · rename_i h1; exact absurd h h1
  · rename_i h1
    rw [if_neg h1]
    split at h
    · cases h
    · rename_i h2
      rw [if_neg h2]
      split at h
      · cases h
      · rename_i h3
        rw [if_neg h3]
        unfold finP at h ⊢
        split at h
        · rename_i h4; exact absurd h h4
        · rename_i h4
          rw [if_neg h4]
          split at h
          · rename_i h5; exact absurd h h5
          · rename_i h5
            rw [if_neg h5]
            refine ⟨by simpa using h1, by simpa using h2, rfl, ?_⟩
            have h6 : ssmallP (fillL cs.length cs 0 (kid0 b)).1 = 0 := by simpa using h5
            unfold ssmallP at h6
            split at h6
            · rename_i h7; exact absurd h6 h7
            · rename_i h7; simpa using h7
theorem tI {a b : Tree} (hb : b.size ≤ 60) (h : (matchP a b).2 = 0) : checkP sformP a = 0 ∧ plainP a = true ∧ checkP sformP (matchP a b).1 = 0 ∧ plainP (matchP a b).1 = true ∧ subP (matchP a b).1 a = true ∧ sW (matchP a b).1 ≤ 60 := by
  unfold matchP at h ⊢
  split at h
  · rename_i h1; exact absurd h h1
  · rename_i h1
    rw [if_neg h1]
    split at h
    · rename_i h2; exact absurd h h2
    · rename_i h2
      rw [if_neg h2]
      split at h
      · rename_i h3; exact absurd h h3
      · rename_i h3
        rw [if_neg h3]
        obtain ⟨g1, g2, g3, g4⟩ := wO (show (fillP b (witnessP a b).1).2 = 0 by simpa using h2)
        have hw : sW (fillP b (witnessP a b).1).1 ≤ 60 := by
          rw [g3]
          have q1 := aBU (witnessP a b).1.length (witnessP a b).1 0 (kid0 b)
          have q2 := zV (kid0 b)
          obtain ⟨n, x, y, c, e, _⟩ := mU g1 g2
          have q3 : (kid0 b).size ≤ b.size := by
            rw [e]
            have := bN (k := 164) (n := n) (a := x) (b := y) (kids := [c]) (t := c) (by simp)
            show c.size ≤ _
            omega
          omega
        have h4 : mSubP a (fillP b (witnessP a b).1).1 = 0 := by simpa using h3
        generalize (fillP b (witnessP a b).1).1 = T at *
        unfold mSubP at h4
        split at h4
        · rename_i h5; exact absurd h4 h5
        · rename_i h5
          split at h4
          · rename_i h6; exact absurd h4 h6
          · split at h4
            · rename_i h7
              split at h4
              · rename_i h8
                rw [Bool.and_eq_true] at h7
                exact ⟨by simpa using h5, h7.1, g4, h7.2, h8, hw⟩
              · cases h4
            · cases h4
set_option maxHeartbeats 8000000 in
set_option maxRecDepth 10000 in
theorem aAY (a b : Tree) (ha : a.size ≤ 60) (hb : b.size ≤ 60) : ∃ X : IV, (X = .lit (.slice none 0 0) ∨ ∃ n l, X = .sl false n l) ∧
    ACalls Tryz.prog 13 [.imm a.iv, .imm b.iv] [] (.imm (.tup [X, (matchP a b).1.iv, .lit (.int .i64 (matchP a b).2)])) [] := by
  have c1 := sQ a b (by omega) (by omega)
  obtain ⟨f1, f2⟩ := uM a b
  have hwk : sW (kid0 b) ≤ 1000 := by
    have q2 := zV (kid0 b)
    have q3 : (kid0 b).size ≤ 60 := by
      cases b with
      | nil => exact Nat.zero_le _
      | node k n x y kids =>
        cases kids with
        | nil => exact Nat.zero_le _
        | cons t l =>
          have := bN (k := k) (n := n) (a := x) (b := y) (kids := t :: l) (t := t) (by simp)
          show t.size ≤ 60
          omega
    omega
  have c2 := aBF b (witnessP a b).1 (by omega) (by omega) (fun c hc => by have := (bG (f2 c hc)).2.1; omega) (zW _ _ _ _ hwk)
  have hfs : (fillP b (witnessP a b).1).2 = 0 → (fillP b (witnessP a b).1).1.size ≤ 65536 := fun h => (bG (wO h).2.2.2).2.1
  have c3 := fun h : (fillP b (witnessP a b).1).2 = 0 => yD a (fillP b (witnessP a b).1).1 (by omega) (by have := hfs h; omega)
  unfold matchP
  generalize fillP b (witnessP a b).1 = FF at *
  generalize witnessP a b = W at *
  obtain ⟨W1, W2⟩ := W
  obtain ⟨F1, F2⟩ := FF
  dsimp only at *
  clear f1 f2 hfs hwk
  by_cases h1 : W2 = 0
  · subst h1
    rw [if_neg (by simp)]
    by_cases h2 : F2 = 0
    · replace c3 := c3 h2
      subst h2
      rw [if_neg (by simp)]
      generalize Tree.ivs W1 = WI at *
      by_cases h3 : mSubP a F1 = 0
      · rw [if_neg (by simpa using h3)]
        rw [h3] at c3
        dsimp only
        generalize F1.iv = fi at *
        refine ⟨.sl false W1.length WI, .inr ⟨_, _, rfl⟩, ?_⟩
        refine aI Tryz.func13 rfl rfl (nb rfl) rfl ?_
        repeat' (first | refine aF ?_ | (refine aH ?_;  first | refine aC tabOk rfl rfl rfl (nb rfl) rfl ?_ | (refine aJ rfl rfl rfl (nb rfl) rfl rfl rfl (fun hq => ?_) (fun hq => ?_) <;> (first | (simp only [sD, sE, sB, sC, sN, sM, sT, sF] at hq; try (exfalso; omega)) | skip)) | refine aD rfl rfl (nb rfl) rfl rfl rfl rfl (c1) ?_ | refine aD rfl rfl (nb rfl) rfl rfl rfl rfl (c2) ?_ | refine aD rfl rfl (nb rfl) rfl rfl rfl rfl (c3) ?_) | (refine aL ?_;  first | refine aG ?_ | refine aM ?_ | refine aN ?_ | refine aT ?_ | refine aE (b := false) rfl nFt (fun _ => ?_)) | (refine aK ?_;  first | refine aU ?_))
        all_goals first
          | exact absurd rfl (by assumption)
          | (refine aP (by first | exact .inl rfl | exact .inr rfl) (dK rfl (aB rfl) (aB rfl) (aB rfl)) rfl ?_; rfl)
      · rw [if_pos h3]
        generalize F1.iv = fi at *
        generalize mSubP a F1 = e at *
        refine ⟨.lit (.slice none 0 0), .inl rfl, ?_⟩
        refine aI Tryz.func13 rfl rfl (nb rfl) rfl ?_
        repeat' (first | refine aF ?_ | (refine aH ?_;  first | refine aC tabOk rfl rfl rfl (nb rfl) rfl ?_ | (refine aJ rfl rfl rfl (nb rfl) rfl rfl rfl (fun hq => ?_) (fun hq => ?_) <;> (first | (simp only [sD, sE, sB, sC, sN, sM, sT, sF] at hq; try (exfalso; omega)) | skip)) | refine aD rfl rfl (nb rfl) rfl rfl rfl rfl (c1) ?_ | refine aD rfl rfl (nb rfl) rfl rfl rfl rfl (c2) ?_ | refine aD rfl rfl (nb rfl) rfl rfl rfl rfl (c3) ?_) | (refine aL ?_;  first | refine aG ?_ | refine aM ?_ | refine aN ?_ | refine aT ?_ | refine aE (b := true) rfl (fun _ => ?_) nTf | refine aE (b := false) rfl nFt (fun _ => ?_)) | (refine aK ?_;  first | refine aU ?_ | refine aO ?_))
        all_goals first
          | exact absurd (by assumption) h3
          | (refine aP (by first | exact .inl rfl | exact .inr rfl) (dK rfl (aB rfl) (aB rfl) (aB rfl)) rfl ?_; rfl)
    · rw [if_pos h2]
      clear c3
      generalize Tree.ivs W1 = WI at *
      generalize F1.iv = fi at *
      refine ⟨.lit (.slice none 0 0), .inl rfl, ?_⟩
      refine aI Tryz.func13 rfl rfl (nb rfl) rfl ?_
      repeat' (first | refine aF ?_ | (refine aH ?_;  first | refine aC tabOk rfl rfl rfl (nb rfl) rfl ?_ | (refine aJ rfl rfl rfl (nb rfl) rfl rfl rfl (fun hq => ?_) (fun hq => ?_) <;> (first | (simp only [sD, sE, sB, sC, sN, sM, sT, sF] at hq; try (exfalso; omega)) | skip)) | refine aD rfl rfl (nb rfl) rfl rfl rfl rfl (c1) ?_ | refine aD rfl rfl (nb rfl) rfl rfl rfl rfl (c2) ?_) | (refine aL ?_;  first | refine aG ?_ | refine aM ?_ | refine aN ?_ | refine aT ?_ | refine aE (b := true) rfl (fun _ => ?_) nTf | refine aE (b := false) rfl nFt (fun _ => ?_)) | (refine aK ?_;  first | refine aU ?_ | refine aO ?_))
      all_goals first
        | exact absurd (by assumption) h2
        | (refine aP (by first | exact .inl rfl | exact .inr rfl) (dK rfl (aB rfl) (aB rfl) (aB rfl)) rfl ?_; rfl)
  · rw [if_pos h1]
    clear c2 c3
    generalize Tree.ivs W1 = WI at *
    refine ⟨.lit (.slice none 0 0), .inl rfl, ?_⟩
    refine aI Tryz.func13 rfl rfl (nb rfl) rfl ?_
    repeat' (first | refine aF ?_ | (refine aH ?_;  first | refine aC tabOk rfl rfl rfl (nb rfl) rfl ?_ | (refine aJ rfl rfl rfl (nb rfl) rfl rfl rfl (fun hq => ?_) (fun hq => ?_) <;> (first | (simp only [sD, sE, sB, sC, sN, sM, sT, sF] at hq; try (exfalso; omega)) | skip)) | refine aD rfl rfl (nb rfl) rfl rfl rfl rfl (c1) ?_) | (refine aL ?_;  first | refine aG ?_ | refine aM ?_ | refine aN ?_ | refine aE (b := true) rfl (fun _ => ?_) nTf) | (refine aK ?_;  first | refine aO ?_))
    all_goals first
      | exact absurd (by assumption) h1
      | (refine aP (by first | exact .inl rfl | exact .inr rfl) (dK rfl (aB rfl) (aB rfl) (aB rfl)) rfl ?_; rfl)
end Go.Proofs.YtlbemgokilhdnaaGreat.Ab
namespace Go.Proofs.YtlbemgokilhdnaaGreat.Ab
set_option linter.unusedVariables false
set_option linter.unusedSimpArgs false
open Go.RowKit
attribute [local irreducible] AWP AOps AExit AThen ABlock ANoGoto FeetOk
/-- A node with kids alone. -/
def conT (k : Int) (kids : List Tree) : Tree := .node k 0 emptyB emptyB kids
def conIV (k : Int) (n : Nat) (cs : List IV) : IV := .ptr [.lit (.int .i64 k), .lit (.int .i64 0), .lit (.string ⟨#[]⟩), .lit (.string ⟨#[]⟩), .sl false n cs] 0
theorem fQ (k : Int) (kids : List Tree) : (conT k kids).iv = conIV k kids.length (Tree.ivs kids) := by unfold conT conIV; rw [Tree.iv]; rfl
def higherT : Tree := conT 101 [conT 100 [], conT 100 []]
def sstarT : Tree := conT 100 []
/-- What a token is handed. -/
def tokP (c : Tree) : Tree × Int := if (shiftP c 1 0).2 ≠ 0 then (.nil, 3) else (conT 120 [conT 110 [], (shiftP c 1 0).1], 0)
def aroundP (kind : Int) : Nat → Tree → Tree
  | 0, c => c
  | n + 1, c => conT kind [sstarT, aroundP kind n c]
set_option maxHeartbeats 4000000 in
set_option maxRecDepth 10000 in
theorem rB (k : Int) (f : Bool) (n : Nat) (cs : List IV) : ACalls Tryz.prog 69 [.imm (.lit (.int .i64 k)), .imm (.sl f n cs)] [] (.imm (conIV k n cs)) [] := by
  refine cI Tryz.func69 rfl rfl (nb rfl) rfl ?_
  repeat' (first | refine aF ?_ | (refine aH ?_;  first | refine aC tabOk rfl rfl rfl (nb rfl) rfl ?_ | refine dZ tabOk rfl rfl rfl (nb rfl) rfl rfl rfl rfl rfl ?_ | refine iE (t := 43) rfl rfl rfl (nb rfl) rfl rfl rfl rfl rfl rfl rfl ?_) | (refine aL ?_;  first | refine aG ?_ | refine aN ?_))
  all_goals (refine dS (dD (g := 8) rfl rfl) ?_; refine aP (by first | exact .inl rfl | exact .inr rfl) (aX rfl (aB rfl)) rfl ?_; cases f <;> rfl)
set_option maxHeartbeats 4000000 in
set_option maxRecDepth 10000 in
theorem uN (k : Int) : ACalls Tryz.prog 69 [.imm (.lit (.int .i64 k)), .imm (.lit (.slice none 0 0))] [] (.imm (conIV k 0 [])) [] := by
  refine cI Tryz.func69 rfl rfl (nb rfl) rfl ?_
  repeat' (first | refine aF ?_ | (refine aH ?_;  first | refine aC tabOk rfl rfl rfl (nb rfl) rfl ?_ | refine dZ tabOk rfl rfl rfl (nb rfl) rfl rfl rfl rfl rfl ?_ | refine iE (t := 43) rfl rfl rfl (nb rfl) rfl rfl rfl rfl rfl rfl rfl ?_) | (refine aL ?_;  first | refine aG ?_ | refine aN ?_))
  all_goals (refine dS ((dY (h0 := 8) (k0 := 4) 500 25 1 rfl rfl (by simp) rfl rfl).trans ((cP (g := 500) rfl (by repeat' first | exact trivial | exact fun _ => rfl | refine ⟨?_, ?_⟩) (by repeat' first | exact trivial | exact fun _ => rfl | refine ⟨?_, ?_⟩)).trans (dD (g := 8) rfl rfl))) ?_; refine aP (by first | exact .inl rfl | exact .inr rfl) (aX rfl (aB rfl)) rfl ?_; rfl)
set_option maxHeartbeats 4000000 in
set_option maxRecDepth 10000 in
theorem aBV : ACalls Tryz.prog 70 [] [] (.imm higherT.iv) [] := by
  have c0 := uN 100
  have c1 := rB 101 true 2 [conIV 100 0 [], conIV 100 0 []]
  unfold conIV at *
  refine aI Tryz.func70 rfl rfl (nb rfl) rfl ?_
  repeat' (first | refine aF ?_ | (refine aH ?_;  first | refine aC tabOk rfl rfl rfl (nb rfl) rfl ?_ | refine aD rfl rfl (nb rfl) rfl rfl rfl rfl (c0) ?_ | refine aD rfl rfl (nb rfl) rfl rfl rfl rfl (c1) ?_ | refine bY tabOk rfl rfl rfl (nb rfl) rfl rfl rfl rfl rfl rfl rfl rfl rfl ?_) | (refine aL ?_;  first | refine aG ?_ | refine aN ?_))
  all_goals (refine aP (by first | exact .inl rfl | exact .inr rfl) (aX rfl (aB rfl)) rfl ?_; rfl)
end Go.Proofs.YtlbemgokilhdnaaGreat.Ab
namespace Go.Proofs.YtlbemgokilhdnaaGreat.Ab
set_option linter.unusedVariables false
set_option linter.unusedSimpArgs false
open Go.RowKit
attribute [local irreducible] AWP AOps AExit AThen ABlock ANoGoto FeetOk
theorem fT (kind : Int) (c : Tree) (hc : c.whole = true) : ∀ n : Nat, (aroundP kind n c).whole = true ∧ (aroundP kind n c).size = c.size + 2 * n
  | 0 => ⟨hc, by rw [aroundP]; omega⟩
  | n + 1 => by
    have h := fT kind c hc n
    rw [aroundP]
    unfold conT sstarT conT
    refine ⟨?_, ?_⟩
    · show Tree.wholes [_, _] = true
      rw [Tree.wholes, Tree.wholes, h.1]; rfl
    · simp only [Tree.size, Tree.sizes]; omega
theorem tJ (c : Tree) (h : (tokP c).2 = 0) : (tokP c).1.whole = true ∧ (tokP c).1.size ≤ c.size + 2 := by
  unfold tokP at h ⊢
  by_cases h0 : (shiftP c 1 0).2 = 0
  · rw [if_neg (by simpa using h0)] at h ⊢
    have := dQ c 1 0 h0
    unfold conT
    refine ⟨?_, ?_⟩
    · show Tree.wholes [_, _] = true
      rw [Tree.wholes, Tree.wholes, this.1]; rfl
    · simp only [Tree.size, Tree.sizes]; omega
  · rw [if_pos h0] at h; cases h
set_option maxHeartbeats 4000000 in
set_option maxRecDepth 10000 in
theorem wP (kind : Int) (m : Int) (c : Tree) (hc : c.whole = true) (h0 : 0 ≤ m) (hm : m ≤ 100000000) : ACalls Tryz.prog 72 [.imm (.lit (.int .i64 kind)), .imm (.lit (.int .i64 m)), .imm c.iv] [] (.imm (aroundP kind m.toNat c).iv) [] := by
  obtain ⟨n, rfl⟩ : ∃ n : Nat, m = n := ⟨m.toNat, by omega⟩
  rw [Int.toNat_natCast]
  have c0 := uN 100
  refine aI Tryz.func72 rfl rfl (nb rfl) rfl ?_
  repeat' (first | refine aF ?_ | (refine aH ?_;  first | refine aC tabOk rfl rfl rfl (nb rfl) rfl ?_) | (refine aL ?_;  first | refine aG ?_ | refine aM ?_ | refine aS ?_))
  refine cD (ι := {j : Nat // j ≤ n}) (fun j => S.f ⟨[(8, .imm (.lit (.int .i64 (j.1 : Int)))), (7, .imm (.lit (.int .i64 (n : Int)))), (2, .imm (aroundP kind j.1 c).iv), (0, .imm (.lit (.int .i64 kind)))], []⟩) (fun j => n - j.1) ⟨0, Nat.zero_le _⟩ (bU (by repeat' first | exact trivial | refine ⟨rfl, ?_⟩) (by repeat' first | exact trivial | refine ⟨rfl, ?_⟩)) ?_
  rintro ⟨j, hj⟩
  dsimp only
  obtain ⟨px, hpx⟩ := bV (bL (fT kind c hc j).1)
  by_cases hlt : j < n
  · have hnx : (aroundP kind (j + 1) c).iv = conIV kind 2 [conIV 100 0 [], .ptr px 0] := by
      rw [aroundP, fQ, Tree.ivs, Tree.ivs, hpx]; rfl
    rw [hpx]
    have c1 := rB kind true 2 [conIV 100 0 [], .ptr px 0]
    unfold conIV at c0 c1 hnx
    repeat' (first | refine aF ?_ | (refine aH ?_;  first | refine aC tabOk rfl rfl rfl (nb rfl) rfl ?_ | (refine aJ rfl rfl rfl (nb rfl) rfl rfl rfl (fun hq => ?_) (fun hq => ?_) <;> (first | (simp only [sD, sE, sB, sC, sN, sM, sT, sF] at hq; try (exfalso; omega)) | skip)) | refine aD rfl rfl (nb rfl) rfl rfl rfl rfl (c0) ?_ | refine aD rfl rfl (nb rfl) rfl rfl rfl rfl (c1) ?_ | refine bQ rfl rfl rfl (nb rfl) rfl rfl (by omega) ?_ | refine bY tabOk rfl rfl rfl (nb rfl) rfl rfl rfl rfl rfl rfl rfl rfl rfl ?_) | (refine aL ?_;  first | refine aG ?_ | refine aM ?_ | refine bI ?_ | refine aS ?_ | refine aT ?_ | refine aE (b := true) rfl (fun _ => ?_) nTf) | (refine aK ?_;  first | refine aU ?_) | (refine aR ?_;  first | refine bP ?_))
    all_goals first
      | (exfalso; omega)
      | (refine ⟨⟨j + 1, hlt⟩, (by show n - (j + 1) < n - j; omega), ?_⟩; dsimp only; rw [hnx]; exact (bU (by repeat' first | exact trivial | refine ⟨rfl, ?_⟩) (by repeat' first | exact trivial | refine ⟨rfl, ?_⟩)))
  · have ej : j = n := by omega
    subst ej
    rw [hpx]
    repeat' (first | refine aF ?_ | (refine aH ?_;  first | refine aC tabOk rfl rfl rfl (nb rfl) rfl ?_ | (refine aJ rfl rfl rfl (nb rfl) rfl rfl rfl (fun hq => ?_) (fun hq => ?_) <;> (first | (simp only [sD, sE, sB, sC, sN, sM, sT, sF] at hq; try (exfalso; omega)) | skip))) | (refine aL ?_;  first | refine aG ?_ | refine aM ?_ | refine aN ?_ | refine bR ?_ | refine aE (b := false) rfl nFt (fun _ => ?_)) | (refine aK ?_;  first | refine aU ?_ | refine bJ ?_) | (refine aR ?_;  first | refine bH ?_))
    all_goals first
      | (exfalso; omega)
      | (refine aP (by first | exact .inl rfl | exact .inr rfl) (aX rfl (aB rfl)) rfl ?_; rfl)
set_option maxHeartbeats 4000000 in
set_option maxRecDepth 10000 in
theorem aCR (c : Tree) (hs : c.size ≤ 100000000) : ACalls Tryz.prog 68 [.imm c.iv] [] (.imm (.tup [(tokP c).1.iv, .lit (.int .i64 (tokP c).2)])) [] := by
  have c1 := kO c 1 0 hs
  have c0 := uN 110
  unfold tokP
  have hf := dQ c 1 0
  generalize shiftP c 1 0 = S at *
  obtain ⟨S1, S2⟩ := S
  dsimp only at *
  by_cases h0 : S2 = 0
  · subst h0
    rw [if_neg (by simp)]
    obtain ⟨px, hpx⟩ := bV (bL (hf rfl).1)
    have c2 := rB 120 true 2 [conIV 110 0 [], .ptr px 0]
    have hnx : (conT 120 [conT 110 [], S1]).iv = conIV 120 2 [conIV 110 0 [], .ptr px 0] := by
      rw [fQ, Tree.ivs, Tree.ivs, Tree.ivs, fQ, hpx]; rfl
    rw [hnx]
    rw [hpx] at c1
    unfold conIV at *
    refine aI Tryz.func68 rfl rfl (nb rfl) rfl ?_
    repeat' (first | refine aF ?_ | (refine aH ?_;  first | refine aC tabOk rfl rfl rfl (nb rfl) rfl ?_ | (refine aJ rfl rfl rfl (nb rfl) rfl rfl rfl (fun hq => ?_) (fun hq => ?_) <;> (first | (simp only [sD, sE, sB, sC, sN, sM, sT, sF] at hq; try (exfalso; omega)) | skip)) | refine aD rfl rfl (nb rfl) rfl rfl rfl rfl (c0) ?_ | refine aD rfl rfl (nb rfl) rfl rfl rfl rfl (c1) ?_ | refine aD rfl rfl (nb rfl) rfl rfl rfl rfl (c2) ?_ | refine bY tabOk rfl rfl rfl (nb rfl) rfl rfl rfl rfl rfl rfl rfl rfl rfl ?_) | (refine aL ?_;  first | refine aG ?_ | refine aM ?_ | refine aN ?_ | refine aT ?_ | refine aE (b := false) rfl nFt (fun _ => ?_)) | (refine aK ?_;  first | refine aU ?_))
    all_goals first
      | exact absurd rfl (by assumption)
      | (refine aP (by first | exact .inl rfl | exact .inr rfl) (aW rfl (aB rfl) (aB rfl)) rfl ?_; rfl)
  · rw [if_pos h0]
    refine aI Tryz.func68 rfl rfl (nb rfl) rfl ?_
    repeat' (first | refine aF ?_ | (refine aH ?_;  first | refine aC tabOk rfl rfl rfl (nb rfl) rfl ?_ | (refine aJ rfl rfl rfl (nb rfl) rfl rfl rfl (fun hq => ?_) (fun hq => ?_) <;> (first | (simp only [sD, sE, sB, sC, sN, sM, sT, sF] at hq; try (exfalso; omega)) | skip)) | refine aD rfl rfl (nb rfl) rfl rfl rfl rfl (c1) ?_) | (refine aL ?_;  first | refine aG ?_ | refine aM ?_ | refine aN ?_ | refine aE (b := true) rfl (fun _ => ?_) nTf) | (refine aK ?_;  first | refine aO ?_))
    all_goals first
      | exact absurd (by assumption) h0
      | (refine aP (by first | exact .inl rfl | exact .inr rfl) (aW rfl (aB rfl) (aB rfl)) rfl ?_; rfl)
end Go.Proofs.YtlbemgokilhdnaaGreat.Ab
