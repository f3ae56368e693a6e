/- Words, walks and laws under the claim's statement: what it uses of them. No condition of its own. -/
import Derived.Test.YtlbemgokilhdnaaCL4
namespace Go.Proofs.Ytlbemgokilhdnaa.Ab
set_option linter.unusedVariables false
set_option linter.unusedSimpArgs false
open Go.RowKit
attribute [local irreducible] AWP AOps AExit AThen ABlock ANoGoto FeetOk
set_option maxHeartbeats 16000000 in
set_option maxRecDepth 10000 in
theorem uW (s : Tree) : ∀ (x : Tree) (own left : Int), isSigP s = true → s.whole = true → x.whole = true → x.size + s.size ≤ 1000000 → own = x.size → ((madeP s x).size : Int) ≤ left → left ≤ 65536 →
    ACalls Try.prog 50 [.imm x.iv, .imm s.iv, .imm (.lit (.int .i64 own)), .obj 1000 0] [(1000, .cells [.imm (.lit (.int .i64 left))])] (.imm (.tup [(madeP s x).iv, .lit (.bool true)])) [(1000, .cells [.imm (.lit (.int .i64 (left - (madeP s x).size)))])] := by
  induction s using Tree.sind with
  | h s ih =>
    intro x own left hsg hw hx hsz hown hle hl6
    obtain ⟨k, n, a, b, kids, rfl⟩ := cL hw
    have hl := cA kids hw
    have hl2 : kids.length ≤ 1000000 := by simp only [Tree.size] at hsz; omega
    have hfin := eS (.node k n a b kids) x hsg hx
    obtain ⟨Q, hQ⟩ : ∃ Q, madeP (.node k n a b kids) x = Q := ⟨_, rfl⟩
    rw [hQ] at hle hfin ⊢
    rw [madeP] at hQ
    obtain ⟨px, hpx⟩ := dU (dF hx)
    have hx1 := gJ hx
    by_cases h162 : k = 162
    · subst h162
      rw [if_pos rfl, iJ] at hQ
      have hf : ∀ t ∈ kids, okSField t = true := by
        rcases dH hsg with ⟨h, _⟩ | ⟨_, h, _⟩
        · omega
        · exact h
      have hQs : Q.size = 1 + Tree.sizes (kids.map fun t => madeK t x) := by rw [← hQ, Tree.size]
      have hpart : ∀ j, Tree.sizes ((kids.take j).map fun t => madeK t x) ≤ Tree.sizes (kids.map fun t => madeK t x) := fun j => by
        have := eC ((kids.take j).map fun t => madeK t x) ((kids.drop j).map fun t => madeK t x)
        rw [← List.map_append, List.take_append_drop] at this
        omega
      refine cG [1000] Try.func50 rfl rfl (nb rfl) rfl rfl ?_
      repeat' (first | refine bG ?_ | (refine bJ ?_; first | refine aR tabOk rfl rfl rfl (nb rfl) rfl ?_ | refine aZ rfl rfl (nb rfl) ?_ | (refine bI rfl rfl rfl (nb rfl) rfl rfl rfl (fun hq => ?_) (fun hq => ?_) <;> (first | (simp only [sD, sE, sB, sC, sN, sM, sT, sF] at hq; try (exfalso; omega)) | skip))| refine eZ (d := 37) tabOk rfl rfl rfl (nb rfl) rfl rfl rfl rfl rfl ?_ | refine gZ (d := 38) (t := 38) rfl rfl rfl (nb rfl) rfl rfl rfl rfl rfl rfl rfl ?_ | refine aD rfl rfl rfl (nb rfl) rfl rfl (by omega) ?_ | refine bC rfl rfl rfl (nb rfl) rfl rfl rfl (by omega) (by omega) ?_ | refine bD rfl rfl rfl (nb rfl) rfl rfl rfl (by omega) (by omega) ?_ | refine bB tabOk rfl rfl rfl (nb rfl) rfl rfl rfl rfl rfl rfl rfl rfl rfl ?_ | refine aT tabOk rfl rfl (nb rfl) rfl ?_ | refine aN tabOk rfl rfl rfl (nb rfl) rfl rfl rfl rfl rfl rfl ?_ | refine aO tabOk rfl rfl rfl (nb rfl) rfl rfl rfl rfl ?_ | refine aK tabOk rfl rfl rfl rfl rfl rfl rfl rfl rfl rfl rfl ?_ | refine aP tabOk rfl rfl rfl (nb rfl) rfl rfl rfl rfl (by first | assumption | omega) ?_ | refine aH tabOk rfl rfl rfl (nb rfl) rfl rfl rfl rfl (by first | rfl | omega) (by first | omega | simp) ?_ | refine aB tabOk rfl rfl rfl (nb rfl) rfl rfl rfl (by assumption) ?_ | refine aB tabOk rfl rfl rfl (nb rfl) rfl rfl rfl (bM _ _ (by first | assumption | omega)) ?_ | refine aD rfl rfl rfl (nb rfl) rfl rfl (by omega) ?_ | ((fail_if_success (refine aE (b := true) rfl rfl rfl ?_)); (fail_if_success (refine aE (b := false) rfl rfl rfl ?_)); refine aQ rfl rfl rfl (fun hq => ?_) (fun hq => ?_) <;> first | subst hq | (first | (simp only [sD, sE, sB, sC, sN, sM, sT, sF] at hq; try (exfalso; omega)) | skip)) | fail) | (refine bQ ?_; first | refine bH ?_ | refine bN ?_ | refine aL ?_ | refine aX ?_ | refine bO ?_ | refine bF ?_ | refine bE ?_ | refine aA (b := true) rfl (fun _ => ?_) nTf | refine aA (b := false) rfl nFt (fun _ => ?_) | refine aY ?_ | refine aW ?_ | refine aU mixed (by kernel_rfl) ?_ | refine aC mixed (by kernel_rfl) ?_ | (refine aA rfl (fun hq => ?_) (fun hq => ?_) <;> first | subst hq | (first | (simp only [sD, sE, sB, sC, sN, sM, sT, sF] at hq; try (exfalso; omega)) | skip)) | fail) | (refine bK ?_; first | refine bT ?_ | refine aI ?_ | refine aM ?_ | fail) | (refine bA ?_; first | refine bP ?_ | refine aF ?_ | refine aG (by decide) ?_ | refine aJ ?_ | fail) | refine bL (aV (by kernel_rfl)) ?_ | fail)
      all_goals first
        | exact absurd rfl (by assumption)
        | (exfalso; omega)
        | skip
      refine dQ (dW (h0 := 38) (k0 := 4) 500 25 1 rfl rfl (by simp) rfl rfl) ?_
      refine cJ (ι := {j : Nat // j ≤ kids.length}) (fun j => S.f ⟨[(44, .imm (.lit (.int .i64 (j.1 : Int)))), (43, .imm (.lit (.int .i64 (kids.length : Int)))), (42, .imm (.sl false kids.length (Tree.ivs kids))), (10, .obj 38 0), (0, .imm x.iv), (2, .imm (.lit (.int .i64 own))), (3, .obj 1000 0)], [(500, .arr 25 1 j.1 (Tree.ivs ((kids.take j.1).map fun t => madeK t x))), (38, .cells [.imm (.lit (.int .i64 136)), .imm (.lit (.int .i64 0)), .imm (.lit (.string ⟨#[]⟩)), .imm (.lit (.string ⟨#[]⟩)), .ref 500 j.1]), (1000, .cells [.imm (.lit (.int .i64 (left - 1 - (Tree.sizes ((kids.take j.1).map fun t => madeK t x) : Nat))))])]⟩) (fun j => kids.length - j.1) ⟨0, Nat.zero_le _⟩ (by rw [show left - 1 - ((Tree.sizes ((kids.take 0).map fun t => madeK t x) : Nat) : Int) = left - 1 by rw [List.take_zero, List.map_nil, Tree.sizes]; omega]; exact (cB (by repeat' first | exact trivial | refine ⟨rfl, ?_⟩) (by repeat' first | exact trivial | refine ⟨rfl, ?_⟩))) ?_
      rintro ⟨j, hj⟩
      dsimp only
      by_cases hlt : j < kids.length
      · have hm := List.getElem_mem hlt
        have hz := cH (k := 162) (n := n) (a := a) (b := b) hm
        have hwk := bY hw hm
        have hget := bM kids j hlt
        have hp0 := hpart j
        have hp1 := hpart (j + 1)
        have htk : (kids.take (j + 1)).map (fun t => madeK t x) = (kids.take j).map (fun t => madeK t x) ++ [madeK kids[j] x] := by
          rw [List.take_succ_eq_append_getElem hlt, List.map_append]; rfl
        have hnx : Tree.ivs ((kids.take (j + 1)).map fun t => madeK t x) = Tree.ivs ((kids.take j).map fun t => madeK t x) ++ [(madeK kids[j] x).iv] := by
          rw [htk, cT, cT, List.map_append]; rfl
        have hss : Tree.sizes ((kids.take (j + 1)).map fun t => madeK t x) = Tree.sizes ((kids.take j).map fun t => madeK t x) + (madeK kids[j] x).size := by
          rw [htk, eC]; simp only [Tree.sizes]; omega
        obtain ⟨n1, a1, b1, c, e, hc⟩ := dA (hf _ hm)
        rw [e] at hz hwk hget hnx hss
        have hz2 := cH (k := 163) (n := n1) (a := a1) (b := b1) (kids := [c]) (t := c) (by simp)
        have hpw : (Tree.node 138 0 a1 emptyB [x]).whole = true := by show Tree.wholes [x] = true; rw [Tree.wholes, hx]; rfl
        have hps : (Tree.node 138 0 a1 emptyB [x]).size = x.size + 1 := by simp only [Tree.size, Tree.sizes]; omega
        have hks : (madeK (.node 163 n1 a1 b1 [c]) x).size = 1 + (madeP c (.node 138 0 a1 emptyB [x])).size := by
          rw [madeK, made1]; simp only [Tree.size, Tree.sizes]; omega
        rw [hks] at hss
        have hfn := (eS c (.node 138 0 a1 emptyB [x]) hc hpw).1
        have hfz := gJ hfn
        generalize hPS : Tree.sizes ((kids.take j).map fun t => madeK t x) = PS at *
        have hcall := ih c (by omega) (.node 138 0 a1 emptyB [x]) (own + 1) (left - 1 - PS - 1) hc (bY hwk (List.mem_singleton.2 rfl)) hpw (by rw [hps]; omega) (by rw [hps]; omega) (by omega) (by omega)
        obtain ⟨pm, hpm⟩ := dU (dF hfn)
        have hpiv : (Tree.node 138 0 a1 emptyB [x]).iv = .ptr [.lit (.int .i64 138), .lit (.int .i64 0), .lit (.string a1), .lit (.string ⟨#[]⟩), .sl false 1 [.ptr px 0]] 0 := by rw [Tree.iv, Tree.ivs, Tree.ivs, hpx]; rfl
        have hkiv : (madeK (.node 163 n1 a1 b1 [c]) x).iv = .ptr [.lit (.int .i64 137), .lit (.int .i64 0), .lit (.string a1), .lit (.string ⟨#[]⟩), .sl false 1 [.ptr pm 0]] 0 := by
          rw [madeK, made1, Tree.iv, Tree.ivs, Tree.ivs, hpm]; rfl
        have hil := dN ((kids.take j).map fun t => madeK t x)
        rw [List.length_map, List.length_take, Nat.min_eq_left hj] at hil
        rw [hkiv] at hnx
        rw [hpiv, hpm] at hcall
        rw [hpx]
        have hnew : left - 1 - ((Tree.sizes ((kids.take (j + 1)).map fun t => madeK t x) : Nat) : Int) = left - 1 - (PS : Int) - 1 - ((madeP c (.node 138 0 a1 emptyB [x])).size : Int) := by rw [hss]; omega
        clear ih e hpiv hkiv hQ htk hks
        generalize Tree.ivs ((kids.take j).map fun t => madeK t x) = ZI at *
        generalize ((madeP c (.node 138 0 a1 emptyB [x])).size : Int) = MS at *
        repeat' (first | refine bG ?_ | (refine bJ ?_; first | refine aR tabOk rfl rfl rfl (nb rfl) rfl ?_ | refine aZ rfl rfl (nb rfl) ?_ | (refine bI rfl rfl rfl (nb rfl) rfl rfl rfl (fun hq => ?_) (fun hq => ?_) <;> (first | (simp only [sD, sE, sB, sC, sN, sM, sT, sF] at hq; try (exfalso; omega)) | skip))| refine aB tabOk rfl rfl rfl (nb rfl) rfl rfl rfl hget ?_ | refine bD (z := left - 1 - (PS : Int) - 1) rfl rfl rfl (nb rfl) rfl rfl rfl (by omega) (by omega) ?_ | refine bC (z := own + 1) rfl rfl rfl (nb rfl) rfl rfl rfl (by omega) (by omega) ?_ | refine cC rfl rfl (nb rfl) rfl rfl rfl rfl hcall (by repeat' first | exact trivial | refine ⟨rfl, ?_⟩) rfl (by show ([1000] : List Nat).Nodup; decide) ?_ | refine cR tabOk rfl rfl rfl (nb rfl) rfl rfl rfl rfl rfl rfl rfl (by first | omega | decide) rfl (by first | omega | (dsimp only; omega)) (by first | omega | (dsimp only; omega)) ?_ | refine aD rfl rfl rfl (nb rfl) rfl rfl (by omega) ?_ | refine bC rfl rfl rfl (nb rfl) rfl rfl rfl (by omega) (by omega) ?_ | refine bD rfl rfl rfl (nb rfl) rfl rfl rfl (by omega) (by omega) ?_ | refine bB tabOk rfl rfl rfl (nb rfl) rfl rfl rfl rfl rfl rfl rfl rfl rfl ?_ | refine aT tabOk rfl rfl (nb rfl) rfl ?_ | refine aN tabOk rfl rfl rfl (nb rfl) rfl rfl rfl rfl rfl rfl ?_ | refine aO tabOk rfl rfl rfl (nb rfl) rfl rfl rfl rfl ?_ | refine aK tabOk rfl rfl rfl rfl rfl rfl rfl rfl rfl rfl rfl ?_ | refine aP tabOk rfl rfl rfl (nb rfl) rfl rfl rfl rfl (by first | assumption | omega) ?_ | refine aH tabOk rfl rfl rfl (nb rfl) rfl rfl rfl rfl (by first | rfl | omega) (by first | omega | simp) ?_ | refine aB tabOk rfl rfl rfl (nb rfl) rfl rfl rfl (by assumption) ?_ | refine aB tabOk rfl rfl rfl (nb rfl) rfl rfl rfl (bM _ _ (by first | assumption | omega)) ?_ | refine aD rfl rfl rfl (nb rfl) rfl rfl (by omega) ?_ | ((fail_if_success (refine aE (b := true) rfl rfl rfl ?_)); (fail_if_success (refine aE (b := false) rfl rfl rfl ?_)); refine aQ rfl rfl rfl (fun hq => ?_) (fun hq => ?_) <;> first | subst hq | (first | (simp only [sD, sE, sB, sC, sN, sM, sT, sF] at hq; try (exfalso; omega)) | skip)) | fail) | (refine bQ ?_; first | refine bH ?_ | refine bN ?_ | refine aL ?_ | refine aX ?_ | refine bO ?_ | refine bF ?_ | refine bE ?_ | refine aA (b := true) rfl (fun _ => ?_) nTf | refine aA (b := false) rfl nFt (fun _ => ?_) | refine aY ?_ | refine aW ?_ | refine aU mixed (by kernel_rfl) ?_ | refine aC mixed (by kernel_rfl) ?_ | (refine aA rfl (fun hq => ?_) (fun hq => ?_) <;> first | subst hq | (first | (simp only [sD, sE, sB, sC, sN, sM, sT, sF] at hq; try (exfalso; omega)) | skip)) | fail) | (refine bK ?_; first | refine bT ?_ | refine aI ?_ | refine aM ?_ | fail) | (refine bA ?_; first | refine bP ?_ | refine aF ?_ | refine aG (by decide) ?_ | refine aJ ?_ | fail) | refine bL (aV (by kernel_rfl)) ?_ | fail)
        all_goals first
          | exact absurd rfl (by assumption)
          | (exfalso; omega)
          | (refine ⟨⟨j + 1, hlt⟩, (by show kids.length - (j + 1) < kids.length - j; omega), ?_⟩; dsimp only; rw [hnx, hnew]; exact (cB (by repeat' first | exact trivial | refine ⟨rfl, ?_⟩) (by repeat' first | exact trivial | refine ⟨rfl, ?_⟩)))
      · have ej : j = kids.length := by omega
        subst ej
        rw [List.take_length]
        have hll : (kids.map fun t => madeK t x).length = kids.length := List.length_map ..
        have hiv : Q.iv = .ptr [.lit (.int .i64 136), .lit (.int .i64 0), .lit (.string ⟨#[]⟩), .lit (.string ⟨#[]⟩), .sl false kids.length (Tree.ivs (kids.map fun t => madeK t x))] 0 := by rw [← hQ, Tree.iv, hll]; rfl
        rw [hiv]
        have hend : left - (Q.size : Int) = left - 1 - ((Tree.sizes (kids.map fun t => madeK t x) : Nat) : Int) := by rw [hQs]; omega
        have hge : (0 : Int) ≤ left - 1 - ((Tree.sizes (kids.map fun t => madeK t x) : Nat) : Int) := by omega
        rw [hend]
        clear hend hiv hQ hQs hpart ih
        generalize left - 1 - ((Tree.sizes (kids.map fun t => madeK t x) : Nat) : Int) = LE at *
        generalize Tree.ivs (kids.map fun t => madeK t x) = ZI at *
        repeat' (first | refine bG ?_ | (refine bJ ?_; first | refine aR tabOk rfl rfl rfl (nb rfl) rfl ?_ | refine aZ rfl rfl (nb rfl) ?_ | (refine bI rfl rfl rfl (nb rfl) rfl rfl rfl (fun hq => ?_) (fun hq => ?_) <;> (first | (simp only [sD, sE, sB, sC, sN, sM, sT, sF] at hq; try (exfalso; omega)) | skip)) | refine aD rfl rfl rfl (nb rfl) rfl rfl (by omega) ?_ | refine bC rfl rfl rfl (nb rfl) rfl rfl rfl (by omega) (by omega) ?_ | refine bD rfl rfl rfl (nb rfl) rfl rfl rfl (by omega) (by omega) ?_ | refine bB tabOk rfl rfl rfl (nb rfl) rfl rfl rfl rfl rfl rfl rfl rfl rfl ?_ | refine aT tabOk rfl rfl (nb rfl) rfl ?_ | refine aN tabOk rfl rfl rfl (nb rfl) rfl rfl rfl rfl rfl rfl ?_ | refine aO tabOk rfl rfl rfl (nb rfl) rfl rfl rfl rfl ?_ | refine aK tabOk rfl rfl rfl rfl rfl rfl rfl rfl rfl rfl rfl ?_ | refine aP tabOk rfl rfl rfl (nb rfl) rfl rfl rfl rfl (by first | assumption | omega) ?_ | refine aH tabOk rfl rfl rfl (nb rfl) rfl rfl rfl rfl (by first | rfl | omega) (by first | omega | simp) ?_ | refine aB tabOk rfl rfl rfl (nb rfl) rfl rfl rfl (by assumption) ?_ | refine aB tabOk rfl rfl rfl (nb rfl) rfl rfl rfl (bM _ _ (by first | assumption | omega)) ?_ | refine aD rfl rfl rfl (nb rfl) rfl rfl (by omega) ?_ | ((fail_if_success (refine aE (b := true) rfl rfl rfl ?_)); (fail_if_success (refine aE (b := false) rfl rfl rfl ?_)); refine aQ rfl rfl rfl (fun hq => ?_) (fun hq => ?_) <;> first | subst hq | (first | (simp only [sD, sE, sB, sC, sN, sM, sT, sF] at hq; try (exfalso; omega)) | skip)) | fail) | (refine bQ ?_; first | refine bH ?_ | refine bN ?_ | refine aL ?_ | refine aX ?_ | refine bO ?_ | refine bF ?_ | refine bE ?_ | refine aA (b := true) rfl (fun _ => ?_) nTf | refine aA (b := false) rfl nFt (fun _ => ?_) | refine aY ?_ | refine aW ?_ | refine aU mixed (by kernel_rfl) ?_ | refine aC mixed (by kernel_rfl) ?_ | (refine aA rfl (fun hq => ?_) (fun hq => ?_) <;> first | subst hq | (first | (simp only [sD, sE, sB, sC, sN, sM, sT, sF] at hq; try (exfalso; omega)) | skip)) | fail) | (refine bK ?_; first | refine bT ?_ | refine aI ?_ | refine aM ?_ | fail) | (refine bA ?_; first | refine bP ?_ | refine aF ?_ | refine aG (by decide) ?_ | refine aJ ?_ | fail) | refine bL (aV (by kernel_rfl)) ?_ | fail)
        all_goals first
          | (exfalso; omega)
          | (refine fO ((Imp.of_le (σ' := S.f ⟨[(8, .obj 38 0), (9, .imm (.lit (.bool true)))], [(500, .arr 25 1 kids.length ZI), (38, .cells [.imm (.lit (.int .i64 136)), .imm (.lit (.int .i64 0)), .imm (.lit (.string ⟨#[]⟩)), .imm (.lit (.string ⟨#[]⟩)), .ref 500 kids.length]), (1000, .cells [.imm (.lit (.int .i64 LE))])]⟩) (cB (by repeat' first | exact trivial | refine ⟨rfl, ?_⟩) (by repeat' first | exact trivial | refine ⟨rfl, ?_⟩))).trans ((cZ (g := 500) rfl (by repeat' first | exact trivial | exact fun _ => rfl | refine ⟨?_, ?_⟩) (by repeat' first | exact trivial | exact fun _ => rfl | refine ⟨?_, ?_⟩)).trans (dJ (g := 38) rfl rfl))) ?_
             refine cF (by first | exact .inl rfl | exact .inr rfl) (bX rfl (aS rfl) (aS rfl)) rfl (by repeat' first | exact trivial | refine ⟨rfl, ?_⟩) rfl rfl)
    · rw [if_neg h162] at hQ
      subst hQ
      rw [hpx]
      clear ih
      generalize hXS : (x.size : Int) = XS at *
      subst hown
      refine cG [1000] Try.func50 rfl rfl (nb rfl) rfl rfl ?_
      repeat' (first | refine bG ?_ | (refine bJ ?_; first | refine aR tabOk rfl rfl rfl (nb rfl) rfl ?_ | refine aZ rfl rfl (nb rfl) ?_ | (refine bI rfl rfl rfl (nb rfl) rfl rfl rfl (fun hq => ?_) (fun hq => ?_) <;> (first | (simp only [sD, sE, sB, sC, sN, sM, sT, sF] at hq; try (exfalso; omega)) | skip))| refine bD (z := left - XS) rfl rfl rfl (nb rfl) rfl rfl (by omega) (by omega) (by omega) ?_ | refine bD (z := left - own) rfl rfl rfl (nb rfl) rfl rfl (by omega) (by omega) (by omega) ?_ | refine aD rfl rfl rfl (nb rfl) rfl rfl (by omega) ?_ | refine bC rfl rfl rfl (nb rfl) rfl rfl rfl (by omega) (by omega) ?_ | refine bD rfl rfl rfl (nb rfl) rfl rfl rfl (by omega) (by omega) ?_ | refine bB tabOk rfl rfl rfl (nb rfl) rfl rfl rfl rfl rfl rfl rfl rfl rfl ?_ | refine aT tabOk rfl rfl (nb rfl) rfl ?_ | refine aN tabOk rfl rfl rfl (nb rfl) rfl rfl rfl rfl rfl rfl ?_ | refine aO tabOk rfl rfl rfl (nb rfl) rfl rfl rfl rfl ?_ | refine aK tabOk rfl rfl rfl rfl rfl rfl rfl rfl rfl rfl rfl ?_ | refine aP tabOk rfl rfl rfl (nb rfl) rfl rfl rfl rfl (by first | assumption | omega) ?_ | refine aH tabOk rfl rfl rfl (nb rfl) rfl rfl rfl rfl (by first | rfl | omega) (by first | omega | simp) ?_ | refine aB tabOk rfl rfl rfl (nb rfl) rfl rfl rfl (by assumption) ?_ | refine aB tabOk rfl rfl rfl (nb rfl) rfl rfl rfl (bM _ _ (by first | assumption | omega)) ?_ | refine aD rfl rfl rfl (nb rfl) rfl rfl (by omega) ?_ | ((fail_if_success (refine aE (b := true) rfl rfl rfl ?_)); (fail_if_success (refine aE (b := false) rfl rfl rfl ?_)); refine aQ rfl rfl rfl (fun hq => ?_) (fun hq => ?_) <;> first | subst hq | (first | (simp only [sD, sE, sB, sC, sN, sM, sT, sF] at hq; try (exfalso; omega)) | skip)) | fail) | (refine bQ ?_; first | refine bH ?_ | refine bN ?_ | refine aL ?_ | refine aX ?_ | refine bO ?_ | refine bF ?_ | refine bE ?_ | refine aA (b := true) rfl (fun _ => ?_) nTf | refine aA (b := false) rfl nFt (fun _ => ?_) | refine aY ?_ | refine aW ?_ | refine aU mixed (by kernel_rfl) ?_ | refine aC mixed (by kernel_rfl) ?_ | (refine aA rfl (fun hq => ?_) (fun hq => ?_) <;> first | subst hq | (first | (simp only [sD, sE, sB, sC, sN, sM, sT, sF] at hq; try (exfalso; omega)) | skip)) | fail) | (refine bK ?_; first | refine bT ?_ | refine aI ?_ | refine aM ?_ | fail) | (refine bA ?_; first | refine bP ?_ | refine aF ?_ | refine aG (by decide) ?_ | refine aJ ?_ | fail) | refine bL (aV (by kernel_rfl)) ?_ | fail)
      all_goals first
        | exact absurd (by assumption) h162
        | (exfalso; omega)
        | (refine cK (cF (by first | exact .inl rfl | exact .inr rfl) (bX rfl (aS rfl) (aS rfl)) rfl (by repeat' first | exact trivial | refine ⟨rfl, ?_⟩) rfl ?_); rfl)
theorem gB {t : Tree} (h : tcheckP t = 0) : t.whole = true := (cD (form := isTermP) h).1
def coerP (x s : Tree) : Tree × Int := if tcheckP x ≠ 0 then (.nil, tcheckP x) else if checkP sformP s ≠ 0 then (.nil, checkP sformP s) else if plainP s = true then (madeP s x, 0) else (.nil, 16)
theorem jO (a b : Nat) (ha : a ≤ 80) (hb : b ≤ 60) : b * (a + b) ≤ 8400 := Nat.le_trans (Nat.mul_le_mul hb (by omega)) (by omega : 60 * 140 ≤ 8400)
set_option maxHeartbeats 8000000 in
set_option maxRecDepth 10000 in
theorem uX (x s : Tree) (hx : x.size ≤ 80) (hs : s.size ≤ 60) : ACalls Try.prog 23 [.imm x.iv, .imm s.iv] [] (.imm (.tup [(coerP x s).1.iv, .lit (.int .i64 (coerP x s).2)])) [] := by
  have c1 := qK x (by omega)
  have c2 := dO s (by omega)
  obtain ⟨Q, hQ⟩ : ∃ Q, coerP x s = Q := ⟨_, rfl⟩
  rw [hQ]
  unfold coerP at hQ
  by_cases h1 : tcheckP x = 0
  · rw [if_neg (by simpa using h1)] at hQ
    have hwx := gB h1
    rw [h1] at c1
    by_cases h2 : checkP sformP s = 0
    · rw [if_neg (by simpa using h2)] at hQ
      rw [h2] at c2
      have hws := (cD h2).1
      have c3 := kQ s hws
      by_cases hp : plainP s = true
      · rw [if_pos hp] at hQ
        subst hQ
        have hsg := eR h2 hp
        have hfn := eS s x hsg hwx
        have hb := jO x.size s.size hx hs
        have c4 := uW s x x.size 65536 hsg hws hwx (by omega) rfl (by omega) (by omega)
        have c5 := qH x (by omega) (.inr hwx)
        rw [hp] at c3
        obtain ⟨pm, hpm⟩ := dU (dF hfn.1)
        dsimp only
        rw [hpm] at c4 ⊢
        refine bR Try.func23 rfl rfl (nb rfl) rfl ?_
        repeat' (first | refine bG ?_ | (refine bJ ?_; first | refine aR tabOk rfl rfl rfl (nb rfl) rfl ?_ | refine aZ rfl rfl (nb rfl) ?_ | (refine bI rfl rfl rfl (nb rfl) rfl rfl rfl (fun hq => ?_) (fun hq => ?_) <;> (first | (simp only [sD, sE, sB, sC, sN, sM, sT, sF] at hq; try (exfalso; omega)) | skip))| refine bS rfl rfl (nb rfl) rfl rfl rfl rfl (c1) ?_ | refine bS rfl rfl (nb rfl) rfl rfl rfl rfl (c2) ?_ | refine bS rfl rfl (nb rfl) rfl rfl rfl rfl (c3) ?_ | refine bS rfl rfl (nb rfl) rfl rfl rfl rfl (c5) ?_ | refine cN 1000 tabOk rfl rfl rfl (nb rfl) rfl rfl rfl rfl rfl rfl ?_ | refine cC rfl rfl (nb rfl) rfl rfl rfl rfl c4 (by repeat' first | exact trivial | refine ⟨rfl, ?_⟩) rfl (by show ([1000] : List Nat).Nodup; decide) ?_ | refine aD rfl rfl rfl (nb rfl) rfl rfl (by omega) ?_ | refine bC rfl rfl rfl (nb rfl) rfl rfl rfl (by omega) (by omega) ?_ | refine bD rfl rfl rfl (nb rfl) rfl rfl rfl (by omega) (by omega) ?_ | refine bB tabOk rfl rfl rfl (nb rfl) rfl rfl rfl rfl rfl rfl rfl rfl rfl ?_ | refine aT tabOk rfl rfl (nb rfl) rfl ?_ | refine aN tabOk rfl rfl rfl (nb rfl) rfl rfl rfl rfl rfl rfl ?_ | refine aO tabOk rfl rfl rfl (nb rfl) rfl rfl rfl rfl ?_ | refine aK tabOk rfl rfl rfl rfl rfl rfl rfl rfl rfl rfl rfl ?_ | refine aP tabOk rfl rfl rfl (nb rfl) rfl rfl rfl rfl (by first | assumption | omega) ?_ | refine aH tabOk rfl rfl rfl (nb rfl) rfl rfl rfl rfl (by first | rfl | omega) (by first | omega | simp) ?_ | refine aB tabOk rfl rfl rfl (nb rfl) rfl rfl rfl (by assumption) ?_ | refine aB tabOk rfl rfl rfl (nb rfl) rfl rfl rfl (bM _ _ (by first | assumption | omega)) ?_ | refine aD rfl rfl rfl (nb rfl) rfl rfl (by omega) ?_ | ((fail_if_success (refine aE (b := true) rfl rfl rfl ?_)); (fail_if_success (refine aE (b := false) rfl rfl rfl ?_)); refine aQ rfl rfl rfl (fun hq => ?_) (fun hq => ?_) <;> first | subst hq | (first | (simp only [sD, sE, sB, sC, sN, sM, sT, sF] at hq; try (exfalso; omega)) | skip)) | fail) | (refine bQ ?_; first | refine bH ?_ | refine bN ?_ | refine aL ?_ | refine aX ?_ | refine bO ?_ | refine bF ?_ | refine bE ?_ | refine aA (b := true) rfl (fun _ => ?_) nTf | refine aA (b := false) rfl nFt (fun _ => ?_) | refine aY ?_ | refine aW ?_ | refine aU mixed (by kernel_rfl) ?_ | refine aC mixed (by kernel_rfl) ?_ | (refine aA rfl (fun hq => ?_) (fun hq => ?_) <;> first | subst hq | (first | (simp only [sD, sE, sB, sC, sN, sM, sT, sF] at hq; try (exfalso; omega)) | skip)) | fail) | (refine bK ?_; first | refine bT ?_ | refine aI ?_ | refine aM ?_ | fail) | (refine bA ?_; first | refine bP ?_ | refine aF ?_ | refine aG (by decide) ?_ | refine aJ ?_ | fail) | refine bL (aV (by kernel_rfl)) ?_ | fail)
        all_goals first
          | exact absurd rfl (by assumption)
          | (refine bV (by first | exact .inl rfl | exact .inr rfl) (bX rfl (aS rfl) (aS rfl)) rfl ?_; rfl)
      · rw [if_neg hp] at hQ
        subst hQ
        have hp : plainP s = false := by simpa using hp
        rw [hp] at c3
        refine bR Try.func23 rfl rfl (nb rfl) rfl ?_
        repeat' (first | refine bG ?_ | (refine bJ ?_; first | refine aR tabOk rfl rfl rfl (nb rfl) rfl ?_ | refine aZ rfl rfl (nb rfl) ?_ | (refine bI rfl rfl rfl (nb rfl) rfl rfl rfl (fun hq => ?_) (fun hq => ?_) <;> (first | (simp only [sD, sE, sB, sC, sN, sM, sT, sF] at hq; try (exfalso; omega)) | skip))| refine bS rfl rfl (nb rfl) rfl rfl rfl rfl (c1) ?_ | refine bS rfl rfl (nb rfl) rfl rfl rfl rfl (c2) ?_ | refine bS rfl rfl (nb rfl) rfl rfl rfl rfl (c3) ?_ | refine aD rfl rfl rfl (nb rfl) rfl rfl (by omega) ?_ | refine bC rfl rfl rfl (nb rfl) rfl rfl rfl (by omega) (by omega) ?_ | refine bD rfl rfl rfl (nb rfl) rfl rfl rfl (by omega) (by omega) ?_ | refine bB tabOk rfl rfl rfl (nb rfl) rfl rfl rfl rfl rfl rfl rfl rfl rfl ?_ | refine aT tabOk rfl rfl (nb rfl) rfl ?_ | refine aN tabOk rfl rfl rfl (nb rfl) rfl rfl rfl rfl rfl rfl ?_ | refine aO tabOk rfl rfl rfl (nb rfl) rfl rfl rfl rfl ?_ | refine aK tabOk rfl rfl rfl rfl rfl rfl rfl rfl rfl rfl rfl ?_ | refine aP tabOk rfl rfl rfl (nb rfl) rfl rfl rfl rfl (by first | assumption | omega) ?_ | refine aH tabOk rfl rfl rfl (nb rfl) rfl rfl rfl rfl (by first | rfl | omega) (by first | omega | simp) ?_ | refine aB tabOk rfl rfl rfl (nb rfl) rfl rfl rfl (by assumption) ?_ | refine aB tabOk rfl rfl rfl (nb rfl) rfl rfl rfl (bM _ _ (by first | assumption | omega)) ?_ | refine aD rfl rfl rfl (nb rfl) rfl rfl (by omega) ?_ | ((fail_if_success (refine aE (b := true) rfl rfl rfl ?_)); (fail_if_success (refine aE (b := false) rfl rfl rfl ?_)); refine aQ rfl rfl rfl (fun hq => ?_) (fun hq => ?_) <;> first | subst hq | (first | (simp only [sD, sE, sB, sC, sN, sM, sT, sF] at hq; try (exfalso; omega)) | skip)) | fail) | (refine bQ ?_; first | refine bH ?_ | refine bN ?_ | refine aL ?_ | refine aX ?_ | refine bO ?_ | refine bF ?_ | refine bE ?_ | refine aA (b := true) rfl (fun _ => ?_) nTf | refine aA (b := false) rfl nFt (fun _ => ?_) | refine aY ?_ | refine aW ?_ | refine aU mixed (by kernel_rfl) ?_ | refine aC mixed (by kernel_rfl) ?_ | (refine aA rfl (fun hq => ?_) (fun hq => ?_) <;> first | subst hq | (first | (simp only [sD, sE, sB, sC, sN, sM, sT, sF] at hq; try (exfalso; omega)) | skip)) | fail) | (refine bK ?_; first | refine bT ?_ | refine aI ?_ | refine aM ?_ | fail) | (refine bA ?_; first | refine bP ?_ | refine aF ?_ | refine aG (by decide) ?_ | refine aJ ?_ | fail) | refine bL (aV (by kernel_rfl)) ?_ | fail)
        all_goals first
          | exact absurd rfl (by assumption)
          | (refine bV (by first | exact .inl rfl | exact .inr rfl) (bX rfl (aS rfl) (aS rfl)) rfl ?_; rfl)
    · rw [if_pos h2] at hQ
      subst hQ
      generalize checkP sformP s = C at *
      refine bR Try.func23 rfl rfl (nb rfl) rfl ?_
      repeat' (first | refine bG ?_ | (refine bJ ?_; first | refine aR tabOk rfl rfl rfl (nb rfl) rfl ?_ | refine aZ rfl rfl (nb rfl) ?_ | (refine bI rfl rfl rfl (nb rfl) rfl rfl rfl (fun hq => ?_) (fun hq => ?_) <;> (first | (simp only [sD, sE, sB, sC, sN, sM, sT, sF] at hq; try (exfalso; omega)) | skip))| refine bS rfl rfl (nb rfl) rfl rfl rfl rfl (c1) ?_ | refine bS rfl rfl (nb rfl) rfl rfl rfl rfl (c2) ?_ | refine aD rfl rfl rfl (nb rfl) rfl rfl (by omega) ?_ | refine bC rfl rfl rfl (nb rfl) rfl rfl rfl (by omega) (by omega) ?_ | refine bD rfl rfl rfl (nb rfl) rfl rfl rfl (by omega) (by omega) ?_ | refine bB tabOk rfl rfl rfl (nb rfl) rfl rfl rfl rfl rfl rfl rfl rfl rfl ?_ | refine aT tabOk rfl rfl (nb rfl) rfl ?_ | refine aN tabOk rfl rfl rfl (nb rfl) rfl rfl rfl rfl rfl rfl ?_ | refine aO tabOk rfl rfl rfl (nb rfl) rfl rfl rfl rfl ?_ | refine aK tabOk rfl rfl rfl rfl rfl rfl rfl rfl rfl rfl rfl ?_ | refine aP tabOk rfl rfl rfl (nb rfl) rfl rfl rfl rfl (by first | assumption | omega) ?_ | refine aH tabOk rfl rfl rfl (nb rfl) rfl rfl rfl rfl (by first | rfl | omega) (by first | omega | simp) ?_ | refine aB tabOk rfl rfl rfl (nb rfl) rfl rfl rfl (by assumption) ?_ | refine aB tabOk rfl rfl rfl (nb rfl) rfl rfl rfl (bM _ _ (by first | assumption | omega)) ?_ | refine aD rfl rfl rfl (nb rfl) rfl rfl (by omega) ?_ | ((fail_if_success (refine aE (b := true) rfl rfl rfl ?_)); (fail_if_success (refine aE (b := false) rfl rfl rfl ?_)); refine aQ rfl rfl rfl (fun hq => ?_) (fun hq => ?_) <;> first | subst hq | (first | (simp only [sD, sE, sB, sC, sN, sM, sT, sF] at hq; try (exfalso; omega)) | skip)) | fail) | (refine bQ ?_; first | refine bH ?_ | refine bN ?_ | refine aL ?_ | refine aX ?_ | refine bO ?_ | refine bF ?_ | refine bE ?_ | refine aA (b := true) rfl (fun _ => ?_) nTf | refine aA (b := false) rfl nFt (fun _ => ?_) | refine aY ?_ | refine aW ?_ | refine aU mixed (by kernel_rfl) ?_ | refine aC mixed (by kernel_rfl) ?_ | (refine aA rfl (fun hq => ?_) (fun hq => ?_) <;> first | subst hq | (first | (simp only [sD, sE, sB, sC, sN, sM, sT, sF] at hq; try (exfalso; omega)) | skip)) | fail) | (refine bK ?_; first | refine bT ?_ | refine aI ?_ | refine aM ?_ | fail) | (refine bA ?_; first | refine bP ?_ | refine aF ?_ | refine aG (by decide) ?_ | refine aJ ?_ | fail) | refine bL (aV (by kernel_rfl)) ?_ | fail)
      all_goals first
        | exact absurd rfl (by assumption)
        | exact absurd (by assumption) h2
        | (refine bV (by first | exact .inl rfl | exact .inr rfl) (bX rfl (aS rfl) (aS rfl)) rfl ?_; rfl)
  · rw [if_pos h1] at hQ
    subst hQ
    generalize tcheckP x = C at *
    refine bR Try.func23 rfl rfl (nb rfl) rfl ?_
    repeat' (first | refine bG ?_ | (refine bJ ?_; first | refine aR tabOk rfl rfl rfl (nb rfl) rfl ?_ | refine aZ rfl rfl (nb rfl) ?_ | (refine bI rfl rfl rfl (nb rfl) rfl rfl rfl (fun hq => ?_) (fun hq => ?_) <;> (first | (simp only [sD, sE, sB, sC, sN, sM, sT, sF] at hq; try (exfalso; omega)) | skip))| refine bS rfl rfl (nb rfl) rfl rfl rfl rfl (c1) ?_ | refine aD rfl rfl rfl (nb rfl) rfl rfl (by omega) ?_ | refine bC rfl rfl rfl (nb rfl) rfl rfl rfl (by omega) (by omega) ?_ | refine bD rfl rfl rfl (nb rfl) rfl rfl rfl (by omega) (by omega) ?_ | refine bB tabOk rfl rfl rfl (nb rfl) rfl rfl rfl rfl rfl rfl rfl rfl rfl ?_ | refine aT tabOk rfl rfl (nb rfl) rfl ?_ | refine aN tabOk rfl rfl rfl (nb rfl) rfl rfl rfl rfl rfl rfl ?_ | refine aO tabOk rfl rfl rfl (nb rfl) rfl rfl rfl rfl ?_ | refine aK tabOk rfl rfl rfl rfl rfl rfl rfl rfl rfl rfl rfl ?_ | refine aP tabOk rfl rfl rfl (nb rfl) rfl rfl rfl rfl (by first | assumption | omega) ?_ | refine aH tabOk rfl rfl rfl (nb rfl) rfl rfl rfl rfl (by first | rfl | omega) (by first | omega | simp) ?_ | refine aB tabOk rfl rfl rfl (nb rfl) rfl rfl rfl (by assumption) ?_ | refine aB tabOk rfl rfl rfl (nb rfl) rfl rfl rfl (bM _ _ (by first | assumption | omega)) ?_ | refine aD rfl rfl rfl (nb rfl) rfl rfl (by omega) ?_ | ((fail_if_success (refine aE (b := true) rfl rfl rfl ?_)); (fail_if_success (refine aE (b := false) rfl rfl rfl ?_)); refine aQ rfl rfl rfl (fun hq => ?_) (fun hq => ?_) <;> first | subst hq | (first | (simp only [sD, sE, sB, sC, sN, sM, sT, sF] at hq; try (exfalso; omega)) | skip)) | fail) | (refine bQ ?_; first | refine bH ?_ | refine bN ?_ | refine aL ?_ | refine aX ?_ | refine bO ?_ | refine bF ?_ | refine bE ?_ | refine aA (b := true) rfl (fun _ => ?_) nTf | refine aA (b := false) rfl nFt (fun _ => ?_) | refine aY ?_ | refine aW ?_ | refine aU mixed (by kernel_rfl) ?_ | refine aC mixed (by kernel_rfl) ?_ | (refine aA rfl (fun hq => ?_) (fun hq => ?_) <;> first | subst hq | (first | (simp only [sD, sE, sB, sC, sN, sM, sT, sF] at hq; try (exfalso; omega)) | skip)) | fail) | (refine bK ?_; first | refine bT ?_ | refine aI ?_ | refine aM ?_ | fail) | (refine bA ?_; first | refine bP ?_ | refine aF ?_ | refine aG (by decide) ?_ | refine aJ ?_ | fail) | refine bL (aV (by kernel_rfl)) ?_ | fail)
    all_goals first
      | exact absurd (by assumption) h1
      | (refine bV (by first | exact .inl rfl | exact .inr rfl) (bX rfl (aS rfl) (aS rfl)) rfl ?_; rfl)
set_option maxHeartbeats 8000000 in
set_option maxRecDepth 10000 in
theorem tF (x s : Tree) (hx : x.size ≤ 80) (hs : s.size ≤ 60) (hwx0 : x = .nil ∨ x.whole = true) (hws0 : s = .nil ∨ s.whole = true) : ACalls Try.prog 24 [.imm x.iv, .imm s.iv] [] (.imm (.tup [(coerP x s).1.iv, .lit (.int .i64 (coerP x s).2)])) [] := by
  have c1 := mB x (by omega) hwx0
  have c2 := mC s hws0 (by omega)
  obtain ⟨Q, hQ⟩ : ∃ Q, coerP x s = Q := ⟨_, rfl⟩
  rw [hQ]
  unfold coerP at hQ
  by_cases h1 : tcheckP x = 0
  · rw [if_neg (by simpa using h1)] at hQ
    have hwx := gB h1
    rw [h1] at c1
    by_cases h2 : checkP sformP s = 0
    · rw [if_neg (by simpa using h2)] at hQ
      rw [h2] at c2
      have hws := (cD h2).1
      by_cases hp : plainP s = true
      · rw [if_pos hp] at hQ
        subst hQ
        have hsg := eR h2 hp
        have hfn := eS s x hsg hwx
        have hb := jO x.size s.size hx hs
        have c4 := wG s x hsg hws hwx (by omega)
        have c5 := vZ (madeP s x) hfn.1 (by omega)
        have hmz : ((madeP s x).size : Int) ≤ 8400 := by omega
        dsimp only
        clear hfn hb c1 c2
        generalize madeP s x = M at *
        have c1 := mB x (by omega) hwx0
        have c2 := mC s hws0 (by omega)
        rw [h1] at c1
        rw [h2] at c2
        generalize (M.size : Int) = MZ at *
        obtain ⟨k, n, a, b, kids, rfl⟩ := cL hws
        have hk : ¬ k > 163 := by
          rcases dH hsg with ⟨h, _⟩ | ⟨h, _⟩ <;> omega
        refine bR Try.func24 rfl rfl (nb rfl) rfl ?_
        repeat' (first | refine bG ?_ | (refine bJ ?_; first | refine aR tabOk rfl rfl rfl (nb rfl) rfl ?_ | refine aZ rfl rfl (nb rfl) ?_ | (refine bI rfl rfl rfl (nb rfl) rfl rfl rfl (fun hq => ?_) (fun hq => ?_) <;> (first | (simp only [sD, sE, sB, sC, sN, sM, sT, sF] at hq; try (exfalso; omega)) | skip))| refine bS rfl rfl (nb rfl) rfl rfl rfl rfl (c1) ?_ | refine bS rfl rfl (nb rfl) rfl rfl rfl rfl (c2) ?_ | refine bS rfl rfl (nb rfl) rfl rfl rfl rfl (c4) ?_ | refine bS rfl rfl (nb rfl) rfl rfl rfl rfl (c5) ?_ | refine aD rfl rfl rfl (nb rfl) rfl rfl (by omega) ?_ | refine bC rfl rfl rfl (nb rfl) rfl rfl rfl (by omega) (by omega) ?_ | refine bD rfl rfl rfl (nb rfl) rfl rfl rfl (by omega) (by omega) ?_ | refine bB tabOk rfl rfl rfl (nb rfl) rfl rfl rfl rfl rfl rfl rfl rfl rfl ?_ | refine aT tabOk rfl rfl (nb rfl) rfl ?_ | refine aN tabOk rfl rfl rfl (nb rfl) rfl rfl rfl rfl rfl rfl ?_ | refine aO tabOk rfl rfl rfl (nb rfl) rfl rfl rfl rfl ?_ | refine aK tabOk rfl rfl rfl rfl rfl rfl rfl rfl rfl rfl rfl ?_ | refine aP tabOk rfl rfl rfl (nb rfl) rfl rfl rfl rfl (by first | assumption | omega) ?_ | refine aH tabOk rfl rfl rfl (nb rfl) rfl rfl rfl rfl (by first | rfl | omega) (by first | omega | simp) ?_ | refine aB tabOk rfl rfl rfl (nb rfl) rfl rfl rfl (by assumption) ?_ | refine aB tabOk rfl rfl rfl (nb rfl) rfl rfl rfl (bM _ _ (by first | assumption | omega)) ?_ | refine aD rfl rfl rfl (nb rfl) rfl rfl (by omega) ?_ | ((fail_if_success (refine aE (b := true) rfl rfl rfl ?_)); (fail_if_success (refine aE (b := false) rfl rfl rfl ?_)); refine aQ rfl rfl rfl (fun hq => ?_) (fun hq => ?_) <;> first | subst hq | (first | (simp only [sD, sE, sB, sC, sN, sM, sT, sF] at hq; try (exfalso; omega)) | skip)) | fail) | (refine bQ ?_; first | refine bH ?_ | refine bN ?_ | refine aL ?_ | refine aX ?_ | refine bO ?_ | refine bF ?_ | refine bE ?_ | refine aA (b := true) rfl (fun _ => ?_) nTf | refine aA (b := false) rfl nFt (fun _ => ?_) | refine aY ?_ | refine aW ?_ | refine aU mixed (by kernel_rfl) ?_ | refine aC mixed (by kernel_rfl) ?_ | (refine aA rfl (fun hq => ?_) (fun hq => ?_) <;> first | subst hq | (first | (simp only [sD, sE, sB, sC, sN, sM, sT, sF] at hq; try (exfalso; omega)) | skip)) | fail) | (refine bK ?_; first | refine bT ?_ | refine aI ?_ | refine aM ?_ | fail) | (refine bA ?_; first | refine bP ?_ | refine aF ?_ | refine aG (by decide) ?_ | refine aJ ?_ | fail) | refine bL (aV (by kernel_rfl)) ?_ | fail)
        all_goals first
          | exact absurd rfl (by assumption)
          | (exfalso; omega)
          | (refine bV (by first | exact .inl rfl | exact .inr rfl) (bX rfl (aS rfl) (aS rfl)) rfl ?_; rfl)
      · rw [if_neg hp] at hQ
        subst hQ
        obtain ⟨k, n, a, b, kids, rfl⟩ := cL hws
        have hk : k > 163 := by
          have hp : ¬ ((decide (k ≠ 164) && decide (k ≠ 165)) = true) := hp
          rw [Bool.and_eq_true, decide_eq_true_eq, decide_eq_true_eq] at hp
          omega
        refine bR Try.func24 rfl rfl (nb rfl) rfl ?_
        repeat' (first | refine bG ?_ | (refine bJ ?_; first | refine aR tabOk rfl rfl rfl (nb rfl) rfl ?_ | refine aZ rfl rfl (nb rfl) ?_ | (refine bI rfl rfl rfl (nb rfl) rfl rfl rfl (fun hq => ?_) (fun hq => ?_) <;> (first | (simp only [sD, sE, sB, sC, sN, sM, sT, sF] at hq; try (exfalso; omega)) | skip))| refine bS rfl rfl (nb rfl) rfl rfl rfl rfl (c1) ?_ | refine bS rfl rfl (nb rfl) rfl rfl rfl rfl (c2) ?_ | refine aD rfl rfl rfl (nb rfl) rfl rfl (by omega) ?_ | refine bC rfl rfl rfl (nb rfl) rfl rfl rfl (by omega) (by omega) ?_ | refine bD rfl rfl rfl (nb rfl) rfl rfl rfl (by omega) (by omega) ?_ | refine bB tabOk rfl rfl rfl (nb rfl) rfl rfl rfl rfl rfl rfl rfl rfl rfl ?_ | refine aT tabOk rfl rfl (nb rfl) rfl ?_ | refine aN tabOk rfl rfl rfl (nb rfl) rfl rfl rfl rfl rfl rfl ?_ | refine aO tabOk rfl rfl rfl (nb rfl) rfl rfl rfl rfl ?_ | refine aK tabOk rfl rfl rfl rfl rfl rfl rfl rfl rfl rfl rfl ?_ | refine aP tabOk rfl rfl rfl (nb rfl) rfl rfl rfl rfl (by first | assumption | omega) ?_ | refine aH tabOk rfl rfl rfl (nb rfl) rfl rfl rfl rfl (by first | rfl | omega) (by first | omega | simp) ?_ | refine aB tabOk rfl rfl rfl (nb rfl) rfl rfl rfl (by assumption) ?_ | refine aB tabOk rfl rfl rfl (nb rfl) rfl rfl rfl (bM _ _ (by first | assumption | omega)) ?_ | refine aD rfl rfl rfl (nb rfl) rfl rfl (by omega) ?_ | ((fail_if_success (refine aE (b := true) rfl rfl rfl ?_)); (fail_if_success (refine aE (b := false) rfl rfl rfl ?_)); refine aQ rfl rfl rfl (fun hq => ?_) (fun hq => ?_) <;> first | subst hq | (first | (simp only [sD, sE, sB, sC, sN, sM, sT, sF] at hq; try (exfalso; omega)) | skip)) | fail) | (refine bQ ?_; first | refine bH ?_ | refine bN ?_ | refine aL ?_ | refine aX ?_ | refine bO ?_ | refine bF ?_ | refine bE ?_ | refine aA (b := true) rfl (fun _ => ?_) nTf | refine aA (b := false) rfl nFt (fun _ => ?_) | refine aY ?_ | refine aW ?_ | refine aU mixed (by kernel_rfl) ?_ | refine aC mixed (by kernel_rfl) ?_ | (refine aA rfl (fun hq => ?_) (fun hq => ?_) <;> first | subst hq | (first | (simp only [sD, sE, sB, sC, sN, sM, sT, sF] at hq; try (exfalso; omega)) | skip)) | fail) | (refine bK ?_; first | refine bT ?_ | refine aI ?_ | refine aM ?_ | fail) | (refine bA ?_; first | refine bP ?_ | refine aF ?_ | refine aG (by decide) ?_ | refine aJ ?_ | fail) | refine bL (aV (by kernel_rfl)) ?_ | fail)
        all_goals first
          | exact absurd rfl (by assumption)
          | (exfalso; omega)
          | (refine bV (by first | exact .inl rfl | exact .inr rfl) (bX rfl (aS rfl) (aS rfl)) rfl ?_; rfl)
    · rw [if_pos h2] at hQ
      subst hQ
      generalize checkP sformP s = C at *
      refine bR Try.func24 rfl rfl (nb rfl) rfl ?_
      repeat' (first | refine bG ?_ | (refine bJ ?_; first | refine aR tabOk rfl rfl rfl (nb rfl) rfl ?_ | refine aZ rfl rfl (nb rfl) ?_ | (refine bI rfl rfl rfl (nb rfl) rfl rfl rfl (fun hq => ?_) (fun hq => ?_) <;> (first | (simp only [sD, sE, sB, sC, sN, sM, sT, sF] at hq; try (exfalso; omega)) | skip))| refine bS rfl rfl (nb rfl) rfl rfl rfl rfl (c1) ?_ | refine bS rfl rfl (nb rfl) rfl rfl rfl rfl (c2) ?_ | refine aD rfl rfl rfl (nb rfl) rfl rfl (by omega) ?_ | refine bC rfl rfl rfl (nb rfl) rfl rfl rfl (by omega) (by omega) ?_ | refine bD rfl rfl rfl (nb rfl) rfl rfl rfl (by omega) (by omega) ?_ | refine bB tabOk rfl rfl rfl (nb rfl) rfl rfl rfl rfl rfl rfl rfl rfl rfl ?_ | refine aT tabOk rfl rfl (nb rfl) rfl ?_ | refine aN tabOk rfl rfl rfl (nb rfl) rfl rfl rfl rfl rfl rfl ?_ | refine aO tabOk rfl rfl rfl (nb rfl) rfl rfl rfl rfl ?_ | refine aK tabOk rfl rfl rfl rfl rfl rfl rfl rfl rfl rfl rfl ?_ | refine aP tabOk rfl rfl rfl (nb rfl) rfl rfl rfl rfl (by first | assumption | omega) ?_ | refine aH tabOk rfl rfl rfl (nb rfl) rfl rfl rfl rfl (by first | rfl | omega) (by first | omega | simp) ?_ | refine aB tabOk rfl rfl rfl (nb rfl) rfl rfl rfl (by assumption) ?_ | refine aB tabOk rfl rfl rfl (nb rfl) rfl rfl rfl (bM _ _ (by first | assumption | omega)) ?_ | refine aD rfl rfl rfl (nb rfl) rfl rfl (by omega) ?_ | ((fail_if_success (refine aE (b := true) rfl rfl rfl ?_)); (fail_if_success (refine aE (b := false) rfl rfl rfl ?_)); refine aQ rfl rfl rfl (fun hq => ?_) (fun hq => ?_) <;> first | subst hq | (first | (simp only [sD, sE, sB, sC, sN, sM, sT, sF] at hq; try (exfalso; omega)) | skip)) | fail) | (refine bQ ?_; first | refine bH ?_ | refine bN ?_ | refine aL ?_ | refine aX ?_ | refine bO ?_ | refine bF ?_ | refine bE ?_ | refine aA (b := true) rfl (fun _ => ?_) nTf | refine aA (b := false) rfl nFt (fun _ => ?_) | refine aY ?_ | refine aW ?_ | refine aU mixed (by kernel_rfl) ?_ | refine aC mixed (by kernel_rfl) ?_ | (refine aA rfl (fun hq => ?_) (fun hq => ?_) <;> first | subst hq | (first | (simp only [sD, sE, sB, sC, sN, sM, sT, sF] at hq; try (exfalso; omega)) | skip)) | fail) | (refine bK ?_; first | refine bT ?_ | refine aI ?_ | refine aM ?_ | fail) | (refine bA ?_; first | refine bP ?_ | refine aF ?_ | refine aG (by decide) ?_ | refine aJ ?_ | fail) | refine bL (aV (by kernel_rfl)) ?_ | fail)
      all_goals first
        | exact absurd rfl (by assumption)
        | exact absurd (by assumption) h2
        | (refine bV (by first | exact .inl rfl | exact .inr rfl) (bX rfl (aS rfl) (aS rfl)) rfl ?_; rfl)
  · rw [if_pos h1] at hQ
    subst hQ
    generalize tcheckP x = C at *
    refine bR Try.func24 rfl rfl (nb rfl) rfl ?_
    repeat' (first | refine bG ?_ | (refine bJ ?_; first | refine aR tabOk rfl rfl rfl (nb rfl) rfl ?_ | refine aZ rfl rfl (nb rfl) ?_ | (refine bI rfl rfl rfl (nb rfl) rfl rfl rfl (fun hq => ?_) (fun hq => ?_) <;> (first | (simp only [sD, sE, sB, sC, sN, sM, sT, sF] at hq; try (exfalso; omega)) | skip))| refine bS rfl rfl (nb rfl) rfl rfl rfl rfl (c1) ?_ | refine aD rfl rfl rfl (nb rfl) rfl rfl (by omega) ?_ | refine bC rfl rfl rfl (nb rfl) rfl rfl rfl (by omega) (by omega) ?_ | refine bD rfl rfl rfl (nb rfl) rfl rfl rfl (by omega) (by omega) ?_ | refine bB tabOk rfl rfl rfl (nb rfl) rfl rfl rfl rfl rfl rfl rfl rfl rfl ?_ | refine aT tabOk rfl rfl (nb rfl) rfl ?_ | refine aN tabOk rfl rfl rfl (nb rfl) rfl rfl rfl rfl rfl rfl ?_ | refine aO tabOk rfl rfl rfl (nb rfl) rfl rfl rfl rfl ?_ | refine aK tabOk rfl rfl rfl rfl rfl rfl rfl rfl rfl rfl rfl ?_ | refine aP tabOk rfl rfl rfl (nb rfl) rfl rfl rfl rfl (by first | assumption | omega) ?_ | refine aH tabOk rfl rfl rfl (nb rfl) rfl rfl rfl rfl (by first | rfl | omega) (by first | omega | simp) ?_ | refine aB tabOk rfl rfl rfl (nb rfl) rfl rfl rfl (by assumption) ?_ | refine aB tabOk rfl rfl rfl (nb rfl) rfl rfl rfl (bM _ _ (by first | assumption | omega)) ?_ | refine aD rfl rfl rfl (nb rfl) rfl rfl (by omega) ?_ | ((fail_if_success (refine aE (b := true) rfl rfl rfl ?_)); (fail_if_success (refine aE (b := false) rfl rfl rfl ?_)); refine aQ rfl rfl rfl (fun hq => ?_) (fun hq => ?_) <;> first | subst hq | (first | (simp only [sD, sE, sB, sC, sN, sM, sT, sF] at hq; try (exfalso; omega)) | skip)) | fail) | (refine bQ ?_; first | refine bH ?_ | refine bN ?_ | refine aL ?_ | refine aX ?_ | refine bO ?_ | refine bF ?_ | refine bE ?_ | refine aA (b := true) rfl (fun _ => ?_) nTf | refine aA (b := false) rfl nFt (fun _ => ?_) | refine aY ?_ | refine aW ?_ | refine aU mixed (by kernel_rfl) ?_ | refine aC mixed (by kernel_rfl) ?_ | (refine aA rfl (fun hq => ?_) (fun hq => ?_) <;> first | subst hq | (first | (simp only [sD, sE, sB, sC, sN, sM, sT, sF] at hq; try (exfalso; omega)) | skip)) | fail) | (refine bK ?_; first | refine bT ?_ | refine aI ?_ | refine aM ?_ | fail) | (refine bA ?_; first | refine bP ?_ | refine aF ?_ | refine aG (by decide) ?_ | refine aJ ?_ | fail) | refine bL (aV (by kernel_rfl)) ?_ | fail)
    all_goals first
      | exact absurd (by assumption) h1
      | (refine bV (by first | exact .inl rfl | exact .inr rfl) (bX rfl (aS rfl) (aS rfl)) rfl ?_; rfl)
set_option maxHeartbeats 8000000 in
set_option maxRecDepth 10000 in
theorem mD (l m : List CellD) (hl : ∀ c ∈ l, c.f = false) (hm : ∀ c ∈ m, c.f = false) : ACalls Try.prog 8 [.imm (.agg [.sl false l.length (cellIVs l)]), .imm (.agg [.sl false m.length (cellIVs m)])] [] (.imm (.lit (.bool true))) [] := by
  obtain ⟨x, x1, _, x3, d1⟩ := vU l hl
  obtain ⟨s, s1, _, s3, d2⟩ := vT m hm
  have c1 := uX x s x1 s1
  have c2 := tF x s x1 s1 x3 s3
  have hw : ((coerP x s).1 = .nil ∨ (coerP x s).1.whole = true) ∧ (coerP x s).1.size ≤ 1000000 := by
    unfold coerP
    split
    · exact ⟨.inl rfl, by simp [Tree.size]⟩
    · rename_i h1
      split
      · exact ⟨.inl rfl, by simp [Tree.size]⟩
      · rename_i h2
        split
        · rename_i hp
          have hwx := gB (t := x) (by omega)
          have hfn := eS s x (eR (by omega) hp) hwx
          have hb := jO x.size s.size x1 s1
          exact ⟨.inr hfn.1, by dsimp only; omega⟩
        · exact ⟨.inl rfl, by simp [Tree.size]⟩
  have c3 := rJ (coerP x s).1 (coerP x s).1 hw.1 hw.1 hw.2 hw.2
  rw [(jM _ _).2 rfl] at c3
  clear hw
  generalize coerP x s = Q at *
  obtain ⟨Q1, Q2⟩ := Q
  dsimp only at *
  refine bR Try.func8 rfl rfl (nb rfl) rfl ?_
  repeat' (first | refine bG ?_ | (refine bJ ?_; first | refine aR tabOk rfl rfl rfl (nb rfl) rfl ?_ | refine aZ rfl rfl (nb rfl) ?_ | (refine bI rfl rfl rfl (nb rfl) rfl rfl rfl (fun hq => ?_) (fun hq => ?_) <;> (first | (simp only [sD, sE, sB, sC, sN, sM, sT, sF] at hq; try (exfalso; omega)) | skip))| refine bS rfl rfl (nb rfl) rfl rfl rfl rfl (d1) ?_ | refine bS rfl rfl (nb rfl) rfl rfl rfl rfl (d2) ?_ | refine bS rfl rfl (nb rfl) rfl rfl rfl rfl (c1) ?_ | refine bS rfl rfl (nb rfl) rfl rfl rfl rfl (c2) ?_ | refine bS rfl rfl (nb rfl) rfl rfl rfl rfl (c3) ?_ | refine bS rfl rfl (nb rfl) rfl rfl rfl rfl (tA) ?_ | refine aD rfl rfl rfl (nb rfl) rfl rfl (by omega) ?_ | refine bC rfl rfl rfl (nb rfl) rfl rfl rfl (by omega) (by omega) ?_ | refine bD rfl rfl rfl (nb rfl) rfl rfl rfl (by omega) (by omega) ?_ | refine bB tabOk rfl rfl rfl (nb rfl) rfl rfl rfl rfl rfl rfl rfl rfl rfl ?_ | refine aT tabOk rfl rfl (nb rfl) rfl ?_ | refine aN tabOk rfl rfl rfl (nb rfl) rfl rfl rfl rfl rfl rfl ?_ | refine aO tabOk rfl rfl rfl (nb rfl) rfl rfl rfl rfl ?_ | refine aK tabOk rfl rfl rfl rfl rfl rfl rfl rfl rfl rfl rfl ?_ | refine aP tabOk rfl rfl rfl (nb rfl) rfl rfl rfl rfl (by first | assumption | omega) ?_ | refine aH tabOk rfl rfl rfl (nb rfl) rfl rfl rfl rfl (by first | rfl | omega) (by first | omega | simp) ?_ | refine aB tabOk rfl rfl rfl (nb rfl) rfl rfl rfl (by assumption) ?_ | refine aB tabOk rfl rfl rfl (nb rfl) rfl rfl rfl (bM _ _ (by first | assumption | omega)) ?_ | refine aD rfl rfl rfl (nb rfl) rfl rfl (by omega) ?_ | ((fail_if_success (refine aE (b := true) rfl rfl rfl ?_)); (fail_if_success (refine aE (b := false) rfl rfl rfl ?_)); refine aQ rfl rfl rfl (fun hq => ?_) (fun hq => ?_) <;> first | subst hq | (first | (simp only [sD, sE, sB, sC, sN, sM, sT, sF] at hq; try (exfalso; omega)) | skip)) | fail) | (refine bQ ?_; first | refine bH ?_ | refine bN ?_ | refine aL ?_ | refine aX ?_ | refine bO ?_ | refine bF ?_ | refine bE ?_ | refine aA (b := true) rfl (fun _ => ?_) nTf | refine aA (b := false) rfl nFt (fun _ => ?_) | refine aY ?_ | refine aW ?_ | refine aU mixed (by kernel_rfl) ?_ | refine aC mixed (by kernel_rfl) ?_ | (refine aA rfl (fun hq => ?_) (fun hq => ?_) <;> first | subst hq | (first | (simp only [sD, sE, sB, sC, sN, sM, sT, sF] at hq; try (exfalso; omega)) | skip)) | fail) | (refine bK ?_; first | refine bT ?_ | refine aI ?_ | refine aM ?_ | fail) | (refine bA ?_; first | refine bP ?_ | refine aF ?_ | refine aG (by decide) ?_ | refine aJ ?_ | fail) | refine bL (aV (by kernel_rfl)) ?_ | fail)
  all_goals first
    | exact bZ (by first | exact .inl rfl | exact .inr rfl) (bU rfl (aS rfl)) rfl
    | exact absurd rfl (by assumption)
    | (exfalso; omega)
theorem MatchCoerces_law (xs : List IV) (h : FitsAll [tyTree, tyTree] xs) : ACalls Try.prog 8 (xs.map .imm) [] (.imm (.lit (.bool true))) [] := by
  cases h with
  | cons h1 h =>
    cases h with
    | cons h2 h =>
      cases h
      obtain ⟨l, rfl, hl⟩ := nD h1
      obtain ⟨m, rfl, hm⟩ := nD h2
      exact mD l m hl hm
end Go.Proofs.Ytlbemgokilhdnaa.Ab
