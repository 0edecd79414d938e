/- Contracts of the functions that this claim reaches, with the words for them: pruned and packed by wip/tools/prune.py. -/
import Derived.Test.YtemeapfnfegkiaaVe
import Derived.OpenShut
import Derived.Laws.IdiomArrays
section
/- Package disk: the reference's Is and One answer what the program's do. -/
namespace Go.Proofs.Ytemeapfnfegkiaa.D
open Go Go.RowKit Go.Proofs.YtemeapfnfegkiaaK Go.Proofs.YtemeapfnfegkiaaW.PrintWords Go.Proofs.YtemeapfnfegkiaaW.PrintLast Go.Proofs.YtemeapfnfegkiaaW.PrintMore Go.Proofs.Ytemeapfnfegkiaa.PR
set_option linter.unusedVariables false
set_option linter.unusedSimpArgs false

theorem cnt_perm (D : Dat) (Q : (Nat → Int) → Bool) : ((truthsN D []).countP fun x => Q (G D x.1 x.2)) = cnt D Q (truthsL D 0) := (truths_perm0 D).countP_eq _
theorem rSettled (a b : Nat) : helioscoperef01_Settled.f (a : Int) (b : Int) = some (toldF a b) := by
  unfold helioscoperef01_Settled.f toldF
  by_cases h : (a : Int) = b
  · rw [if_pos h, if_pos h]
  · rw [if_neg h, if_neg h]; split <;> rfl
theorem truthsN_len {D : Dat} (hV : Valid D) (but : List Int) : (truthsN D but).length ≤ 1664 :=
  Nat.le_trans (List.length_filter_le _ _) (allN_len hV)
theorem rd_toR {D : Dat} (X : List (Int × Nat)) (i : Nat) (hi : i < X.length) : rd_T57 (X.map (toR D)) (i : Int) = ⟨X[i].1, RG D X[i].1 X[i].2⟩ := by
  rw [rd_T57_at _ i (by simpa using hi), List.getElem_map]; rfl

theorem rIs0 {D : Dat} (hV : Valid D) (dot : Nat) (hd : dot < D.spots.length) (X : List (Int × Nat)) (hX : X.length ≤ 2000) (d : Nat) : ∀ (i : Nat), i + d = X.length →
    Ev (fun f => helioscoperef01_Is.l0 f (dot : Int) (X.map (toR D)) (((X.take i).countP fun x => isQ dot (G D x.1 x.2) : Nat) : Int) (i : Int)) (toldF (X.countP fun x => isQ dot (G D x.1 x.2)) X.length, 0) := by
  induction d with
  | zero =>
    intro i hi
    rw [List.take_of_length_le (by omega)]
    refine Ev.step (f := fun _ => some (toldF (X.countP fun x => isQ dot (G D x.1 x.2)) X.length, 0)) (fun f => ?_) (Ev.now _)
    simp only [helioscoperef01_Is.l0, List.length_map, rSettled, Option.bind_some]
    rw [if_neg (by omega)]
  | succ d ih =>
    intro i hi
    have hi' : i < X.length := by omega
    have ih' := ih (i + 1) (by omega)
    have hc := List.countP_le_length (p := fun x : Int × Nat => isQ dot (G D x.1 x.2)) (l := X.take i)
    rw [List.length_take] at hc
    rw [List.take_add_one, List.getElem?_eq_getElem hi', List.countP_append] at ih'
    simp only [Option.toList_some, List.countP_singleton] at ih'
    have hR := RG_ref hV X[i].1 X[i].2
    have hge := hR.ge (G_nonneg hV _ _) dot hd
    have hl := hR.len
    have hx := rd_toR (D := D) X i hi'
    generalize ((X.take i).countP fun x => isQ dot (G D x.1 x.2)) = c at *
    generalize RG D X[i].1 X[i].2 = R at *
    have hq : isQ dot (G D X[i].1 X[i].2) = decide (0 < G D X[i].1 X[i].2 dot) := rfl
    rw [hq] at ih'
    by_cases h : 0 < G D X[i].1 X[i].2 dot
    · rw [decide_eq_true h, if_pos rfl] at ih'
      refine Ev.step (fun f => ?_) ih'
      simp only [helioscoperef01_Is.l0, List.length_map, hx]
      rw [if_pos (by omega), if_pos (by omega), if_pos (by omega), if_pos (by omega), if_pos (hge.2 h), wrapN (by omega), wrapN (by omega)]
    · rw [decide_eq_false h, if_neg (by decide)] at ih'
      refine Ev.step (fun f => ?_) ih'
      simp only [helioscoperef01_Is.l0, List.length_map, hx]
      rw [if_pos (by omega), if_pos (by omega), if_pos (by omega), if_pos (by omega), if_neg (fun x => h (hge.1 x)), wrapN (by omega)]
      rfl

theorem enterE_one (D : Dat) (dot : Int) : enterE D [dot] = if (if (checkF D).2.2 ≠ 0 then (checkF D).2.2 else if outB 0 ((D.spots.length : Int) - 1) [dot, dot] = true then 4 else 0) ≠ 0 then (if (checkF D).2.2 ≠ 0 then (checkF D).2.2 else if outB 0 ((D.spots.length : Int) - 1) [dot, dot] = true then 4 else 0) else if (truthsL D 0).isEmpty = true then 8 else 0 := by
  unfold enterE
  have h1 : outB 0 ((D.spots.length : Int) - 1) [dot, dot] = outB 0 ((D.spots.length : Int) - 1) [dot] := by simp [outB]
  rw [h1]
  generalize (checkF D).2.2 = c
  generalize outB 0 ((D.spots.length : Int) - 1) [dot] = o
  by_cases h : c = 0
  · subst h
    cases o <;> simp
  · simp [h]

theorem rIs {D : Dat} (hF : Fits D) (dot : Int) : Ev (fun f => helioscoperef01_Is.f f D.nm D.rad D.lo D.hi D.spots D.told dot) (isF D dot) := by
  unfold helioscoperef01_Is.f
  refine Ev.bind (rAsked hF dot dot) ?_
  have he := enterE_one D dot
  generalize hE : (if (checkF D).2.2 ≠ 0 then (checkF D).2.2 else if outB 0 ((D.spots.length : Int) - 1) [dot, dot] = true then 4 else 0) = E at he ⊢
  by_cases h : E = 0
  · subst h
    rw [if_neg (by simp)] at he
    have hc : (checkF D).2.2 = 0 := by
      by_cases hc : (checkF D).2.2 = 0
      · exact hc
      · rw [if_pos hc] at hE; exact absurd hE hc
    have hV := (check_valid hc).1
    refine Ev.bind (rKnown hV) ?_
    by_cases hz : (truthsL D 0).isEmpty = true
    · rw [if_pos hz] at he ⊢
      simp only [isF, he]
      exact Ev.now _
    · rw [if_neg hz] at he ⊢
      have hd := (enterE_ok he).2.1
      have hdot : 0 ≤ dot ∧ dot ≤ (D.spots.length : Int) - 1 := by
        by_cases hh : 0 ≤ dot ∧ dot ≤ (D.spots.length : Int) - 1
        · exact hh
        · rw [(outB_one _ _ _).2 hh] at hd; simp at hd
      obtain ⟨k, rfl⟩ : ∃ k : Nat, dot = k := ⟨dot.toNat, by omega⟩
      have hh := rIs0 hV k (by omega) (truthsN D []) (Nat.le_trans (truthsN_len hV []) (by decide)) (truthsN D []).length 0 (by omega)
      have e2 : isF D (k : Int) = (toldF ((truthsN D []).countP fun x => isQ k (G D x.1 x.2)) (truthsN D []).length, 0) := by
        unfold isF; rw [if_pos he, Int.toNat_natCast, ← cnt_perm, (truths_perm0 D).length_eq]
      rw [e2]
      exact hh
  · rw [if_pos h] at he
    refine Ev.bind (rKnownE D E h) ?_
    simp only [if_neg h]
    have e2 : isF D dot = (0, E) := by unfold isF; rw [he, if_neg h]
    rw [e2]
    exact Ev.now _

theorem rones0 {D : Dat} (hV : Valid D) (a b : Nat) (ha : a < D.spots.length) (hb : b < D.spots.length) (X : List (Int × Nat)) (hX : X.length ≤ 2000) (d : Nat) : ∀ (i : Nat), i + d = X.length →
    Ev (fun f => helioscoperef01_ones.l0 f (X.map (toR D)) (a : Int) (b : Int) (((X.take i).countP fun x => oneQ a b (G D x.1 x.2) : Nat) : Int) (i : Int)) ((X.countP fun x => oneQ a b (G D x.1 x.2) : Nat) : Int) := by
  induction d with
  | zero =>
    intro i hi
    rw [List.take_of_length_le (by omega)]
    refine Ev.step (f := fun _ => some ((X.countP fun x => oneQ a b (G D x.1 x.2) : Nat) : Int)) (fun f => ?_) (Ev.now _)
    simp only [helioscoperef01_ones.l0, List.length_map]
    rw [if_neg (by omega)]
  | succ d ih =>
    intro i hi
    have hi' : i < X.length := by omega
    have ih' := ih (i + 1) (by omega)
    have hc := List.countP_le_length (p := fun x : Int × Nat => oneQ a b (G D x.1 x.2)) (l := X.take i)
    rw [List.length_take] at hc
    rw [List.take_add_one, List.getElem?_eq_getElem hi', List.countP_append] at ih'
    simp only [Option.toList_some, List.countP_singleton] at ih'
    have hR := RG_ref hV X[i].1 X[i].2
    have hT := rTogether hR (G_nonneg hV _ _) X[i].1 (a : Int) (b : Int) (by omega) (by omega)
    have hx := rd_toR (D := D) X i hi'
    generalize ((X.take i).countP fun x => oneQ a b (G D x.1 x.2)) = c at *
    generalize RG D X[i].1 X[i].2 = R at *
    rw [Int.toNat_natCast, Int.toNat_natCast] at hT
    have hq : oneQ a b (G D X[i].1 X[i].2) = (decide (0 < G D X[i].1 X[i].2 a) && G D X[i].1 X[i].2 a == G D X[i].1 X[i].2 b) := rfl
    rw [← hq] at hT
    generalize oneQ a b (G D X[i].1 X[i].2) = q at hT ih'
    refine Ev.step (f := fun f => if q = true then helioscoperef01_ones.l0 f (X.map (toR D)) (a : Int) (b : Int) (wrap64 ((c : Int) + 1)) ((i + 1 : Nat) : Int) else helioscoperef01_ones.l0 f (X.map (toR D)) (a : Int) (b : Int) (c : Int) ((i + 1 : Nat) : Int)) (fun f => ?_) ?_
    · simp only [helioscoperef01_ones.l0, List.length_map, hx, hT, Option.bind_some]
      rw [if_pos (by omega), if_pos (by omega), wrapN (n := i) (by omega)]
    · cases q
      · exact ih'
      · simp only [if_true] at ih' ⊢
        rw [wrapN (by omega)]
        exact ih'
theorem rones {D : Dat} (hV : Valid D) (a b : Nat) (ha : a < D.spots.length) (hb : b < D.spots.length) (X : List (Int × Nat)) (hX : X.length ≤ 2000) :
    Ev (fun f => helioscoperef01_ones.f f (X.map (toR D)) (a : Int) (b : Int)) ((X.countP fun x => oneQ a b (G D x.1 x.2) : Nat) : Int) :=
  rones0 hV a b ha hb X hX X.length 0 (by omega)

theorem enterE_two (D : Dat) (a b : Int) : enterE D [a, b] = if (checkF D).2.2 ≠ 0 then (checkF D).2.2 else if outB 0 ((D.spots.length : Int) - 1) [a, b] = true then 4 else if a = b then 2 else if (truthsL D 0).isEmpty = true then 8 else 0 := by
  unfold enterE
  have h : ([a, b].length = 2 ∧ rd [a, b] 0 = rd [a, b] 1) ↔ a = b := ⟨fun h => h.2, fun h => ⟨rfl, h⟩⟩
  simp only [h]

theorem rj1 {D : Dat} (hV : Valid D) (a b : Nat) (ha : a < D.spots.length) (hb : b < D.spots.length) (hne : (a : Int) ≠ b) (hc : (checkF D).2.2 = 0) :
    Ev (fun f => helioscoperef01_One.j1 f (a : Int) (b : Int) 0 D.nm D.rad D.lo D.hi D.spots D.told) (oneF D a b) := by
  have he := enterE_two D a b
  rw [if_neg (fun x => x hc), if_neg (fun x => (outB_two _ _ _ _).1 x ⟨by omega, by omega⟩), if_neg hne] at he
  refine Ev.step (f := fun f => (helioscoperef01_known.f f D.nm D.rad D.lo D.hi D.spots D.told 0).bind fun r => if r.2 = 0 then (helioscoperef01_ones.f f r.1 (a : Int) (b : Int)).bind fun t => (helioscoperef01_Settled.f t (r.1.length : Int)).bind fun u => some (u, 0) else some (0, r.2)) (fun f => ?_) ?_
  · simp only [helioscoperef01_One.j1]
  refine Ev.bind (rKnown hV) ?_
  by_cases hz : (truthsL D 0).isEmpty = true
  · rw [if_pos hz] at he ⊢
    simp only [oneF, he]
    exact Ev.now _
  · rw [if_neg hz] at he ⊢
    simp only [if_true]
    refine Ev.bind (rones hV a b ha hb (truthsN D []) (Nat.le_trans (truthsN_len hV []) (by decide))) ?_
    simp only [List.length_map, rSettled, Option.bind_some]
    have e2 : oneF D (a : Int) (b : Int) = (toldF ((truthsN D []).countP fun x => oneQ a b (G D x.1 x.2) : Nat) (truthsN D []).length, 0) := by
      unfold oneF; rw [if_pos he, Int.toNat_natCast, Int.toNat_natCast, ← cnt_perm, (truths_perm0 D).length_eq]
    rw [e2]
    exact Ev.now _
theorem rj1E {D : Dat} (a b E : Int) (h : E ≠ 0) (h2 : oneF D a b = (0, E)) : Ev (fun f => helioscoperef01_One.j1 f a b E D.nm D.rad D.lo D.hi D.spots D.told) (oneF D a b) := by
  refine Ev.step (f := fun f => (helioscoperef01_known.f f D.nm D.rad D.lo D.hi D.spots D.told E).bind fun r => if r.2 = 0 then (helioscoperef01_ones.f f r.1 a b).bind fun t => (helioscoperef01_Settled.f t (r.1.length : Int)).bind fun u => some (u, 0) else some (0, r.2)) (fun f => ?_) ?_
  · simp only [helioscoperef01_One.j1]
  refine Ev.bind (rKnownE D E h) ?_
  simp only [if_neg h, h2]
  exact Ev.now _
theorem rOne {D : Dat} (hF : Fits D) (a b : Int) : Ev (fun f => helioscoperef01_One.f f D.nm D.rad D.lo D.hi D.spots D.told a b) (oneF D a b) := by
  unfold helioscoperef01_One.f
  refine Ev.bind (rAsked hF a b) ?_
  have he := enterE_two D a b
  by_cases hc : (checkF D).2.2 = 0
  · have hV := (check_valid hc).1
    simp only [ne_eq, hc, not_true_eq_false, if_false] at he ⊢
    by_cases ho : outB 0 ((D.spots.length : Int) - 1) [a, b] = true
    · simp only [if_pos ho] at he ⊢
      simp only [show ¬ ((4 : Int) = 0) by decide, if_false]
      refine Ev.step (f := fun f => helioscoperef01_One.j1 f a b 4 D.nm D.rad D.lo D.hi D.spots D.told) (fun f => ?_) (rj1E a b 4 (by decide) (by unfold oneF; rw [he]; rfl))
      simp only [helioscoperef01_One.j0]; rfl
    · simp only [if_neg ho] at he ⊢
      simp only [if_true]
      have hin := fun x => ho ((outB_two _ _ _ _).2 x)
      have hin2 : (0 ≤ a ∧ a ≤ (D.spots.length : Int) - 1) ∧ (0 ≤ b ∧ b ≤ (D.spots.length : Int) - 1) := Classical.byContradiction hin
      by_cases hab : a = b
      · rw [if_pos hab] at he
        refine Ev.step (f := fun f => helioscoperef01_One.j1 f a b 2 D.nm D.rad D.lo D.hi D.spots D.told) (fun f => ?_) (rj1E a b 2 (by decide) (by unfold oneF; rw [he]; rfl))
        simp only [helioscoperef01_One.j0, beq_iff_eq, if_pos hab]
      · obtain ⟨x, rfl⟩ : ∃ k : Nat, a = k := ⟨a.toNat, by omega⟩
        obtain ⟨y, rfl⟩ : ∃ k : Nat, b = k := ⟨b.toNat, by omega⟩
        refine Ev.step (f := fun f => helioscoperef01_One.j1 f (x : Int) (y : Int) 0 D.nm D.rad D.lo D.hi D.spots D.told) (fun f => ?_) (rj1 hV x y (by omega) (by omega) hab hc)
        simp only [helioscoperef01_One.j0, beq_iff_eq, if_neg hab]
  · simp only [ne_eq, hc, not_false_eq_true, if_true, if_false] at he ⊢
    refine Ev.step (f := fun f => helioscoperef01_One.j1 f a b (checkF D).2.2 D.nm D.rad D.lo D.hi D.spots D.told) (fun f => ?_) (rj1E a b _ hc (by unfold oneF; rw [he, if_neg hc]))
    simp only [helioscoperef01_One.j0]; rfl
end Go.Proofs.Ytemeapfnfegkiaa.D
end
section
/- Package disk: DiskOnes. -/
namespace Go.Proofs.Ytemeapfnfegkiaa.D
open Go Go.RowKit Go.Proofs.YtemeapfnfegkiaaK Go.Proofs.YtemeapfnfegkiaaW.PrintWords Go.Proofs.YtemeapfnfegkiaaW.PrintLast Go.Proofs.YtemeapfnfegkiaaW.PrintMore Go.Proofs.Ytemeapfnfegkiaa.PR
set_option linter.unusedVariables false
set_option linter.unusedSimpArgs false

set_option maxRecDepth 100000 in
set_option maxHeartbeats 2000000 in
theorem DiskOnes_calls (D : Dat) (A4 : Option Addr) (c4 : Nat) (A5 : Option Addr) (c5 : Nat) (x y : Int) (w : World) (h : Arg w D A4 c4 A5 c5) :
    Calls Try.prog 4 #[.agg #[.string D.nm, .int .i64 D.rad, .int .i64 D.lo, .int .i64 D.hi, .slice A4 D.spots.length c4, .slice A5 D.told.length c5], .agg #[.int .i64 x, .int .i64 y]] w
      fun e w' => e = .returned (.bool true) ∧ Below w.heap.size w w' := by
  have hb1 := below_alloc (below_alloc (Below.refl w.heap.size w) (.cells #[.string D.nm, .int .i64 D.rad, .int .i64 D.lo, .int .i64 D.hi, .slice A4 D.spots.length c4, .slice A5 D.told.length c5] 27)) (.cells #[.int .i64 x, .int .i64 y] 34)
  have HB := Aside0.mk hb1
  have HS := Aside0.mk (blk_alloc (blk_new w (.cells #[.string D.nm, .int .i64 D.rad, .int .i64 D.lo, .int .i64 D.hi, .slice A4 D.spots.length c4, .slice A5 D.told.length c5] 27)) (.cells #[.int .i64 x, .int .i64 y] 34))
  have HX := Aside0.mk (new_at (W := w.alloc (.cells #[.string D.nm, .int .i64 D.rad, .int .i64 D.lo, .int .i64 D.hi, .slice A4 D.spots.length c4, .slice A5 D.told.length c5] 27)) (n := w.heap.size + 1) (by simp) (.cells #[.int .i64 x, .int .i64 y] 34))
  have HA := Aside0.mk (h.below hb1)
  have HF := Aside0.mk h.fits
  clear h hb1
  obtain ⟨q, hq⟩ : ∃ q, w.heap.size = q := ⟨_, rfl⟩
  go_enter Try.func4, Try.ntmps4
  go_wp2_with fail
  generalize (w.alloc (.cells #[.string D.nm, .int .i64 D.rad, .int .i64 D.lo, .int .i64 D.hi, .slice A4 D.spots.length c4, .slice A5 D.told.length c5] 27)).alloc (.cells #[.int .i64 x, .int .i64 y] 34) = w1 at HB HS HX HA ⊢
  rw [hq] at HS HX
  refine (Is_calls D A4 c4 A5 c5 x w1 HA.out).mono ?_
  generalize hcF : isF D x = cF
  obtain ⟨r1, r2⟩ := cF
  rintro e w2 ⟨rfl, hb⟩
  replace HB := Aside0.mk (HB.out.trans (hb.mono HB.out.size))
  replace HS := Aside0.mk (blk_below HS.out hb)
  replace HX := Aside0.mk (blk_below HX.out hb)
  replace HA := Aside0.mk (HA.out.below hb)
  clear hb
  go_upto_region 2 with (fail)
  have k0 := (blk_cell HS.out 0).trans rfl
  have k1 := (blk_cell HS.out 1).trans rfl
  have k2 := (blk_cell HS.out 2).trans rfl
  have k3 := (blk_cell HS.out 3).trans rfl
  have k4 := (blk_cell HS.out 4).trans rfl
  have k5 := (blk_cell HS.out 5).trans rfl
  have kl := blk_lt HS.out
  have x0 := (blk_cell HX.out 0).trans rfl
  have x1 := (blk_cell HX.out 1).trans rfl
  have xl := blk_lt HX.out
  go_wp2_with fail
  clear k0 k1 k2 k3 k4 k5 kl x0 x1 xl
  obtain ⟨K, hK⟩ := (rIs HF.out x).rounds
  rw [hcF] at hK
  have HK := Aside0.mk hK
  clear hK hcF
  refine (helioscoperef01_Is.calls K D.nm D.rad D.lo D.hi A4 c4 D.spots A5 c5 D.told x r1 r2 w2 HA.out.s HA.out.sc HA.out.t HA.out.tc HK.out).mono ?_
  rintro e w3 ⟨rfl, hb⟩
  replace HB := Aside0.mk (HB.out.trans (hb.mono HB.out.size))
  replace HS := Aside0.mk (blk_below HS.out hb)
  replace HX := Aside0.mk (blk_below HX.out hb)
  replace HA := Aside0.mk (HA.out.below hb)
  clear hb
  clear HK
  go_upto_region 5 with (fail)
  have k0 := (blk_cell HS.out 0).trans rfl
  have k1 := (blk_cell HS.out 1).trans rfl
  have k2 := (blk_cell HS.out 2).trans rfl
  have k3 := (blk_cell HS.out 3).trans rfl
  have k4 := (blk_cell HS.out 4).trans rfl
  have k5 := (blk_cell HS.out 5).trans rfl
  have kl := blk_lt HS.out
  have x0 := (blk_cell HX.out 0).trans rfl
  have x1 := (blk_cell HX.out 1).trans rfl
  have xl := blk_lt HX.out
  go_wp2_with fail
  clear k0 k1 k2 k3 k4 k5 kl x0 x1 xl
  refine (One_calls D A4 c4 A5 c5 x y w3 HA.out).mono ?_
  generalize hcF : oneF D x y = cF
  obtain ⟨s1, s2⟩ := cF
  rintro e w4 ⟨rfl, hb⟩
  replace HB := Aside0.mk (HB.out.trans (hb.mono HB.out.size))
  replace HS := Aside0.mk (blk_below HS.out hb)
  replace HX := Aside0.mk (blk_below HX.out hb)
  replace HA := Aside0.mk (HA.out.below hb)
  clear hb
  go_upto_region 6 with (fail)
  have k0 := (blk_cell HS.out 0).trans rfl
  have k1 := (blk_cell HS.out 1).trans rfl
  have k2 := (blk_cell HS.out 2).trans rfl
  have k3 := (blk_cell HS.out 3).trans rfl
  have k4 := (blk_cell HS.out 4).trans rfl
  have k5 := (blk_cell HS.out 5).trans rfl
  have kl := blk_lt HS.out
  have x0 := (blk_cell HX.out 0).trans rfl
  have x1 := (blk_cell HX.out 1).trans rfl
  have xl := blk_lt HX.out
  go_wp2_with fail
  clear k0 k1 k2 k3 k4 k5 kl x0 x1 xl
  obtain ⟨K, hK⟩ := (rOne HF.out x y).rounds
  rw [hcF] at hK
  have HK := Aside0.mk hK
  clear hK hcF
  refine (helioscoperef01_One.calls K D.nm D.rad D.lo D.hi A4 c4 D.spots A5 c5 D.told x y s1 s2 w4 HA.out.s HA.out.sc HA.out.t HA.out.tc HK.out).mono ?_
  rintro e w5 ⟨rfl, hb⟩
  replace HB := Aside0.mk (HB.out.trans (hb.mono HB.out.size))
  replace HS := Aside0.mk (blk_below HS.out hb)
  replace HX := Aside0.mk (blk_below HX.out hb)
  replace HA := Aside0.mk (HA.out.below hb)
  clear hb
  clear HK
  go_upto_region 7 with (fail)
  go_wp2_with fail
  refine (Awake_calls w5).mono ?_
  rintro e w6 ⟨rfl, hb⟩
  replace HB := Aside0.mk (HB.out.trans (hb.mono HB.out.size))
  clear hb
  go_wp2
  go_ret
  exact ⟨rfl, HB.out⟩
end Go.Proofs.Ytemeapfnfegkiaa.D
end
section
/- Small arrays of ints that came in as arguments, opened. -/
namespace Go.Proofs.Ytemeapfnfegkiaa.D
open Go Go.RowKit Go.ChangeShapes Go.WideShapes Go.Deep
set_option linter.unusedVariables false
set_option linter.unusedSectionVars false
section
variable {H : Type} {enc : TypeId × Value → H} {w : World} {base : Nat} {spare : Nat → Bool} {held : Bool} {P : Program}
theorem okWide_array {n : Nat} {e t : TypeId} {r : Reach} {b0 : Nat} {v : Value} (ht : P.underlying t = some (.array n e)) (h : Value.okWide P w r b0 t v) : ∃ cs, v = .agg cs ∧ cs.size = P.cellsOf t := by
  simp only [Value.okWide, ht] at h
  obtain ⟨cs, h1, h2, _⟩ := h
  exact ⟨cs, h1, h2⟩
theorem open_arr2' {e t : TypeId} {r : Reach} {b0 : Nat} {v : Value} {d : DataW H} {p : List MemPlace} (ht : P.underlying t = some (.array 2 e)) (hc : P.cellsOf t = 2) (he : P.underlying e = some (.int .i64)) (hc1 : P.cellsOf e = 1)
    (hv : Value.okWide P w r b0 t v) (h : DataW.Trod enc P w base spare held t v d p) : ∃ x0 x1 : Int, v = .agg #[.int .i64 x0, .int .i64 x1] ∧ (Lit.int .i64 x0).wf = true ∧ (Lit.int .i64 x1).wf = true := by
  obtain ⟨cs, rfl, hsz⟩ := okWide_array ht hv
  obtain ⟨fuel, hf⟩ := h
  obtain ⟨xs, m, _, _, _, hl, hi⟩ := DataW.trod_array ht hf
  obtain ⟨L⟩ := cs
  rw [hc] at hsz
  match L, hsz with
  | [c0, c1], _ =>
    have g0 := hi 0 (by decide)
    rw [hc1, List.getElem?_eq_getElem (by omega)] at g0
    obtain ⟨x0, e0, _, w0⟩ := DataW.trod_int he g0
    simp [Value.cells] at e0
    have g1 := hi 1 (by decide)
    rw [hc1, List.getElem?_eq_getElem (by omega)] at g1
    obtain ⟨x1, e1, _, w1⟩ := DataW.trod_int he g1
    simp [Value.cells] at e1
    subst e0 e1
    exact ⟨x0, x1, rfl, w0, w1⟩
end
section
variable {H : Type} {enc : TypeId × Value → H} {w : World} {base : Nat} {spare : Nat → Bool} {held : Bool}
set_option maxRecDepth 100000 in
theorem open_arr2 {t : TypeId} {r : Reach} {b0 : Nat} {v : Value} {d : DataW H} {p : List MemPlace} (ht : Try.prog.underlying t = some (.array 2 3)) (hc : Try.prog.cellsOf t = 2)
    (hv : Value.okWide Try.prog w r b0 t v) (h : DataW.Trod enc Try.prog w base spare held t v d p) : ∃ x0 x1 : Int, v = .agg #[.int .i64 x0, .int .i64 x1] ∧ (Lit.int .i64 x0).wf = true ∧ (Lit.int .i64 x1).wf = true :=
  open_arr2' ht hc Try.underlying3 (by kernel_rfl) hv h
end
end Go.Proofs.Ytemeapfnfegkiaa.D
end
