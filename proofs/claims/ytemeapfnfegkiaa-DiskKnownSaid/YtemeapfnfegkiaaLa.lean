/- Package disk: DiskKnown. -/
import Derived.Test.YtemeapfnfegkiaaQd
import Derived.Deep.RegionHeld3
namespace Go.Proofs.Ytemeapfnfegkiaa.D
open Go Go.RowKit Go.Proofs.YtemeapfnfegkiaaK Go.Proofs.YtemeapfnfegkiaaW.PrintWords Go.Proofs.YtemeapfnfegkiaaW.PrintLast Go.Proofs.YtemeapfnfegkiaaW.PrintMore Go.Proofs.Ytemeapfnfegkiaa.PR
set_option linter.unusedVariables false
set_option linter.unusedSimpArgs false

theorem ek_one04 : oneF (exD []) 0 4 = (2, 0) := by kernel_rfl
theorem ek_one01 : oneF (exD exT) 0 1 = (1, 0) := by kernel_rfl
theorem ek_one03 : oneF (exD exT) 0 3 = (0, 0) := by kernel_rfl
theorem ek_many : spanF (exD exT) (fun _ g => manyF g) = (1, 2) := by kernel_rfl
theorem ek_spots : spanF (exD exT) (fun _ g => spotsTo g 7) = (3, 4) := by kernel_rfl
theorem ek_number : spanF (exD []) (fun _ g => 10 * manyF g + spotsTo g 7) = (13, 44) := by kernel_rfl
theorem ek_near : spanF (exD []) (fun n _ => n) = (1, 3) := by kernel_rfl
theorem ek_wrong : wrongF (exD exT) = ([], 0) := by kernel_rfl
theorem NewRow.zero {w : World} {n0 : Nat} {v : Value} (h : NewRow w n0 v []) : ∃ A c, v = .slice A 0 c := by
  obtain ⟨A, c, h1, _, h3⟩ := h.shape
  exact ⟨A, c, h1⟩
/-- the memory of DiskKnown -/
structure AK (W : World) (t g1 g2 a2 : Nat) : Prop where
  s1 : W.heap[t]? = some (.cells (shV g1 (.slice none 0 0)) 27 (0, 0))
  s2 : W.heap[t + 1]? = some (.cells (shV g2 (.slice (some ⟨a2, 0, none⟩) 1 1)) 27 (0, 0))
  p1 : W.heap[g1]? = some (.cells exCells 80 (0, 0))
  p2 : W.heap[g2]? = some (.cells exCells 80 (0, 0))
  q2 : W.heap[a2]? = some (.cells #[.int .i64 0, .int .i64 1, .bool true] 52 (0, 0))
theorem AK.chg {t g1 g2 a2 : Nat} {W W' : World} (h : AK W t g1 g2 a2) (hc : Chg (fun k => W.heap.size ≤ k) W W') : AK W' t g1 g2 a2 := by
  have f : ∀ {k : Nat} {o : Obj}, W.heap[k]? = some o → W'.heap[k]? = some o := fun h => hc.heap h (by have := (Array.getElem?_eq_some_iff.1 h).1; omega)
  exact ⟨f h.s1, f h.s2, f h.p1, f h.p2, f h.q2⟩
theorem AK.a1 {t g1 g2 a2 : Nat} {W : World} (h : AK W t g1 g2 a2) : Arg W (exD []) (some ⟨g1, 0, none⟩) 5 none 0 := exArg [] h.p1 ⟨rfl, by decide, fun h => absurd h (by decide)⟩ (Nat.le_refl _)
theorem AK.a2' {t g1 g2 a2 : Nat} {W : World} (h : AK W t g1 g2 a2) : Arg W (exD exT) (some ⟨g2, 0, none⟩) 5 (some ⟨a2, 0, none⟩) 1 := exArg exT h.p2 (exT_C h.q2) (Nat.le_refl _)

set_option maxRecDepth 100000 in
set_option maxHeartbeats 12000000 in
theorem DiskKnown_calls (w : World) : Calls Try.prog 7 #[] w fun e w' => e = .returned (.bool true) ∧ Below w.heap.size w w' := by
  go_enter Try.func7, Try.ntmps7
  go_wp2_with fail
  refine (Sheet_calls _ none 0 0 rfl _).mono ?_
  rintro e w1 ⟨⟨g1, hg1, rfl, hp1⟩, hc1⟩
  have HP1 := Aside0.mk hp1
  have HC1 := Aside0.mk hc1
  clear hp1 hc1
  go_wp2_with fail
  refine (oneL_calls 0 1 _).mono ?_
  rintro e w2 ⟨rfl, hc2⟩
  have HP2 := Aside0.mk (hc2.heap HP1.out id)
  have HC2 := Aside0.mk (HC1.out.trans hc2)
  clear hc2 HP1 HC1
  go_wp2_with fail
  have hq2 := blk_new w2 (.cells #[.int .i64 0, .int .i64 1, .bool true] 52)
  have HQ2 := Aside0.mk hq2
  have HP3 := Aside0.mk (blk_alloc HP2.out (.cells #[.int .i64 0, .int .i64 1, .bool true] 52))
  have HC3 := Aside0.mk (HC2.out.alloc (.cells #[.int .i64 0, .int .i64 1, .bool true] 52))
  obtain ⟨a2, ha2⟩ : ∃ a2, w2.heap.size = a2 := ⟨_, rfl⟩
  generalize w2.alloc (.cells #[.int .i64 0, .int .i64 1, .bool true] 52) = w3 at HQ2 HP3 HC3 ⊢
  rw [ha2] at HQ2 ⊢
  clear ha2 hq2 HP2 HC2
  refine (Sheet_calls _ (some ⟨a2, 0, none⟩) 1 1 rfl _).mono ?_
  rintro e w8 ⟨⟨g2, hg2, rfl, hp2⟩, hc4⟩
  have HP8 := Aside0.mk (hc4.heap HP3.out id)
  have HQ8 := Aside0.mk (hc4.heap HQ2.out id)
  have HR8 := Aside0.mk hp2
  have HC8 := Aside0.mk (HC3.out.trans hc4)
  clear hp2 hc4 HP3 HQ2 HC3 hg2 hg1
  go_upto_region 2 with (fail)
  have M0 : AK ((w8.alloc (.cells (shV g1 (.slice none 0 0)) 27)).alloc (.cells (shV g2 (.slice (some ⟨a2, 0, none⟩) 1 1)) 27)) w8.heap.size g1 g2 a2 :=
    ⟨blk_alloc (blk_new _ _) _, new_at (by simp) _, blk_alloc (blk_alloc HP8.out _) _, blk_alloc (blk_alloc HR8.out _) _, blk_alloc (blk_alloc HQ8.out _) _⟩
  have M := Aside0.mk M0
  have HB : Aside0 (Below w.heap.size w ((w8.alloc (.cells (shV g1 (.slice none 0 0)) 27)).alloc (.cells (shV g2 (.slice (some ⟨a2, 0, none⟩) 1 1)) 27))) := ⟨((HC8.out.alloc _).alloc _).below (fun _ _ x => x.elim) (Nat.le_refl _)⟩
  clear M0
  obtain ⟨t, ht⟩ : ∃ t, w8.heap.size = t := ⟨_, rfl⟩
  generalize ((w8.alloc (.cells (shV g1 (.slice none 0 0)) 27)).alloc (.cells (shV g2 (.slice (some ⟨a2, 0, none⟩) 1 1)) 27)) = W at M HB ⊢
  rw [ht] at M ⊢
  clear ht HP8 HQ8 HR8 HC8
  have k0 : W.cell? ⟨t, 0, none⟩ = some (.string ⟨#[119, 111, 108, 102]⟩) := (blk_cell M.out.s1 0).trans rfl
  have k1 : W.cell? ⟨t, 1, none⟩ = some (.int .i64 5) := (blk_cell M.out.s1 1).trans rfl
  have k2 : W.cell? ⟨t, 2, none⟩ = some (.int .i64 1) := (blk_cell M.out.s1 2).trans rfl
  have k3 : W.cell? ⟨t, 3, none⟩ = some (.int .i64 3) := (blk_cell M.out.s1 3).trans rfl
  have k4 : W.cell? ⟨t, 4, none⟩ = some (.slice (some ⟨g1, 0, none⟩) 5 5) := (blk_cell M.out.s1 4).trans rfl
  have k5 : W.cell? ⟨t, 5, none⟩ = some (.slice none 0 0) := (blk_cell M.out.s1 5).trans rfl
  have kl := blk_lt M.out.s1
  go_wp2_with fail
  refine (One_calls (exD []) (some ⟨g1, 0, none⟩) 5 none 0 0 4 W M.out.a1).mono ?_
  rw [ek_one04]
  rintro e X1 ⟨rfl, hb⟩
  replace M := Aside0.mk (M.out.chg (Chg.of_below hb))
  replace HB := Aside0.mk (HB.out.trans (hb.mono HB.out.size))
  clear hb k0 k1 k2 k3 k4 k5 kl
  go_upto_region 3 with (fail)
  have k0 : X1.cell? ⟨t + 1, 0, none⟩ = some (.string ⟨#[119, 111, 108, 102]⟩) := (blk_cell M.out.s2 0).trans rfl
  have k1 : X1.cell? ⟨t + 1, 1, none⟩ = some (.int .i64 5) := (blk_cell M.out.s2 1).trans rfl
  have k2 : X1.cell? ⟨t + 1, 2, none⟩ = some (.int .i64 1) := (blk_cell M.out.s2 2).trans rfl
  have k3 : X1.cell? ⟨t + 1, 3, none⟩ = some (.int .i64 3) := (blk_cell M.out.s2 3).trans rfl
  have k4 : X1.cell? ⟨t + 1, 4, none⟩ = some (.slice (some ⟨g2, 0, none⟩) 5 5) := (blk_cell M.out.s2 4).trans rfl
  have k5 : X1.cell? ⟨t + 1, 5, none⟩ = some (.slice (some ⟨a2, 0, none⟩) 1 1) := (blk_cell M.out.s2 5).trans rfl
  have kl := blk_lt M.out.s2
  go_wp2_with fail
  refine (One_calls (exD exT) (some ⟨g2, 0, none⟩) 5 (some ⟨a2, 0, none⟩) 1 0 1 X1 M.out.a2').mono ?_
  rw [ek_one01]
  rintro e X2 ⟨rfl, hb⟩
  replace M := Aside0.mk (M.out.chg (Chg.of_below hb))
  replace HB := Aside0.mk (HB.out.trans (hb.mono HB.out.size))
  clear hb k0 k1 k2 k3 k4 k5 kl
  go_upto_region 4 with (fail)
  have k0 : X2.cell? ⟨t + 1, 0, none⟩ = some (.string ⟨#[119, 111, 108, 102]⟩) := (blk_cell M.out.s2 0).trans rfl
  have k1 : X2.cell? ⟨t + 1, 1, none⟩ = some (.int .i64 5) := (blk_cell M.out.s2 1).trans rfl
  have k2 : X2.cell? ⟨t + 1, 2, none⟩ = some (.int .i64 1) := (blk_cell M.out.s2 2).trans rfl
  have k3 : X2.cell? ⟨t + 1, 3, none⟩ = some (.int .i64 3) := (blk_cell M.out.s2 3).trans rfl
  have k4 : X2.cell? ⟨t + 1, 4, none⟩ = some (.slice (some ⟨g2, 0, none⟩) 5 5) := (blk_cell M.out.s2 4).trans rfl
  have k5 : X2.cell? ⟨t + 1, 5, none⟩ = some (.slice (some ⟨a2, 0, none⟩) 1 1) := (blk_cell M.out.s2 5).trans rfl
  have kl := blk_lt M.out.s2
  go_wp2_with fail
  refine (One_calls (exD exT) (some ⟨g2, 0, none⟩) 5 (some ⟨a2, 0, none⟩) 1 0 3 X2 M.out.a2').mono ?_
  rw [ek_one03]
  rintro e X3 ⟨rfl, hb⟩
  replace M := Aside0.mk (M.out.chg (Chg.of_below hb))
  replace HB := Aside0.mk (HB.out.trans (hb.mono HB.out.size))
  clear hb k0 k1 k2 k3 k4 k5 kl
  go_upto_region 5 with (fail)
  have k0 : X3.cell? ⟨t + 1, 0, none⟩ = some (.string ⟨#[119, 111, 108, 102]⟩) := (blk_cell M.out.s2 0).trans rfl
  have k1 : X3.cell? ⟨t + 1, 1, none⟩ = some (.int .i64 5) := (blk_cell M.out.s2 1).trans rfl
  have k2 : X3.cell? ⟨t + 1, 2, none⟩ = some (.int .i64 1) := (blk_cell M.out.s2 2).trans rfl
  have k3 : X3.cell? ⟨t + 1, 3, none⟩ = some (.int .i64 3) := (blk_cell M.out.s2 3).trans rfl
  have k4 : X3.cell? ⟨t + 1, 4, none⟩ = some (.slice (some ⟨g2, 0, none⟩) 5 5) := (blk_cell M.out.s2 4).trans rfl
  have k5 : X3.cell? ⟨t + 1, 5, none⟩ = some (.slice (some ⟨a2, 0, none⟩) 1 1) := (blk_cell M.out.s2 5).trans rfl
  have kl := blk_lt M.out.s2
  go_wp2_with fail
  refine (Counts_calls (exD exT) (some ⟨g2, 0, none⟩) 5 (some ⟨a2, 0, none⟩) 1 X3 M.out.a2').mono ?_
  rw [ek_many, ek_spots, ex_enterT]
  rintro e X4 ⟨rfl, hb⟩
  replace M := Aside0.mk (M.out.chg (Chg.of_below hb))
  replace HB := Aside0.mk (HB.out.trans (hb.mono HB.out.size))
  clear hb k0 k1 k2 k3 k4 k5 kl
  go_upto_region 6 with (fail)
  have hb : Below X4.heap.size X4 ((X4.alloc (.cells #[.int .i64 1, .int .i64 2] 23)).alloc (.cells #[.int .i64 3, .int .i64 4] 23)) := below_alloc (below_alloc (Below.refl _ _) (.cells #[.int .i64 1, .int .i64 2] 23)) (.cells #[.int .i64 3, .int .i64 4] 23)
  replace M := Aside0.mk (M.out.chg (Chg.of_below hb))
  replace HB := Aside0.mk (HB.out.trans (hb.mono HB.out.size))
  have SA : Aside0 (((X4.alloc (.cells #[.int .i64 1, .int .i64 2] 23)).alloc (.cells #[.int .i64 3, .int .i64 4] 23)).heap[X4.heap.size]? = some (.cells #[.int .i64 1, .int .i64 2] 23 (0, 0))) := ⟨blk_alloc (new_at (by simp) _) _⟩
  have SB : Aside0 (((X4.alloc (.cells #[.int .i64 1, .int .i64 2] 23)).alloc (.cells #[.int .i64 3, .int .i64 4] 23)).heap[X4.heap.size + 1]? = some (.cells #[.int .i64 3, .int .i64 4] 23 (0, 0))) := ⟨new_at (by simp) _⟩
  clear hb
  generalize ((X4.alloc (.cells #[.int .i64 1, .int .i64 2] 23)).alloc (.cells #[.int .i64 3, .int .i64 4] 23)) = Y4 at M HB SA SB ⊢
  obtain ⟨sab, hsz⟩ : ∃ sab, X4.heap.size = sab := ⟨_, rfl⟩
  rw [hsz] at SA SB ⊢
  clear hsz
  have k0 : Y4.cell? ⟨t, 0, none⟩ = some (.string ⟨#[119, 111, 108, 102]⟩) := (blk_cell M.out.s1 0).trans rfl
  have k1 : Y4.cell? ⟨t, 1, none⟩ = some (.int .i64 5) := (blk_cell M.out.s1 1).trans rfl
  have k2 : Y4.cell? ⟨t, 2, none⟩ = some (.int .i64 1) := (blk_cell M.out.s1 2).trans rfl
  have k3 : Y4.cell? ⟨t, 3, none⟩ = some (.int .i64 3) := (blk_cell M.out.s1 3).trans rfl
  have k4 : Y4.cell? ⟨t, 4, none⟩ = some (.slice (some ⟨g1, 0, none⟩) 5 5) := (blk_cell M.out.s1 4).trans rfl
  have k5 : Y4.cell? ⟨t, 5, none⟩ = some (.slice none 0 0) := (blk_cell M.out.s1 5).trans rfl
  have kl := blk_lt M.out.s1
  go_wp2_with fail
  refine (Number_calls (exD []) (some ⟨g1, 0, none⟩) 5 none 0 Y4 M.out.a1).mono ?_
  rw [ek_number, ex_enter]
  rintro e X5 ⟨rfl, hb⟩
  replace M := Aside0.mk (M.out.chg (Chg.of_below hb))
  replace HB := Aside0.mk (HB.out.trans (hb.mono HB.out.size))
  replace SA := Aside0.mk (blk_below SA.out hb)
  replace SB := Aside0.mk (blk_below SB.out hb)
  clear hb k0 k1 k2 k3 k4 k5 kl
  go_upto_region 7 with (fail)
  have hb : Below X5.heap.size X5 (X5.alloc (.cells #[.int .i64 13, .int .i64 44] 23)) := below_alloc (Below.refl _ _) (.cells #[.int .i64 13, .int .i64 44] 23)
  replace M := Aside0.mk (M.out.chg (Chg.of_below hb))
  replace HB := Aside0.mk (HB.out.trans (hb.mono HB.out.size))
  replace SA := Aside0.mk (blk_below SA.out hb)
  replace SB := Aside0.mk (blk_below SB.out hb)
  have SN : Aside0 ((X5.alloc (.cells #[.int .i64 13, .int .i64 44] 23)).heap[X5.heap.size]? = some (.cells #[.int .i64 13, .int .i64 44] 23 (0, 0))) := ⟨new_at (by simp) _⟩
  clear hb
  generalize (X5.alloc (.cells #[.int .i64 13, .int .i64 44] 23)) = Y5 at M HB SA SB SN ⊢
  obtain ⟨snb, hsz⟩ : ∃ snb, X5.heap.size = snb := ⟨_, rfl⟩
  rw [hsz] at SN ⊢
  clear hsz
  have k0 : Y5.cell? ⟨t, 0, none⟩ = some (.string ⟨#[119, 111, 108, 102]⟩) := (blk_cell M.out.s1 0).trans rfl
  have k1 : Y5.cell? ⟨t, 1, none⟩ = some (.int .i64 5) := (blk_cell M.out.s1 1).trans rfl
  have k2 : Y5.cell? ⟨t, 2, none⟩ = some (.int .i64 1) := (blk_cell M.out.s1 2).trans rfl
  have k3 : Y5.cell? ⟨t, 3, none⟩ = some (.int .i64 3) := (blk_cell M.out.s1 3).trans rfl
  have k4 : Y5.cell? ⟨t, 4, none⟩ = some (.slice (some ⟨g1, 0, none⟩) 5 5) := (blk_cell M.out.s1 4).trans rfl
  have k5 : Y5.cell? ⟨t, 5, none⟩ = some (.slice none 0 0) := (blk_cell M.out.s1 5).trans rfl
  have kl := blk_lt M.out.s1
  go_wp2_with fail
  refine (Near_calls (exD []) (some ⟨g1, 0, none⟩) 5 none 0 Y5 M.out.a1).mono ?_
  rw [ek_near, ex_enter]
  rintro e X6 ⟨rfl, hb⟩
  replace M := Aside0.mk (M.out.chg (Chg.of_below hb))
  replace HB := Aside0.mk (HB.out.trans (hb.mono HB.out.size))
  replace SA := Aside0.mk (blk_below SA.out hb)
  replace SB := Aside0.mk (blk_below SB.out hb)
  replace SN := Aside0.mk (blk_below SN.out hb)
  clear hb k0 k1 k2 k3 k4 k5 kl
  go_upto_region 8 with (fail)
  have hb : Below X6.heap.size X6 (X6.alloc (.cells #[.int .i64 1, .int .i64 3] 23)) := below_alloc (Below.refl _ _) (.cells #[.int .i64 1, .int .i64 3] 23)
  replace M := Aside0.mk (M.out.chg (Chg.of_below hb))
  replace HB := Aside0.mk (HB.out.trans (hb.mono HB.out.size))
  replace SA := Aside0.mk (blk_below SA.out hb)
  replace SB := Aside0.mk (blk_below SB.out hb)
  replace SN := Aside0.mk (blk_below SN.out hb)
  have SR : Aside0 ((X6.alloc (.cells #[.int .i64 1, .int .i64 3] 23)).heap[X6.heap.size]? = some (.cells #[.int .i64 1, .int .i64 3] 23 (0, 0))) := ⟨new_at (by simp) _⟩
  clear hb
  generalize (X6.alloc (.cells #[.int .i64 1, .int .i64 3] 23)) = Y6 at M HB SA SB SN SR ⊢
  obtain ⟨srb, hsz⟩ : ∃ srb, X6.heap.size = srb := ⟨_, rfl⟩
  rw [hsz] at SR ⊢
  clear hsz
  have k0 : Y6.cell? ⟨t + 1, 0, none⟩ = some (.string ⟨#[119, 111, 108, 102]⟩) := (blk_cell M.out.s2 0).trans rfl
  have k1 : Y6.cell? ⟨t + 1, 1, none⟩ = some (.int .i64 5) := (blk_cell M.out.s2 1).trans rfl
  have k2 : Y6.cell? ⟨t + 1, 2, none⟩ = some (.int .i64 1) := (blk_cell M.out.s2 2).trans rfl
  have k3 : Y6.cell? ⟨t + 1, 3, none⟩ = some (.int .i64 3) := (blk_cell M.out.s2 3).trans rfl
  have k4 : Y6.cell? ⟨t + 1, 4, none⟩ = some (.slice (some ⟨g2, 0, none⟩) 5 5) := (blk_cell M.out.s2 4).trans rfl
  have k5 : Y6.cell? ⟨t + 1, 5, none⟩ = some (.slice (some ⟨a2, 0, none⟩) 1 1) := (blk_cell M.out.s2 5).trans rfl
  have kl := blk_lt M.out.s2
  go_wp2_with fail
  refine (Wrong_calls (exD exT) (some ⟨g2, 0, none⟩) 5 (some ⟨a2, 0, none⟩) 1 Y6 M.out.a2').mono ?_
  rw [ek_wrong]
  rintro e X7 ⟨⟨vw, rfl, hnr⟩, hb⟩
  replace M := Aside0.mk (M.out.chg (Chg.of_below hb))
  replace HB := Aside0.mk (HB.out.trans (hb.mono HB.out.size))
  replace SA := Aside0.mk (blk_below SA.out hb)
  replace SB := Aside0.mk (blk_below SB.out hb)
  replace SN := Aside0.mk (blk_below SN.out hb)
  replace SR := Aside0.mk (blk_below SR.out hb)
  obtain ⟨Aw, cw, rfl⟩ := hnr.zero
  clear hnr
  clear hb k0 k1 k2 k3 k4 k5 kl
  go_upto_region 9 with (fail)
  have sa0 : X7.drew.cell? ⟨sab, 0, none⟩ = some (.int .i64 1) := (blk_cell SA.out 0).trans rfl
  have sa1 : X7.drew.cell? ⟨sab, 1, none⟩ = some (.int .i64 2) := (blk_cell SA.out 1).trans rfl
  have sb0 : X7.drew.cell? ⟨sab + 1, 0, none⟩ = some (.int .i64 3) := (blk_cell SB.out 0).trans rfl
  have sb1 : X7.drew.cell? ⟨sab + 1, 1, none⟩ = some (.int .i64 4) := (blk_cell SB.out 1).trans rfl
  have sn0 : X7.drew.cell? ⟨snb, 0, none⟩ = some (.int .i64 13) := (blk_cell SN.out 0).trans rfl
  have sn1 : X7.drew.cell? ⟨snb, 1, none⟩ = some (.int .i64 44) := (blk_cell SN.out 1).trans rfl
  have sr0 : X7.drew.cell? ⟨srb, 0, none⟩ = some (.int .i64 1) := (blk_cell SR.out 0).trans rfl
  have sr1 : X7.drew.cell? ⟨srb, 1, none⟩ = some (.int .i64 3) := (blk_cell SR.out 1).trans rfl
  have HBd : Aside0 (Below w.heap.size w X7.drew) := ⟨below_drew1 HB.out⟩
  clear SA SB SN SR M HB
  simp only [List.append_eq, List.cons_append, List.nil_append]
  go_region_held3 (fun w' : World => w'.cell? ⟨sab, 0, none⟩ = some (.int .i64 1) ∧ w'.cell? ⟨sab, 1, none⟩ = some (.int .i64 2) ∧ w'.cell? ⟨sab + 1, 0, none⟩ = some (.int .i64 3) ∧ w'.cell? ⟨sab + 1, 1, none⟩ = some (.int .i64 4) ∧ w'.cell? ⟨snb, 0, none⟩ = some (.int .i64 13) ∧ w'.cell? ⟨snb, 1, none⟩ = some (.int .i64 44) ∧ w'.cell? ⟨srb, 0, none⟩ = some (.int .i64 1) ∧ w'.cell? ⟨srb, 1, none⟩ = some (.int .i64 3)) (first | (refine ⟨?_, ?_, ?_, ?_, ?_, ?_, ?_, ?_⟩ <;> assumption) | (refine ⟨?_, ?_, ?_, ?_, ?_, ?_, ?_, ?_⟩ <;> exact Lib.cell?_alloc_some _ (by assumption)) | go_keep) (first | (go_at_call 40; refine (span_calls _ _ _).mono ?_; rintro e w' ⟨rfl, hc⟩; have hbl := hc.below (fun _ _ x => x.elim) (Nat.le_refl _); replace sa0 := hc.cell sa0 id; replace sa1 := hc.cell sa1 id; replace sb0 := hc.cell sb0 id; replace sb1 := hc.cell sb1 id; replace sn0 := hc.cell sn0 id; replace sn1 := hc.cell sn1 id; replace sr0 := hc.cell sr0 id; replace sr1 := hc.cell sr1 id; replace HBd := Aside0.mk (HBd.out.trans (hbl.mono HBd.out.size)); clear hc hbl) | (go_at_call 22; refine (Awake_calls _).mono ?_; rintro e w' ⟨rfl, hbl⟩; have hc := Chg.of_below hbl; replace sa0 := hc.cell sa0 (fun hx => Nat.lt_irrefl _ (Nat.lt_of_lt_of_le (World.block_lt_of_cell? _ _ sa0) hx)); replace sa1 := hc.cell sa1 (fun hx => Nat.lt_irrefl _ (Nat.lt_of_lt_of_le (World.block_lt_of_cell? _ _ sa1) hx)); replace sb0 := hc.cell sb0 (fun hx => Nat.lt_irrefl _ (Nat.lt_of_lt_of_le (World.block_lt_of_cell? _ _ sb0) hx)); replace sb1 := hc.cell sb1 (fun hx => Nat.lt_irrefl _ (Nat.lt_of_lt_of_le (World.block_lt_of_cell? _ _ sb1) hx)); replace sn0 := hc.cell sn0 (fun hx => Nat.lt_irrefl _ (Nat.lt_of_lt_of_le (World.block_lt_of_cell? _ _ sn0) hx)); replace sn1 := hc.cell sn1 (fun hx => Nat.lt_irrefl _ (Nat.lt_of_lt_of_le (World.block_lt_of_cell? _ _ sn1) hx)); replace sr0 := hc.cell sr0 (fun hx => Nat.lt_irrefl _ (Nat.lt_of_lt_of_le (World.block_lt_of_cell? _ _ sr0) hx)); replace sr1 := hc.cell sr1 (fun hx => Nat.lt_irrefl _ (Nat.lt_of_lt_of_le (World.block_lt_of_cell? _ _ sr1) hx)); replace HBd := Aside0.mk (HBd.out.trans (hbl.mono HBd.out.size)); clear hc hbl))
  go_wp2
  go_ret
  exact ⟨rfl, HBd.out⟩
end Go.Proofs.Ytemeapfnfegkiaa.D
