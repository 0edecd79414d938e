/- Contracts of the functions that this claim reaches, and the words for them. -/
import Derived.Test.YtemeapfnfegkiaaQc
import Derived.Test.YtemeapfnfegkiaaQk
/- Package disk: Awake. -/
section
namespace Go.Proofs.Ytemeapfnfegkiaa.D
open Go Go.RowKit Go.Proofs.YtemeapfnfegkiaaK Go.Proofs.YtemeapfnfegkiaaW.PrintWords Go.Proofs.YtemeapfnfegkiaaW.PrintLast Go.Proofs.YtemeapfnfegkiaaW.PrintMore Go.Proofs.Ytemeapfnfegkiaa.PR
set_option linter.unusedVariables false
set_option linter.unusedSimpArgs false

abbrev shV (g : Nat) (v : Value) : Array Value := #[.string ⟨#[119, 111, 108, 102]⟩, .int .i64 5, .int .i64 1, .int .i64 3, .slice (some ⟨g, 0, none⟩) 5 5, v]
/-- the memory of Awake -/
structure AW (n0 : Nat) (W : World) (t g1 g2 g3 a2 a3 : Nat) : Prop where
  s1 : W.heap[t]? = some (.cells (shV g1 (.slice none 0 0)) 27 (0, 0))
  s2 : W.heap[t + 1]? = some (.cells (shV g2 (.slice (some ⟨a2, 0, none⟩) 1 1)) 27 (0, 0))
  s3 : W.heap[t + 1 + 1]? = some (.cells (shV g3 (.slice (some ⟨a3, 0, none⟩) 2 2)) 27 (0, 0))
  p1 : W.heap[g1]? = some (.cells exCells 80 (0, 0))
  p2 : W.heap[g2]? = some (.cells exCells 80 (0, 0))
  p3 : W.heap[g3]? = some (.cells exCells 80 (0, 0))
  q2 : W.heap[a2]? = some (.cells #[.int .i64 0, .int .i64 1, .bool true] 52 (0, 0))
  q3 : W.heap[a3]? = some (.cells #[.int .i64 0, .int .i64 1, .bool true, .int .i64 0, .int .i64 1, .bool false] 52 (0, 0))
theorem AW.chg {n0 t g1 g2 g3 a2 a3 : Nat} {W W' : World} (h : AW n0 W t g1 g2 g3 a2 a3) (hc : Chg (fun k => W.heap.size ≤ k) W W') : AW n0 W' t g1 g2 g3 a2 a3 := by
  have f : ∀ {k : Nat} {o : Obj}, W.heap[k]? = some o → W'.heap[k]? = some o := fun h => hc.heap h (by have := (Array.getElem?_eq_some_iff.1 h).1; omega)
  exact ⟨f h.s1, f h.s2, f h.s3, f h.p1, f h.p2, f h.p3, f h.q2, f h.q3⟩
theorem AW.a1 {n0 t g1 g2 g3 a2 a3 : Nat} {W : World} (h : AW n0 W t g1 g2 g3 a2 a3) : Arg W (exD []) (some ⟨g1, 0, none⟩) 5 none 0 := exArg [] h.p1 ⟨rfl, by decide, fun h => absurd h (by decide)⟩ (Nat.le_refl _)
theorem AW.a2' {n0 t g1 g2 g3 a2 a3 : Nat} {W : World} (h : AW n0 W t g1 g2 g3 a2 a3) : Arg W (exD exT) (some ⟨g2, 0, none⟩) 5 (some ⟨a2, 0, none⟩) 1 := exArg exT h.p2 (exT_C h.q2) (Nat.le_refl _)
theorem AW.a3' {n0 t g1 g2 g3 a2 a3 : Nat} {W : World} (h : AW n0 W t g1 g2 g3 a2 a3) : Arg W (exD exW) (some ⟨g3, 0, none⟩) 5 (some ⟨a3, 0, none⟩) 2 := exArg exW h.p3 (exW_C h.q3) (Nat.le_refl _)

def awM : List Nat := [0, 1, 2, 3, 4, 5, 6, 7, 8, 9, 10, 11, 12, 13, 14, 15, 16, 17, 18, 19, 20, 21, 22, 23, 24, 25, 26, 27, 28, 29, 30, 31, 32, 33, 34, 35, 36, 37, 38, 39, 40, 41, 42, 43, 44, 45, 46, 47, 48, 49, 50, 51, 52, 53, 54, 55, 56, 57, 58, 59, 59, 61, 62, 63, 64, 64, 66, 67, 68, 69, 69, 71, 72, 73, 74, 74, 76, 77, 78, 79, 80, 81, 82, 83, 84, 85, 86, 87, 88, 89, 90, 91, 91, 93, 94, 95, 96, 97, 98, 99, 100, 101, 102]
set_option maxRecDepth 100000 in
set_option maxHeartbeats 12000000 in
theorem Awake_calls (w : World) : Calls Try.prog 22 #[] w fun e w' => e = .returned (.bool true) ∧ Below w.heap.size w w' := by
  go_enter Try.func22, Try.ntmps22
  go_wp2_with fail
  refine (Sheet_calls _ none 0 0 rfl _).mono ?_
  rintro e w1 ⟨⟨g1, hg1, rfl, hp1⟩, hc1⟩
  have HP1 := Aside0.mk hp1
  have HC1 := Aside0.mk hc1
  clear hp1 hc1
  go_wp2_with fail
  refine (oneL_calls 0 1 _).mono ?_
  rintro e w2 ⟨rfl, hc2⟩
  have HP2 := Aside0.mk (hc2.heap HP1.out id)
  have HC2 := Aside0.mk (HC1.out.trans hc2)
  clear hc2 HP1 HC1
  go_wp2_with fail
  have hq2 := blk_new w2 (.cells #[.int .i64 0, .int .i64 1, .bool true] 52)
  have HQ2 := Aside0.mk hq2
  have HP3 := Aside0.mk (blk_alloc HP2.out (.cells #[.int .i64 0, .int .i64 1, .bool true] 52))
  have HC3 := Aside0.mk (HC2.out.alloc (.cells #[.int .i64 0, .int .i64 1, .bool true] 52))
  obtain ⟨a2, ha2⟩ : ∃ a2, w2.heap.size = a2 := ⟨_, rfl⟩
  generalize w2.alloc (.cells #[.int .i64 0, .int .i64 1, .bool true] 52) = w3 at HQ2 HP3 HC3 ⊢
  rw [ha2] at HQ2 ⊢
  clear ha2 hq2 HP2 HC2
  refine (Sheet_calls _ (some ⟨a2, 0, none⟩) 1 1 rfl _).mono ?_
  rintro e w4 ⟨⟨g2, hg2, rfl, hp2⟩, hc4⟩
  have HP4 := Aside0.mk (hc4.heap HP3.out id)
  have HQ4 := Aside0.mk (hc4.heap HQ2.out id)
  have HR4 := Aside0.mk hp2
  have HC4 := Aside0.mk (HC3.out.trans hc4)
  clear hp2 hc4 HP3 HQ2 HC3 hg2
  go_wp2_with fail
  refine (oneL_calls 0 1 _).mono ?_
  rintro e w5 ⟨rfl, hc⟩
  have HP5 := Aside0.mk (hc.heap HP4.out id)
  have HQ5 := Aside0.mk (hc.heap HQ4.out id)
  have HR5 := Aside0.mk (hc.heap HR4.out id)
  have HC5 := Aside0.mk (HC4.out.trans hc)
  clear hc HP4 HQ4 HR4 HC4
  go_wp2_with fail
  refine (notL_calls 0 1 _).mono ?_
  rintro e w6 ⟨rfl, hc⟩
  have HP6 := Aside0.mk (hc.heap HP5.out id)
  have HQ6 := Aside0.mk (hc.heap HQ5.out id)
  have HR6 := Aside0.mk (hc.heap HR5.out id)
  have HC6 := Aside0.mk (HC5.out.trans hc)
  clear hc HP5 HQ5 HR5 HC5
  go_wp2_with fail
  have HS := Aside0.mk (blk_new w6 (.cells #[.int .i64 0, .int .i64 1, .bool true, .int .i64 0, .int .i64 1, .bool false] 52))
  have hc := (Chg.refl (fun _ => False) w6).alloc (.cells #[.int .i64 0, .int .i64 1, .bool true, .int .i64 0, .int .i64 1, .bool false] 52)
  have HP7 := Aside0.mk (hc.heap HP6.out id)
  have HQ7 := Aside0.mk (hc.heap HQ6.out id)
  have HR7 := Aside0.mk (hc.heap HR6.out id)
  have HC7 := Aside0.mk (HC6.out.trans hc)
  obtain ⟨a3, ha3⟩ : ∃ a3, w6.heap.size = a3 := ⟨_, rfl⟩
  clear hc
  generalize w6.alloc (.cells #[.int .i64 0, .int .i64 1, .bool true, .int .i64 0, .int .i64 1, .bool false] 52) = w7 at HS HP7 HQ7 HR7 HC7 ⊢
  rw [ha3] at HS ⊢
  clear ha3 HP6 HQ6 HR6 HC6
  refine (Sheet_calls _ (some ⟨a3, 0, none⟩) 2 2 rfl _).mono ?_
  rintro e w8 ⟨⟨g3, hg3, rfl, hp3⟩, hc⟩
  have HP8 := Aside0.mk (hc.heap HP7.out id)
  have HQ8 := Aside0.mk (hc.heap HQ7.out id)
  have HR8 := Aside0.mk (hc.heap HR7.out id)
  have HS8 := Aside0.mk (hc.heap HS.out id)
  have HT8 := Aside0.mk hp3
  have HC8 := Aside0.mk (HC7.out.trans hc)
  clear hc hp3 hg3 HP7 HQ7 HR7 HS HC7 hg1
  go_upto_region 2 with (fail)
  have M0 : AW 0 (((w8.alloc (.cells (shV g1 (.slice none 0 0)) 27)).alloc (.cells (shV g2 (.slice (some ⟨a2, 0, none⟩) 1 1)) 27)).alloc (.cells (shV g3 (.slice (some ⟨a3, 0, none⟩) 2 2)) 27)) w8.heap.size g1 g2 g3 a2 a3 :=
    ⟨blk_alloc (blk_alloc (blk_new _ _) _) _, blk_alloc (new_at (by simp) _) _, new_at (by simp) _, blk_alloc (blk_alloc (blk_alloc HP8.out _) _) _, blk_alloc (blk_alloc (blk_alloc HR8.out _) _) _, blk_alloc (blk_alloc (blk_alloc HT8.out _) _) _, blk_alloc (blk_alloc (blk_alloc HQ8.out _) _) _, blk_alloc (blk_alloc (blk_alloc HS8.out _) _) _⟩
  have M := Aside0.mk M0
  have HB : Aside0 (Below w.heap.size w (((w8.alloc (.cells (shV g1 (.slice none 0 0)) 27)).alloc (.cells (shV g2 (.slice (some ⟨a2, 0, none⟩) 1 1)) 27)).alloc (.cells (shV g3 (.slice (some ⟨a3, 0, none⟩) 2 2)) 27))) := ⟨(((HC8.out.alloc _).alloc _).alloc _).below (fun _ _ x => x.elim) (Nat.le_refl _)⟩
  clear M0
  obtain ⟨t, ht⟩ : ∃ t, w8.heap.size = t := ⟨_, rfl⟩
  generalize (((w8.alloc (.cells (shV g1 (.slice none 0 0)) 27)).alloc (.cells (shV g2 (.slice (some ⟨a2, 0, none⟩) 1 1)) 27)).alloc (.cells (shV g3 (.slice (some ⟨a3, 0, none⟩) 2 2)) 27)) = W at M HB ⊢
  rw [ht] at M ⊢
  clear ht HP8 HQ8 HR8 HS8 HT8 HC8
  have k0 : W.cell? ⟨t, 0, none⟩ = some (.string ⟨#[119, 111, 108, 102]⟩) := (blk_cell M.out.s1 0).trans rfl
  have k1 : W.cell? ⟨t, 1, none⟩ = some (.int .i64 5) := (blk_cell M.out.s1 1).trans rfl
  have k2 : W.cell? ⟨t, 2, none⟩ = some (.int .i64 1) := (blk_cell M.out.s1 2).trans rfl
  have k3 : W.cell? ⟨t, 3, none⟩ = some (.int .i64 3) := (blk_cell M.out.s1 3).trans rfl
  have k4 : W.cell? ⟨t, 4, none⟩ = some (.slice (some ⟨g1, 0, none⟩) 5 5) := (blk_cell M.out.s1 4).trans rfl
  have k5 : W.cell? ⟨t, 5, none⟩ = some (.slice none 0 0) := (blk_cell M.out.s1 5).trans rfl
  have kl := blk_lt M.out.s1
  go_wp2_with fail
  refine (Is_calls (exD []) (some ⟨g1, 0, none⟩) 5 none 0 0 W M.out.a1).mono ?_
  rw [ex_is0]
  rintro e X1 ⟨rfl, hb⟩
  have M' := Aside0.mk (M.out.chg (Chg.of_below hb))
  have HB' := Aside0.mk (HB.out.trans (hb.mono HB.out.size))
  clear hb k0 k1 k2 k3 k4 k5 kl M HB
  have M := M'
  have HB := HB'
  clear M' HB'
  go_upto_region 3 with (fail)
  have k0 : X1.cell? ⟨t, 0, none⟩ = some (.string ⟨#[119, 111, 108, 102]⟩) := (blk_cell M.out.s1 0).trans rfl
  have k1 : X1.cell? ⟨t, 1, none⟩ = some (.int .i64 5) := (blk_cell M.out.s1 1).trans rfl
  have k2 : X1.cell? ⟨t, 2, none⟩ = some (.int .i64 1) := (blk_cell M.out.s1 2).trans rfl
  have k3 : X1.cell? ⟨t, 3, none⟩ = some (.int .i64 3) := (blk_cell M.out.s1 3).trans rfl
  have k4 : X1.cell? ⟨t, 4, none⟩ = some (.slice (some ⟨g1, 0, none⟩) 5 5) := (blk_cell M.out.s1 4).trans rfl
  have k5 : X1.cell? ⟨t, 5, none⟩ = some (.slice none 0 0) := (blk_cell M.out.s1 5).trans rfl
  have kl := blk_lt M.out.s1
  go_wp2_with fail
  refine (Is_calls (exD []) (some ⟨g1, 0, none⟩) 5 none 0 2 X1 M.out.a1).mono ?_
  rw [ex_is2]
  rintro e X2 ⟨rfl, hb⟩
  have M' := Aside0.mk (M.out.chg (Chg.of_below hb))
  have HB' := Aside0.mk (HB.out.trans (hb.mono HB.out.size))
  clear hb k0 k1 k2 k3 k4 k5 kl M HB
  have M := M'
  have HB := HB'
  clear M' HB'
  go_upto_region 4 with (fail)
  have k0 : X2.cell? ⟨t, 0, none⟩ = some (.string ⟨#[119, 111, 108, 102]⟩) := (blk_cell M.out.s1 0).trans rfl
  have k1 : X2.cell? ⟨t, 1, none⟩ = some (.int .i64 5) := (blk_cell M.out.s1 1).trans rfl
  have k2 : X2.cell? ⟨t, 2, none⟩ = some (.int .i64 1) := (blk_cell M.out.s1 2).trans rfl
  have k3 : X2.cell? ⟨t, 3, none⟩ = some (.int .i64 3) := (blk_cell M.out.s1 3).trans rfl
  have k4 : X2.cell? ⟨t, 4, none⟩ = some (.slice (some ⟨g1, 0, none⟩) 5 5) := (blk_cell M.out.s1 4).trans rfl
  have k5 : X2.cell? ⟨t, 5, none⟩ = some (.slice none 0 0) := (blk_cell M.out.s1 5).trans rfl
  have kl := blk_lt M.out.s1
  go_wp2_with fail
  refine (Is_calls (exD []) (some ⟨g1, 0, none⟩) 5 none 0 4 X2 M.out.a1).mono ?_
  rw [ex_is4]
  rintro e X3 ⟨rfl, hb⟩
  have M' := Aside0.mk (M.out.chg (Chg.of_below hb))
  have HB' := Aside0.mk (HB.out.trans (hb.mono HB.out.size))
  clear hb k0 k1 k2 k3 k4 k5 kl M HB
  have M := M'
  have HB := HB'
  clear M' HB'
  go_upto_region 5 with (fail)
  have k0 : X3.cell? ⟨t, 0, none⟩ = some (.string ⟨#[119, 111, 108, 102]⟩) := (blk_cell M.out.s1 0).trans rfl
  have k1 : X3.cell? ⟨t, 1, none⟩ = some (.int .i64 5) := (blk_cell M.out.s1 1).trans rfl
  have k2 : X3.cell? ⟨t, 2, none⟩ = some (.int .i64 1) := (blk_cell M.out.s1 2).trans rfl
  have k3 : X3.cell? ⟨t, 3, none⟩ = some (.int .i64 3) := (blk_cell M.out.s1 3).trans rfl
  have k4 : X3.cell? ⟨t, 4, none⟩ = some (.slice (some ⟨g1, 0, none⟩) 5 5) := (blk_cell M.out.s1 4).trans rfl
  have k5 : X3.cell? ⟨t, 5, none⟩ = some (.slice none 0 0) := (blk_cell M.out.s1 5).trans rfl
  have kl := blk_lt M.out.s1
  go_wp2_with fail
  refine (One_calls (exD []) (some ⟨g1, 0, none⟩) 5 none 0 0 1 X3 M.out.a1).mono ?_
  rw [ex_one01]
  rintro e X4 ⟨rfl, hb⟩
  have M' := Aside0.mk (M.out.chg (Chg.of_below hb))
  have HB' := Aside0.mk (HB.out.trans (hb.mono HB.out.size))
  clear hb k0 k1 k2 k3 k4 k5 kl M HB
  have M := M'
  have HB := HB'
  clear M' HB'
  go_upto_region 6 with (fail)
  have k0 : X4.cell? ⟨t, 0, none⟩ = some (.string ⟨#[119, 111, 108, 102]⟩) := (blk_cell M.out.s1 0).trans rfl
  have k1 : X4.cell? ⟨t, 1, none⟩ = some (.int .i64 5) := (blk_cell M.out.s1 1).trans rfl
  have k2 : X4.cell? ⟨t, 2, none⟩ = some (.int .i64 1) := (blk_cell M.out.s1 2).trans rfl
  have k3 : X4.cell? ⟨t, 3, none⟩ = some (.int .i64 3) := (blk_cell M.out.s1 3).trans rfl
  have k4 : X4.cell? ⟨t, 4, none⟩ = some (.slice (some ⟨g1, 0, none⟩) 5 5) := (blk_cell M.out.s1 4).trans rfl
  have k5 : X4.cell? ⟨t, 5, none⟩ = some (.slice none 0 0) := (blk_cell M.out.s1 5).trans rfl
  have kl := blk_lt M.out.s1
  go_wp2_with fail
  refine (Counts_calls (exD []) (some ⟨g1, 0, none⟩) 5 none 0 X4 M.out.a1).mono ?_
  rw [ex_many, ex_spots, ex_enter]
  rintro e X5 ⟨rfl, hb⟩
  have M' := Aside0.mk (M.out.chg (Chg.of_below hb))
  have HB' := Aside0.mk (HB.out.trans (hb.mono HB.out.size))
  clear hb k0 k1 k2 k3 k4 k5 kl M HB
  have M := M'
  have HB := HB'
  clear M' HB'
  go_upto_region 7 with (fail)
  have hb : Below X5.heap.size X5 ((X5.alloc (.cells #[.int .i64 1, .int .i64 4] 23)).alloc (.cells #[.int .i64 3, .int .i64 4] 23)) := below_alloc (below_alloc (Below.refl _ _) (.cells #[.int .i64 1, .int .i64 4] 23)) (.cells #[.int .i64 3, .int .i64 4] 23)
  have M' := Aside0.mk (M.out.chg (Chg.of_below hb))
  have HB' := Aside0.mk (HB.out.trans (hb.mono HB.out.size))
  have SA' : Aside0 (((X5.alloc (.cells #[.int .i64 1, .int .i64 4] 23)).alloc (.cells #[.int .i64 3, .int .i64 4] 23)).heap[X5.heap.size]? = some (.cells #[.int .i64 1, .int .i64 4] 23 (0, 0))) := ⟨blk_alloc (new_at (by simp) _) _⟩
  have SB' : Aside0 (((X5.alloc (.cells #[.int .i64 1, .int .i64 4] 23)).alloc (.cells #[.int .i64 3, .int .i64 4] 23)).heap[X5.heap.size + 1]? = some (.cells #[.int .i64 3, .int .i64 4] 23 (0, 0))) := ⟨new_at (by simp) _⟩
  clear hb M HB
  have M := M'
  have HB := HB'
  have SA := SA'
  have SB := SB'
  clear M' HB' SA' SB'
  generalize ((X5.alloc (.cells #[.int .i64 1, .int .i64 4] 23)).alloc (.cells #[.int .i64 3, .int .i64 4] 23)) = Y5 at M HB SA SB ⊢
  obtain ⟨sab, hsz⟩ : ∃ sab, X5.heap.size = sab := ⟨_, rfl⟩
  rw [hsz] at SA SB ⊢
  clear hsz
  have k0 : Y5.cell? ⟨t + 1, 0, none⟩ = some (.string ⟨#[119, 111, 108, 102]⟩) := (blk_cell M.out.s2 0).trans rfl
  have k1 : Y5.cell? ⟨t + 1, 1, none⟩ = some (.int .i64 5) := (blk_cell M.out.s2 1).trans rfl
  have k2 : Y5.cell? ⟨t + 1, 2, none⟩ = some (.int .i64 1) := (blk_cell M.out.s2 2).trans rfl
  have k3 : Y5.cell? ⟨t + 1, 3, none⟩ = some (.int .i64 3) := (blk_cell M.out.s2 3).trans rfl
  have k4 : Y5.cell? ⟨t + 1, 4, none⟩ = some (.slice (some ⟨g2, 0, none⟩) 5 5) := (blk_cell M.out.s2 4).trans rfl
  have k5 : Y5.cell? ⟨t + 1, 5, none⟩ = some (.slice (some ⟨a2, 0, none⟩) 1 1) := (blk_cell M.out.s2 5).trans rfl
  have kl := blk_lt M.out.s2
  go_wp2_with fail
  refine (Number_calls (exD exT) (some ⟨g2, 0, none⟩) 5 (some ⟨a2, 0, none⟩) 1 Y5 M.out.a2').mono ?_
  rw [ex_number, ex_enterT]
  rintro e X6 ⟨rfl, hb⟩
  have M' := Aside0.mk (M.out.chg (Chg.of_below hb))
  have HB' := Aside0.mk (HB.out.trans (hb.mono HB.out.size))
  have SA' := Aside0.mk (blk_below SA.out hb)
  have SB' := Aside0.mk (blk_below SB.out hb)
  clear hb k0 k1 k2 k3 k4 k5 kl M HB SA SB
  have M := M'
  have HB := HB'
  have SA := SA'
  have SB := SB'
  clear M' HB' SA' SB'
  go_upto_region 8 with (fail)
  have hb : Below X6.heap.size X6 (X6.alloc (.cells #[.int .i64 13, .int .i64 24] 23)) := below_alloc (Below.refl _ _) (.cells #[.int .i64 13, .int .i64 24] 23)
  have M' := Aside0.mk (M.out.chg (Chg.of_below hb))
  have HB' := Aside0.mk (HB.out.trans (hb.mono HB.out.size))
  have SA' := Aside0.mk (blk_below SA.out hb)
  have SB' := Aside0.mk (blk_below SB.out hb)
  have SN' : Aside0 ((X6.alloc (.cells #[.int .i64 13, .int .i64 24] 23)).heap[X6.heap.size]? = some (.cells #[.int .i64 13, .int .i64 24] 23 (0, 0))) := ⟨new_at (by simp) _⟩
  clear hb M HB SA SB
  have M := M'
  have HB := HB'
  have SA := SA'
  have SB := SB'
  have SN := SN'
  clear M' HB' SA' SB' SN'
  generalize (X6.alloc (.cells #[.int .i64 13, .int .i64 24] 23)) = Y6 at M HB SA SB SN ⊢
  obtain ⟨snb, hsz⟩ : ∃ snb, X6.heap.size = snb := ⟨_, rfl⟩
  rw [hsz] at SN ⊢
  clear hsz
  have k0 : Y6.cell? ⟨t + 1, 0, none⟩ = some (.string ⟨#[119, 111, 108, 102]⟩) := (blk_cell M.out.s2 0).trans rfl
  have k1 : Y6.cell? ⟨t + 1, 1, none⟩ = some (.int .i64 5) := (blk_cell M.out.s2 1).trans rfl
  have k2 : Y6.cell? ⟨t + 1, 2, none⟩ = some (.int .i64 1) := (blk_cell M.out.s2 2).trans rfl
  have k3 : Y6.cell? ⟨t + 1, 3, none⟩ = some (.int .i64 3) := (blk_cell M.out.s2 3).trans rfl
  have k4 : Y6.cell? ⟨t + 1, 4, none⟩ = some (.slice (some ⟨g2, 0, none⟩) 5 5) := (blk_cell M.out.s2 4).trans rfl
  have k5 : Y6.cell? ⟨t + 1, 5, none⟩ = some (.slice (some ⟨a2, 0, none⟩) 1 1) := (blk_cell M.out.s2 5).trans rfl
  have kl := blk_lt M.out.s2
  go_wp2_with fail
  refine (Near_calls (exD exT) (some ⟨g2, 0, none⟩) 5 (some ⟨a2, 0, none⟩) 1 Y6 M.out.a2').mono ?_
  rw [ex_near, ex_enterT]
  rintro e X7 ⟨rfl, hb⟩
  have M' := Aside0.mk (M.out.chg (Chg.of_below hb))
  have HB' := Aside0.mk (HB.out.trans (hb.mono HB.out.size))
  have SA' := Aside0.mk (blk_below SA.out hb)
  have SB' := Aside0.mk (blk_below SB.out hb)
  have SN' := Aside0.mk (blk_below SN.out hb)
  clear hb k0 k1 k2 k3 k4 k5 kl M HB SA SB SN
  have M := M'
  have HB := HB'
  have SA := SA'
  have SB := SB'
  have SN := SN'
  clear M' HB' SA' SB' SN'
  go_upto_region 9 with (fail)
  have hb : Below X7.heap.size X7 (X7.alloc (.cells #[.int .i64 2, .int .i64 3] 23)) := below_alloc (Below.refl _ _) (.cells #[.int .i64 2, .int .i64 3] 23)
  have M' := Aside0.mk (M.out.chg (Chg.of_below hb))
  have HB' := Aside0.mk (HB.out.trans (hb.mono HB.out.size))
  have SA' := Aside0.mk (blk_below SA.out hb)
  have SB' := Aside0.mk (blk_below SB.out hb)
  have SN' := Aside0.mk (blk_below SN.out hb)
  have SR' : Aside0 ((X7.alloc (.cells #[.int .i64 2, .int .i64 3] 23)).heap[X7.heap.size]? = some (.cells #[.int .i64 2, .int .i64 3] 23 (0, 0))) := ⟨new_at (by simp) _⟩
  clear hb M HB SA SB SN
  have M := M'
  have HB := HB'
  have SA := SA'
  have SB := SB'
  have SN := SN'
  have SR := SR'
  clear M' HB' SA' SB' SN' SR'
  generalize (X7.alloc (.cells #[.int .i64 2, .int .i64 3] 23)) = Y7 at M HB SA SB SN SR ⊢
  obtain ⟨srb, hsz⟩ : ∃ srb, X7.heap.size = srb := ⟨_, rfl⟩
  rw [hsz] at SR ⊢
  clear hsz
  have k0 : Y7.cell? ⟨t, 0, none⟩ = some (.string ⟨#[119, 111, 108, 102]⟩) := (blk_cell M.out.s1 0).trans rfl
  have k1 : Y7.cell? ⟨t, 1, none⟩ = some (.int .i64 5) := (blk_cell M.out.s1 1).trans rfl
  have k2 : Y7.cell? ⟨t, 2, none⟩ = some (.int .i64 1) := (blk_cell M.out.s1 2).trans rfl
  have k3 : Y7.cell? ⟨t, 3, none⟩ = some (.int .i64 3) := (blk_cell M.out.s1 3).trans rfl
  have k4 : Y7.cell? ⟨t, 4, none⟩ = some (.slice (some ⟨g1, 0, none⟩) 5 5) := (blk_cell M.out.s1 4).trans rfl
  have k5 : Y7.cell? ⟨t, 5, none⟩ = some (.slice none 0 0) := (blk_cell M.out.s1 5).trans rfl
  have kl := blk_lt M.out.s1
  go_wp2_with fail
  refine (Ask_calls (exD []) (some ⟨g1, 0, none⟩) 5 none 0 Y7 M.out.a1).mono ?_
  rw [ex_ask]
  rintro e X8 ⟨rfl, hb⟩
  have M' := Aside0.mk (M.out.chg (Chg.of_below hb))
  have HB' := Aside0.mk (HB.out.trans (hb.mono HB.out.size))
  have SA' := Aside0.mk (blk_below SA.out hb)
  have SB' := Aside0.mk (blk_below SB.out hb)
  have SN' := Aside0.mk (blk_below SN.out hb)
  have SR' := Aside0.mk (blk_below SR.out hb)
  clear hb k0 k1 k2 k3 k4 k5 kl M HB SA SB SN SR
  have M := M'
  have HB := HB'
  have SA := SA'
  have SB := SB'
  have SN := SN'
  have SR := SR'
  clear M' HB' SA' SB' SN' SR'
  go_upto_region 10 with (fail)
  have k0 : X8.cell? ⟨t + 1 + 1, 0, none⟩ = some (.string ⟨#[119, 111, 108, 102]⟩) := (blk_cell M.out.s3 0).trans rfl
  have k1 : X8.cell? ⟨t + 1 + 1, 1, none⟩ = some (.int .i64 5) := (blk_cell M.out.s3 1).trans rfl
  have k2 : X8.cell? ⟨t + 1 + 1, 2, none⟩ = some (.int .i64 1) := (blk_cell M.out.s3 2).trans rfl
  have k3 : X8.cell? ⟨t + 1 + 1, 3, none⟩ = some (.int .i64 3) := (blk_cell M.out.s3 3).trans rfl
  have k4 : X8.cell? ⟨t + 1 + 1, 4, none⟩ = some (.slice (some ⟨g3, 0, none⟩) 5 5) := (blk_cell M.out.s3 4).trans rfl
  have k5 : X8.cell? ⟨t + 1 + 1, 5, none⟩ = some (.slice (some ⟨a3, 0, none⟩) 2 2) := (blk_cell M.out.s3 5).trans rfl
  have kl := blk_lt M.out.s3
  go_wp2_with fail
  refine (Wrong_calls (exD exW) (some ⟨g3, 0, none⟩) 5 (some ⟨a3, 0, none⟩) 2 X8 M.out.a3').mono ?_
  rw [ex_wrong]
  rintro e X9 ⟨⟨vw, rfl, hnr⟩, hb⟩
  have M' := Aside0.mk (M.out.chg (Chg.of_below hb))
  have HB' := Aside0.mk (HB.out.trans (hb.mono HB.out.size))
  have SA' := Aside0.mk (blk_below SA.out hb)
  have SB' := Aside0.mk (blk_below SB.out hb)
  have SN' := Aside0.mk (blk_below SN.out hb)
  have SR' := Aside0.mk (blk_below SR.out hb)
  obtain ⟨Aw, cw, rfl, hrw⟩ := hnr.one
  have HW := Aside0.mk hrw
  clear hrw hnr
  clear hb k0 k1 k2 k3 k4 k5 kl M HB SA SB SN SR
  have M := M'
  have HB := HB'
  have SA := SA'
  have SB := SB'
  have SN := SN'
  have SR := SR'
  clear M' HB' SA' SB' SN' SR'
  go_upto_region 11 with (fail)
  have k0 : X9.cell? ⟨t + 1 + 1, 0, none⟩ = some (.string ⟨#[119, 111, 108, 102]⟩) := (blk_cell M.out.s3 0).trans rfl
  have k1 : X9.cell? ⟨t + 1 + 1, 1, none⟩ = some (.int .i64 5) := (blk_cell M.out.s3 1).trans rfl
  have k2 : X9.cell? ⟨t + 1 + 1, 2, none⟩ = some (.int .i64 1) := (blk_cell M.out.s3 2).trans rfl
  have k3 : X9.cell? ⟨t + 1 + 1, 3, none⟩ = some (.int .i64 3) := (blk_cell M.out.s3 3).trans rfl
  have k4 : X9.cell? ⟨t + 1 + 1, 4, none⟩ = some (.slice (some ⟨g3, 0, none⟩) 5 5) := (blk_cell M.out.s3 4).trans rfl
  have k5 : X9.cell? ⟨t + 1 + 1, 5, none⟩ = some (.slice (some ⟨a3, 0, none⟩) 2 2) := (blk_cell M.out.s3 5).trans rfl
  have kl := blk_lt M.out.s3
  go_wp2_with fail
  refine (Near_calls (exD exW) (some ⟨g3, 0, none⟩) 5 (some ⟨a3, 0, none⟩) 2 X9 M.out.a3').mono ?_
  rw [ex_nearW, ex_enterW]
  rintro e X10 ⟨rfl, hb⟩
  have M' := Aside0.mk (M.out.chg (Chg.of_below hb))
  have HB' := Aside0.mk (HB.out.trans (hb.mono HB.out.size))
  have SA' := Aside0.mk (blk_below SA.out hb)
  have SB' := Aside0.mk (blk_below SB.out hb)
  have SN' := Aside0.mk (blk_below SN.out hb)
  have SR' := Aside0.mk (blk_below SR.out hb)
  have HW' := Aside0.mk (Kd.C_below HW.out hb)
  clear HW
  have HW := HW'
  clear HW'
  clear hb k0 k1 k2 k3 k4 k5 kl M HB SA SB SN SR
  have M := M'
  have HB := HB'
  have SA := SA'
  have SB := SB'
  have SN := SN'
  have SR := SR'
  clear M' HB' SA' SB' SN' SR'
  go_upto_region 12 with (fail)
  have hb : Below X10.heap.size X10 (X10.alloc (.cells #[.int .i64 0, .int .i64 0] 23)) := below_alloc (Below.refl _ _) (.cells #[.int .i64 0, .int .i64 0] 23)
  have M' := Aside0.mk (M.out.chg (Chg.of_below hb))
  have HB' := Aside0.mk (HB.out.trans (hb.mono HB.out.size))
  have SA' := Aside0.mk (blk_below SA.out hb)
  have SB' := Aside0.mk (blk_below SB.out hb)
  have SN' := Aside0.mk (blk_below SN.out hb)
  have SR' := Aside0.mk (blk_below SR.out hb)
  have HW' := Aside0.mk (Kd.C_below HW.out hb)
  have SZ' : Aside0 ((X10.alloc (.cells #[.int .i64 0, .int .i64 0] 23)).heap[X10.heap.size]? = some (.cells #[.int .i64 0, .int .i64 0] 23 (0, 0))) := ⟨new_at (by simp) _⟩
  clear hb M HB SA SB SN SR HW
  have M := M'
  have HB := HB'
  have SA := SA'
  have SB := SB'
  have SN := SN'
  have SR := SR'
  have SZ := SZ'
  have HW := HW'
  clear M' HB' SA' SB' SN' SR' SZ' HW'
  generalize (X10.alloc (.cells #[.int .i64 0, .int .i64 0] 23)) = Y10 at M HB SA SB SN SR SZ HW ⊢
  obtain ⟨szb, hsz⟩ : ∃ szb, X10.heap.size = szb := ⟨_, rfl⟩
  rw [hsz] at SZ ⊢
  clear hsz
  have k0 : Y10.cell? ⟨t, 0, none⟩ = some (.string ⟨#[119, 111, 108, 102]⟩) := (blk_cell M.out.s1 0).trans rfl
  have k1 : Y10.cell? ⟨t, 1, none⟩ = some (.int .i64 5) := (blk_cell M.out.s1 1).trans rfl
  have k2 : Y10.cell? ⟨t, 2, none⟩ = some (.int .i64 1) := (blk_cell M.out.s1 2).trans rfl
  have k3 : Y10.cell? ⟨t, 3, none⟩ = some (.int .i64 3) := (blk_cell M.out.s1 3).trans rfl
  have k4 : Y10.cell? ⟨t, 4, none⟩ = some (.slice (some ⟨g1, 0, none⟩) 5 5) := (blk_cell M.out.s1 4).trans rfl
  have k5 : Y10.cell? ⟨t, 5, none⟩ = some (.slice none 0 0) := (blk_cell M.out.s1 5).trans rfl
  have kl := blk_lt M.out.s1
  go_wp2_with fail
  refine (One_calls (exD []) (some ⟨g1, 0, none⟩) 5 none 0 1 1 Y10 M.out.a1).mono ?_
  rw [ex_one11]
  rintro e X11 ⟨rfl, hb⟩
  have M' := Aside0.mk (M.out.chg (Chg.of_below hb))
  have HB' := Aside0.mk (HB.out.trans (hb.mono HB.out.size))
  have SA' := Aside0.mk (blk_below SA.out hb)
  have SB' := Aside0.mk (blk_below SB.out hb)
  have SN' := Aside0.mk (blk_below SN.out hb)
  have SR' := Aside0.mk (blk_below SR.out hb)
  have SZ' := Aside0.mk (blk_below SZ.out hb)
  have HW' := Aside0.mk (Kd.C_below HW.out hb)
  clear HW
  have HW := HW'
  clear HW'
  clear hb k0 k1 k2 k3 k4 k5 kl M HB SA SB SN SR SZ
  have M := M'
  have HB := HB'
  have SA := SA'
  have SB := SB'
  have SN := SN'
  have SR := SR'
  have SZ := SZ'
  clear M' HB' SA' SB' SN' SR' SZ'
  go_upto_region 13 with (fail)
  have sa0 : X11.drew.cell? ⟨sab, 0, none⟩ = some (.int .i64 1) := (blk_cell SA.out 0).trans rfl
  have sa1 : X11.drew.cell? ⟨sab, 1, none⟩ = some (.int .i64 4) := (blk_cell SA.out 1).trans rfl
  have sb0 : X11.drew.cell? ⟨sab + 1, 0, none⟩ = some (.int .i64 3) := (blk_cell SB.out 0).trans rfl
  have sb1 : X11.drew.cell? ⟨sab + 1, 1, none⟩ = some (.int .i64 4) := (blk_cell SB.out 1).trans rfl
  have sn0 : X11.drew.cell? ⟨snb, 0, none⟩ = some (.int .i64 13) := (blk_cell SN.out 0).trans rfl
  have sn1 : X11.drew.cell? ⟨snb, 1, none⟩ = some (.int .i64 24) := (blk_cell SN.out 1).trans rfl
  have sr0 : X11.drew.cell? ⟨srb, 0, none⟩ = some (.int .i64 2) := (blk_cell SR.out 0).trans rfl
  have sr1 : X11.drew.cell? ⟨srb, 1, none⟩ = some (.int .i64 3) := (blk_cell SR.out 1).trans rfl
  have HWd : Aside0 (Kd.C (Kd.int .i64) X11.drew Aw 1 [0]) := ⟨Kd.C_drew HW.out⟩
  have HBd : Aside0 (Below w.heap.size w X11.drew) := ⟨below_drew1 HB.out⟩
  clear SA SB SN SR SZ M HW HB
  simp only [List.append_eq, List.cons_append, List.nil_append]
  refine wp_region_held_drew (S := fun w' : World => w'.cell? ⟨sab, 0, none⟩ = some (.int .i64 1) ∧ w'.cell? ⟨sab, 1, none⟩ = some (.int .i64 4) ∧ w'.cell? ⟨sab + 1, 0, none⟩ = some (.int .i64 3) ∧ w'.cell? ⟨sab + 1, 1, none⟩ = some (.int .i64 4) ∧ w'.cell? ⟨snb, 0, none⟩ = some (.int .i64 13) ∧ w'.cell? ⟨snb, 1, none⟩ = some (.int .i64 24) ∧ w'.cell? ⟨srb, 0, none⟩ = some (.int .i64 2) ∧ w'.cell? ⟨srb, 1, none⟩ = some (.int .i64 3)) (by as_aux_lemma => kernel_rfl) ⟨sa0, sa1, sb0, sb1, sn0, sn1, sr0, sr1⟩ (fun hHeld => ?_)
  clear sa0 sa1 sb0 sb1 sn0 sn1 sr0 sr1
  refine wpAnyH_start 103 (by as_aux_lemma => kernel_rfl) ?_
  refine wpAnyH_seg 0 59 44 hHeld (by simp only [List.drop_succ_cons, List.drop_zero, List.length_cons, List.length_nil]; decide) (by decide) (by as_aux_lemma => kernel_rfl) (M := awM) (by as_aux_lemma => kernel_rfl) (by as_aux_lemma => kernel_rfl) ?_
  simp only [List.drop_succ_cons, List.take_succ_cons, List.drop_zero, List.take_zero]
  still_step
  still_step
  still_step
  still_step
  still_step
  still_step
  still_step
  still_step
  still_step
  still_step
  still_step
  still_step
  still_step
  still_step
  still_step
  still_step
  still_step
  still_step
  still_step
  still_step
  still_step
  still_step
  still_step
  still_step
  still_step
  still_step
  still_step
  still_step
  still_step
  still_step
  still_step
  still_step
  still_step
  still_step
  still_step
  still_step
  still_step
  still_step
  still_step
  still_step
  still_step
  still_step
  still_step
  still_step
  still_step
  still_step
  still_step
  still_step
  still_step
  still_step
  still_step
  still_step
  still_step
  still_step
  still_step
  still_step
  still_step
  still_step
  still_step
  refine wpStill_nil ?_
  refine wpAnyH_load (i := 59) (v := .agg #[.int .i64 1, .int .i64 4]) (by decide) rfl (by as_aux_lemma => kernel_rfl) (by as_aux_lemma => kernel_rfl) (by as_aux_lemma => kernel_rfl) (fun _ _ _ h => h) (Or.inl ⟨by rfl, ?_⟩) hHeld ?_
  · intro w hSw
    obtain ⟨h0, h1, h2, h3, h4, h5, h6, h7⟩ := hSw
    go_simp
    try rfl
  simp only [Act.put, List.setIfInBounds_toArray, List.set_cons_zero, List.set_cons_succ]
  refine wpAnyH_one (i := 60) (by decide) rfl (by as_aux_lemma => kernel_rfl) (M := awM) (by as_aux_lemma => kernel_rfl) (by as_aux_lemma => kernel_rfl) (fun K hK => ?_)
  go_simp
  refine (span_calls _ _ _).mono ?_
  rintro e w' ⟨rfl, hc⟩
  obtain ⟨h0, h1, h2, h3, h4, h5, h6, h7⟩ := hHeld
  replace h0 := hc.cell h0 id; replace h1 := hc.cell h1 id; replace h2 := hc.cell h2 id; replace h3 := hc.cell h3 id; replace h4 := hc.cell h4 id; replace h5 := hc.cell h5 id; replace h6 := hc.cell h6 id; replace h7 := hc.cell h7 id
  have hbl := hc.below (fun _ _ x => x.elim) (Nat.le_refl _)
  replace HWd := Aside0.mk (Kd.C_below HWd.out hbl)
  replace HBd := Aside0.mk (HBd.out.trans (hbl.mono HBd.out.size))
  clear hc hbl
  refine hK.out _ _ ⟨h0, h1, h2, h3, h4, h5, h6, h7⟩ (fun hHeld => ?_)
  clear h0 h1 h2 h3 h4 h5 h6 h7
  clear hK K
  try simp only [Act.put, List.setIfInBounds_toArray, List.set_cons_zero, List.set_cons_succ]
  refine wpAnyH_seg 61 3 39 hHeld (by simp only [List.drop_succ_cons, List.drop_zero, List.length_cons, List.length_nil]; decide) (by decide) (by as_aux_lemma => kernel_rfl) (M := awM) (by as_aux_lemma => kernel_rfl) (by as_aux_lemma => kernel_rfl) ?_
  simp only [List.drop_succ_cons, List.take_succ_cons, List.drop_zero, List.take_zero]
  still_step
  still_step
  still_step
  refine wpStill_nil ?_
  refine wpAnyH_load (i := 64) (v := .agg #[.int .i64 3, .int .i64 4]) (by decide) rfl (by as_aux_lemma => kernel_rfl) (by as_aux_lemma => kernel_rfl) (by as_aux_lemma => kernel_rfl) (fun _ _ _ h => h) (Or.inl ⟨by rfl, ?_⟩) hHeld ?_
  · intro w hSw
    obtain ⟨h0, h1, h2, h3, h4, h5, h6, h7⟩ := hSw
    go_simp
    try rfl
  simp only [Act.put, List.setIfInBounds_toArray, List.set_cons_zero, List.set_cons_succ]
  refine wpAnyH_one (i := 65) (by decide) rfl (by as_aux_lemma => kernel_rfl) (M := awM) (by as_aux_lemma => kernel_rfl) (by as_aux_lemma => kernel_rfl) (fun K hK => ?_)
  go_simp
  refine (span_calls _ _ _).mono ?_
  rintro e w' ⟨rfl, hc⟩
  obtain ⟨h0, h1, h2, h3, h4, h5, h6, h7⟩ := hHeld
  replace h0 := hc.cell h0 id; replace h1 := hc.cell h1 id; replace h2 := hc.cell h2 id; replace h3 := hc.cell h3 id; replace h4 := hc.cell h4 id; replace h5 := hc.cell h5 id; replace h6 := hc.cell h6 id; replace h7 := hc.cell h7 id
  have hbl := hc.below (fun _ _ x => x.elim) (Nat.le_refl _)
  replace HWd := Aside0.mk (Kd.C_below HWd.out hbl)
  replace HBd := Aside0.mk (HBd.out.trans (hbl.mono HBd.out.size))
  clear hc hbl
  refine hK.out _ _ ⟨h0, h1, h2, h3, h4, h5, h6, h7⟩ (fun hHeld => ?_)
  clear h0 h1 h2 h3 h4 h5 h6 h7
  clear hK K
  try simp only [Act.put, List.setIfInBounds_toArray, List.set_cons_zero, List.set_cons_succ]
  refine wpAnyH_seg 66 3 34 hHeld (by simp only [List.drop_succ_cons, List.drop_zero, List.length_cons, List.length_nil]; decide) (by decide) (by as_aux_lemma => kernel_rfl) (M := awM) (by as_aux_lemma => kernel_rfl) (by as_aux_lemma => kernel_rfl) ?_
  simp only [List.drop_succ_cons, List.take_succ_cons, List.drop_zero, List.take_zero]
  still_step
  still_step
  still_step
  refine wpStill_nil ?_
  refine wpAnyH_load (i := 69) (v := .agg #[.int .i64 13, .int .i64 24]) (by decide) rfl (by as_aux_lemma => kernel_rfl) (by as_aux_lemma => kernel_rfl) (by as_aux_lemma => kernel_rfl) (fun _ _ _ h => h) (Or.inl ⟨by rfl, ?_⟩) hHeld ?_
  · intro w hSw
    obtain ⟨h0, h1, h2, h3, h4, h5, h6, h7⟩ := hSw
    go_simp
    try rfl
  simp only [Act.put, List.setIfInBounds_toArray, List.set_cons_zero, List.set_cons_succ]
  refine wpAnyH_one (i := 70) (by decide) rfl (by as_aux_lemma => kernel_rfl) (M := awM) (by as_aux_lemma => kernel_rfl) (by as_aux_lemma => kernel_rfl) (fun K hK => ?_)
  go_simp
  refine (span_calls _ _ _).mono ?_
  rintro e w' ⟨rfl, hc⟩
  obtain ⟨h0, h1, h2, h3, h4, h5, h6, h7⟩ := hHeld
  replace h0 := hc.cell h0 id; replace h1 := hc.cell h1 id; replace h2 := hc.cell h2 id; replace h3 := hc.cell h3 id; replace h4 := hc.cell h4 id; replace h5 := hc.cell h5 id; replace h6 := hc.cell h6 id; replace h7 := hc.cell h7 id
  have hbl := hc.below (fun _ _ x => x.elim) (Nat.le_refl _)
  replace HWd := Aside0.mk (Kd.C_below HWd.out hbl)
  replace HBd := Aside0.mk (HBd.out.trans (hbl.mono HBd.out.size))
  clear hc hbl
  refine hK.out _ _ ⟨h0, h1, h2, h3, h4, h5, h6, h7⟩ (fun hHeld => ?_)
  clear h0 h1 h2 h3 h4 h5 h6 h7
  clear hK K
  try simp only [Act.put, List.setIfInBounds_toArray, List.set_cons_zero, List.set_cons_succ]
  refine wpAnyH_seg 71 3 29 hHeld (by simp only [List.drop_succ_cons, List.drop_zero, List.length_cons, List.length_nil]; decide) (by decide) (by as_aux_lemma => kernel_rfl) (M := awM) (by as_aux_lemma => kernel_rfl) (by as_aux_lemma => kernel_rfl) ?_
  simp only [List.drop_succ_cons, List.take_succ_cons, List.drop_zero, List.take_zero]
  still_step
  still_step
  still_step
  refine wpStill_nil ?_
  refine wpAnyH_load (i := 74) (v := .agg #[.int .i64 2, .int .i64 3]) (by decide) rfl (by as_aux_lemma => kernel_rfl) (by as_aux_lemma => kernel_rfl) (by as_aux_lemma => kernel_rfl) (fun _ _ _ h => h) (Or.inl ⟨by rfl, ?_⟩) hHeld ?_
  · intro w hSw
    obtain ⟨h0, h1, h2, h3, h4, h5, h6, h7⟩ := hSw
    go_simp
    try rfl
  simp only [Act.put, List.setIfInBounds_toArray, List.set_cons_zero, List.set_cons_succ]
  refine wpAnyH_one (i := 75) (by decide) rfl (by as_aux_lemma => kernel_rfl) (M := awM) (by as_aux_lemma => kernel_rfl) (by as_aux_lemma => kernel_rfl) (fun K hK => ?_)
  go_simp
  refine (span_calls _ _ _).mono ?_
  rintro e w' ⟨rfl, hc⟩
  obtain ⟨h0, h1, h2, h3, h4, h5, h6, h7⟩ := hHeld
  replace h0 := hc.cell h0 id; replace h1 := hc.cell h1 id; replace h2 := hc.cell h2 id; replace h3 := hc.cell h3 id; replace h4 := hc.cell h4 id; replace h5 := hc.cell h5 id; replace h6 := hc.cell h6 id; replace h7 := hc.cell h7 id
  have hbl := hc.below (fun _ _ x => x.elim) (Nat.le_refl _)
  replace HWd := Aside0.mk (Kd.C_below HWd.out hbl)
  replace HBd := Aside0.mk (HBd.out.trans (hbl.mono HBd.out.size))
  clear hc hbl
  refine hK.out _ _ ⟨h0, h1, h2, h3, h4, h5, h6, h7⟩ (fun hHeld => ?_)
  clear h0 h1 h2 h3 h4 h5 h6 h7
  clear hK K
  try simp only [Act.put, List.setIfInBounds_toArray, List.set_cons_zero, List.set_cons_succ]
  refine wpAnyH_seg 76 15 12 hHeld (by simp only [List.drop_succ_cons, List.drop_zero, List.length_cons, List.length_nil]; decide) (by decide) (by as_aux_lemma => kernel_rfl) (M := awM) (by as_aux_lemma => kernel_rfl) (by as_aux_lemma => kernel_rfl) ?_
  simp only [List.drop_succ_cons, List.take_succ_cons, List.drop_zero, List.take_zero]
  still_step
  still_step
  still_step
  still_step
  still_step
  still_step
  still_step
  still_step
  still_step
  still_step
  still_step
  still_step
  still_step
  still_step
  still_step
  refine wpStill_nil ?_
  refine wpAnyH_load (i := 91) (v := .slice Aw 1 cw) (by decide) rfl (by as_aux_lemma => kernel_rfl) (by as_aux_lemma => kernel_rfl) (by as_aux_lemma => kernel_rfl) (fun _ _ _ h => h) (Or.inl ⟨by rfl, ?_⟩) hHeld ?_
  · intro w hSw
    clear hSw
    go_simp
    try rfl
  simp only [Act.put, List.setIfInBounds_toArray, List.set_cons_zero, List.set_cons_succ]
  refine wpAnyH_one (i := 92) (by decide) rfl (by as_aux_lemma => kernel_rfl) (M := awM) (by as_aux_lemma => kernel_rfl) (by as_aux_lemma => kernel_rfl) (fun K hK => ?_)
  go_simp
  obtain ⟨h0, h1, h2, h3, h4, h5, h6, h7⟩ := hHeld
  replace h0 := Lib.cell?_alloc_some (.cells #[.int .i64 0] 3) h0; replace h1 := Lib.cell?_alloc_some (.cells #[.int .i64 0] 3) h1; replace h2 := Lib.cell?_alloc_some (.cells #[.int .i64 0] 3) h2; replace h3 := Lib.cell?_alloc_some (.cells #[.int .i64 0] 3) h3; replace h4 := Lib.cell?_alloc_some (.cells #[.int .i64 0] 3) h4; replace h5 := Lib.cell?_alloc_some (.cells #[.int .i64 0] 3) h5; replace h6 := Lib.cell?_alloc_some (.cells #[.int .i64 0] 3) h6; replace h7 := Lib.cell?_alloc_some (.cells #[.int .i64 0] 3) h7
  replace HBd := Aside0.mk (below_alloc HBd.out (.cells #[.int .i64 0] 3))
  refine hK.out _ _ ⟨h0, h1, h2, h3, h4, h5, h6, h7⟩ (fun hHeld => ?_)
  clear h0 h1 h2 h3 h4 h5 h6 h7
  clear hK K
  try simp only [Act.put, List.setIfInBounds_toArray, List.set_cons_zero, List.set_cons_succ]
  refine wpAnyH_one (i := 93) (by decide) rfl (by as_aux_lemma => kernel_rfl) (M := awM) (by as_aux_lemma => kernel_rfl) (by as_aux_lemma => kernel_rfl) (fun K hK => ?_)
  go_simp
  refine (awInts HWd.out).mono ?_
  rintro e w' ⟨rfl, hc⟩
  obtain ⟨h0, h1, h2, h3, h4, h5, h6, h7⟩ := hHeld
  replace h0 := hc.cell h0 id; replace h1 := hc.cell h1 id; replace h2 := hc.cell h2 id; replace h3 := hc.cell h3 id; replace h4 := hc.cell h4 id; replace h5 := hc.cell h5 id; replace h6 := hc.cell h6 id; replace h7 := hc.cell h7 id
  have hbl := hc.below (fun _ _ x => x.elim) (Nat.le_refl _)
  replace HBd := Aside0.mk (HBd.out.trans (hbl.mono HBd.out.size))
  clear hc hbl
  refine hK.out _ _ ⟨h0, h1, h2, h3, h4, h5, h6, h7⟩ (fun hHeld => ?_)
  clear h0 h1 h2 h3 h4 h5 h6 h7
  clear hK K
  try simp only [Act.put, List.setIfInBounds_toArray, List.set_cons_zero, List.set_cons_succ]
  refine wpAnyH_seg 94 2 7 hHeld (by simp only [List.drop_succ_cons, List.drop_zero, List.length_cons, List.length_nil]; decide) (by decide) (by as_aux_lemma => kernel_rfl) (M := awM) (by as_aux_lemma => kernel_rfl) (by as_aux_lemma => kernel_rfl) ?_
  simp only [List.drop_succ_cons, List.take_succ_cons, List.drop_zero, List.take_zero]
  still_step
  still_step
  refine wpStill_nil ?_
  refine wpAnyH_one (i := 96) (by decide) rfl (by as_aux_lemma => kernel_rfl) (M := awM) (by as_aux_lemma => kernel_rfl) (by as_aux_lemma => kernel_rfl) (fun K hK => ?_)
  go_simp
  refine (Name_calls _ _ (by decide)).mono ?_
  (first | rw [ex_name] | rw [ex_name'])
  rintro e w' ⟨rfl, hbl⟩
  have hc := Chg.of_below hbl
  obtain ⟨h0, h1, h2, h3, h4, h5, h6, h7⟩ := hHeld
  replace h0 := hc.cell h0 (fun hx => Nat.lt_irrefl _ (Nat.lt_of_lt_of_le (World.block_lt_of_cell? _ _ h0) hx)); replace h1 := hc.cell h1 (fun hx => Nat.lt_irrefl _ (Nat.lt_of_lt_of_le (World.block_lt_of_cell? _ _ h1) hx)); replace h2 := hc.cell h2 (fun hx => Nat.lt_irrefl _ (Nat.lt_of_lt_of_le (World.block_lt_of_cell? _ _ h2) hx)); replace h3 := hc.cell h3 (fun hx => Nat.lt_irrefl _ (Nat.lt_of_lt_of_le (World.block_lt_of_cell? _ _ h3) hx)); replace h4 := hc.cell h4 (fun hx => Nat.lt_irrefl _ (Nat.lt_of_lt_of_le (World.block_lt_of_cell? _ _ h4) hx)); replace h5 := hc.cell h5 (fun hx => Nat.lt_irrefl _ (Nat.lt_of_lt_of_le (World.block_lt_of_cell? _ _ h5) hx)); replace h6 := hc.cell h6 (fun hx => Nat.lt_irrefl _ (Nat.lt_of_lt_of_le (World.block_lt_of_cell? _ _ h6) hx)); replace h7 := hc.cell h7 (fun hx => Nat.lt_irrefl _ (Nat.lt_of_lt_of_le (World.block_lt_of_cell? _ _ h7) hx))
  replace HBd := Aside0.mk (HBd.out.trans (hbl.mono HBd.out.size))
  clear hc hbl
  refine hK.out _ _ ⟨h0, h1, h2, h3, h4, h5, h6, h7⟩ (fun hHeld => ?_)
  clear h0 h1 h2 h3 h4 h5 h6 h7
  clear hK K
  try simp only [Act.put, List.setIfInBounds_toArray, List.set_cons_zero, List.set_cons_succ]
  refine wpAnyH_seg 97 2 4 hHeld (by simp only [List.drop_succ_cons, List.drop_zero, List.length_cons, List.length_nil]; decide) (by decide) (by as_aux_lemma => kernel_rfl) (M := awM) (by as_aux_lemma => kernel_rfl) (by as_aux_lemma => kernel_rfl) ?_
  simp only [List.drop_succ_cons, List.take_succ_cons, List.drop_zero, List.take_zero]
  still_step
  still_step
  refine wpStill_nil ?_
  refine wpAnyH_one (i := 99) (by decide) rfl (by as_aux_lemma => kernel_rfl) (M := awM) (by as_aux_lemma => kernel_rfl) (by as_aux_lemma => kernel_rfl) (fun K hK => ?_)
  go_simp
  refine (Name_calls _ _ (by decide)).mono ?_
  (first | rw [ex_name] | rw [ex_name'])
  rintro e w' ⟨rfl, hbl⟩
  have hc := Chg.of_below hbl
  obtain ⟨h0, h1, h2, h3, h4, h5, h6, h7⟩ := hHeld
  replace h0 := hc.cell h0 (fun hx => Nat.lt_irrefl _ (Nat.lt_of_lt_of_le (World.block_lt_of_cell? _ _ h0) hx)); replace h1 := hc.cell h1 (fun hx => Nat.lt_irrefl _ (Nat.lt_of_lt_of_le (World.block_lt_of_cell? _ _ h1) hx)); replace h2 := hc.cell h2 (fun hx => Nat.lt_irrefl _ (Nat.lt_of_lt_of_le (World.block_lt_of_cell? _ _ h2) hx)); replace h3 := hc.cell h3 (fun hx => Nat.lt_irrefl _ (Nat.lt_of_lt_of_le (World.block_lt_of_cell? _ _ h3) hx)); replace h4 := hc.cell h4 (fun hx => Nat.lt_irrefl _ (Nat.lt_of_lt_of_le (World.block_lt_of_cell? _ _ h4) hx)); replace h5 := hc.cell h5 (fun hx => Nat.lt_irrefl _ (Nat.lt_of_lt_of_le (World.block_lt_of_cell? _ _ h5) hx)); replace h6 := hc.cell h6 (fun hx => Nat.lt_irrefl _ (Nat.lt_of_lt_of_le (World.block_lt_of_cell? _ _ h6) hx)); replace h7 := hc.cell h7 (fun hx => Nat.lt_irrefl _ (Nat.lt_of_lt_of_le (World.block_lt_of_cell? _ _ h7) hx))
  replace HBd := Aside0.mk (HBd.out.trans (hbl.mono HBd.out.size))
  clear hc hbl
  refine hK.out _ _ ⟨h0, h1, h2, h3, h4, h5, h6, h7⟩ (fun hHeld => ?_)
  clear h0 h1 h2 h3 h4 h5 h6 h7
  clear hK K
  try simp only [Act.put, List.setIfInBounds_toArray, List.set_cons_zero, List.set_cons_succ]
  refine wpAnyH_seg 100 3 0 hHeld (by simp only [List.drop_succ_cons, List.drop_zero, List.length_cons, List.length_nil]; decide) (by decide) (by as_aux_lemma => kernel_rfl) (M := awM) (by as_aux_lemma => kernel_rfl) (by as_aux_lemma => kernel_rfl) ?_
  simp only [List.drop_succ_cons, List.take_succ_cons, List.drop_zero, List.take_zero]
  still_step
  still_step
  still_step
  refine wpStill_nil ?_
  refine wpAnyH_done (by as_aux_lemma => kernel_rfl) ?_ _
  go_wp2
  go_ret
  exact ⟨rfl, HBd.out⟩
end Go.Proofs.Ytemeapfnfegkiaa.D
end
