/- Contracts of the functions that this claim reaches, with the words for them: pruned and packed by wip/tools/prune.py. -/
import Derived.Test.YtgoidclnccjdeaaHe
section
namespace Go.Proofs.Ytgoidclnccjdeaa.PR
open Go.RowKit Go.Proofs.YtgoidclnccjdeaaW.PrintWords Go.Proofs.YtgoidclnccjdeaaW.PrintLast Go.Proofs.YtgoidclnccjdeaaW.PrintMore
attribute [local go_sem] max2_int min2_int max_two min_two max_three min_three max_four min_four   -- for this text's walks alone
set_option linter.unusedVariables false
set_option linter.unusedSimpArgs false

mutual
def r7_Check.l0 : Nat → List ByteArray → Int → List (S95) → Int → Int → List (S24) → List (S72) → Option (Int × Int × Int)
 | 0, _, _, _, _, _, _, _ => none
 | k + 1, x5, x6, x154000, x154001, x154002, x154003, x154004 => if x6 < (x154000.length : Int) then (if 0 ≤ x6 then ((r1_Fresh.f k ((rd_T95 x154000 x6).f0) x5).bind fun t156 => (if x5.length < 8796093022208 then (if t156 = 0 then ((r7_ends.f k ((rd_T95 x154000 x6).f1.f0) ((rd_T95 x154000 x6).f1.f1) 1 40).bind fun t162 => (if t162 = 0 then (r7_Check.l0 k (x5 ++ [(rd_T95 x154000 x6).f0]) (wrap64 (x6 + 1)) x154000 x154001 x154002 x154003 x154004) else (some (1, x6, t162)))) else (some (1, x6, t156))) else (none))) else (none)) else ((r7_ends.f k x154001 x154002 0 3).bind fun t163 => (if t163 = 0 then (if (x154003.length : Int) > 4 then (some (3, 0, 3)) else (r7_Check.l1 k 0 x154000 x154001 x154002 x154003 x154004)) else (some (2, 0, t163))))
def r7_Check.l1 : Nat → Int → List (S95) → Int → Int → List (S24) → List (S72) → Option (Int × Int × Int)
 | 0, _, _, _, _, _, _ => none
 | k + 1, x9, x154000, x154001, x154002, x154003, x154004 => if x9 < (x154003.length : Int) then (if 0 ≤ x9 then ((r7_ends.f k ((rd_T24 x154003 x9).f0) ((rd_T24 x154003 x9).f1) 1 60).bind fun t165 => (if t165 = 0 then (r7_Check.l1 k (wrap64 (x9 + 1)) x154000 x154001 x154002 x154003 x154004) else (some (3, x9, t165)))) else (none)) else (if (x154004.length : Int) > 4 then (some (4, 0, 3)) else (r7_Check.l2 k 0 x154000 x154001 x154002 x154003 x154004))
def r7_Check.l2 : Nat → Int → List (S95) → Int → Int → List (S24) → List (S72) → Option (Int × Int × Int)
 | 0, _, _, _, _, _, _ => none
 | k + 1, x10, x154000, x154001, x154002, x154003, x154004 => if x10 < (x154004.length : Int) then (if 0 ≤ x10 then ((r7_drawing.f k x154000 x154001 x154002 x154003 x154004 ((rd_T72 x154004 x10).f0) ((rd_T72 x154004 x10).f1) ((rd_T72 x154004 x10).f2)).bind fun t167 => (if t167 = 0 then (r7_Check.l2 k (wrap64 (x10 + 1)) x154000 x154001 x154002 x154003 x154004) else (some (4, x10, t167)))) else (none)) else (some (0, 0, 0))
end
def r7_Check.f (k : Nat) (l0_0 : List (S95)) (a0_1 : Int) (a0_2 : Int) (l0_3 : List (S24)) (l0_4 : List (S72)) : Option (Int × Int × Int) := (r1_In.f (l0_0.length : Int) 1 3).bind fun t154 => (if t154 = true then (r7_Check.l0 k ([] : List ByteArray) 0 l0_0 a0_1 a0_2 l0_3 l0_4) else (some (1, 0, 3)))
def r7_Check.T29 : Bool × List (List Nat × List Nat) := (true, [([], []), ([], []), ([1], [1]), ([], []), ([2, 3], [2, 3]), ([4], [4]), ([0, 5], [0, 5]), ([6, 6, 0, 1, 2, 3, 4, 5, 6], [6])])
def r7_Check.B29 : List Nat := [0, 0, 2, 0, 14, 30, 63, 127]
theorem r7_Check.tab29 : rtab .any (opsOf Try.f18 29) = r7_Check.T29 := by kernel_rfl
theorem r7_Check.bits29 : waitsOk r7_Check.T29.2 r7_Check.B29 = true := by kernel_rfl
set_option maxHeartbeats 8000000 in
set_option maxRecDepth 100000 in
theorem r7_Check.calls (k : Nat) (A0_0 : Option Addr) (c0_0 : Nat) (l0_0 : List (S95)) (a0_1 : Int) (a0_2 : Int) (A0_3 : Option Addr) (c0_3 : Nat) (l0_3 : List (S24)) (A0_4 : Option Addr) (c0_4 : Nat) (l0_4 : List (S72)) (r1 : Int) (r2 : Int) (r3 : Int) (w : World) (hr0_0 : Kd.C k95 w A0_0 l0_0.length l0_0) (hc0_0 : l0_0.length ≤ c0_0) (hr0_3 : Kd.C k24 w A0_3 l0_3.length l0_3) (hc0_3 : l0_3.length ≤ c0_3) (hr0_4 : Kd.C k72 w A0_4 l0_4.length l0_4) (hc0_4 : l0_4.length ≤ c0_4) (h : r7_Check.f k l0_0 a0_1 a0_2 l0_3 l0_4 = some (r1, r2, r3)) :
  Calls Try.prog 18 #[.agg #[.slice A0_0 l0_0.length c0_0, .int .i64 a0_1, .int .i64 a0_2, .slice A0_3 l0_3.length c0_3, .slice A0_4 l0_4.length c0_4]] w fun e w' => e = .returned (.tuple #[.int .i64 r1, .int .i64 r2, .int .i64 r3]) ∧ Below w.heap.size w w' := by
 have hu28 := Try.underlying28
 have hu24 := Try.underlying24
 have hu72 := Try.underlying72
 have HR0_0 := Aside0.mk hr0_0
 have HC0_0 := Aside0.mk hc0_0
 clear hr0_0 hc0_0
 have HR0_3 := Aside0.mk hr0_3
 have HC0_3 := Aside0.mk hc0_3
 clear hr0_3 hc0_3
 have HR0_4 := Aside0.mk hr0_4
 have HC0_4 := Aside0.mk hc0_4
 clear hr0_4 hc0_4
 have HB := Aside0.mk (Below.refl w.heap.size w)
 have H : ((r1_In.f (l0_0.length : Int) 1 3).bind fun t154 => (if t154 = true then (r7_Check.l0 k ([] : List ByteArray) 0 l0_0 a0_1 a0_2 l0_3 l0_4) else (some (1, 0, 3)))) = some (r1, r2, r3) := h
 clear h
 replace H := Option.bind_eq_some_iff.mp H
 obtain ⟨t154, A20, H⟩ := H
 replace H : (if t154 = true then (r7_Check.l0 k ([] : List ByteArray) 0 l0_0 a0_1 a0_2 l0_3 l0_4) else (some (1, 0, 3))) = some (r1, r2, r3) := H
 have A2 := Aside0.mk A20
 clear A20
 by_cases c3 : t154 = true
 ·
  subst c3
  have H1 : (r7_Check.l0 k ([] : List ByteArray) 0 l0_0 a0_1 a0_2 l0_3 l0_4) = some (r1, r2, r3) := by rw [if_pos rfl] at H; exact H
  clear H
  have H := H1
  clear H1
  have H' := Aside0.mk H
  clear H
  go_enter Try.func18, Try.ntmps18
  go_wp2_with (first | ((with_reducible refine gate_dst (N := 1) rfl ?_); refine box_event ?hg (N := 1) ?hd (cs := #[.slice A0_0 l0_0.length c0_0, .int .i64 a0_1, .int .i64 a0_2, .slice A0_3 l0_3.length c0_3, .slice A0_4 l0_4.length c0_4]) (t := 28) ?hr ?_; (case hd => rfl); (case hg => rfl); (case hr => first | (go_simp; done) | (go_simp; rfl)); intro gb153 hg w4 hbox hb; have n0_ := Aside0.mk (below_step (by repeat (first | (with_reducible first | exact HB.out | apply below_alloc | apply pw_below_drewN | apply below_drew1) | exact HB.out)) hb); have n1_ := Aside0.mk (hbox); have n2_ := Aside0.mk ((by rw [hg]; exact (below_size (by repeat (first | (with_reducible first | exact HB.out | apply below_alloc | apply pw_below_drewN | apply below_drew1) | exact HB.out))) : w.heap.size ≤ gb153)); have n3_ := Aside0.mk ((by rw [hg]; exact (below_size (by repeat (first | (with_reducible first | exact HB.out | apply below_alloc | apply pw_below_drewN | apply below_drew1) | exact HB.out))) : w.heap.size ≤ gb153)); clear HB; have HB := n0_; have BK153 := n1_; have GW153 := n2_; have GE153 := n3_; clear n0_ n1_ n2_ n3_; clear hb hbox hg; have hcz5_0 : w4.cell? ⟨gb153, 0, none⟩ = some (.slice A0_0 l0_0.length c0_0) := (blk_cell BK153.out 0).trans rfl; have hcz5_1 : w4.cell? ⟨gb153, 1, none⟩ = some (.int .i64 a0_1) := (blk_cell BK153.out 1).trans rfl; have hcz5_2 : w4.cell? ⟨gb153, 2, none⟩ = some (.int .i64 a0_2) := (blk_cell BK153.out 2).trans rfl; have hcz5_3 : w4.cell? ⟨gb153, 3, none⟩ = some (.slice A0_3 l0_3.length c0_3) := (blk_cell BK153.out 3).trans rfl; have hcz5_4 : w4.cell? ⟨gb153, 4, none⟩ = some (.slice A0_4 l0_4.length c0_4) := (blk_cell BK153.out 4).trans rfl; have hfz5_0 := blk_frozen BK153.out 0; have hfz5_1 := blk_frozen BK153.out 1; have hfz5_2 := blk_frozen BK153.out 2; have hfz5_3 := blk_frozen BK153.out 3; have hfz5_4 := blk_frozen BK153.out 4) | ((with_reducible refine gate_callee (f := 85) rfl ?_); refine goesL_ (some 14) rfl rfl Try.func85 (by kernel_rfl) rfl #[.int .i64 (l0_0.length : Int), .int .i64 1, .int .i64 3] rfl (by (try simp only [List.map_toArray, List.map_cons, List.map_nil]); first | done | rfl | (simp only [List.length_drop, List.length_take]; rfl)) ?_; (with_reducible refine (r1_In.calls (l0_0.length : Int) 1 3 true _ A2.out).mono ?_); rintro e w' ⟨rfl, ⟨nd, rfl⟩⟩; refine ⟨_, rfl, ?_⟩))
  go_loopg [5, 6] k (fun kq v5 v6 w' => ∃ (x5_1 : List ByteArray) (x6_1 : Int), v6 = .int .i64 x6_1 ∧ Aside0 (r7_Check.l0 kq x5_1 x6_1 l0_0 a0_1 a0_2 l0_3 l0_4 = some (r1, r2, r3)) ∧ Aside0 (kq ≤ k) ∧ Aside0 (Kd.R Kd.string 9 w' w.heap.size (fun _ => True) v5 x5_1) ∧ Aside0 (w'.heap[gb153]? = some (.cells #[(.slice A0_0 l0_0.length c0_0), .int .i64 a0_1, .int .i64 a0_2, (.slice A0_3 l0_3.length c0_3), (.slice A0_4 l0_4.length c0_4)] 28 (0, 0))) ∧ Aside0 (Below w.heap.size w w'))
  case atStart => exact ⟨(([] : List ByteArray)), (0), (by first | rfl | (simp; done) | (simp [*]; done)), H', ⟨Nat.le_refl _⟩, ⟨by first | exact Kd.R_nil _ _ _ _ _ | exact Kd.N_nil _ _ _ _ _ | exact Kd.V_nil _ _ _ _ _ | exact Kd.Q_nil _ _ _ _ _ | exact Kd.S_nil _ _ _ _ _⟩, ⟨by (with_reducible repeat (first | refine blk_drewN ?_ _ | refine blk_drew ?_ | refine blk_alloc ?_ _)); exact BK153.out⟩, ⟨by repeat (first | (with_reducible first | exact HB.out | apply below_alloc | apply pw_below_drewN | apply below_drew1 | refine below_set ?_ GE153.out) | exact HB.out)⟩⟩
  case round =>
   clear H'
   try clear c1
   try clear p2
   try clear c3
   try clear hcz5_0
   try clear hcz5_1
   try clear hcz5_2
   try clear hcz5_3
   try clear hcz5_4
   try clear hfz5_0
   try clear hfz5_1
   try clear hfz5_2
   try clear hfz5_3
   try clear hfz5_4
   obtain ⟨x5_1, x6_1, rfl, HA, HK1, HO_5, BK153, HB⟩ := hrel
   cases gk with
   | zero => exact absurd HA.out (by simp [r7_Check.l0])
   | succ k1 =>
    have H := HA.out
    clear HA
    simp only [r7_Check.l0] at H
    by_cases c6 : x6_1 < (l0_0.length : Int)
    ·
     rw [if_pos c6] at H
     have c6b0 : decide (x6_1 < (l0_0.length : Int)) = true := decide_eq_true c6
     clear c6
     by_cases c7 : 0 ≤ x6_1
     ·
      rw [if_pos c7] at H
      have c7b0 : decide (0 ≤ x6_1) = true := decide_eq_true c7
      clear c7
      replace H := Option.bind_eq_some_iff.mp H
      obtain ⟨t156, A80, H⟩ := H
      replace H : (if x5_1.length < 8796093022208 then (if t156 = 0 then ((r7_ends.f k1 ((rd_T95 l0_0 x6_1).f1.f0) ((rd_T95 l0_0 x6_1).f1.f1) 1 40).bind fun t162 => (if t162 = 0 then (r7_Check.l0 k1 (x5_1 ++ [(rd_T95 l0_0 x6_1).f0]) (wrap64 (x6_1 + 1)) l0_0 a0_1 a0_2 l0_3 l0_4) else (some (1, x6_1, t162)))) else (some (1, x6_1, t156))) else (none)) = some (r1, r2, r3) := H
      have A8 := Aside0.mk A80
      clear A80
      by_cases c9 : x5_1.length < 8796093022208
      ·
       rw [if_pos c9] at H
       have LMc9 := Aside0.mk c9
       clear c9
       obtain ⟨y158, hy158⟩ : ∃ y_ : List ByteArray, y_ = (x5_1 ++ [(rd_T95 l0_0 x6_1).f0]) := ⟨_, rfl⟩
       replace H : (if t156 = 0 then ((r7_ends.f k1 ((rd_T95 l0_0 x6_1).f1.f0) ((rd_T95 l0_0 x6_1).f1.f1) 1 40).bind fun t162 => (if t162 = 0 then (r7_Check.l0 k1 y158 (wrap64 (x6_1 + 1)) l0_0 a0_1 a0_2 l0_3 l0_4) else (some (1, x6_1, t162)))) else (some (1, x6_1, t156))) = some (r1, r2, r3) := by first | (rw [hy158]; with_reducible exact H) | (have H2_ := (Option.bind_some _ _).symm.trans H; rw [hy158]; with_reducible exact H2_) | (have H2_ := (Option.bind_some _ _).symm.trans H; with_reducible exact H2_) | with_reducible exact H | (rw [hy158]; exact H) | exact H
       have Ny158 := Aside0.mk hy158
       clear hy158
       by_cases c10 : t156 = 0
       ·
        rw [if_pos c10] at H
        have c10b0 : (t156 == 0) = true := beq_iff_eq.mpr c10
        have c10b1 : (t156 != 0) = false := bne_eq_false_iff_eq.mpr c10
        clear c10
        replace H := Option.bind_eq_some_iff.mp H
        obtain ⟨t162, A110, H⟩ := H
        replace H : (if t162 = 0 then (r7_Check.l0 k1 y158 (wrap64 (x6_1 + 1)) l0_0 a0_1 a0_2 l0_3 l0_4) else (some (1, x6_1, t162))) = some (r1, r2, r3) := H
        have A11 := Aside0.mk A110
        clear A110
        by_cases c12 : t162 = 0
        ·
         rw [if_pos c12] at H
         have c12b0 : (t162 == 0) = true := beq_iff_eq.mpr c12
         have c12b1 : (t162 != 0) = false := bne_eq_false_iff_eq.mpr c12
         clear c12
         have H' := Aside0.mk H
         clear H
         have hcz13_0 := (blk_cell BK153.out 0).trans rfl
         have hcz13_1 := (blk_cell BK153.out 1).trans rfl
         have hcz13_2 := (blk_cell BK153.out 2).trans rfl
         have hcz13_3 := (blk_cell BK153.out 3).trans rfl
         have hcz13_4 := (blk_cell BK153.out 4).trans rfl
         have hfz13_0 := blk_frozen BK153.out 0
         have hfz13_1 := blk_frozen BK153.out 1
         have hfz13_2 := blk_frozen BK153.out 2
         have hfz13_3 := blk_frozen BK153.out 3
         have hfz13_4 := blk_frozen BK153.out 4
         have p155 : 0 ≤ (x6_1 : Int) := of_decide_eq_true (by first | (with_reducible assumption) | assumption)
         have q155 : x6_1 < (l0_0.length : Int) := of_decide_eq_true (by first | (with_reducible assumption) | assumption)
         obtain ⟨ad155, e155, hx155_0, hx155_1, hx155_2⟩ := at_T95 HR0_0.out x6_1 p155 q155
         cases e155
         replace hx155_0 := (HB.out.cell (World.block_lt_of_cell? w _ hx155_0)).trans hx155_0
         replace hx155_1 := (HB.out.cell (World.block_lt_of_cell? w _ hx155_1)).trans hx155_1
         replace hx155_2 := (HB.out.cell (World.block_lt_of_cell? w _ hx155_2)).trans hx155_2
         replace p155 := eq_true p155
         replace q155 := eq_true q155
         obtain ⟨Ao14, co14, eo14⟩ := Kd.R_slice HO_5.out
         subst eo14
         go_wp2_with (first | ((with_reducible refine gate_callee (f := 86) rfl ?_); refine goesL_ (some 30) rfl rfl Try.func86 (by kernel_rfl) rfl #[.string ((rd_T95 l0_0 x6_1).f0), .slice Ao14 x5_1.length co14] rfl (by (try simp only [List.map_toArray, List.map_cons, List.map_nil]); first | done | rfl | (simp only [List.length_drop, List.length_take]; rfl)) ?_; (with_reducible refine (r1_Fresh.calls k1 ((rd_T95 l0_0 x6_1).f0) _ _ x5_1 t156 _ ?side1 ?side2 A8.out).mono ?_); (case side1 => repeat (first | exact (Kd.R_reads' HO_5.out).2.2 | (with_reducible refine Kd.C_alloc ?_ _) | (with_reducible refine Kd.C_drewN ?_ _) | (with_reducible refine Kd.C_drew ?_))); (case side2 => exact (Kd.R_reads' HO_5.out).2.1); rintro e w' ⟨rfl, ⟨nd, rfl⟩⟩; refine ⟨_, rfl, ?_⟩; have p157 : 0 ≤ (x6_1 : Int) := of_decide_eq_true (by first | (with_reducible assumption) | assumption); have q157 : x6_1 < (l0_0.length : Int) := of_decide_eq_true (by first | (with_reducible assumption) | assumption); obtain ⟨ad157, e157, hx157_0, hx157_1, hx157_2⟩ := at_T95 HR0_0.out x6_1 p157 q157; obtain rfl : ad155 = ad157 := (by injection e157); replace hx157_0 := (HB.out.cell (World.block_lt_of_cell? w _ hx157_0)).trans hx157_0; replace hx157_1 := (HB.out.cell (World.block_lt_of_cell? w _ hx157_1)).trans hx157_1; replace hx157_2 := (HB.out.cell (World.block_lt_of_cell? w _ hx157_2)).trans hx157_2; replace p157 := eq_true p157; replace q157 := eq_true q157) | ((with_reducible refine gate_builtin (b := .append) (xs := #[.tmp 31, .tmp 38]) rfl ?_); at_builtin; refine Kd.R_append Kd.string (w0 := w) w.heap.size rfl (.tmp 31) (.tmp 38) 77 9 (.string ⟨#[]⟩) 16 rfl Try.underlying77 info9 rfl (by decide) (by omega) (.slice Ao14 x5_1.length co14) x5_1 ((rd_T95 l0_0 x6_1).f0) [.string ((rd_T95 l0_0 x6_1).f0)] (fun _ => True) (fun _ => False) rfl rfl ?aP (fun _ hk => hk.elim) ?aF ?aO ?aB ?aS ?aL ?_; (case aP => exact rfl); (case aB => exact (by repeat (first | (with_reducible first | exact HB.out | apply below_alloc | apply pw_below_drewN | apply below_drew1 | refine below_set ?_ GE153.out) | exact HB.out))); (case aF => exact (fun _ _ => trivial)); (case aO => exact (by (with_reducible repeat (first | apply Kd.R_alloc | apply Kd.R_drewN | apply Kd.R_drew)); exact HO_5.out)); (case aS => exact (below_size (by repeat (first | (with_reducible first | exact HB.out | apply below_alloc | apply pw_below_drewN | apply below_drew1 | refine below_set ?_ GE153.out) | exact HB.out)))); (case aL => have := LMc9.out; omega); intro v159 w15 ho hb hg hat; rw [← Ny158.out] at ho; have n0_ := Aside0.mk (blk_grown (g := gb153) (o := .cells #[.slice (some ad155) l0_0.length c0_0, .int .i64 a0_1, .int .i64 a0_2, .slice A0_3 l0_3.length c0_3, .slice A0_4 l0_4.length c0_4] 28 (0, 0)) (by (with_reducible repeat (first | refine blk_drewN ?_ _ | refine blk_drew ?_ | refine blk_alloc ?_ _)); exact BK153.out) hg (Kd.R_ne HO_5.out BK153.out (by decide))); have n1_ := Aside0.mk (hb); have n2_ := Aside0.mk (ho); clear BK153; clear HB; clear HO_5; have BK153 := n0_; have HB := n1_; have HO160 := n2_; clear n0_ n1_ n2_; clear ho hb hg hat; have hcz16_0 : w15.cell? ⟨gb153, 0, none⟩ = some (.slice (some ad155) l0_0.length c0_0) := (blk_cell BK153.out 0).trans rfl; have hcz16_1 : w15.cell? ⟨gb153, 1, none⟩ = some (.int .i64 a0_1) := (blk_cell BK153.out 1).trans rfl; have hcz16_2 : w15.cell? ⟨gb153, 2, none⟩ = some (.int .i64 a0_2) := (blk_cell BK153.out 2).trans rfl; have hcz16_3 : w15.cell? ⟨gb153, 3, none⟩ = some (.slice A0_3 l0_3.length c0_3) := (blk_cell BK153.out 3).trans rfl; have hcz16_4 : w15.cell? ⟨gb153, 4, none⟩ = some (.slice A0_4 l0_4.length c0_4) := (blk_cell BK153.out 4).trans rfl; have hfz16_0 := blk_frozen BK153.out 0; have hfz16_1 := blk_frozen BK153.out 1; have hfz16_2 := blk_frozen BK153.out 2; have hfz16_3 := blk_frozen BK153.out 3; have hfz16_4 := blk_frozen BK153.out 4; have p161 : 0 ≤ (x6_1 : Int) := of_decide_eq_true (by first | (with_reducible assumption) | assumption); have q161 : x6_1 < (l0_0.length : Int) := of_decide_eq_true (by first | (with_reducible assumption) | assumption); obtain ⟨ad161, e161, hx161_0, hx161_1, hx161_2⟩ := at_T95 HR0_0.out x6_1 p161 q161; obtain rfl : ad155 = ad161 := (by injection e161); replace hx161_0 := (HB.out.cell (World.block_lt_of_cell? w _ hx161_0)).trans hx161_0; replace hx161_1 := (HB.out.cell (World.block_lt_of_cell? w _ hx161_1)).trans hx161_1; replace hx161_2 := (HB.out.cell (World.block_lt_of_cell? w _ hx161_2)).trans hx161_2; replace p161 := eq_true p161; replace q161 := eq_true q161) | ((with_reducible refine gate_callee (f := 87) rfl ?_); refine goesL_ (some 48) rfl rfl Try.func87 (by kernel_rfl) rfl #[.agg #[.int .i64 ((rd_T95 l0_0 x6_1).f1.f0), .int .i64 ((rd_T95 l0_0 x6_1).f1.f1)], .int .i64 1, .int .i64 40] rfl (by (try simp only [List.map_toArray, List.map_cons, List.map_nil]); first | done | rfl | (simp only [List.length_drop, List.length_take]; rfl)) ?_; (with_reducible refine (r7_ends.calls k1 ((rd_T95 l0_0 x6_1).f1.f0) ((rd_T95 l0_0 x6_1).f1.f1) 1 40 t162 _ A11.out).mono ?_); rintro e w17 ⟨rfl, hb⟩; refine ⟨_, rfl, ?_⟩; have n0_ := Aside0.mk (Kd.R_below (by (with_reducible repeat (first | apply Kd.R_alloc | apply Kd.R_drewN | apply Kd.R_drew)); exact HO160.out) hb); have n1_ := Aside0.mk (blk_below (g := gb153) (o := .cells #[.slice (some ad155) l0_0.length c0_0, .int .i64 a0_1, .int .i64 a0_2, .slice A0_3 l0_3.length c0_3, .slice A0_4 l0_4.length c0_4] 28 (0, 0)) (by (with_reducible repeat (first | refine blk_drewN ?_ _ | refine blk_drew ?_ | refine blk_alloc ?_ _)); exact BK153.out) hb); have n2_ := Aside0.mk (below_step (by repeat (first | (with_reducible first | exact HB.out | apply below_alloc | apply pw_below_drewN | apply below_drew1 | refine below_set ?_ GE153.out) | exact HB.out)) hb); clear HO160; clear BK153; clear HB; have HO160 := n0_; have BK153 := n1_; have HB := n2_; clear n0_ n1_ n2_; (try clear hb); (try clear hb2); (try clear hk); (try clear hi)))
         go_roundg k1
         case measure => have := HK1.out; omega
         case rel => exact ⟨(y158), (wrap64 (x6_1 + 1)), (by first | rfl | (simp; done) | (simp [*]; done)), H', ⟨by have := HK1.out; omega⟩, ⟨by (with_reducible repeat (first | apply Kd.R_alloc | apply Kd.R_drewN | apply Kd.R_drew)); exact HO160.out⟩, ⟨by (with_reducible repeat (first | refine blk_drewN ?_ _ | refine blk_drew ?_ | refine blk_alloc ?_ _)); exact BK153.out⟩, ⟨by repeat (first | (with_reducible first | exact HB.out | apply below_alloc | apply pw_below_drewN | apply below_drew1 | refine below_set ?_ GE153.out) | exact HB.out)⟩⟩
        ·
         rw [if_neg c12] at H
         have c12b0 : (t162 == 0) = false := beq_eq_false_iff_ne.mpr c12
         have c12b1 : (t162 != 0) = true := bne_iff_ne.mpr c12
         simp only [Option.some.injEq, Prod.mk.injEq] at H
         obtain ⟨rfl, rfl, rfl⟩ := H
         have hcz18_0 := (blk_cell BK153.out 0).trans rfl
         have hcz18_1 := (blk_cell BK153.out 1).trans rfl
         have hcz18_2 := (blk_cell BK153.out 2).trans rfl
         have hcz18_3 := (blk_cell BK153.out 3).trans rfl
         have hcz18_4 := (blk_cell BK153.out 4).trans rfl
         have hfz18_0 := blk_frozen BK153.out 0
         have hfz18_1 := blk_frozen BK153.out 1
         have hfz18_2 := blk_frozen BK153.out 2
         have hfz18_3 := blk_frozen BK153.out 3
         have hfz18_4 := blk_frozen BK153.out 4
         have p155 : 0 ≤ (x6_1 : Int) := of_decide_eq_true (by first | (with_reducible assumption) | assumption)
         have q155 : x6_1 < (l0_0.length : Int) := of_decide_eq_true (by first | (with_reducible assumption) | assumption)
         obtain ⟨ad155, e155, hx155_0, hx155_1, hx155_2⟩ := at_T95 HR0_0.out x6_1 p155 q155
         cases e155
         replace hx155_0 := (HB.out.cell (World.block_lt_of_cell? w _ hx155_0)).trans hx155_0
         replace hx155_1 := (HB.out.cell (World.block_lt_of_cell? w _ hx155_1)).trans hx155_1
         replace hx155_2 := (HB.out.cell (World.block_lt_of_cell? w _ hx155_2)).trans hx155_2
         replace p155 := eq_true p155
         replace q155 := eq_true q155
         obtain ⟨Ao19, co19, eo19⟩ := Kd.R_slice HO_5.out
         subst eo19
         go_wp2_with (first | ((with_reducible refine gate_callee (f := 86) rfl ?_); refine goesL_ (some 30) rfl rfl Try.func86 (by kernel_rfl) rfl #[.string ((rd_T95 l0_0 x6_1).f0), .slice Ao19 x5_1.length co19] rfl (by (try simp only [List.map_toArray, List.map_cons, List.map_nil]); first | done | rfl | (simp only [List.length_drop, List.length_take]; rfl)) ?_; (with_reducible refine (r1_Fresh.calls k1 ((rd_T95 l0_0 x6_1).f0) _ _ x5_1 t156 _ ?side1 ?side2 A8.out).mono ?_); (case side1 => repeat (first | exact (Kd.R_reads' HO_5.out).2.2 | (with_reducible refine Kd.C_alloc ?_ _) | (with_reducible refine Kd.C_drewN ?_ _) | (with_reducible refine Kd.C_drew ?_))); (case side2 => exact (Kd.R_reads' HO_5.out).2.1); rintro e w' ⟨rfl, ⟨nd, rfl⟩⟩; refine ⟨_, rfl, ?_⟩; have p157 : 0 ≤ (x6_1 : Int) := of_decide_eq_true (by first | (with_reducible assumption) | assumption); have q157 : x6_1 < (l0_0.length : Int) := of_decide_eq_true (by first | (with_reducible assumption) | assumption); obtain ⟨ad157, e157, hx157_0, hx157_1, hx157_2⟩ := at_T95 HR0_0.out x6_1 p157 q157; obtain rfl : ad155 = ad157 := (by injection e157); replace hx157_0 := (HB.out.cell (World.block_lt_of_cell? w _ hx157_0)).trans hx157_0; replace hx157_1 := (HB.out.cell (World.block_lt_of_cell? w _ hx157_1)).trans hx157_1; replace hx157_2 := (HB.out.cell (World.block_lt_of_cell? w _ hx157_2)).trans hx157_2; replace p157 := eq_true p157; replace q157 := eq_true q157) | ((with_reducible refine gate_builtin (b := .append) (xs := #[.tmp 31, .tmp 38]) rfl ?_); at_builtin; refine Kd.R_append Kd.string (w0 := w) w.heap.size rfl (.tmp 31) (.tmp 38) 77 9 (.string ⟨#[]⟩) 16 rfl Try.underlying77 info9 rfl (by decide) (by omega) (.slice Ao19 x5_1.length co19) x5_1 ((rd_T95 l0_0 x6_1).f0) [.string ((rd_T95 l0_0 x6_1).f0)] (fun _ => True) (fun _ => False) rfl rfl ?aP (fun _ hk => hk.elim) ?aF ?aO ?aB ?aS ?aL ?_; (case aP => exact rfl); (case aB => exact (by repeat (first | (with_reducible first | exact HB.out | apply below_alloc | apply pw_below_drewN | apply below_drew1 | refine below_set ?_ GE153.out) | exact HB.out))); (case aF => exact (fun _ _ => trivial)); (case aO => exact (by (with_reducible repeat (first | apply Kd.R_alloc | apply Kd.R_drewN | apply Kd.R_drew)); exact HO_5.out)); (case aS => exact (below_size (by repeat (first | (with_reducible first | exact HB.out | apply below_alloc | apply pw_below_drewN | apply below_drew1 | refine below_set ?_ GE153.out) | exact HB.out)))); (case aL => have := LMc9.out; omega); intro v159 w20 ho hb hg hat; rw [← Ny158.out] at ho; have n0_ := Aside0.mk (blk_grown (g := gb153) (o := .cells #[.slice (some ad155) l0_0.length c0_0, .int .i64 a0_1, .int .i64 a0_2, .slice A0_3 l0_3.length c0_3, .slice A0_4 l0_4.length c0_4] 28 (0, 0)) (by (with_reducible repeat (first | refine blk_drewN ?_ _ | refine blk_drew ?_ | refine blk_alloc ?_ _)); exact BK153.out) hg (Kd.R_ne HO_5.out BK153.out (by decide))); have n1_ := Aside0.mk (hb); have n2_ := Aside0.mk (ho); clear BK153; clear HB; clear HO_5; have BK153 := n0_; have HB := n1_; have HO160 := n2_; clear n0_ n1_ n2_; clear ho hb hg hat; have hcz21_0 : w20.cell? ⟨gb153, 0, none⟩ = some (.slice (some ad155) l0_0.length c0_0) := (blk_cell BK153.out 0).trans rfl; have hcz21_1 : w20.cell? ⟨gb153, 1, none⟩ = some (.int .i64 a0_1) := (blk_cell BK153.out 1).trans rfl; have hcz21_2 : w20.cell? ⟨gb153, 2, none⟩ = some (.int .i64 a0_2) := (blk_cell BK153.out 2).trans rfl; have hcz21_3 : w20.cell? ⟨gb153, 3, none⟩ = some (.slice A0_3 l0_3.length c0_3) := (blk_cell BK153.out 3).trans rfl; have hcz21_4 : w20.cell? ⟨gb153, 4, none⟩ = some (.slice A0_4 l0_4.length c0_4) := (blk_cell BK153.out 4).trans rfl; have hfz21_0 := blk_frozen BK153.out 0; have hfz21_1 := blk_frozen BK153.out 1; have hfz21_2 := blk_frozen BK153.out 2; have hfz21_3 := blk_frozen BK153.out 3; have hfz21_4 := blk_frozen BK153.out 4; have p161 : 0 ≤ (x6_1 : Int) := of_decide_eq_true (by first | (with_reducible assumption) | assumption); have q161 : x6_1 < (l0_0.length : Int) := of_decide_eq_true (by first | (with_reducible assumption) | assumption); obtain ⟨ad161, e161, hx161_0, hx161_1, hx161_2⟩ := at_T95 HR0_0.out x6_1 p161 q161; obtain rfl : ad155 = ad161 := (by injection e161); replace hx161_0 := (HB.out.cell (World.block_lt_of_cell? w _ hx161_0)).trans hx161_0; replace hx161_1 := (HB.out.cell (World.block_lt_of_cell? w _ hx161_1)).trans hx161_1; replace hx161_2 := (HB.out.cell (World.block_lt_of_cell? w _ hx161_2)).trans hx161_2; replace p161 := eq_true p161; replace q161 := eq_true q161) | ((with_reducible refine gate_callee (f := 87) rfl ?_); refine goesL_ (some 48) rfl rfl Try.func87 (by kernel_rfl) rfl #[.agg #[.int .i64 ((rd_T95 l0_0 x6_1).f1.f0), .int .i64 ((rd_T95 l0_0 x6_1).f1.f1)], .int .i64 1, .int .i64 40] rfl (by (try simp only [List.map_toArray, List.map_cons, List.map_nil]); first | done | rfl | (simp only [List.length_drop, List.length_take]; rfl)) ?_; (with_reducible refine (r7_ends.calls k1 ((rd_T95 l0_0 x6_1).f1.f0) ((rd_T95 l0_0 x6_1).f1.f1) 1 40 t162 _ A11.out).mono ?_); rintro e w22 ⟨rfl, hb⟩; refine ⟨_, rfl, ?_⟩; have n0_ := Aside0.mk (Kd.R_below (by (with_reducible repeat (first | apply Kd.R_alloc | apply Kd.R_drewN | apply Kd.R_drew)); exact HO160.out) hb); have n1_ := Aside0.mk (blk_below (g := gb153) (o := .cells #[.slice (some ad155) l0_0.length c0_0, .int .i64 a0_1, .int .i64 a0_2, .slice A0_3 l0_3.length c0_3, .slice A0_4 l0_4.length c0_4] 28 (0, 0)) (by (with_reducible repeat (first | refine blk_drewN ?_ _ | refine blk_drew ?_ | refine blk_alloc ?_ _)); exact BK153.out) hb); have n2_ := Aside0.mk (below_step (by repeat (first | (with_reducible first | exact HB.out | apply below_alloc | apply pw_below_drewN | apply below_drew1 | refine below_set ?_ GE153.out) | exact HB.out)) hb); clear HO160; clear BK153; clear HB; have HO160 := n0_; have BK153 := n1_; have HB := n2_; clear n0_ n1_ n2_; (try clear hb); (try clear hb2); (try clear hk); (try clear hi)))
         go_ret3
         exact ⟨by first | rfl | (simp [errW_none, errW_some] <;> rfl) | (simp [*, errW_none, errW_some] <;> rfl), by repeat (first | (with_reducible first | exact HB.out | apply below_alloc | apply pw_below_drewN | apply below_drew1 | refine below_set ?_ GE153.out) | exact HB.out)⟩
       ·
        rw [if_neg c10] at H
        have c10b0 : (t156 == 0) = false := beq_eq_false_iff_ne.mpr c10
        have c10b1 : (t156 != 0) = true := bne_iff_ne.mpr c10
        simp only [Option.some.injEq, Prod.mk.injEq] at H
        obtain ⟨rfl, rfl, rfl⟩ := H
        have hcz23_0 := (blk_cell BK153.out 0).trans rfl
        have hcz23_1 := (blk_cell BK153.out 1).trans rfl
        have hcz23_2 := (blk_cell BK153.out 2).trans rfl
        have hcz23_3 := (blk_cell BK153.out 3).trans rfl
        have hcz23_4 := (blk_cell BK153.out 4).trans rfl
        have hfz23_0 := blk_frozen BK153.out 0
        have hfz23_1 := blk_frozen BK153.out 1
        have hfz23_2 := blk_frozen BK153.out 2
        have hfz23_3 := blk_frozen BK153.out 3
        have hfz23_4 := blk_frozen BK153.out 4
        have p155 : 0 ≤ (x6_1 : Int) := of_decide_eq_true (by first | (with_reducible assumption) | assumption)
        have q155 : x6_1 < (l0_0.length : Int) := of_decide_eq_true (by first | (with_reducible assumption) | assumption)
        obtain ⟨ad155, e155, hx155_0, hx155_1, hx155_2⟩ := at_T95 HR0_0.out x6_1 p155 q155
        cases e155
        replace hx155_0 := (HB.out.cell (World.block_lt_of_cell? w _ hx155_0)).trans hx155_0
        replace hx155_1 := (HB.out.cell (World.block_lt_of_cell? w _ hx155_1)).trans hx155_1
        replace hx155_2 := (HB.out.cell (World.block_lt_of_cell? w _ hx155_2)).trans hx155_2
        replace p155 := eq_true p155
        replace q155 := eq_true q155
        obtain ⟨Ao24, co24, eo24⟩ := Kd.R_slice HO_5.out
        subst eo24
        go_wp2_with (first | ((with_reducible refine gate_callee (f := 86) rfl ?_); refine goesL_ (some 30) rfl rfl Try.func86 (by kernel_rfl) rfl #[.string ((rd_T95 l0_0 x6_1).f0), .slice Ao24 x5_1.length co24] rfl (by (try simp only [List.map_toArray, List.map_cons, List.map_nil]); first | done | rfl | (simp only [List.length_drop, List.length_take]; rfl)) ?_; (with_reducible refine (r1_Fresh.calls k1 ((rd_T95 l0_0 x6_1).f0) _ _ x5_1 t156 _ ?side1 ?side2 A8.out).mono ?_); (case side1 => repeat (first | exact (Kd.R_reads' HO_5.out).2.2 | (with_reducible refine Kd.C_alloc ?_ _) | (with_reducible refine Kd.C_drewN ?_ _) | (with_reducible refine Kd.C_drew ?_))); (case side2 => exact (Kd.R_reads' HO_5.out).2.1); rintro e w' ⟨rfl, ⟨nd, rfl⟩⟩; refine ⟨_, rfl, ?_⟩; have p157 : 0 ≤ (x6_1 : Int) := of_decide_eq_true (by first | (with_reducible assumption) | assumption); have q157 : x6_1 < (l0_0.length : Int) := of_decide_eq_true (by first | (with_reducible assumption) | assumption); obtain ⟨ad157, e157, hx157_0, hx157_1, hx157_2⟩ := at_T95 HR0_0.out x6_1 p157 q157; obtain rfl : ad155 = ad157 := (by injection e157); replace hx157_0 := (HB.out.cell (World.block_lt_of_cell? w _ hx157_0)).trans hx157_0; replace hx157_1 := (HB.out.cell (World.block_lt_of_cell? w _ hx157_1)).trans hx157_1; replace hx157_2 := (HB.out.cell (World.block_lt_of_cell? w _ hx157_2)).trans hx157_2; replace p157 := eq_true p157; replace q157 := eq_true q157) | ((with_reducible refine gate_builtin (b := .append) (xs := #[.tmp 31, .tmp 38]) rfl ?_); at_builtin; refine Kd.R_append Kd.string (w0 := w) w.heap.size rfl (.tmp 31) (.tmp 38) 77 9 (.string ⟨#[]⟩) 16 rfl Try.underlying77 info9 rfl (by decide) (by omega) (.slice Ao24 x5_1.length co24) x5_1 ((rd_T95 l0_0 x6_1).f0) [.string ((rd_T95 l0_0 x6_1).f0)] (fun _ => True) (fun _ => False) rfl rfl ?aP (fun _ hk => hk.elim) ?aF ?aO ?aB ?aS ?aL ?_; (case aP => exact rfl); (case aB => exact (by repeat (first | (with_reducible first | exact HB.out | apply below_alloc | apply pw_below_drewN | apply below_drew1 | refine below_set ?_ GE153.out) | exact HB.out))); (case aF => exact (fun _ _ => trivial)); (case aO => exact (by (with_reducible repeat (first | apply Kd.R_alloc | apply Kd.R_drewN | apply Kd.R_drew)); exact HO_5.out)); (case aS => exact (below_size (by repeat (first | (with_reducible first | exact HB.out | apply below_alloc | apply pw_below_drewN | apply below_drew1 | refine below_set ?_ GE153.out) | exact HB.out)))); (case aL => have := LMc9.out; omega); intro v159 w25 ho hb hg hat; rw [← Ny158.out] at ho; have n0_ := Aside0.mk (blk_grown (g := gb153) (o := .cells #[.slice (some ad155) l0_0.length c0_0, .int .i64 a0_1, .int .i64 a0_2, .slice A0_3 l0_3.length c0_3, .slice A0_4 l0_4.length c0_4] 28 (0, 0)) (by (with_reducible repeat (first | refine blk_drewN ?_ _ | refine blk_drew ?_ | refine blk_alloc ?_ _)); exact BK153.out) hg (Kd.R_ne HO_5.out BK153.out (by decide))); have n1_ := Aside0.mk (hb); have n2_ := Aside0.mk (ho); clear BK153; clear HB; clear HO_5; have BK153 := n0_; have HB := n1_; have HO160 := n2_; clear n0_ n1_ n2_; clear ho hb hg hat))
        go_ret3
        exact ⟨by first | rfl | (simp [errW_none, errW_some] <;> rfl) | (simp [*, errW_none, errW_some] <;> rfl), by repeat (first | (with_reducible first | exact HB.out | apply below_alloc | apply pw_below_drewN | apply below_drew1 | refine below_set ?_ GE153.out) | exact HB.out)⟩
      ·
       rw [if_neg c9] at H
       exact absurd H (by simp)
     ·
      rw [if_neg c7] at H
      exact absurd H (by simp)
    ·
     rw [if_neg c6] at H
     have c6b0 : decide (x6_1 < (l0_0.length : Int)) = false := decide_eq_false c6
     clear c6
     replace H := Option.bind_eq_some_iff.mp H
     obtain ⟨t163, A260, H⟩ := H
     replace H : (if t163 = 0 then (if (l0_3.length : Int) > 4 then (some (3, 0, 3)) else (r7_Check.l1 k1 0 l0_0 a0_1 a0_2 l0_3 l0_4)) else (some (2, 0, t163))) = some (r1, r2, r3) := H
     have A26 := Aside0.mk A260
     clear A260
     by_cases c27 : t163 = 0
     ·
      rw [if_pos c27] at H
      have c27b0 : (t163 == 0) = true := beq_iff_eq.mpr c27
      have c27b1 : (t163 != 0) = false := bne_eq_false_iff_eq.mpr c27
      clear c27
      by_cases c28 : (l0_3.length : Int) > 4
      ·
       rw [if_pos c28] at H
       have c28b0 : decide (4 < (l0_3.length : Int)) = true := decide_eq_true c28
       have c28b1 : decide (4 < l0_3.length) = true := decide_eq_true (by omega)
       clear c28
       simp only [Option.some.injEq, Prod.mk.injEq] at H
       obtain ⟨rfl, rfl, rfl⟩ := H
       have hcz29_0 := (blk_cell BK153.out 0).trans rfl
       have hcz29_1 := (blk_cell BK153.out 1).trans rfl
       have hcz29_2 := (blk_cell BK153.out 2).trans rfl
       have hcz29_3 := (blk_cell BK153.out 3).trans rfl
       have hcz29_4 := (blk_cell BK153.out 4).trans rfl
       have hfz29_0 := blk_frozen BK153.out 0
       have hfz29_1 := blk_frozen BK153.out 1
       have hfz29_2 := blk_frozen BK153.out 2
       have hfz29_3 := blk_frozen BK153.out 3
       have hfz29_4 := blk_frozen BK153.out 4
       go_wp2_with (first | ((with_reducible refine gate_callee (f := 87) rfl ?_); refine goesL_ (some 55) rfl rfl Try.func87 (by kernel_rfl) rfl #[.agg #[.int .i64 a0_1, .int .i64 a0_2], .int .i64 0, .int .i64 3] rfl (by (try simp only [List.map_toArray, List.map_cons, List.map_nil]); first | done | rfl | (simp only [List.length_drop, List.length_take]; rfl)) ?_; (with_reducible refine (r7_ends.calls k1 a0_1 a0_2 0 3 t163 _ A26.out).mono ?_); rintro e w30 ⟨rfl, hb⟩; refine ⟨_, rfl, ?_⟩; have n0_ := Aside0.mk (Kd.R_below (by (with_reducible repeat (first | apply Kd.R_alloc | apply Kd.R_drewN | apply Kd.R_drew)); exact HO_5.out) hb); have n1_ := Aside0.mk (blk_below (g := gb153) (o := .cells #[.slice A0_0 l0_0.length c0_0, .int .i64 a0_1, .int .i64 a0_2, .slice A0_3 l0_3.length c0_3, .slice A0_4 l0_4.length c0_4] 28 (0, 0)) (by (with_reducible repeat (first | refine blk_drewN ?_ _ | refine blk_drew ?_ | refine blk_alloc ?_ _)); exact BK153.out) hb); have n2_ := Aside0.mk (below_step (by repeat (first | (with_reducible first | exact HB.out | apply below_alloc | apply pw_below_drewN | apply below_drew1 | refine below_set ?_ GE153.out) | exact HB.out)) hb); clear HO_5; clear BK153; clear HB; have HO_5 := n0_; have BK153 := n1_; have HB := n2_; clear n0_ n1_ n2_; (try clear hb); (try clear hb2); (try clear hk); (try clear hi); have hcz31_0 : w30.cell? ⟨gb153, 0, none⟩ = some (.slice A0_0 l0_0.length c0_0) := (blk_cell BK153.out 0).trans rfl; have hcz31_1 : w30.cell? ⟨gb153, 1, none⟩ = some (.int .i64 a0_1) := (blk_cell BK153.out 1).trans rfl; have hcz31_2 : w30.cell? ⟨gb153, 2, none⟩ = some (.int .i64 a0_2) := (blk_cell BK153.out 2).trans rfl; have hcz31_3 : w30.cell? ⟨gb153, 3, none⟩ = some (.slice A0_3 l0_3.length c0_3) := (blk_cell BK153.out 3).trans rfl; have hcz31_4 : w30.cell? ⟨gb153, 4, none⟩ = some (.slice A0_4 l0_4.length c0_4) := (blk_cell BK153.out 4).trans rfl; have hfz31_0 := blk_frozen BK153.out 0; have hfz31_1 := blk_frozen BK153.out 1; have hfz31_2 := blk_frozen BK153.out 2; have hfz31_3 := blk_frozen BK153.out 3; have hfz31_4 := blk_frozen BK153.out 4))
       go_ret3
       exact ⟨by first | rfl | (simp [errW_none, errW_some] <;> rfl) | (simp [*, errW_none, errW_some] <;> rfl), by repeat (first | (with_reducible first | exact HB.out | apply below_alloc | apply pw_below_drewN | apply below_drew1 | refine below_set ?_ GE153.out) | exact HB.out)⟩
      ·
       rw [if_neg c28] at H
       have c28b0 : decide (4 < (l0_3.length : Int)) = false := decide_eq_false c28
       have c28b1 : decide (4 < l0_3.length) = false := decide_eq_false (by omega)
       clear c28
       have H' := Aside0.mk H
       clear H
       have hcz32_0 := (blk_cell BK153.out 0).trans rfl
       have hcz32_1 := (blk_cell BK153.out 1).trans rfl
       have hcz32_2 := (blk_cell BK153.out 2).trans rfl
       have hcz32_3 := (blk_cell BK153.out 3).trans rfl
       have hcz32_4 := (blk_cell BK153.out 4).trans rfl
       have hfz32_0 := blk_frozen BK153.out 0
       have hfz32_1 := blk_frozen BK153.out 1
       have hfz32_2 := blk_frozen BK153.out 2
       have hfz32_3 := blk_frozen BK153.out 3
       have hfz32_4 := blk_frozen BK153.out 4
       go_wp2_with (first | ((with_reducible refine gate_callee (f := 87) rfl ?_); refine goesL_ (some 55) rfl rfl Try.func87 (by kernel_rfl) rfl #[.agg #[.int .i64 a0_1, .int .i64 a0_2], .int .i64 0, .int .i64 3] rfl (by (try simp only [List.map_toArray, List.map_cons, List.map_nil]); first | done | rfl | (simp only [List.length_drop, List.length_take]; rfl)) ?_; (with_reducible refine (r7_ends.calls k1 a0_1 a0_2 0 3 t163 _ A26.out).mono ?_); rintro e w33 ⟨rfl, hb⟩; refine ⟨_, rfl, ?_⟩; have n0_ := Aside0.mk (Kd.R_below (by (with_reducible repeat (first | apply Kd.R_alloc | apply Kd.R_drewN | apply Kd.R_drew)); exact HO_5.out) hb); have n1_ := Aside0.mk (blk_below (g := gb153) (o := .cells #[.slice A0_0 l0_0.length c0_0, .int .i64 a0_1, .int .i64 a0_2, .slice A0_3 l0_3.length c0_3, .slice A0_4 l0_4.length c0_4] 28 (0, 0)) (by (with_reducible repeat (first | refine blk_drewN ?_ _ | refine blk_drew ?_ | refine blk_alloc ?_ _)); exact BK153.out) hb); have n2_ := Aside0.mk (below_step (by repeat (first | (with_reducible first | exact HB.out | apply below_alloc | apply pw_below_drewN | apply below_drew1 | refine below_set ?_ GE153.out) | exact HB.out)) hb); clear HO_5; clear BK153; clear HB; have HO_5 := n0_; have BK153 := n1_; have HB := n2_; clear n0_ n1_ n2_; (try clear hb); (try clear hb2); (try clear hk); (try clear hi); have hcz34_0 : w33.cell? ⟨gb153, 0, none⟩ = some (.slice A0_0 l0_0.length c0_0) := (blk_cell BK153.out 0).trans rfl; have hcz34_1 : w33.cell? ⟨gb153, 1, none⟩ = some (.int .i64 a0_1) := (blk_cell BK153.out 1).trans rfl; have hcz34_2 : w33.cell? ⟨gb153, 2, none⟩ = some (.int .i64 a0_2) := (blk_cell BK153.out 2).trans rfl; have hcz34_3 : w33.cell? ⟨gb153, 3, none⟩ = some (.slice A0_3 l0_3.length c0_3) := (blk_cell BK153.out 3).trans rfl; have hcz34_4 : w33.cell? ⟨gb153, 4, none⟩ = some (.slice A0_4 l0_4.length c0_4) := (blk_cell BK153.out 4).trans rfl; have hfz34_0 := blk_frozen BK153.out 0; have hfz34_1 := blk_frozen BK153.out 1; have hfz34_2 := blk_frozen BK153.out 2; have hfz34_3 := blk_frozen BK153.out 3; have hfz34_4 := blk_frozen BK153.out 4))
       go_loopg [9] k1 (fun kq v9 w' => ∃ (x9_2 : Int), v9 = .int .i64 x9_2 ∧ Aside0 (r7_Check.l1 kq x9_2 l0_0 a0_1 a0_2 l0_3 l0_4 = some (r1, r2, r3)) ∧ Aside0 (kq ≤ k1) ∧ Aside0 (w'.heap[gb153]? = some (.cells #[(.slice A0_0 l0_0.length c0_0), .int .i64 a0_1, .int .i64 a0_2, (.slice A0_3 l0_3.length c0_3), (.slice A0_4 l0_4.length c0_4)] 28 (0, 0))) ∧ Aside0 (Below w.heap.size w w'))
       case atStart => exact ⟨(0), (by first | rfl | (simp; done) | (simp [*]; done)), H', ⟨Nat.le_refl _⟩, ⟨by (with_reducible repeat (first | refine blk_drewN ?_ _ | refine blk_drew ?_ | refine blk_alloc ?_ _)); exact BK153.out⟩, ⟨by repeat (first | (with_reducible first | exact HB.out | apply below_alloc | apply pw_below_drewN | apply below_drew1 | refine below_set ?_ GE153.out) | exact HB.out)⟩⟩
       case round =>
        clear H'
        try clear c1
        try clear p1
        try clear q1
        try clear hx1
        try clear c2
        try clear p2
        try clear c3
        try clear c6
        try clear c6b0
        try clear p6
        try clear c7
        try clear c7b0
        try clear c8
        try clear c9
        try clear c10
        try clear c10b0
        try clear c10b1
        try clear c12
        try clear c12b0
        try clear c12b1
        try clear p15
        try clear q15
        try clear hx15
        try clear p16
        try clear q16
        try clear hx16
        try clear c18
        try clear c27
        try clear c27b0
        try clear c27b1
        try clear c28
        try clear c28b0
        try clear c28b1
        try clear hcz13_0
        try clear hcz13_1
        try clear hcz13_2
        try clear hcz13_3
        try clear hcz13_4
        try clear hcz16_0
        try clear hcz16_1
        try clear hcz16_2
        try clear hcz16_3
        try clear hcz16_4
        try clear hcz18_0
        try clear hcz18_1
        try clear hcz18_2
        try clear hcz18_3
        try clear hcz18_4
        try clear hcz21_0
        try clear hcz21_1
        try clear hcz21_2
        try clear hcz21_3
        try clear hcz21_4
        try clear hcz23_0
        try clear hcz23_1
        try clear hcz23_2
        try clear hcz23_3
        try clear hcz23_4
        try clear hcz29_0
        try clear hcz29_1
        try clear hcz29_2
        try clear hcz29_3
        try clear hcz29_4
        try clear hcz31_0
        try clear hcz31_1
        try clear hcz31_2
        try clear hcz31_3
        try clear hcz31_4
        try clear hcz32_0
        try clear hcz32_1
        try clear hcz32_2
        try clear hcz32_3
        try clear hcz32_4
        try clear hcz34_0
        try clear hcz34_1
        try clear hcz34_2
        try clear hcz34_3
        try clear hcz34_4
        try clear hcz5_0
        try clear hcz5_1
        try clear hcz5_2
        try clear hcz5_3
        try clear hcz5_4
        try clear hfz13_0
        try clear hfz13_1
        try clear hfz13_2
        try clear hfz13_3
        try clear hfz13_4
        try clear hfz16_0
        try clear hfz16_1
        try clear hfz16_2
        try clear hfz16_3
        try clear hfz16_4
        try clear hfz18_0
        try clear hfz18_1
        try clear hfz18_2
        try clear hfz18_3
        try clear hfz18_4
        try clear hfz21_0
        try clear hfz21_1
        try clear hfz21_2
        try clear hfz21_3
        try clear hfz21_4
        try clear hfz23_0
        try clear hfz23_1
        try clear hfz23_2
        try clear hfz23_3
        try clear hfz23_4
        try clear hfz29_0
        try clear hfz29_1
        try clear hfz29_2
        try clear hfz29_3
        try clear hfz29_4
        try clear hfz31_0
        try clear hfz31_1
        try clear hfz31_2
        try clear hfz31_3
        try clear hfz31_4
        try clear hfz32_0
        try clear hfz32_1
        try clear hfz32_2
        try clear hfz32_3
        try clear hfz32_4
        try clear hfz34_0
        try clear hfz34_1
        try clear hfz34_2
        try clear hfz34_3
        try clear hfz34_4
        try clear hfz5_0
        try clear hfz5_1
        try clear hfz5_2
        try clear hfz5_3
        try clear hfz5_4
        try clear hx155_0
        try clear hx155_1
        try clear hx155_2
        try clear hx157_0
        try clear hx157_1
        try clear hx157_2
        try clear hx161_0
        try clear hx161_1
        try clear hx161_2
        try clear p155
        try clear p157
        try clear p161
        try clear p2
        try clear q155
        try clear q157
        try clear q161
        obtain ⟨x9_2, rfl, HA, HK2, BK153, HB⟩ := hrel
        cases gk with
        | zero => exact absurd HA.out (by simp [r7_Check.l1])
        | succ k2 =>
         have H := HA.out
         clear HA
         simp only [r7_Check.l1] at H
         by_cases c35 : x9_2 < (l0_3.length : Int)
         ·
          rw [if_pos c35] at H
          have c35b0 : decide (x9_2 < (l0_3.length : Int)) = true := decide_eq_true c35
          clear c35
          by_cases c36 : 0 ≤ x9_2
          ·
           rw [if_pos c36] at H
           have c36b0 : decide (0 ≤ x9_2) = true := decide_eq_true c36
           clear c36
           replace H := Option.bind_eq_some_iff.mp H
           obtain ⟨t165, A370, H⟩ := H
           replace H : (if t165 = 0 then (r7_Check.l1 k2 (wrap64 (x9_2 + 1)) l0_0 a0_1 a0_2 l0_3 l0_4) else (some (3, x9_2, t165))) = some (r1, r2, r3) := H
           have A37 := Aside0.mk A370
           clear A370
           by_cases c38 : t165 = 0
           ·
            rw [if_pos c38] at H
            have c38b0 : (t165 == 0) = true := beq_iff_eq.mpr c38
            have c38b1 : (t165 != 0) = false := bne_eq_false_iff_eq.mpr c38
            clear c38
            have H' := Aside0.mk H
            clear H
            have hcz39_0 := (blk_cell BK153.out 0).trans rfl
            have hcz39_1 := (blk_cell BK153.out 1).trans rfl
            have hcz39_2 := (blk_cell BK153.out 2).trans rfl
            have hcz39_3 := (blk_cell BK153.out 3).trans rfl
            have hcz39_4 := (blk_cell BK153.out 4).trans rfl
            have hfz39_0 := blk_frozen BK153.out 0
            have hfz39_1 := blk_frozen BK153.out 1
            have hfz39_2 := blk_frozen BK153.out 2
            have hfz39_3 := blk_frozen BK153.out 3
            have hfz39_4 := blk_frozen BK153.out 4
            have p164 : 0 ≤ (x9_2 : Int) := of_decide_eq_true (by first | (with_reducible assumption) | assumption)
            have q164 : x9_2 < (l0_3.length : Int) := of_decide_eq_true (by first | (with_reducible assumption) | assumption)
            obtain ⟨ad164, e164, hx164_0, hx164_1⟩ := at_T24 HR0_3.out x9_2 p164 q164
            cases e164
            replace hx164_0 := (HB.out.cell (World.block_lt_of_cell? w _ hx164_0)).trans hx164_0
            replace hx164_1 := (HB.out.cell (World.block_lt_of_cell? w _ hx164_1)).trans hx164_1
            replace p164 := eq_true p164
            replace q164 := eq_true q164
            go_wp2_with (first | ((with_reducible refine gate_callee (f := 87) rfl ?_); refine goesL_ (some 75) rfl rfl Try.func87 (by kernel_rfl) rfl #[.agg #[.int .i64 ((rd_T24 l0_3 x9_2).f0), .int .i64 ((rd_T24 l0_3 x9_2).f1)], .int .i64 1, .int .i64 60] rfl (by (try simp only [List.map_toArray, List.map_cons, List.map_nil]); first | done | rfl | (simp only [List.length_drop, List.length_take]; rfl)) ?_; (with_reducible refine (r7_ends.calls k2 ((rd_T24 l0_3 x9_2).f0) ((rd_T24 l0_3 x9_2).f1) 1 60 t165 _ A37.out).mono ?_); rintro e w40 ⟨rfl, hb⟩; refine ⟨_, rfl, ?_⟩; have n0_ := Aside0.mk (blk_below (g := gb153) (o := .cells #[.slice A0_0 l0_0.length c0_0, .int .i64 a0_1, .int .i64 a0_2, .slice (some ad164) l0_3.length c0_3, .slice A0_4 l0_4.length c0_4] 28 (0, 0)) (by (with_reducible repeat (first | refine blk_drewN ?_ _ | refine blk_drew ?_ | refine blk_alloc ?_ _)); exact BK153.out) hb); have n1_ := Aside0.mk (below_step (by repeat (first | (with_reducible first | exact HB.out | apply below_alloc | apply pw_below_drewN | apply below_drew1 | refine below_set ?_ GE153.out) | exact HB.out)) hb); clear BK153; clear HB; have BK153 := n0_; have HB := n1_; clear n0_ n1_; (try clear hb); (try clear hb2); (try clear hk); (try clear hi)))
            go_roundg k2
            case measure => have := HK1.out; have := HK2.out; omega
            case rel => exact ⟨(wrap64 (x9_2 + 1)), (by first | rfl | (simp; done) | (simp [*]; done)), H', ⟨by have := HK1.out; have := HK2.out; omega⟩, ⟨by (with_reducible repeat (first | refine blk_drewN ?_ _ | refine blk_drew ?_ | refine blk_alloc ?_ _)); exact BK153.out⟩, ⟨by repeat (first | (with_reducible first | exact HB.out | apply below_alloc | apply pw_below_drewN | apply below_drew1 | refine below_set ?_ GE153.out) | exact HB.out)⟩⟩
           ·
            rw [if_neg c38] at H
            have c38b0 : (t165 == 0) = false := beq_eq_false_iff_ne.mpr c38
            have c38b1 : (t165 != 0) = true := bne_iff_ne.mpr c38
            simp only [Option.some.injEq, Prod.mk.injEq] at H
            obtain ⟨rfl, rfl, rfl⟩ := H
            have hcz41_0 := (blk_cell BK153.out 0).trans rfl
            have hcz41_1 := (blk_cell BK153.out 1).trans rfl
            have hcz41_2 := (blk_cell BK153.out 2).trans rfl
            have hcz41_3 := (blk_cell BK153.out 3).trans rfl
            have hcz41_4 := (blk_cell BK153.out 4).trans rfl
            have hfz41_0 := blk_frozen BK153.out 0
            have hfz41_1 := blk_frozen BK153.out 1
            have hfz41_2 := blk_frozen BK153.out 2
            have hfz41_3 := blk_frozen BK153.out 3
            have hfz41_4 := blk_frozen BK153.out 4
            have p164 : 0 ≤ (x9_2 : Int) := of_decide_eq_true (by first | (with_reducible assumption) | assumption)
            have q164 : x9_2 < (l0_3.length : Int) := of_decide_eq_true (by first | (with_reducible assumption) | assumption)
            obtain ⟨ad164, e164, hx164_0, hx164_1⟩ := at_T24 HR0_3.out x9_2 p164 q164
            cases e164
            replace hx164_0 := (HB.out.cell (World.block_lt_of_cell? w _ hx164_0)).trans hx164_0
            replace hx164_1 := (HB.out.cell (World.block_lt_of_cell? w _ hx164_1)).trans hx164_1
            replace p164 := eq_true p164
            replace q164 := eq_true q164
            go_wp2_with (first | ((with_reducible refine gate_callee (f := 87) rfl ?_); refine goesL_ (some 75) rfl rfl Try.func87 (by kernel_rfl) rfl #[.agg #[.int .i64 ((rd_T24 l0_3 x9_2).f0), .int .i64 ((rd_T24 l0_3 x9_2).f1)], .int .i64 1, .int .i64 60] rfl (by (try simp only [List.map_toArray, List.map_cons, List.map_nil]); first | done | rfl | (simp only [List.length_drop, List.length_take]; rfl)) ?_; (with_reducible refine (r7_ends.calls k2 ((rd_T24 l0_3 x9_2).f0) ((rd_T24 l0_3 x9_2).f1) 1 60 t165 _ A37.out).mono ?_); rintro e w42 ⟨rfl, hb⟩; refine ⟨_, rfl, ?_⟩; have n0_ := Aside0.mk (blk_below (g := gb153) (o := .cells #[.slice A0_0 l0_0.length c0_0, .int .i64 a0_1, .int .i64 a0_2, .slice (some ad164) l0_3.length c0_3, .slice A0_4 l0_4.length c0_4] 28 (0, 0)) (by (with_reducible repeat (first | refine blk_drewN ?_ _ | refine blk_drew ?_ | refine blk_alloc ?_ _)); exact BK153.out) hb); have n1_ := Aside0.mk (below_step (by repeat (first | (with_reducible first | exact HB.out | apply below_alloc | apply pw_below_drewN | apply below_drew1 | refine below_set ?_ GE153.out) | exact HB.out)) hb); clear BK153; clear HB; have BK153 := n0_; have HB := n1_; clear n0_ n1_; (try clear hb); (try clear hb2); (try clear hk); (try clear hi)))
            go_ret3
            exact ⟨by first | rfl | (simp [errW_none, errW_some] <;> rfl) | (simp [*, errW_none, errW_some] <;> rfl), by repeat (first | (with_reducible first | exact HB.out | apply below_alloc | apply pw_below_drewN | apply below_drew1 | refine below_set ?_ GE153.out) | exact HB.out)⟩
          ·
           rw [if_neg c36] at H
           exact absurd H (by simp)
         ·
          rw [if_neg c35] at H
          have c35b0 : decide (x9_2 < (l0_3.length : Int)) = false := decide_eq_false c35
          clear c35
          by_cases c43 : (l0_4.length : Int) > 4
          ·
           rw [if_pos c43] at H
           have c43b0 : decide (4 < (l0_4.length : Int)) = true := decide_eq_true c43
           have c43b1 : decide (4 < l0_4.length) = true := decide_eq_true (by omega)
           clear c43
           simp only [Option.some.injEq, Prod.mk.injEq] at H
           obtain ⟨rfl, rfl, rfl⟩ := H
           have hcz44_0 := (blk_cell BK153.out 0).trans rfl
           have hcz44_1 := (blk_cell BK153.out 1).trans rfl
           have hcz44_2 := (blk_cell BK153.out 2).trans rfl
           have hcz44_3 := (blk_cell BK153.out 3).trans rfl
           have hcz44_4 := (blk_cell BK153.out 4).trans rfl
           have hfz44_0 := blk_frozen BK153.out 0
           have hfz44_1 := blk_frozen BK153.out 1
           have hfz44_2 := blk_frozen BK153.out 2
           have hfz44_3 := blk_frozen BK153.out 3
           have hfz44_4 := blk_frozen BK153.out 4
           go_wp2
           go_ret3
           exact ⟨by first | rfl | (simp [errW_none, errW_some] <;> rfl) | (simp [*, errW_none, errW_some] <;> rfl), by repeat (first | (with_reducible first | exact HB.out | apply below_alloc | apply pw_below_drewN | apply below_drew1 | refine below_set ?_ GE153.out) | exact HB.out)⟩
          ·
           rw [if_neg c43] at H
           have c43b0 : decide (4 < (l0_4.length : Int)) = false := decide_eq_false c43
           have c43b1 : decide (4 < l0_4.length) = false := decide_eq_false (by omega)
           clear c43
           have H' := Aside0.mk H
           clear H
           have hcz45_0 := (blk_cell BK153.out 0).trans rfl
           have hcz45_1 := (blk_cell BK153.out 1).trans rfl
           have hcz45_2 := (blk_cell BK153.out 2).trans rfl
           have hcz45_3 := (blk_cell BK153.out 3).trans rfl
           have hcz45_4 := (blk_cell BK153.out 4).trans rfl
           have hfz45_0 := blk_frozen BK153.out 0
           have hfz45_1 := blk_frozen BK153.out 1
           have hfz45_2 := blk_frozen BK153.out 2
           have hfz45_3 := blk_frozen BK153.out 3
           have hfz45_4 := blk_frozen BK153.out 4
           go_wp2
           go_loopg [10] k2 (fun kq v10 w' => ∃ (x10_3 : Int), v10 = .int .i64 x10_3 ∧ Aside0 (r7_Check.l2 kq x10_3 l0_0 a0_1 a0_2 l0_3 l0_4 = some (r1, r2, r3)) ∧ Aside0 (kq ≤ k2) ∧ Aside0 (w'.heap[gb153]? = some (.cells #[(.slice A0_0 l0_0.length c0_0), .int .i64 a0_1, .int .i64 a0_2, (.slice A0_3 l0_3.length c0_3), (.slice A0_4 l0_4.length c0_4)] 28 (0, 0))) ∧ Aside0 (Below w.heap.size w w'))
           case atStart => exact ⟨(0), (by first | rfl | (simp; done) | (simp [*]; done)), H', ⟨Nat.le_refl _⟩, ⟨by (with_reducible repeat (first | refine blk_drewN ?_ _ | refine blk_drew ?_ | refine blk_alloc ?_ _)); exact BK153.out⟩, ⟨by repeat (first | (with_reducible first | exact HB.out | apply below_alloc | apply pw_below_drewN | apply below_drew1 | refine below_set ?_ GE153.out) | exact HB.out)⟩⟩
           case round =>
            clear H'
            try clear c1
            try clear p1
            try clear q1
            try clear hx1
            try clear c2
            try clear p2
            try clear c3
            try clear c4
            try clear c6
            try clear c6b0
            try clear p6
            try clear c7
            try clear c7b0
            try clear c8
            try clear c9
            try clear c10
            try clear c10b0
            try clear c10b1
            try clear c12
            try clear c12b0
            try clear c12b1
            try clear p15
            try clear q15
            try clear hx15
            try clear p16
            try clear q16
            try clear hx16
            try clear c18
            try clear c27
            try clear c27b0
            try clear c27b1
            try clear c28
            try clear c28b0
            try clear c28b1
            try clear c35
            try clear c35b0
            try clear c36
            try clear c36b0
            try clear c38
            try clear c38b0
            try clear c38b1
            try clear c43
            try clear c43b0
            try clear c43b1
            try clear hcz13_0
            try clear hcz13_1
            try clear hcz13_2
            try clear hcz13_3
            try clear hcz13_4
            try clear hcz16_0
            try clear hcz16_1
            try clear hcz16_2
            try clear hcz16_3
            try clear hcz16_4
            try clear hcz18_0
            try clear hcz18_1
            try clear hcz18_2
            try clear hcz18_3
            try clear hcz18_4
            try clear hcz21_0
            try clear hcz21_1
            try clear hcz21_2
            try clear hcz21_3
            try clear hcz21_4
            try clear hcz23_0
            try clear hcz23_1
            try clear hcz23_2
            try clear hcz23_3
            try clear hcz23_4
            try clear hcz29_0
            try clear hcz29_1
            try clear hcz29_2
            try clear hcz29_3
            try clear hcz29_4
            try clear hcz31_0
            try clear hcz31_1
            try clear hcz31_2
            try clear hcz31_3
            try clear hcz31_4
            try clear hcz32_0
            try clear hcz32_1
            try clear hcz32_2
            try clear hcz32_3
            try clear hcz32_4
            try clear hcz34_0
            try clear hcz34_1
            try clear hcz34_2
            try clear hcz34_3
            try clear hcz34_4
            try clear hcz39_0
            try clear hcz39_1
            try clear hcz39_2
            try clear hcz39_3
            try clear hcz39_4
            try clear hcz41_0
            try clear hcz41_1
            try clear hcz41_2
            try clear hcz41_3
            try clear hcz41_4
            try clear hcz44_0
            try clear hcz44_1
            try clear hcz44_2
            try clear hcz44_3
            try clear hcz44_4
            try clear hcz45_0
            try clear hcz45_1
            try clear hcz45_2
            try clear hcz45_3
            try clear hcz45_4
            try clear hcz5_0
            try clear hcz5_1
            try clear hcz5_2
            try clear hcz5_3
            try clear hcz5_4
            try clear hfz13_0
            try clear hfz13_1
            try clear hfz13_2
            try clear hfz13_3
            try clear hfz13_4
            try clear hfz16_0
            try clear hfz16_1
            try clear hfz16_2
            try clear hfz16_3
            try clear hfz16_4
            try clear hfz18_0
            try clear hfz18_1
            try clear hfz18_2
            try clear hfz18_3
            try clear hfz18_4
            try clear hfz21_0
            try clear hfz21_1
            try clear hfz21_2
            try clear hfz21_3
            try clear hfz21_4
            try clear hfz23_0
            try clear hfz23_1
            try clear hfz23_2
            try clear hfz23_3
            try clear hfz23_4
            try clear hfz29_0
            try clear hfz29_1
            try clear hfz29_2
            try clear hfz29_3
            try clear hfz29_4
            try clear hfz31_0
            try clear hfz31_1
            try clear hfz31_2
            try clear hfz31_3
            try clear hfz31_4
            try clear hfz32_0
            try clear hfz32_1
            try clear hfz32_2
            try clear hfz32_3
            try clear hfz32_4
            try clear hfz34_0
            try clear hfz34_1
            try clear hfz34_2
            try clear hfz34_3
            try clear hfz34_4
            try clear hfz39_0
            try clear hfz39_1
            try clear hfz39_2
            try clear hfz39_3
            try clear hfz39_4
            try clear hfz41_0
            try clear hfz41_1
            try clear hfz41_2
            try clear hfz41_3
            try clear hfz41_4
            try clear hfz44_0
            try clear hfz44_1
            try clear hfz44_2
            try clear hfz44_3
            try clear hfz44_4
            try clear hfz45_0
            try clear hfz45_1
            try clear hfz45_2
            try clear hfz45_3
            try clear hfz45_4
            try clear hfz5_0
            try clear hfz5_1
            try clear hfz5_2
            try clear hfz5_3
            try clear hfz5_4
            try clear hx155_0
            try clear hx155_1
            try clear hx155_2
            try clear hx157_0
            try clear hx157_1
            try clear hx157_2
            try clear hx161_0
            try clear hx161_1
            try clear hx161_2
            try clear hx164_0
            try clear hx164_1
            try clear p1
            try clear p15
            try clear p155
            try clear p157
            try clear p16
            try clear p161
            try clear p164
            try clear p2
            try clear p6
            try clear q1
            try clear q15
            try clear q155
            try clear q157
            try clear q16
            try clear q161
            try clear q164
            obtain ⟨x10_3, rfl, HA, HK3, BK153, HB⟩ := hrel
            cases gk with
            | zero => exact absurd HA.out (by simp [r7_Check.l2])
            | succ k3 =>
             have H := HA.out
             clear HA
             simp only [r7_Check.l2] at H
             by_cases c46 : x10_3 < (l0_4.length : Int)
             ·
              rw [if_pos c46] at H
              have c46b0 : decide (x10_3 < (l0_4.length : Int)) = true := decide_eq_true c46
              clear c46
              by_cases c47 : 0 ≤ x10_3
              ·
               rw [if_pos c47] at H
               have c47b0 : decide (0 ≤ x10_3) = true := decide_eq_true c47
               clear c47
               replace H := Option.bind_eq_some_iff.mp H
               obtain ⟨t167, A480, H⟩ := H
               replace H : (if t167 = 0 then (r7_Check.l2 k3 (wrap64 (x10_3 + 1)) l0_0 a0_1 a0_2 l0_3 l0_4) else (some (4, x10_3, t167))) = some (r1, r2, r3) := H
               have A48 := Aside0.mk A480
               clear A480
               by_cases c49 : t167 = 0
               ·
                rw [if_pos c49] at H
                have c49b0 : (t167 == 0) = true := beq_iff_eq.mpr c49
                have c49b1 : (t167 != 0) = false := bne_eq_false_iff_eq.mpr c49
                clear c49
                have H' := Aside0.mk H
                clear H
                have hcz50_0 := (blk_cell BK153.out 0).trans rfl
                have hcz50_1 := (blk_cell BK153.out 1).trans rfl
                have hcz50_2 := (blk_cell BK153.out 2).trans rfl
                have hcz50_3 := (blk_cell BK153.out 3).trans rfl
                have hcz50_4 := (blk_cell BK153.out 4).trans rfl
                have hfz50_0 := blk_frozen BK153.out 0
                have hfz50_1 := blk_frozen BK153.out 1
                have hfz50_2 := blk_frozen BK153.out 2
                have hfz50_3 := blk_frozen BK153.out 3
                have hfz50_4 := blk_frozen BK153.out 4
                try go_wp2
                have n0_ := Aside0.mk (blk_drew BK153.out)
                have n1_ := Aside0.mk (below_drew1 HB.out)
                clear BK153 HB
                have BK153 := n0_
                have HB := n1_
                clear n0_ n1_
                have p166 : 0 ≤ (x10_3 : Int) := of_decide_eq_true (by first | (with_reducible assumption) | assumption)
                have q166 : x10_3 < (l0_4.length : Int) := of_decide_eq_true (by first | (with_reducible assumption) | assumption)
                obtain ⟨ad166, e166, hx166_0, hx166_1, hx166_2⟩ := at_T72 HR0_4.out x10_3 p166 q166
                have hw166_2 := hx166_2
                have hw166_1 := hx166_1
                have hw166_0 := hx166_0
                cases e166
                replace hx166_0 := (HB.out.cell (World.block_lt_of_cell? w _ hx166_0)).trans hx166_0
                replace hx166_1 := (HB.out.cell (World.block_lt_of_cell? w _ hx166_1)).trans hx166_1
                replace hx166_2 := (HB.out.cell (World.block_lt_of_cell? w _ hx166_2)).trans hx166_2
                replace p166 := eq_true p166
                replace q166 := eq_true q166
                refine start_ (n := 8) (S := fun w' => w'.cell? ⟨gb153, 0, none⟩ = some (.slice A0_0 l0_0.length c0_0) ∧ w'.cell? ⟨gb153, 1, none⟩ = some (.int .i64 a0_1) ∧ w'.cell? ⟨gb153, 2, none⟩ = some (.int .i64 a0_2) ∧ w'.cell? ⟨gb153, 3, none⟩ = some (.slice A0_3 l0_3.length c0_3) ∧ w'.cell? ⟨gb153, 4, none⟩ = some (.slice (some ad166) l0_4.length c0_4) ∧ w'.cell? (ad166.add ((x10_3).toNat * 3)) = some (.int .i64 ((rd_T72 l0_4 x10_3).f0)) ∧ w'.cell? ⟨(ad166.add ((x10_3).toNat * 3)).block, (ad166.add ((x10_3).toNat * 3)).off + 1, none⟩ = some (.int .i64 ((rd_T72 l0_4 x10_3).f1)) ∧ w'.cell? ⟨(ad166.add ((x10_3).toNat * 3)).block, (ad166.add ((x10_3).toNat * 3)).off + 2, none⟩ = some (.int .i64 ((rd_T72 l0_4 x10_3).f2))) (ds := []) #[false, false, false, false, false, false, false, false] (by kernel_rfl) rfl rfl ⟨(blk_cell BK153.out 0).trans rfl, (blk_cell BK153.out 1).trans rfl, (blk_cell BK153.out 2).trans rfl, (blk_cell BK153.out 3).trans rfl, (blk_cell BK153.out 4).trans rfl, ((HB.out.cell (World.block_lt_of_cell? w _ hw166_0)).trans hw166_0), ((HB.out.cell (World.block_lt_of_cell? w _ hw166_1)).trans hw166_1), ((HB.out.cell (World.block_lt_of_cell? w _ hw166_2)).trans hw166_2)⟩ (fun hHeld => ?_); refine with_tabW r7_Check.tab29 r7_Check.bits29 (fun HT_ HW_ => ?_)
                generalize wr.drew = w51 at BK153 HB hx166_0 hx166_1 hx166_2 hHeld ⊢
                refine pureQ 1 92 HT_.out ?_
                refine pureQ 3 94 HT_.out ?_
                refine takeQ 0 91 HT_.out HW_.out hHeld ?_
                refine takeQ 2 93 HT_.out HW_.out hHeld ?_
                refine pureQ 4 95 HT_.out ?_
                refine takeQ 5 96 HT_.out HW_.out hHeld ?_
                refine one_ (i := 6) (N := some 97) #[true, true, true, true, true, true, true, false] rfl rfl (one_of HT_.out (by kernel_rfl)) (by decide) (fun K hK => ?_)
                refine goes_ Try.func88 (by kernel_rfl) rfl #[.agg #[.slice A0_0 l0_0.length c0_0, .int .i64 a0_1, .int .i64 a0_2, .slice A0_3 l0_3.length c0_3, .slice (some ad166) l0_4.length c0_4], .agg #[.int .i64 ((rd_T72 l0_4 x10_3).f0), .int .i64 ((rd_T72 l0_4 x10_3).f1), .int .i64 ((rd_T72 l0_4 x10_3).f2)]] (by rfl) rfl rfl (by (try simp only [List.map_toArray, List.map_cons, List.map_nil]); first | done | rfl | (simp only [List.length_drop, List.length_take]; rfl)) ?_
                with_reducible refine (r7_drawing.calls k3 _ _ l0_0 a0_1 a0_2 _ _ l0_3 _ _ l0_4 ((rd_T72 l0_4 x10_3).f0) ((rd_T72 l0_4 x10_3).f1) ((rd_T72 l0_4 x10_3).f2) t167 _ ?side1 ?side2 ?side3 ?side4 ?side5 ?side6 A48.out).mono ?_
                (case side1 => repeat (first | exact (Kd.C_below HR0_0.out HB.out) | (with_reducible refine Kd.C_alloc ?_ _) | (with_reducible refine Kd.C_drewN ?_ _) | (with_reducible refine Kd.C_drew ?_)))
                (case side2 => exact HC0_0.out)
                (case side3 => repeat (first | exact (Kd.C_below HR0_3.out HB.out) | (with_reducible refine Kd.C_alloc ?_ _) | (with_reducible refine Kd.C_drewN ?_ _) | (with_reducible refine Kd.C_drew ?_)))
                (case side4 => exact HC0_3.out)
                (case side5 => repeat (first | exact (Kd.C_below HR0_4.out HB.out) | (with_reducible refine Kd.C_alloc ?_ _) | (with_reducible refine Kd.C_drewN ?_ _) | (with_reducible refine Kd.C_drew ?_)))
                (case side6 => exact HC0_4.out)
                rintro e w52 ⟨rfl, hb⟩
                refine ⟨_, rfl, ?_⟩
                have n0_ := Aside0.mk (blk_below (g := gb153) (o := .cells #[.slice A0_0 l0_0.length c0_0, .int .i64 a0_1, .int .i64 a0_2, .slice A0_3 l0_3.length c0_3, .slice (some ad166) l0_4.length c0_4] 28 (0, 0)) (by (with_reducible repeat (first | refine blk_drewN ?_ _ | refine blk_drew ?_ | refine blk_alloc ?_ _)); exact BK153.out) hb)
                have n1_ := Aside0.mk (below_step (by repeat (first | (with_reducible first | exact HB.out | apply below_alloc | apply pw_below_drewN | apply below_drew1 | refine below_set ?_ GE153.out) | exact HB.out)) hb)
                clear BK153 HB
                have BK153 := n0_
                have HB := n1_
                clear n0_ n1_
                (try clear hb)
                (try clear hb2)
                (try clear hk)
                (try clear hi)
                refine hK.out _ _ ⟨(blk_cell BK153.out 0).trans rfl, (blk_cell BK153.out 1).trans rfl, (blk_cell BK153.out 2).trans rfl, (blk_cell BK153.out 3).trans rfl, (blk_cell BK153.out 4).trans rfl, ((HB.out.cell (World.block_lt_of_cell? w _ hw166_0)).trans hw166_0), ((HB.out.cell (World.block_lt_of_cell? w _ hw166_1)).trans hw166_1), ((HB.out.cell (World.block_lt_of_cell? w _ hw166_2)).trans hw166_2)⟩ (fun hHeld => ?_)
                clear hK K
                refine norm_ (a' := ?_) ?_ ?_
                rotate_left
                ·
                 show Act.put _ (some 97) _ = _
                 simp only [Act.put, List.setIfInBounds_toArray, List.set_cons_zero, List.set_cons_succ, i64_w, i32_w]
                 rfl
                refine pureQ 7 8 HT_.out ?_
                refine done_ (done_of HT_.out (by kernel_rfl)) ?_
                try go_wp2
                go_roundg k3
                case measure => have := HK1.out; have := HK2.out; have := HK3.out; omega
                case rel => exact ⟨(wrap64 (x10_3 + 1)), (by first | rfl | (simp; done) | (simp [*]; done)), H', ⟨by have := HK1.out; have := HK2.out; have := HK3.out; omega⟩, ⟨by (with_reducible repeat (first | refine blk_drewN ?_ _ | refine blk_drew ?_ | refine blk_alloc ?_ _)); exact BK153.out⟩, ⟨by repeat (first | (with_reducible first | exact HB.out | apply below_alloc | apply pw_below_drewN | apply below_drew1 | refine below_set ?_ GE153.out) | exact HB.out)⟩⟩
               ·
                rw [if_neg c49] at H
                have c49b0 : (t167 == 0) = false := beq_eq_false_iff_ne.mpr c49
                have c49b1 : (t167 != 0) = true := bne_iff_ne.mpr c49
                simp only [Option.some.injEq, Prod.mk.injEq] at H
                obtain ⟨rfl, rfl, rfl⟩ := H
                have hcz53_0 := (blk_cell BK153.out 0).trans rfl
                have hcz53_1 := (blk_cell BK153.out 1).trans rfl
                have hcz53_2 := (blk_cell BK153.out 2).trans rfl
                have hcz53_3 := (blk_cell BK153.out 3).trans rfl
                have hcz53_4 := (blk_cell BK153.out 4).trans rfl
                have hfz53_0 := blk_frozen BK153.out 0
                have hfz53_1 := blk_frozen BK153.out 1
                have hfz53_2 := blk_frozen BK153.out 2
                have hfz53_3 := blk_frozen BK153.out 3
                have hfz53_4 := blk_frozen BK153.out 4
                try go_wp2
                have n0_ := Aside0.mk (blk_drew BK153.out)
                have n1_ := Aside0.mk (below_drew1 HB.out)
                clear BK153 HB
                have BK153 := n0_
                have HB := n1_
                clear n0_ n1_
                have p166 : 0 ≤ (x10_3 : Int) := of_decide_eq_true (by first | (with_reducible assumption) | assumption)
                have q166 : x10_3 < (l0_4.length : Int) := of_decide_eq_true (by first | (with_reducible assumption) | assumption)
                obtain ⟨ad166, e166, hx166_0, hx166_1, hx166_2⟩ := at_T72 HR0_4.out x10_3 p166 q166
                have hw166_2 := hx166_2
                have hw166_1 := hx166_1
                have hw166_0 := hx166_0
                cases e166
                replace hx166_0 := (HB.out.cell (World.block_lt_of_cell? w _ hx166_0)).trans hx166_0
                replace hx166_1 := (HB.out.cell (World.block_lt_of_cell? w _ hx166_1)).trans hx166_1
                replace hx166_2 := (HB.out.cell (World.block_lt_of_cell? w _ hx166_2)).trans hx166_2
                replace p166 := eq_true p166
                replace q166 := eq_true q166
                refine start_ (n := 8) (S := fun w' => w'.cell? ⟨gb153, 0, none⟩ = some (.slice A0_0 l0_0.length c0_0) ∧ w'.cell? ⟨gb153, 1, none⟩ = some (.int .i64 a0_1) ∧ w'.cell? ⟨gb153, 2, none⟩ = some (.int .i64 a0_2) ∧ w'.cell? ⟨gb153, 3, none⟩ = some (.slice A0_3 l0_3.length c0_3) ∧ w'.cell? ⟨gb153, 4, none⟩ = some (.slice (some ad166) l0_4.length c0_4) ∧ w'.cell? (ad166.add ((x10_3).toNat * 3)) = some (.int .i64 ((rd_T72 l0_4 x10_3).f0)) ∧ w'.cell? ⟨(ad166.add ((x10_3).toNat * 3)).block, (ad166.add ((x10_3).toNat * 3)).off + 1, none⟩ = some (.int .i64 ((rd_T72 l0_4 x10_3).f1)) ∧ w'.cell? ⟨(ad166.add ((x10_3).toNat * 3)).block, (ad166.add ((x10_3).toNat * 3)).off + 2, none⟩ = some (.int .i64 ((rd_T72 l0_4 x10_3).f2))) (ds := []) #[false, false, false, false, false, false, false, false] (by kernel_rfl) rfl rfl ⟨(blk_cell BK153.out 0).trans rfl, (blk_cell BK153.out 1).trans rfl, (blk_cell BK153.out 2).trans rfl, (blk_cell BK153.out 3).trans rfl, (blk_cell BK153.out 4).trans rfl, ((HB.out.cell (World.block_lt_of_cell? w _ hw166_0)).trans hw166_0), ((HB.out.cell (World.block_lt_of_cell? w _ hw166_1)).trans hw166_1), ((HB.out.cell (World.block_lt_of_cell? w _ hw166_2)).trans hw166_2)⟩ (fun hHeld => ?_); refine with_tabW r7_Check.tab29 r7_Check.bits29 (fun HT_ HW_ => ?_)
                generalize wr.drew = w54 at BK153 HB hx166_0 hx166_1 hx166_2 hHeld ⊢
                refine pureQ 1 92 HT_.out ?_
                refine pureQ 3 94 HT_.out ?_
                refine takeQ 0 91 HT_.out HW_.out hHeld ?_
                refine takeQ 2 93 HT_.out HW_.out hHeld ?_
                refine pureQ 4 95 HT_.out ?_
                refine takeQ 5 96 HT_.out HW_.out hHeld ?_
                refine one_ (i := 6) (N := some 97) #[true, true, true, true, true, true, true, false] rfl rfl (one_of HT_.out (by kernel_rfl)) (by decide) (fun K hK => ?_)
                refine goes_ Try.func88 (by kernel_rfl) rfl #[.agg #[.slice A0_0 l0_0.length c0_0, .int .i64 a0_1, .int .i64 a0_2, .slice A0_3 l0_3.length c0_3, .slice (some ad166) l0_4.length c0_4], .agg #[.int .i64 ((rd_T72 l0_4 x10_3).f0), .int .i64 ((rd_T72 l0_4 x10_3).f1), .int .i64 ((rd_T72 l0_4 x10_3).f2)]] (by rfl) rfl rfl (by (try simp only [List.map_toArray, List.map_cons, List.map_nil]); first | done | rfl | (simp only [List.length_drop, List.length_take]; rfl)) ?_
                with_reducible refine (r7_drawing.calls k3 _ _ l0_0 a0_1 a0_2 _ _ l0_3 _ _ l0_4 ((rd_T72 l0_4 x10_3).f0) ((rd_T72 l0_4 x10_3).f1) ((rd_T72 l0_4 x10_3).f2) t167 _ ?side1 ?side2 ?side3 ?side4 ?side5 ?side6 A48.out).mono ?_
                (case side1 => repeat (first | exact (Kd.C_below HR0_0.out HB.out) | (with_reducible refine Kd.C_alloc ?_ _) | (with_reducible refine Kd.C_drewN ?_ _) | (with_reducible refine Kd.C_drew ?_)))
                (case side2 => exact HC0_0.out)
                (case side3 => repeat (first | exact (Kd.C_below HR0_3.out HB.out) | (with_reducible refine Kd.C_alloc ?_ _) | (with_reducible refine Kd.C_drewN ?_ _) | (with_reducible refine Kd.C_drew ?_)))
                (case side4 => exact HC0_3.out)
                (case side5 => repeat (first | exact (Kd.C_below HR0_4.out HB.out) | (with_reducible refine Kd.C_alloc ?_ _) | (with_reducible refine Kd.C_drewN ?_ _) | (with_reducible refine Kd.C_drew ?_)))
                (case side6 => exact HC0_4.out)
                rintro e w55 ⟨rfl, hb⟩
                refine ⟨_, rfl, ?_⟩
                have n0_ := Aside0.mk (blk_below (g := gb153) (o := .cells #[.slice A0_0 l0_0.length c0_0, .int .i64 a0_1, .int .i64 a0_2, .slice A0_3 l0_3.length c0_3, .slice (some ad166) l0_4.length c0_4] 28 (0, 0)) (by (with_reducible repeat (first | refine blk_drewN ?_ _ | refine blk_drew ?_ | refine blk_alloc ?_ _)); exact BK153.out) hb)
                have n1_ := Aside0.mk (below_step (by repeat (first | (with_reducible first | exact HB.out | apply below_alloc | apply pw_below_drewN | apply below_drew1 | refine below_set ?_ GE153.out) | exact HB.out)) hb)
                clear BK153 HB
                have BK153 := n0_
                have HB := n1_
                clear n0_ n1_
                (try clear hb)
                (try clear hb2)
                (try clear hk)
                (try clear hi)
                refine hK.out _ _ ⟨(blk_cell BK153.out 0).trans rfl, (blk_cell BK153.out 1).trans rfl, (blk_cell BK153.out 2).trans rfl, (blk_cell BK153.out 3).trans rfl, (blk_cell BK153.out 4).trans rfl, ((HB.out.cell (World.block_lt_of_cell? w _ hw166_0)).trans hw166_0), ((HB.out.cell (World.block_lt_of_cell? w _ hw166_1)).trans hw166_1), ((HB.out.cell (World.block_lt_of_cell? w _ hw166_2)).trans hw166_2)⟩ (fun hHeld => ?_)
                clear hK K
                refine norm_ (a' := ?_) ?_ ?_
                rotate_left
                ·
                 show Act.put _ (some 97) _ = _
                 simp only [Act.put, List.setIfInBounds_toArray, List.set_cons_zero, List.set_cons_succ, i64_w, i32_w]
                 rfl
                refine pureQ 7 8 HT_.out ?_
                refine done_ (done_of HT_.out (by kernel_rfl)) ?_
                try go_wp2
                go_ret3
                exact ⟨by first | rfl | (simp [errW_none, errW_some] <;> rfl) | (simp [*, errW_none, errW_some] <;> rfl), by repeat (first | (with_reducible first | exact HB.out | apply below_alloc | apply pw_below_drewN | apply below_drew1 | refine below_set ?_ GE153.out) | exact HB.out)⟩
              ·
               rw [if_neg c47] at H
               exact absurd H (by simp)
             ·
              rw [if_neg c46] at H
              have c46b0 : decide (x10_3 < (l0_4.length : Int)) = false := decide_eq_false c46
              clear c46
              simp only [Option.some.injEq, Prod.mk.injEq] at H
              obtain ⟨rfl, rfl, rfl⟩ := H
              have hcz56_0 := (blk_cell BK153.out 0).trans rfl
              have hcz56_1 := (blk_cell BK153.out 1).trans rfl
              have hcz56_2 := (blk_cell BK153.out 2).trans rfl
              have hcz56_3 := (blk_cell BK153.out 3).trans rfl
              have hcz56_4 := (blk_cell BK153.out 4).trans rfl
              have hfz56_0 := blk_frozen BK153.out 0
              have hfz56_1 := blk_frozen BK153.out 1
              have hfz56_2 := blk_frozen BK153.out 2
              have hfz56_3 := blk_frozen BK153.out 3
              have hfz56_4 := blk_frozen BK153.out 4
              go_wp2
              go_ret3
              exact ⟨by first | rfl | (simp [errW_none, errW_some] <;> rfl) | (simp [*, errW_none, errW_some] <;> rfl), by repeat (first | (with_reducible first | exact HB.out | apply below_alloc | apply pw_below_drewN | apply below_drew1 | refine below_set ?_ GE153.out) | exact HB.out)⟩
     ·
      rw [if_neg c27] at H
      have c27b0 : (t163 == 0) = false := beq_eq_false_iff_ne.mpr c27
      have c27b1 : (t163 != 0) = true := bne_iff_ne.mpr c27
      simp only [Option.some.injEq, Prod.mk.injEq] at H
      obtain ⟨rfl, rfl, rfl⟩ := H
      have hcz57_0 := (blk_cell BK153.out 0).trans rfl
      have hcz57_1 := (blk_cell BK153.out 1).trans rfl
      have hcz57_2 := (blk_cell BK153.out 2).trans rfl
      have hcz57_3 := (blk_cell BK153.out 3).trans rfl
      have hcz57_4 := (blk_cell BK153.out 4).trans rfl
      have hfz57_0 := blk_frozen BK153.out 0
      have hfz57_1 := blk_frozen BK153.out 1
      have hfz57_2 := blk_frozen BK153.out 2
      have hfz57_3 := blk_frozen BK153.out 3
      have hfz57_4 := blk_frozen BK153.out 4
      go_wp2_with (first | ((with_reducible refine gate_callee (f := 87) rfl ?_); refine goesL_ (some 55) rfl rfl Try.func87 (by kernel_rfl) rfl #[.agg #[.int .i64 a0_1, .int .i64 a0_2], .int .i64 0, .int .i64 3] rfl (by (try simp only [List.map_toArray, List.map_cons, List.map_nil]); first | done | rfl | (simp only [List.length_drop, List.length_take]; rfl)) ?_; (with_reducible refine (r7_ends.calls k1 a0_1 a0_2 0 3 t163 _ A26.out).mono ?_); rintro e w58 ⟨rfl, hb⟩; refine ⟨_, rfl, ?_⟩; have n0_ := Aside0.mk (Kd.R_below (by (with_reducible repeat (first | apply Kd.R_alloc | apply Kd.R_drewN | apply Kd.R_drew)); exact HO_5.out) hb); have n1_ := Aside0.mk (blk_below (g := gb153) (o := .cells #[.slice A0_0 l0_0.length c0_0, .int .i64 a0_1, .int .i64 a0_2, .slice A0_3 l0_3.length c0_3, .slice A0_4 l0_4.length c0_4] 28 (0, 0)) (by (with_reducible repeat (first | refine blk_drewN ?_ _ | refine blk_drew ?_ | refine blk_alloc ?_ _)); exact BK153.out) hb); have n2_ := Aside0.mk (below_step (by repeat (first | (with_reducible first | exact HB.out | apply below_alloc | apply pw_below_drewN | apply below_drew1 | refine below_set ?_ GE153.out) | exact HB.out)) hb); clear HO_5; clear BK153; clear HB; have HO_5 := n0_; have BK153 := n1_; have HB := n2_; clear n0_ n1_ n2_; (try clear hb); (try clear hb2); (try clear hk); (try clear hi)))
      go_ret3
      exact ⟨by first | rfl | (simp [errW_none, errW_some] <;> rfl) | (simp [*, errW_none, errW_some] <;> rfl), by repeat (first | (with_reducible first | exact HB.out | apply below_alloc | apply pw_below_drewN | apply below_drew1 | refine below_set ?_ GE153.out) | exact HB.out)⟩
 ·
  replace c3 := Bool.eq_false_iff.mpr c3
  subst c3
  have H1 : (some (1, 0, 3)) = some (r1, r2, r3) := by rw [if_neg (show ¬ (false = true) by decide)] at H; exact H
  clear H
  have H := H1
  clear H1
  simp only [Option.some.injEq, Prod.mk.injEq] at H
  obtain ⟨rfl, rfl, rfl⟩ := H
  go_enter Try.func18, Try.ntmps18
  go_wp2_with (first | ((with_reducible refine gate_dst (N := 1) rfl ?_); refine box_event ?hg (N := 1) ?hd (cs := #[.slice A0_0 l0_0.length c0_0, .int .i64 a0_1, .int .i64 a0_2, .slice A0_3 l0_3.length c0_3, .slice A0_4 l0_4.length c0_4]) (t := 28) ?hr ?_; (case hd => rfl); (case hg => rfl); (case hr => first | (go_simp; done) | (go_simp; rfl)); intro gb153 hg w59 hbox hb; have n0_ := Aside0.mk (below_step (by repeat (first | (with_reducible first | exact HB.out | apply below_alloc | apply pw_below_drewN | apply below_drew1) | exact HB.out)) hb); have n1_ := Aside0.mk (hbox); have n2_ := Aside0.mk ((by rw [hg]; exact (below_size (by repeat (first | (with_reducible first | exact HB.out | apply below_alloc | apply pw_below_drewN | apply below_drew1) | exact HB.out))) : w.heap.size ≤ gb153)); have n3_ := Aside0.mk ((by rw [hg]; exact (below_size (by repeat (first | (with_reducible first | exact HB.out | apply below_alloc | apply pw_below_drewN | apply below_drew1) | exact HB.out))) : w.heap.size ≤ gb153)); clear HB; have HB := n0_; have BK153 := n1_; have GW153 := n2_; have GE153 := n3_; clear n0_ n1_ n2_ n3_; clear hb hbox hg; have hcz60_0 : w59.cell? ⟨gb153, 0, none⟩ = some (.slice A0_0 l0_0.length c0_0) := (blk_cell BK153.out 0).trans rfl; have hcz60_1 : w59.cell? ⟨gb153, 1, none⟩ = some (.int .i64 a0_1) := (blk_cell BK153.out 1).trans rfl; have hcz60_2 : w59.cell? ⟨gb153, 2, none⟩ = some (.int .i64 a0_2) := (blk_cell BK153.out 2).trans rfl; have hcz60_3 : w59.cell? ⟨gb153, 3, none⟩ = some (.slice A0_3 l0_3.length c0_3) := (blk_cell BK153.out 3).trans rfl; have hcz60_4 : w59.cell? ⟨gb153, 4, none⟩ = some (.slice A0_4 l0_4.length c0_4) := (blk_cell BK153.out 4).trans rfl; have hfz60_0 := blk_frozen BK153.out 0; have hfz60_1 := blk_frozen BK153.out 1; have hfz60_2 := blk_frozen BK153.out 2; have hfz60_3 := blk_frozen BK153.out 3; have hfz60_4 := blk_frozen BK153.out 4) | ((with_reducible refine gate_callee (f := 85) rfl ?_); refine goesL_ (some 14) rfl rfl Try.func85 (by kernel_rfl) rfl #[.int .i64 (l0_0.length : Int), .int .i64 1, .int .i64 3] rfl (by (try simp only [List.map_toArray, List.map_cons, List.map_nil]); first | done | rfl | (simp only [List.length_drop, List.length_take]; rfl)) ?_; (with_reducible refine (r1_In.calls (l0_0.length : Int) 1 3 false _ A2.out).mono ?_); rintro e w' ⟨rfl, ⟨nd, rfl⟩⟩; refine ⟨_, rfl, ?_⟩))
  go_ret3
  exact ⟨by first | rfl | (simp [errW_none, errW_some] <;> rfl) | (simp [*, errW_none, errW_some] <;> rfl), by repeat (first | (with_reducible first | exact HB.out | apply below_alloc | apply pw_below_drewN | apply below_drew1 | refine below_set ?_ GE153.out) | exact HB.out)⟩

end Go.Proofs.Ytgoidclnccjdeaa.PR
end
section
namespace Go.Proofs.Ytgoidclnccjdeaa.PR
open Go.RowKit Go.Proofs.YtgoidclnccjdeaaW.PrintWords Go.Proofs.YtgoidclnccjdeaaW.PrintLast Go.Proofs.YtgoidclnccjdeaaW.PrintMore
attribute [local go_sem] max2_int min2_int max_two min_two max_three min_three max_four min_four   -- for this text's walks alone
set_option linter.unusedVariables false
set_option linter.unusedSimpArgs false

mutual
def r7_each.l0 : Nat → List (S24) → List (List Int) → Int → Option ((List (List Int)))
 | 0, _, _, _ => none
 | k + 1, x0, x3, x4 => if x4 < (x0.length : Int) then (r7_each.l1 k x0 x3 x4 ([] : List (List Int)) 0) else (some x3)
def r7_each.l1 : Nat → List (S24) → List (List Int) → Int → List (List Int) → Int → Option ((List (List Int)))
 | 0, _, _, _, _, _ => none
 | k + 1, x0, x3, x4, x5, x6 => if x6 < (x3.length : Int) then (if 0 ≤ x4 then (if x4 < (x0.length : Int) then (r7_each.l2 k x0 x3 x4 x5 x6 ((rd_T24 x0 x4).f0)) else (none)) else (none)) else (r7_each.l0 k x0 x5 (wrap64 (x4 + 1)))
def r7_each.l2 : Nat → List (S24) → List (List Int) → Int → List (List Int) → Int → Int → Option ((List (List Int)))
 | 0, _, _, _, _, _, _ => none
 | k + 1, x0, x3, x4, x5, x6, x7 => if 0 ≤ x4 then (if x4 < (x0.length : Int) then (if x7 ≤ ((rd_T24 x0 x4).f1) then ((some (([] : List Int) : List Int)).bind fun y173 => (if 0 ≤ x6 then (if x6 < (x3.length : Int) then (if y173.length + (rd_L2 x3 x6).length < 17592186044416 then ((some (y173 ++ (rd_L2 x3 x6) : List Int)).bind fun y177 => (if y177.length < 17592186044416 then (if x5.length < 5864062014805 then (r7_each.l2 k x0 x3 x4 (x5 ++ [(y177 ++ [x7])]) x6 (wrap64 (x7 + 1))) else (none)) else (none))) else (none)) else (none)) else (none))) else (r7_each.l1 k x0 x3 x4 x5 (wrap64 (x6 + 1)))) else (none)) else (none)
end
def r7_each.f (k : Nat) (l0 : List (S24)) : Option ((List (List Int))) := r7_each.l0 k l0 (([[]] : List (List Int))) 0
set_option maxHeartbeats 8000000 in
set_option maxRecDepth 100000 in
theorem r7_each.calls (k : Nat) (A0 : Option Addr) (c0 : Nat) (l0 : List (S24)) (r : List (List Int)) (w : World) (hr0 : Kd.C k24 w A0 l0.length l0) (hc0 : l0.length ≤ c0) (h : r7_each.f k l0 = some r) :
  Calls Try.prog 135 #[.slice A0 l0.length c0] w fun e w' => ∃ v0_ : Value, e = .returned (v0_) ∧ Kd.S (Kd.slice 3 (Kd.int .i64)) 39 w' w.heap.size (fun _ => True) v0_ r ∧ Below w.heap.size w w' := by
 have HR0 := Aside0.mk hr0
 have HC0 := Aside0.mk hc0
 clear hr0 hc0
 have HB := Aside0.mk (Below.refl w.heap.size w)
 have H : (r7_each.l0 k l0 (([[]] : List (List Int))) 0) = some r := h
 clear h
 obtain ⟨y168, hy168⟩ : ∃ y_ : List (List Int), y_ = (([[]] : List (List Int))) := ⟨_, rfl⟩
 replace H : (r7_each.l0 k l0 y168 0) = some r := by first | (rw [hy168]; with_reducible exact H) | (have H2_ := (Option.bind_some _ _).symm.trans H; rw [hy168]; with_reducible exact H2_) | (have H2_ := (Option.bind_some _ _).symm.trans H; with_reducible exact H2_) | with_reducible exact H | (rw [hy168]; exact H) | exact H
 have Ny168 := Aside0.mk hy168
 clear hy168
 have H' := Aside0.mk H
 clear H
 go_enter Try.func135, Try.ntmps135
 go_wp2_with (first | ((with_reducible refine gate_dst (N := 8) rfl ?_); refine Kd.S_lit (Kd.slice 3 (Kd.int .i64)) _ 39 ?hg (N := 8) ?hd (xs := ([[]] : List (List Int))) (inner := [.slice none 0 0]) (ok := fun _ => True) (okp := fun _ => True) ?hr ?hp (fun _ hk => hk) trivial (Below.refl _ _) (Nat.le_refl _) (by simp) ?_; (case hd => rfl); (case hg => rfl); (case hr => first | (go_simp; done) | (go_simp; rfl)); (case hp => exact (Reps.one (show Kd.M (Kd.slice 3 (Kd.int .i64)) _ _ _ [] [.slice none 0 0] from ⟨_, rfl, Kd.R_nil _ _ _ _ _⟩) (Reps.none _ _))); intro v169 w2 ho3 hb hg_ hnew_; clear hg_ hnew_; (first | rw [← Ny168.out] at ho3 | (simp only [Int.reduceToNat] at ho3; rw [← Ny168.out] at ho3)); have n0_ := Aside0.mk (Kd.S_lower ho3 (below_size (by repeat (first | (with_reducible first | exact HB.out | apply below_alloc | apply pw_below_drewN | apply below_drew1) | exact HB.out)))); have n1_ := Aside0.mk (below_step (by repeat (first | (with_reducible first | exact HB.out | apply below_alloc | apply pw_below_drewN | apply below_drew1) | exact HB.out)) hb); clear HB; have HO170 := n0_; have HB := n1_; clear n0_ n1_; clear hb ho3))
 go_loopg [3, 4] k (fun kq v3 v4 w' => ∃ (x3_1 : List (List Int)) (x4_1 : Int), v4 = .int .i64 x4_1 ∧ Aside0 (r7_each.l0 kq l0 x3_1 x4_1 = some r) ∧ Aside0 (kq ≤ k) ∧ Aside0 (Kd.S (Kd.slice 3 (Kd.int .i64)) 39 w' w.heap.size (fun _ => True) v3 x3_1) ∧ Aside0 (Below w.heap.size w w'))
 case atStart => exact ⟨(y168), (0), (by first | rfl | (simp; done) | (simp [*]; done)), H', ⟨Nat.le_refl _⟩, ⟨by (with_reducible repeat (first | apply Kd.S_alloc | apply Kd.S_drewN | apply Kd.S_drew)); exact HO170.out⟩, ⟨by repeat (first | (with_reducible first | exact HB.out | apply below_alloc | apply pw_below_drewN | apply below_drew1) | exact HB.out)⟩⟩
 case round =>
  clear H'
  try clear c1
  try clear p2
  obtain ⟨x3_1, x4_1, rfl, HA, HK1, HO_3, HB⟩ := hrel
  cases gk with
  | zero => exact absurd HA.out (by simp [r7_each.l0])
  | succ k1 =>
   have H := HA.out
   clear HA
   simp only [r7_each.l0] at H
   by_cases c4 : x4_1 < (l0.length : Int)
   ·
    rw [if_pos c4] at H
    have c4b0 : decide (x4_1 < (l0.length : Int)) = true := decide_eq_true c4
    clear c4
    have H' := Aside0.mk H
    clear H
    go_wp2
    go_loopg [5, 6] k1 (fun kq v5 v6 w' => ∃ (x5_2 : List (List Int)) (x6_2 : Int), v6 = .int .i64 x6_2 ∧ Aside0 (r7_each.l1 kq l0 x3_1 x4_1 x5_2 x6_2 = some r) ∧ Aside0 (kq ≤ k1) ∧ Aside0 (Kd.S (Kd.slice 3 (Kd.int .i64)) 39 w' w.heap.size (fun k_ => some k_ ≠ (v5 : Value).ownBlock) u3 x3_1) ∧ Aside0 (Kd.S (Kd.slice 3 (Kd.int .i64)) 39 w' w.heap.size (fun k_ => some k_ ≠ (u3 : Value).ownBlock) v5 x5_2) ∧ Aside0 (Below w.heap.size w w'))
    case atStart => exact ⟨(([] : List (List Int))), (0), (by first | rfl | (simp; done) | (simp [*]; done)), H', ⟨Nat.le_refl _⟩, ⟨by (with_reducible repeat (first | apply Kd.S_alloc | apply Kd.S_drewN | apply Kd.S_drew)); exact Kd.S_mono HO_3.out (fun _ hk => (by simp [Value.ownBlock]))⟩, ⟨by first | exact Kd.S_nil _ _ _ _ _ | exact Kd.N_nil _ _ _ _ _ | exact Kd.V_nil _ _ _ _ _ | exact Kd.Q_nil _ _ _ _ _ | exact Kd.R_nil _ _ _ _ _⟩, ⟨by repeat (first | (with_reducible first | exact HB.out | apply below_alloc | apply pw_below_drewN | apply below_drew1) | exact HB.out)⟩⟩
    case round =>
     clear H'
     try clear c1
     try clear p2
     try clear c4
     try clear c4b0
     try clear p2
     obtain ⟨x5_2, x6_2, rfl, HA, HK2, HO_3, HO_5, HB⟩ := hrel
     cases gk with
     | zero => exact absurd HA.out (by simp [r7_each.l1])
     | succ k2 =>
      have H := HA.out
      clear HA
      simp only [r7_each.l1] at H
      by_cases c5 : x6_2 < (x3_1.length : Int)
      ·
       rw [if_pos c5] at H
       have c5b0 : decide (x6_2 < (x3_1.length : Int)) = true := decide_eq_true c5
       clear c5
       by_cases c6 : 0 ≤ x4_1
       ·
        rw [if_pos c6] at H
        have c6b0 : decide (0 ≤ x4_1) = true := decide_eq_true c6
        clear c6
        by_cases c7 : x4_1 < (l0.length : Int)
        ·
         rw [if_pos c7] at H
         have c7b0 : decide (x4_1 < (l0.length : Int)) = true := decide_eq_true c7
         clear c7
         have H' := Aside0.mk H
         clear H
         obtain ⟨Ao8, co8, eo8⟩ := Kd.S_slice HO_3.out
         subst eo8
         have p171 : 0 ≤ (x4_1 : Int) := of_decide_eq_true (by first | (with_reducible assumption) | assumption)
         have q171 : x4_1 < (l0.length : Int) := of_decide_eq_true (by first | (with_reducible assumption) | assumption)
         obtain ⟨ad171, e171, hx171_0, hx171_1⟩ := at_T24 HR0.out x4_1 p171 q171
         cases e171
         replace hx171_0 := (HB.out.cell (World.block_lt_of_cell? w _ hx171_0)).trans hx171_0
         replace hx171_1 := (HB.out.cell (World.block_lt_of_cell? w _ hx171_1)).trans hx171_1
         replace p171 := eq_true p171
         replace q171 := eq_true q171
         go_wp2
         go_loopg [5, 7] k2 (fun kq v5 v7 w' => ∃ (x5_3 : List (List Int)) (x7_3 : Int), v7 = .int .i64 x7_3 ∧ Aside0 (r7_each.l2 kq l0 x3_1 x4_1 x5_3 x6_2 x7_3 = some r) ∧ Aside0 (kq ≤ k2) ∧ Aside0 (Kd.S (Kd.slice 3 (Kd.int .i64)) 39 w' w.heap.size (fun k_ => some k_ ≠ (v5 : Value).ownBlock) (.slice Ao8 x3_1.length co8) x3_1) ∧ Aside0 (Kd.S (Kd.slice 3 (Kd.int .i64)) 39 w' w.heap.size (fun k_ => some k_ ≠ ((.slice Ao8 x3_1.length co8) : Value).ownBlock) v5 x5_3) ∧ Aside0 (Below w.heap.size w w'))
         case atStart => exact ⟨(x5_2), ((rd_T24 l0 x4_1).f0), (by first | rfl | (simp; done) | (simp [*]; done)), H', ⟨Nat.le_refl _⟩, ⟨by (with_reducible repeat (first | apply Kd.S_alloc | apply Kd.S_drewN | apply Kd.S_drew)); exact HO_3.out⟩, ⟨by (with_reducible repeat (first | apply Kd.S_alloc | apply Kd.S_drewN | apply Kd.S_drew)); exact HO_5.out⟩, ⟨by repeat (first | (with_reducible first | exact HB.out | apply below_alloc | apply pw_below_drewN | apply below_drew1) | exact HB.out)⟩⟩
         case round =>
          clear H'
          try clear c1
          try clear p1
          try clear q1
          try clear hx1
          try clear p2
          try clear c4
          try clear c4b0
          try clear c5
          try clear c5b0
          try clear c6
          try clear c6b0
          try clear c7
          try clear c7b0
          try clear hx171_0
          try clear hx171_1
          try clear p171
          try clear p2
          try clear q171
          obtain ⟨x5_3, x7_3, rfl, HA, HK3, HO_3, HO_5, HB⟩ := hrel
          cases gk with
          | zero => exact absurd HA.out (by simp [r7_each.l2])
          | succ k3 =>
           have H := HA.out
           clear HA
           simp only [r7_each.l2] at H
           by_cases c9 : 0 ≤ x4_1
           ·
            rw [if_pos c9] at H
            have c9b0 : decide (0 ≤ x4_1) = true := decide_eq_true c9
            clear c9
            by_cases c10 : x4_1 < (l0.length : Int)
            ·
             rw [if_pos c10] at H
             have c10b0 : decide (x4_1 < (l0.length : Int)) = true := decide_eq_true c10
             clear c10
             by_cases c11 : x7_3 ≤ ((rd_T24 l0 x4_1).f1)
             ·
              rw [if_pos c11] at H
              have c11b0 : decide (x7_3 ≤ ((rd_T24 l0 x4_1).f1)) = true := decide_eq_true c11
              clear c11
              obtain ⟨y173, hy173⟩ : ∃ y_ : List Int, y_ = (([] : List Int)) := ⟨_, rfl⟩
              replace H : (if 0 ≤ x6_2 then (if x6_2 < (x3_1.length : Int) then (if y173.length + (rd_L2 x3_1 x6_2).length < 17592186044416 then ((some (y173 ++ (rd_L2 x3_1 x6_2) : List Int)).bind fun y177 => (if y177.length < 17592186044416 then (if x5_3.length < 5864062014805 then (r7_each.l2 k3 l0 x3_1 x4_1 (x5_3 ++ [(y177 ++ [x7_3])]) x6_2 (wrap64 (x7_3 + 1))) else (none)) else (none))) else (none)) else (none)) else (none)) = some r := by first | (rw [hy173]; with_reducible exact H) | (have H2_ := (Option.bind_some _ _).symm.trans H; rw [hy173]; with_reducible exact H2_) | (have H2_ := (Option.bind_some _ _).symm.trans H; with_reducible exact H2_) | with_reducible exact H | (rw [hy173]; exact H) | exact H
              have Ny173 := Aside0.mk hy173
              clear hy173
              by_cases c12 : 0 ≤ x6_2
              ·
               rw [if_pos c12] at H
               have c12b0 : decide (0 ≤ x6_2) = true := decide_eq_true c12
               clear c12
               by_cases c13 : x6_2 < (x3_1.length : Int)
               ·
                rw [if_pos c13] at H
                have c13b0 : decide (x6_2 < (x3_1.length : Int)) = true := decide_eq_true c13
                clear c13
                by_cases c14 : y173.length + (rd_L2 x3_1 x6_2).length < 17592186044416
                ·
                 rw [if_pos c14] at H
                 have LMc14 := Aside0.mk c14
                 clear c14
                 obtain ⟨y177, hy177⟩ : ∃ y_ : List Int, y_ = (y173 ++ (rd_L2 x3_1 x6_2)) := ⟨_, rfl⟩
                 replace H : (if y177.length < 17592186044416 then (if x5_3.length < 5864062014805 then (r7_each.l2 k3 l0 x3_1 x4_1 (x5_3 ++ [(y177 ++ [x7_3])]) x6_2 (wrap64 (x7_3 + 1))) else (none)) else (none)) = some r := by first | (rw [hy177]; with_reducible exact H) | (have H2_ := (Option.bind_some _ _).symm.trans H; rw [hy177]; with_reducible exact H2_) | (have H2_ := (Option.bind_some _ _).symm.trans H; with_reducible exact H2_) | with_reducible exact H | (rw [hy177]; exact H) | exact H
                 have Ny177 := Aside0.mk hy177
                 clear hy177
                 by_cases c15 : y177.length < 17592186044416
                 ·
                  rw [if_pos c15] at H
                  have LMc15 := Aside0.mk c15
                  clear c15
                  obtain ⟨y180, hy180⟩ : ∃ y_ : List Int, y_ = (y177 ++ [x7_3]) := ⟨_, rfl⟩
                  replace H : (if x5_3.length < 5864062014805 then (r7_each.l2 k3 l0 x3_1 x4_1 (x5_3 ++ [y180]) x6_2 (wrap64 (x7_3 + 1))) else (none)) = some r := by first | (rw [hy180]; with_reducible exact H) | (have H2_ := (Option.bind_some _ _).symm.trans H; rw [hy180]; with_reducible exact H2_) | (have H2_ := (Option.bind_some _ _).symm.trans H; with_reducible exact H2_) | with_reducible exact H | (rw [hy180]; exact H) | exact H
                  have Ny180 := Aside0.mk hy180
                  clear hy180
                  by_cases c16 : x5_3.length < 5864062014805
                  ·
                   rw [if_pos c16] at H
                   have LMc16 := Aside0.mk c16
                   clear c16
                   obtain ⟨y183, hy183⟩ : ∃ y_ : List (List Int), y_ = (x5_3 ++ [y180]) := ⟨_, rfl⟩
                   replace H : (r7_each.l2 k3 l0 x3_1 x4_1 y183 x6_2 (wrap64 (x7_3 + 1))) = some r := by first | (rw [hy183]; with_reducible exact H) | (have H2_ := (Option.bind_some _ _).symm.trans H; rw [hy183]; with_reducible exact H2_) | (have H2_ := (Option.bind_some _ _).symm.trans H; with_reducible exact H2_) | with_reducible exact H | (rw [hy183]; exact H) | exact H
                   have Ny183 := Aside0.mk hy183
                   clear hy183
                   have H' := Aside0.mk H
                   clear H
                   have p172 : 0 ≤ (x4_1 : Int) := of_decide_eq_true (by first | (with_reducible assumption) | assumption)
                   have q172 : x4_1 < (l0.length : Int) := of_decide_eq_true (by first | (with_reducible assumption) | assumption)
                   obtain ⟨ad172, e172, hx172_0, hx172_1⟩ := at_T24 HR0.out x4_1 p172 q172
                   obtain rfl : ad171 = ad172 := (by injection e172)
                   replace hx172_0 := (HB.out.cell (World.block_lt_of_cell? w _ hx172_0)).trans hx172_0
                   replace hx172_1 := (HB.out.cell (World.block_lt_of_cell? w _ hx172_1)).trans hx172_1
                   replace p172 := eq_true p172
                   replace q172 := eq_true q172
                   go_wp2_with (first | ((with_reducible refine gate_dst (N := 36) rfl ?_); refine Kd.R_lit (Kd.int .i64) _ 3 ?hg (N := 36) ?hd (xs := ([] : List Int)) (inner := []) (ok := fun _ => True) (okp := fun _ => True) ?hr ?hp (fun _ hk => hk) trivial (Below.refl _ _) (Nat.le_refl _) (by simp) ?_; (case hd => rfl); (case hg => rfl); (case hr => first | (go_simp; done) | (go_simp; rfl)); (case hp => exact (Reps.none _ _)); intro v174 w17 ho18 hb hg_ hnew_; clear hg_ hnew_; (first | rw [← Ny173.out] at ho18 | (simp only [Int.reduceToNat] at ho18; rw [← Ny173.out] at ho18)); have n0_ := Aside0.mk (Kd.S_elder' (by (with_reducible repeat (first | apply Kd.S_alloc | apply Kd.S_drewN | apply Kd.S_drew)); exact HO_3.out) (Kd.R_base ho18) hb); have n1_ := Aside0.mk (Kd.S_elder' (by (with_reducible repeat (first | apply Kd.S_alloc | apply Kd.S_drewN | apply Kd.S_drew)); exact HO_5.out) (Kd.R_base ho18) hb); have n2_ := Aside0.mk (Kd.R_lower ho18 (below_size (by repeat (first | (with_reducible first | exact HB.out | apply below_alloc | apply pw_below_drewN | apply below_drew1) | exact HB.out)))); have n3_ := Aside0.mk (below_step (by repeat (first | (with_reducible first | exact HB.out | apply below_alloc | apply pw_below_drewN | apply below_drew1) | exact HB.out)) hb); clear HO_3; clear HO_5; clear HB; have HO_3 := n0_; have HO_5 := n1_; have HO175 := n2_; have HB := n3_; clear n0_ n1_ n2_ n3_; clear hb ho18; have p176 : 0 ≤ (x6_2 : Int) := of_decide_eq_true (by first | (with_reducible assumption) | assumption); have q176 : x6_2 < (x3_1.length : Int) := of_decide_eq_true (by first | (with_reducible assumption) | assumption); obtain ⟨ad176, A176_0, c176_0, e176, hx176_0, hl176_0, hi176_0⟩ := at_L2 (Kd.S_reads' HO_3.out).2.2 x6_2 p176 q176; cases e176; obtain ⟨ce176, hce176, hMe176, hcc176⟩ := Kd.S_get HO_3.out [] x6_2 p176 (by first | exact q176 | exact of_decide_eq_true (by first | (with_reducible assumption) | assumption) | (have e_ := (Kd.S_reads' HO_3.out).1; omega)); obtain ⟨ve176_0, rfl, ge176_0⟩ := hMe176; have hv176_0 := hcc176 0 _ rfl; rw [Nat.add_zero, show ((Kd.slice 3 (Kd.int .i64))).sz = 1 from rfl, Nat.mul_one] at hv176_0; replace hv176_0 := Option.some.inj (hv176_0.symm.trans hx176_0); rw [hv176_0] at ge176_0; have HL176_0 := Aside0.mk (show Kd.R (Kd.int .i64) 3 _ _ _ _ (rd_L2 x3_1 x6_2) from ge176_0); clear hv176_0 ge176_0; clear hcc176 hce176; have HR176_0 := Aside0.mk hi176_0; have HC176_0 := Aside0.mk hl176_0; clear hi176_0 hl176_0; replace p176 := eq_true p176; replace q176 := eq_true q176) | ((with_reducible refine gate_builtin (b := .append) (xs := #[.tmp 36, .tmp 40]) rfl ?_); at_builtin; refine Kd.R_append_rows (Kd.int .i64) (w0 := w) w.heap.size rfl (.tmp 36) (.tmp 40) 39 3 (.int .i64 0) 8 rfl Try.underlying39 info3 rfl (by decide) (by omega) v174 y173 (rd_L2 x3_1 x6_2) _ _ _ (fun _ => True) (fun _ => False) rfl rfl ?aO ?aR (fun _ _ h => h) (fun _ h => h.elim) ?aF ?aB ?aS ?aL ?_; (case aR => repeat (first | exact (by repeat (first | (with_reducible exact HR176_0.out) | (with_reducible refine Kd.C_alloc ?_ _) | (with_reducible refine Kd.C_drewN ?_ _) | (with_reducible refine Kd.C_drew ?_) | exact HR176_0.out)) | (with_reducible refine Kd.C_alloc ?_ _) | (with_reducible refine Kd.C_drewN ?_ _) | (with_reducible refine Kd.C_drew ?_))); (case aB => exact (by repeat (first | (with_reducible first | exact HB.out | apply below_alloc | apply pw_below_drewN | apply below_drew1) | exact HB.out))); (case aF => exact (fun _ _ => trivial)); (case aO => exact (by (with_reducible repeat (first | apply Kd.R_alloc | apply Kd.R_drewN | apply Kd.R_drew)); exact HO175.out)); (case aS => exact (below_size (by repeat (first | (with_reducible first | exact HB.out | apply below_alloc | apply pw_below_drewN | apply below_drew1) | exact HB.out)))); (case aL => have := LMc14.out; omega); intro v178 w19 ho hb hg hat; rw [← Ny177.out] at ho; have n0_ := Aside0.mk (Kd.S_after (ok := (fun k_ => some k_ ≠ (u5 : Value).ownBlock)) (by (with_reducible repeat (first | apply Kd.S_alloc | apply Kd.S_drewN | apply Kd.S_drew)); exact HO_3.out) hg hat); have n1_ := Aside0.mk (Kd.S_after (ok := (fun k_ => some k_ ≠ (.slice (some ad176) x3_1.length co8 : Value).ownBlock)) (by (with_reducible repeat (first | apply Kd.S_alloc | apply Kd.S_drewN | apply Kd.S_drew)); exact HO_5.out) hg hat); have n2_ := Aside0.mk (Kd.R_after (ok := (fun k_ => some k_ ≠ (.slice (some ad176) x3_1.length co8 : Value).ownBlock ∧ some k_ ≠ (u5 : Value).ownBlock)) (by (with_reducible repeat (first | apply Kd.R_alloc | apply Kd.R_drewN | apply Kd.R_drew)); exact Kd.R_mono HL176_0.out (fun _ hk => ⟨⟨hk.2, hk.1.1⟩, hk.1.2⟩)) hg hat); have n3_ := Aside0.mk (hb); have n4_ := Aside0.mk (ho); clear HO_3; clear HO_5; clear HL176_0; clear HB; clear HO175; have HO_3 := n0_; have HO_5 := n1_; have HL176_0 := n2_; have HB := n3_; have HO179 := n4_; clear n0_ n1_ n2_ n3_ n4_; clear ho hb hg hat) | ((with_reducible refine gate_builtin (b := .append) (xs := #[.tmp 41, .tmp 43]) rfl ?_); at_builtin; refine Kd.R_append (Kd.int .i64) (w0 := w) w.heap.size rfl (.tmp 41) (.tmp 43) 39 3 (.int .i64 0) 8 rfl Try.underlying39 info3 rfl (by decide) (by omega) v178 y177 x7_3 [.int .i64 x7_3] (fun _ => True) (fun _ => False) rfl rfl ?aP (fun _ hk => hk.elim) ?aF ?aO ?aB ?aS ?aL ?_; (case aP => exact rfl); (case aB => exact (by repeat (first | (with_reducible first | exact HB.out | apply below_alloc | apply pw_below_drewN | apply below_drew1) | exact HB.out))); (case aF => exact (fun _ _ => trivial)); (case aO => exact (by (with_reducible repeat (first | apply Kd.R_alloc | apply Kd.R_drewN | apply Kd.R_drew)); exact HO179.out)); (case aS => exact (below_size (by repeat (first | (with_reducible first | exact HB.out | apply below_alloc | apply pw_below_drewN | apply below_drew1) | exact HB.out)))); (case aL => have := LMc15.out; omega); intro v181 w20 ho hb hg hat; rw [← Ny180.out] at ho; have n0_ := Aside0.mk (Kd.S_after (ok := (fun k_ => some k_ ≠ (u5 : Value).ownBlock)) (by (with_reducible repeat (first | apply Kd.S_alloc | apply Kd.S_drewN | apply Kd.S_drew)); exact HO_3.out) hg hat); have n1_ := Aside0.mk (Kd.S_after (ok := (fun k_ => some k_ ≠ (.slice (some ad176) x3_1.length co8 : Value).ownBlock)) (by (with_reducible repeat (first | apply Kd.S_alloc | apply Kd.S_drewN | apply Kd.S_drew)); exact HO_5.out) hg hat); have n2_ := Aside0.mk (Kd.R_after (ok := (fun k_ => some k_ ≠ (.slice (some ad176) x3_1.length co8 : Value).ownBlock ∧ some k_ ≠ (u5 : Value).ownBlock)) (by (with_reducible repeat (first | apply Kd.R_alloc | apply Kd.R_drewN | apply Kd.R_drew)); exact HL176_0.out) hg hat); have n3_ := Aside0.mk (hb); have n4_ := Aside0.mk (ho); clear HO_3; clear HO_5; clear HL176_0; clear HB; clear HO179; have HO_3 := n0_; have HO_5 := n1_; have HL176_0 := n2_; have HB := n3_; have HO182 := n4_; clear n0_ n1_ n2_ n3_ n4_; clear ho hb hg hat; obtain ⟨Ao22, co22, eo22⟩ := Kd.R_slice HO182.out; subst eo22) | ((with_reducible refine gate_builtin (b := .append) (xs := #[.tmp 35, .tmp 45]) rfl ?_); at_builtin; refine Kd.S_append (Kd.slice 3 (Kd.int .i64)) (w0 := w) w.heap.size rfl (.tmp 35) (.tmp 45) 54 39 (.slice none 0 0) 24 rfl Try.underlying54 info39 rfl (by decide) (by omega) u5 x5_3 y180 [.slice Ao22 y180.length co22] (fun k_ => some k_ ≠ (.slice (some ad176) x3_1.length co8 : Value).ownBlock) (fun k_ => some k_ = (.slice Ao22 y180.length co22 : Value).ownBlock) rfl rfl ?aP (fun k_ hk_ => ((Kd.R_mono (ok' := fun k_ => ((fun k_ => some k_ ≠ (.slice (some ad176) x3_1.length co8 : Value).ownBlock)) k_ ∧ some k_ ≠ (u5 : Value).ownBlock) (Kd.R_apart' (Kd.R_apart' (HO182.out) (Kd.S_typed HO_3.out) (by decide)) (Kd.S_typed HO_5.out) (by decide)) (fun k_ hk => ⟨hk.1.2, hk.2⟩))).1 k_ hk_.symm) ?aF ?aO ?aB ?aS ?aL ?_; (case aP => exact Kd.M_row (Kd.R_mono (Kd.R_tight rfl (Kd.R_mono (ok' := fun k_ => ((fun k_ => some k_ ≠ (.slice (some ad176) x3_1.length co8 : Value).ownBlock)) k_ ∧ some k_ ≠ (u5 : Value).ownBlock) (Kd.R_apart' (Kd.R_apart' (HO182.out) (Kd.S_typed HO_3.out) (by decide)) (Kd.S_typed HO_5.out) (by decide)) (fun k_ hk => ⟨hk.1.2, hk.2⟩))) (fun _ h_ => h_))); (case aB => exact (by repeat (first | (with_reducible first | exact HB.out | apply below_alloc | apply pw_below_drewN | apply below_drew1) | exact HB.out))); (case aF => exact (fun k_ hk => Kd.fresh' (Kd.S_lt (by (with_reducible repeat (first | apply Kd.S_alloc | apply Kd.S_drewN | apply Kd.S_drew)); exact HO_3.out)) k_ hk)); (case aO => exact (by (with_reducible repeat (first | apply Kd.S_alloc | apply Kd.S_drewN | apply Kd.S_drew)); exact Kd.S_mono HO_5.out (fun k_ hk => ⟨hk.1, fun e_ => hk.2 e_⟩))); (case aS => exact (below_size (by repeat (first | (with_reducible first | exact HB.out | apply below_alloc | apply pw_below_drewN | apply below_drew1) | exact HB.out)))); (case aL => have := LMc16.out; omega); intro v184 w21 ho hb hg hat; rw [← Ny183.out] at ho; have n0_ := Aside0.mk (Kd.S_after (ok := (fun k_ => some k_ ≠ (.slice Ao22 y180.length co22 : Value).ownBlock)) (by (with_reducible repeat (first | apply Kd.S_alloc | apply Kd.S_drewN | apply Kd.S_drew)); exact Kd.S_mono HO_3.out (fun _ hk => ⟨hk.2, hk.1⟩)) hg hat); have n1_ := Aside0.mk (Kd.R_after (ok := (fun k_ => some k_ ≠ (.slice (some ad176) x3_1.length co8 : Value).ownBlock ∧ some k_ ≠ (.slice Ao22 y180.length co22 : Value).ownBlock)) (by (with_reducible repeat (first | apply Kd.R_alloc | apply Kd.R_drewN | apply Kd.R_drew)); exact Kd.R_mono HL176_0.out (fun _ hk => ⟨⟨hk.1.1, hk.2⟩, hk.1.2⟩)) hg hat); have n2_ := Aside0.mk (hb); have n3_ := Aside0.mk (ho); clear HO_3; clear HL176_0; clear HB; clear HO_5; clear HO182; have HO_3 := n0_; have HL176_0 := n1_; have HB := n2_; have HO185 := n3_; clear n0_ n1_ n2_ n3_; clear ho hb hg hat))
                   go_roundg k3
                   case measure => have := HK1.out; have := HK2.out; have := HK3.out; omega
                   case rel => exact ⟨(y183), (wrap64 (x7_3 + 1)), (by first | rfl | (simp; done) | (simp [*]; done)), H', ⟨by have := HK1.out; have := HK2.out; have := HK3.out; omega⟩, ⟨by (with_reducible repeat (first | apply Kd.S_alloc | apply Kd.S_drewN | apply Kd.S_drew)); exact Kd.S_mono HO_3.out (fun _ hk => hk.2)⟩, ⟨by (with_reducible repeat (first | apply Kd.S_alloc | apply Kd.S_drewN | apply Kd.S_drew)); exact HO185.out⟩, ⟨by repeat (first | (with_reducible first | exact HB.out | apply below_alloc | apply pw_below_drewN | apply below_drew1) | exact HB.out)⟩⟩
                  ·
                   rw [if_neg c16] at H
                   exact absurd H (by simp)
                 ·
                  rw [if_neg c15] at H
                  exact absurd H (by simp)
                ·
                 rw [if_neg c14] at H
                 exact absurd H (by simp)
               ·
                rw [if_neg c13] at H
                exact absurd H (by simp)
              ·
               rw [if_neg c12] at H
               exact absurd H (by simp)
             ·
              rw [if_neg c11] at H
              have c11b0 : decide (x7_3 ≤ ((rd_T24 l0 x4_1).f1)) = false := decide_eq_false c11
              clear c11
              have H' := Aside0.mk H
              clear H
              have p172 : 0 ≤ (x4_1 : Int) := of_decide_eq_true (by first | (with_reducible assumption) | assumption)
              have q172 : x4_1 < (l0.length : Int) := of_decide_eq_true (by first | (with_reducible assumption) | assumption)
              obtain ⟨ad172, e172, hx172_0, hx172_1⟩ := at_T24 HR0.out x4_1 p172 q172
              obtain rfl : ad171 = ad172 := (by injection e172)
              replace hx172_0 := (HB.out.cell (World.block_lt_of_cell? w _ hx172_0)).trans hx172_0
              replace hx172_1 := (HB.out.cell (World.block_lt_of_cell? w _ hx172_1)).trans hx172_1
              replace p172 := eq_true p172
              replace q172 := eq_true q172
              go_wp2
              go_roundg k3
              case measure => have := HK1.out; have := HK2.out; have := HK3.out; omega
              case rel => exact ⟨(x5_3), (wrap64 (x6_2 + 1)), (by first | rfl | (simp; done) | (simp [*]; done)), H', ⟨by have := HK1.out; have := HK2.out; have := HK3.out; omega⟩, ⟨by (with_reducible repeat (first | apply Kd.S_alloc | apply Kd.S_drewN | apply Kd.S_drew)); exact HO_3.out⟩, ⟨by (with_reducible repeat (first | apply Kd.S_alloc | apply Kd.S_drewN | apply Kd.S_drew)); exact HO_5.out⟩, ⟨by repeat (first | (with_reducible first | exact HB.out | apply below_alloc | apply pw_below_drewN | apply below_drew1) | exact HB.out)⟩⟩
            ·
             rw [if_neg c10] at H
             exact absurd H (by simp)
           ·
            rw [if_neg c9] at H
            exact absurd H (by simp)
        ·
         rw [if_neg c7] at H
         exact absurd H (by simp)
       ·
        rw [if_neg c6] at H
        exact absurd H (by simp)
      ·
       rw [if_neg c5] at H
       have c5b0 : decide (x6_2 < (x3_1.length : Int)) = false := decide_eq_false c5
       clear c5
       have H' := Aside0.mk H
       clear H
       obtain ⟨Ao23, co23, eo23⟩ := Kd.S_slice HO_3.out
       subst eo23
       go_wp2
       go_roundg k2
       case measure => have := HK1.out; have := HK2.out; omega
       case rel => exact ⟨(x5_2), (wrap64 (x4_1 + 1)), (by first | rfl | (simp; done) | (simp [*]; done)), H', ⟨by have := HK1.out; have := HK2.out; omega⟩, ⟨by (with_reducible repeat (first | apply Kd.S_alloc | apply Kd.S_drewN | apply Kd.S_drew)); exact Kd.S_mono HO_5.out (fun _ hk => trivial)⟩, ⟨by repeat (first | (with_reducible first | exact HB.out | apply below_alloc | apply pw_below_drewN | apply below_drew1) | exact HB.out)⟩⟩
   ·
    rw [if_neg c4] at H
    have c4b0 : decide (x4_1 < (l0.length : Int)) = false := decide_eq_false c4
    clear c4
    obtain rfl := Option.some.inj H
    go_wp2
    go_ret
    exact ⟨_, by first | rfl | (simp [errW_none, errW_some] <;> rfl) | (simp [*, errW_none, errW_some] <;> rfl), by (with_reducible repeat (first | apply Kd.S_alloc | apply Kd.S_drewN | apply Kd.S_drew)); exact HO_3.out, by repeat (first | (with_reducible first | exact HB.out | apply below_alloc | apply pw_below_drewN | apply below_drew1) | exact HB.out)⟩

def r7_Seen.f (l0_0 : List Int) (a0_1 : Int) (l0_2 : List Int) (l0_3 : List (List Int)) (a1 : Int) (a2 : Int) (a3 : Int) : Option (Bool) := if 0 ≤ a1 then (if a1 < (l0_2.length : Int) then (if 0 ≤ a2 then (if a2 < (l0_0.length : Int) then (some (decide ((rd l0_2 a1) ≥ (wrap64 ((rd l0_0 a2) + (wrap64 (a0_1 * a3))))))) else (none)) else (none)) else (none)) else (none)
set_option maxHeartbeats 8000000 in
set_option maxRecDepth 100000 in
theorem r7_Seen.calls (A0_0 : Option Addr) (c0_0 : Nat) (l0_0 : List Int) (a0_1 : Int) (A0_2 : Option Addr) (c0_2 : Nat) (l0_2 : List Int) (A0_3 : Option Addr) (c0_3 : Nat) (l0_3 : List (List Int)) (a1 : Int) (a2 : Int) (a3 : Int) (r : Bool) (w : World) (hr0_0 : Kd.C (Kd.int .i64) w A0_0 l0_0.length l0_0) (hc0_0 : l0_0.length ≤ c0_0) (hr0_2 : Kd.C (Kd.int .i64) w A0_2 l0_2.length l0_2) (hc0_2 : l0_2.length ≤ c0_2) (hr0_3 : Kd.C (Kd.slice 3 (Kd.int .i64)) w A0_3 l0_3.length l0_3) (hc0_3 : l0_3.length ≤ c0_3) (h : r7_Seen.f l0_0 a0_1 l0_2 l0_3 a1 a2 a3 = some r) :
  Calls Try.prog 42 #[.agg #[.slice A0_0 l0_0.length c0_0, .int .i64 a0_1, .slice A0_2 l0_2.length c0_2, .slice A0_3 l0_3.length c0_3], .int .i64 a1, .int .i64 a2, .int .i64 a3] w fun e w' => e = .returned (.bool r) ∧ Below w.heap.size w w' := by
 have hu56 := Try.underlying56
 have HR0_0 := Aside0.mk hr0_0
 have HC0_0 := Aside0.mk hc0_0
 clear hr0_0 hc0_0
 have HR0_2 := Aside0.mk hr0_2
 have HC0_2 := Aside0.mk hc0_2
 clear hr0_2 hc0_2
 have HR0_3 := Aside0.mk hr0_3
 have HC0_3 := Aside0.mk hc0_3
 clear hr0_3 hc0_3
 have HB := Aside0.mk (Below.refl w.heap.size w)
 have H : (if 0 ≤ a1 then (if a1 < (l0_2.length : Int) then (if 0 ≤ a2 then (if a2 < (l0_0.length : Int) then (some (decide ((rd l0_2 a1) ≥ (wrap64 ((rd l0_0 a2) + (wrap64 (a0_1 * a3))))))) else (none)) else (none)) else (none)) else (none)) = some r := h
 clear h
 by_cases c5 : 0 ≤ a1
 ·
  rw [if_pos c5] at H
  have c5b0 : decide (0 ≤ a1) = true := decide_eq_true c5
  clear c5
  by_cases c6 : a1 < (l0_2.length : Int)
  ·
   rw [if_pos c6] at H
   have c6b0 : decide (a1 < (l0_2.length : Int)) = true := decide_eq_true c6
   clear c6
   by_cases c7 : 0 ≤ a2
   ·
    rw [if_pos c7] at H
    have c7b0 : decide (0 ≤ a2) = true := decide_eq_true c7
    clear c7
    by_cases c8 : a2 < (l0_0.length : Int)
    ·
     rw [if_pos c8] at H
     have c8b0 : decide (a2 < (l0_0.length : Int)) = true := decide_eq_true c8
     clear c8
     obtain rfl := Option.some.inj H
     go_enter Try.func42, Try.ntmps42
     go_wp2_with (first | ((with_reducible refine gate_dst (N := 4) rfl ?_); refine box_event ?hg (N := 4) ?hd (cs := #[.slice A0_0 l0_0.length c0_0, .int .i64 a0_1, .slice A0_2 l0_2.length c0_2, .slice A0_3 l0_3.length c0_3]) (t := 56) ?hr ?_; (case hd => rfl); (case hg => rfl); (case hr => first | (go_simp; done) | (go_simp; rfl)); intro gb186 hg w9 hbox hb; have n0_ := Aside0.mk (below_step (by repeat (first | (with_reducible first | exact HB.out | apply below_alloc | apply pw_below_drewN | apply below_drew1) | exact HB.out)) hb); have n1_ := Aside0.mk (hbox); have n2_ := Aside0.mk ((by rw [hg]; exact (below_size (by repeat (first | (with_reducible first | exact HB.out | apply below_alloc | apply pw_below_drewN | apply below_drew1) | exact HB.out))) : w.heap.size ≤ gb186)); have n3_ := Aside0.mk ((by rw [hg]; exact (below_size (by repeat (first | (with_reducible first | exact HB.out | apply below_alloc | apply pw_below_drewN | apply below_drew1) | exact HB.out))) : w.heap.size ≤ gb186)); clear HB; have HB := n0_; have BK186 := n1_; have GW186 := n2_; have GE186 := n3_; clear n0_ n1_ n2_ n3_; clear hb hbox hg; have hcz10_0 : w9.cell? ⟨gb186, 0, none⟩ = some (.slice A0_0 l0_0.length c0_0) := (blk_cell BK186.out 0).trans rfl; have hcz10_1 : w9.cell? ⟨gb186, 1, none⟩ = some (.int .i64 a0_1) := (blk_cell BK186.out 1).trans rfl; have hcz10_2 : w9.cell? ⟨gb186, 2, none⟩ = some (.slice A0_2 l0_2.length c0_2) := (blk_cell BK186.out 2).trans rfl; have hcz10_3 : w9.cell? ⟨gb186, 3, none⟩ = some (.slice A0_3 l0_3.length c0_3) := (blk_cell BK186.out 3).trans rfl; have hfz10_0 := blk_frozen BK186.out 0; have hfz10_1 := blk_frozen BK186.out 1; have hfz10_2 := blk_frozen BK186.out 2; have hfz10_3 := blk_frozen BK186.out 3; have p187 : 0 ≤ (a1 : Int) := of_decide_eq_true (by first | (with_reducible assumption) | assumption); have q187 : a1 < (l0_2.length : Int) := of_decide_eq_true (by first | (with_reducible assumption) | assumption); obtain ⟨ad187, e187, hx187_0⟩ := Kd.at_int HR0_2.out a1 p187 q187; cases e187; replace hx187_0 := (HB.out.cell (World.block_lt_of_cell? w _ hx187_0)).trans hx187_0; replace p187 := eq_true p187; replace q187 := eq_true q187; have p188 : 0 ≤ (a2 : Int) := of_decide_eq_true (by first | (with_reducible assumption) | assumption); have q188 : a2 < (l0_0.length : Int) := of_decide_eq_true (by first | (with_reducible assumption) | assumption); obtain ⟨ad188, e188, hx188_0⟩ := Kd.at_int HR0_0.out a2 p188 q188; cases e188; replace hx188_0 := (HB.out.cell (World.block_lt_of_cell? w _ hx188_0)).trans hx188_0; replace p188 := eq_true p188; replace q188 := eq_true q188))
     repeat (go_quiet (first | ((with_reducible refine gate_dst (N := 4) rfl ?_); refine box_event ?hg (N := 4) ?hd (cs := #[.slice A0_0 l0_0.length c0_0, .int .i64 a0_1, .slice A0_2 l0_2.length c0_2, .slice A0_3 l0_3.length c0_3]) (t := 56) ?hr ?_; (case hd => rfl); (case hg => rfl); (case hr => first | (go_simp; done) | (go_simp; rfl)); intro gb186 hg w9 hbox hb; have n0_ := Aside0.mk (below_step (by repeat (first | (with_reducible first | exact HB.out | apply below_alloc | apply pw_below_drewN | apply below_drew1) | exact HB.out)) hb); have n1_ := Aside0.mk (hbox); have n2_ := Aside0.mk ((by rw [hg]; exact (below_size (by repeat (first | (with_reducible first | exact HB.out | apply below_alloc | apply pw_below_drewN | apply below_drew1) | exact HB.out))) : w.heap.size ≤ gb186)); have n3_ := Aside0.mk ((by rw [hg]; exact (below_size (by repeat (first | (with_reducible first | exact HB.out | apply below_alloc | apply pw_below_drewN | apply below_drew1) | exact HB.out))) : w.heap.size ≤ gb186)); clear HB; have HB := n0_; have BK186 := n1_; have GW186 := n2_; have GE186 := n3_; clear n0_ n1_ n2_ n3_; clear hb hbox hg; have hcz10_0 : w9.cell? ⟨gb186, 0, none⟩ = some (.slice A0_0 l0_0.length c0_0) := (blk_cell BK186.out 0).trans rfl; have hcz10_1 : w9.cell? ⟨gb186, 1, none⟩ = some (.int .i64 a0_1) := (blk_cell BK186.out 1).trans rfl; have hcz10_2 : w9.cell? ⟨gb186, 2, none⟩ = some (.slice A0_2 l0_2.length c0_2) := (blk_cell BK186.out 2).trans rfl; have hcz10_3 : w9.cell? ⟨gb186, 3, none⟩ = some (.slice A0_3 l0_3.length c0_3) := (blk_cell BK186.out 3).trans rfl; have hfz10_0 := blk_frozen BK186.out 0; have hfz10_1 := blk_frozen BK186.out 1; have hfz10_2 := blk_frozen BK186.out 2; have hfz10_3 := blk_frozen BK186.out 3; have p187 : 0 ≤ (a1 : Int) := of_decide_eq_true (by first | (with_reducible assumption) | assumption); have q187 : a1 < (l0_2.length : Int) := of_decide_eq_true (by first | (with_reducible assumption) | assumption); obtain ⟨ad187, e187, hx187_0⟩ := Kd.at_int HR0_2.out a1 p187 q187; cases e187; replace hx187_0 := (HB.out.cell (World.block_lt_of_cell? w _ hx187_0)).trans hx187_0; replace p187 := eq_true p187; replace q187 := eq_true q187; have p188 : 0 ≤ (a2 : Int) := of_decide_eq_true (by first | (with_reducible assumption) | assumption); have q188 : a2 < (l0_0.length : Int) := of_decide_eq_true (by first | (with_reducible assumption) | assumption); obtain ⟨ad188, e188, hx188_0⟩ := Kd.at_int HR0_0.out a2 p188 q188; cases e188; replace hx188_0 := (HB.out.cell (World.block_lt_of_cell? w _ hx188_0)).trans hx188_0; replace p188 := eq_true p188; replace q188 := eq_true q188)); try go_wp2_with (first | ((with_reducible refine gate_dst (N := 4) rfl ?_); refine box_event ?hg (N := 4) ?hd (cs := #[.slice A0_0 l0_0.length c0_0, .int .i64 a0_1, .slice A0_2 l0_2.length c0_2, .slice A0_3 l0_3.length c0_3]) (t := 56) ?hr ?_; (case hd => rfl); (case hg => rfl); (case hr => first | (go_simp; done) | (go_simp; rfl)); intro gb186 hg w9 hbox hb; have n0_ := Aside0.mk (below_step (by repeat (first | (with_reducible first | exact HB.out | apply below_alloc | apply pw_below_drewN | apply below_drew1) | exact HB.out)) hb); have n1_ := Aside0.mk (hbox); have n2_ := Aside0.mk ((by rw [hg]; exact (below_size (by repeat (first | (with_reducible first | exact HB.out | apply below_alloc | apply pw_below_drewN | apply below_drew1) | exact HB.out))) : w.heap.size ≤ gb186)); have n3_ := Aside0.mk ((by rw [hg]; exact (below_size (by repeat (first | (with_reducible first | exact HB.out | apply below_alloc | apply pw_below_drewN | apply below_drew1) | exact HB.out))) : w.heap.size ≤ gb186)); clear HB; have HB := n0_; have BK186 := n1_; have GW186 := n2_; have GE186 := n3_; clear n0_ n1_ n2_ n3_; clear hb hbox hg; have hcz10_0 : w9.cell? ⟨gb186, 0, none⟩ = some (.slice A0_0 l0_0.length c0_0) := (blk_cell BK186.out 0).trans rfl; have hcz10_1 : w9.cell? ⟨gb186, 1, none⟩ = some (.int .i64 a0_1) := (blk_cell BK186.out 1).trans rfl; have hcz10_2 : w9.cell? ⟨gb186, 2, none⟩ = some (.slice A0_2 l0_2.length c0_2) := (blk_cell BK186.out 2).trans rfl; have hcz10_3 : w9.cell? ⟨gb186, 3, none⟩ = some (.slice A0_3 l0_3.length c0_3) := (blk_cell BK186.out 3).trans rfl; have hfz10_0 := blk_frozen BK186.out 0; have hfz10_1 := blk_frozen BK186.out 1; have hfz10_2 := blk_frozen BK186.out 2; have hfz10_3 := blk_frozen BK186.out 3; have p187 : 0 ≤ (a1 : Int) := of_decide_eq_true (by first | (with_reducible assumption) | assumption); have q187 : a1 < (l0_2.length : Int) := of_decide_eq_true (by first | (with_reducible assumption) | assumption); obtain ⟨ad187, e187, hx187_0⟩ := Kd.at_int HR0_2.out a1 p187 q187; cases e187; replace hx187_0 := (HB.out.cell (World.block_lt_of_cell? w _ hx187_0)).trans hx187_0; replace p187 := eq_true p187; replace q187 := eq_true q187; have p188 : 0 ≤ (a2 : Int) := of_decide_eq_true (by first | (with_reducible assumption) | assumption); have q188 : a2 < (l0_0.length : Int) := of_decide_eq_true (by first | (with_reducible assumption) | assumption); obtain ⟨ad188, e188, hx188_0⟩ := Kd.at_int HR0_0.out a2 p188 q188; cases e188; replace hx188_0 := (HB.out.cell (World.block_lt_of_cell? w _ hx188_0)).trans hx188_0; replace p188 := eq_true p188; replace q188 := eq_true q188)))
     go_ret
     exact ⟨by first | rfl | (simp [errW_none, errW_some] <;> rfl) | (simp [*, errW_none, errW_some] <;> rfl), by repeat (first | (with_reducible first | exact HB.out | apply below_alloc | apply pw_below_drewN | apply below_drew1 | refine below_set ?_ GE186.out) | exact HB.out)⟩
    ·
     rw [if_neg c8] at H
     exact absurd H (by simp)
   ·
    rw [if_neg c7] at H
    exact absurd H (by simp)
  ·
   rw [if_neg c6] at H
   exact absurd H (by simp)
 ·
  rw [if_neg c5] at H
  exact absurd H (by simp)

def r7_Bits.l0 : Nat → Int → Int → Int → Int → List Int → Int → List Int → List (List Int) → Option (Int)
 | 0, _, _, _, _, _, _, _, _ => none
 | k + 1, x1, x2, x7, x8, x190000, x190001, x190002, x190003 => if x8 ≥ 0 then ((r7_Seen.f x190000 x190001 x190002 x190003 x8 x1 x2).bind fun t190 => (if t190 = true then (r7_Bits.l0 k x1 x2 (wrap64 ((wrap64 (2 * x7)) + 1)) (wrap64 (x8 - 1)) x190000 x190001 x190002 x190003) else (r7_Bits.l0 k x1 x2 (wrap64 (2 * x7)) (wrap64 (x8 - 1)) x190000 x190001 x190002 x190003))) else (some x7)
def r7_Bits.f (k : Nat) (l0_0 : List Int) (a0_1 : Int) (l0_2 : List Int) (l0_3 : List (List Int)) (a1 : Int) (a2 : Int) : Option (Int) := r7_Bits.l0 k a1 a2 0 (wrap64 ((l0_2.length : Int) - 1)) l0_0 a0_1 l0_2 l0_3
set_option maxHeartbeats 8000000 in
set_option maxRecDepth 100000 in
theorem r7_Bits.calls (k : Nat) (A0_0 : Option Addr) (c0_0 : Nat) (l0_0 : List Int) (a0_1 : Int) (A0_2 : Option Addr) (c0_2 : Nat) (l0_2 : List Int) (A0_3 : Option Addr) (c0_3 : Nat) (l0_3 : List (List Int)) (a1 : Int) (a2 : Int) (r : Int) (w : World) (hr0_0 : Kd.C (Kd.int .i64) w A0_0 l0_0.length l0_0) (hc0_0 : l0_0.length ≤ c0_0) (hr0_2 : Kd.C (Kd.int .i64) w A0_2 l0_2.length l0_2) (hc0_2 : l0_2.length ≤ c0_2) (hr0_3 : Kd.C (Kd.slice 3 (Kd.int .i64)) w A0_3 l0_3.length l0_3) (hc0_3 : l0_3.length ≤ c0_3) (h : r7_Bits.f k l0_0 a0_1 l0_2 l0_3 a1 a2 = some r) :
  Calls Try.prog 113 #[.agg #[.slice A0_0 l0_0.length c0_0, .int .i64 a0_1, .slice A0_2 l0_2.length c0_2, .slice A0_3 l0_3.length c0_3], .int .i64 a1, .int .i64 a2] w fun e w' => e = .returned (.int .i64 r) ∧ Below w.heap.size w w' := by
 have hu56 := Try.underlying56
 have HR0_0 := Aside0.mk hr0_0
 have HC0_0 := Aside0.mk hc0_0
 clear hr0_0 hc0_0
 have HR0_2 := Aside0.mk hr0_2
 have HC0_2 := Aside0.mk hc0_2
 clear hr0_2 hc0_2
 have HR0_3 := Aside0.mk hr0_3
 have HC0_3 := Aside0.mk hc0_3
 clear hr0_3 hc0_3
 have HB := Aside0.mk (Below.refl w.heap.size w)
 have H : (r7_Bits.l0 k a1 a2 0 (wrap64 ((l0_2.length : Int) - 1)) l0_0 a0_1 l0_2 l0_3) = some r := h
 clear h
 have H' := Aside0.mk H
 clear H
 go_enter Try.func113, Try.ntmps113
 go_wp2_with (first | ((with_reducible refine gate_dst (N := 3) rfl ?_); refine box_event ?hg (N := 3) ?hd (cs := #[.slice A0_0 l0_0.length c0_0, .int .i64 a0_1, .slice A0_2 l0_2.length c0_2, .slice A0_3 l0_3.length c0_3]) (t := 56) ?hr ?_; (case hd => rfl); (case hg => rfl); (case hr => first | (go_simp; done) | (go_simp; rfl)); intro gb189 hg w4 hbox hb; have n0_ := Aside0.mk (below_step (by repeat (first | (with_reducible first | exact HB.out | apply below_alloc | apply pw_below_drewN | apply below_drew1) | exact HB.out)) hb); have n1_ := Aside0.mk (hbox); have n2_ := Aside0.mk ((by rw [hg]; exact (below_size (by repeat (first | (with_reducible first | exact HB.out | apply below_alloc | apply pw_below_drewN | apply below_drew1) | exact HB.out))) : w.heap.size ≤ gb189)); have n3_ := Aside0.mk ((by rw [hg]; exact (below_size (by repeat (first | (with_reducible first | exact HB.out | apply below_alloc | apply pw_below_drewN | apply below_drew1) | exact HB.out))) : w.heap.size ≤ gb189)); clear HB; have HB := n0_; have BK189 := n1_; have GW189 := n2_; have GE189 := n3_; clear n0_ n1_ n2_ n3_; clear hb hbox hg; have hcz5_0 : w4.cell? ⟨gb189, 0, none⟩ = some (.slice A0_0 l0_0.length c0_0) := (blk_cell BK189.out 0).trans rfl; have hcz5_1 : w4.cell? ⟨gb189, 1, none⟩ = some (.int .i64 a0_1) := (blk_cell BK189.out 1).trans rfl; have hcz5_2 : w4.cell? ⟨gb189, 2, none⟩ = some (.slice A0_2 l0_2.length c0_2) := (blk_cell BK189.out 2).trans rfl; have hcz5_3 : w4.cell? ⟨gb189, 3, none⟩ = some (.slice A0_3 l0_3.length c0_3) := (blk_cell BK189.out 3).trans rfl; have hfz5_0 := blk_frozen BK189.out 0; have hfz5_1 := blk_frozen BK189.out 1; have hfz5_2 := blk_frozen BK189.out 2; have hfz5_3 := blk_frozen BK189.out 3))
 go_loopg [7, 8] k (fun kq v7 v8 w' => ∃ (x7_1 : Int) (x8_1 : Int), v7 = .int .i64 x7_1 ∧ v8 = .int .i64 x8_1 ∧ Aside0 (r7_Bits.l0 kq a1 a2 x7_1 x8_1 l0_0 a0_1 l0_2 l0_3 = some r) ∧ Aside0 (kq ≤ k) ∧ Aside0 (w'.heap[gb189]? = some (.cells #[(.slice A0_0 l0_0.length c0_0), .int .i64 a0_1, (.slice A0_2 l0_2.length c0_2), (.slice A0_3 l0_3.length c0_3)] 56 (0, 0))) ∧ Aside0 (Below w.heap.size w w'))
 case atStart => exact ⟨(0), (wrap64 ((l0_2.length : Int) - 1)), (by first | rfl | (simp; done) | (simp [*]; done)), (by first | rfl | (simp; done) | (simp [*]; done)), H', ⟨Nat.le_refl _⟩, ⟨by (with_reducible repeat (first | refine blk_drewN ?_ _ | refine blk_drew ?_ | refine blk_alloc ?_ _)); exact BK189.out⟩, ⟨by repeat (first | (with_reducible first | exact HB.out | apply below_alloc | apply pw_below_drewN | apply below_drew1 | refine below_set ?_ GE189.out) | exact HB.out)⟩⟩
 case round =>
  clear H'
  try clear c1
  try clear p2
  try clear hcz5_0
  try clear hcz5_1
  try clear hcz5_2
  try clear hcz5_3
  try clear hfz5_0
  try clear hfz5_1
  try clear hfz5_2
  try clear hfz5_3
  obtain ⟨x7_1, x8_1, rfl, rfl, HA, HK1, BK189, HB⟩ := hrel
  cases gk with
  | zero => exact absurd HA.out (by simp [r7_Bits.l0])
  | succ k1 =>
   have H := HA.out
   clear HA
   simp only [r7_Bits.l0] at H
   by_cases c6 : x8_1 ≥ 0
   ·
    rw [if_pos c6] at H
    have c6b0 : decide (0 ≤ x8_1) = true := decide_eq_true c6
    clear c6
    replace H := Option.bind_eq_some_iff.mp H
    obtain ⟨t190, A70, H⟩ := H
    replace H : (if t190 = true then (r7_Bits.l0 k1 a1 a2 (wrap64 ((wrap64 (2 * x7_1)) + 1)) (wrap64 (x8_1 - 1)) l0_0 a0_1 l0_2 l0_3) else (r7_Bits.l0 k1 a1 a2 (wrap64 (2 * x7_1)) (wrap64 (x8_1 - 1)) l0_0 a0_1 l0_2 l0_3)) = some r := H
    have A7 := Aside0.mk A70
    clear A70
    by_cases c8 : t190 = true
    ·
     subst c8
     have H1 : (r7_Bits.l0 k1 a1 a2 (wrap64 ((wrap64 (2 * x7_1)) + 1)) (wrap64 (x8_1 - 1)) l0_0 a0_1 l0_2 l0_3) = some r := by rw [if_pos rfl] at H; exact H
     clear H
     have H := H1
     clear H1
     have H' := Aside0.mk H
     clear H
     have hcz9_0 := (blk_cell BK189.out 0).trans rfl
     have hcz9_1 := (blk_cell BK189.out 1).trans rfl
     have hcz9_2 := (blk_cell BK189.out 2).trans rfl
     have hcz9_3 := (blk_cell BK189.out 3).trans rfl
     have hfz9_0 := blk_frozen BK189.out 0
     have hfz9_1 := blk_frozen BK189.out 1
     have hfz9_2 := blk_frozen BK189.out 2
     have hfz9_3 := blk_frozen BK189.out 3
     go_wp2_with (first | ((with_reducible refine gate_callee (f := 42) rfl ?_); refine goesL_ (some 23) rfl rfl Try.func42 (by kernel_rfl) rfl #[.agg #[.slice A0_0 l0_0.length c0_0, .int .i64 a0_1, .slice A0_2 l0_2.length c0_2, .slice A0_3 l0_3.length c0_3], .int .i64 x8_1, .int .i64 a1, .int .i64 a2] rfl (by (try simp only [List.map_toArray, List.map_cons, List.map_nil]); first | done | rfl | (simp only [List.length_drop, List.length_take]; rfl)) ?_; (with_reducible refine (r7_Seen.calls _ _ l0_0 a0_1 _ _ l0_2 _ _ l0_3 x8_1 a1 a2 true _ ?side1 ?side2 ?side3 ?side4 ?side5 ?side6 A7.out).mono ?_); (case side1 => repeat (first | exact (Kd.C_below HR0_0.out HB.out) | (with_reducible refine Kd.C_alloc ?_ _) | (with_reducible refine Kd.C_drewN ?_ _) | (with_reducible refine Kd.C_drew ?_))); (case side2 => exact HC0_0.out); (case side3 => repeat (first | exact (Kd.C_below HR0_2.out HB.out) | (with_reducible refine Kd.C_alloc ?_ _) | (with_reducible refine Kd.C_drewN ?_ _) | (with_reducible refine Kd.C_drew ?_))); (case side4 => exact HC0_2.out); (case side5 => repeat (first | exact (Kd.C_below HR0_3.out HB.out) | (with_reducible refine Kd.C_alloc ?_ _) | (with_reducible refine Kd.C_drewN ?_ _) | (with_reducible refine Kd.C_drew ?_))); (case side6 => exact HC0_3.out); rintro e w10 ⟨rfl, hb⟩; refine ⟨_, rfl, ?_⟩; have n0_ := Aside0.mk (blk_below (g := gb189) (o := .cells #[.slice A0_0 l0_0.length c0_0, .int .i64 a0_1, .slice A0_2 l0_2.length c0_2, .slice A0_3 l0_3.length c0_3] 56 (0, 0)) (by (with_reducible repeat (first | refine blk_drewN ?_ _ | refine blk_drew ?_ | refine blk_alloc ?_ _)); exact BK189.out) hb); have n1_ := Aside0.mk (below_step (by repeat (first | (with_reducible first | exact HB.out | apply below_alloc | apply pw_below_drewN | apply below_drew1 | refine below_set ?_ GE189.out) | exact HB.out)) hb); clear BK189; clear HB; have BK189 := n0_; have HB := n1_; clear n0_ n1_; (try clear hb); (try clear hb2); (try clear hk); (try clear hi)))
     go_roundg k1
     case measure => have := HK1.out; omega
     case rel => exact ⟨(wrap64 ((wrap64 (2 * x7_1)) + 1)), (wrap64 (x8_1 - 1)), (by first | rfl | (simp; done) | (simp [*]; done)), (by first | rfl | (simp; done) | (simp [*]; done)), H', ⟨by have := HK1.out; omega⟩, ⟨by (with_reducible repeat (first | refine blk_drewN ?_ _ | refine blk_drew ?_ | refine blk_alloc ?_ _)); exact BK189.out⟩, ⟨by repeat (first | (with_reducible first | exact HB.out | apply below_alloc | apply pw_below_drewN | apply below_drew1 | refine below_set ?_ GE189.out) | exact HB.out)⟩⟩
    ·
     replace c8 := Bool.eq_false_iff.mpr c8
     subst c8
     have H1 : (r7_Bits.l0 k1 a1 a2 (wrap64 (2 * x7_1)) (wrap64 (x8_1 - 1)) l0_0 a0_1 l0_2 l0_3) = some r := by rw [if_neg (show ¬ (false = true) by decide)] at H; exact H
     clear H
     have H := H1
     clear H1
     have H' := Aside0.mk H
     clear H
     have hcz11_0 := (blk_cell BK189.out 0).trans rfl
     have hcz11_1 := (blk_cell BK189.out 1).trans rfl
     have hcz11_2 := (blk_cell BK189.out 2).trans rfl
     have hcz11_3 := (blk_cell BK189.out 3).trans rfl
     have hfz11_0 := blk_frozen BK189.out 0
     have hfz11_1 := blk_frozen BK189.out 1
     have hfz11_2 := blk_frozen BK189.out 2
     have hfz11_3 := blk_frozen BK189.out 3
     go_wp2_with (first | ((with_reducible refine gate_callee (f := 42) rfl ?_); refine goesL_ (some 23) rfl rfl Try.func42 (by kernel_rfl) rfl #[.agg #[.slice A0_0 l0_0.length c0_0, .int .i64 a0_1, .slice A0_2 l0_2.length c0_2, .slice A0_3 l0_3.length c0_3], .int .i64 x8_1, .int .i64 a1, .int .i64 a2] rfl (by (try simp only [List.map_toArray, List.map_cons, List.map_nil]); first | done | rfl | (simp only [List.length_drop, List.length_take]; rfl)) ?_; (with_reducible refine (r7_Seen.calls _ _ l0_0 a0_1 _ _ l0_2 _ _ l0_3 x8_1 a1 a2 false _ ?side1 ?side2 ?side3 ?side4 ?side5 ?side6 A7.out).mono ?_); (case side1 => repeat (first | exact (Kd.C_below HR0_0.out HB.out) | (with_reducible refine Kd.C_alloc ?_ _) | (with_reducible refine Kd.C_drewN ?_ _) | (with_reducible refine Kd.C_drew ?_))); (case side2 => exact HC0_0.out); (case side3 => repeat (first | exact (Kd.C_below HR0_2.out HB.out) | (with_reducible refine Kd.C_alloc ?_ _) | (with_reducible refine Kd.C_drewN ?_ _) | (with_reducible refine Kd.C_drew ?_))); (case side4 => exact HC0_2.out); (case side5 => repeat (first | exact (Kd.C_below HR0_3.out HB.out) | (with_reducible refine Kd.C_alloc ?_ _) | (with_reducible refine Kd.C_drewN ?_ _) | (with_reducible refine Kd.C_drew ?_))); (case side6 => exact HC0_3.out); rintro e w12 ⟨rfl, hb⟩; refine ⟨_, rfl, ?_⟩; have n0_ := Aside0.mk (blk_below (g := gb189) (o := .cells #[.slice A0_0 l0_0.length c0_0, .int .i64 a0_1, .slice A0_2 l0_2.length c0_2, .slice A0_3 l0_3.length c0_3] 56 (0, 0)) (by (with_reducible repeat (first | refine blk_drewN ?_ _ | refine blk_drew ?_ | refine blk_alloc ?_ _)); exact BK189.out) hb); have n1_ := Aside0.mk (below_step (by repeat (first | (with_reducible first | exact HB.out | apply below_alloc | apply pw_below_drewN | apply below_drew1 | refine below_set ?_ GE189.out) | exact HB.out)) hb); clear BK189; clear HB; have BK189 := n0_; have HB := n1_; clear n0_ n1_; (try clear hb); (try clear hb2); (try clear hk); (try clear hi)))
     go_roundg k1
     case measure => have := HK1.out; omega
     case rel => exact ⟨(wrap64 (2 * x7_1)), (wrap64 (x8_1 - 1)), (by first | rfl | (simp; done) | (simp [*]; done)), (by first | rfl | (simp; done) | (simp [*]; done)), H', ⟨by have := HK1.out; omega⟩, ⟨by (with_reducible repeat (first | refine blk_drewN ?_ _ | refine blk_drew ?_ | refine blk_alloc ?_ _)); exact BK189.out⟩, ⟨by repeat (first | (with_reducible first | exact HB.out | apply below_alloc | apply pw_below_drewN | apply below_drew1 | refine below_set ?_ GE189.out) | exact HB.out)⟩⟩
   ·
    rw [if_neg c6] at H
    have c6b0 : decide (0 ≤ x8_1) = false := decide_eq_false c6
    clear c6
    obtain rfl := Option.some.inj H
    go_wp2
    go_ret
    exact ⟨by first | rfl | (simp [errW_none, errW_some] <;> rfl) | (simp [*, errW_none, errW_some] <;> rfl), by repeat (first | (with_reducible first | exact HB.out | apply below_alloc | apply pw_below_drewN | apply below_drew1 | refine below_set ?_ GE189.out) | exact HB.out)⟩

end Go.Proofs.Ytgoidclnccjdeaa.PR
end
section
namespace Go.Proofs.Ytgoidclnccjdeaa.PR
open Go.RowKit Go.Proofs.YtgoidclnccjdeaaW.PrintWords Go.Proofs.YtgoidclnccjdeaaW.PrintLast Go.Proofs.YtgoidclnccjdeaaW.PrintMore
attribute [local go_sem] max2_int min2_int max_two min_two max_three min_three max_four min_four   -- for this text's walks alone
set_option linter.unusedVariables false
set_option linter.unusedSimpArgs false

mutual
def r7_All.l0 : Nat → List (S24) → Int → List (S95) → Int → Int → List (S24) → List (S72) → Option ((List (S56)))
 | 0, _, _, _, _, _, _, _ => none
 | k + 1, x3, x4, x203000, x203001, x203002, x203003, x203004 => if x4 < (x203000.length : Int) then (if 0 ≤ x4 then (if x3.length < 8796093022208 then (r7_All.l0 k (x3 ++ [(⟨(rd_T95 x203000 x4).f1.f0, (rd_T95 x203000 x4).f1.f1⟩ : S24)]) (wrap64 (x4 + 1)) x203000 x203001 x203002 x203003 x203004) else (none)) else (none)) else ((r7_each.f k x3).bind fun t207 => ((r7_each.f k x203003).bind fun t210 => (r7_All.l1 k t207 t210 ([] : List (S56)) 0 x203000 x203001 x203002 x203003 x203004)))
def r7_All.l1 : Nat → List (List Int) → List (List Int) → List (S56) → Int → List (S95) → Int → Int → List (S24) → List (S72) → Option ((List (S56)))
 | 0, _, _, _, _, _, _, _, _, _ => none
 | k + 1, x5, x6, x7, x8, x203000, x203001, x203002, x203003, x203004 => if x8 < (x5.length : Int) then (r7_All.l2 k x5 x6 x7 x8 x203001 x203000 x203001 x203002 x203003 x203004) else (some x7)
def r7_All.l2 : Nat → List (List Int) → List (List Int) → List (S56) → Int → Int → List (S95) → Int → Int → List (S24) → List (S72) → Option ((List (S56)))
 | 0, _, _, _, _, _, _, _, _, _, _ => none
 | k + 1, x5, x6, x7, x8, x9, x203000, x203001, x203002, x203003, x203004 => if x9 ≤ x203002 then (r7_All.l3 k x5 x6 x7 x8 x9 0 x203000 x203001 x203002 x203003 x203004) else (r7_All.l1 k x5 x6 x7 (wrap64 (x8 + 1)) x203000 x203001 x203002 x203003 x203004)
def r7_All.l3 : Nat → List (List Int) → List (List Int) → List (S56) → Int → Int → Int → List (S95) → Int → Int → List (S24) → List (S72) → Option ((List (S56)))
 | 0, _, _, _, _, _, _, _, _, _, _, _ => none
 | k + 1, x5, x6, x7, x8, x9, x10, x203000, x203001, x203002, x203003, x203004 => if x10 < (x6.length : Int) then (if 0 ≤ x8 then (if x8 < (x5.length : Int) then (if 0 ≤ x10 then (if x7.length < 1759218604441 then (r7_All.l3 k x5 x6 (x7 ++ [(⟨rd_L2 x5 x8, x9, rd_L2 x6 x10, ([] : List (List Int))⟩ : S56)]) x8 x9 (wrap64 (x10 + 1)) x203000 x203001 x203002 x203003 x203004) else (none)) else (none)) else (none)) else (none)) else (r7_All.l2 k x5 x6 x7 x8 (wrap64 (x9 + 1)) x203000 x203001 x203002 x203003 x203004)
end
def r7_All.f (k : Nat) (l0_0 : List (S95)) (a0_1 : Int) (a0_2 : Int) (l0_3 : List (S24)) (l0_4 : List (S72)) : Option ((List (S56))) := r7_All.l0 k ([] : List (S24)) 0 l0_0 a0_1 a0_2 l0_3 l0_4
def r7_All.T17 : Bool × List (List Nat × List Nat) := (true, [([], []), ([], []), ([], []), ([1, 2], [1, 2]), ([3], [3]), ([], []), ([], []), ([], []), ([6, 7], [6, 7]), ([8], [8]), ([4, 5, 9], [4, 5, 9]), ([10], [10]), ([0, 11], [0, 11]), ([12, 12, 0, 1, 2, 3, 4, 5, 6, 7, 8, 9, 10, 11, 12], [0, 12])])
def r7_All.B17 : List Nat := [0, 0, 0, 6, 14, 0, 0, 0, 192, 448, 1022, 2046, 4095, 8191]
theorem r7_All.tab17 : rtab .any (opsOf Try.f114 17) = r7_All.T17 := by kernel_rfl
theorem r7_All.bits17 : waitsOk r7_All.T17.2 r7_All.B17 = true := by kernel_rfl
set_option maxHeartbeats 8000000 in
set_option maxRecDepth 100000 in
theorem r7_All.calls (k : Nat) (A0_0 : Option Addr) (c0_0 : Nat) (l0_0 : List (S95)) (a0_1 : Int) (a0_2 : Int) (A0_3 : Option Addr) (c0_3 : Nat) (l0_3 : List (S24)) (A0_4 : Option Addr) (c0_4 : Nat) (l0_4 : List (S72)) (r : List (S56)) (w : World) (hr0_0 : Kd.C k95 w A0_0 l0_0.length l0_0) (hc0_0 : l0_0.length ≤ c0_0) (hr0_3 : Kd.C k24 w A0_3 l0_3.length l0_3) (hc0_3 : l0_3.length ≤ c0_3) (hr0_4 : Kd.C k72 w A0_4 l0_4.length l0_4) (hc0_4 : l0_4.length ≤ c0_4) (h : r7_All.f k l0_0 a0_1 a0_2 l0_3 l0_4 = some r) :
  Calls Try.prog 114 #[.agg #[.slice A0_0 l0_0.length c0_0, .int .i64 a0_1, .int .i64 a0_2, .slice A0_3 l0_3.length c0_3, .slice A0_4 l0_4.length c0_4]] w fun e w' => ∃ v0_ : Value, e = .returned (v0_) ∧ Kd.N k56 56 w' w.heap.size (fun k_ => (w.heap.size ≤ k_)) v0_ r ∧ Below w.heap.size w w' := by
 have hu28 := Try.underlying28
 have hu24 := Try.underlying24
 have hu56 := Try.underlying56
 have HR0_0 := Aside0.mk hr0_0
 have HC0_0 := Aside0.mk hc0_0
 clear hr0_0 hc0_0
 have HR0_3 := Aside0.mk hr0_3
 have HC0_3 := Aside0.mk hc0_3
 clear hr0_3 hc0_3
 have HR0_4 := Aside0.mk hr0_4
 have HC0_4 := Aside0.mk hc0_4
 clear hr0_4 hc0_4
 have HB := Aside0.mk (Below.refl w.heap.size w)
 have H : (r7_All.l0 k ([] : List (S24)) 0 l0_0 a0_1 a0_2 l0_3 l0_4) = some r := h
 clear h
 have H' := Aside0.mk H
 clear H
 go_enter Try.func114, Try.ntmps114
 go_wp2_with (first | ((with_reducible refine gate_dst (N := 1) rfl ?_); refine box_event ?hg (N := 1) ?hd (cs := #[.slice A0_0 l0_0.length c0_0, .int .i64 a0_1, .int .i64 a0_2, .slice A0_3 l0_3.length c0_3, .slice A0_4 l0_4.length c0_4]) (t := 28) ?hr ?_; (case hd => rfl); (case hg => rfl); (case hr => first | (go_simp; done) | (go_simp; rfl)); intro gb202 hg w2 hbox hb; have n0_ := Aside0.mk (below_step (by repeat (first | (with_reducible first | exact HB.out | apply below_alloc | apply pw_below_drewN | apply below_drew1) | exact HB.out)) hb); have n1_ := Aside0.mk (hbox); have n2_ := Aside0.mk ((by rw [hg]; exact (below_size (by repeat (first | (with_reducible first | exact HB.out | apply below_alloc | apply pw_below_drewN | apply below_drew1) | exact HB.out))) : w.heap.size ≤ gb202)); have n3_ := Aside0.mk ((by rw [hg]; exact (below_size (by repeat (first | (with_reducible first | exact HB.out | apply below_alloc | apply pw_below_drewN | apply below_drew1) | exact HB.out))) : w.heap.size ≤ gb202)); clear HB; have HB := n0_; have BK202 := n1_; have GW202 := n2_; have GE202 := n3_; clear n0_ n1_ n2_ n3_; clear hb hbox hg))
 go_loopg [3, 4] k (fun kq v3 v4 w' => ∃ (x3_1 : List (S24)) (x4_1 : Int), v4 = .int .i64 x4_1 ∧ Aside0 (r7_All.l0 kq x3_1 x4_1 l0_0 a0_1 a0_2 l0_3 l0_4 = some r) ∧ Aside0 (kq ≤ k) ∧ Aside0 (Kd.R k24 24 w' w.heap.size (fun k_ => (w.heap.size ≤ k_)) v3 x3_1) ∧ Aside0 (w'.heap[gb202]? = some (.cells #[(.slice A0_0 l0_0.length c0_0), .int .i64 a0_1, .int .i64 a0_2, (.slice A0_3 l0_3.length c0_3), (.slice A0_4 l0_4.length c0_4)] 28 (0, 0))) ∧ Aside0 (Below w.heap.size w w'))
 case atStart => exact ⟨(([] : List (S24))), (0), (by first | rfl | (simp; done) | (simp [*]; done)), H', ⟨Nat.le_refl _⟩, ⟨by first | exact Kd.R_nil _ _ _ _ _ | exact Kd.N_nil _ _ _ _ _ | exact Kd.V_nil _ _ _ _ _ | exact Kd.Q_nil _ _ _ _ _ | exact Kd.S_nil _ _ _ _ _⟩, ⟨by (with_reducible repeat (first | refine blk_drewN ?_ _ | refine blk_drew ?_ | refine blk_alloc ?_ _)); exact BK202.out⟩, ⟨by repeat (first | (with_reducible first | exact HB.out | apply below_alloc | apply pw_below_drewN | apply below_drew1 | refine below_set ?_ GE202.out) | exact HB.out)⟩⟩
 case round =>
  clear H'
  try clear c1
  try clear p2
  obtain ⟨x3_1, x4_1, rfl, HA, HK1, HO_3, BK202, HB⟩ := hrel
  cases gk with
  | zero => exact absurd HA.out (by simp [r7_All.l0])
  | succ k1 =>
   have H := HA.out
   clear HA
   simp only [r7_All.l0] at H
   by_cases c3 : x4_1 < (l0_0.length : Int)
   ·
    rw [if_pos c3] at H
    have c3b0 : decide (x4_1 < (l0_0.length : Int)) = true := decide_eq_true c3
    clear c3
    by_cases c4 : 0 ≤ x4_1
    ·
     rw [if_pos c4] at H
     have c4b0 : decide (0 ≤ x4_1) = true := decide_eq_true c4
     clear c4
     by_cases c5 : x3_1.length < 8796093022208
     ·
      rw [if_pos c5] at H
      have LMc5 := Aside0.mk c5
      clear c5
      obtain ⟨y204, hy204⟩ : ∃ y_ : List (S24), y_ = (x3_1 ++ [(⟨(rd_T95 l0_0 x4_1).f1.f0, (rd_T95 l0_0 x4_1).f1.f1⟩ : S24)]) := ⟨_, rfl⟩
      replace H : (r7_All.l0 k1 y204 (wrap64 (x4_1 + 1)) l0_0 a0_1 a0_2 l0_3 l0_4) = some r := by first | (rw [hy204]; with_reducible exact H) | (have H2_ := (Option.bind_some _ _).symm.trans H; rw [hy204]; with_reducible exact H2_) | (have H2_ := (Option.bind_some _ _).symm.trans H; with_reducible exact H2_) | with_reducible exact H | (rw [hy204]; exact H) | exact H
      have Ny204 := Aside0.mk hy204
      clear hy204
      have H' := Aside0.mk H
      clear H
      have hcz6_0 := (blk_cell BK202.out 0).trans rfl
      have hcz6_1 := (blk_cell BK202.out 1).trans rfl
      have hcz6_2 := (blk_cell BK202.out 2).trans rfl
      have hcz6_3 := (blk_cell BK202.out 3).trans rfl
      have hcz6_4 := (blk_cell BK202.out 4).trans rfl
      have hfz6_0 := blk_frozen BK202.out 0
      have hfz6_1 := blk_frozen BK202.out 1
      have hfz6_2 := blk_frozen BK202.out 2
      have hfz6_3 := blk_frozen BK202.out 3
      have hfz6_4 := blk_frozen BK202.out 4
      have p203 : 0 ≤ (x4_1 : Int) := of_decide_eq_true (by first | (with_reducible assumption) | assumption)
      have q203 : x4_1 < (l0_0.length : Int) := of_decide_eq_true (by first | (with_reducible assumption) | assumption)
      obtain ⟨ad203, e203, hx203_0, hx203_1, hx203_2⟩ := at_T95 HR0_0.out x4_1 p203 q203
      cases e203
      replace hx203_0 := (HB.out.cell (World.block_lt_of_cell? w _ hx203_0)).trans hx203_0
      replace hx203_1 := (HB.out.cell (World.block_lt_of_cell? w _ hx203_1)).trans hx203_1
      replace hx203_2 := (HB.out.cell (World.block_lt_of_cell? w _ hx203_2)).trans hx203_2
      replace p203 := eq_true p203
      replace q203 := eq_true q203
      go_wp2_with (first | ((with_reducible refine gate_builtin (b := .append) (xs := #[.tmp 18, .tmp 25]) rfl ?_); at_builtin; refine Kd.R_append k24 (w0 := w) w.heap.size rfl (.tmp 18) (.tmp 25) 25 24 (.agg #[(.int .i64 0), (.int .i64 0)]) 16 rfl Try.underlying25 info24 rfl (by decide) (by omega) u3 x3_1 (⟨(rd_T95 l0_0 x4_1).f1.f0, (rd_T95 l0_0 x4_1).f1.f1⟩ : S24) [.int .i64 ((rd_T95 l0_0 x4_1).f1.f0), .int .i64 ((rd_T95 l0_0 x4_1).f1.f1)] (fun k_ => (w.heap.size ≤ k_)) (fun _ => False) rfl rfl ?aP (fun _ hk => hk.elim) ?aF ?aO ?aB ?aS ?aL ?_; (case aP => exact k24_mkM _ _ _ (⟨(rd_T95 l0_0 x4_1).f1.f0, (rd_T95 l0_0 x4_1).f1.f1⟩ : S24)); (case aB => exact (by repeat (first | (with_reducible first | exact HB.out | apply below_alloc | apply pw_below_drewN | apply below_drew1 | refine below_set ?_ GE202.out) | exact HB.out))); (case aF => exact (fun k_ hk => (Nat.le_trans (below_size (by repeat (first | (with_reducible first | exact HB.out | apply below_alloc | apply pw_below_drewN | apply below_drew1 | refine below_set ?_ GE202.out) | exact HB.out))) hk))); (case aO => exact (by (with_reducible repeat (first | apply Kd.R_alloc | apply Kd.R_drewN | apply Kd.R_drew)); exact HO_3.out)); (case aS => exact (below_size (by repeat (first | (with_reducible first | exact HB.out | apply below_alloc | apply pw_below_drewN | apply below_drew1 | refine below_set ?_ GE202.out) | exact HB.out)))); (case aL => have := LMc5.out; omega); intro v205 w7 ho hb hg hat; rw [← Ny204.out] at ho; have n0_ := Aside0.mk (blk_grown (g := gb202) (o := .cells #[.slice (some ad203) l0_0.length c0_0, .int .i64 a0_1, .int .i64 a0_2, .slice A0_3 l0_3.length c0_3, .slice A0_4 l0_4.length c0_4] 28 (0, 0)) (by (with_reducible repeat (first | refine blk_drewN ?_ _ | refine blk_drew ?_ | refine blk_alloc ?_ _)); exact BK202.out) hg (Kd.R_ne HO_3.out BK202.out (by decide))); have n1_ := Aside0.mk (hb); have n2_ := Aside0.mk (ho); clear BK202; clear HB; clear HO_3; have BK202 := n0_; have HB := n1_; have HO206 := n2_; clear n0_ n1_ n2_; clear ho hb hg hat))
      go_roundg k1
      case measure => have := HK1.out; omega
      case rel => exact ⟨(y204), (wrap64 (x4_1 + 1)), (by first | rfl | (simp; done) | (simp [*]; done)), H', ⟨by have := HK1.out; omega⟩, ⟨by (with_reducible repeat (first | apply Kd.R_alloc | apply Kd.R_drewN | apply Kd.R_drew)); exact HO206.out⟩, ⟨by (with_reducible repeat (first | refine blk_drewN ?_ _ | refine blk_drew ?_ | refine blk_alloc ?_ _)); exact BK202.out⟩, ⟨by repeat (first | (with_reducible first | exact HB.out | apply below_alloc | apply pw_below_drewN | apply below_drew1 | refine below_set ?_ GE202.out) | exact HB.out)⟩⟩
     ·
      rw [if_neg c5] at H
      exact absurd H (by simp)
    ·
     rw [if_neg c4] at H
     exact absurd H (by simp)
   ·
    rw [if_neg c3] at H
    have c3b0 : decide (x4_1 < (l0_0.length : Int)) = false := decide_eq_false c3
    clear c3
    replace H := Option.bind_eq_some_iff.mp H
    obtain ⟨t207, A80, H⟩ := H
    replace H : ((r7_each.f k1 l0_3).bind fun t210 => (r7_All.l1 k1 t207 t210 ([] : List (S56)) 0 l0_0 a0_1 a0_2 l0_3 l0_4)) = some r := H
    have A8 := Aside0.mk A80
    clear A80
    replace H := Option.bind_eq_some_iff.mp H
    obtain ⟨t210, A90, H⟩ := H
    replace H : (r7_All.l1 k1 t207 t210 ([] : List (S56)) 0 l0_0 a0_1 a0_2 l0_3 l0_4) = some r := H
    have A9 := Aside0.mk A90
    clear A90
    have H' := Aside0.mk H
    clear H
    have hcz10_0 := (blk_cell BK202.out 0).trans rfl
    have hcz10_1 := (blk_cell BK202.out 1).trans rfl
    have hcz10_2 := (blk_cell BK202.out 2).trans rfl
    have hcz10_3 := (blk_cell BK202.out 3).trans rfl
    have hcz10_4 := (blk_cell BK202.out 4).trans rfl
    have hfz10_0 := blk_frozen BK202.out 0
    have hfz10_1 := blk_frozen BK202.out 1
    have hfz10_2 := blk_frozen BK202.out 2
    have hfz10_3 := blk_frozen BK202.out 3
    have hfz10_4 := blk_frozen BK202.out 4
    try go_wp2
    have n0_ := Aside0.mk (Kd.R_drew HO_3.out)
    have n1_ := Aside0.mk (blk_drew BK202.out)
    have n2_ := Aside0.mk (below_drew1 HB.out)
    clear HO_3 BK202 HB
    have HO_3 := n0_
    have BK202 := n1_
    have HB := n2_
    clear n0_ n1_ n2_
    obtain ⟨Ao12, co12, eo12⟩ := Kd.R_slice HO_3.out
    (first | subst eo12 | (injection eo12 with f1_ f2_ f3_; have f4_ := f1_.symm; have f5_ := f3_.symm; clear f1_ f2_ f3_; subst f4_; subst f5_))
    refine start_ (n := 7) (S := fun w' => w'.cell? ⟨gb202, 0, none⟩ = some (.slice A0_0 l0_0.length c0_0) ∧ w'.cell? ⟨gb202, 1, none⟩ = some (.int .i64 a0_1) ∧ w'.cell? ⟨gb202, 2, none⟩ = some (.int .i64 a0_2) ∧ w'.cell? ⟨gb202, 3, none⟩ = some (.slice A0_3 l0_3.length c0_3) ∧ w'.cell? ⟨gb202, 4, none⟩ = some (.slice A0_4 l0_4.length c0_4)) (ds := []) #[false, false, false, false, false, false, false] (by kernel_rfl) rfl rfl ⟨(blk_cell BK202.out 0).trans rfl, (blk_cell BK202.out 1).trans rfl, (blk_cell BK202.out 2).trans rfl, (blk_cell BK202.out 3).trans rfl, (blk_cell BK202.out 4).trans rfl⟩ (fun hHeld => ?_)
    generalize wr.drew = w11 at HO_3 BK202 HB hHeld ⊢
    refine pure_ (i := 0) (N := some 27) (v := ?_) (a' := ?_) #[true, false, false, false, false, false, false] rfl rfl (by kernel_rfl) (fun _ _ _ h => h) (Or.inl ⟨by rfl, ?_⟩) ?_ ?_
    rotate_left
    ·
     intro w'
     go_simp
     with_reducible rfl
    rotate_left
    ·
     simp only [Act.put, List.setIfInBounds_toArray, List.set_cons_zero, List.set_cons_succ, i64_w, i32_w]
     rfl
    refine pure_ (i := 2) (N := some 29) (v := ?_) (a' := ?_) #[true, false, true, false, false, false, false] rfl rfl (by kernel_rfl) (fun _ _ _ h => h) (Or.inl ⟨by rfl, ?_⟩) ?_ ?_
    rotate_left
    ·
     intro w'
     go_simp
     with_reducible rfl
    rotate_left
    ·
     simp only [Act.put, List.setIfInBounds_toArray, List.set_cons_zero, List.set_cons_succ, i64_w, i32_w]
     rfl
    refine take_ (i := 3) (N := some 30) (v := ?_) (a' := ?_) #[true, false, true, true, false, false, false] rfl rfl (by kernel_rfl) (fun _ _ _ h => h) (Or.inl ⟨by rfl, ?_⟩) hHeld ?_ ?_
    rotate_left
    ·
     rintro w' ⟨s0, s1, s2, s3, s4⟩
     go_simp
     with_reducible rfl
    rotate_left
    ·
     simp only [Act.put, List.setIfInBounds_toArray, List.set_cons_zero, List.set_cons_succ, i64_w, i32_w]
     rfl
    refine one_ (i := 1) (N := some 28) #[true, true, true, true, false, false, false] rfl rfl (by kernel_rfl) (by decide) (fun K hK => ?_)
    refine goes_ Try.func135 (by kernel_rfl) rfl #[.slice Ao12 x3_1.length co12] (by rfl) rfl rfl (by (try simp only [List.map_toArray, List.map_cons, List.map_nil]); first | done | rfl | (simp only [List.length_drop, List.length_take]; rfl)) ?_
    with_reducible refine (r7_each.calls k1 _ _ x3_1 t207 _ ?side1 ?side2 A8.out).mono ?_
    (case side1 => repeat (first | exact (Kd.R_reads' HO_3.out).2.2 | (with_reducible refine Kd.C_alloc ?_ _) | (with_reducible refine Kd.C_drewN ?_ _) | (with_reducible refine Kd.C_drew ?_)))
    (case side2 => exact (Kd.R_reads' HO_3.out).2.1)
    rintro e w13 ⟨v208, rfl, ho0, hb⟩
    refine ⟨_, rfl, ?_⟩
    have n0_ := Aside0.mk (Kd.R_below (by (with_reducible repeat (first | apply Kd.R_alloc | apply Kd.R_drewN | apply Kd.R_drew)); exact HO_3.out) hb)
    have n1_ := Aside0.mk (Kd.N_lower (Kd.N_mono (ok' := fun k_ => (w.heap.size ≤ k_) ∧ some k_ ≠ (.slice Ao12 x3_1.length co12 : Value).ownBlock ∧ k_ ≠ gb202) (Kd.S_N (Kd.S_bound ho0)) (fun k_ hk_ => ⟨(Nat.le_trans (below_size (by repeat (first | (with_reducible first | exact HB.out | apply below_alloc | apply pw_below_drewN | apply below_drew1 | refine below_set ?_ GE202.out) | exact HB.out))) hk_.2.1), (Kd.fresh' (Kd.R_lt (by (with_reducible repeat (first | apply Kd.R_alloc | apply Kd.R_drewN | apply Kd.R_drew)); exact HO_3.out)) k_ hk_.2.1), (Kd.freshB (g := gb202) (o := .cells #[.slice A0_0 l0_0.length c0_0, .int .i64 a0_1, .int .i64 a0_2, .slice A0_3 l0_3.length c0_3, .slice A0_4 l0_4.length c0_4] 28 (0, 0)) (by (with_reducible repeat (first | refine blk_drewN ?_ _ | refine blk_drew ?_ | refine blk_alloc ?_ _)); exact BK202.out) k_ hk_.2.1)⟩)) (below_size (by repeat (first | (with_reducible first | exact HB.out | apply below_alloc | apply pw_below_drewN | apply below_drew1 | refine below_set ?_ GE202.out) | exact HB.out))))
    have n2_ := Aside0.mk (blk_below (g := gb202) (o := .cells #[.slice A0_0 l0_0.length c0_0, .int .i64 a0_1, .int .i64 a0_2, .slice A0_3 l0_3.length c0_3, .slice A0_4 l0_4.length c0_4] 28 (0, 0)) (by (with_reducible repeat (first | refine blk_drewN ?_ _ | refine blk_drew ?_ | refine blk_alloc ?_ _)); exact BK202.out) hb)
    have n3_ := Aside0.mk (below_step (by repeat (first | (with_reducible first | exact HB.out | apply below_alloc | apply pw_below_drewN | apply below_drew1 | refine below_set ?_ GE202.out) | exact HB.out)) hb)
    clear HO_3 BK202 HB
    have HO_3 := n0_
    have HO209 := n1_
    have BK202 := n2_
    have HB := n3_
    clear n0_ n1_ n2_ n3_
    (try clear hb)
    (try clear hb2)
    (try clear hk)
    (try clear hi)
    (try clear ho0)
    refine hK.out _ _ ⟨(blk_cell BK202.out 0).trans rfl, (blk_cell BK202.out 1).trans rfl, (blk_cell BK202.out 2).trans rfl, (blk_cell BK202.out 3).trans rfl, (blk_cell BK202.out 4).trans rfl⟩ (fun hHeld => ?_)
    clear hK K
    refine norm_ (a' := ?_) ?_ ?_
    rotate_left
    ·
     show Act.put _ (some 28) _ = _
     simp only [Act.put, List.setIfInBounds_toArray, List.set_cons_zero, List.set_cons_succ, i64_w, i32_w]
     rfl
    refine one_ (i := 4) (N := some 31) #[true, true, true, true, true, false, false] rfl rfl (by kernel_rfl) (by decide) (fun K hK => ?_)
    refine goes_ Try.func135 (by kernel_rfl) rfl #[.slice A0_3 l0_3.length c0_3] (by rfl) rfl rfl (by (try simp only [List.map_toArray, List.map_cons, List.map_nil]); first | done | rfl | (simp only [List.length_drop, List.length_take]; rfl)) ?_
    with_reducible refine (r7_each.calls k1 _ _ l0_3 t210 _ ?side1 ?side2 A9.out).mono ?_
    (case side1 => repeat (first | exact (Kd.C_below HR0_3.out HB.out) | (with_reducible refine Kd.C_alloc ?_ _) | (with_reducible refine Kd.C_drewN ?_ _) | (with_reducible refine Kd.C_drew ?_)))
    (case side2 => exact HC0_3.out)
    rintro e w14 ⟨v211, rfl, ho0, hb⟩
    refine ⟨_, rfl, ?_⟩
    have n0_ := Aside0.mk (Kd.R_below (by (with_reducible repeat (first | apply Kd.R_alloc | apply Kd.R_drewN | apply Kd.R_drew)); exact HO_3.out) hb)
    have n1_ := Aside0.mk (Kd.N_elder' (by (with_reducible repeat (first | apply Kd.N_alloc | apply Kd.N_drewN | apply Kd.N_drew)); exact HO209.out) (Kd.N_base (Kd.S_N ho0)) hb)
    have n2_ := Aside0.mk (Kd.N_lower (Kd.N_mono (ok' := fun k_ => (w.heap.size ≤ k_) ∧ some k_ ≠ (.slice Ao12 x3_1.length co12 : Value).ownBlock ∧ some k_ ≠ (v208 : Value).ownBlock ∧ k_ ≠ gb202) (Kd.S_N (Kd.S_bound ho0)) (fun k_ hk_ => ⟨(Nat.le_trans (below_size (by repeat (first | (with_reducible first | exact HB.out | apply below_alloc | apply pw_below_drewN | apply below_drew1 | refine below_set ?_ GE202.out) | exact HB.out))) hk_.2.1), (Kd.fresh' (Kd.R_lt (by (with_reducible repeat (first | apply Kd.R_alloc | apply Kd.R_drewN | apply Kd.R_drew)); exact HO_3.out)) k_ hk_.2.1), (Kd.fresh' (Kd.N_lt (by (with_reducible repeat (first | apply Kd.N_alloc | apply Kd.N_drewN | apply Kd.N_drew)); exact HO209.out)) k_ hk_.2.1), (Kd.freshB (g := gb202) (o := .cells #[.slice A0_0 l0_0.length c0_0, .int .i64 a0_1, .int .i64 a0_2, .slice A0_3 l0_3.length c0_3, .slice A0_4 l0_4.length c0_4] 28 (0, 0)) (by (with_reducible repeat (first | refine blk_drewN ?_ _ | refine blk_drew ?_ | refine blk_alloc ?_ _)); exact BK202.out) k_ hk_.2.1)⟩)) (below_size (by repeat (first | (with_reducible first | exact HB.out | apply below_alloc | apply pw_below_drewN | apply below_drew1 | refine below_set ?_ GE202.out) | exact HB.out))))
    have n3_ := Aside0.mk (blk_below (g := gb202) (o := .cells #[.slice A0_0 l0_0.length c0_0, .int .i64 a0_1, .int .i64 a0_2, .slice A0_3 l0_3.length c0_3, .slice A0_4 l0_4.length c0_4] 28 (0, 0)) (by (with_reducible repeat (first | refine blk_drewN ?_ _ | refine blk_drew ?_ | refine blk_alloc ?_ _)); exact BK202.out) hb)
    have n4_ := Aside0.mk (below_step (by repeat (first | (with_reducible first | exact HB.out | apply below_alloc | apply pw_below_drewN | apply below_drew1 | refine below_set ?_ GE202.out) | exact HB.out)) hb)
    clear HO_3 HO209 BK202 HB
    have HO_3 := n0_
    have HO209 := n1_
    have HO212 := n2_
    have BK202 := n3_
    have HB := n4_
    clear n0_ n1_ n2_ n3_ n4_
    (try clear hb)
    (try clear hb2)
    (try clear hk)
    (try clear hi)
    (try clear ho0)
    refine hK.out _ _ ⟨(blk_cell BK202.out 0).trans rfl, (blk_cell BK202.out 1).trans rfl, (blk_cell BK202.out 2).trans rfl, (blk_cell BK202.out 3).trans rfl, (blk_cell BK202.out 4).trans rfl⟩ (fun hHeld => ?_)
    clear hK K
    refine norm_ (a' := ?_) ?_ ?_
    rotate_left
    ·
     show Act.put _ (some 31) _ = _
     simp only [Act.put, List.setIfInBounds_toArray, List.set_cons_zero, List.set_cons_succ, i64_w, i32_w]
     rfl
    refine pure_ (i := 5) (N := some 5) (v := ?_) (a' := ?_) #[true, true, true, true, true, true, false] rfl rfl (by kernel_rfl) (fun _ _ _ h => h) (Or.inl ⟨by rfl, ?_⟩) ?_ ?_
    rotate_left
    ·
     intro w'
     go_simp
     with_reducible rfl
    rotate_left
    ·
     simp only [Act.put, List.setIfInBounds_toArray, List.set_cons_zero, List.set_cons_succ, i64_w, i32_w]
     rfl
    refine pure_ (i := 6) (N := some 6) (v := ?_) (a' := ?_) #[true, true, true, true, true, true, true] rfl rfl (by kernel_rfl) (fun _ _ _ h => h) (Or.inl ⟨by rfl, ?_⟩) ?_ ?_
    rotate_left
    ·
     intro w'
     go_simp
     with_reducible rfl
    rotate_left
    ·
     simp only [Act.put, List.setIfInBounds_toArray, List.set_cons_zero, List.set_cons_succ, i64_w, i32_w]
     rfl
    refine done_ (by kernel_rfl) ?_
    try go_wp2
    go_loopg [7, 8] k1 (fun kq v7 v8 w' => ∃ (x7_2 : List (S56)) (x8_2 : Int), v8 = .int .i64 x8_2 ∧ Aside0 (r7_All.l1 kq t207 t210 x7_2 x8_2 l0_0 a0_1 a0_2 l0_3 l0_4 = some r) ∧ Aside0 (kq ≤ k1) ∧ Aside0 (Kd.N (Kd.slice 3 (Kd.int .i64)) 39 w' w.heap.size (fun k_ => (w.heap.size ≤ k_) ∧ some k_ ≠ (v211 : Value).ownBlock ∧ some k_ ≠ (v7 : Value).ownBlock ∧ k_ ≠ gb202) v208 t207) ∧ Aside0 (Kd.N (Kd.slice 3 (Kd.int .i64)) 39 w' w.heap.size (fun k_ => (w.heap.size ≤ k_) ∧ some k_ ≠ (v208 : Value).ownBlock ∧ some k_ ≠ (v7 : Value).ownBlock ∧ k_ ≠ gb202) v211 t210) ∧ Aside0 (Kd.N k56 56 w' w.heap.size (fun k_ => (w.heap.size ≤ k_) ∧ some k_ ≠ (v208 : Value).ownBlock ∧ some k_ ≠ (v211 : Value).ownBlock ∧ k_ ≠ gb202) v7 x7_2) ∧ Aside0 (w'.heap[gb202]? = some (.cells #[(.slice A0_0 l0_0.length c0_0), .int .i64 a0_1, .int .i64 a0_2, (.slice A0_3 l0_3.length c0_3), (.slice A0_4 l0_4.length c0_4)] 28 (0, 0))) ∧ Aside0 (Below w.heap.size w w'))
    case atStart => exact ⟨(([] : List (S56))), (0), (by first | rfl | (simp; done) | (simp [*]; done)), H', ⟨Nat.le_refl _⟩, ⟨by (with_reducible repeat (first | apply Kd.N_alloc | apply Kd.N_drewN | apply Kd.N_drew)); exact Kd.N_mono HO209.out (fun _ hk => ⟨hk.1.1, ⟨hk.2, ⟨(by simp [Value.ownBlock]), hk.1.2.2⟩⟩⟩)⟩, ⟨by (with_reducible repeat (first | apply Kd.N_alloc | apply Kd.N_drewN | apply Kd.N_drew)); exact Kd.N_mono HO212.out (fun _ hk => ⟨hk.1, ⟨hk.2.2.1, ⟨(by simp [Value.ownBlock]), hk.2.2.2⟩⟩⟩)⟩, ⟨by first | exact Kd.R_nil _ _ _ _ _ | exact Kd.N_nil _ _ _ _ _ | exact Kd.V_nil _ _ _ _ _ | exact Kd.Q_nil _ _ _ _ _ | exact Kd.S_nil _ _ _ _ _⟩, ⟨by (with_reducible repeat (first | refine blk_drewN ?_ _ | refine blk_drew ?_ | refine blk_alloc ?_ _)); exact BK202.out⟩, ⟨by repeat (first | (with_reducible first | exact HB.out | apply below_alloc | apply pw_below_drewN | apply below_drew1 | refine below_set ?_ GE202.out) | exact HB.out)⟩⟩
    case round =>
     clear H'
     try clear c1
     try clear p2
     try clear q2
     try clear hx2
     try clear c3
     try clear c3b0
     try clear c4
     try clear c4b0
     try clear c5
     try clear p6
     try clear c11
     try clear c13
     try clear hcz10_0
     try clear hcz10_1
     try clear hcz10_2
     try clear hcz10_3
     try clear hcz10_4
     try clear hcz6_0
     try clear hcz6_1
     try clear hcz6_2
     try clear hcz6_3
     try clear hcz6_4
     try clear hfz10_0
     try clear hfz10_1
     try clear hfz10_2
     try clear hfz10_3
     try clear hfz10_4
     try clear hfz6_0
     try clear hfz6_1
     try clear hfz6_2
     try clear hfz6_3
     try clear hfz6_4
     try clear hx203_0
     try clear hx203_1
     try clear hx203_2
     try clear p2
     try clear p203
     try clear q203
     obtain ⟨x7_2, x8_2, rfl, HA, HK2, HO_5, HO_6, HO_7, BK202, HB⟩ := hrel
     cases gk with
     | zero => exact absurd HA.out (by simp [r7_All.l1])
     | succ k2 =>
      have H := HA.out
      clear HA
      simp only [r7_All.l1] at H
      by_cases c15 : x8_2 < (t207.length : Int)
      ·
       rw [if_pos c15] at H
       have c15b0 : decide (x8_2 < (t207.length : Int)) = true := decide_eq_true c15
       clear c15
       have H' := Aside0.mk H
       clear H
       obtain ⟨Ao16, co16, eo16⟩ := Kd.N_slice HO_5.out
       subst eo16
       have hcz17_0 := (blk_cell BK202.out 0).trans rfl
       have hcz17_1 := (blk_cell BK202.out 1).trans rfl
       have hcz17_2 := (blk_cell BK202.out 2).trans rfl
       have hcz17_3 := (blk_cell BK202.out 3).trans rfl
       have hcz17_4 := (blk_cell BK202.out 4).trans rfl
       have hfz17_0 := blk_frozen BK202.out 0
       have hfz17_1 := blk_frozen BK202.out 1
       have hfz17_2 := blk_frozen BK202.out 2
       have hfz17_3 := blk_frozen BK202.out 3
       have hfz17_4 := blk_frozen BK202.out 4
       go_wp2
       go_loopg [7, 9] k2 (fun kq v7 v9 w' => ∃ (x7_3 : List (S56)) (x9_3 : Int), v9 = .int .i64 x9_3 ∧ Aside0 (r7_All.l2 kq t207 t210 x7_3 x8_2 x9_3 l0_0 a0_1 a0_2 l0_3 l0_4 = some r) ∧ Aside0 (kq ≤ k2) ∧ Aside0 (Kd.N (Kd.slice 3 (Kd.int .i64)) 39 w' w.heap.size (fun k_ => (w.heap.size ≤ k_) ∧ some k_ ≠ (v211 : Value).ownBlock ∧ some k_ ≠ (v7 : Value).ownBlock ∧ k_ ≠ gb202) (.slice Ao16 t207.length co16) t207) ∧ Aside0 (Kd.N (Kd.slice 3 (Kd.int .i64)) 39 w' w.heap.size (fun k_ => (w.heap.size ≤ k_) ∧ some k_ ≠ ((.slice Ao16 t207.length co16) : Value).ownBlock ∧ some k_ ≠ (v7 : Value).ownBlock ∧ k_ ≠ gb202) v211 t210) ∧ Aside0 (Kd.N k56 56 w' w.heap.size (fun k_ => (w.heap.size ≤ k_) ∧ some k_ ≠ ((.slice Ao16 t207.length co16) : Value).ownBlock ∧ some k_ ≠ (v211 : Value).ownBlock ∧ k_ ≠ gb202) v7 x7_3) ∧ Aside0 (w'.heap[gb202]? = some (.cells #[(.slice A0_0 l0_0.length c0_0), .int .i64 a0_1, .int .i64 a0_2, (.slice A0_3 l0_3.length c0_3), (.slice A0_4 l0_4.length c0_4)] 28 (0, 0))) ∧ Aside0 (Below w.heap.size w w'))
       case atStart => exact ⟨(x7_2), (a0_1), (by first | rfl | (simp; done) | (simp [*]; done)), H', ⟨Nat.le_refl _⟩, ⟨by (with_reducible repeat (first | apply Kd.N_alloc | apply Kd.N_drewN | apply Kd.N_drew)); exact HO_5.out⟩, ⟨by (with_reducible repeat (first | apply Kd.N_alloc | apply Kd.N_drewN | apply Kd.N_drew)); exact HO_6.out⟩, ⟨by (with_reducible repeat (first | apply Kd.N_alloc | apply Kd.N_drewN | apply Kd.N_drew)); exact HO_7.out⟩, ⟨by (with_reducible repeat (first | refine blk_drewN ?_ _ | refine blk_drew ?_ | refine blk_alloc ?_ _)); exact BK202.out⟩, ⟨by repeat (first | (with_reducible first | exact HB.out | apply below_alloc | apply pw_below_drewN | apply below_drew1 | refine below_set ?_ GE202.out) | exact HB.out)⟩⟩
       case round =>
        clear H'
        try clear c1
        try clear p2
        try clear q2
        try clear hx2
        try clear c3
        try clear c3b0
        try clear c4
        try clear c4b0
        try clear c5
        try clear p6
        try clear c11
        try clear c13
        try clear c15
        try clear c15b0
        try clear hcz10_0
        try clear hcz10_1
        try clear hcz10_2
        try clear hcz10_3
        try clear hcz10_4
        try clear hcz17_0
        try clear hcz17_1
        try clear hcz17_2
        try clear hcz17_3
        try clear hcz17_4
        try clear hcz6_0
        try clear hcz6_1
        try clear hcz6_2
        try clear hcz6_3
        try clear hcz6_4
        try clear hfz10_0
        try clear hfz10_1
        try clear hfz10_2
        try clear hfz10_3
        try clear hfz10_4
        try clear hfz17_0
        try clear hfz17_1
        try clear hfz17_2
        try clear hfz17_3
        try clear hfz17_4
        try clear hfz6_0
        try clear hfz6_1
        try clear hfz6_2
        try clear hfz6_3
        try clear hfz6_4
        try clear hx203_0
        try clear hx203_1
        try clear hx203_2
        try clear p2
        try clear p203
        try clear p6
        try clear q2
        try clear q203
        obtain ⟨x7_3, x9_3, rfl, HA, HK3, HO_5, HO_6, HO_7, BK202, HB⟩ := hrel
        cases gk with
        | zero => exact absurd HA.out (by simp [r7_All.l2])
        | succ k3 =>
         have H := HA.out
         clear HA
         simp only [r7_All.l2] at H
         by_cases c18 : x9_3 ≤ a0_2
         ·
          rw [if_pos c18] at H
          have c18b0 : decide (x9_3 ≤ a0_2) = true := decide_eq_true c18
          clear c18
          have H' := Aside0.mk H
          clear H
          have hcz19_0 := (blk_cell BK202.out 0).trans rfl
          have hcz19_1 := (blk_cell BK202.out 1).trans rfl
          have hcz19_2 := (blk_cell BK202.out 2).trans rfl
          have hcz19_3 := (blk_cell BK202.out 3).trans rfl
          have hcz19_4 := (blk_cell BK202.out 4).trans rfl
          have hfz19_0 := blk_frozen BK202.out 0
          have hfz19_1 := blk_frozen BK202.out 1
          have hfz19_2 := blk_frozen BK202.out 2
          have hfz19_3 := blk_frozen BK202.out 3
          have hfz19_4 := blk_frozen BK202.out 4
          go_wp2
          go_loopg [7, 10] k3 (fun kq v7 v10 w' => ∃ (x7_4 : List (S56)) (x10_4 : Int), v10 = .int .i64 x10_4 ∧ Aside0 (r7_All.l3 kq t207 t210 x7_4 x8_2 x9_3 x10_4 l0_0 a0_1 a0_2 l0_3 l0_4 = some r) ∧ Aside0 (kq ≤ k3) ∧ Aside0 (Kd.N (Kd.slice 3 (Kd.int .i64)) 39 w' w.heap.size (fun k_ => (w.heap.size ≤ k_) ∧ some k_ ≠ (v211 : Value).ownBlock ∧ some k_ ≠ (v7 : Value).ownBlock ∧ k_ ≠ gb202) (.slice Ao16 t207.length co16) t207) ∧ Aside0 (Kd.N (Kd.slice 3 (Kd.int .i64)) 39 w' w.heap.size (fun k_ => (w.heap.size ≤ k_) ∧ some k_ ≠ ((.slice Ao16 t207.length co16) : Value).ownBlock ∧ some k_ ≠ (v7 : Value).ownBlock ∧ k_ ≠ gb202) v211 t210) ∧ Aside0 (Kd.N k56 56 w' w.heap.size (fun k_ => (w.heap.size ≤ k_) ∧ some k_ ≠ ((.slice Ao16 t207.length co16) : Value).ownBlock ∧ some k_ ≠ (v211 : Value).ownBlock ∧ k_ ≠ gb202) v7 x7_4) ∧ Aside0 (w'.heap[gb202]? = some (.cells #[(.slice A0_0 l0_0.length c0_0), .int .i64 a0_1, .int .i64 a0_2, (.slice A0_3 l0_3.length c0_3), (.slice A0_4 l0_4.length c0_4)] 28 (0, 0))) ∧ Aside0 (Below w.heap.size w w'))
          case atStart => exact ⟨(x7_3), (0), (by first | rfl | (simp; done) | (simp [*]; done)), H', ⟨Nat.le_refl _⟩, ⟨by (with_reducible repeat (first | apply Kd.N_alloc | apply Kd.N_drewN | apply Kd.N_drew)); exact HO_5.out⟩, ⟨by (with_reducible repeat (first | apply Kd.N_alloc | apply Kd.N_drewN | apply Kd.N_drew)); exact HO_6.out⟩, ⟨by (with_reducible repeat (first | apply Kd.N_alloc | apply Kd.N_drewN | apply Kd.N_drew)); exact HO_7.out⟩, ⟨by (with_reducible repeat (first | refine blk_drewN ?_ _ | refine blk_drew ?_ | refine blk_alloc ?_ _)); exact BK202.out⟩, ⟨by repeat (first | (with_reducible first | exact HB.out | apply below_alloc | apply pw_below_drewN | apply below_drew1 | refine below_set ?_ GE202.out) | exact HB.out)⟩⟩
          case round =>
           clear H'
           try clear c1
           try clear p2
           try clear q2
           try clear hx2
           try clear c3
           try clear c3b0
           try clear c4
           try clear c4b0
           try clear c5
           try clear p6
           try clear c11
           try clear c13
           try clear c15
           try clear c15b0
           try clear c18
           try clear c18b0
           try clear hcz10_0
           try clear hcz10_1
           try clear hcz10_2
           try clear hcz10_3
           try clear hcz10_4
           try clear hcz17_0
           try clear hcz17_1
           try clear hcz17_2
           try clear hcz17_3
           try clear hcz17_4
           try clear hcz19_0
           try clear hcz19_1
           try clear hcz19_2
           try clear hcz19_3
           try clear hcz19_4
           try clear hcz6_0
           try clear hcz6_1
           try clear hcz6_2
           try clear hcz6_3
           try clear hcz6_4
           try clear hfz10_0
           try clear hfz10_1
           try clear hfz10_2
           try clear hfz10_3
           try clear hfz10_4
           try clear hfz17_0
           try clear hfz17_1
           try clear hfz17_2
           try clear hfz17_3
           try clear hfz17_4
           try clear hfz19_0
           try clear hfz19_1
           try clear hfz19_2
           try clear hfz19_3
           try clear hfz19_4
           try clear hfz6_0
           try clear hfz6_1
           try clear hfz6_2
           try clear hfz6_3
           try clear hfz6_4
           try clear hx203_0
           try clear hx203_1
           try clear hx203_2
           try clear p2
           try clear p203
           try clear p6
           try clear q2
           try clear q203
           obtain ⟨x7_4, x10_4, rfl, HA, HK4, HO_5, HO_6, HO_7, BK202, HB⟩ := hrel
           cases gk with
           | zero => exact absurd HA.out (by simp [r7_All.l3])
           | succ k4 =>
            have H := HA.out
            clear HA
            simp only [r7_All.l3] at H
            by_cases c20 : x10_4 < (t210.length : Int)
            ·
             rw [if_pos c20] at H
             have c20b0 : decide (x10_4 < (t210.length : Int)) = true := decide_eq_true c20
             clear c20
             by_cases c21 : 0 ≤ x8_2
             ·
              rw [if_pos c21] at H
              have c21b0 : decide (0 ≤ x8_2) = true := decide_eq_true c21
              clear c21
              by_cases c22 : x8_2 < (t207.length : Int)
              ·
               rw [if_pos c22] at H
               have c22b0 : decide (x8_2 < (t207.length : Int)) = true := decide_eq_true c22
               clear c22
               by_cases c23 : 0 ≤ x10_4
               ·
                rw [if_pos c23] at H
                have c23b0 : decide (0 ≤ x10_4) = true := decide_eq_true c23
                clear c23
                by_cases c24 : x7_4.length < 1759218604441
                ·
                 rw [if_pos c24] at H
                 have LMc24 := Aside0.mk c24
                 clear c24
                 obtain ⟨y215, hy215⟩ : ∃ y_ : List (S56), y_ = (x7_4 ++ [(⟨rd_L2 t207 x8_2, x9_3, rd_L2 t210 x10_4, ([] : List (List Int))⟩ : S56)]) := ⟨_, rfl⟩
                 replace H : (r7_All.l3 k4 t207 t210 y215 x8_2 x9_3 (wrap64 (x10_4 + 1)) l0_0 a0_1 a0_2 l0_3 l0_4) = some r := by first | (rw [hy215]; with_reducible exact H) | (have H2_ := (Option.bind_some _ _).symm.trans H; rw [hy215]; with_reducible exact H2_) | (have H2_ := (Option.bind_some _ _).symm.trans H; with_reducible exact H2_) | with_reducible exact H | (rw [hy215]; exact H) | exact H
                 have Ny215 := Aside0.mk hy215
                 clear hy215
                 have H' := Aside0.mk H
                 clear H
                 obtain ⟨Ao25, co25, eo25⟩ := Kd.N_slice HO_6.out
                 subst eo25
                 try go_wp2
                 have n0_ := Aside0.mk (Kd.N_drew HO_5.out)
                 have n1_ := Aside0.mk (Kd.N_drew HO_6.out)
                 have n2_ := Aside0.mk (Kd.N_drew HO_7.out)
                 have n3_ := Aside0.mk (blk_drew BK202.out)
                 have n4_ := Aside0.mk (below_drew1 HB.out)
                 clear HO_5 HO_6 HO_7 BK202 HB
                 have HO_5 := n0_
                 have HO_6 := n1_
                 have HO_7 := n2_
                 have BK202 := n3_
                 have HB := n4_
                 clear n0_ n1_ n2_ n3_ n4_
                 have p213 : 0 ≤ (x8_2 : Int) := of_decide_eq_true (by first | (with_reducible assumption) | assumption)
                 have q213 : x8_2 < (t207.length : Int) := of_decide_eq_true (by first | (with_reducible assumption) | assumption)
                 obtain ⟨ad213, A213_0, c213_0, e213, hx213_0, hl213_0, hi213_0⟩ := at_L2 (Kd.N_reads' HO_5.out).2.2 x8_2 p213 q213
                 cases e213
                 obtain ⟨ce213, hce213, hMe213, hcc213⟩ := Kd.N_get HO_5.out [] x8_2 p213 (by first | exact q213 | exact of_decide_eq_true (by first | (with_reducible assumption) | assumption) | (have e_ := (Kd.N_reads' HO_5.out).1; omega))
                 obtain ⟨ua213_0, uc213_0, rfl, ul213_0, ge213_0⟩ := Kd.FK_slice_open hMe213
                 have hv213_0 := hcc213 0 _ rfl
                 rw [Nat.add_zero, show ((Kd.slice 3 (Kd.int .i64))).sz = 1 from rfl, Nat.mul_one] at hv213_0
                 replace hv213_0 := Option.some.inj (hv213_0.symm.trans hx213_0)
                 injection hv213_0 with hva_ hvn_ hvc_
                 rw [hva_] at ge213_0
                 rw [hvc_] at ul213_0
                 have HL213_0 := Aside0.mk (show Kd.V (Kd.int .i64) 3 _ w.heap.size _ _ (rd_L2 t207 x8_2) from Kd.V_mk ul213_0 ge213_0)
                 clear hva_ hvn_ hvc_ ge213_0 ul213_0 hcc213 hce213
                 have HR213_0 := Aside0.mk hi213_0
                 have HC213_0 := Aside0.mk hl213_0
                 clear hi213_0 hl213_0
                 replace p213 := eq_true p213
                 replace q213 := eq_true q213
                 have p214 : 0 ≤ (x10_4 : Int) := of_decide_eq_true (by first | (with_reducible assumption) | assumption)
                 have q214 : x10_4 < (t210.length : Int) := of_decide_eq_true (by first | (with_reducible assumption) | assumption)
                 obtain ⟨ad214, A214_0, c214_0, e214, hx214_0, hl214_0, hi214_0⟩ := at_L2 (Kd.N_reads' HO_6.out).2.2 x10_4 p214 q214
                 cases e214
                 obtain ⟨ce214, hce214, hMe214, hcc214⟩ := Kd.N_get HO_6.out [] x10_4 p214 (by first | exact q214 | exact of_decide_eq_true (by first | (with_reducible assumption) | assumption) | (have e_ := (Kd.N_reads' HO_6.out).1; omega))
                 obtain ⟨ua214_0, uc214_0, rfl, ul214_0, ge214_0⟩ := Kd.FK_slice_open hMe214
                 have hv214_0 := hcc214 0 _ rfl
                 rw [Nat.add_zero, show ((Kd.slice 3 (Kd.int .i64))).sz = 1 from rfl, Nat.mul_one] at hv214_0
                 replace hv214_0 := Option.some.inj (hv214_0.symm.trans hx214_0)
                 injection hv214_0 with hva_ hvn_ hvc_
                 rw [hva_] at ge214_0
                 rw [hvc_] at ul214_0
                 have HL214_0 := Aside0.mk (show Kd.V (Kd.int .i64) 3 _ w.heap.size _ _ (rd_L2 t210 x10_4) from Kd.V_mk ul214_0 ge214_0)
                 clear hva_ hvn_ hvc_ ge214_0 ul214_0 hcc214 hce214
                 have HR214_0 := Aside0.mk hi214_0
                 have HC214_0 := Aside0.mk hl214_0
                 clear hi214_0 hl214_0
                 replace p214 := eq_true p214
                 replace q214 := eq_true q214
                 refine start_ (n := 14) (S := fun w' => w'.cell? (ad213.add (x8_2).toNat) = some (.slice A213_0 (rd_L2 t207 x8_2).length c213_0) ∧ w'.cell? (ad214.add (x10_4).toNat) = some (.slice A214_0 (rd_L2 t210 x10_4).length c214_0)) (ds := [11, 12]) #[false, false, false, false, false, false, false, false, false, false, false, false, false, false] (by kernel_rfl) rfl rfl ⟨hx213_0, hx214_0⟩ (fun hHeld => ?_); refine with_tabW r7_All.tab17 r7_All.bits17 (fun HT_ HW_ => ?_)
                 generalize wr.drew = w26 at HO_5 HO_6 HO_7 BK202 HB HL213_0 HL214_0 HR213_0 HR214_0 hx213_0 hx214_0 hHeld ⊢
                 refine pureQ 0 54 HT_.out ?_
                 refine pureQ 1 55 HT_.out ?_
                 refine pureQ 2 56 HT_.out ?_
                 refine pureQ 3 57 HT_.out ?_
                 refine pureQ 5 59 HT_.out ?_
                 refine pureQ 6 60 HT_.out ?_
                 refine pureQ 7 61 HT_.out ?_
                 refine pureQ 8 62 HT_.out ?_
                 refine takeQ 4 58 HT_.out HW_.out hHeld ?_
                 refine takeQ 9 63 HT_.out HW_.out hHeld ?_
                 refine pureQ 10 64 HT_.out ?_
                 refine last_ (i := 11) (N := some 65) #[true, true, true, true, true, true, true, true, true, true, true, true, false, false] rfl rfl (one_of HT_.out (by kernel_rfl)) (by decide) (fun K hK => ?_)
                 refine value_ (w1 := ?_) (v := ?_) (by rfl) rfl ?_ ?_
                 rotate_left 2
                 ·
                  go_simp
                  constructor
                  ·
                   rfl
                  ·
                   rfl
                 refine hK.out _ _ ?_
                 clear hK K
                 refine norm_ (a' := ?_) ?_ ?_
                 rotate_left
                 ·
                  show Act.put _ (some 65) _ = _
                  simp only [Act.put, List.setIfInBounds_toArray, List.set_cons_zero, List.set_cons_succ, i64_w, i32_w]
                  rfl
                 refine last_ (i := 12) (N := some 66) #[true, true, true, true, true, true, true, true, true, true, true, true, true, false] rfl rfl (one_of HT_.out (by kernel_rfl)) (by decide) (fun K hK => ?_)
                 refine Kd.N_append_step k56 (w0 := w) w.heap.size (by rfl) (.tmp 54) (.tmp 65) 68 56 (.agg #[(.slice none 0 0), (.int .i64 0), (.slice none 0 0), (.slice none 0 0)]) 80 rfl Try.underlying68 info56 rfl (by decide) (by omega) u7 x7_4 (⟨rd_L2 t207 x8_2, x9_3, rd_L2 t210 x10_4, ([] : List (List Int))⟩ : S56) [.slice A213_0 (rd_L2 t207 x8_2).length c213_0, .int .i64 x9_3, .slice A214_0 (rd_L2 t210 x10_4).length c214_0, .slice none 0 0] (fun k_ => (w.heap.size ≤ k_) ∧ some k_ ≠ (.slice (some ad213) t207.length co16 : Value).ownBlock ∧ some k_ ≠ (.slice (some ad214) t210.length co25 : Value).ownBlock ∧ k_ ≠ gb202) (fun k_ => ((fun k_ => (w.heap.size ≤ k_) ∧ some k_ ≠ (.slice (some ad213) t207.length co16 : Value).ownBlock ∧ some k_ ≠ (.slice (some ad214) t210.length co25 : Value).ownBlock ∧ k_ ≠ gb202)) k_ ∧ some k_ ≠ (u7 : Value).ownBlock) rfl rfl ?aP (fun _ hk => hk) ?aF ?aO ?aB ?aS ?aL ?_
                 (case aP => exact (k56_mkF _ _ (⟨rd_L2 t207 x8_2, x9_3, rd_L2 t210 x10_4, ([] : List (List Int))⟩ : S56) (Kd.V_reads' (Kd.V_mono (ok' := (fun k_ => ((fun k_ => (w.heap.size ≤ k_) ∧ some k_ ≠ (.slice (some ad213) t207.length co16 : Value).ownBlock ∧ some k_ ≠ (.slice (some ad214) t210.length co25 : Value).ownBlock ∧ k_ ≠ gb202)) k_ ∧ some k_ ≠ (u7 : Value).ownBlock)) (HL213_0.out) (fun k_ hk => ⟨⟨hk.1.1, ⟨hk.2, ⟨hk.1.2.1, hk.1.2.2.2⟩⟩⟩, hk.1.2.2.1⟩))).2.1 (Kd.V_F (Kd.V_mono (ok' := (fun k_ => ((fun k_ => (w.heap.size ≤ k_) ∧ some k_ ≠ (.slice (some ad213) t207.length co16 : Value).ownBlock ∧ some k_ ≠ (.slice (some ad214) t210.length co25 : Value).ownBlock ∧ k_ ≠ gb202)) k_ ∧ some k_ ≠ (u7 : Value).ownBlock)) (HL213_0.out) (fun k_ hk => ⟨⟨hk.1.1, ⟨hk.2, ⟨hk.1.2.1, hk.1.2.2.2⟩⟩⟩, hk.1.2.2.1⟩))) (Kd.V_reads' (Kd.V_mono (ok' := (fun k_ => ((fun k_ => (w.heap.size ≤ k_) ∧ some k_ ≠ (.slice (some ad213) t207.length co16 : Value).ownBlock ∧ some k_ ≠ (.slice (some ad214) t210.length co25 : Value).ownBlock ∧ k_ ≠ gb202)) k_ ∧ some k_ ≠ (u7 : Value).ownBlock)) (HL214_0.out) (fun k_ hk => ⟨⟨hk.1.1, ⟨hk.1.2.1, ⟨hk.2, hk.1.2.2.2⟩⟩⟩, hk.1.2.2.1⟩))).2.1 (Kd.V_F (Kd.V_mono (ok' := (fun k_ => ((fun k_ => (w.heap.size ≤ k_) ∧ some k_ ≠ (.slice (some ad213) t207.length co16 : Value).ownBlock ∧ some k_ ≠ (.slice (some ad214) t210.length co25 : Value).ownBlock ∧ k_ ≠ gb202)) k_ ∧ some k_ ≠ (u7 : Value).ownBlock)) (HL214_0.out) (fun k_ hk => ⟨⟨hk.1.1, ⟨hk.1.2.1, ⟨hk.2, hk.1.2.2.2⟩⟩⟩, hk.1.2.2.1⟩))) (Nat.le_refl _) (Kd.F_nil _ _ _)))
                 (case aB => exact (by repeat (first | (with_reducible first | exact HB.out | apply below_alloc | apply pw_below_drewN | apply below_drew1 | refine below_set ?_ GE202.out) | exact HB.out)))
                 (case aF => exact (fun k_ hk => ⟨(Nat.le_trans (below_size (by repeat (first | (with_reducible first | exact HB.out | apply below_alloc | apply pw_below_drewN | apply below_drew1 | refine below_set ?_ GE202.out) | exact HB.out))) hk), Kd.fresh' (Kd.N_lt (by (with_reducible repeat (first | apply Kd.N_alloc | apply Kd.N_drewN | apply Kd.N_drew)); exact HO_5.out)) k_ hk, Kd.fresh' (Kd.N_lt (by (with_reducible repeat (first | apply Kd.N_alloc | apply Kd.N_drewN | apply Kd.N_drew)); exact HO_6.out)) k_ hk, Kd.freshB (g := gb202) (o := .cells #[.slice A0_0 l0_0.length c0_0, .int .i64 a0_1, .int .i64 a0_2, .slice A0_3 l0_3.length c0_3, .slice A0_4 l0_4.length c0_4] 28 (0, 0)) (by (with_reducible repeat (first | refine blk_drewN ?_ _ | refine blk_drew ?_ | refine blk_alloc ?_ _)); exact BK202.out) k_ hk⟩))
                 (case aO => exact (by (with_reducible repeat (first | apply Kd.N_alloc | apply Kd.N_drewN | apply Kd.N_drew)); exact HO_7.out))
                 (case aS => exact (below_size (by repeat (first | (with_reducible first | exact HB.out | apply below_alloc | apply pw_below_drewN | apply below_drew1 | refine below_set ?_ GE202.out) | exact HB.out))))
                 (case aL => have := LMc24.out; omega)
                 intro v216 w27 ho hb hg hat
                 rw [← Ny215.out] at ho
                 have n0_ := Aside0.mk (Kd.N_afterv (ok := (fun k_ => (w.heap.size ≤ k_) ∧ some k_ ≠ (.slice (some ad214) t210.length co25 : Value).ownBlock ∧ k_ ≠ gb202)) (by (with_reducible repeat (first | apply Kd.N_alloc | apply Kd.N_drewN | apply Kd.N_drew)); exact Kd.N_mono HO_5.out (fun _ hk => ⟨⟨hk.1, ⟨hk.2.1, hk.2.2.2⟩⟩, hk.2.2.1⟩)) hg hat)
                 have n1_ := Aside0.mk (Kd.N_afterv (ok := (fun k_ => (w.heap.size ≤ k_) ∧ some k_ ≠ (.slice (some ad213) t207.length co16 : Value).ownBlock ∧ k_ ≠ gb202)) (by (with_reducible repeat (first | apply Kd.N_alloc | apply Kd.N_drewN | apply Kd.N_drew)); exact Kd.N_mono HO_6.out (fun _ hk => ⟨⟨hk.1, ⟨hk.2.1, hk.2.2.2⟩⟩, hk.2.2.1⟩)) hg hat)
                 have n2_ := Aside0.mk (blk_grown (g := gb202) (o := .cells #[.slice A0_0 l0_0.length c0_0, .int .i64 a0_1, .int .i64 a0_2, .slice A0_3 l0_3.length c0_3, .slice A0_4 l0_4.length c0_4] 28 (0, 0)) (by (with_reducible repeat (first | refine blk_drewN ?_ _ | refine blk_drew ?_ | refine blk_alloc ?_ _)); exact BK202.out) hg (Kd.N_ne HO_7.out BK202.out (by decide)))
                 have n3_ := Aside0.mk (Kd.V_afterv (ok := (fun k_ => (w.heap.size ≤ k_) ∧ some k_ ≠ (.slice (some ad213) t207.length co16 : Value).ownBlock ∧ some k_ ≠ (.slice (some ad214) t210.length co25 : Value).ownBlock ∧ k_ ≠ gb202)) (by (with_reducible repeat (first | apply Kd.V_alloc | apply Kd.V_drewN | apply Kd.V_drew)); exact Kd.V_mono HL213_0.out (fun _ hk => ⟨⟨hk.1.1, ⟨hk.2, ⟨hk.1.2.1, hk.1.2.2.2⟩⟩⟩, hk.1.2.2.1⟩)) hg hat)
                 have n4_ := Aside0.mk (Kd.V_afterv (ok := (fun k_ => (w.heap.size ≤ k_) ∧ some k_ ≠ (.slice (some ad213) t207.length co16 : Value).ownBlock ∧ some k_ ≠ (.slice (some ad214) t210.length co25 : Value).ownBlock ∧ k_ ≠ gb202)) (by (with_reducible repeat (first | apply Kd.V_alloc | apply Kd.V_drewN | apply Kd.V_drew)); exact Kd.V_mono HL214_0.out (fun _ hk => ⟨⟨hk.1.1, ⟨hk.1.2.1, ⟨hk.2, hk.1.2.2.2⟩⟩⟩, hk.1.2.2.1⟩)) hg hat)
                 have n5_ := Aside0.mk (hb)
                 have n6_ := Aside0.mk (ho)
                 clear HO_5 HO_6 BK202 HL213_0 HL214_0 HB HO_7
                 have HO_5 := n0_
                 have HO_6 := n1_
                 have BK202 := n2_
                 have HL213_0 := n3_
                 have HL214_0 := n4_
                 have HB := n5_
                 have HO217 := n6_
                 clear n0_ n1_ n2_ n3_ n4_ n5_ n6_ ho hb hg hat
                 refine hK.out _ _ ?_
                 clear hK K
                 refine norm_ (a' := ?_) ?_ ?_
                 rotate_left
                 ·
                  show Act.put _ (some 66) _ = _
                  simp only [Act.put, List.setIfInBounds_toArray, List.set_cons_zero, List.set_cons_succ, i64_w, i32_w]
                  rfl
                 refine pureQ 13 7 HT_.out ?_
                 refine done_ (done_of HT_.out (by kernel_rfl)) ?_
                 try go_wp2
                 go_roundg k4
                 case measure => have := HK1.out; have := HK2.out; have := HK3.out; have := HK4.out; omega
                 case rel => exact ⟨(y215), (wrap64 (x10_4 + 1)), (by first | rfl | (simp; done) | (simp [*]; done)), H', ⟨by have := HK1.out; have := HK2.out; have := HK3.out; have := HK4.out; omega⟩, ⟨by (with_reducible repeat (first | apply Kd.N_alloc | apply Kd.N_drewN | apply Kd.N_drew)); exact Kd.N_mono HO_5.out (fun _ hk => ⟨hk.1.1, ⟨hk.1.2.1, ⟨hk.2, hk.1.2.2⟩⟩⟩)⟩, ⟨by (with_reducible repeat (first | apply Kd.N_alloc | apply Kd.N_drewN | apply Kd.N_drew)); exact Kd.N_mono HO_6.out (fun _ hk => ⟨hk.1.1, ⟨hk.1.2.1, ⟨hk.2, hk.1.2.2⟩⟩⟩)⟩, ⟨by (with_reducible repeat (first | apply Kd.N_alloc | apply Kd.N_drewN | apply Kd.N_drew)); exact HO217.out⟩, ⟨by (with_reducible repeat (first | refine blk_drewN ?_ _ | refine blk_drew ?_ | refine blk_alloc ?_ _)); exact BK202.out⟩, ⟨by repeat (first | (with_reducible first | exact HB.out | apply below_alloc | apply pw_below_drewN | apply below_drew1 | refine below_set ?_ GE202.out) | exact HB.out)⟩⟩
                ·
                 rw [if_neg c24] at H
                 exact absurd H (by simp)
               ·
                rw [if_neg c23] at H
                exact absurd H (by simp)
              ·
               rw [if_neg c22] at H
               exact absurd H (by simp)
             ·
              rw [if_neg c21] at H
              exact absurd H (by simp)
            ·
             rw [if_neg c20] at H
             have c20b0 : decide (x10_4 < (t210.length : Int)) = false := decide_eq_false c20
             clear c20
             have H' := Aside0.mk H
             clear H
             obtain ⟨Ao28, co28, eo28⟩ := Kd.N_slice HO_6.out
             subst eo28
             go_wp2
             go_roundg k4
             case measure => have := HK1.out; have := HK2.out; have := HK3.out; have := HK4.out; omega
             case rel => exact ⟨(x7_4), (wrap64 (x9_3 + 1)), (by first | rfl | (simp; done) | (simp [*]; done)), H', ⟨by have := HK1.out; have := HK2.out; have := HK3.out; have := HK4.out; omega⟩, ⟨by (with_reducible repeat (first | apply Kd.N_alloc | apply Kd.N_drewN | apply Kd.N_drew)); exact HO_5.out⟩, ⟨by (with_reducible repeat (first | apply Kd.N_alloc | apply Kd.N_drewN | apply Kd.N_drew)); exact HO_6.out⟩, ⟨by (with_reducible repeat (first | apply Kd.N_alloc | apply Kd.N_drewN | apply Kd.N_drew)); exact HO_7.out⟩, ⟨by (with_reducible repeat (first | refine blk_drewN ?_ _ | refine blk_drew ?_ | refine blk_alloc ?_ _)); exact BK202.out⟩, ⟨by repeat (first | (with_reducible first | exact HB.out | apply below_alloc | apply pw_below_drewN | apply below_drew1 | refine below_set ?_ GE202.out) | exact HB.out)⟩⟩
         ·
          rw [if_neg c18] at H
          have c18b0 : decide (x9_3 ≤ a0_2) = false := decide_eq_false c18
          clear c18
          have H' := Aside0.mk H
          clear H
          have hcz29_0 := (blk_cell BK202.out 0).trans rfl
          have hcz29_1 := (blk_cell BK202.out 1).trans rfl
          have hcz29_2 := (blk_cell BK202.out 2).trans rfl
          have hcz29_3 := (blk_cell BK202.out 3).trans rfl
          have hcz29_4 := (blk_cell BK202.out 4).trans rfl
          have hfz29_0 := blk_frozen BK202.out 0
          have hfz29_1 := blk_frozen BK202.out 1
          have hfz29_2 := blk_frozen BK202.out 2
          have hfz29_3 := blk_frozen BK202.out 3
          have hfz29_4 := blk_frozen BK202.out 4
          go_wp2
          go_roundg k3
          case measure => have := HK1.out; have := HK2.out; have := HK3.out; omega
          case rel => exact ⟨(x7_3), (wrap64 (x8_2 + 1)), (by first | rfl | (simp; done) | (simp [*]; done)), H', ⟨by have := HK1.out; have := HK2.out; have := HK3.out; omega⟩, ⟨by (with_reducible repeat (first | apply Kd.N_alloc | apply Kd.N_drewN | apply Kd.N_drew)); exact HO_5.out⟩, ⟨by (with_reducible repeat (first | apply Kd.N_alloc | apply Kd.N_drewN | apply Kd.N_drew)); exact HO_6.out⟩, ⟨by (with_reducible repeat (first | apply Kd.N_alloc | apply Kd.N_drewN | apply Kd.N_drew)); exact HO_7.out⟩, ⟨by (with_reducible repeat (first | refine blk_drewN ?_ _ | refine blk_drew ?_ | refine blk_alloc ?_ _)); exact BK202.out⟩, ⟨by repeat (first | (with_reducible first | exact HB.out | apply below_alloc | apply pw_below_drewN | apply below_drew1 | refine below_set ?_ GE202.out) | exact HB.out)⟩⟩
      ·
       rw [if_neg c15] at H
       have c15b0 : decide (x8_2 < (t207.length : Int)) = false := decide_eq_false c15
       clear c15
       obtain rfl := Option.some.inj H
       obtain ⟨Ao30, co30, eo30⟩ := Kd.N_slice HO_5.out
       subst eo30
       go_wp2
       go_ret
       exact ⟨_, by first | rfl | (simp [errW_none, errW_some] <;> rfl) | (simp [*, errW_none, errW_some] <;> rfl), by (with_reducible repeat (first | apply Kd.N_alloc | apply Kd.N_drewN | apply Kd.N_drew)); exact Kd.N_mono HO_7.out (fun _ hk => hk.1), by repeat (first | (with_reducible first | exact HB.out | apply below_alloc | apply pw_below_drewN | apply below_drew1 | refine below_set ?_ GE202.out) | exact HB.out)⟩

end Go.Proofs.Ytgoidclnccjdeaa.PR
end
section
namespace Go.Proofs.Ytgoidclnccjdeaa.PR
open Go.RowKit Go.Proofs.YtgoidclnccjdeaaW.PrintWords Go.Proofs.YtgoidclnccjdeaaW.PrintLast Go.Proofs.YtgoidclnccjdeaaW.PrintMore
attribute [local go_sem] max2_int min2_int max_two min_two max_three min_three max_four min_four   -- for this text's walks alone
set_option linter.unusedVariables false
set_option linter.unusedSimpArgs false

def r7_used.l0 : Nat → List Int → Int → List (S95) → Int → Int → List (S24) → List (S72) → List Int → Int → List Int → List (List Int) → Int → Int → Int → Option (List Int)
 | 0, _, _, _, _, _, _, _, _, _, _, _, _, _, _ => none
 | k + 1, x7, x8, x192000, x192001, x192002, x192003, x192004, x193000, x193001, x193002, x193003, x194000, x194001, x194002 => if x8 < (x192000.length : Int) then (if x194000 = (-1) then ((r7_Bits.f k x193000 x193001 x193002 x193003 x8 x194001).bind fun t194 => (if t194 = x194002 then (if x7.length < 17592186044416 then (r7_used.l0 k (x7 ++ [x8]) (wrap64 (x8 + 1)) x192000 x192001 x192002 x192003 x192004 x193000 x193001 x193002 x193003 x194000 x194001 x194002) else (none)) else (r7_used.l0 k x7 (wrap64 (x8 + 1)) x192000 x192001 x192002 x192003 x192004 x193000 x193001 x193002 x193003 x194000 x194001 x194002))) else (if x194000 = x8 then ((r7_Bits.f k x193000 x193001 x193002 x193003 x8 x194001).bind fun t198 => (if t198 = x194002 then (if x7.length < 17592186044416 then (r7_used.l0 k (x7 ++ [x8]) (wrap64 (x8 + 1)) x192000 x192001 x192002 x192003 x192004 x193000 x193001 x193002 x193003 x194000 x194001 x194002) else (none)) else (r7_used.l0 k x7 (wrap64 (x8 + 1)) x192000 x192001 x192002 x192003 x192004 x193000 x193001 x193002 x193003 x194000 x194001 x194002))) else (r7_used.l0 k x7 (wrap64 (x8 + 1)) x192000 x192001 x192002 x192003 x192004 x193000 x193001 x193002 x193003 x194000 x194001 x194002))) else (some x7)
def r7_used.f (k : Nat) (l0_0 : List (S95)) (a0_1 : Int) (a0_2 : Int) (l0_3 : List (S24)) (l0_4 : List (S72)) (l1_0 : List Int) (a1_1 : Int) (l1_2 : List Int) (l1_3 : List (List Int)) (a2_0 : Int) (a2_1 : Int) (a2_2 : Int) : Option (List Int) := r7_used.l0 k ([] : List Int) 0 l0_0 a0_1 a0_2 l0_3 l0_4 l1_0 a1_1 l1_2 l1_3 a2_0 a2_1 a2_2
def r7_used.T5 : Bool × List (List Nat × List Nat) := (true, [([], []), ([0], [0]), ([1], [1]), ([2], [2]), ([3], [3]), ([4, 3], [3, 4]), ([3], [3]), ([5, 6, 3], [3, 5, 6]), ([3, 7], [3, 7]), ([8, 3], [8]), ([9], [9]), ([9], [9]), ([9], [9]), ([12, 9], [9, 12]), ([10, 11, 13, 9, 9], [9, 10, 11, 13]), ([9], [9]), ([15, 9], [9, 15]), ([14, 16, 9], [9, 14, 16]), ([9, 17], [9, 17])])
def r7_used.B5 : List Nat := [0, 1, 3, 7, 15, 31, 15, 127, 255, 511, 1023, 1023, 1023, 5119, 16383, 1023, 33791, 131071, 262143]
theorem r7_used.tab5 : rtab .any (opsOf Try.f115 5) = r7_used.T5 := by kernel_rfl
theorem r7_used.bits5 : waitsOk r7_used.T5.2 r7_used.B5 = true := by kernel_rfl
set_option maxHeartbeats 8000000 in
set_option maxRecDepth 100000 in
theorem r7_used.calls (k : Nat) (A0_0 : Option Addr) (c0_0 : Nat) (l0_0 : List (S95)) (a0_1 : Int) (a0_2 : Int) (A0_3 : Option Addr) (c0_3 : Nat) (l0_3 : List (S24)) (A0_4 : Option Addr) (c0_4 : Nat) (l0_4 : List (S72)) (A1_0 : Option Addr) (c1_0 : Nat) (l1_0 : List Int) (a1_1 : Int) (A1_2 : Option Addr) (c1_2 : Nat) (l1_2 : List Int) (A1_3 : Option Addr) (c1_3 : Nat) (l1_3 : List (List Int)) (a2_0 : Int) (a2_1 : Int) (a2_2 : Int) (r : List Int) (w : World) (hr0_0 : Kd.C k95 w A0_0 l0_0.length l0_0) (hc0_0 : l0_0.length ≤ c0_0) (hr0_3 : Kd.C k24 w A0_3 l0_3.length l0_3) (hc0_3 : l0_3.length ≤ c0_3) (hr0_4 : Kd.C k72 w A0_4 l0_4.length l0_4) (hc0_4 : l0_4.length ≤ c0_4) (hr1_0 : Kd.C (Kd.int .i64) w A1_0 l1_0.length l1_0) (hc1_0 : l1_0.length ≤ c1_0) (hr1_2 : Kd.C (Kd.int .i64) w A1_2 l1_2.length l1_2) (hc1_2 : l1_2.length ≤ c1_2) (hr1_3 : Kd.C (Kd.slice 3 (Kd.int .i64)) w A1_3 l1_3.length l1_3) (hc1_3 : l1_3.length ≤ c1_3) (h : r7_used.f k l0_0 a0_1 a0_2 l0_3 l0_4 l1_0 a1_1 l1_2 l1_3 a2_0 a2_1 a2_2 = some r) :
  Calls Try.prog 115 #[.agg #[.slice A0_0 l0_0.length c0_0, .int .i64 a0_1, .int .i64 a0_2, .slice A0_3 l0_3.length c0_3, .slice A0_4 l0_4.length c0_4], .agg #[.slice A1_0 l1_0.length c1_0, .int .i64 a1_1, .slice A1_2 l1_2.length c1_2, .slice A1_3 l1_3.length c1_3], .agg #[.int .i64 a2_0, .int .i64 a2_1, .int .i64 a2_2]] w fun e w' => ∃ v0_ : Value, e = .returned (v0_) ∧ Kd.R (Kd.int .i64) 3 w' w.heap.size (fun _ => True) v0_ r ∧ Below w.heap.size w w' := by
 have hu28 := Try.underlying28
 have hu56 := Try.underlying56
 have hu72 := Try.underlying72
 have HR0_0 := Aside0.mk hr0_0
 have HC0_0 := Aside0.mk hc0_0
 clear hr0_0 hc0_0
 have HR0_3 := Aside0.mk hr0_3
 have HC0_3 := Aside0.mk hc0_3
 clear hr0_3 hc0_3
 have HR0_4 := Aside0.mk hr0_4
 have HC0_4 := Aside0.mk hc0_4
 clear hr0_4 hc0_4
 have HR1_0 := Aside0.mk hr1_0
 have HC1_0 := Aside0.mk hc1_0
 clear hr1_0 hc1_0
 have HR1_2 := Aside0.mk hr1_2
 have HC1_2 := Aside0.mk hc1_2
 clear hr1_2 hc1_2
 have HR1_3 := Aside0.mk hr1_3
 have HC1_3 := Aside0.mk hc1_3
 clear hr1_3 hc1_3
 have HB := Aside0.mk (Below.refl w.heap.size w)
 have H : (r7_used.l0 k ([] : List Int) 0 l0_0 a0_1 a0_2 l0_3 l0_4 l1_0 a1_1 l1_2 l1_3 a2_0 a2_1 a2_2) = some r := h
 clear h
 have H' := Aside0.mk H
 clear H
 go_enter Try.func115, Try.ntmps115
 go_wp2_with (first | ((with_reducible refine gate_dst (N := 3) rfl ?_); refine box_event ?hg (N := 3) ?hd (cs := #[.slice A0_0 l0_0.length c0_0, .int .i64 a0_1, .int .i64 a0_2, .slice A0_3 l0_3.length c0_3, .slice A0_4 l0_4.length c0_4]) (t := 28) ?hr ?_; (case hd => rfl); (case hg => rfl); (case hr => first | (go_simp; done) | (go_simp; rfl)); intro gb191 hg w4 hbox hb; have n0_ := Aside0.mk (below_step (by repeat (first | (with_reducible first | exact HB.out | apply below_alloc | apply pw_below_drewN | apply below_drew1) | exact HB.out)) hb); have n1_ := Aside0.mk (hbox); have n2_ := Aside0.mk ((by rw [hg]; exact (below_size (by repeat (first | (with_reducible first | exact HB.out | apply below_alloc | apply pw_below_drewN | apply below_drew1) | exact HB.out))) : w.heap.size ≤ gb191)); have n3_ := Aside0.mk ((by rw [hg]; exact (below_size (by repeat (first | (with_reducible first | exact HB.out | apply below_alloc | apply pw_below_drewN | apply below_drew1) | exact HB.out))) : w.heap.size ≤ gb191)); clear HB; have HB := n0_; have BK191 := n1_; have GW191 := n2_; have GE191 := n3_; clear n0_ n1_ n2_ n3_; clear hb hbox hg) | ((with_reducible refine gate_dst (N := 4) rfl ?_); refine box_event ?hg (N := 4) ?hd (cs := #[.slice A1_0 l1_0.length c1_0, .int .i64 a1_1, .slice A1_2 l1_2.length c1_2, .slice A1_3 l1_3.length c1_3]) (t := 56) ?hr ?_; (case hd => rfl); (case hg => rfl); (case hr => first | (go_simp; done) | (go_simp; rfl)); intro gb192 hg w5 hbox hb; have n0_ := Aside0.mk (blk_below (g := gb191) (o := .cells #[.slice A0_0 l0_0.length c0_0, .int .i64 a0_1, .int .i64 a0_2, .slice A0_3 l0_3.length c0_3, .slice A0_4 l0_4.length c0_4] 28 (0, 0)) (by (with_reducible repeat (first | refine blk_drewN ?_ _ | refine blk_drew ?_ | refine blk_alloc ?_ _)); exact BK191.out) hb); have n1_ := Aside0.mk (below_step (by repeat (first | (with_reducible first | exact HB.out | apply below_alloc | apply pw_below_drewN | apply below_drew1 | refine below_set ?_ GE191.out) | exact HB.out)) hb); have n2_ := Aside0.mk (hbox); have n3_ := Aside0.mk ((by rw [hg]; exact (below_size (by repeat (first | (with_reducible first | exact HB.out | apply below_alloc | apply pw_below_drewN | apply below_drew1 | refine below_set ?_ GE191.out) | exact HB.out))) : w.heap.size ≤ gb192)); have n4_ := Aside0.mk ((by rw [hg]; exact (below_size (by repeat (first | (with_reducible first | exact HB.out | apply below_alloc | apply pw_below_drewN | apply below_drew1 | refine below_set ?_ GE191.out) | exact HB.out))) : w.heap.size ≤ gb192)); have n5_ := Aside0.mk ((by rw [hg]; exact Nat.ne_of_lt (blk_lt (g := gb191) (o := .cells #[.slice A0_0 l0_0.length c0_0, .int .i64 a0_1, .int .i64 a0_2, .slice A0_3 l0_3.length c0_3, .slice A0_4 l0_4.length c0_4] 28 (0, 0)) (by (with_reducible repeat (first | refine blk_drewN ?_ _ | refine blk_drew ?_ | refine blk_alloc ?_ _)); exact BK191.out)) : gb191 ≠ gb192)); have n6_ := Aside0.mk ((by rw [hg]; exact Nat.ne_of_gt (blk_lt (g := gb191) (o := .cells #[.slice A0_0 l0_0.length c0_0, .int .i64 a0_1, .int .i64 a0_2, .slice A0_3 l0_3.length c0_3, .slice A0_4 l0_4.length c0_4] 28 (0, 0)) (by (with_reducible repeat (first | refine blk_drewN ?_ _ | refine blk_drew ?_ | refine blk_alloc ?_ _)); exact BK191.out)) : gb192 ≠ gb191)); clear BK191; clear HB; have BK191 := n0_; have HB := n1_; have BK192 := n2_; have GW192 := n3_; have GE192 := n4_; have NB191_192 := n5_; have NB192_191 := n6_; clear n0_ n1_ n2_ n3_ n4_ n5_ n6_; clear hb hbox hg) | ((with_reducible refine gate_dst (N := 5) rfl ?_); refine box_event ?hg (N := 5) ?hd (cs := #[.int .i64 a2_0, .int .i64 a2_1, .int .i64 a2_2]) (t := 72) ?hr ?_; (case hd => rfl); (case hg => rfl); (case hr => first | (go_simp; done) | (go_simp; rfl)); intro gb193 hg w6 hbox hb; have n0_ := Aside0.mk (blk_below (g := gb191) (o := .cells #[.slice A0_0 l0_0.length c0_0, .int .i64 a0_1, .int .i64 a0_2, .slice A0_3 l0_3.length c0_3, .slice A0_4 l0_4.length c0_4] 28 (0, 0)) (by (with_reducible repeat (first | refine blk_drewN ?_ _ | refine blk_drew ?_ | refine blk_alloc ?_ _)); exact BK191.out) hb); have n1_ := Aside0.mk (blk_below (g := gb192) (o := .cells #[.slice A1_0 l1_0.length c1_0, .int .i64 a1_1, .slice A1_2 l1_2.length c1_2, .slice A1_3 l1_3.length c1_3] 56 (0, 0)) (by (with_reducible repeat (first | refine blk_drewN ?_ _ | refine blk_drew ?_ | refine blk_alloc ?_ _)); exact BK192.out) hb); have n2_ := Aside0.mk (below_step (by repeat (first | (with_reducible first | exact HB.out | apply below_alloc | apply pw_below_drewN | apply below_drew1 | refine below_set ?_ GE191.out | refine below_set ?_ GE192.out) | exact HB.out)) hb); have n3_ := Aside0.mk (hbox); have n4_ := Aside0.mk ((by rw [hg]; exact (below_size (by repeat (first | (with_reducible first | exact HB.out | apply below_alloc | apply pw_below_drewN | apply below_drew1 | refine below_set ?_ GE191.out | refine below_set ?_ GE192.out) | exact HB.out))) : w.heap.size ≤ gb193)); have n5_ := Aside0.mk ((by rw [hg]; exact (below_size (by repeat (first | (with_reducible first | exact HB.out | apply below_alloc | apply pw_below_drewN | apply below_drew1 | refine below_set ?_ GE191.out | refine below_set ?_ GE192.out) | exact HB.out))) : w.heap.size ≤ gb193)); have n6_ := Aside0.mk ((by rw [hg]; exact Nat.ne_of_lt (blk_lt (g := gb191) (o := .cells #[.slice A0_0 l0_0.length c0_0, .int .i64 a0_1, .int .i64 a0_2, .slice A0_3 l0_3.length c0_3, .slice A0_4 l0_4.length c0_4] 28 (0, 0)) (by (with_reducible repeat (first | refine blk_drewN ?_ _ | refine blk_drew ?_ | refine blk_alloc ?_ _)); exact BK191.out)) : gb191 ≠ gb193)); have n7_ := Aside0.mk ((by rw [hg]; exact Nat.ne_of_gt (blk_lt (g := gb191) (o := .cells #[.slice A0_0 l0_0.length c0_0, .int .i64 a0_1, .int .i64 a0_2, .slice A0_3 l0_3.length c0_3, .slice A0_4 l0_4.length c0_4] 28 (0, 0)) (by (with_reducible repeat (first | refine blk_drewN ?_ _ | refine blk_drew ?_ | refine blk_alloc ?_ _)); exact BK191.out)) : gb193 ≠ gb191)); have n8_ := Aside0.mk ((by rw [hg]; exact Nat.ne_of_lt (blk_lt (g := gb192) (o := .cells #[.slice A1_0 l1_0.length c1_0, .int .i64 a1_1, .slice A1_2 l1_2.length c1_2, .slice A1_3 l1_3.length c1_3] 56 (0, 0)) (by (with_reducible repeat (first | refine blk_drewN ?_ _ | refine blk_drew ?_ | refine blk_alloc ?_ _)); exact BK192.out)) : gb192 ≠ gb193)); have n9_ := Aside0.mk ((by rw [hg]; exact Nat.ne_of_gt (blk_lt (g := gb192) (o := .cells #[.slice A1_0 l1_0.length c1_0, .int .i64 a1_1, .slice A1_2 l1_2.length c1_2, .slice A1_3 l1_3.length c1_3] 56 (0, 0)) (by (with_reducible repeat (first | refine blk_drewN ?_ _ | refine blk_drew ?_ | refine blk_alloc ?_ _)); exact BK192.out)) : gb193 ≠ gb192)); clear BK191; clear BK192; clear HB; have BK191 := n0_; have BK192 := n1_; have HB := n2_; have BK193 := n3_; have GW193 := n4_; have GE193 := n5_; have NB191_193 := n6_; have NB193_191 := n7_; have NB192_193 := n8_; have NB193_192 := n9_; clear n0_ n1_ n2_ n3_ n4_ n5_ n6_ n7_ n8_ n9_; clear hb hbox hg))
 go_loopg [7, 8] k (fun kq v7 v8 w' => ∃ (x7_1 : List Int) (x8_1 : Int), v8 = .int .i64 x8_1 ∧ Aside0 (r7_used.l0 kq x7_1 x8_1 l0_0 a0_1 a0_2 l0_3 l0_4 l1_0 a1_1 l1_2 l1_3 a2_0 a2_1 a2_2 = some r) ∧ Aside0 (kq ≤ k) ∧ Aside0 (Kd.R (Kd.int .i64) 3 w' w.heap.size (fun _ => True) v7 x7_1) ∧ Aside0 (w'.heap[gb191]? = some (.cells #[(.slice A0_0 l0_0.length c0_0), .int .i64 a0_1, .int .i64 a0_2, (.slice A0_3 l0_3.length c0_3), (.slice A0_4 l0_4.length c0_4)] 28 (0, 0))) ∧ Aside0 (w'.heap[gb192]? = some (.cells #[(.slice A1_0 l1_0.length c1_0), .int .i64 a1_1, (.slice A1_2 l1_2.length c1_2), (.slice A1_3 l1_3.length c1_3)] 56 (0, 0))) ∧ Aside0 (w'.heap[gb193]? = some (.cells #[.int .i64 a2_0, .int .i64 a2_1, .int .i64 a2_2] 72 (0, 0))) ∧ Aside0 (Below w.heap.size w w'))
 case atStart => exact ⟨(([] : List Int)), (0), (by first | rfl | (simp; done) | (simp [*]; done)), H', ⟨Nat.le_refl _⟩, ⟨by first | exact Kd.R_nil _ _ _ _ _ | exact Kd.N_nil _ _ _ _ _ | exact Kd.V_nil _ _ _ _ _ | exact Kd.Q_nil _ _ _ _ _ | exact Kd.S_nil _ _ _ _ _⟩, ⟨by (with_reducible repeat (first | refine blk_drewN ?_ _ | refine blk_drew ?_ | refine blk_alloc ?_ _)); exact BK191.out⟩, ⟨by (with_reducible repeat (first | refine blk_drewN ?_ _ | refine blk_drew ?_ | refine blk_alloc ?_ _)); exact BK192.out⟩, ⟨by (with_reducible repeat (first | refine blk_drewN ?_ _ | refine blk_drew ?_ | refine blk_alloc ?_ _)); exact BK193.out⟩, ⟨by repeat (first | (with_reducible first | exact HB.out | apply below_alloc | apply pw_below_drewN | apply below_drew1 | refine below_set ?_ GE191.out | refine below_set ?_ GE192.out | refine below_set ?_ GE193.out) | exact HB.out)⟩⟩
 case round =>
  clear H'
  try clear c1
  try clear p2
  obtain ⟨x7_1, x8_1, rfl, HA, HK1, HO_7, BK191, BK192, BK193, HB⟩ := hrel
  cases gk with
  | zero => exact absurd HA.out (by simp [r7_used.l0])
  | succ k1 =>
   have H := HA.out
   clear HA
   simp only [r7_used.l0] at H
   by_cases c7 : x8_1 < (l0_0.length : Int)
   ·
    rw [if_pos c7] at H
    have c7b0 : decide (x8_1 < (l0_0.length : Int)) = true := decide_eq_true c7
    clear c7
    by_cases c8 : a2_0 = (-1)
    ·
     rw [if_pos c8] at H
     have c8b0 : (a2_0 == (-1)) = true := beq_iff_eq.mpr c8
     have c8b1 : (a2_0 != (-1)) = false := bne_eq_false_iff_eq.mpr c8
     clear c8
     replace H := Option.bind_eq_some_iff.mp H
     obtain ⟨t194, A90, H⟩ := H
     replace H : (if t194 = a2_2 then (if x7_1.length < 17592186044416 then (r7_used.l0 k1 (x7_1 ++ [x8_1]) (wrap64 (x8_1 + 1)) l0_0 a0_1 a0_2 l0_3 l0_4 l1_0 a1_1 l1_2 l1_3 a2_0 a2_1 a2_2) else (none)) else (r7_used.l0 k1 x7_1 (wrap64 (x8_1 + 1)) l0_0 a0_1 a0_2 l0_3 l0_4 l1_0 a1_1 l1_2 l1_3 a2_0 a2_1 a2_2)) = some r := H
     have A9 := Aside0.mk A90
     clear A90
     by_cases c10 : t194 = a2_2
     ·
      rw [if_pos c10] at H
      have c10b0 : (t194 == a2_2) = true := beq_iff_eq.mpr c10
      have c10b1 : (t194 != a2_2) = false := bne_eq_false_iff_eq.mpr c10
      clear c10
      by_cases c11 : x7_1.length < 17592186044416
      ·
       rw [if_pos c11] at H
       have LMc11 := Aside0.mk c11
       clear c11
       obtain ⟨y195, hy195⟩ : ∃ y_ : List Int, y_ = (x7_1 ++ [x8_1]) := ⟨_, rfl⟩
       replace H : (r7_used.l0 k1 y195 (wrap64 (x8_1 + 1)) l0_0 a0_1 a0_2 l0_3 l0_4 l1_0 a1_1 l1_2 l1_3 a2_0 a2_1 a2_2) = some r := by first | (rw [hy195]; with_reducible exact H) | (have H2_ := (Option.bind_some _ _).symm.trans H; rw [hy195]; with_reducible exact H2_) | (have H2_ := (Option.bind_some _ _).symm.trans H; with_reducible exact H2_) | with_reducible exact H | (rw [hy195]; exact H) | exact H
       have Ny195 := Aside0.mk hy195
       clear hy195
       have H' := Aside0.mk H
       clear H
       have hnb12 := NB191_192.out
       have hnc12 := NB192_191.out
       have hnb13 := NB191_193.out
       have hnc13 := NB193_191.out
       have hcz14_0 := (blk_cell BK191.out 0).trans rfl
       have hcz14_1 := (blk_cell BK191.out 1).trans rfl
       have hcz14_2 := (blk_cell BK191.out 2).trans rfl
       have hcz14_3 := (blk_cell BK191.out 3).trans rfl
       have hcz14_4 := (blk_cell BK191.out 4).trans rfl
       have hfz14_0 := blk_frozen BK191.out 0
       have hfz14_1 := blk_frozen BK191.out 1
       have hfz14_2 := blk_frozen BK191.out 2
       have hfz14_3 := blk_frozen BK191.out 3
       have hfz14_4 := blk_frozen BK191.out 4
       try go_wp2
       have n0_ := Aside0.mk (Kd.R_drew HO_7.out)
       have n1_ := Aside0.mk (blk_drew BK191.out)
       have n2_ := Aside0.mk (blk_drew BK192.out)
       have n3_ := Aside0.mk (blk_drew BK193.out)
       have n4_ := Aside0.mk (below_drew1 HB.out)
       clear HO_7 BK191 BK192 BK193 HB
       have HO_7 := n0_
       have BK191 := n1_
       have BK192 := n2_
       have BK193 := n3_
       have HB := n4_
       clear n0_ n1_ n2_ n3_ n4_
       refine start_ (n := 19) (S := fun w' => w'.cell? ⟨gb193, 0, none⟩ = some (.int .i64 a2_0) ∧ w'.cell? ⟨gb193, 1, none⟩ = some (.int .i64 a2_1) ∧ w'.cell? ⟨gb193, 2, none⟩ = some (.int .i64 a2_2) ∧ w'.cell? ⟨gb192, 0, none⟩ = some (.slice A1_0 l1_0.length c1_0) ∧ w'.cell? ⟨gb192, 1, none⟩ = some (.int .i64 a1_1) ∧ w'.cell? ⟨gb192, 2, none⟩ = some (.slice A1_2 l1_2.length c1_2) ∧ w'.cell? ⟨gb192, 3, none⟩ = some (.slice A1_3 l1_3.length c1_3)) (ds := []) #[false, false, false, false, false, false, false, false, false, false, false, false, false, false, false, false, false, false, false] (by kernel_rfl) rfl rfl ⟨(blk_cell BK193.out 0).trans rfl, (blk_cell BK193.out 1).trans rfl, (blk_cell BK193.out 2).trans rfl, (blk_cell BK192.out 0).trans rfl, (blk_cell BK192.out 1).trans rfl, (blk_cell BK192.out 2).trans rfl, (blk_cell BK192.out 3).trans rfl⟩ (fun hHeld => ?_); refine with_tabW r7_used.tab5 r7_used.bits5 (fun HT_ HW_ => ?_)
       generalize wr.drew = w15 at HO_7 BK191 BK192 BK193 HB hHeld ⊢
       refine pureQ 0 16 HT_.out ?_
       refine takeQ 1 17 HT_.out HW_.out hHeld ?_
       refine pureQ 2 18 HT_.out ?_
       refine pureQ 3 19 HT_.out ?_
       refine pureQ0 4 20 HT_.out ?_
       refine pureQ0 5 21 HT_.out ?_
       refine pureQ0 6 22 HT_.out ?_
       refine pureQ0 7 23 HT_.out ?_
       refine pureQ 8 24 HT_.out ?_
       refine pureQ 9 25 HT_.out ?_
       refine pureQ 11 27 HT_.out ?_
       refine pureQ 12 28 HT_.out ?_
       refine pureQ 15 31 HT_.out ?_
       refine takeQ 10 26 HT_.out HW_.out hHeld ?_
       refine takeQ 13 29 HT_.out HW_.out hHeld ?_
       refine takeQ 16 32 HT_.out HW_.out hHeld ?_
       refine one_ (i := 14) (N := some 30) #[true, true, true, true, true, true, true, true, true, true, true, true, true, true, true, true, true, false, false] rfl rfl (one_of HT_.out (by kernel_rfl)) (by decide) (fun K hK => ?_)
       refine goes_ Try.func113 (by kernel_rfl) rfl #[.agg #[.slice A1_0 l1_0.length c1_0, .int .i64 a1_1, .slice A1_2 l1_2.length c1_2, .slice A1_3 l1_3.length c1_3], .int .i64 x8_1, .int .i64 a2_1] (by rfl) rfl rfl (by (try simp only [List.map_toArray, List.map_cons, List.map_nil]); first | done | rfl | (simp only [List.length_drop, List.length_take]; rfl)) ?_
       with_reducible refine (r7_Bits.calls k1 _ _ l1_0 a1_1 _ _ l1_2 _ _ l1_3 x8_1 a2_1 t194 _ ?side1 ?side2 ?side3 ?side4 ?side5 ?side6 A9.out).mono ?_
       (case side1 => repeat (first | exact (Kd.C_below HR1_0.out HB.out) | (with_reducible refine Kd.C_alloc ?_ _) | (with_reducible refine Kd.C_drewN ?_ _) | (with_reducible refine Kd.C_drew ?_)))
       (case side2 => exact HC1_0.out)
       (case side3 => repeat (first | exact (Kd.C_below HR1_2.out HB.out) | (with_reducible refine Kd.C_alloc ?_ _) | (with_reducible refine Kd.C_drewN ?_ _) | (with_reducible refine Kd.C_drew ?_)))
       (case side4 => exact HC1_2.out)
       (case side5 => repeat (first | exact (Kd.C_below HR1_3.out HB.out) | (with_reducible refine Kd.C_alloc ?_ _) | (with_reducible refine Kd.C_drewN ?_ _) | (with_reducible refine Kd.C_drew ?_)))
       (case side6 => exact HC1_3.out)
       rintro e w16 ⟨rfl, hb⟩
       refine ⟨_, rfl, ?_⟩
       have n0_ := Aside0.mk (Kd.R_below (by (with_reducible repeat (first | apply Kd.R_alloc | apply Kd.R_drewN | apply Kd.R_drew)); exact HO_7.out) hb)
       have n1_ := Aside0.mk (blk_below (g := gb191) (o := .cells #[.slice A0_0 l0_0.length c0_0, .int .i64 a0_1, .int .i64 a0_2, .slice A0_3 l0_3.length c0_3, .slice A0_4 l0_4.length c0_4] 28 (0, 0)) (by (with_reducible repeat (first | refine blk_drewN ?_ _ | refine blk_drew ?_ | refine blk_alloc ?_ _)); exact BK191.out) hb)
       have n2_ := Aside0.mk (blk_below (g := gb192) (o := .cells #[.slice A1_0 l1_0.length c1_0, .int .i64 a1_1, .slice A1_2 l1_2.length c1_2, .slice A1_3 l1_3.length c1_3] 56 (0, 0)) (by (with_reducible repeat (first | refine blk_drewN ?_ _ | refine blk_drew ?_ | refine blk_alloc ?_ _)); exact BK192.out) hb)
       have n3_ := Aside0.mk (blk_below (g := gb193) (o := .cells #[.int .i64 a2_0, .int .i64 a2_1, .int .i64 a2_2] 72 (0, 0)) (by (with_reducible repeat (first | refine blk_drewN ?_ _ | refine blk_drew ?_ | refine blk_alloc ?_ _)); exact BK193.out) hb)
       have n4_ := Aside0.mk (below_step (by repeat (first | (with_reducible first | exact HB.out | apply below_alloc | apply pw_below_drewN | apply below_drew1 | refine below_set ?_ GE191.out | refine below_set ?_ GE192.out | refine below_set ?_ GE193.out) | exact HB.out)) hb)
       clear HO_7 BK191 BK192 BK193 HB
       have HO_7 := n0_
       have BK191 := n1_
       have BK192 := n2_
       have BK193 := n3_
       have HB := n4_
       clear n0_ n1_ n2_ n3_ n4_
       (try clear hb)
       (try clear hb2)
       (try clear hk)
       (try clear hi)
       refine hK.out _ _ ⟨(blk_cell BK193.out 0).trans rfl, (blk_cell BK193.out 1).trans rfl, (blk_cell BK193.out 2).trans rfl, (blk_cell BK192.out 0).trans rfl, (blk_cell BK192.out 1).trans rfl, (blk_cell BK192.out 2).trans rfl, (blk_cell BK192.out 3).trans rfl⟩ (fun hHeld => ?_)
       clear hK K
       refine norm_ (a' := ?_) ?_ ?_
       rotate_left
       ·
        show Act.put _ (some 30) _ = _
        simp only [Act.put, List.setIfInBounds_toArray, List.set_cons_zero, List.set_cons_succ, i64_w, i32_w]
        rfl
       refine pureQ 17 33 HT_.out ?_
       refine pureQ 18 34 HT_.out ?_
       refine done_ (done_of HT_.out (by kernel_rfl)) ?_
       try go_wp2_with (first | ((with_reducible refine gate_builtin (b := .append) (xs := #[.tmp 35, .tmp 37]) rfl ?_); at_builtin; refine Kd.R_append (Kd.int .i64) (w0 := w) w.heap.size rfl (.tmp 35) (.tmp 37) 39 3 (.int .i64 0) 8 rfl Try.underlying39 info3 rfl (by decide) (by omega) u7 x7_1 x8_1 [.int .i64 x8_1] (fun _ => True) (fun _ => False) rfl rfl ?aP (fun _ hk => hk.elim) ?aF ?aO ?aB ?aS ?aL ?_; (case aP => exact rfl); (case aB => exact (by repeat (first | (with_reducible first | exact HB.out | apply below_alloc | apply pw_below_drewN | apply below_drew1 | refine below_set ?_ GE191.out | refine below_set ?_ GE192.out | refine below_set ?_ GE193.out) | exact HB.out))); (case aF => exact (fun _ _ => trivial)); (case aO => exact (by (with_reducible repeat (first | apply Kd.R_alloc | apply Kd.R_drewN | apply Kd.R_drew)); exact HO_7.out)); (case aS => exact (below_size (by repeat (first | (with_reducible first | exact HB.out | apply below_alloc | apply pw_below_drewN | apply below_drew1 | refine below_set ?_ GE191.out | refine below_set ?_ GE192.out | refine below_set ?_ GE193.out) | exact HB.out)))); (case aL => have := LMc11.out; omega); intro v196 w17 ho hb hg hat; rw [← Ny195.out] at ho; have n0_ := Aside0.mk (blk_grown (g := gb191) (o := .cells #[.slice A0_0 l0_0.length c0_0, .int .i64 a0_1, .int .i64 a0_2, .slice A0_3 l0_3.length c0_3, .slice A0_4 l0_4.length c0_4] 28 (0, 0)) (by (with_reducible repeat (first | refine blk_drewN ?_ _ | refine blk_drew ?_ | refine blk_alloc ?_ _)); exact BK191.out) hg (Kd.R_ne HO_7.out BK191.out (by decide))); have n1_ := Aside0.mk (blk_grown (g := gb192) (o := .cells #[.slice A1_0 l1_0.length c1_0, .int .i64 a1_1, .slice A1_2 l1_2.length c1_2, .slice A1_3 l1_3.length c1_3] 56 (0, 0)) (by (with_reducible repeat (first | refine blk_drewN ?_ _ | refine blk_drew ?_ | refine blk_alloc ?_ _)); exact BK192.out) hg (Kd.R_ne HO_7.out BK192.out (by decide))); have n2_ := Aside0.mk (blk_grown (g := gb193) (o := .cells #[.int .i64 a2_0, .int .i64 a2_1, .int .i64 a2_2] 72 (0, 0)) (by (with_reducible repeat (first | refine blk_drewN ?_ _ | refine blk_drew ?_ | refine blk_alloc ?_ _)); exact BK193.out) hg (Kd.R_ne HO_7.out BK193.out (by decide))); have n3_ := Aside0.mk (hb); have n4_ := Aside0.mk (ho); clear BK191; clear BK192; clear BK193; clear HB; clear HO_7; have BK191 := n0_; have BK192 := n1_; have BK193 := n2_; have HB := n3_; have HO197 := n4_; clear n0_ n1_ n2_ n3_ n4_; clear ho hb hg hat))
       go_roundg k1
       case measure => have := HK1.out; omega
       case rel => exact ⟨(y195), (wrap64 (x8_1 + 1)), (by first | rfl | (simp; done) | (simp [*]; done)), H', ⟨by have := HK1.out; omega⟩, ⟨by (with_reducible repeat (first | apply Kd.R_alloc | apply Kd.R_drewN | apply Kd.R_drew)); exact HO197.out⟩, ⟨by (with_reducible repeat (first | refine blk_drewN ?_ _ | refine blk_drew ?_ | refine blk_alloc ?_ _)); exact BK191.out⟩, ⟨by (with_reducible repeat (first | refine blk_drewN ?_ _ | refine blk_drew ?_ | refine blk_alloc ?_ _)); exact BK192.out⟩, ⟨by (with_reducible repeat (first | refine blk_drewN ?_ _ | refine blk_drew ?_ | refine blk_alloc ?_ _)); exact BK193.out⟩, ⟨by repeat (first | (with_reducible first | exact HB.out | apply below_alloc | apply pw_below_drewN | apply below_drew1 | refine below_set ?_ GE191.out | refine below_set ?_ GE192.out | refine below_set ?_ GE193.out) | exact HB.out)⟩⟩
      ·
       rw [if_neg c11] at H
       exact absurd H (by simp)
     ·
      rw [if_neg c10] at H
      have c10b0 : (t194 == a2_2) = false := beq_eq_false_iff_ne.mpr c10
      have c10b1 : (t194 != a2_2) = true := bne_iff_ne.mpr c10
      have H' := Aside0.mk H
      clear H
      have hnb18 := NB191_192.out
      have hnc18 := NB192_191.out
      have hnb19 := NB191_193.out
      have hnc19 := NB193_191.out
      have hcz20_0 := (blk_cell BK191.out 0).trans rfl
      have hcz20_1 := (blk_cell BK191.out 1).trans rfl
      have hcz20_2 := (blk_cell BK191.out 2).trans rfl
      have hcz20_3 := (blk_cell BK191.out 3).trans rfl
      have hcz20_4 := (blk_cell BK191.out 4).trans rfl
      have hfz20_0 := blk_frozen BK191.out 0
      have hfz20_1 := blk_frozen BK191.out 1
      have hfz20_2 := blk_frozen BK191.out 2
      have hfz20_3 := blk_frozen BK191.out 3
      have hfz20_4 := blk_frozen BK191.out 4
      try go_wp2
      have n0_ := Aside0.mk (Kd.R_drew HO_7.out)
      have n1_ := Aside0.mk (blk_drew BK191.out)
      have n2_ := Aside0.mk (blk_drew BK192.out)
      have n3_ := Aside0.mk (blk_drew BK193.out)
      have n4_ := Aside0.mk (below_drew1 HB.out)
      clear HO_7 BK191 BK192 BK193 HB
      have HO_7 := n0_
      have BK191 := n1_
      have BK192 := n2_
      have BK193 := n3_
      have HB := n4_
      clear n0_ n1_ n2_ n3_ n4_
      refine start_ (n := 19) (S := fun w' => w'.cell? ⟨gb193, 0, none⟩ = some (.int .i64 a2_0) ∧ w'.cell? ⟨gb193, 1, none⟩ = some (.int .i64 a2_1) ∧ w'.cell? ⟨gb193, 2, none⟩ = some (.int .i64 a2_2) ∧ w'.cell? ⟨gb192, 0, none⟩ = some (.slice A1_0 l1_0.length c1_0) ∧ w'.cell? ⟨gb192, 1, none⟩ = some (.int .i64 a1_1) ∧ w'.cell? ⟨gb192, 2, none⟩ = some (.slice A1_2 l1_2.length c1_2) ∧ w'.cell? ⟨gb192, 3, none⟩ = some (.slice A1_3 l1_3.length c1_3)) (ds := []) #[false, false, false, false, false, false, false, false, false, false, false, false, false, false, false, false, false, false, false] (by kernel_rfl) rfl rfl ⟨(blk_cell BK193.out 0).trans rfl, (blk_cell BK193.out 1).trans rfl, (blk_cell BK193.out 2).trans rfl, (blk_cell BK192.out 0).trans rfl, (blk_cell BK192.out 1).trans rfl, (blk_cell BK192.out 2).trans rfl, (blk_cell BK192.out 3).trans rfl⟩ (fun hHeld => ?_); refine with_tabW r7_used.tab5 r7_used.bits5 (fun HT_ HW_ => ?_)
      generalize wr.drew = w21 at HO_7 BK191 BK192 BK193 HB hHeld ⊢
      refine pureQ 0 16 HT_.out ?_
      refine takeQ 1 17 HT_.out HW_.out hHeld ?_
      refine pureQ 2 18 HT_.out ?_
      refine pureQ 3 19 HT_.out ?_
      refine pureQ0 4 20 HT_.out ?_
      refine pureQ0 5 21 HT_.out ?_
      refine pureQ0 6 22 HT_.out ?_
      refine pureQ0 7 23 HT_.out ?_
      refine pureQ 8 24 HT_.out ?_
      refine pureQ 9 25 HT_.out ?_
      refine pureQ 11 27 HT_.out ?_
      refine pureQ 12 28 HT_.out ?_
      refine pureQ 15 31 HT_.out ?_
      refine takeQ 10 26 HT_.out HW_.out hHeld ?_
      refine takeQ 13 29 HT_.out HW_.out hHeld ?_
      refine takeQ 16 32 HT_.out HW_.out hHeld ?_
      refine one_ (i := 14) (N := some 30) #[true, true, true, true, true, true, true, true, true, true, true, true, true, true, true, true, true, false, false] rfl rfl (one_of HT_.out (by kernel_rfl)) (by decide) (fun K hK => ?_)
      refine goes_ Try.func113 (by kernel_rfl) rfl #[.agg #[.slice A1_0 l1_0.length c1_0, .int .i64 a1_1, .slice A1_2 l1_2.length c1_2, .slice A1_3 l1_3.length c1_3], .int .i64 x8_1, .int .i64 a2_1] (by rfl) rfl rfl (by (try simp only [List.map_toArray, List.map_cons, List.map_nil]); first | done | rfl | (simp only [List.length_drop, List.length_take]; rfl)) ?_
      with_reducible refine (r7_Bits.calls k1 _ _ l1_0 a1_1 _ _ l1_2 _ _ l1_3 x8_1 a2_1 t194 _ ?side1 ?side2 ?side3 ?side4 ?side5 ?side6 A9.out).mono ?_
      (case side1 => repeat (first | exact (Kd.C_below HR1_0.out HB.out) | (with_reducible refine Kd.C_alloc ?_ _) | (with_reducible refine Kd.C_drewN ?_ _) | (with_reducible refine Kd.C_drew ?_)))
      (case side2 => exact HC1_0.out)
      (case side3 => repeat (first | exact (Kd.C_below HR1_2.out HB.out) | (with_reducible refine Kd.C_alloc ?_ _) | (with_reducible refine Kd.C_drewN ?_ _) | (with_reducible refine Kd.C_drew ?_)))
      (case side4 => exact HC1_2.out)
      (case side5 => repeat (first | exact (Kd.C_below HR1_3.out HB.out) | (with_reducible refine Kd.C_alloc ?_ _) | (with_reducible refine Kd.C_drewN ?_ _) | (with_reducible refine Kd.C_drew ?_)))
      (case side6 => exact HC1_3.out)
      rintro e w22 ⟨rfl, hb⟩
      refine ⟨_, rfl, ?_⟩
      have n0_ := Aside0.mk (Kd.R_below (by (with_reducible repeat (first | apply Kd.R_alloc | apply Kd.R_drewN | apply Kd.R_drew)); exact HO_7.out) hb)
      have n1_ := Aside0.mk (blk_below (g := gb191) (o := .cells #[.slice A0_0 l0_0.length c0_0, .int .i64 a0_1, .int .i64 a0_2, .slice A0_3 l0_3.length c0_3, .slice A0_4 l0_4.length c0_4] 28 (0, 0)) (by (with_reducible repeat (first | refine blk_drewN ?_ _ | refine blk_drew ?_ | refine blk_alloc ?_ _)); exact BK191.out) hb)
      have n2_ := Aside0.mk (blk_below (g := gb192) (o := .cells #[.slice A1_0 l1_0.length c1_0, .int .i64 a1_1, .slice A1_2 l1_2.length c1_2, .slice A1_3 l1_3.length c1_3] 56 (0, 0)) (by (with_reducible repeat (first | refine blk_drewN ?_ _ | refine blk_drew ?_ | refine blk_alloc ?_ _)); exact BK192.out) hb)
      have n3_ := Aside0.mk (blk_below (g := gb193) (o := .cells #[.int .i64 a2_0, .int .i64 a2_1, .int .i64 a2_2] 72 (0, 0)) (by (with_reducible repeat (first | refine blk_drewN ?_ _ | refine blk_drew ?_ | refine blk_alloc ?_ _)); exact BK193.out) hb)
      have n4_ := Aside0.mk (below_step (by repeat (first | (with_reducible first | exact HB.out | apply below_alloc | apply pw_below_drewN | apply below_drew1 | refine below_set ?_ GE191.out | refine below_set ?_ GE192.out | refine below_set ?_ GE193.out) | exact HB.out)) hb)
      clear HO_7 BK191 BK192 BK193 HB
      have HO_7 := n0_
      have BK191 := n1_
      have BK192 := n2_
      have BK193 := n3_
      have HB := n4_
      clear n0_ n1_ n2_ n3_ n4_
      (try clear hb)
      (try clear hb2)
      (try clear hk)
      (try clear hi)
      refine hK.out _ _ ⟨(blk_cell BK193.out 0).trans rfl, (blk_cell BK193.out 1).trans rfl, (blk_cell BK193.out 2).trans rfl, (blk_cell BK192.out 0).trans rfl, (blk_cell BK192.out 1).trans rfl, (blk_cell BK192.out 2).trans rfl, (blk_cell BK192.out 3).trans rfl⟩ (fun hHeld => ?_)
      clear hK K
      refine norm_ (a' := ?_) ?_ ?_
      rotate_left
      ·
       show Act.put _ (some 30) _ = _
       simp only [Act.put, List.setIfInBounds_toArray, List.set_cons_zero, List.set_cons_succ, i64_w, i32_w]
       rfl
      refine pureQ 17 33 HT_.out ?_
      refine pureQ 18 34 HT_.out ?_
      refine done_ (done_of HT_.out (by kernel_rfl)) ?_
      try go_wp2
      go_roundg k1
      case measure => have := HK1.out; omega
      case rel => exact ⟨(x7_1), (wrap64 (x8_1 + 1)), (by first | rfl | (simp; done) | (simp [*]; done)), H', ⟨by have := HK1.out; omega⟩, ⟨by (with_reducible repeat (first | apply Kd.R_alloc | apply Kd.R_drewN | apply Kd.R_drew)); exact HO_7.out⟩, ⟨by (with_reducible repeat (first | refine blk_drewN ?_ _ | refine blk_drew ?_ | refine blk_alloc ?_ _)); exact BK191.out⟩, ⟨by (with_reducible repeat (first | refine blk_drewN ?_ _ | refine blk_drew ?_ | refine blk_alloc ?_ _)); exact BK192.out⟩, ⟨by (with_reducible repeat (first | refine blk_drewN ?_ _ | refine blk_drew ?_ | refine blk_alloc ?_ _)); exact BK193.out⟩, ⟨by repeat (first | (with_reducible first | exact HB.out | apply below_alloc | apply pw_below_drewN | apply below_drew1 | refine below_set ?_ GE191.out | refine below_set ?_ GE192.out | refine below_set ?_ GE193.out) | exact HB.out)⟩⟩
    ·
     rw [if_neg c8] at H
     have c8b0 : (a2_0 == (-1)) = false := beq_eq_false_iff_ne.mpr c8
     have c8b1 : (a2_0 != (-1)) = true := bne_iff_ne.mpr c8
     by_cases c23 : a2_0 = x8_1
     ·
      rw [if_pos c23] at H
      have c23b0 : (a2_0 == x8_1) = true := beq_iff_eq.mpr c23
      have c23b1 : (a2_0 != x8_1) = false := bne_eq_false_iff_eq.mpr c23
      clear c23
      replace H := Option.bind_eq_some_iff.mp H
      obtain ⟨t198, A240, H⟩ := H
      replace H : (if t198 = a2_2 then (if x7_1.length < 17592186044416 then (r7_used.l0 k1 (x7_1 ++ [x8_1]) (wrap64 (x8_1 + 1)) l0_0 a0_1 a0_2 l0_3 l0_4 l1_0 a1_1 l1_2 l1_3 a2_0 a2_1 a2_2) else (none)) else (r7_used.l0 k1 x7_1 (wrap64 (x8_1 + 1)) l0_0 a0_1 a0_2 l0_3 l0_4 l1_0 a1_1 l1_2 l1_3 a2_0 a2_1 a2_2)) = some r := H
      have A24 := Aside0.mk A240
      clear A240
      by_cases c25 : t198 = a2_2
      ·
       rw [if_pos c25] at H
       have c25b0 : (t198 == a2_2) = true := beq_iff_eq.mpr c25
       have c25b1 : (t198 != a2_2) = false := bne_eq_false_iff_eq.mpr c25
       clear c25
       by_cases c26 : x7_1.length < 17592186044416
       ·
        rw [if_pos c26] at H
        have LMc26 := Aside0.mk c26
        clear c26
        obtain ⟨y199, hy199⟩ : ∃ y_ : List Int, y_ = (x7_1 ++ [x8_1]) := ⟨_, rfl⟩
        replace H : (r7_used.l0 k1 y199 (wrap64 (x8_1 + 1)) l0_0 a0_1 a0_2 l0_3 l0_4 l1_0 a1_1 l1_2 l1_3 a2_0 a2_1 a2_2) = some r := by first | (rw [hy199]; with_reducible exact H) | (have H2_ := (Option.bind_some _ _).symm.trans H; rw [hy199]; with_reducible exact H2_) | (have H2_ := (Option.bind_some _ _).symm.trans H; with_reducible exact H2_) | with_reducible exact H | (rw [hy199]; exact H) | exact H
        have Ny199 := Aside0.mk hy199
        clear hy199
        have H' := Aside0.mk H
        clear H
        have hnb27 := NB191_192.out
        have hnc27 := NB192_191.out
        have hnb28 := NB191_193.out
        have hnc28 := NB193_191.out
        have hcz29_0 := (blk_cell BK191.out 0).trans rfl
        have hcz29_1 := (blk_cell BK191.out 1).trans rfl
        have hcz29_2 := (blk_cell BK191.out 2).trans rfl
        have hcz29_3 := (blk_cell BK191.out 3).trans rfl
        have hcz29_4 := (blk_cell BK191.out 4).trans rfl
        have hfz29_0 := blk_frozen BK191.out 0
        have hfz29_1 := blk_frozen BK191.out 1
        have hfz29_2 := blk_frozen BK191.out 2
        have hfz29_3 := blk_frozen BK191.out 3
        have hfz29_4 := blk_frozen BK191.out 4
        try go_wp2
        have n0_ := Aside0.mk (Kd.R_drew HO_7.out)
        have n1_ := Aside0.mk (blk_drew BK191.out)
        have n2_ := Aside0.mk (blk_drew BK192.out)
        have n3_ := Aside0.mk (blk_drew BK193.out)
        have n4_ := Aside0.mk (below_drew1 HB.out)
        clear HO_7 BK191 BK192 BK193 HB
        have HO_7 := n0_
        have BK191 := n1_
        have BK192 := n2_
        have BK193 := n3_
        have HB := n4_
        clear n0_ n1_ n2_ n3_ n4_
        refine start_ (n := 19) (S := fun w' => w'.cell? ⟨gb193, 0, none⟩ = some (.int .i64 a2_0) ∧ w'.cell? ⟨gb193, 1, none⟩ = some (.int .i64 a2_1) ∧ w'.cell? ⟨gb193, 2, none⟩ = some (.int .i64 a2_2) ∧ w'.cell? ⟨gb192, 0, none⟩ = some (.slice A1_0 l1_0.length c1_0) ∧ w'.cell? ⟨gb192, 1, none⟩ = some (.int .i64 a1_1) ∧ w'.cell? ⟨gb192, 2, none⟩ = some (.slice A1_2 l1_2.length c1_2) ∧ w'.cell? ⟨gb192, 3, none⟩ = some (.slice A1_3 l1_3.length c1_3)) (ds := []) #[false, false, false, false, false, false, false, false, false, false, false, false, false, false, false, false, false, false, false] (by kernel_rfl) rfl rfl ⟨(blk_cell BK193.out 0).trans rfl, (blk_cell BK193.out 1).trans rfl, (blk_cell BK193.out 2).trans rfl, (blk_cell BK192.out 0).trans rfl, (blk_cell BK192.out 1).trans rfl, (blk_cell BK192.out 2).trans rfl, (blk_cell BK192.out 3).trans rfl⟩ (fun hHeld => ?_); refine with_tabW r7_used.tab5 r7_used.bits5 (fun HT_ HW_ => ?_)
        generalize wr.drew = w30 at HO_7 BK191 BK192 BK193 HB hHeld ⊢
        refine pureQ 0 16 HT_.out ?_
        refine takeQ 1 17 HT_.out HW_.out hHeld ?_
        refine pureQ 2 18 HT_.out ?_
        refine pureQ 3 19 HT_.out ?_
        refine pureQ 4 20 HT_.out ?_
        refine pureQ 6 22 HT_.out ?_
        refine takeQ 5 21 HT_.out HW_.out hHeld ?_
        refine pureQ 7 23 HT_.out ?_
        refine pureQ 8 24 HT_.out ?_
        refine pureQ 9 25 HT_.out ?_
        refine pureQ 11 27 HT_.out ?_
        refine pureQ 12 28 HT_.out ?_
        refine pureQ 15 31 HT_.out ?_
        refine takeQ 10 26 HT_.out HW_.out hHeld ?_
        refine takeQ 13 29 HT_.out HW_.out hHeld ?_
        refine takeQ 16 32 HT_.out HW_.out hHeld ?_
        refine one_ (i := 14) (N := some 30) #[true, true, true, true, true, true, true, true, true, true, true, true, true, true, true, true, true, false, false] rfl rfl (one_of HT_.out (by kernel_rfl)) (by decide) (fun K hK => ?_)
        refine goes_ Try.func113 (by kernel_rfl) rfl #[.agg #[.slice A1_0 l1_0.length c1_0, .int .i64 a1_1, .slice A1_2 l1_2.length c1_2, .slice A1_3 l1_3.length c1_3], .int .i64 x8_1, .int .i64 a2_1] (by rfl) rfl rfl (by (try simp only [List.map_toArray, List.map_cons, List.map_nil]); first | done | rfl | (simp only [List.length_drop, List.length_take]; rfl)) ?_
        with_reducible refine (r7_Bits.calls k1 _ _ l1_0 a1_1 _ _ l1_2 _ _ l1_3 x8_1 a2_1 t198 _ ?side1 ?side2 ?side3 ?side4 ?side5 ?side6 A24.out).mono ?_
        (case side1 => repeat (first | exact (Kd.C_below HR1_0.out HB.out) | (with_reducible refine Kd.C_alloc ?_ _) | (with_reducible refine Kd.C_drewN ?_ _) | (with_reducible refine Kd.C_drew ?_)))
        (case side2 => exact HC1_0.out)
        (case side3 => repeat (first | exact (Kd.C_below HR1_2.out HB.out) | (with_reducible refine Kd.C_alloc ?_ _) | (with_reducible refine Kd.C_drewN ?_ _) | (with_reducible refine Kd.C_drew ?_)))
        (case side4 => exact HC1_2.out)
        (case side5 => repeat (first | exact (Kd.C_below HR1_3.out HB.out) | (with_reducible refine Kd.C_alloc ?_ _) | (with_reducible refine Kd.C_drewN ?_ _) | (with_reducible refine Kd.C_drew ?_)))
        (case side6 => exact HC1_3.out)
        rintro e w31 ⟨rfl, hb⟩
        refine ⟨_, rfl, ?_⟩
        have n0_ := Aside0.mk (Kd.R_below (by (with_reducible repeat (first | apply Kd.R_alloc | apply Kd.R_drewN | apply Kd.R_drew)); exact HO_7.out) hb)
        have n1_ := Aside0.mk (blk_below (g := gb191) (o := .cells #[.slice A0_0 l0_0.length c0_0, .int .i64 a0_1, .int .i64 a0_2, .slice A0_3 l0_3.length c0_3, .slice A0_4 l0_4.length c0_4] 28 (0, 0)) (by (with_reducible repeat (first | refine blk_drewN ?_ _ | refine blk_drew ?_ | refine blk_alloc ?_ _)); exact BK191.out) hb)
        have n2_ := Aside0.mk (blk_below (g := gb192) (o := .cells #[.slice A1_0 l1_0.length c1_0, .int .i64 a1_1, .slice A1_2 l1_2.length c1_2, .slice A1_3 l1_3.length c1_3] 56 (0, 0)) (by (with_reducible repeat (first | refine blk_drewN ?_ _ | refine blk_drew ?_ | refine blk_alloc ?_ _)); exact BK192.out) hb)
        have n3_ := Aside0.mk (blk_below (g := gb193) (o := .cells #[.int .i64 a2_0, .int .i64 a2_1, .int .i64 a2_2] 72 (0, 0)) (by (with_reducible repeat (first | refine blk_drewN ?_ _ | refine blk_drew ?_ | refine blk_alloc ?_ _)); exact BK193.out) hb)
        have n4_ := Aside0.mk (below_step (by repeat (first | (with_reducible first | exact HB.out | apply below_alloc | apply pw_below_drewN | apply below_drew1 | refine below_set ?_ GE191.out | refine below_set ?_ GE192.out | refine below_set ?_ GE193.out) | exact HB.out)) hb)
        clear HO_7 BK191 BK192 BK193 HB
        have HO_7 := n0_
        have BK191 := n1_
        have BK192 := n2_
        have BK193 := n3_
        have HB := n4_
        clear n0_ n1_ n2_ n3_ n4_
        (try clear hb)
        (try clear hb2)
        (try clear hk)
        (try clear hi)
        refine hK.out _ _ ⟨(blk_cell BK193.out 0).trans rfl, (blk_cell BK193.out 1).trans rfl, (blk_cell BK193.out 2).trans rfl, (blk_cell BK192.out 0).trans rfl, (blk_cell BK192.out 1).trans rfl, (blk_cell BK192.out 2).trans rfl, (blk_cell BK192.out 3).trans rfl⟩ (fun hHeld => ?_)
        clear hK K
        refine norm_ (a' := ?_) ?_ ?_
        rotate_left
        ·
         show Act.put _ (some 30) _ = _
         simp only [Act.put, List.setIfInBounds_toArray, List.set_cons_zero, List.set_cons_succ, i64_w, i32_w]
         rfl
        refine pureQ 17 33 HT_.out ?_
        refine pureQ 18 34 HT_.out ?_
        refine done_ (done_of HT_.out (by kernel_rfl)) ?_
        try go_wp2_with (first | ((with_reducible refine gate_builtin (b := .append) (xs := #[.tmp 35, .tmp 37]) rfl ?_); at_builtin; refine Kd.R_append (Kd.int .i64) (w0 := w) w.heap.size rfl (.tmp 35) (.tmp 37) 39 3 (.int .i64 0) 8 rfl Try.underlying39 info3 rfl (by decide) (by omega) u7 x7_1 x8_1 [.int .i64 x8_1] (fun _ => True) (fun _ => False) rfl rfl ?aP (fun _ hk => hk.elim) ?aF ?aO ?aB ?aS ?aL ?_; (case aP => exact rfl); (case aB => exact (by repeat (first | (with_reducible first | exact HB.out | apply below_alloc | apply pw_below_drewN | apply below_drew1 | refine below_set ?_ GE191.out | refine below_set ?_ GE192.out | refine below_set ?_ GE193.out) | exact HB.out))); (case aF => exact (fun _ _ => trivial)); (case aO => exact (by (with_reducible repeat (first | apply Kd.R_alloc | apply Kd.R_drewN | apply Kd.R_drew)); exact HO_7.out)); (case aS => exact (below_size (by repeat (first | (with_reducible first | exact HB.out | apply below_alloc | apply pw_below_drewN | apply below_drew1 | refine below_set ?_ GE191.out | refine below_set ?_ GE192.out | refine below_set ?_ GE193.out) | exact HB.out)))); (case aL => have := LMc26.out; omega); intro v200 w32 ho hb hg hat; rw [← Ny199.out] at ho; have n0_ := Aside0.mk (blk_grown (g := gb191) (o := .cells #[.slice A0_0 l0_0.length c0_0, .int .i64 a0_1, .int .i64 a0_2, .slice A0_3 l0_3.length c0_3, .slice A0_4 l0_4.length c0_4] 28 (0, 0)) (by (with_reducible repeat (first | refine blk_drewN ?_ _ | refine blk_drew ?_ | refine blk_alloc ?_ _)); exact BK191.out) hg (Kd.R_ne HO_7.out BK191.out (by decide))); have n1_ := Aside0.mk (blk_grown (g := gb192) (o := .cells #[.slice A1_0 l1_0.length c1_0, .int .i64 a1_1, .slice A1_2 l1_2.length c1_2, .slice A1_3 l1_3.length c1_3] 56 (0, 0)) (by (with_reducible repeat (first | refine blk_drewN ?_ _ | refine blk_drew ?_ | refine blk_alloc ?_ _)); exact BK192.out) hg (Kd.R_ne HO_7.out BK192.out (by decide))); have n2_ := Aside0.mk (blk_grown (g := gb193) (o := .cells #[.int .i64 a2_0, .int .i64 a2_1, .int .i64 a2_2] 72 (0, 0)) (by (with_reducible repeat (first | refine blk_drewN ?_ _ | refine blk_drew ?_ | refine blk_alloc ?_ _)); exact BK193.out) hg (Kd.R_ne HO_7.out BK193.out (by decide))); have n3_ := Aside0.mk (hb); have n4_ := Aside0.mk (ho); clear BK191; clear BK192; clear BK193; clear HB; clear HO_7; have BK191 := n0_; have BK192 := n1_; have BK193 := n2_; have HB := n3_; have HO201 := n4_; clear n0_ n1_ n2_ n3_ n4_; clear ho hb hg hat))
        go_roundg k1
        case measure => have := HK1.out; omega
        case rel => exact ⟨(y199), (wrap64 (x8_1 + 1)), (by first | rfl | (simp; done) | (simp [*]; done)), H', ⟨by have := HK1.out; omega⟩, ⟨by (with_reducible repeat (first | apply Kd.R_alloc | apply Kd.R_drewN | apply Kd.R_drew)); exact HO201.out⟩, ⟨by (with_reducible repeat (first | refine blk_drewN ?_ _ | refine blk_drew ?_ | refine blk_alloc ?_ _)); exact BK191.out⟩, ⟨by (with_reducible repeat (first | refine blk_drewN ?_ _ | refine blk_drew ?_ | refine blk_alloc ?_ _)); exact BK192.out⟩, ⟨by (with_reducible repeat (first | refine blk_drewN ?_ _ | refine blk_drew ?_ | refine blk_alloc ?_ _)); exact BK193.out⟩, ⟨by repeat (first | (with_reducible first | exact HB.out | apply below_alloc | apply pw_below_drewN | apply below_drew1 | refine below_set ?_ GE191.out | refine below_set ?_ GE192.out | refine below_set ?_ GE193.out) | exact HB.out)⟩⟩
       ·
        rw [if_neg c26] at H
        exact absurd H (by simp)
      ·
       rw [if_neg c25] at H
       have c25b0 : (t198 == a2_2) = false := beq_eq_false_iff_ne.mpr c25
       have c25b1 : (t198 != a2_2) = true := bne_iff_ne.mpr c25
       have H' := Aside0.mk H
       clear H
       have hnb33 := NB191_192.out
       have hnc33 := NB192_191.out
       have hnb34 := NB191_193.out
       have hnc34 := NB193_191.out
       have hcz35_0 := (blk_cell BK191.out 0).trans rfl
       have hcz35_1 := (blk_cell BK191.out 1).trans rfl
       have hcz35_2 := (blk_cell BK191.out 2).trans rfl
       have hcz35_3 := (blk_cell BK191.out 3).trans rfl
       have hcz35_4 := (blk_cell BK191.out 4).trans rfl
       have hfz35_0 := blk_frozen BK191.out 0
       have hfz35_1 := blk_frozen BK191.out 1
       have hfz35_2 := blk_frozen BK191.out 2
       have hfz35_3 := blk_frozen BK191.out 3
       have hfz35_4 := blk_frozen BK191.out 4
       try go_wp2
       have n0_ := Aside0.mk (Kd.R_drew HO_7.out)
       have n1_ := Aside0.mk (blk_drew BK191.out)
       have n2_ := Aside0.mk (blk_drew BK192.out)
       have n3_ := Aside0.mk (blk_drew BK193.out)
       have n4_ := Aside0.mk (below_drew1 HB.out)
       clear HO_7 BK191 BK192 BK193 HB
       have HO_7 := n0_
       have BK191 := n1_
       have BK192 := n2_
       have BK193 := n3_
       have HB := n4_
       clear n0_ n1_ n2_ n3_ n4_
       refine start_ (n := 19) (S := fun w' => w'.cell? ⟨gb193, 0, none⟩ = some (.int .i64 a2_0) ∧ w'.cell? ⟨gb193, 1, none⟩ = some (.int .i64 a2_1) ∧ w'.cell? ⟨gb193, 2, none⟩ = some (.int .i64 a2_2) ∧ w'.cell? ⟨gb192, 0, none⟩ = some (.slice A1_0 l1_0.length c1_0) ∧ w'.cell? ⟨gb192, 1, none⟩ = some (.int .i64 a1_1) ∧ w'.cell? ⟨gb192, 2, none⟩ = some (.slice A1_2 l1_2.length c1_2) ∧ w'.cell? ⟨gb192, 3, none⟩ = some (.slice A1_3 l1_3.length c1_3)) (ds := []) #[false, false, false, false, false, false, false, false, false, false, false, false, false, false, false, false, false, false, false] (by kernel_rfl) rfl rfl ⟨(blk_cell BK193.out 0).trans rfl, (blk_cell BK193.out 1).trans rfl, (blk_cell BK193.out 2).trans rfl, (blk_cell BK192.out 0).trans rfl, (blk_cell BK192.out 1).trans rfl, (blk_cell BK192.out 2).trans rfl, (blk_cell BK192.out 3).trans rfl⟩ (fun hHeld => ?_); refine with_tabW r7_used.tab5 r7_used.bits5 (fun HT_ HW_ => ?_)
       generalize wr.drew = w36 at HO_7 BK191 BK192 BK193 HB hHeld ⊢
       refine pureQ 0 16 HT_.out ?_
       refine takeQ 1 17 HT_.out HW_.out hHeld ?_
       refine pureQ 2 18 HT_.out ?_
       refine pureQ 3 19 HT_.out ?_
       refine pureQ 4 20 HT_.out ?_
       refine pureQ 6 22 HT_.out ?_
       refine takeQ 5 21 HT_.out HW_.out hHeld ?_
       refine pureQ 7 23 HT_.out ?_
       refine pureQ 8 24 HT_.out ?_
       refine pureQ 9 25 HT_.out ?_
       refine pureQ 11 27 HT_.out ?_
       refine pureQ 12 28 HT_.out ?_
       refine pureQ 15 31 HT_.out ?_
       refine takeQ 10 26 HT_.out HW_.out hHeld ?_
       refine takeQ 13 29 HT_.out HW_.out hHeld ?_
       refine takeQ 16 32 HT_.out HW_.out hHeld ?_
       refine one_ (i := 14) (N := some 30) #[true, true, true, true, true, true, true, true, true, true, true, true, true, true, true, true, true, false, false] rfl rfl (one_of HT_.out (by kernel_rfl)) (by decide) (fun K hK => ?_)
       refine goes_ Try.func113 (by kernel_rfl) rfl #[.agg #[.slice A1_0 l1_0.length c1_0, .int .i64 a1_1, .slice A1_2 l1_2.length c1_2, .slice A1_3 l1_3.length c1_3], .int .i64 x8_1, .int .i64 a2_1] (by rfl) rfl rfl (by (try simp only [List.map_toArray, List.map_cons, List.map_nil]); first | done | rfl | (simp only [List.length_drop, List.length_take]; rfl)) ?_
       with_reducible refine (r7_Bits.calls k1 _ _ l1_0 a1_1 _ _ l1_2 _ _ l1_3 x8_1 a2_1 t198 _ ?side1 ?side2 ?side3 ?side4 ?side5 ?side6 A24.out).mono ?_
       (case side1 => repeat (first | exact (Kd.C_below HR1_0.out HB.out) | (with_reducible refine Kd.C_alloc ?_ _) | (with_reducible refine Kd.C_drewN ?_ _) | (with_reducible refine Kd.C_drew ?_)))
       (case side2 => exact HC1_0.out)
       (case side3 => repeat (first | exact (Kd.C_below HR1_2.out HB.out) | (with_reducible refine Kd.C_alloc ?_ _) | (with_reducible refine Kd.C_drewN ?_ _) | (with_reducible refine Kd.C_drew ?_)))
       (case side4 => exact HC1_2.out)
       (case side5 => repeat (first | exact (Kd.C_below HR1_3.out HB.out) | (with_reducible refine Kd.C_alloc ?_ _) | (with_reducible refine Kd.C_drewN ?_ _) | (with_reducible refine Kd.C_drew ?_)))
       (case side6 => exact HC1_3.out)
       rintro e w37 ⟨rfl, hb⟩
       refine ⟨_, rfl, ?_⟩
       have n0_ := Aside0.mk (Kd.R_below (by (with_reducible repeat (first | apply Kd.R_alloc | apply Kd.R_drewN | apply Kd.R_drew)); exact HO_7.out) hb)
       have n1_ := Aside0.mk (blk_below (g := gb191) (o := .cells #[.slice A0_0 l0_0.length c0_0, .int .i64 a0_1, .int .i64 a0_2, .slice A0_3 l0_3.length c0_3, .slice A0_4 l0_4.length c0_4] 28 (0, 0)) (by (with_reducible repeat (first | refine blk_drewN ?_ _ | refine blk_drew ?_ | refine blk_alloc ?_ _)); exact BK191.out) hb)
       have n2_ := Aside0.mk (blk_below (g := gb192) (o := .cells #[.slice A1_0 l1_0.length c1_0, .int .i64 a1_1, .slice A1_2 l1_2.length c1_2, .slice A1_3 l1_3.length c1_3] 56 (0, 0)) (by (with_reducible repeat (first | refine blk_drewN ?_ _ | refine blk_drew ?_ | refine blk_alloc ?_ _)); exact BK192.out) hb)
       have n3_ := Aside0.mk (blk_below (g := gb193) (o := .cells #[.int .i64 a2_0, .int .i64 a2_1, .int .i64 a2_2] 72 (0, 0)) (by (with_reducible repeat (first | refine blk_drewN ?_ _ | refine blk_drew ?_ | refine blk_alloc ?_ _)); exact BK193.out) hb)
       have n4_ := Aside0.mk (below_step (by repeat (first | (with_reducible first | exact HB.out | apply below_alloc | apply pw_below_drewN | apply below_drew1 | refine below_set ?_ GE191.out | refine below_set ?_ GE192.out | refine below_set ?_ GE193.out) | exact HB.out)) hb)
       clear HO_7 BK191 BK192 BK193 HB
       have HO_7 := n0_
       have BK191 := n1_
       have BK192 := n2_
       have BK193 := n3_
       have HB := n4_
       clear n0_ n1_ n2_ n3_ n4_
       (try clear hb)
       (try clear hb2)
       (try clear hk)
       (try clear hi)
       refine hK.out _ _ ⟨(blk_cell BK193.out 0).trans rfl, (blk_cell BK193.out 1).trans rfl, (blk_cell BK193.out 2).trans rfl, (blk_cell BK192.out 0).trans rfl, (blk_cell BK192.out 1).trans rfl, (blk_cell BK192.out 2).trans rfl, (blk_cell BK192.out 3).trans rfl⟩ (fun hHeld => ?_)
       clear hK K
       refine norm_ (a' := ?_) ?_ ?_
       rotate_left
       ·
        show Act.put _ (some 30) _ = _
        simp only [Act.put, List.setIfInBounds_toArray, List.set_cons_zero, List.set_cons_succ, i64_w, i32_w]
        rfl
       refine pureQ 17 33 HT_.out ?_
       refine pureQ 18 34 HT_.out ?_
       refine done_ (done_of HT_.out (by kernel_rfl)) ?_
       try go_wp2
       go_roundg k1
       case measure => have := HK1.out; omega
       case rel => exact ⟨(x7_1), (wrap64 (x8_1 + 1)), (by first | rfl | (simp; done) | (simp [*]; done)), H', ⟨by have := HK1.out; omega⟩, ⟨by (with_reducible repeat (first | apply Kd.R_alloc | apply Kd.R_drewN | apply Kd.R_drew)); exact HO_7.out⟩, ⟨by (with_reducible repeat (first | refine blk_drewN ?_ _ | refine blk_drew ?_ | refine blk_alloc ?_ _)); exact BK191.out⟩, ⟨by (with_reducible repeat (first | refine blk_drewN ?_ _ | refine blk_drew ?_ | refine blk_alloc ?_ _)); exact BK192.out⟩, ⟨by (with_reducible repeat (first | refine blk_drewN ?_ _ | refine blk_drew ?_ | refine blk_alloc ?_ _)); exact BK193.out⟩, ⟨by repeat (first | (with_reducible first | exact HB.out | apply below_alloc | apply pw_below_drewN | apply below_drew1 | refine below_set ?_ GE191.out | refine below_set ?_ GE192.out | refine below_set ?_ GE193.out) | exact HB.out)⟩⟩
     ·
      rw [if_neg c23] at H
      have c23b0 : (a2_0 == x8_1) = false := beq_eq_false_iff_ne.mpr c23
      have c23b1 : (a2_0 != x8_1) = true := bne_iff_ne.mpr c23
      have H' := Aside0.mk H
      clear H
      have hnb38 := NB191_192.out
      have hnc38 := NB192_191.out
      have hnb39 := NB191_193.out
      have hnc39 := NB193_191.out
      have hcz40_0 := (blk_cell BK191.out 0).trans rfl
      have hcz40_1 := (blk_cell BK191.out 1).trans rfl
      have hcz40_2 := (blk_cell BK191.out 2).trans rfl
      have hcz40_3 := (blk_cell BK191.out 3).trans rfl
      have hcz40_4 := (blk_cell BK191.out 4).trans rfl
      have hfz40_0 := blk_frozen BK191.out 0
      have hfz40_1 := blk_frozen BK191.out 1
      have hfz40_2 := blk_frozen BK191.out 2
      have hfz40_3 := blk_frozen BK191.out 3
      have hfz40_4 := blk_frozen BK191.out 4
      try go_wp2
      have n0_ := Aside0.mk (Kd.R_drew HO_7.out)
      have n1_ := Aside0.mk (blk_drew BK191.out)
      have n2_ := Aside0.mk (blk_drew BK192.out)
      have n3_ := Aside0.mk (blk_drew BK193.out)
      have n4_ := Aside0.mk (below_drew1 HB.out)
      clear HO_7 BK191 BK192 BK193 HB
      have HO_7 := n0_
      have BK191 := n1_
      have BK192 := n2_
      have BK193 := n3_
      have HB := n4_
      clear n0_ n1_ n2_ n3_ n4_
      refine start_ (n := 19) (S := fun w' => w'.cell? ⟨gb193, 0, none⟩ = some (.int .i64 a2_0) ∧ w'.cell? ⟨gb193, 1, none⟩ = some (.int .i64 a2_1) ∧ w'.cell? ⟨gb193, 2, none⟩ = some (.int .i64 a2_2)) (ds := []) #[false, false, false, false, false, false, false, false, false, false, false, false, false, false, false, false, false, false, false] (by kernel_rfl) rfl rfl ⟨(blk_cell BK193.out 0).trans rfl, (blk_cell BK193.out 1).trans rfl, (blk_cell BK193.out 2).trans rfl⟩ (fun hHeld => ?_); refine with_tabW r7_used.tab5 r7_used.bits5 (fun HT_ HW_ => ?_)
      generalize wr.drew = w41 at HO_7 BK191 BK192 BK193 HB hHeld ⊢
      refine pureQ 0 16 HT_.out ?_
      refine takeQ 1 17 HT_.out HW_.out hHeld ?_
      refine pureQ 2 18 HT_.out ?_
      refine pureQ 3 19 HT_.out ?_
      refine pureQ 4 20 HT_.out ?_
      refine pureQ 6 22 HT_.out ?_
      refine takeQ 5 21 HT_.out HW_.out hHeld ?_
      refine pureQ 7 23 HT_.out ?_
      refine pureQ 8 24 HT_.out ?_
      refine pureQ 9 25 HT_.out ?_
      refine pureQ0 10 26 HT_.out ?_
      refine pureQ0 11 27 HT_.out ?_
      refine pureQ0 12 28 HT_.out ?_
      refine pureQ0 13 29 HT_.out ?_
      refine pureQ0 14 30 HT_.out ?_
      refine pureQ0 15 31 HT_.out ?_
      refine pureQ0 16 32 HT_.out ?_
      refine pureQ0 17 33 HT_.out ?_
      refine pureQ 18 34 HT_.out ?_
      refine done_ (done_of HT_.out (by kernel_rfl)) ?_
      try go_wp2
      go_roundg k1
      case measure => have := HK1.out; omega
      case rel => exact ⟨(x7_1), (wrap64 (x8_1 + 1)), (by first | rfl | (simp; done) | (simp [*]; done)), H', ⟨by have := HK1.out; omega⟩, ⟨by (with_reducible repeat (first | apply Kd.R_alloc | apply Kd.R_drewN | apply Kd.R_drew)); exact HO_7.out⟩, ⟨by (with_reducible repeat (first | refine blk_drewN ?_ _ | refine blk_drew ?_ | refine blk_alloc ?_ _)); exact BK191.out⟩, ⟨by (with_reducible repeat (first | refine blk_drewN ?_ _ | refine blk_drew ?_ | refine blk_alloc ?_ _)); exact BK192.out⟩, ⟨by (with_reducible repeat (first | refine blk_drewN ?_ _ | refine blk_drew ?_ | refine blk_alloc ?_ _)); exact BK193.out⟩, ⟨by repeat (first | (with_reducible first | exact HB.out | apply below_alloc | apply pw_below_drewN | apply below_drew1 | refine below_set ?_ GE191.out | refine below_set ?_ GE192.out | refine below_set ?_ GE193.out) | exact HB.out)⟩⟩
   ·
    rw [if_neg c7] at H
    have c7b0 : decide (x8_1 < (l0_0.length : Int)) = false := decide_eq_false c7
    clear c7
    obtain rfl := Option.some.inj H
    have hnb42 := NB191_192.out
    have hnc42 := NB192_191.out
    have hnb43 := NB191_193.out
    have hnc43 := NB193_191.out
    have hcz44_0 := (blk_cell BK191.out 0).trans rfl
    have hcz44_1 := (blk_cell BK191.out 1).trans rfl
    have hcz44_2 := (blk_cell BK191.out 2).trans rfl
    have hcz44_3 := (blk_cell BK191.out 3).trans rfl
    have hcz44_4 := (blk_cell BK191.out 4).trans rfl
    have hfz44_0 := blk_frozen BK191.out 0
    have hfz44_1 := blk_frozen BK191.out 1
    have hfz44_2 := blk_frozen BK191.out 2
    have hfz44_3 := blk_frozen BK191.out 3
    have hfz44_4 := blk_frozen BK191.out 4
    go_wp2
    go_ret
    exact ⟨_, by first | rfl | (simp [errW_none, errW_some] <;> rfl) | (simp [*, errW_none, errW_some] <;> rfl), by (with_reducible repeat (first | apply Kd.R_alloc | apply Kd.R_drewN | apply Kd.R_drew)); exact HO_7.out, by repeat (first | (with_reducible first | exact HB.out | apply below_alloc | apply pw_below_drewN | apply below_drew1 | refine below_set ?_ GE191.out | refine below_set ?_ GE192.out | refine below_set ?_ GE193.out) | exact HB.out)⟩

end Go.Proofs.Ytgoidclnccjdeaa.PR
end
section
/- The reference's Truths (by hand). -/
namespace Go.Proofs.Ytgoidclnccjdeaa.PR
open Go Go.RowKit Go.Proofs.YtgoidclnccjdeaaK Go.Proofs.Ytgoidclnccjdeaa.D Go.Proofs.YtgoidclnccjdeaaW.PrintWords Go.Proofs.YtgoidclnccjdeaaW.PrintLast Go.Proofs.YtgoidclnccjdeaaW.PrintMore
set_option linter.unusedVariables false
set_option linter.unusedSimpArgs false

def r7_Truths.one (k : Nat) (l0_0 : List (S95)) (a0_1 : Int) (a0_2 : Int) (l0_3 : List (S24)) (l0_4 : List (S72)) (but : List Int) (t : S56) (acc : List (List Int)) (i : Nat) : Option (List Int × Bool) :=
 (r1_Has.f k but (i : Int)).bind fun h => if h = true then some ([], true) else
  (r7_used.f k l0_0 a0_1 a0_2 l0_3 l0_4 t.f0 t.f1 t.f2 acc (rd_T72 l0_4 (i : Int)).f0 (rd_T72 l0_4 (i : Int)).f1 (rd_T72 l0_4 (i : Int)).f2).bind fun o => some (o, decide (0 < o.length))
def r7_Truths.row (k : Nat) (l0_0 : List (S95)) (a0_1 : Int) (a0_2 : Int) (l0_3 : List (S24)) (l0_4 : List (S72)) (but : List Int) (t : S56) : Nat → Nat → List (List Int) → Option (Bool × List (List Int))
 | 0, _, acc => some (true, acc)
 | n + 1, i, acc => if acc.length < 1000000 then (r7_Truths.one k l0_0 a0_1 a0_2 l0_3 l0_4 but t acc i).bind fun p => if p.2 = true then r7_Truths.row k l0_0 a0_1 a0_2 l0_3 l0_4 but t n (i + 1) (acc ++ [p.1]) else some (false, acc ++ [p.1]) else none
def r7_Truths.go (k : Nat) (l0_0 : List (S95)) (a0_1 : Int) (a0_2 : Int) (l0_3 : List (S24)) (l0_4 : List (S72)) (but : List Int) : List S56 → List S56 → Option (List S56)
 | [], out => some out
 | t :: l, out => if out.length < 1000000 then (r7_Truths.row k l0_0 a0_1 a0_2 l0_3 l0_4 but t l0_4.length 0 t.f3).bind fun p => if p.1 = true then r7_Truths.go k l0_0 a0_1 a0_2 l0_3 l0_4 but l (out ++ [⟨t.f0, t.f1, t.f2, p.2⟩]) else r7_Truths.go k l0_0 a0_1 a0_2 l0_3 l0_4 but l out else none
def r7_Truths.f (k : Nat) (l0_0 : List (S95)) (a0_1 : Int) (a0_2 : Int) (l0_3 : List (S24)) (l0_4 : List (S72)) (l1 : List Int) : Option (List S56) := (r7_All.f k l0_0 a0_1 a0_2 l0_3 l0_4).bind fun l => r7_Truths.go k l0_0 a0_1 a0_2 l0_3 l0_4 l1 l []
abbrev bxS (A0 : Option Addr) (n0 c0 : Nat) (a1 a2 : Int) (A3 : Option Addr) (n3 c3 : Nat) (A4 : Option Addr) (n4 c4 : Nat) : Array Value := #[.slice A0 n0 c0, .int .i64 a1, .int .i64 a2, .slice A3 n3 c3, .slice A4 n4 c4]
theorem cell_below {w w' : World} {a : Addr} {v : Value} (h : w.cell? a = some v) (hb : Below w.heap.size w w') : w'.cell? a = some v := (Chg.of_below hb).cell h (fun hx => Nat.lt_irrefl _ (Nat.lt_of_lt_of_le (World.block_lt_of_cell? _ _ h) hx))
theorem FK_slice {W : World} {ok : Nat → Prop} {A : Option Addr} {c : Nat} {o : List Int} (hl : o.length ≤ c) (h : Kd.F (Kd.int .i64) W ok A o.length o) : Kd.FK (Kd.slice 3 (Kd.int .i64)) W ok o [.slice A o.length c] := fun W' hW => ⟨A, c, rfl, hl, h W' hW⟩

set_option maxRecDepth 100000 in
set_option maxHeartbeats 8000000 in
theorem r7_Truths.calls (k : Nat) (A0_0 : Option Addr) (c0_0 : Nat) (l0_0 : List (S95)) (a0_1 : Int) (a0_2 : Int) (A0_3 : Option Addr) (c0_3 : Nat) (l0_3 : List (S24)) (A0_4 : Option Addr) (c0_4 : Nat) (l0_4 : List (S72)) (A1 : Option Addr) (c1 : Nat) (l1 : List Int) (r : List (S56)) (w : World)
  (hr0_0 : Kd.C k95 w A0_0 l0_0.length l0_0) (hc0_0 : l0_0.length ≤ c0_0) (hr0_3 : Kd.C k24 w A0_3 l0_3.length l0_3) (hc0_3 : l0_3.length ≤ c0_3) (hr0_4 : Kd.C k72 w A0_4 l0_4.length l0_4) (hc0_4 : l0_4.length ≤ c0_4) (hr1 : Kd.C (Kd.int .i64) w A1 l1.length l1) (hc1 : l1.length ≤ c1) (h : r7_Truths.f k l0_0 a0_1 a0_2 l0_3 l0_4 l1 = some r) :
  Calls Try.prog 49 #[.agg #[.slice A0_0 l0_0.length c0_0, .int .i64 a0_1, .int .i64 a0_2, .slice A0_3 l0_3.length c0_3, .slice A0_4 l0_4.length c0_4], .slice A1 l1.length c1] w fun e w' => ∃ v0_ : Value, e = .returned (v0_) ∧ Kd.N k56 56 w' w.heap.size (fun k_ => (w.heap.size ≤ k_)) v0_ r ∧ Below w.heap.size w w' := by
 have HR0 := Aside0.mk hr0_0
 have HR3 := Aside0.mk hr0_3
 have HR4 := Aside0.mk hr0_4
 have HR1 := Aside0.mk hr1
 have hmax := hr0_4.2.1
 have HCS := Aside0.mk (And.intro hc0_0 (And.intro hc0_3 (And.intro hc0_4 hc1)))
 clear hr0_0 hr0_3 hr0_4 hr1 hc0_0 hc0_3 hc0_4 hc1
 obtain ⟨L, hL, hgo⟩ := Option.bind_eq_some_iff.1 h
 have HAL := Aside0.mk hL
 have HGO := Aside0.mk hgo
 clear h hL hgo
 have HB1 : Aside0 (Below w.heap.size w (w.alloc (.cells (bxS A0_0 l0_0.length c0_0 a0_1 a0_2 A0_3 l0_3.length c0_3 A0_4 l0_4.length c0_4) 28))) := ⟨below_alloc (Below.refl _ _) _⟩
 have HX1 : Aside0 ((w.alloc (.cells (bxS A0_0 l0_0.length c0_0 a0_1 a0_2 A0_3 l0_3.length c0_3 A0_4 l0_4.length c0_4) 28)).heap[w.heap.size]? = some (.cells (bxS A0_0 l0_0.length c0_0 a0_1 a0_2 A0_3 l0_3.length c0_3 A0_4 l0_4.length c0_4) 28 (0, 0))) := ⟨blk_new _ _⟩
 go_enter Try.func49, Try.ntmps49
 go_upto_region 1 with (fail)
 generalize w.alloc (.cells (bxS A0_0 l0_0.length c0_0 a0_1 a0_2 A0_3 l0_3.length c0_3 A0_4 l0_4.length c0_4) 28) = w1 at HB1 HX1 ⊢
 obtain ⟨q, hq⟩ : ∃ q, w.heap.size = q := ⟨_, rfl⟩
 rw [hq] at HX1 ⊢
 have k0 := (blk_cell HX1.out 0).trans rfl
 have k1 := (blk_cell HX1.out 1).trans rfl
 have k2 := (blk_cell HX1.out 2).trans rfl
 have k3 := (blk_cell HX1.out 3).trans rfl
 have k4 := (blk_cell HX1.out 4).trans rfl
 have kl := blk_lt HX1.out
 go_wp2_with fail
 refine (r7_All.calls k A0_0 c0_0 l0_0 a0_1 a0_2 A0_3 c0_3 l0_3 A0_4 c0_4 l0_4 L w1 (Kd.C_below HR0.out HB1.out) HCS.out.1 (Kd.C_below HR3.out HB1.out) HCS.out.2.1 (Kd.C_below HR4.out HB1.out) HCS.out.2.2.1 HAL.out).mono ?_
 rintro e wl ⟨vl, rfl, hN, hb⟩
 have HBl := Aside0.mk (HB1.out.trans (hb.mono HB1.out.size))
 have HXl := Aside0.mk (blk_below HX1.out hb)
 have hN2 := Kd.N_mono (Kd.N_lower hN HB1.out.size) (ok' := fun k_ => w.heap.size ≤ k_) (fun k_ hk => Nat.le_trans HB1.out.size hk)
 clear k0 k1 k2 k3 k4 kl
 obtain ⟨Al, cl, rfl, hll, hlr⟩ := Kd.N_reads hN2
 have hlm := hlr.2.1
 have HFl := Aside0.mk (Kd.F_bound (Kd.N_F hN2))
 clear hN hN2 hb hlr HB1 HX1
 obtain ⟨n1, hn1⟩ : ∃ n1, wl.heap.size = n1 := ⟨_, rfl⟩
 have HN1 := Aside0.mk hn1
 rw [hn1] at HFl
 go_wp2
 go_loopw [6, 7] (fun vo ji wr => ∃ (i : Nat) (out : List S56) (vout : Value), i ≤ L.length ∧ ji = .int .i64 i ∧ vout = vo ∧ Aside0 (r7_Truths.go k l0_0 a0_1 a0_2 l0_3 l0_4 l1 (L.drop i) out = some r) ∧ Aside0 (Kd.N k56 56 wr n1 (fun k_ => w.heap.size ≤ k_) vout out) ∧ Aside0 (Below n1 wl wr)) (fun _ ji _ => L.length - (intOf ji).toNat)
 case atStart => exact ⟨0, [], _, Nat.zero_le _, rfl, rfl, ⟨by simpa using HGO.out⟩, ⟨Kd.N_nil _ _ _ _ _⟩, ⟨Below.refl _ _⟩⟩
 case round =>
  obtain ⟨i, out, vout, hi, rfl, rfl, HG, HO, HB⟩ := hrel
  rename World => wo
  by_cases hlt : i < L.length
  ·
   have HFr := Aside0.mk (Kd.F_step (W1 := wo) HFl.out (fun k_ hk _ => HB.out.block k_ hk.2))
   obtain ⟨ad, cs, e, hcl, hFK, hcc, hin⟩ := Kd.F_get HFr.out z56 (i : Int) (by omega) (by omega)
   subst e
   obtain ⟨t, ht⟩ : ∃ t, L.getD (i : Int).toNat z56 = t := ⟨_, rfl⟩
   rw [ht] at hFK
   have hdr : L.drop i = t :: L.drop (i + 1) := by
    rw [List.drop_eq_getElem_cons hlt]
    congr 1
    rw [← ht]
    simp [hlt]
   have hG := HG.out
   rw [hdr] at hG
   simp only [r7_Truths.go] at hG
   have hol : out.length < 1000000 := by
    by_cases ho : out.length < 1000000
    ·
     exact ho
    ·
     rw [if_neg ho] at hG; cases hG
   rw [if_pos hol] at hG
   obtain ⟨p, hrow, hG2⟩ := Option.bind_eq_some_iff.1 hG
   have HRW := Aside0.mk hrow
   have HG2 := Aside0.mk hG2
   clear ht hdr hG hrow hG2 hin
   obtain ⟨B0, d0, B2, d2, B3, d3, rfl, g0, F0, g2, F2, g3, F3⟩ := k56_openF hFK
   have hc0 := hcc 0 _ rfl
   have hc1 := hcc 1 _ rfl
   have hc2 := hcc 2 _ rfl
   have hc3 := hcc 3 _ rfl
   simp only [Int.toNat_natCast, show (k56).sz = 4 from rfl, Nat.add_zero] at hc0 hc1 hc2 hc3
   rw [add_field _ _ 1 (by omega)] at hc1
   rw [add_field _ _ 2 (by omega)] at hc2
   rw [add_field _ _ 3 (by omega)] at hc3
   have HF0 := Aside0.mk F0
   have HF2 := Aside0.mk F2
   have HF3 := Aside0.mk F3
   clear hcc hFK F0 F2 F3 hcl
   have HZ0 := Aside0.mk HB.out.size
   go_upto_region 9 with (fail)
   obtain ⟨W0, hW0⟩ : ∃ W0, wo.alloc (.cells #[.slice B0 t.f0.length d0, .int .i64 t.f1, .slice B2 t.f2.length d2, .slice B3 t.f3.length d3] 56) = W0 := ⟨_, rfl⟩
   obtain ⟨bt, hbt⟩ : ∃ bt, wo.heap.size = bt := ⟨_, rfl⟩
   have HT0 : Aside0 (W0.heap[bt]? = some (.cells #[.slice B0 t.f0.length d0, .int .i64 t.f1, .slice B2 t.f2.length d2, .slice B3 t.f3.length d3] 56 (0, 0))) := ⟨by rw [← hW0, ← hbt]; exact blk_new _ _⟩
   have HBW : Aside0 (Below bt wo W0) := ⟨by rw [← hW0, ← hbt]; exact below_alloc (Below.refl _ _) _⟩
   have HBT := Aside0.mk hbt
   have hn1bt : n1 ≤ bt := by rw [← hbt, ← hn1]; exact HB.out.size
   have HN1B := Aside0.mk hn1bt
   have HNW : Aside0 (w.heap.size ≤ n1) := ⟨by rw [← hn1]; exact HBl.out.size⟩
   rw [hW0, hbt]
   clear hW0 hbt hc0 hc1 hc2 hc3
   -- what stays: below bt; the box of t is block bt
   go_loopw [9, 10] (fun bi ji wi => ∃ (j : Nat) (acc : List (List Int)) (is : Bool) (A3 : Option Addr) (c3 : Nat), j ≤ l0_4.length ∧ ji = .int .i64 j ∧ bi = .bool is ∧ Aside0 ((if is = true then r7_Truths.row k l0_0 a0_1 a0_2 l0_3 l0_4 l1 t (l0_4.length - j) j acc else some (false, acc)) = some p) ∧ Aside0 (Below bt wo wi) ∧ Aside0 (wi.heap[bt]? = some (.cells #[.slice B0 t.f0.length d0, .int .i64 t.f1, .slice B2 t.f2.length d2, .slice A3 acc.length c3] 56 (0, 0))) ∧ acc.length ≤ c3 ∧ Aside0 (Kd.F (Kd.slice 3 (Kd.int .i64)) wi (fun k_ => w.heap.size ≤ k_ ∧ (k_ < n1 ∨ bt < k_)) A3 acc.length acc)) (fun _ ji _ => l0_4.length - (intOf ji).toNat)
   case atStart => exact ⟨0, t.f3, true, B3, d3, Nat.zero_le _, rfl, rfl, ⟨by simpa using HRW.out⟩, HBW, HT0, g3, ⟨Kd.F_mono (Kd.F_step (W1 := W0) HF3.out (fun k_ hk _ => HBW.out.block k_ (by have := hk.2; have := HN1B.out; omega))) (fun k_ hk => ⟨hk.1, .inl hk.2⟩)⟩⟩
   case round =>
    obtain ⟨j, acc, is, A3, c3, hj, rfl, rfl, HR, HBi, HTi, hac, HFi⟩ := hrel
    have HWB := Aside0.mk (HB.out.trans (HBi.out.mono HN1B.out))
    have HWA := Aside0.mk (HBl.out.trans (HWB.out.mono HNW.out))
    have hqn := blk_lt HXl.out
    rw [HN1.out] at hqn
    have HQN := Aside0.mk hqn
    have HXi := Aside0.mk ((HWB.out.block q hqn).trans HXl.out)
    have k4 : wr.cell? ⟨q, 4, none⟩ = some (.slice A0_4 l0_4.length c0_4) := (blk_cell HXi.out 4).trans rfl
    have kl := blk_lt HXi.out
    cases is with
    | false =>
     obtain rfl : (false, acc) = p := Option.some.inj HR.out
     have hg := HG2.out
     simp only [Bool.false_eq_true, if_false] at hg
     have HG3 := Aside0.mk hg
     clear hg
     have HO3 := Aside0.mk (Kd.N_step (w1 := wr) (Kd.N_bound HO.out) (fun k_ hk _ => HBi.out.block k_ (by have := hk.2; have := HBT.out; omega)))
     by_cases hjl : j < l0_4.length
     ·
      go_wp2
      clear k4 kl
      go_roundw
      case rel => exact ⟨i + 1, out, _, by omega, by go_num, rfl, HG3, ⟨Kd.N_mono HO3.out (fun k_ hk => hk.1)⟩, HWB⟩
      case measure => simp [intOf]; omega
     ·
      go_wp2
      clear k4 kl
      go_roundw
      case rel => exact ⟨i + 1, out, _, by omega, by go_num, rfl, HG3, ⟨Kd.N_mono HO3.out (fun k_ hk => hk.1)⟩, HWB⟩
      case measure => simp [intOf]; omega
    | true =>
     by_cases hjl : j < l0_4.length
     ·
      have hR := HR.out
      rw [if_pos rfl, show l0_4.length - j = (l0_4.length - (j + 1)) + 1 by omega, r7_Truths.row] at hR
      have hal : acc.length < 1000000 := by
       by_cases ho : acc.length < 1000000
       ·
        exact ho
       ·
        rw [if_neg ho] at hR; cases hR
      rw [if_pos hal] at hR
      obtain ⟨pp, hone, hR2⟩ := Option.bind_eq_some_iff.1 hR
      have HR2 := Aside0.mk hR2
      obtain ⟨hs, hhas, hone2⟩ := Option.bind_eq_some_iff.1 hone
      have HHS := Aside0.mk hhas
      clear hR hR2 hone hhas
      cases hs with
      | true =>
       obtain rfl : ([], true) = pp := Option.some.inj hone2
       clear hone2
       go_wp2_with fail
       refine (r1_Has.calls k A1 c1 l1 j true _ (Kd.C_below HR1.out HWA.out) HCS.out.2.2.2 HHS.out).mono ?_
       rintro e V ⟨rfl, hd⟩
       have HBV := Aside0.mk hd.below
       clear hd k4 kl
       have HFO : Aside0 (Kd.F (Kd.int .i64) V (fun k_ => w.heap.size ≤ k_ ∧ (k_ < n1 ∨ bt < k_)) none ([] : List Int).length []) := ⟨Kd.F_nil _ _ _⟩
       have HLO : Aside0 (([] : List Int).length ≤ 0) := ⟨Nat.le_refl _⟩
       have hvz : bt < V.heap.size := by have := blk_lt HTi.out; have := HBV.out.size; omega
       have HVZ := Aside0.mk hvz
       have HBo := Aside0.mk (HBi.out.trans (HBV.out.mono (Nat.le_of_lt (blk_lt HTi.out))))
       have HTV := Aside0.mk (blk_below HTi.out HBV.out)
       have HFV := Aside0.mk (Kd.F_bound (Kd.F_below HFi.out HBV.out))
       have HFX := Aside0.mk (Kd.F_bound HFO.out)
       have hfr : ∀ k_, V.heap.size ≤ k_ → w.heap.size ≤ k_ ∧ (k_ < n1 ∨ bt < k_) := fun k_ hk => by have := HNW.out; have := HN1B.out; have := HVZ.out; omega
       have HFR := Aside0.mk hfr
       have HAL2 := Aside0.mk hal
       clear hvz hfr hal
       have b0 := (blk_cell HTV.out 0).trans rfl
       go_wp2_with (first
        | ((with_reducible refine gate_dst (N := 49) rfl ?_); refine Kd.R_lit (Kd.slice 3 (Kd.int .i64)) _ 39 ?hg (N := 49) ?hd (xs := ([] : List (List Int))) (inner := []) (ok := fun _ => True) (okp := fun _ => True) ?hr ?hp (fun _ hk => hk) trivial (Below.refl _ _) (Nat.le_refl _) (by simp) ?_; (case hd => rfl); (case hg => rfl); (case hr => first | (go_simp; done) | (go_simp; rfl)); (case hp => exact (Reps.none _ _)); intro v1 w4 ho1 hb1 hg1_ hnew1; have HN4 := Aside0.mk (Kd.N_mono (ok' := (fun k_ => w.heap.size ≤ k_ ∧ (k_ < n1 ∨ bt < k_))) (Kd.R_N (Kd.R_bound ho1)) (fun k_ hk => HFR.out k_ hk.2.1)); have HB4 := Aside0.mk hb1; have HT4 := Aside0.mk (blk_below HTV.out hb1); have b3 : w4.cell? ⟨bt, 3, none⟩ = some (.slice A3 acc.length c3) := (blk_cell HT4.out 3).trans rfl; have bl := blk_lt HT4.out; clear ho1 hb1 hg1_ hnew1)
        | ((with_reducible refine gate_builtin (b := .append) (xs := #[.tmp 49, .tmp 51]) rfl ?_); at_builtin; refine Kd.N_append_rows (Kd.slice 3 (Kd.int .i64)) (w0 := V) V.heap.size rfl (.tmp 49) (.tmp 51) 54 39 (.slice none 0 0) 24 rfl Try.underlying54 info39 rfl (by decide) (by omega) v1 [] acc A3 acc.length c3 (fun k_ => w.heap.size ≤ k_ ∧ (k_ < n1 ∨ bt < k_)) (fun k_ => (w.heap.size ≤ k_ ∧ (k_ < n1 ∨ bt < k_)) ∧ k_ < V.heap.size) rfl rfl HN4.out (Kd.F_below HFV.out HB4.out) (fun k_ hk => ⟨hk.1, fun e => by have := Kd.N_base HN4.out k_ e.symm; have := hk.2; omega⟩) (fun k_ hk => HFR.out k_ (Nat.le_trans HB4.out.size hk)) HB4.out HB4.out.size (by have := HAL2.out; simp only [List.length_nil]; omega) ?_; intro v2 w5 ho2 hb2 hg2 hat2; rw [List.nil_append] at ho2; have HN5 := Aside0.mk ho2; have HB5 := Aside0.mk hb2; have HT5 := Aside0.mk (blk_grown HT4.out hg2 (fun e => by have := Kd.N_base HN4.out bt e.symm; have := HVZ.out; omega)); clear b3 bl ho2 hb2 hg2 hat2)
        | ((with_reducible refine gate_builtin (b := .append) (xs := #[.tmp 52, .tmp 54]) rfl ?_); at_builtin; refine Kd.N_append (Kd.slice 3 (Kd.int .i64)) (w0 := V) V.heap.size rfl (.tmp 52) (.tmp 54) 54 39 (.slice none 0 0) 24 rfl Try.underlying54 info39 rfl (by decide) (by omega) v2 acc [] [.slice none 0 0] (fun k_ => w.heap.size ≤ k_ ∧ (k_ < n1 ∨ bt < k_)) (fun k_ => (w.heap.size ≤ k_ ∧ (k_ < n1 ∨ bt < k_)) ∧ k_ < V.heap.size) rfl rfl (FK_slice (A := none) (c := 0) (o := []) (Nat.le_refl _) (Kd.F_below HFX.out HB5.out)) (fun k_ hk => ⟨hk.1, fun e => by have := Kd.N_base HN5.out k_ e.symm; have := hk.2; omega⟩) (fun k_ hk => HFR.out k_ (Nat.le_trans HB5.out.size hk)) HN5.out HB5.out HB5.out.size (by have := HAL2.out; omega) ?_; intro v3 w6 ho3 hb3 hg3 hat3; obtain ⟨A6, c6, rfl, hl6, _⟩ := Kd.N_reads ho3; have HF6 := Aside0.mk (Kd.N_F ho3); have HL6 := Aside0.mk hl6; have HB6 := Aside0.mk hb3; have HT6 := Aside0.mk (blk_grown HT5.out hg3 (fun e => by have := Kd.N_base HN5.out bt e.symm; have := HVZ.out; omega)); have b3 : w6.cell? ⟨bt, 3, none⟩ = some (.slice A3 acc.length c3) := (blk_cell HT6.out 3).trans rfl; have bf := blk_frozen HT6.out 3; have bl := blk_lt HT6.out; clear ho3 hb3 hg3 hat3 hl6))
       go_roundw
       case rel => exact ⟨j + 1, acc ++ [[]], _, A6, c6, by omega, by go_num, rfl, ⟨by simpa using HR2.out⟩, ⟨((HBo.out.trans (HB6.out.mono (Nat.le_of_lt HVZ.out))).setCell (Nat.le_refl _) _)⟩, ⟨by have h9 := blk_set HT6.out 3 (.slice A6 (acc ++ [[]]).length c6); simp only [List.length_append, List.length_cons, List.length_nil, Nat.zero_add] at h9 ⊢; exact h9⟩, HL6.out, ⟨Kd.F_far HF6.out (fun k_ hk e => by have e2 : k_ = bt := e; have := hk.2; have := HN1B.out; omega) _⟩⟩
       case measure => simp [intOf]; omega
      | false =>
       obtain ⟨o, huse, hpp⟩ := Option.bind_eq_some_iff.1 hone2
       obtain rfl : (o, decide (0 < o.length)) = pp := Option.some.inj hpp
       have HUS := Aside0.mk huse
       clear hone2 huse hpp
       go_wp2_with fail
       refine (r1_Has.calls k A1 c1 l1 j false _ (Kd.C_below HR1.out HWA.out) HCS.out.2.2.2 HHS.out).mono ?_
       rintro e V0 ⟨rfl, hd⟩
       have HBV0 := Aside0.mk hd.below
       clear hd k4 kl
       have HWV := Aside0.mk (HWA.out.trans (HBV0.out.mono HWA.out.size))
       have HXV := Aside0.mk (blk_below HXi.out HBV0.out)
       have HTv := Aside0.mk (blk_below HTi.out HBV0.out)
       have HBo0 := Aside0.mk (HBi.out.trans (HBV0.out.mono (Nat.le_of_lt (blk_lt HTi.out))))
       have hxl := blk_lt HXV.out
       have htl := blk_lt HTv.out
       obtain ⟨ad4, e4, h40, h41, h42⟩ := at_dr (Kd.C_below HR4.out HWV.out) j hjl
       subst e4
       obtain ⟨dd, hdd⟩ : ∃ d, rd_T72 l0_4 (j : Int) = d := ⟨_, rfl⟩
       rw [hdd] at h40 h41 h42 HUS
       clear hdd
       go_wp2
       refine wp_region_G (List.range 10) (S := fun w' : World => w'.cell? ⟨q, 0, none⟩ = some (.slice A0_0 l0_0.length c0_0) ∧ w'.cell? ⟨q, 1, none⟩ = some (.int .i64 a0_1) ∧ w'.cell? ⟨q, 2, none⟩ = some (.int .i64 a0_2) ∧ w'.cell? ⟨q, 3, none⟩ = some (.slice A0_3 l0_3.length c0_3) ∧ w'.cell? ⟨q, 4, none⟩ = some (.slice (some ad4) l0_4.length c0_4) ∧ w'.cell? ⟨bt, 0, none⟩ = some (.slice B0 t.f0.length d0) ∧ w'.cell? ⟨bt, 1, none⟩ = some (.int .i64 t.f1) ∧ w'.cell? ⟨bt, 2, none⟩ = some (.slice B2 t.f2.length d2) ∧ w'.cell? ⟨bt, 3, none⟩ = some (.slice A3 acc.length c3) ∧ w'.cell? (ad4.add (j * 3)) = some (.int .i64 dd.f0) ∧ w'.cell? ⟨(ad4.add (j * 3)).block, (ad4.add (j * 3)).off + 1, none⟩ = some (.int .i64 dd.f1) ∧ w'.cell? ⟨(ad4.add (j * 3)).block, (ad4.add (j * 3)).off + 2, none⟩ = some (.int .i64 dd.f2)) (by kernel_rfl) ⟨(blk_cell HXV.out 0).trans rfl, (blk_cell HXV.out 1).trans rfl, (blk_cell HXV.out 2).trans rfl, (blk_cell HXV.out 3).trans rfl, (blk_cell HXV.out 4).trans rfl, (blk_cell HTv.out 0).trans rfl, (blk_cell HTv.out 1).trans rfl, (blk_cell HTv.out 2).trans rfl, (blk_cell HTv.out 3).trans rfl, h40, h41, h42⟩ (fun hHeld => ?_)
       refine takeG 0 ?_
       refine takeG 1 ?_
       refine takeG 2 ?_
       refine takeG 3 ?_
       refine takeG 4 ?_
       refine takeG 5 ?_
       refine takeG 6 ?_
       clear h40 h41 h42
       refine wpAnyG_only (i := 7) (by kernel_rfl) rfl (fun K hK => ?_)
       go_simp
       refine (r7_used.calls k A0_0 c0_0 l0_0 a0_1 a0_2 A0_3 c0_3 l0_3 (some ad4) c0_4 l0_4 B0 d0 t.f0 t.f1 B2 d2 t.f2 A3 c3 acc dd.f0 dd.f1 dd.f2 o _ (Kd.C_drew (Kd.C_below HR0.out HWV.out)) HCS.out.1 (Kd.C_drew (Kd.C_below HR3.out HWV.out)) HCS.out.2.1 (Kd.C_drew (Kd.C_below HR4.out HWV.out)) HCS.out.2.2.1 (Kd.C_drew (Kd.F_now (Kd.F_step (W1 := V0) HF0.out (fun k_ hk _ => HBo0.out.block k_ (by have := hk.2; have := HN1B.out; omega))))) g0 (Kd.C_drew (Kd.F_now (Kd.F_step (W1 := V0) HF2.out (fun k_ hk _ => HBo0.out.block k_ (by have := hk.2; have := HN1B.out; omega))))) g2 (Kd.C_drew (Kd.F_now (Kd.F_below HFi.out HBV0.out))) hac HUS.out).mono ?_
       rintro e V ⟨vo, rfl, hRo, hbV⟩
       obtain ⟨Ao, co, rfl, hlo, _⟩ := Kd.R_reads hRo
       have HLO := Aside0.mk hlo
       have HFO : Aside0 (Kd.F (Kd.int .i64) V (fun k_ => w.heap.size ≤ k_ ∧ (k_ < n1 ∨ bt < k_)) Ao o.length o) := ⟨Kd.F_mono (Kd.R_F (Kd.R_bound hRo)) (fun k_ hk => by have h1 := hk.2.1; have h2 : V0.drew.heap.size = V0.heap.size := rfl; have := HNW.out; have := HN1B.out; exact ⟨by omega, by omega⟩)⟩
       have HBV := Aside0.mk (HBV0.out.trans (((below_drew1 (Below.refl V0.heap.size V0)).trans hbV).mono HBV0.out.size))
       refine hK.out _ _ ⟨cell_below hHeld.1 hbV, cell_below hHeld.2.1 hbV, cell_below hHeld.2.2.1 hbV, cell_below hHeld.2.2.2.1 hbV, cell_below hHeld.2.2.2.2.1 hbV, cell_below hHeld.2.2.2.2.2.1 hbV, cell_below hHeld.2.2.2.2.2.2.1 hbV, cell_below hHeld.2.2.2.2.2.2.2.1 hbV, cell_below hHeld.2.2.2.2.2.2.2.2.1 hbV, cell_below hHeld.2.2.2.2.2.2.2.2.2.1 hbV, cell_below hHeld.2.2.2.2.2.2.2.2.2.2.1 hbV, cell_below hHeld.2.2.2.2.2.2.2.2.2.2.2 hbV⟩ (by trivial) (fun hHeld2 _ => ?_)
       clear hRo hbV hlo hxl htl hHeld hK K
       refine putG ?_
       refine takeG 8 ?_
       refine doneG ?_
       clear hHeld2
       have hvz : bt < V.heap.size := by have := blk_lt HTi.out; have := HBV.out.size; omega
       have HVZ := Aside0.mk hvz
       have HBo := Aside0.mk (HBi.out.trans (HBV.out.mono (Nat.le_of_lt (blk_lt HTi.out))))
       have HTV := Aside0.mk (blk_below HTi.out HBV.out)
       have HFV := Aside0.mk (Kd.F_bound (Kd.F_below HFi.out HBV.out))
       have HFX := Aside0.mk (Kd.F_bound HFO.out)
       have hfr : ∀ k_, V.heap.size ≤ k_ → w.heap.size ≤ k_ ∧ (k_ < n1 ∨ bt < k_) := fun k_ hk => by have := HNW.out; have := HN1B.out; have := HVZ.out; omega
       have HFR := Aside0.mk hfr
       have HAL2 := Aside0.mk hal
       clear hvz hfr hal
       have b0 := (blk_cell HTV.out 0).trans rfl
       go_wp2_with (first
        | ((with_reducible refine gate_dst (N := 49) rfl ?_); refine Kd.R_lit (Kd.slice 3 (Kd.int .i64)) _ 39 ?hg (N := 49) ?hd (xs := ([] : List (List Int))) (inner := []) (ok := fun _ => True) (okp := fun _ => True) ?hr ?hp (fun _ hk => hk) trivial (Below.refl _ _) (Nat.le_refl _) (by simp) ?_; (case hd => rfl); (case hg => rfl); (case hr => first | (go_simp; done) | (go_simp; rfl)); (case hp => exact (Reps.none _ _)); intro v1 w4 ho1 hb1 hg1_ hnew1; have HN4 := Aside0.mk (Kd.N_mono (ok' := (fun k_ => w.heap.size ≤ k_ ∧ (k_ < n1 ∨ bt < k_))) (Kd.R_N (Kd.R_bound ho1)) (fun k_ hk => HFR.out k_ hk.2.1)); have HB4 := Aside0.mk hb1; have HT4 := Aside0.mk (blk_below HTV.out hb1); have b3 : w4.cell? ⟨bt, 3, none⟩ = some (.slice A3 acc.length c3) := (blk_cell HT4.out 3).trans rfl; have bl := blk_lt HT4.out; clear ho1 hb1 hg1_ hnew1)
        | ((with_reducible refine gate_builtin (b := .append) (xs := #[.tmp 49, .tmp 51]) rfl ?_); at_builtin; refine Kd.N_append_rows (Kd.slice 3 (Kd.int .i64)) (w0 := V) V.heap.size rfl (.tmp 49) (.tmp 51) 54 39 (.slice none 0 0) 24 rfl Try.underlying54 info39 rfl (by decide) (by omega) v1 [] acc A3 acc.length c3 (fun k_ => w.heap.size ≤ k_ ∧ (k_ < n1 ∨ bt < k_)) (fun k_ => (w.heap.size ≤ k_ ∧ (k_ < n1 ∨ bt < k_)) ∧ k_ < V.heap.size) rfl rfl HN4.out (Kd.F_below HFV.out HB4.out) (fun k_ hk => ⟨hk.1, fun e => by have := Kd.N_base HN4.out k_ e.symm; have := hk.2; omega⟩) (fun k_ hk => HFR.out k_ (Nat.le_trans HB4.out.size hk)) HB4.out HB4.out.size (by have := HAL2.out; simp only [List.length_nil]; omega) ?_; intro v2 w5 ho2 hb2 hg2 hat2; rw [List.nil_append] at ho2; have HN5 := Aside0.mk ho2; have HB5 := Aside0.mk hb2; have HT5 := Aside0.mk (blk_grown HT4.out hg2 (fun e => by have := Kd.N_base HN4.out bt e.symm; have := HVZ.out; omega)); clear b3 bl ho2 hb2 hg2 hat2)
        | ((with_reducible refine gate_builtin (b := .append) (xs := #[.tmp 52, .tmp 54]) rfl ?_); at_builtin; refine Kd.N_append (Kd.slice 3 (Kd.int .i64)) (w0 := V) V.heap.size rfl (.tmp 52) (.tmp 54) 54 39 (.slice none 0 0) 24 rfl Try.underlying54 info39 rfl (by decide) (by omega) v2 acc o [.slice Ao o.length co] (fun k_ => w.heap.size ≤ k_ ∧ (k_ < n1 ∨ bt < k_)) (fun k_ => (w.heap.size ≤ k_ ∧ (k_ < n1 ∨ bt < k_)) ∧ k_ < V.heap.size) rfl rfl (FK_slice HLO.out (Kd.F_below HFX.out HB5.out)) (fun k_ hk => ⟨hk.1, fun e => by have := Kd.N_base HN5.out k_ e.symm; have := hk.2; omega⟩) (fun k_ hk => HFR.out k_ (Nat.le_trans HB5.out.size hk)) HN5.out HB5.out HB5.out.size (by have := HAL2.out; omega) ?_; intro v3 w6 ho3 hb3 hg3 hat3; obtain ⟨A6, c6, rfl, hl6, _⟩ := Kd.N_reads ho3; have HF6 := Aside0.mk (Kd.N_F ho3); have HL6 := Aside0.mk hl6; have HB6 := Aside0.mk hb3; have HT6 := Aside0.mk (blk_grown HT5.out hg3 (fun e => by have := Kd.N_base HN5.out bt e.symm; have := HVZ.out; omega)); have b3 : w6.cell? ⟨bt, 3, none⟩ = some (.slice A3 acc.length c3) := (blk_cell HT6.out 3).trans rfl; have bf := blk_frozen HT6.out 3; have bl := blk_lt HT6.out; clear ho3 hb3 hg3 hat3 hl6))
       go_roundw
       case rel => exact ⟨j + 1, acc ++ [o], _, A6, c6, by omega, by go_num, rfl, ⟨by simpa using HR2.out⟩, ⟨((HBo.out.trans (HB6.out.mono (Nat.le_of_lt HVZ.out))).setCell (Nat.le_refl _) _)⟩, ⟨by have h9 := blk_set HT6.out 3 (.slice A6 (acc ++ [o]).length c6); simp only [List.length_append, List.length_cons, List.length_nil, Nat.zero_add] at h9 ⊢; exact h9⟩, HL6.out, ⟨Kd.F_far HF6.out (fun k_ hk e => by have e2 : k_ = bt := e; have := hk.2; have := HN1B.out; omega) _⟩⟩
       case measure => simp [intOf]; omega
     ·
      obtain rfl : j = l0_4.length := by omega
      obtain rfl : (true, acc) = p := by
       have h9 := HR.out
       simp only [if_true, Nat.sub_self, r7_Truths.row] at h9
       exact Option.some.inj h9
      have hg := HG2.out
      simp only [if_true] at hg
      have HG3 := Aside0.mk hg
      have HO3 := Aside0.mk (Kd.N_mono (Kd.N_step (w1 := wr) (Kd.N_bound HO.out) (fun k_ hk _ => HBi.out.block k_ (by have := hk.2; have := HBT.out; omega))) (fun k_ hk => hk.1) (ok' := fun k_ => w.heap.size ≤ k_))
      have hnb : ∀ k_, vout.ownBlock = some k_ → n1 ≤ k_ ∧ k_ < bt := fun k_ e => ⟨Kd.N_base HO.out k_ e, by have := Kd.N_lt HO.out k_ e; have := HBT.out; omega⟩
      have HNB := Aside0.mk hnb
      have hwz : n1 ≤ wr.heap.size := by have := HWB.out.size; have := HN1.out; omega
      have HWZ := Aside0.mk hwz
      have HOL := Aside0.mk hol
      have F0' := Aside0.mk (Kd.F_mono (Kd.F_step (W1 := wr) HF0.out (fun k_ hk _ => HBi.out.block k_ (by have := hk.2; have := HN1B.out; omega))) (fun k_ hk => ⟨hk.1, .inl hk.2⟩) (ok' := (fun k_ => w.heap.size ≤ k_ ∧ (k_ < n1 ∨ bt < k_))))
      have F2' := Aside0.mk (Kd.F_mono (Kd.F_step (W1 := wr) HF2.out (fun k_ hk _ => HBi.out.block k_ (by have := hk.2; have := HN1B.out; omega))) (fun k_ hk => ⟨hk.1, .inl hk.2⟩) (ok' := (fun k_ => w.heap.size ≤ k_ ∧ (k_ < n1 ∨ bt < k_))))
      clear hg hnb hwz hol
      have b0 := (blk_cell HTi.out 0).trans rfl
      have b1 := (blk_cell HTi.out 1).trans rfl
      have b2 := (blk_cell HTi.out 2).trans rfl
      have b3 := (blk_cell HTi.out 3).trans rfl
      have bl := blk_lt HTi.out
      go_wp2_with (first
       | ((with_reducible refine gate_builtin (b := .append) (xs := #[.tmp 58, .tmp 60]) rfl ?_); at_builtin; refine Kd.N_append k56 (w0 := wl) n1 rfl (.tmp 58) (.tmp 60) 68 56 (.agg #[(.slice none 0 0), (.int .i64 0), (.slice none 0 0), (.slice none 0 0)]) 80 rfl Try.underlying68 info56 rfl (by decide) (by omega) vout out (⟨t.f0, t.f1, t.f2, acc⟩ : S56) [.slice B0 t.f0.length d0, .int .i64 t.f1, .slice B2 t.f2.length d2, .slice A3 acc.length c3] (fun k_ => w.heap.size ≤ k_) (fun k_ => w.heap.size ≤ k_ ∧ (k_ < n1 ∨ bt < k_)) rfl rfl (k56_mkF _ _ (⟨t.f0, t.f1, t.f2, acc⟩ : S56) g0 F0'.out g2 F2'.out hac HFi.out) (fun k_ hk => ⟨hk.1, fun e => by have := HNB.out k_ e.symm; have := hk.2; omega⟩) (fun k_ hk => by have := HNW.out; have := HWZ.out; omega) HO3.out HWB.out HWZ.out (by have := HOL.out; omega) ?_; intro v2 w5 ho hb hg hat; have HO5 := Aside0.mk ho; have HB5 := Aside0.mk hb; clear ho hb hg hat b0 b1 b2 b3 bl))
      go_roundw
      case rel => exact ⟨i + 1, out ++ [⟨t.f0, t.f1, t.f2, acc⟩], _, by omega, by go_num, rfl, HG3, HO5, HB5⟩
      case measure => simp [intOf]; omega
  ·
   obtain rfl : i = L.length := by omega
   have hg := HG.out
   simp only [List.drop_length, r7_Truths.go] at hg
   obtain rfl := Option.some.inj hg
   have hz : w.heap.size ≤ n1 := by rw [← hn1]; exact HBl.out.size
   have hbw := HBl.out.trans (HB.out.mono hz)
   clear hg
   go_wp2
   go_ret
   exact ⟨_, rfl, Kd.N_lower HO.out hz, hbw⟩
end Go.Proofs.Ytgoidclnccjdeaa.PR
end
