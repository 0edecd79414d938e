/- Contracts of the functions that this claim reaches, with the words for them: pruned and packed by wip/tools/prune.py. -/
import Derived.Test.YtemeapfnfegkiaaUe
import Derived.Deep.RegionWith
section
namespace Go.Proofs.Ytemeapfnfegkiaa.PR
open Go.RowKit Go.Proofs.YtemeapfnfegkiaaW.PrintWords Go.Proofs.YtemeapfnfegkiaaW.PrintLast Go.Proofs.YtemeapfnfegkiaaW.PrintMore
attribute [local go_sem] max2_int min2_int max_two min_two max_three min_three max_four min_four   -- for this text's walks alone
set_option linter.unusedVariables false
set_option linter.unusedSimpArgs false

def helioscoperef01_Numbers.l0 : Nat → List (S57) → Int → Int → Int → Option (Int × Int × Int)
 | 0, _, _, _, _ => none
 | k + 1, x7, x9, x284000, x284001 => if x9 < (x7.length : Int) then (if 0 ≤ x9 then ((helioscoperef01_Wolf.f k ((rd_T57 x7 x9).f0) ((rd_T57 x7 x9).f1)).bind fun t285 => ((helioscoperef01_Wide.f x284000 x284001 t285).bind fun bt286 => (helioscoperef01_Numbers.l0 k x7 (wrap64 (x9 + 1)) bt286.1 bt286.2))) else (none)) else (some (x284000, x284001, 0))
def helioscoperef01_Numbers.f (k : Nat) (a0_0 : ByteArray) (a0_1 : Int) (a0_2 : Int) (a0_3 : Int) (l0_4 : List (S80)) (l0_5 : List (S52)) : Option (Int × Int × Int) := (helioscoperef01_Check.f k a0_0 a0_1 a0_2 a0_3 l0_4 l0_5).bind fun bt272 => ((helioscoperef01_known.f k a0_0 a0_1 a0_2 a0_3 l0_4 l0_5 bt272.2.2).bind fun bt275 => (if bt275.2 = 0 then (if 0 < (bt275.1.length : Int) then ((helioscoperef01_Wolf.f k ((rd_T57 bt275.1 0).f0) ((rd_T57 bt275.1 0).f1)).bind fun t280 => ((helioscoperef01_Wolf.f k ((rd_T57 bt275.1 0).f0) ((rd_T57 bt275.1 0).f1)).bind fun t282 => (helioscoperef01_Numbers.l0 k bt275.1 1 t280 t282))) else (none)) else (some (0, 0, bt275.2))))
def helioscoperef01_Numbers.T5 : Bool × List (List Nat × List Nat) := (true, [([], []), ([0], [0]), ([1], [1]), ([2], [2]), ([], []), ([4], [4]), ([5], [5]), ([6, 3], [6]), ([3, 7], [3, 7]), ([], []), ([9, 8, 7, 0, 1, 2, 3, 4, 5, 6, 7, 8, 9], [8, 9])])
def helioscoperef01_Numbers.B5 : List Nat := [0, 1, 3, 7, 0, 16, 48, 127, 255, 0, 1023]
theorem helioscoperef01_Numbers.tab5 : rtab .any (opsOf Try.f30 5) = helioscoperef01_Numbers.T5 := by kernel_rfl
theorem helioscoperef01_Numbers.bits5 : waitsOk helioscoperef01_Numbers.T5.2 helioscoperef01_Numbers.B5 = true := by kernel_rfl
def helioscoperef01_Numbers.T9 : Bool × List (List Nat × List Nat) := (true, [([], []), ([], []), ([], []), ([1, 2], [1, 2]), ([3], [3]), ([4], [4]), ([0, 5, 5], [0, 5]), ([6, 6, 0, 1, 2, 3, 4, 5, 6], [6])])
def helioscoperef01_Numbers.B9 : List Nat := [0, 0, 0, 6, 14, 30, 63, 127]
theorem helioscoperef01_Numbers.tab9 : rtab .any (opsOf Try.f30 9) = helioscoperef01_Numbers.T9 := by kernel_rfl
theorem helioscoperef01_Numbers.bits9 : waitsOk helioscoperef01_Numbers.T9.2 helioscoperef01_Numbers.B9 = true := by kernel_rfl
set_option maxHeartbeats 8000000 in
set_option maxRecDepth 100000 in
theorem helioscoperef01_Numbers.calls (k : Nat) (a0_0 : ByteArray) (a0_1 : Int) (a0_2 : Int) (a0_3 : Int) (A0_4 : Option Addr) (c0_4 : Nat) (l0_4 : List (S80)) (A0_5 : Option Addr) (c0_5 : Nat) (l0_5 : List (S52)) (r1 : Int) (r2 : Int) (r3 : Int) (w : World) (hr0_4 : Kd.C k80 w A0_4 l0_4.length l0_4) (hc0_4 : l0_4.length ≤ c0_4) (hr0_5 : Kd.C k52 w A0_5 l0_5.length l0_5) (hc0_5 : l0_5.length ≤ c0_5) (h : helioscoperef01_Numbers.f k a0_0 a0_1 a0_2 a0_3 l0_4 l0_5 = some (r1, r2, r3)) :
  Calls Try.prog 30 #[.agg #[.string a0_0, .int .i64 a0_1, .int .i64 a0_2, .int .i64 a0_3, .slice A0_4 l0_4.length c0_4, .slice A0_5 l0_5.length c0_5]] w fun e w' => e = .returned (.tuple #[.agg #[.int .i64 r1, .int .i64 r2], .int .i64 r3]) ∧ Below w.heap.size w w' := by
 have hu27 := Try.underlying27
 have hu23 := Try.underlying23
 have hu57 := Try.underlying57
 have HR0_4 := Aside0.mk hr0_4
 have HC0_4 := Aside0.mk hc0_4
 clear hr0_4 hc0_4
 have HR0_5 := Aside0.mk hr0_5
 have HC0_5 := Aside0.mk hc0_5
 clear hr0_5 hc0_5
 have HB := Aside0.mk (Below.refl w.heap.size w)
 have H : ((helioscoperef01_Check.f k a0_0 a0_1 a0_2 a0_3 l0_4 l0_5).bind fun bt272 => ((helioscoperef01_known.f k a0_0 a0_1 a0_2 a0_3 l0_4 l0_5 bt272.2.2).bind fun bt275 => (if bt275.2 = 0 then (if 0 < (bt275.1.length : Int) then ((helioscoperef01_Wolf.f k ((rd_T57 bt275.1 0).f0) ((rd_T57 bt275.1 0).f1)).bind fun t280 => ((helioscoperef01_Wolf.f k ((rd_T57 bt275.1 0).f0) ((rd_T57 bt275.1 0).f1)).bind fun t282 => (helioscoperef01_Numbers.l0 k bt275.1 1 t280 t282))) else (none)) else (some (0, 0, bt275.2))))) = some (r1, r2, r3) := h
 clear h
 replace H := Option.bind_eq_some_iff.mp H
 obtain ⟨⟨t272, t273, t274⟩, A20, H⟩ := H
 replace H : ((helioscoperef01_known.f k a0_0 a0_1 a0_2 a0_3 l0_4 l0_5 t274).bind fun bt275 => (if bt275.2 = 0 then (if 0 < (bt275.1.length : Int) then ((helioscoperef01_Wolf.f k ((rd_T57 bt275.1 0).f0) ((rd_T57 bt275.1 0).f1)).bind fun t280 => ((helioscoperef01_Wolf.f k ((rd_T57 bt275.1 0).f0) ((rd_T57 bt275.1 0).f1)).bind fun t282 => (helioscoperef01_Numbers.l0 k bt275.1 1 t280 t282))) else (none)) else (some (0, 0, bt275.2)))) = some (r1, r2, r3) := H
 have A2 := Aside0.mk A20
 clear A20
 replace H := Option.bind_eq_some_iff.mp H
 obtain ⟨⟨t275, t278⟩, A30, H⟩ := H
 replace H : (if t278 = 0 then (if 0 < (t275.length : Int) then ((helioscoperef01_Wolf.f k ((rd_T57 t275 0).f0) ((rd_T57 t275 0).f1)).bind fun t280 => ((helioscoperef01_Wolf.f k ((rd_T57 t275 0).f0) ((rd_T57 t275 0).f1)).bind fun t282 => (helioscoperef01_Numbers.l0 k t275 1 t280 t282))) else (none)) else (some (0, 0, t278))) = some (r1, r2, r3) := H
 have A3 := Aside0.mk A30
 clear A30
 by_cases c4 : t278 = 0
 ·
  rw [if_pos c4] at H
  have c4b0 : (t278 == 0) = true := beq_iff_eq.mpr c4
  have c4b1 : (t278 != 0) = false := bne_eq_false_iff_eq.mpr c4
  clear c4
  by_cases c5 : 0 < (t275.length : Int)
  ·
   rw [if_pos c5] at H
   have c5b0 : decide (0 < (t275.length : Int)) = true := decide_eq_true c5
   have c5b1 : decide (0 < t275.length) = true := decide_eq_true (by omega)
   clear c5
   replace H := Option.bind_eq_some_iff.mp H
   obtain ⟨t280, A60, H⟩ := H
   replace H : ((helioscoperef01_Wolf.f k ((rd_T57 t275 0).f0) ((rd_T57 t275 0).f1)).bind fun t282 => (helioscoperef01_Numbers.l0 k t275 1 t280 t282)) = some (r1, r2, r3) := H
   have A6 := Aside0.mk A60
   clear A60
   replace H := Option.bind_eq_some_iff.mp H
   obtain ⟨t282, A70, H⟩ := H
   replace H : (helioscoperef01_Numbers.l0 k t275 1 t280 t282) = some (r1, r2, r3) := H
   have A7 := Aside0.mk A70
   clear A70
   have H' := Aside0.mk H
   clear H
   go_enter Try.func30, Try.ntmps30
   try go_wp2_with (first | ((with_reducible refine gate_dst (N := 1) rfl ?_); refine box_event ?hg (N := 1) ?hd (cs := #[.string a0_0, .int .i64 a0_1, .int .i64 a0_2, .int .i64 a0_3, .slice A0_4 l0_4.length c0_4, .slice A0_5 l0_5.length c0_5]) (t := 27) ?hr ?_; (case hd => rfl); (case hg => rfl); (case hr => first | (go_simp; done) | (go_simp; rfl)); intro gb270 hg w8 hbox hb; have n0_ := Aside0.mk (below_step (by repeat (first | (with_reducible first | exact HB.out | apply below_alloc | apply pw_below_drewN | apply below_drew1) | exact HB.out)) hb); have n1_ := Aside0.mk (hbox); have n2_ := Aside0.mk ((by rw [hg]; exact (below_size (by repeat (first | (with_reducible first | exact HB.out | apply below_alloc | apply pw_below_drewN | apply below_drew1) | exact HB.out))) : w.heap.size ≤ gb270)); have n3_ := Aside0.mk ((by rw [hg]; exact (below_size (by repeat (first | (with_reducible first | exact HB.out | apply below_alloc | apply pw_below_drewN | apply below_drew1) | exact HB.out))) : w.heap.size ≤ gb270)); clear HB; have HB := n0_; have BK270 := n1_; have GW270 := n2_; have GE270 := n3_; clear n0_ n1_ n2_ n3_; clear hb hbox hg) | ((with_reducible refine gate_dst (N := 2) rfl ?_); refine box_event ?hg (N := 2) ?hd (cs := #[.int .i64 0, .int .i64 0]) (t := 23) ?hr ?_; (case hd => rfl); (case hg => rfl); (case hr => first | (go_simp; done) | (go_simp; rfl)); intro gb271 hg w9 hbox hb; have n0_ := Aside0.mk (blk_below (g := gb270) (o := .cells #[.string a0_0, .int .i64 a0_1, .int .i64 a0_2, .int .i64 a0_3, .slice A0_4 l0_4.length c0_4, .slice A0_5 l0_5.length c0_5] 27 (0, 0)) (by (with_reducible repeat (first | refine blk_drewN ?_ _ | refine blk_drew ?_ | refine blk_alloc ?_ _)); exact BK270.out) hb); have n1_ := Aside0.mk (below_step (by repeat (first | (with_reducible first | exact HB.out | apply below_alloc | apply pw_below_drewN | apply below_drew1 | refine below_set ?_ GE270.out) | exact HB.out)) hb); have n2_ := Aside0.mk (hbox); have n3_ := Aside0.mk ((by rw [hg]; exact (below_size (by repeat (first | (with_reducible first | exact HB.out | apply below_alloc | apply pw_below_drewN | apply below_drew1 | refine below_set ?_ GE270.out) | exact HB.out))) : w.heap.size ≤ gb271)); have n4_ := Aside0.mk ((by rw [hg]; exact (below_size (by repeat (first | (with_reducible first | exact HB.out | apply below_alloc | apply pw_below_drewN | apply below_drew1 | refine below_set ?_ GE270.out) | exact HB.out))) : w.heap.size ≤ gb271)); have n5_ := Aside0.mk ((by rw [hg]; exact Nat.ne_of_lt (blk_lt (g := gb270) (o := .cells #[.string a0_0, .int .i64 a0_1, .int .i64 a0_2, .int .i64 a0_3, .slice A0_4 l0_4.length c0_4, .slice A0_5 l0_5.length c0_5] 27 (0, 0)) (by (with_reducible repeat (first | refine blk_drewN ?_ _ | refine blk_drew ?_ | refine blk_alloc ?_ _)); exact BK270.out)) : gb270 ≠ gb271)); have n6_ := Aside0.mk ((by rw [hg]; exact Nat.ne_of_gt (blk_lt (g := gb270) (o := .cells #[.string a0_0, .int .i64 a0_1, .int .i64 a0_2, .int .i64 a0_3, .slice A0_4 l0_4.length c0_4, .slice A0_5 l0_5.length c0_5] 27 (0, 0)) (by (with_reducible repeat (first | refine blk_drewN ?_ _ | refine blk_drew ?_ | refine blk_alloc ?_ _)); exact BK270.out)) : gb271 ≠ gb270)); clear BK270; clear HB; have BK270 := n0_; have HB := n1_; have BK271 := n2_; have GW271 := n3_; have GE271 := n4_; have NB270_271 := n5_; have NB271_270 := n6_; clear n0_ n1_ n2_ n3_ n4_ n5_ n6_; clear hb hbox hg; have hnb10 := NB270_271.out; have hnc10 := NB271_270.out; have hcz11_0 : w9.cell? ⟨gb270, 0, none⟩ = some (.string a0_0) := (blk_cell BK270.out 0).trans rfl; have hcz11_1 : w9.cell? ⟨gb270, 1, none⟩ = some (.int .i64 a0_1) := (blk_cell BK270.out 1).trans rfl; have hcz11_2 : w9.cell? ⟨gb270, 2, none⟩ = some (.int .i64 a0_2) := (blk_cell BK270.out 2).trans rfl; have hcz11_3 : w9.cell? ⟨gb270, 3, none⟩ = some (.int .i64 a0_3) := (blk_cell BK270.out 3).trans rfl; have hcz11_4 : w9.cell? ⟨gb270, 4, none⟩ = some (.slice A0_4 l0_4.length c0_4) := (blk_cell BK270.out 4).trans rfl; have hcz11_5 : w9.cell? ⟨gb270, 5, none⟩ = some (.slice A0_5 l0_5.length c0_5) := (blk_cell BK270.out 5).trans rfl; have hfz11_0 := blk_frozen BK270.out 0; have hfz11_1 := blk_frozen BK270.out 1; have hfz11_2 := blk_frozen BK270.out 2; have hfz11_3 := blk_frozen BK270.out 3; have hfz11_4 := blk_frozen BK270.out 4; have hfz11_5 := blk_frozen BK270.out 5) | ((with_reducible refine gate_callee (f := 19) rfl ?_); refine goesL_ (some 12) rfl rfl Try.func19 (by kernel_rfl) rfl #[.agg #[.string a0_0, .int .i64 a0_1, .int .i64 a0_2, .int .i64 a0_3, .slice A0_4 l0_4.length c0_4, .slice A0_5 l0_5.length c0_5]] rfl (by (try simp only [List.map_toArray, List.map_cons, List.map_nil]); first | done | rfl | (simp only [List.length_drop, List.length_take]; rfl)) ?_; (with_reducible refine (helioscoperef01_Check.calls k a0_0 a0_1 a0_2 a0_3 _ _ l0_4 _ _ l0_5 t272 t273 t274 _ ?side1 ?side2 ?side3 ?side4 A2.out).mono ?_); (case side1 => repeat (first | exact (Kd.C_below HR0_4.out HB.out) | (with_reducible refine Kd.C_alloc ?_ _) | (with_reducible refine Kd.C_drewN ?_ _) | (with_reducible refine Kd.C_drew ?_))); (case side2 => exact HC0_4.out); (case side3 => repeat (first | exact (Kd.C_below HR0_5.out HB.out) | (with_reducible refine Kd.C_alloc ?_ _) | (with_reducible refine Kd.C_drewN ?_ _) | (with_reducible refine Kd.C_drew ?_))); (case side4 => exact HC0_5.out); rintro e w12 ⟨rfl, hb⟩; refine ⟨_, rfl, ?_⟩; have n0_ := Aside0.mk (blk_below (g := gb270) (o := .cells #[.string a0_0, .int .i64 a0_1, .int .i64 a0_2, .int .i64 a0_3, .slice A0_4 l0_4.length c0_4, .slice A0_5 l0_5.length c0_5] 27 (0, 0)) (by (with_reducible repeat (first | refine blk_drewN ?_ _ | refine blk_drew ?_ | refine blk_alloc ?_ _)); exact BK270.out) hb); have n1_ := Aside0.mk (blk_below (g := gb271) (o := .cells #[.int .i64 0, .int .i64 0] 23 (0, 0)) (by (with_reducible repeat (first | refine blk_drewN ?_ _ | refine blk_drew ?_ | refine blk_alloc ?_ _)); exact BK271.out) hb); have n2_ := Aside0.mk (below_step (by repeat (first | (with_reducible first | exact HB.out | apply below_alloc | apply pw_below_drewN | apply below_drew1 | refine below_set ?_ GE270.out | refine below_set ?_ GE271.out) | exact HB.out)) hb); clear BK270; clear BK271; clear HB; have BK270 := n0_; have BK271 := n1_; have HB := n2_; clear n0_ n1_ n2_; (try clear hb); (try clear hb2); (try clear hk); (try clear hi); have hcz13_0 : w12.cell? ⟨gb270, 0, none⟩ = some (.string a0_0) := (blk_cell BK270.out 0).trans rfl; have hcz13_1 : w12.cell? ⟨gb270, 1, none⟩ = some (.int .i64 a0_1) := (blk_cell BK270.out 1).trans rfl; have hcz13_2 : w12.cell? ⟨gb270, 2, none⟩ = some (.int .i64 a0_2) := (blk_cell BK270.out 2).trans rfl; have hcz13_3 : w12.cell? ⟨gb270, 3, none⟩ = some (.int .i64 a0_3) := (blk_cell BK270.out 3).trans rfl; have hcz13_4 : w12.cell? ⟨gb270, 4, none⟩ = some (.slice A0_4 l0_4.length c0_4) := (blk_cell BK270.out 4).trans rfl; have hcz13_5 : w12.cell? ⟨gb270, 5, none⟩ = some (.slice A0_5 l0_5.length c0_5) := (blk_cell BK270.out 5).trans rfl; have hfz13_0 := blk_frozen BK270.out 0; have hfz13_1 := blk_frozen BK270.out 1; have hfz13_2 := blk_frozen BK270.out 2; have hfz13_3 := blk_frozen BK270.out 3; have hfz13_4 := blk_frozen BK270.out 4; have hfz13_5 := blk_frozen BK270.out 5) | ((with_reducible refine gate_callee (f := 94) rfl ?_); refine goesL_ (some 19) rfl rfl Try.func94 (by kernel_rfl) rfl #[.agg #[.string a0_0, .int .i64 a0_1, .int .i64 a0_2, .int .i64 a0_3, .slice A0_4 l0_4.length c0_4, .slice A0_5 l0_5.length c0_5], .int .i64 t274] rfl (by (try simp only [List.map_toArray, List.map_cons, List.map_nil]); first | done | rfl | (simp only [List.length_drop, List.length_take]; rfl)) ?_; (with_reducible refine (helioscoperef01_known.calls k a0_0 a0_1 a0_2 a0_3 _ _ l0_4 _ _ l0_5 t274 t275 t278 _ ?side1 ?side2 ?side3 ?side4 A3.out).mono ?_); (case side1 => repeat (first | exact (Kd.C_below HR0_4.out HB.out) | (with_reducible refine Kd.C_alloc ?_ _) | (with_reducible refine Kd.C_drewN ?_ _) | (with_reducible refine Kd.C_drew ?_))); (case side2 => exact HC0_4.out); (case side3 => repeat (first | exact (Kd.C_below HR0_5.out HB.out) | (with_reducible refine Kd.C_alloc ?_ _) | (with_reducible refine Kd.C_drewN ?_ _) | (with_reducible refine Kd.C_drew ?_))); (case side4 => exact HC0_5.out); rintro e w14 ⟨v276, rfl, ho0, hb⟩; refine ⟨_, rfl, ?_⟩; have n0_ := Aside0.mk (Kd.N_lower (Kd.N_mono (ok' := fun k_ => k_ ≠ gb270 ∧ k_ ≠ gb271) ho0 (fun k_ hk_ => ⟨(Kd.freshB (g := gb270) (o := .cells #[.string a0_0, .int .i64 a0_1, .int .i64 a0_2, .int .i64 a0_3, .slice A0_4 l0_4.length c0_4, .slice A0_5 l0_5.length c0_5] 27 (0, 0)) (by (with_reducible repeat (first | refine blk_drewN ?_ _ | refine blk_drew ?_ | refine blk_alloc ?_ _)); exact BK270.out) k_ hk_), (Kd.freshB (g := gb271) (o := .cells #[.int .i64 0, .int .i64 0] 23 (0, 0)) (by (with_reducible repeat (first | refine blk_drewN ?_ _ | refine blk_drew ?_ | refine blk_alloc ?_ _)); exact BK271.out) k_ hk_)⟩)) (below_size (by repeat (first | (with_reducible first | exact HB.out | apply below_alloc | apply pw_below_drewN | apply below_drew1 | refine below_set ?_ GE270.out | refine below_set ?_ GE271.out) | exact HB.out)))); have n1_ := Aside0.mk (blk_below (g := gb270) (o := .cells #[.string a0_0, .int .i64 a0_1, .int .i64 a0_2, .int .i64 a0_3, .slice A0_4 l0_4.length c0_4, .slice A0_5 l0_5.length c0_5] 27 (0, 0)) (by (with_reducible repeat (first | refine blk_drewN ?_ _ | refine blk_drew ?_ | refine blk_alloc ?_ _)); exact BK270.out) hb); have n2_ := Aside0.mk (blk_below (g := gb271) (o := .cells #[.int .i64 0, .int .i64 0] 23 (0, 0)) (by (with_reducible repeat (first | refine blk_drewN ?_ _ | refine blk_drew ?_ | refine blk_alloc ?_ _)); exact BK271.out) hb); have n3_ := Aside0.mk (below_step (by repeat (first | (with_reducible first | exact HB.out | apply below_alloc | apply pw_below_drewN | apply below_drew1 | refine below_set ?_ GE270.out | refine below_set ?_ GE271.out) | exact HB.out)) hb); clear BK270; clear BK271; clear HB; have HO277 := n0_; have BK270 := n1_; have BK271 := n2_; have HB := n3_; clear n0_ n1_ n2_ n3_; (try clear hb); (try clear hb2); (try clear hk); (try clear hi); (try clear ho0)))
   have n0_ := Aside0.mk (Kd.N_drew HO277.out)
   have n1_ := Aside0.mk (blk_drew BK270.out)
   have n2_ := Aside0.mk (blk_drew BK271.out)
   have n3_ := Aside0.mk (below_drew1 HB.out)
   clear HO277
   clear BK270
   clear BK271
   clear HB
   have HO277 := n0_
   have BK270 := n1_
   have BK271 := n2_
   have HB := n3_
   clear n0_ n1_ n2_ n3_
   obtain ⟨Ao16, co16, eo16⟩ := Kd.N_slice HO277.out
   (first | subst eo16 | (injection eo16 with f1_ f2_ f3_; have f4_ := f1_.symm; have f5_ := f3_.symm; clear f1_ f2_ f3_; subst f4_; subst f5_))
   have p279 : 0 ≤ (0 : Int) := (by omega)
   have q279 : 0 < (t275.length : Int) := of_decide_eq_true (by first | (with_reducible assumption) | assumption)
   obtain ⟨ad279, A279_1, c279_1, e279, hx279_0, hx279_1, hl279_1, hi279_1⟩ := at_T57 (Kd.N_reads' HO277.out).2.2 0 p279 q279
   cases e279
   obtain ⟨ce279, hce279, hMe279, hcc279⟩ := Kd.N_get HO277.out z57 0 p279 (by first | exact q279 | exact of_decide_eq_true (by first | (with_reducible assumption) | assumption) | (have e_ := (Kd.N_reads' HO277.out).1; omega))
   obtain ⟨ua279_1, uc279_1, rfl, ul279_1, ge279_1⟩ := k57_openF hMe279
   have hv279_1 := hcc279 1 _ rfl
   rw [add_field _ _ 1 (by omega)] at hv279_1
   replace hv279_1 := Option.some.inj (hv279_1.symm.trans hx279_1)
   injection hv279_1 with hva_ hvn_ hvc_
   rw [hva_] at ge279_1
   rw [hvc_] at ul279_1
   have HL279_1 := Aside0.mk (show Kd.V (Kd.int .i64) 3 _ w.heap.size _ _ ((rd_T57 t275 0).f1) from Kd.V_mk ul279_1 ge279_1)
   clear hva_ hvn_ hvc_ ge279_1 ul279_1
   clear hcc279 hce279
   have qi279 : (0 < t275.length) = True := eq_true (by omega)
   (try rw [show ((0 : Int)).toNat = 0 from rfl] at hx279_0)
   (try rw [show 0 * 2 = 0 from rfl] at hx279_0)
   (try rw [Addr.add_zero'] at hx279_0)
   (try rw [show ((0 : Int)).toNat = 0 from rfl] at hx279_1)
   (try rw [show 0 * 2 = 0 from rfl] at hx279_1)
   (try rw [Addr.add_zero'] at hx279_1)
   have HR279_1 := Aside0.mk hi279_1
   have HC279_1 := Aside0.mk hl279_1
   clear hi279_1 hl279_1
   replace p279 := eq_true p279
   replace q279 := eq_true q279
   have p281 : 0 ≤ (0 : Int) := (by omega)
   have q281 : 0 < (t275.length : Int) := of_decide_eq_true (by first | (with_reducible assumption) | assumption)
   obtain ⟨ad281, A281_1, c281_1, e281, hx281_0, hx281_1, hl281_1, hi281_1⟩ := at_T57 (Kd.N_reads' HO277.out).2.2 0 p281 q281
   obtain rfl : ad279 = ad281 := (by injection e281)
   obtain ⟨ce281, hce281, hMe281, hcc281⟩ := Kd.N_get HO277.out z57 0 p281 (by first | exact q281 | exact of_decide_eq_true (by first | (with_reducible assumption) | assumption) | (have e_ := (Kd.N_reads' HO277.out).1; omega))
   obtain ⟨ua281_1, uc281_1, rfl, ul281_1, ge281_1⟩ := k57_openF hMe281
   have hv281_1 := hcc281 1 _ rfl
   rw [add_field _ _ 1 (by omega)] at hv281_1
   replace hv281_1 := Option.some.inj (hv281_1.symm.trans hx281_1)
   injection hv281_1 with hva_ hvn_ hvc_
   rw [hva_] at ge281_1
   rw [hvc_] at ul281_1
   have HL281_1 := Aside0.mk (show Kd.V (Kd.int .i64) 3 _ w.heap.size _ _ ((rd_T57 t275 0).f1) from Kd.V_mk ul281_1 ge281_1)
   clear hva_ hvn_ hvc_ ge281_1 ul281_1
   clear hcc281 hce281
   have qi281 : (0 < t275.length) = True := eq_true (by omega)
   (try rw [show ((0 : Int)).toNat = 0 from rfl] at hx281_0)
   (try rw [show 0 * 2 = 0 from rfl] at hx281_0)
   (try rw [Addr.add_zero'] at hx281_0)
   (try rw [show ((0 : Int)).toNat = 0 from rfl] at hx281_1)
   (try rw [show 0 * 2 = 0 from rfl] at hx281_1)
   (try rw [Addr.add_zero'] at hx281_1)
   have HR281_1 := Aside0.mk hi281_1
   have HC281_1 := Aside0.mk hl281_1
   clear hi281_1 hl281_1
   replace p281 := eq_true p281
   replace q281 := eq_true q281
   have ea_ := Option.some.inj (hx279_1.symm.trans hx281_1)
   injection ea_ with ea_ en_ ec_
   subst ea_
   subst ec_
   clear en_
   refine start_ (n := 11) (S := fun w' => w'.cell? ad279 = some (.int .i64 ((rd_T57 t275 0).f0)) ∧ w'.cell? ⟨ad279.block, ad279.off + 1, none⟩ = some (.slice A279_1 ((rd_T57 t275 0).f1).length c279_1) ∧ w'.cell? ad279 = some (.int .i64 ((rd_T57 t275 0).f0)) ∧ w'.cell? ⟨ad279.block, ad279.off + 1, none⟩ = some (.slice A279_1 ((rd_T57 t275 0).f1).length c279_1)) (ds := []) #[false, false, false, false, false, false, false, false, false, false, false] (by kernel_rfl) rfl rfl ⟨hx279_0, hx279_1, hx281_0, hx281_1⟩ (fun hHeld => ?_); refine with_tabW helioscoperef01_Numbers.tab5 helioscoperef01_Numbers.bits5 (fun HT_ HW_ => ?_)
   generalize w14.drew = w15 at HO277 BK270 BK271 HB HL279_1 HL281_1 HR279_1 HR281_1 hx279_0 hx279_1 hx281_0 hx281_1 hHeld ⊢
   refine pure_ (i := 0) (N := some 26) (v := ?_) (a' := ?_) #[true, false, false, false, false, false, false, false, false, false, false] rfl rfl (any_of HT_.out (by kernel_rfl)) (fun _ _ _ h => h) (Or.inl ⟨by rfl, ?_⟩) ?_ ?_
   rotate_left
   ·
    intro w'
    go_simp
    with_reducible rfl
   rotate_left
   ·
    simp only [Act.put, List.setIfInBounds_toArray, List.set_cons_zero, List.set_cons_succ, i64_w, i32_w]
    rfl
   refine pure_ (i := 1) (N := some 27) (v := ?_) (a' := ?_) #[true, true, false, false, false, false, false, false, false, false, false] rfl rfl (any_of HT_.out (by kernel_rfl)) (fun _ _ _ h => h) (Or.inl ⟨by rfl, ?_⟩) ?_ ?_
   rotate_left
   ·
    intro w'
    go_simp
    with_reducible rfl
   rotate_left
   ·
    simp only [Act.put, List.setIfInBounds_toArray, List.set_cons_zero, List.set_cons_succ, i64_w, i32_w]
    rfl
   refine pure_ (i := 4) (N := some 30) (v := ?_) (a' := ?_) #[true, true, false, false, true, false, false, false, false, false, false] rfl rfl (any_of HT_.out (by kernel_rfl)) (fun _ _ _ h => h) (Or.inl ⟨by rfl, ?_⟩) ?_ ?_
   rotate_left
   ·
    intro w'
    go_simp
    with_reducible rfl
   rotate_left
   ·
    simp only [Act.put, List.setIfInBounds_toArray, List.set_cons_zero, List.set_cons_succ, i64_w, i32_w]
    rfl
   refine pure_ (i := 5) (N := some 31) (v := ?_) (a' := ?_) #[true, true, false, false, true, true, false, false, false, false, false] rfl rfl (any_of HT_.out (by kernel_rfl)) (fun _ _ _ h => h) (Or.inl ⟨by rfl, ?_⟩) ?_ ?_
   rotate_left
   ·
    intro w'
    go_simp
    with_reducible rfl
   rotate_left
   ·
    simp only [Act.put, List.setIfInBounds_toArray, List.set_cons_zero, List.set_cons_succ, i64_w, i32_w]
    rfl
   refine take_ (i := 2) (N := some 28) (v := ?_) (a' := ?_) #[true, true, true, false, true, true, false, false, false, false, false] rfl rfl (take_ofW HT_.out HW_.out (by kernel_rfl)) (fun _ _ _ h => h) (Or.inl ⟨by rfl, ?_⟩) hHeld ?_ ?_
   rotate_left
   ·
    rintro w' ⟨s0, s1, s2, s3⟩
    go_simp
    with_reducible rfl
   rotate_left
   ·
    simp only [Act.put, List.setIfInBounds_toArray, List.set_cons_zero, List.set_cons_succ, i64_w, i32_w]
    rfl
   refine take_ (i := 6) (N := some 32) (v := ?_) (a' := ?_) #[true, true, true, false, true, true, true, false, false, false, false] rfl rfl (take_ofW HT_.out HW_.out (by kernel_rfl)) (fun _ _ _ h => h) (Or.inl ⟨by rfl, ?_⟩) hHeld ?_ ?_
   rotate_left
   ·
    rintro w' ⟨s0, s1, s2, s3⟩
    go_simp
    with_reducible rfl
   rotate_left
   ·
    simp only [Act.put, List.setIfInBounds_toArray, List.set_cons_zero, List.set_cons_succ, i64_w, i32_w]
    rfl
   refine join_ (σ := Nat) 1 #[true, true, true, true, true, true, true, true, true, true, false] (fun s_ => [(29, .int .i64 t280), (33, .int .i64 t282), (8, .pointer (some ⟨s_, 0, none⟩)), (34, .agg #[.int .i64 t280, .int .i64 t282])]) (fun s_ w' => (w'.cell? ad279 = some (.int .i64 ((rd_T57 t275 0).f0)) ∧ w'.cell? ⟨ad279.block, ad279.off + 1, none⟩ = some (.slice A279_1 ((rd_T57 t275 0).f1).length c279_1) ∧ w'.cell? ad279 = some (.int .i64 ((rd_T57 t275 0).f0)) ∧ w'.cell? ⟨ad279.block, ad279.off + 1, none⟩ = some (.slice A279_1 ((rd_T57 t275 0).f1).length c279_1)) ∧ (Kd.V (Kd.int .i64) 3 w' w.heap.size (fun k_ => some k_ ≠ (.slice (some ad279) t275.length co16 : Value).ownBlock ∧ k_ ≠ gb270 ∧ k_ ≠ gb271 ∧ k_ ≠ s_) (.slice A279_1 ((rd_T57 t275 0).f1).length c279_1) ((rd_T57 t275 0).f1)) ∧ (Kd.V (Kd.int .i64) 3 w' w.heap.size (fun k_ => some k_ ≠ (.slice (some ad279) t275.length co16 : Value).ownBlock ∧ k_ ≠ gb270 ∧ k_ ≠ gb271 ∧ k_ ≠ s_) (.slice A279_1 ((rd_T57 t275 0).f1).length c279_1) ((rd_T57 t275 0).f1)) ∧ (Kd.N k57 57 w' w.heap.size (fun k_ => k_ ≠ gb270 ∧ k_ ≠ gb271 ∧ k_ ≠ s_) (.slice (some ad279) t275.length co16) t275) ∧ (w'.heap[gb270]? = some (.cells #[.string a0_0, .int .i64 a0_1, .int .i64 a0_2, .int .i64 a0_3, .slice A0_4 l0_4.length c0_4, .slice A0_5 l0_5.length c0_5] 27 (0, 0))) ∧ (w'.heap[gb271]? = some (.cells #[.int .i64 0, .int .i64 0] 23 (0, 0))) ∧ (w'.heap[s_]? = some (.cells #[.int .i64 0, .int .i64 0] 23 (0, 0))) ∧ (w.heap.size ≤ s_) ∧ (w.heap.size ≤ s_) ∧ (gb270 ≠ s_) ∧ (s_ ≠ gb270) ∧ (gb271 ≠ s_) ∧ (s_ ≠ gb271) ∧ (Below w.heap.size w w')) ?_ ?_
   rotate_left
   ·
    intro hCont
    refine two_ (i := 3) (j := 9) (Ni := some 29) (Nj := some 8) #[true, true, true, true, true, true, true, false, false, false, false] #[true, true, true, false, true, true, true, false, false, true, false] rfl rfl rfl rfl (two_of HT_.out (by kernel_rfl)) (by decide) (by decide) (fun K hK => ?_) (fun K hK => ?_)
    ·
     skip
     refine goes_ Try.func56 (by kernel_rfl) rfl #[.agg #[.int .i64 ((rd_T57 t275 0).f0), .slice A279_1 ((rd_T57 t275 0).f1).length c279_1]] (by rfl) rfl rfl (by (try simp only [List.map_toArray, List.map_cons, List.map_nil]); first | done | rfl | (simp only [List.length_drop, List.length_take]; rfl)) ?_
     with_reducible refine (helioscoperef01_Wolf.calls k ((rd_T57 t275 0).f0) _ _ ((rd_T57 t275 0).f1) t280 _ ?side1 ?side2 A6.out).mono ?_
     (case side1 => repeat (first | exact (by repeat (first | (with_reducible exact HR279_1.out) | (with_reducible refine Kd.C_alloc ?_ _) | (with_reducible refine Kd.C_drewN ?_ _) | (with_reducible refine Kd.C_drew ?_) | exact HR279_1.out)) | (with_reducible refine Kd.C_alloc ?_ _) | (with_reducible refine Kd.C_drewN ?_ _) | (with_reducible refine Kd.C_drew ?_)))
     (case side2 => exact HC279_1.out)
     rintro e w17 ⟨rfl, hb⟩
     have HS0_ := (hb.cell (World.block_lt_of_cell? _ _ (hHeld.1))).trans (hHeld.1)
     have HS1_ := (hb.cell (World.block_lt_of_cell? _ _ (hHeld.2.1))).trans (hHeld.2.1)
     have HS2_ := (hb.cell (World.block_lt_of_cell? _ _ (hHeld.2.2.1))).trans (hHeld.2.2.1)
     have HS3_ := (hb.cell (World.block_lt_of_cell? _ _ (hHeld.2.2.2))).trans (hHeld.2.2.2)
     refine ⟨_, rfl, ?_⟩
     have n0_ := Aside0.mk (Kd.N_below (by (with_reducible repeat (first | apply Kd.N_alloc | apply Kd.N_drewN | apply Kd.N_drew)); exact HO277.out) hb)
     have n1_ := Aside0.mk (Kd.V_below (by (with_reducible repeat (first | apply Kd.V_alloc | apply Kd.V_drewN | apply Kd.V_drew)); exact HL279_1.out) hb)
     have n2_ := Aside0.mk (Kd.V_below (by (with_reducible repeat (first | apply Kd.V_alloc | apply Kd.V_drewN | apply Kd.V_drew)); exact HL281_1.out) hb)
     have n3_ := Aside0.mk (blk_below (g := gb270) (o := .cells #[.string a0_0, .int .i64 a0_1, .int .i64 a0_2, .int .i64 a0_3, .slice A0_4 l0_4.length c0_4, .slice A0_5 l0_5.length c0_5] 27 (0, 0)) (by (with_reducible repeat (first | refine blk_drewN ?_ _ | refine blk_drew ?_ | refine blk_alloc ?_ _)); exact BK270.out) hb)
     have n4_ := Aside0.mk (blk_below (g := gb271) (o := .cells #[.int .i64 0, .int .i64 0] 23 (0, 0)) (by (with_reducible repeat (first | refine blk_drewN ?_ _ | refine blk_drew ?_ | refine blk_alloc ?_ _)); exact BK271.out) hb)
     have n5_ := Aside0.mk (Kd.C_below (by repeat (first | (with_reducible exact HR279_1.out) | (with_reducible refine Kd.C_alloc ?_ _) | (with_reducible refine Kd.C_drewN ?_ _) | (with_reducible refine Kd.C_drew ?_) | exact HR279_1.out)) hb)
     have n6_ := Aside0.mk (Kd.C_below (by repeat (first | (with_reducible exact HR281_1.out) | (with_reducible refine Kd.C_alloc ?_ _) | (with_reducible refine Kd.C_drewN ?_ _) | (with_reducible refine Kd.C_drew ?_) | exact HR281_1.out)) hb)
     have n7_ := Aside0.mk (below_step (by repeat (first | (with_reducible first | exact HB.out | apply below_alloc | apply pw_below_drewN | apply below_drew1 | refine below_set ?_ GE270.out | refine below_set ?_ GE271.out) | exact HB.out)) hb)
     clear HO277
     clear HL279_1
     clear HL281_1
     clear BK270
     clear BK271
     clear HR279_1
     clear HR281_1
     clear HB
     have HO277 := n0_
     have HL279_1 := n1_
     have HL281_1 := n2_
     have BK270 := n3_
     have BK271 := n4_
     have HR279_1 := n5_
     have HR281_1 := n6_
     have HB := n7_
     clear n0_ n1_ n2_ n3_ n4_ n5_ n6_ n7_
     (try clear hb)
     (try clear hb2)
     (try clear hk)
     (try clear hi)
     refine hK.out _ _ ⟨HS0_, HS1_, HS2_, HS3_⟩ (fun hHeld => ?_)
     clear hK K
     refine norm_ (a' := ?_) ?_ ?_
     rotate_left
     ·
      show Act.put _ (some 29) _ = _
      simp only [Act.put, List.setIfInBounds_toArray, List.set_cons_zero, List.set_cons_succ, i64_w, i32_w]
      rfl
     refine two_ (i := 7) (j := 9) (Ni := some 33) (Nj := some 8) #[true, true, true, true, true, true, true, true, false, false, false] #[true, true, true, true, true, true, true, false, false, true, false] rfl rfl rfl rfl (two_of HT_.out (by kernel_rfl)) (by decide) (by decide) (fun K hK => ?_) (fun K hK => ?_)
     ·
      skip
      refine goes_ Try.func56 (by kernel_rfl) rfl #[.agg #[.int .i64 ((rd_T57 t275 0).f0), .slice A279_1 ((rd_T57 t275 0).f1).length c279_1]] (by rfl) rfl rfl (by (try simp only [List.map_toArray, List.map_cons, List.map_nil]); first | done | rfl | (simp only [List.length_drop, List.length_take]; rfl)) ?_
      with_reducible refine (helioscoperef01_Wolf.calls k ((rd_T57 t275 0).f0) _ _ ((rd_T57 t275 0).f1) t282 _ ?side1 ?side2 A7.out).mono ?_
      (case side1 => repeat (first | exact (by repeat (first | (with_reducible exact HR281_1.out) | (with_reducible refine Kd.C_alloc ?_ _) | (with_reducible refine Kd.C_drewN ?_ _) | (with_reducible refine Kd.C_drew ?_) | exact HR281_1.out)) | (with_reducible refine Kd.C_alloc ?_ _) | (with_reducible refine Kd.C_drewN ?_ _) | (with_reducible refine Kd.C_drew ?_)))
      (case side2 => exact HC281_1.out)
      rintro e w18 ⟨rfl, hb⟩
      have HS0_ := (hb.cell (World.block_lt_of_cell? _ _ (hHeld.1))).trans (hHeld.1)
      have HS1_ := (hb.cell (World.block_lt_of_cell? _ _ (hHeld.2.1))).trans (hHeld.2.1)
      have HS2_ := (hb.cell (World.block_lt_of_cell? _ _ (hHeld.2.2.1))).trans (hHeld.2.2.1)
      have HS3_ := (hb.cell (World.block_lt_of_cell? _ _ (hHeld.2.2.2))).trans (hHeld.2.2.2)
      refine ⟨_, rfl, ?_⟩
      have n0_ := Aside0.mk (Kd.N_below (by (with_reducible repeat (first | apply Kd.N_alloc | apply Kd.N_drewN | apply Kd.N_drew)); exact HO277.out) hb)
      have n1_ := Aside0.mk (Kd.V_below (by (with_reducible repeat (first | apply Kd.V_alloc | apply Kd.V_drewN | apply Kd.V_drew)); exact HL279_1.out) hb)
      have n2_ := Aside0.mk (Kd.V_below (by (with_reducible repeat (first | apply Kd.V_alloc | apply Kd.V_drewN | apply Kd.V_drew)); exact HL281_1.out) hb)
      have n3_ := Aside0.mk (blk_below (g := gb270) (o := .cells #[.string a0_0, .int .i64 a0_1, .int .i64 a0_2, .int .i64 a0_3, .slice A0_4 l0_4.length c0_4, .slice A0_5 l0_5.length c0_5] 27 (0, 0)) (by (with_reducible repeat (first | refine blk_drewN ?_ _ | refine blk_drew ?_ | refine blk_alloc ?_ _)); exact BK270.out) hb)
      have n4_ := Aside0.mk (blk_below (g := gb271) (o := .cells #[.int .i64 0, .int .i64 0] 23 (0, 0)) (by (with_reducible repeat (first | refine blk_drewN ?_ _ | refine blk_drew ?_ | refine blk_alloc ?_ _)); exact BK271.out) hb)
      have n5_ := Aside0.mk (Kd.C_below (by repeat (first | (with_reducible exact HR279_1.out) | (with_reducible refine Kd.C_alloc ?_ _) | (with_reducible refine Kd.C_drewN ?_ _) | (with_reducible refine Kd.C_drew ?_) | exact HR279_1.out)) hb)
      have n6_ := Aside0.mk (Kd.C_below (by repeat (first | (with_reducible exact HR281_1.out) | (with_reducible refine Kd.C_alloc ?_ _) | (with_reducible refine Kd.C_drewN ?_ _) | (with_reducible refine Kd.C_drew ?_) | exact HR281_1.out)) hb)
      have n7_ := Aside0.mk (below_step (by repeat (first | (with_reducible first | exact HB.out | apply below_alloc | apply pw_below_drewN | apply below_drew1 | refine below_set ?_ GE270.out | refine below_set ?_ GE271.out) | exact HB.out)) hb)
      clear HO277
      clear HL279_1
      clear HL281_1
      clear BK270
      clear BK271
      clear HR279_1
      clear HR281_1
      clear HB
      have HO277 := n0_
      have HL279_1 := n1_
      have HL281_1 := n2_
      have BK270 := n3_
      have BK271 := n4_
      have HR279_1 := n5_
      have HR281_1 := n6_
      have HB := n7_
      clear n0_ n1_ n2_ n3_ n4_ n5_ n6_ n7_
      (try clear hb)
      (try clear hb2)
      (try clear hk)
      (try clear hi)
      refine hK.out _ _ ⟨HS0_, HS1_, HS2_, HS3_⟩ (fun hHeld => ?_)
      clear hK K
      refine norm_ (a' := ?_) ?_ ?_
      rotate_left
      ·
       show Act.put _ (some 33) _ = _
       simp only [Act.put, List.setIfInBounds_toArray, List.set_cons_zero, List.set_cons_succ, i64_w, i32_w]
       rfl
      refine pure_ (i := 8) (N := some 34) (v := ?_) (a' := ?_) #[true, true, true, true, true, true, true, true, true, false, false] rfl rfl (any_of HT_.out (by kernel_rfl)) (fun _ _ _ h => h) (Or.inl ⟨by rfl, ?_⟩) ?_ ?_
      rotate_left
      ·
       intro w'
       go_simp
       with_reducible rfl
      rotate_left
      ·
       simp only [Act.put, List.setIfInBounds_toArray, List.set_cons_zero, List.set_cons_succ, i64_w, i32_w]
       rfl
      refine one_ (i := 9) (N := some 8) #[true, true, true, true, true, true, true, true, true, true, false] rfl rfl (one_of HT_.out (by kernel_rfl)) (by decide) (fun K hK => ?_)
      refine box_step ?hg (N := 8) ?hd (cs := #[.int .i64 0, .int .i64 0]) (t := 23) ?hr ?_; (case hd => rfl); (case hg => rfl); (case hr => first | (go_simp; done) | (go_simp; rfl))
      intro gb283 hg w19 hbox hb
      have HS0_ := (hb.cell (World.block_lt_of_cell? _ _ (hHeld.1))).trans (hHeld.1)
      have HS1_ := (hb.cell (World.block_lt_of_cell? _ _ (hHeld.2.1))).trans (hHeld.2.1)
      have HS2_ := (hb.cell (World.block_lt_of_cell? _ _ (hHeld.2.2.1))).trans (hHeld.2.2.1)
      have HS3_ := (hb.cell (World.block_lt_of_cell? _ _ (hHeld.2.2.2))).trans (hHeld.2.2.2)
      have n0_ := Aside0.mk (Kd.N_below (Kd.N_elderB (by (with_reducible repeat (first | apply Kd.N_alloc | apply Kd.N_drewN | apply Kd.N_drew)); exact HO277.out) gb283 (Nat.le_of_eq hg.symm)) hb)
      have n1_ := Aside0.mk (Kd.V_below (Kd.V_elderB (by (with_reducible repeat (first | apply Kd.V_alloc | apply Kd.V_drewN | apply Kd.V_drew)); exact HL279_1.out) gb283 (Nat.le_of_eq hg.symm)) hb)
      have n2_ := Aside0.mk (Kd.V_below (Kd.V_elderB (by (with_reducible repeat (first | apply Kd.V_alloc | apply Kd.V_drewN | apply Kd.V_drew)); exact HL281_1.out) gb283 (Nat.le_of_eq hg.symm)) hb)
      have n3_ := Aside0.mk (blk_below (g := gb270) (o := .cells #[.string a0_0, .int .i64 a0_1, .int .i64 a0_2, .int .i64 a0_3, .slice A0_4 l0_4.length c0_4, .slice A0_5 l0_5.length c0_5] 27 (0, 0)) (by (with_reducible repeat (first | refine blk_drewN ?_ _ | refine blk_drew ?_ | refine blk_alloc ?_ _)); exact BK270.out) hb)
      have n4_ := Aside0.mk (blk_below (g := gb271) (o := .cells #[.int .i64 0, .int .i64 0] 23 (0, 0)) (by (with_reducible repeat (first | refine blk_drewN ?_ _ | refine blk_drew ?_ | refine blk_alloc ?_ _)); exact BK271.out) hb)
      have n5_ := Aside0.mk (Kd.C_below (by repeat (first | (with_reducible exact HR279_1.out) | (with_reducible refine Kd.C_alloc ?_ _) | (with_reducible refine Kd.C_drewN ?_ _) | (with_reducible refine Kd.C_drew ?_) | exact HR279_1.out)) hb)
      have n6_ := Aside0.mk (Kd.C_below (by repeat (first | (with_reducible exact HR281_1.out) | (with_reducible refine Kd.C_alloc ?_ _) | (with_reducible refine Kd.C_drewN ?_ _) | (with_reducible refine Kd.C_drew ?_) | exact HR281_1.out)) hb)
      have n7_ := Aside0.mk (below_step (by repeat (first | (with_reducible first | exact HB.out | apply below_alloc | apply pw_below_drewN | apply below_drew1 | refine below_set ?_ GE270.out | refine below_set ?_ GE271.out) | exact HB.out)) hb)
      have n8_ := Aside0.mk (hbox)
      have n9_ := Aside0.mk ((by rw [hg]; exact (below_size (by repeat (first | (with_reducible first | exact HB.out | apply below_alloc | apply pw_below_drewN | apply below_drew1 | refine below_set ?_ GE270.out | refine below_set ?_ GE271.out) | exact HB.out))) : w.heap.size ≤ gb283))
      have n10_ := Aside0.mk ((by rw [hg]; exact (below_size (by repeat (first | (with_reducible first | exact HB.out | apply below_alloc | apply pw_below_drewN | apply below_drew1 | refine below_set ?_ GE270.out | refine below_set ?_ GE271.out) | exact HB.out))) : w.heap.size ≤ gb283))
      have n11_ := Aside0.mk ((by rw [hg]; exact Nat.ne_of_lt (blk_lt (g := gb270) (o := .cells #[.string a0_0, .int .i64 a0_1, .int .i64 a0_2, .int .i64 a0_3, .slice A0_4 l0_4.length c0_4, .slice A0_5 l0_5.length c0_5] 27 (0, 0)) (by (with_reducible repeat (first | refine blk_drewN ?_ _ | refine blk_drew ?_ | refine blk_alloc ?_ _)); exact BK270.out)) : gb270 ≠ gb283))
      have n12_ := Aside0.mk ((by rw [hg]; exact Nat.ne_of_gt (blk_lt (g := gb270) (o := .cells #[.string a0_0, .int .i64 a0_1, .int .i64 a0_2, .int .i64 a0_3, .slice A0_4 l0_4.length c0_4, .slice A0_5 l0_5.length c0_5] 27 (0, 0)) (by (with_reducible repeat (first | refine blk_drewN ?_ _ | refine blk_drew ?_ | refine blk_alloc ?_ _)); exact BK270.out)) : gb283 ≠ gb270))
      have n13_ := Aside0.mk ((by rw [hg]; exact Nat.ne_of_lt (blk_lt (g := gb271) (o := .cells #[.int .i64 0, .int .i64 0] 23 (0, 0)) (by (with_reducible repeat (first | refine blk_drewN ?_ _ | refine blk_drew ?_ | refine blk_alloc ?_ _)); exact BK271.out)) : gb271 ≠ gb283))
      have n14_ := Aside0.mk ((by rw [hg]; exact Nat.ne_of_gt (blk_lt (g := gb271) (o := .cells #[.int .i64 0, .int .i64 0] 23 (0, 0)) (by (with_reducible repeat (first | refine blk_drewN ?_ _ | refine blk_drew ?_ | refine blk_alloc ?_ _)); exact BK271.out)) : gb283 ≠ gb271))
      clear HO277
      clear HL279_1
      clear HL281_1
      clear BK270
      clear BK271
      clear HR279_1
      clear HR281_1
      clear HB
      have HO277 := n0_
      have HL279_1 := n1_
      have HL281_1 := n2_
      have BK270 := n3_
      have BK271 := n4_
      have HR279_1 := n5_
      have HR281_1 := n6_
      have HB := n7_
      have BK283 := n8_
      have GW283 := n9_
      have GE283 := n10_
      have NB270_283 := n11_
      have NB283_270 := n12_
      have NB271_283 := n13_
      have NB283_271 := n14_
      clear n0_ n1_ n2_ n3_ n4_ n5_ n6_ n7_ n8_ n9_ n10_ n11_ n12_ n13_ n14_
      clear hb hbox hg
      refine hK.out _ _ ⟨HS0_, HS1_, HS2_, HS3_⟩ (fun hHeld => ?_)
      clear hK K
      refine norm_ (a' := ?_) ?_ ?_
      rotate_left
      ·
       show Act.put _ (some 8) _ = _
       simp only [Act.put, List.setIfInBounds_toArray, List.set_cons_zero, List.set_cons_succ, i64_w, i32_w]
       rfl
      exact norm_ (by simp only [putAll, Act.put, List.setIfInBounds_toArray, List.set_cons_zero, List.set_cons_succ]) (hCont (gb283) _ ⟨hHeld, (by (with_reducible repeat (first | apply Kd.V_alloc | apply Kd.V_drewN | apply Kd.V_drew)); exact Kd.V_mono HL279_1.out (fun _ hk => ⟨hk.1.2, ⟨hk.1.1.1, ⟨hk.1.1.2, hk.2⟩⟩⟩)), (by (with_reducible repeat (first | apply Kd.V_alloc | apply Kd.V_drewN | apply Kd.V_drew)); exact Kd.V_mono HL281_1.out (fun _ hk => ⟨hk.1.2, ⟨hk.1.1.1, ⟨hk.1.1.2, hk.2⟩⟩⟩)), (by (with_reducible repeat (first | apply Kd.N_alloc | apply Kd.N_drewN | apply Kd.N_drew)); exact Kd.N_mono HO277.out (fun _ hk => ⟨hk.1.1, ⟨hk.1.2, hk.2⟩⟩)), (by (with_reducible repeat (first | refine blk_drewN ?_ _ | refine blk_drew ?_ | refine blk_alloc ?_ _)); exact BK270.out), (by (with_reducible repeat (first | refine blk_drewN ?_ _ | refine blk_drew ?_ | refine blk_alloc ?_ _)); exact BK271.out), (by (with_reducible repeat (first | refine blk_drewN ?_ _ | refine blk_drew ?_ | refine blk_alloc ?_ _)); exact BK283.out), GW283.out, GE283.out, NB270_283.out, NB283_270.out, NB271_283.out, NB283_271.out, (by repeat (first | (with_reducible first | exact HB.out | apply below_alloc | apply pw_below_drewN | apply below_drew1 | refine below_set ?_ GE270.out | refine below_set ?_ GE271.out | refine below_set ?_ GE283.out) | exact HB.out))⟩)
     ·
      skip
      refine box_step ?hg (N := 8) ?hd (cs := #[.int .i64 0, .int .i64 0]) (t := 23) ?hr ?_; (case hd => rfl); (case hg => rfl); (case hr => first | (go_simp; done) | (go_simp; rfl))
      intro gb283 hg w18 hbox hb
      have HS0_ := (hb.cell (World.block_lt_of_cell? _ _ (hHeld.1))).trans (hHeld.1)
      have HS1_ := (hb.cell (World.block_lt_of_cell? _ _ (hHeld.2.1))).trans (hHeld.2.1)
      have HS2_ := (hb.cell (World.block_lt_of_cell? _ _ (hHeld.2.2.1))).trans (hHeld.2.2.1)
      have HS3_ := (hb.cell (World.block_lt_of_cell? _ _ (hHeld.2.2.2))).trans (hHeld.2.2.2)
      have n0_ := Aside0.mk (Kd.N_below (Kd.N_elderB (by (with_reducible repeat (first | apply Kd.N_alloc | apply Kd.N_drewN | apply Kd.N_drew)); exact HO277.out) gb283 (Nat.le_of_eq hg.symm)) hb)
      have n1_ := Aside0.mk (Kd.V_below (Kd.V_elderB (by (with_reducible repeat (first | apply Kd.V_alloc | apply Kd.V_drewN | apply Kd.V_drew)); exact HL279_1.out) gb283 (Nat.le_of_eq hg.symm)) hb)
      have n2_ := Aside0.mk (Kd.V_below (Kd.V_elderB (by (with_reducible repeat (first | apply Kd.V_alloc | apply Kd.V_drewN | apply Kd.V_drew)); exact HL281_1.out) gb283 (Nat.le_of_eq hg.symm)) hb)
      have n3_ := Aside0.mk (blk_below (g := gb270) (o := .cells #[.string a0_0, .int .i64 a0_1, .int .i64 a0_2, .int .i64 a0_3, .slice A0_4 l0_4.length c0_4, .slice A0_5 l0_5.length c0_5] 27 (0, 0)) (by (with_reducible repeat (first | refine blk_drewN ?_ _ | refine blk_drew ?_ | refine blk_alloc ?_ _)); exact BK270.out) hb)
      have n4_ := Aside0.mk (blk_below (g := gb271) (o := .cells #[.int .i64 0, .int .i64 0] 23 (0, 0)) (by (with_reducible repeat (first | refine blk_drewN ?_ _ | refine blk_drew ?_ | refine blk_alloc ?_ _)); exact BK271.out) hb)
      have n5_ := Aside0.mk (Kd.C_below (by repeat (first | (with_reducible exact HR279_1.out) | (with_reducible refine Kd.C_alloc ?_ _) | (with_reducible refine Kd.C_drewN ?_ _) | (with_reducible refine Kd.C_drew ?_) | exact HR279_1.out)) hb)
      have n6_ := Aside0.mk (Kd.C_below (by repeat (first | (with_reducible exact HR281_1.out) | (with_reducible refine Kd.C_alloc ?_ _) | (with_reducible refine Kd.C_drewN ?_ _) | (with_reducible refine Kd.C_drew ?_) | exact HR281_1.out)) hb)
      have n7_ := Aside0.mk (below_step (by repeat (first | (with_reducible first | exact HB.out | apply below_alloc | apply pw_below_drewN | apply below_drew1 | refine below_set ?_ GE270.out | refine below_set ?_ GE271.out) | exact HB.out)) hb)
      have n8_ := Aside0.mk (hbox)
      have n9_ := Aside0.mk ((by rw [hg]; exact (below_size (by repeat (first | (with_reducible first | exact HB.out | apply below_alloc | apply pw_below_drewN | apply below_drew1 | refine below_set ?_ GE270.out | refine below_set ?_ GE271.out) | exact HB.out))) : w.heap.size ≤ gb283))
      have n10_ := Aside0.mk ((by rw [hg]; exact (below_size (by repeat (first | (with_reducible first | exact HB.out | apply below_alloc | apply pw_below_drewN | apply below_drew1 | refine below_set ?_ GE270.out | refine below_set ?_ GE271.out) | exact HB.out))) : w.heap.size ≤ gb283))
      have n11_ := Aside0.mk ((by rw [hg]; exact Nat.ne_of_lt (blk_lt (g := gb270) (o := .cells #[.string a0_0, .int .i64 a0_1, .int .i64 a0_2, .int .i64 a0_3, .slice A0_4 l0_4.length c0_4, .slice A0_5 l0_5.length c0_5] 27 (0, 0)) (by (with_reducible repeat (first | refine blk_drewN ?_ _ | refine blk_drew ?_ | refine blk_alloc ?_ _)); exact BK270.out)) : gb270 ≠ gb283))
      have n12_ := Aside0.mk ((by rw [hg]; exact Nat.ne_of_gt (blk_lt (g := gb270) (o := .cells #[.string a0_0, .int .i64 a0_1, .int .i64 a0_2, .int .i64 a0_3, .slice A0_4 l0_4.length c0_4, .slice A0_5 l0_5.length c0_5] 27 (0, 0)) (by (with_reducible repeat (first | refine blk_drewN ?_ _ | refine blk_drew ?_ | refine blk_alloc ?_ _)); exact BK270.out)) : gb283 ≠ gb270))
      have n13_ := Aside0.mk ((by rw [hg]; exact Nat.ne_of_lt (blk_lt (g := gb271) (o := .cells #[.int .i64 0, .int .i64 0] 23 (0, 0)) (by (with_reducible repeat (first | refine blk_drewN ?_ _ | refine blk_drew ?_ | refine blk_alloc ?_ _)); exact BK271.out)) : gb271 ≠ gb283))
      have n14_ := Aside0.mk ((by rw [hg]; exact Nat.ne_of_gt (blk_lt (g := gb271) (o := .cells #[.int .i64 0, .int .i64 0] 23 (0, 0)) (by (with_reducible repeat (first | refine blk_drewN ?_ _ | refine blk_drew ?_ | refine blk_alloc ?_ _)); exact BK271.out)) : gb283 ≠ gb271))
      clear HO277
      clear HL279_1
      clear HL281_1
      clear BK270
      clear BK271
      clear HR279_1
      clear HR281_1
      clear HB
      have HO277 := n0_
      have HL279_1 := n1_
      have HL281_1 := n2_
      have BK270 := n3_
      have BK271 := n4_
      have HR279_1 := n5_
      have HR281_1 := n6_
      have HB := n7_
      have BK283 := n8_
      have GW283 := n9_
      have GE283 := n10_
      have NB270_283 := n11_
      have NB283_270 := n12_
      have NB271_283 := n13_
      have NB283_271 := n14_
      clear n0_ n1_ n2_ n3_ n4_ n5_ n6_ n7_ n8_ n9_ n10_ n11_ n12_ n13_ n14_
      clear hb hbox hg
      refine hK.out _ _ ⟨HS0_, HS1_, HS2_, HS3_⟩ (fun hHeld => ?_)
      clear hK K
      refine norm_ (a' := ?_) ?_ ?_
      rotate_left
      ·
       show Act.put _ (some 8) _ = _
       simp only [Act.put, List.setIfInBounds_toArray, List.set_cons_zero, List.set_cons_succ, i64_w, i32_w]
       rfl
      refine one_ (i := 7) (N := some 33) #[true, true, true, true, true, true, true, true, false, true, false] rfl rfl (one_of HT_.out (by kernel_rfl)) (by decide) (fun K hK => ?_)
      refine goes_ Try.func56 (by kernel_rfl) rfl #[.agg #[.int .i64 ((rd_T57 t275 0).f0), .slice A279_1 ((rd_T57 t275 0).f1).length c279_1]] (by rfl) rfl rfl (by (try simp only [List.map_toArray, List.map_cons, List.map_nil]); first | done | rfl | (simp only [List.length_drop, List.length_take]; rfl)) ?_
      with_reducible refine (helioscoperef01_Wolf.calls k ((rd_T57 t275 0).f0) _ _ ((rd_T57 t275 0).f1) t282 _ ?side1 ?side2 A7.out).mono ?_
      (case side1 => repeat (first | exact (by repeat (first | (with_reducible exact HR281_1.out) | (with_reducible refine Kd.C_alloc ?_ _) | (with_reducible refine Kd.C_drewN ?_ _) | (with_reducible refine Kd.C_drew ?_) | exact HR281_1.out)) | (with_reducible refine Kd.C_alloc ?_ _) | (with_reducible refine Kd.C_drewN ?_ _) | (with_reducible refine Kd.C_drew ?_)))
      (case side2 => exact HC281_1.out)
      rintro e w19 ⟨rfl, hb⟩
      have HS0_ := (hb.cell (World.block_lt_of_cell? _ _ (hHeld.1))).trans (hHeld.1)
      have HS1_ := (hb.cell (World.block_lt_of_cell? _ _ (hHeld.2.1))).trans (hHeld.2.1)
      have HS2_ := (hb.cell (World.block_lt_of_cell? _ _ (hHeld.2.2.1))).trans (hHeld.2.2.1)
      have HS3_ := (hb.cell (World.block_lt_of_cell? _ _ (hHeld.2.2.2))).trans (hHeld.2.2.2)
      refine ⟨_, rfl, ?_⟩
      have n0_ := Aside0.mk (Kd.N_below (by (with_reducible repeat (first | apply Kd.N_alloc | apply Kd.N_drewN | apply Kd.N_drew)); exact HO277.out) hb)
      have n1_ := Aside0.mk (Kd.V_below (by (with_reducible repeat (first | apply Kd.V_alloc | apply Kd.V_drewN | apply Kd.V_drew)); exact HL279_1.out) hb)
      have n2_ := Aside0.mk (Kd.V_below (by (with_reducible repeat (first | apply Kd.V_alloc | apply Kd.V_drewN | apply Kd.V_drew)); exact HL281_1.out) hb)
      have n3_ := Aside0.mk (blk_below (g := gb270) (o := .cells #[.string a0_0, .int .i64 a0_1, .int .i64 a0_2, .int .i64 a0_3, .slice A0_4 l0_4.length c0_4, .slice A0_5 l0_5.length c0_5] 27 (0, 0)) (by (with_reducible repeat (first | refine blk_drewN ?_ _ | refine blk_drew ?_ | refine blk_alloc ?_ _)); exact BK270.out) hb)
      have n4_ := Aside0.mk (blk_below (g := gb271) (o := .cells #[.int .i64 0, .int .i64 0] 23 (0, 0)) (by (with_reducible repeat (first | refine blk_drewN ?_ _ | refine blk_drew ?_ | refine blk_alloc ?_ _)); exact BK271.out) hb)
      have n5_ := Aside0.mk (Kd.C_below (by repeat (first | (with_reducible exact HR279_1.out) | (with_reducible refine Kd.C_alloc ?_ _) | (with_reducible refine Kd.C_drewN ?_ _) | (with_reducible refine Kd.C_drew ?_) | exact HR279_1.out)) hb)
      have n6_ := Aside0.mk (Kd.C_below (by repeat (first | (with_reducible exact HR281_1.out) | (with_reducible refine Kd.C_alloc ?_ _) | (with_reducible refine Kd.C_drewN ?_ _) | (with_reducible refine Kd.C_drew ?_) | exact HR281_1.out)) hb)
      have n7_ := Aside0.mk (blk_below (g := gb283) (o := .cells #[.int .i64 0, .int .i64 0] 23 (0, 0)) (by (with_reducible repeat (first | refine blk_drewN ?_ _ | refine blk_drew ?_ | refine blk_alloc ?_ _)); exact BK283.out) hb)
      have n8_ := Aside0.mk (below_step (by repeat (first | (with_reducible first | exact HB.out | apply below_alloc | apply pw_below_drewN | apply below_drew1 | refine below_set ?_ GE270.out | refine below_set ?_ GE271.out | refine below_set ?_ GE283.out) | exact HB.out)) hb)
      clear HO277
      clear HL279_1
      clear HL281_1
      clear BK270
      clear BK271
      clear HR279_1
      clear HR281_1
      clear BK283
      clear HB
      have HO277 := n0_
      have HL279_1 := n1_
      have HL281_1 := n2_
      have BK270 := n3_
      have BK271 := n4_
      have HR279_1 := n5_
      have HR281_1 := n6_
      have BK283 := n7_
      have HB := n8_
      clear n0_ n1_ n2_ n3_ n4_ n5_ n6_ n7_ n8_
      (try clear hb)
      (try clear hb2)
      (try clear hk)
      (try clear hi)
      refine hK.out _ _ ⟨HS0_, HS1_, HS2_, HS3_⟩ (fun hHeld => ?_)
      clear hK K
      refine norm_ (a' := ?_) ?_ ?_
      rotate_left
      ·
       show Act.put _ (some 33) _ = _
       simp only [Act.put, List.setIfInBounds_toArray, List.set_cons_zero, List.set_cons_succ, i64_w, i32_w]
       rfl
      refine pure_ (i := 8) (N := some 34) (v := ?_) (a' := ?_) #[true, true, true, true, true, true, true, true, true, true, false] rfl rfl (any_of HT_.out (by kernel_rfl)) (fun _ _ _ h => h) (Or.inl ⟨by rfl, ?_⟩) ?_ ?_
      rotate_left
      ·
       intro w'
       go_simp
       with_reducible rfl
      rotate_left
      ·
       simp only [Act.put, List.setIfInBounds_toArray, List.set_cons_zero, List.set_cons_succ, i64_w, i32_w]
       rfl
      exact norm_ (by simp only [putAll, Act.put, List.setIfInBounds_toArray, List.set_cons_zero, List.set_cons_succ]) (hCont (gb283) _ ⟨hHeld, (by (with_reducible repeat (first | apply Kd.V_alloc | apply Kd.V_drewN | apply Kd.V_drew)); exact Kd.V_mono HL279_1.out (fun _ hk => ⟨hk.1.2, ⟨hk.1.1.1, ⟨hk.1.1.2, hk.2⟩⟩⟩)), (by (with_reducible repeat (first | apply Kd.V_alloc | apply Kd.V_drewN | apply Kd.V_drew)); exact Kd.V_mono HL281_1.out (fun _ hk => ⟨hk.1.2, ⟨hk.1.1.1, ⟨hk.1.1.2, hk.2⟩⟩⟩)), (by (with_reducible repeat (first | apply Kd.N_alloc | apply Kd.N_drewN | apply Kd.N_drew)); exact Kd.N_mono HO277.out (fun _ hk => ⟨hk.1.1, ⟨hk.1.2, hk.2⟩⟩)), (by (with_reducible repeat (first | refine blk_drewN ?_ _ | refine blk_drew ?_ | refine blk_alloc ?_ _)); exact BK270.out), (by (with_reducible repeat (first | refine blk_drewN ?_ _ | refine blk_drew ?_ | refine blk_alloc ?_ _)); exact BK271.out), (by (with_reducible repeat (first | refine blk_drewN ?_ _ | refine blk_drew ?_ | refine blk_alloc ?_ _)); exact BK283.out), GW283.out, GE283.out, NB270_283.out, NB283_270.out, NB271_283.out, NB283_271.out, (by repeat (first | (with_reducible first | exact HB.out | apply below_alloc | apply pw_below_drewN | apply below_drew1 | refine below_set ?_ GE270.out | refine below_set ?_ GE271.out | refine below_set ?_ GE283.out) | exact HB.out))⟩)
    ·
     skip
     refine box_step ?hg (N := 8) ?hd (cs := #[.int .i64 0, .int .i64 0]) (t := 23) ?hr ?_; (case hd => rfl); (case hg => rfl); (case hr => first | (go_simp; done) | (go_simp; rfl))
     intro gb283 hg w17 hbox hb
     have HS0_ := (hb.cell (World.block_lt_of_cell? _ _ (hHeld.1))).trans (hHeld.1)
     have HS1_ := (hb.cell (World.block_lt_of_cell? _ _ (hHeld.2.1))).trans (hHeld.2.1)
     have HS2_ := (hb.cell (World.block_lt_of_cell? _ _ (hHeld.2.2.1))).trans (hHeld.2.2.1)
     have HS3_ := (hb.cell (World.block_lt_of_cell? _ _ (hHeld.2.2.2))).trans (hHeld.2.2.2)
     have n0_ := Aside0.mk (Kd.N_below (Kd.N_elderB (by (with_reducible repeat (first | apply Kd.N_alloc | apply Kd.N_drewN | apply Kd.N_drew)); exact HO277.out) gb283 (Nat.le_of_eq hg.symm)) hb)
     have n1_ := Aside0.mk (Kd.V_below (Kd.V_elderB (by (with_reducible repeat (first | apply Kd.V_alloc | apply Kd.V_drewN | apply Kd.V_drew)); exact HL279_1.out) gb283 (Nat.le_of_eq hg.symm)) hb)
     have n2_ := Aside0.mk (Kd.V_below (Kd.V_elderB (by (with_reducible repeat (first | apply Kd.V_alloc | apply Kd.V_drewN | apply Kd.V_drew)); exact HL281_1.out) gb283 (Nat.le_of_eq hg.symm)) hb)
     have n3_ := Aside0.mk (blk_below (g := gb270) (o := .cells #[.string a0_0, .int .i64 a0_1, .int .i64 a0_2, .int .i64 a0_3, .slice A0_4 l0_4.length c0_4, .slice A0_5 l0_5.length c0_5] 27 (0, 0)) (by (with_reducible repeat (first | refine blk_drewN ?_ _ | refine blk_drew ?_ | refine blk_alloc ?_ _)); exact BK270.out) hb)
     have n4_ := Aside0.mk (blk_below (g := gb271) (o := .cells #[.int .i64 0, .int .i64 0] 23 (0, 0)) (by (with_reducible repeat (first | refine blk_drewN ?_ _ | refine blk_drew ?_ | refine blk_alloc ?_ _)); exact BK271.out) hb)
     have n5_ := Aside0.mk (Kd.C_below (by repeat (first | (with_reducible exact HR279_1.out) | (with_reducible refine Kd.C_alloc ?_ _) | (with_reducible refine Kd.C_drewN ?_ _) | (with_reducible refine Kd.C_drew ?_) | exact HR279_1.out)) hb)
     have n6_ := Aside0.mk (Kd.C_below (by repeat (first | (with_reducible exact HR281_1.out) | (with_reducible refine Kd.C_alloc ?_ _) | (with_reducible refine Kd.C_drewN ?_ _) | (with_reducible refine Kd.C_drew ?_) | exact HR281_1.out)) hb)
     have n7_ := Aside0.mk (below_step (by repeat (first | (with_reducible first | exact HB.out | apply below_alloc | apply pw_below_drewN | apply below_drew1 | refine below_set ?_ GE270.out | refine below_set ?_ GE271.out) | exact HB.out)) hb)
     have n8_ := Aside0.mk (hbox)
     have n9_ := Aside0.mk ((by rw [hg]; exact (below_size (by repeat (first | (with_reducible first | exact HB.out | apply below_alloc | apply pw_below_drewN | apply below_drew1 | refine below_set ?_ GE270.out | refine below_set ?_ GE271.out) | exact HB.out))) : w.heap.size ≤ gb283))
     have n10_ := Aside0.mk ((by rw [hg]; exact (below_size (by repeat (first | (with_reducible first | exact HB.out | apply below_alloc | apply pw_below_drewN | apply below_drew1 | refine below_set ?_ GE270.out | refine below_set ?_ GE271.out) | exact HB.out))) : w.heap.size ≤ gb283))
     have n11_ := Aside0.mk ((by rw [hg]; exact Nat.ne_of_lt (blk_lt (g := gb270) (o := .cells #[.string a0_0, .int .i64 a0_1, .int .i64 a0_2, .int .i64 a0_3, .slice A0_4 l0_4.length c0_4, .slice A0_5 l0_5.length c0_5] 27 (0, 0)) (by (with_reducible repeat (first | refine blk_drewN ?_ _ | refine blk_drew ?_ | refine blk_alloc ?_ _)); exact BK270.out)) : gb270 ≠ gb283))
     have n12_ := Aside0.mk ((by rw [hg]; exact Nat.ne_of_gt (blk_lt (g := gb270) (o := .cells #[.string a0_0, .int .i64 a0_1, .int .i64 a0_2, .int .i64 a0_3, .slice A0_4 l0_4.length c0_4, .slice A0_5 l0_5.length c0_5] 27 (0, 0)) (by (with_reducible repeat (first | refine blk_drewN ?_ _ | refine blk_drew ?_ | refine blk_alloc ?_ _)); exact BK270.out)) : gb283 ≠ gb270))
     have n13_ := Aside0.mk ((by rw [hg]; exact Nat.ne_of_lt (blk_lt (g := gb271) (o := .cells #[.int .i64 0, .int .i64 0] 23 (0, 0)) (by (with_reducible repeat (first | refine blk_drewN ?_ _ | refine blk_drew ?_ | refine blk_alloc ?_ _)); exact BK271.out)) : gb271 ≠ gb283))
     have n14_ := Aside0.mk ((by rw [hg]; exact Nat.ne_of_gt (blk_lt (g := gb271) (o := .cells #[.int .i64 0, .int .i64 0] 23 (0, 0)) (by (with_reducible repeat (first | refine blk_drewN ?_ _ | refine blk_drew ?_ | refine blk_alloc ?_ _)); exact BK271.out)) : gb283 ≠ gb271))
     clear HO277
     clear HL279_1
     clear HL281_1
     clear BK270
     clear BK271
     clear HR279_1
     clear HR281_1
     clear HB
     have HO277 := n0_
     have HL279_1 := n1_
     have HL281_1 := n2_
     have BK270 := n3_
     have BK271 := n4_
     have HR279_1 := n5_
     have HR281_1 := n6_
     have HB := n7_
     have BK283 := n8_
     have GW283 := n9_
     have GE283 := n10_
     have NB270_283 := n11_
     have NB283_270 := n12_
     have NB271_283 := n13_
     have NB283_271 := n14_
     clear n0_ n1_ n2_ n3_ n4_ n5_ n6_ n7_ n8_ n9_ n10_ n11_ n12_ n13_ n14_
     clear hb hbox hg
     refine hK.out _ _ ⟨HS0_, HS1_, HS2_, HS3_⟩ (fun hHeld => ?_)
     clear hK K
     refine norm_ (a' := ?_) ?_ ?_
     rotate_left
     ·
      show Act.put _ (some 8) _ = _
      simp only [Act.put, List.setIfInBounds_toArray, List.set_cons_zero, List.set_cons_succ, i64_w, i32_w]
      rfl
     refine one_ (i := 3) (N := some 29) #[true, true, true, true, true, true, true, false, false, true, false] rfl rfl (one_of HT_.out (by kernel_rfl)) (by decide) (fun K hK => ?_)
     refine goes_ Try.func56 (by kernel_rfl) rfl #[.agg #[.int .i64 ((rd_T57 t275 0).f0), .slice A279_1 ((rd_T57 t275 0).f1).length c279_1]] (by rfl) rfl rfl (by (try simp only [List.map_toArray, List.map_cons, List.map_nil]); first | done | rfl | (simp only [List.length_drop, List.length_take]; rfl)) ?_
     with_reducible refine (helioscoperef01_Wolf.calls k ((rd_T57 t275 0).f0) _ _ ((rd_T57 t275 0).f1) t280 _ ?side1 ?side2 A6.out).mono ?_
     (case side1 => repeat (first | exact (by repeat (first | (with_reducible exact HR279_1.out) | (with_reducible refine Kd.C_alloc ?_ _) | (with_reducible refine Kd.C_drewN ?_ _) | (with_reducible refine Kd.C_drew ?_) | exact HR279_1.out)) | (with_reducible refine Kd.C_alloc ?_ _) | (with_reducible refine Kd.C_drewN ?_ _) | (with_reducible refine Kd.C_drew ?_)))
     (case side2 => exact HC279_1.out)
     rintro e w18 ⟨rfl, hb⟩
     have HS0_ := (hb.cell (World.block_lt_of_cell? _ _ (hHeld.1))).trans (hHeld.1)
     have HS1_ := (hb.cell (World.block_lt_of_cell? _ _ (hHeld.2.1))).trans (hHeld.2.1)
     have HS2_ := (hb.cell (World.block_lt_of_cell? _ _ (hHeld.2.2.1))).trans (hHeld.2.2.1)
     have HS3_ := (hb.cell (World.block_lt_of_cell? _ _ (hHeld.2.2.2))).trans (hHeld.2.2.2)
     refine ⟨_, rfl, ?_⟩
     have n0_ := Aside0.mk (Kd.N_below (by (with_reducible repeat (first | apply Kd.N_alloc | apply Kd.N_drewN | apply Kd.N_drew)); exact HO277.out) hb)
     have n1_ := Aside0.mk (Kd.V_below (by (with_reducible repeat (first | apply Kd.V_alloc | apply Kd.V_drewN | apply Kd.V_drew)); exact HL279_1.out) hb)
     have n2_ := Aside0.mk (Kd.V_below (by (with_reducible repeat (first | apply Kd.V_alloc | apply Kd.V_drewN | apply Kd.V_drew)); exact HL281_1.out) hb)
     have n3_ := Aside0.mk (blk_below (g := gb270) (o := .cells #[.string a0_0, .int .i64 a0_1, .int .i64 a0_2, .int .i64 a0_3, .slice A0_4 l0_4.length c0_4, .slice A0_5 l0_5.length c0_5] 27 (0, 0)) (by (with_reducible repeat (first | refine blk_drewN ?_ _ | refine blk_drew ?_ | refine blk_alloc ?_ _)); exact BK270.out) hb)
     have n4_ := Aside0.mk (blk_below (g := gb271) (o := .cells #[.int .i64 0, .int .i64 0] 23 (0, 0)) (by (with_reducible repeat (first | refine blk_drewN ?_ _ | refine blk_drew ?_ | refine blk_alloc ?_ _)); exact BK271.out) hb)
     have n5_ := Aside0.mk (Kd.C_below (by repeat (first | (with_reducible exact HR279_1.out) | (with_reducible refine Kd.C_alloc ?_ _) | (with_reducible refine Kd.C_drewN ?_ _) | (with_reducible refine Kd.C_drew ?_) | exact HR279_1.out)) hb)
     have n6_ := Aside0.mk (Kd.C_below (by repeat (first | (with_reducible exact HR281_1.out) | (with_reducible refine Kd.C_alloc ?_ _) | (with_reducible refine Kd.C_drewN ?_ _) | (with_reducible refine Kd.C_drew ?_) | exact HR281_1.out)) hb)
     have n7_ := Aside0.mk (blk_below (g := gb283) (o := .cells #[.int .i64 0, .int .i64 0] 23 (0, 0)) (by (with_reducible repeat (first | refine blk_drewN ?_ _ | refine blk_drew ?_ | refine blk_alloc ?_ _)); exact BK283.out) hb)
     have n8_ := Aside0.mk (below_step (by repeat (first | (with_reducible first | exact HB.out | apply below_alloc | apply pw_below_drewN | apply below_drew1 | refine below_set ?_ GE270.out | refine below_set ?_ GE271.out | refine below_set ?_ GE283.out) | exact HB.out)) hb)
     clear HO277
     clear HL279_1
     clear HL281_1
     clear BK270
     clear BK271
     clear HR279_1
     clear HR281_1
     clear BK283
     clear HB
     have HO277 := n0_
     have HL279_1 := n1_
     have HL281_1 := n2_
     have BK270 := n3_
     have BK271 := n4_
     have HR279_1 := n5_
     have HR281_1 := n6_
     have BK283 := n7_
     have HB := n8_
     clear n0_ n1_ n2_ n3_ n4_ n5_ n6_ n7_ n8_
     (try clear hb)
     (try clear hb2)
     (try clear hk)
     (try clear hi)
     refine hK.out _ _ ⟨HS0_, HS1_, HS2_, HS3_⟩ (fun hHeld => ?_)
     clear hK K
     refine norm_ (a' := ?_) ?_ ?_
     rotate_left
     ·
      show Act.put _ (some 29) _ = _
      simp only [Act.put, List.setIfInBounds_toArray, List.set_cons_zero, List.set_cons_succ, i64_w, i32_w]
      rfl
     refine one_ (i := 7) (N := some 33) #[true, true, true, true, true, true, true, true, false, true, false] rfl rfl (one_of HT_.out (by kernel_rfl)) (by decide) (fun K hK => ?_)
     refine goes_ Try.func56 (by kernel_rfl) rfl #[.agg #[.int .i64 ((rd_T57 t275 0).f0), .slice A279_1 ((rd_T57 t275 0).f1).length c279_1]] (by rfl) rfl rfl (by (try simp only [List.map_toArray, List.map_cons, List.map_nil]); first | done | rfl | (simp only [List.length_drop, List.length_take]; rfl)) ?_
     with_reducible refine (helioscoperef01_Wolf.calls k ((rd_T57 t275 0).f0) _ _ ((rd_T57 t275 0).f1) t282 _ ?side1 ?side2 A7.out).mono ?_
     (case side1 => repeat (first | exact (by repeat (first | (with_reducible exact HR281_1.out) | (with_reducible refine Kd.C_alloc ?_ _) | (with_reducible refine Kd.C_drewN ?_ _) | (with_reducible refine Kd.C_drew ?_) | exact HR281_1.out)) | (with_reducible refine Kd.C_alloc ?_ _) | (with_reducible refine Kd.C_drewN ?_ _) | (with_reducible refine Kd.C_drew ?_)))
     (case side2 => exact HC281_1.out)
     rintro e w19 ⟨rfl, hb⟩
     have HS0_ := (hb.cell (World.block_lt_of_cell? _ _ (hHeld.1))).trans (hHeld.1)
     have HS1_ := (hb.cell (World.block_lt_of_cell? _ _ (hHeld.2.1))).trans (hHeld.2.1)
     have HS2_ := (hb.cell (World.block_lt_of_cell? _ _ (hHeld.2.2.1))).trans (hHeld.2.2.1)
     have HS3_ := (hb.cell (World.block_lt_of_cell? _ _ (hHeld.2.2.2))).trans (hHeld.2.2.2)
     refine ⟨_, rfl, ?_⟩
     have n0_ := Aside0.mk (Kd.N_below (by (with_reducible repeat (first | apply Kd.N_alloc | apply Kd.N_drewN | apply Kd.N_drew)); exact HO277.out) hb)
     have n1_ := Aside0.mk (Kd.V_below (by (with_reducible repeat (first | apply Kd.V_alloc | apply Kd.V_drewN | apply Kd.V_drew)); exact HL279_1.out) hb)
     have n2_ := Aside0.mk (Kd.V_below (by (with_reducible repeat (first | apply Kd.V_alloc | apply Kd.V_drewN | apply Kd.V_drew)); exact HL281_1.out) hb)
     have n3_ := Aside0.mk (blk_below (g := gb270) (o := .cells #[.string a0_0, .int .i64 a0_1, .int .i64 a0_2, .int .i64 a0_3, .slice A0_4 l0_4.length c0_4, .slice A0_5 l0_5.length c0_5] 27 (0, 0)) (by (with_reducible repeat (first | refine blk_drewN ?_ _ | refine blk_drew ?_ | refine blk_alloc ?_ _)); exact BK270.out) hb)
     have n4_ := Aside0.mk (blk_below (g := gb271) (o := .cells #[.int .i64 0, .int .i64 0] 23 (0, 0)) (by (with_reducible repeat (first | refine blk_drewN ?_ _ | refine blk_drew ?_ | refine blk_alloc ?_ _)); exact BK271.out) hb)
     have n5_ := Aside0.mk (Kd.C_below (by repeat (first | (with_reducible exact HR279_1.out) | (with_reducible refine Kd.C_alloc ?_ _) | (with_reducible refine Kd.C_drewN ?_ _) | (with_reducible refine Kd.C_drew ?_) | exact HR279_1.out)) hb)
     have n6_ := Aside0.mk (Kd.C_below (by repeat (first | (with_reducible exact HR281_1.out) | (with_reducible refine Kd.C_alloc ?_ _) | (with_reducible refine Kd.C_drewN ?_ _) | (with_reducible refine Kd.C_drew ?_) | exact HR281_1.out)) hb)
     have n7_ := Aside0.mk (blk_below (g := gb283) (o := .cells #[.int .i64 0, .int .i64 0] 23 (0, 0)) (by (with_reducible repeat (first | refine blk_drewN ?_ _ | refine blk_drew ?_ | refine blk_alloc ?_ _)); exact BK283.out) hb)
     have n8_ := Aside0.mk (below_step (by repeat (first | (with_reducible first | exact HB.out | apply below_alloc | apply pw_below_drewN | apply below_drew1 | refine below_set ?_ GE270.out | refine below_set ?_ GE271.out | refine below_set ?_ GE283.out) | exact HB.out)) hb)
     clear HO277
     clear HL279_1
     clear HL281_1
     clear BK270
     clear BK271
     clear HR279_1
     clear HR281_1
     clear BK283
     clear HB
     have HO277 := n0_
     have HL279_1 := n1_
     have HL281_1 := n2_
     have BK270 := n3_
     have BK271 := n4_
     have HR279_1 := n5_
     have HR281_1 := n6_
     have BK283 := n7_
     have HB := n8_
     clear n0_ n1_ n2_ n3_ n4_ n5_ n6_ n7_ n8_
     (try clear hb)
     (try clear hb2)
     (try clear hk)
     (try clear hi)
     refine hK.out _ _ ⟨HS0_, HS1_, HS2_, HS3_⟩ (fun hHeld => ?_)
     clear hK K
     refine norm_ (a' := ?_) ?_ ?_
     rotate_left
     ·
      show Act.put _ (some 33) _ = _
      simp only [Act.put, List.setIfInBounds_toArray, List.set_cons_zero, List.set_cons_succ, i64_w, i32_w]
      rfl
     refine pure_ (i := 8) (N := some 34) (v := ?_) (a' := ?_) #[true, true, true, true, true, true, true, true, true, true, false] rfl rfl (any_of HT_.out (by kernel_rfl)) (fun _ _ _ h => h) (Or.inl ⟨by rfl, ?_⟩) ?_ ?_
     rotate_left
     ·
      intro w'
      go_simp
      with_reducible rfl
     rotate_left
     ·
      simp only [Act.put, List.setIfInBounds_toArray, List.set_cons_zero, List.set_cons_succ, i64_w, i32_w]
      rfl
     exact norm_ (by simp only [putAll, Act.put, List.setIfInBounds_toArray, List.set_cons_zero, List.set_cons_succ]) (hCont (gb283) _ ⟨hHeld, (by (with_reducible repeat (first | apply Kd.V_alloc | apply Kd.V_drewN | apply Kd.V_drew)); exact Kd.V_mono HL279_1.out (fun _ hk => ⟨hk.1.2, ⟨hk.1.1.1, ⟨hk.1.1.2, hk.2⟩⟩⟩)), (by (with_reducible repeat (first | apply Kd.V_alloc | apply Kd.V_drewN | apply Kd.V_drew)); exact Kd.V_mono HL281_1.out (fun _ hk => ⟨hk.1.2, ⟨hk.1.1.1, ⟨hk.1.1.2, hk.2⟩⟩⟩)), (by (with_reducible repeat (first | apply Kd.N_alloc | apply Kd.N_drewN | apply Kd.N_drew)); exact Kd.N_mono HO277.out (fun _ hk => ⟨hk.1.1, ⟨hk.1.2, hk.2⟩⟩)), (by (with_reducible repeat (first | refine blk_drewN ?_ _ | refine blk_drew ?_ | refine blk_alloc ?_ _)); exact BK270.out), (by (with_reducible repeat (first | refine blk_drewN ?_ _ | refine blk_drew ?_ | refine blk_alloc ?_ _)); exact BK271.out), (by (with_reducible repeat (first | refine blk_drewN ?_ _ | refine blk_drew ?_ | refine blk_alloc ?_ _)); exact BK283.out), GW283.out, GE283.out, NB270_283.out, NB283_270.out, NB271_283.out, NB283_271.out, (by repeat (first | (with_reducible first | exact HB.out | apply below_alloc | apply pw_below_drewN | apply below_drew1 | refine below_set ?_ GE270.out | refine below_set ?_ GE271.out | refine below_set ?_ GE283.out) | exact HB.out))⟩)
   rintro gb283 w20 ⟨hS_, h0_, h1_, h2_, h3_, h4_, h5_, h6_, h7_, h8_, h9_, h10_, h11_, h12_⟩
   have n0_ : Aside0 (Kd.V (Kd.int .i64) 3 w20 w.heap.size (fun k_ => some k_ ≠ (.slice (some ad279) t275.length co16 : Value).ownBlock ∧ k_ ≠ gb270 ∧ k_ ≠ gb271 ∧ k_ ≠ gb283) (.slice A279_1 ((rd_T57 t275 0).f1).length c279_1) ((rd_T57 t275 0).f1)) := ⟨h0_⟩
   have n1_ : Aside0 (Kd.V (Kd.int .i64) 3 w20 w.heap.size (fun k_ => some k_ ≠ (.slice (some ad279) t275.length co16 : Value).ownBlock ∧ k_ ≠ gb270 ∧ k_ ≠ gb271 ∧ k_ ≠ gb283) (.slice A279_1 ((rd_T57 t275 0).f1).length c279_1) ((rd_T57 t275 0).f1)) := ⟨h1_⟩
   have n2_ : Aside0 (Kd.N k57 57 w20 w.heap.size (fun k_ => k_ ≠ gb270 ∧ k_ ≠ gb271 ∧ k_ ≠ gb283) (.slice (some ad279) t275.length co16) t275) := ⟨h2_⟩
   have n3_ : Aside0 (w20.heap[gb270]? = some (.cells #[.string a0_0, .int .i64 a0_1, .int .i64 a0_2, .int .i64 a0_3, .slice A0_4 l0_4.length c0_4, .slice A0_5 l0_5.length c0_5] 27 (0, 0))) := ⟨h3_⟩
   have n4_ : Aside0 (w20.heap[gb271]? = some (.cells #[.int .i64 0, .int .i64 0] 23 (0, 0))) := ⟨h4_⟩
   have n5_ : Aside0 (w20.heap[gb283]? = some (.cells #[.int .i64 0, .int .i64 0] 23 (0, 0))) := ⟨h5_⟩
   have n6_ : Aside0 (w.heap.size ≤ gb283) := ⟨h6_⟩
   have n7_ : Aside0 (w.heap.size ≤ gb283) := ⟨h7_⟩
   have n8_ : Aside0 (gb270 ≠ gb283) := ⟨h8_⟩
   have n9_ : Aside0 (gb283 ≠ gb270) := ⟨h9_⟩
   have n10_ : Aside0 (gb271 ≠ gb283) := ⟨h10_⟩
   have n11_ : Aside0 (gb283 ≠ gb271) := ⟨h11_⟩
   have n12_ : Aside0 (Below w.heap.size w w20) := ⟨h12_⟩
   clear HO277
   clear BK270
   clear BK271
   clear HB
   clear h0_ h1_ h2_ h3_ h4_ h5_ h6_ h7_ h8_ h9_ h10_ h11_ h12_
   have HL279_1 := n0_
   have HL281_1 := n1_
   have HO277 := n2_
   have BK270 := n3_
   have BK271 := n4_
   have BK283 := n5_
   have GW283 := n6_
   have GE283 := n7_
   have NB270_283 := n8_
   have NB283_270 := n9_
   have NB271_283 := n10_
   have NB283_271 := n11_
   have HB := n12_
   clear n0_ n1_ n2_ n3_ n4_ n5_ n6_ n7_ n8_ n9_ n10_ n11_ n12_
   have hHeld : w20.cell? ad279 = some (.int .i64 ((rd_T57 t275 0).f0)) ∧ w20.cell? ⟨ad279.block, ad279.off + 1, none⟩ = some (.slice A279_1 ((rd_T57 t275 0).f1).length c279_1) ∧ w20.cell? ad279 = some (.int .i64 ((rd_T57 t275 0).f0)) ∧ w20.cell? ⟨ad279.block, ad279.off + 1, none⟩ = some (.slice A279_1 ((rd_T57 t275 0).f1).length c279_1) := hS_
   refine norm_ (a' := ?_) ?_ ?_
   rotate_left
   ·
    simp only [putAll, Act.put, List.setIfInBounds_toArray, List.set_cons_zero, List.set_cons_succ]
    rfl
   refine one_ (i := 10) (N := none) #[true, true, true, true, true, true, true, true, true, true, true] rfl rfl (one_of HT_.out (by kernel_rfl)) (by decide) (fun K hK => ?_)
   have hs21 : w20.cell? ⟨gb283, 0, none⟩ = some (.int .i64 0) := (blk_cell BK283.out 0).trans rfl
   have hfs21 := blk_frozen BK283.out 0
   have hns21_0 := NB270_283.out
   have hns21_1 := NB271_283.out
   have hms21_0 := NB283_270.out
   have hms21_1 := NB283_271.out
   have hs22 : w20.cell? ⟨gb283, 1, none⟩ = some (.int .i64 0) := (blk_cell BK283.out 1).trans rfl
   have hfs22 := blk_frozen BK283.out 1
   have hns22_0 := NB270_283.out
   have hns22_1 := NB271_283.out
   have hms22_0 := NB283_270.out
   have hms22_1 := NB283_271.out
   refine skip_ (w1 := ?_) (by rfl) rfl ?_ ?_
   rotate_left
   ·
    go_simp
    rfl
   refine hK.out _ _ ⟨((cell_far (p := ⟨gb283, _, none⟩) (by first | exact Kd.own_blk (Kd.N_away HO277.out (fun _ hk => hk.2.2)) | (rw [add_block]; exact Kd.own_blk (Kd.N_away HO277.out (fun _ hk => hk.2.2))) | (show (Addr.add _ _).block ≠ _; rw [add_block]; exact Kd.own_blk (Kd.N_away HO277.out (fun _ hk => hk.2.2))) | (dsimp only; exact Kd.own_blk (Kd.N_away HO277.out (fun _ hk => hk.2.2)))) _).trans (((cell_far (p := ⟨gb283, _, none⟩) (by first | exact Kd.own_blk (Kd.N_away HO277.out (fun _ hk => hk.2.2)) | (rw [add_block]; exact Kd.own_blk (Kd.N_away HO277.out (fun _ hk => hk.2.2))) | (show (Addr.add _ _).block ≠ _; rw [add_block]; exact Kd.own_blk (Kd.N_away HO277.out (fun _ hk => hk.2.2))) | (dsimp only; exact Kd.own_blk (Kd.N_away HO277.out (fun _ hk => hk.2.2)))) _).trans (hHeld.1)))), ((cell_far (p := ⟨gb283, _, none⟩) (by first | exact Kd.own_blk (Kd.N_away HO277.out (fun _ hk => hk.2.2)) | (rw [add_block]; exact Kd.own_blk (Kd.N_away HO277.out (fun _ hk => hk.2.2))) | (show (Addr.add _ _).block ≠ _; rw [add_block]; exact Kd.own_blk (Kd.N_away HO277.out (fun _ hk => hk.2.2))) | (dsimp only; exact Kd.own_blk (Kd.N_away HO277.out (fun _ hk => hk.2.2)))) _).trans (((cell_far (p := ⟨gb283, _, none⟩) (by first | exact Kd.own_blk (Kd.N_away HO277.out (fun _ hk => hk.2.2)) | (rw [add_block]; exact Kd.own_blk (Kd.N_away HO277.out (fun _ hk => hk.2.2))) | (show (Addr.add _ _).block ≠ _; rw [add_block]; exact Kd.own_blk (Kd.N_away HO277.out (fun _ hk => hk.2.2))) | (dsimp only; exact Kd.own_blk (Kd.N_away HO277.out (fun _ hk => hk.2.2)))) _).trans (hHeld.2.1)))), ((cell_far (p := ⟨gb283, _, none⟩) (by first | exact Kd.own_blk (Kd.N_away HO277.out (fun _ hk => hk.2.2)) | (rw [add_block]; exact Kd.own_blk (Kd.N_away HO277.out (fun _ hk => hk.2.2))) | (show (Addr.add _ _).block ≠ _; rw [add_block]; exact Kd.own_blk (Kd.N_away HO277.out (fun _ hk => hk.2.2))) | (dsimp only; exact Kd.own_blk (Kd.N_away HO277.out (fun _ hk => hk.2.2)))) _).trans (((cell_far (p := ⟨gb283, _, none⟩) (by first | exact Kd.own_blk (Kd.N_away HO277.out (fun _ hk => hk.2.2)) | (rw [add_block]; exact Kd.own_blk (Kd.N_away HO277.out (fun _ hk => hk.2.2))) | (show (Addr.add _ _).block ≠ _; rw [add_block]; exact Kd.own_blk (Kd.N_away HO277.out (fun _ hk => hk.2.2))) | (dsimp only; exact Kd.own_blk (Kd.N_away HO277.out (fun _ hk => hk.2.2)))) _).trans (hHeld.2.2.1)))), ((cell_far (p := ⟨gb283, _, none⟩) (by first | exact Kd.own_blk (Kd.N_away HO277.out (fun _ hk => hk.2.2)) | (rw [add_block]; exact Kd.own_blk (Kd.N_away HO277.out (fun _ hk => hk.2.2))) | (show (Addr.add _ _).block ≠ _; rw [add_block]; exact Kd.own_blk (Kd.N_away HO277.out (fun _ hk => hk.2.2))) | (dsimp only; exact Kd.own_blk (Kd.N_away HO277.out (fun _ hk => hk.2.2)))) _).trans (((cell_far (p := ⟨gb283, _, none⟩) (by first | exact Kd.own_blk (Kd.N_away HO277.out (fun _ hk => hk.2.2)) | (rw [add_block]; exact Kd.own_blk (Kd.N_away HO277.out (fun _ hk => hk.2.2))) | (show (Addr.add _ _).block ≠ _; rw [add_block]; exact Kd.own_blk (Kd.N_away HO277.out (fun _ hk => hk.2.2))) | (dsimp only; exact Kd.own_blk (Kd.N_away HO277.out (fun _ hk => hk.2.2)))) _).trans (hHeld.2.2.2))))⟩ (fun hHeld => ?_)
   clear hK K
   refine done_ (done_of HT_.out (by kernel_rfl)) ?_
   try go_wp2
   go_loopg [9] k (fun kq v9 w' => ∃ (x9_1 : Int) (x284000_1 : Int) (x284001_1 : Int), v9 = .int .i64 x9_1 ∧ Aside0 (helioscoperef01_Numbers.l0 kq t275 x9_1 x284000_1 x284001_1 = some (r1, r2, r3)) ∧ Aside0 (kq ≤ k) ∧ Aside0 (Kd.N k57 57 w' w.heap.size (fun k_ => k_ ≠ gb270 ∧ k_ ≠ gb271 ∧ k_ ≠ gb283) (.slice (some ad279) t275.length co16) t275) ∧ Aside0 (w'.heap[gb270]? = some (.cells #[.string a0_0, .int .i64 a0_1, .int .i64 a0_2, .int .i64 a0_3, (.slice A0_4 l0_4.length c0_4), (.slice A0_5 l0_5.length c0_5)] 27 (0, 0))) ∧ Aside0 (w'.heap[gb271]? = some (.cells #[.int .i64 0, .int .i64 0] 23 (0, 0))) ∧ Aside0 (w'.heap[gb283]? = some (.cells #[.int .i64 x284000_1, .int .i64 x284001_1] 23 (0, 0))) ∧ Aside0 (Below w.heap.size w w'))
   case atStart => exact ⟨(1), (t280), (t282), (by first | rfl | (simp; done) | (simp [*]; done)), H', ⟨Nat.le_refl _⟩, ⟨by (with_reducible repeat (first | apply Kd.N_alloc | apply Kd.N_drewN | apply Kd.N_drew)); exact Kd.N_mono (Kd.N_far (p := ⟨gb283, 1, none⟩) (Kd.N_far (p := ⟨gb283, 0, none⟩) (Kd.N_mono HO277.out (fun k_ hk => (⟨hk, hk.2.2⟩ : _ ∧ k_ ≠ gb283))) (fun _ hk => hk.2) (.int .i64 t280)) (fun _ hk => hk.2) (.int .i64 t282)) (fun _ hk => ⟨hk.1.1, ⟨hk.1.2.1, hk.1.2.2⟩⟩)⟩, ⟨by (with_reducible repeat (first | refine blk_drewN ?_ _ | refine blk_drew ?_ | refine blk_alloc ?_ _)); refine blk_far ?_ NB270_283.out _; (with_reducible repeat (first | refine blk_drewN ?_ _ | refine blk_drew ?_ | refine blk_alloc ?_ _)); refine blk_far ?_ NB270_283.out _; (with_reducible repeat (first | refine blk_drewN ?_ _ | refine blk_drew ?_ | refine blk_alloc ?_ _)); exact BK270.out⟩, ⟨by (with_reducible repeat (first | refine blk_drewN ?_ _ | refine blk_drew ?_ | refine blk_alloc ?_ _)); refine blk_far ?_ NB271_283.out _; (with_reducible repeat (first | refine blk_drewN ?_ _ | refine blk_drew ?_ | refine blk_alloc ?_ _)); refine blk_far ?_ NB271_283.out _; (with_reducible repeat (first | refine blk_drewN ?_ _ | refine blk_drew ?_ | refine blk_alloc ?_ _)); exact BK271.out⟩, ⟨by (with_reducible repeat (first | refine blk_drewN ?_ _ | refine blk_drew ?_ | refine blk_alloc ?_ _)); refine blk_put (cs := #[.int .i64 t280, .int .i64 0]) ?_ 1 _ rfl; (with_reducible repeat (first | refine blk_drewN ?_ _ | refine blk_drew ?_ | refine blk_alloc ?_ _)); refine blk_put (cs := #[.int .i64 0, .int .i64 0]) ?_ 0 _ rfl; (with_reducible repeat (first | refine blk_drewN ?_ _ | refine blk_drew ?_ | refine blk_alloc ?_ _)); exact BK283.out⟩, ⟨by repeat (first | (with_reducible first | exact HB.out | apply below_alloc | apply pw_below_drewN | apply below_drew1 | refine below_set ?_ GE270.out | refine below_set ?_ GE271.out | refine below_set ?_ GE283.out) | exact HB.out)⟩⟩
   case round =>
    clear H'
    try clear c2
    try clear p2
    try clear q2
    try clear hx2
    try clear qi2
    try clear c5
    try clear hx279_0
    try clear hx279_1
    try clear hx281_0
    try clear hx281_1
    try clear p279
    try clear p281
    try clear q279
    try clear q281
    obtain ⟨x9_1, x284000_1, x284001_1, rfl, HA, HK1, HO_7, BK270, BK271, BK283, HB⟩ := hrel
    cases gk with
    | zero => exact absurd HA.out (by simp [helioscoperef01_Numbers.l0])
    | succ k1 =>
     have H := HA.out
     clear HA
     simp only [helioscoperef01_Numbers.l0] at H
     by_cases c23 : x9_1 < (t275.length : Int)
     ·
      rw [if_pos c23] at H
      have c23b0 : decide (x9_1 < (t275.length : Int)) = true := decide_eq_true c23
      clear c23
      by_cases c24 : 0 ≤ x9_1
      ·
       rw [if_pos c24] at H
       have c24b0 : decide (0 ≤ x9_1) = true := decide_eq_true c24
       clear c24
       replace H := Option.bind_eq_some_iff.mp H
       obtain ⟨t285, A250, H⟩ := H
       replace H : ((helioscoperef01_Wide.f x284000_1 x284001_1 t285).bind fun bt286 => (helioscoperef01_Numbers.l0 k1 t275 (wrap64 (x9_1 + 1)) bt286.1 bt286.2)) = some (r1, r2, r3) := H
       have A25 := Aside0.mk A250
       clear A250
       replace H := Option.bind_eq_some_iff.mp H
       obtain ⟨⟨t286, t287⟩, A260, H⟩ := H
       replace H : (helioscoperef01_Numbers.l0 k1 t275 (wrap64 (x9_1 + 1)) t286 t287) = some (r1, r2, r3) := H
       have A26 := Aside0.mk A260
       clear A260
       have H' := Aside0.mk H
       clear H
       try go_wp2
       have n0_ := Aside0.mk (Kd.N_drew HO_7.out)
       have n1_ := Aside0.mk (blk_drew BK270.out)
       have n2_ := Aside0.mk (blk_drew BK271.out)
       have n3_ := Aside0.mk (blk_drew BK283.out)
       have n4_ := Aside0.mk (below_drew1 HB.out)
       clear HO_7
       clear BK270
       clear BK271
       clear BK283
       clear HB
       have HO_7 := n0_
       have BK270 := n1_
       have BK271 := n2_
       have BK283 := n3_
       have HB := n4_
       clear n0_ n1_ n2_ n3_ n4_
       have p284 : 0 ≤ (x9_1 : Int) := of_decide_eq_true (by first | (with_reducible assumption) | assumption)
       have q284 : x9_1 < (t275.length : Int) := of_decide_eq_true (by first | (with_reducible assumption) | assumption)
       obtain ⟨ad284, A284_1, c284_1, e284, hx284_0, hx284_1, hl284_1, hi284_1⟩ := at_T57 (Kd.N_reads' HO_7.out).2.2 x9_1 p284 q284
       obtain rfl : ad279 = ad284 := (by injection e284)
       obtain ⟨ce284, hce284, hMe284, hcc284⟩ := Kd.N_get HO_7.out z57 x9_1 p284 (by first | exact q284 | exact of_decide_eq_true (by first | (with_reducible assumption) | assumption) | (have e_ := (Kd.N_reads' HO_7.out).1; omega))
       obtain ⟨ua284_1, uc284_1, rfl, ul284_1, ge284_1⟩ := k57_openF hMe284
       have hv284_1 := hcc284 1 _ rfl
       rw [add_field _ _ 1 (by omega)] at hv284_1
       replace hv284_1 := Option.some.inj (hv284_1.symm.trans hx284_1)
       injection hv284_1 with hva_ hvn_ hvc_
       rw [hva_] at ge284_1
       rw [hvc_] at ul284_1
       have HL284_1 := Aside0.mk (show Kd.V (Kd.int .i64) 3 _ w.heap.size _ _ ((rd_T57 t275 x9_1).f1) from Kd.V_mk ul284_1 ge284_1)
       clear hva_ hvn_ hvc_ ge284_1 ul284_1
       clear hcc284 hce284
       have HR284_1 := Aside0.mk hi284_1
       have HC284_1 := Aside0.mk hl284_1
       clear hi284_1 hl284_1
       replace p284 := eq_true p284
       replace q284 := eq_true q284
       refine start_ (n := 8) (S := fun w' => w'.cell? ⟨gb283, 0, none⟩ = some (.int .i64 x284000_1) ∧ w'.cell? ⟨gb283, 1, none⟩ = some (.int .i64 x284001_1) ∧ w'.cell? (ad279.add ((x9_1).toNat * 2)) = some (.int .i64 ((rd_T57 t275 x9_1).f0)) ∧ w'.cell? ⟨(ad279.add ((x9_1).toNat * 2)).block, (ad279.add ((x9_1).toNat * 2)).off + 1, none⟩ = some (.slice A284_1 ((rd_T57 t275 x9_1).f1).length c284_1)) (ds := [7]) #[false, false, false, false, false, false, false, false] (by kernel_rfl) rfl rfl ⟨(blk_cell BK283.out 0).trans rfl, (blk_cell BK283.out 1).trans rfl, hx284_0, hx284_1⟩ (fun hHeld => ?_); refine with_tabW helioscoperef01_Numbers.tab9 helioscoperef01_Numbers.bits9 (fun HT_ HW_ => ?_)
       generalize wr.drew = w27 at HO_7 BK270 BK271 BK283 HB HL284_1 HR284_1 hx284_0 hx284_1 hHeld ⊢
       refine pure_ (i := 1) (N := some 42) (v := ?_) (a' := ?_) #[false, true, false, false, false, false, false, false] rfl rfl (any_of HT_.out (by kernel_rfl)) (fun _ _ _ h => h) (Or.inl ⟨by rfl, ?_⟩) ?_ ?_
       rotate_left
       ·
        intro w'
        go_simp
        with_reducible rfl
       rotate_left
       ·
        simp only [Act.put, List.setIfInBounds_toArray, List.set_cons_zero, List.set_cons_succ, i64_w, i32_w]
        rfl
       refine pure_ (i := 2) (N := some 43) (v := ?_) (a' := ?_) #[false, true, true, false, false, false, false, false] rfl rfl (any_of HT_.out (by kernel_rfl)) (fun _ _ _ h => h) (Or.inl ⟨by rfl, ?_⟩) ?_ ?_
       rotate_left
       ·
        intro w'
        go_simp
        with_reducible rfl
       rotate_left
       ·
        simp only [Act.put, List.setIfInBounds_toArray, List.set_cons_zero, List.set_cons_succ, i64_w, i32_w]
        rfl
       refine pure_ (i := 3) (N := some 44) (v := ?_) (a' := ?_) #[false, true, true, true, false, false, false, false] rfl rfl (any_of HT_.out (by kernel_rfl)) (fun _ _ _ h => h) (Or.inl ⟨by rfl, ?_⟩) ?_ ?_
       rotate_left
       ·
        intro w'
        go_simp
        with_reducible rfl
       rotate_left
       ·
        simp only [Act.put, List.setIfInBounds_toArray, List.set_cons_zero, List.set_cons_succ, i64_w, i32_w]
        rfl
       refine take_ (i := 0) (N := some 41) (v := ?_) (a' := ?_) #[true, true, true, true, false, false, false, false] rfl rfl (take_ofW HT_.out HW_.out (by kernel_rfl)) (fun _ _ _ h => h) (Or.inl ⟨by rfl, ?_⟩) hHeld ?_ ?_
       rotate_left
       ·
        rintro w' ⟨s0, s1, s2, s3⟩
        go_simp
        with_reducible rfl
       rotate_left
       ·
        simp only [Act.put, List.setIfInBounds_toArray, List.set_cons_zero, List.set_cons_succ, i64_w, i32_w]
        rfl
       refine take_ (i := 4) (N := some 45) (v := ?_) (a' := ?_) #[true, true, true, true, true, false, false, false] rfl rfl (take_ofW HT_.out HW_.out (by kernel_rfl)) (fun _ _ _ h => h) (Or.inl ⟨by rfl, ?_⟩) hHeld ?_ ?_
       rotate_left
       ·
        rintro w' ⟨s0, s1, s2, s3⟩
        go_simp
        with_reducible rfl
       rotate_left
       ·
        simp only [Act.put, List.setIfInBounds_toArray, List.set_cons_zero, List.set_cons_succ, i64_w, i32_w]
        rfl
       refine one_ (i := 5) (N := some 46) #[true, true, true, true, true, true, false, false] rfl rfl (one_of HT_.out (by kernel_rfl)) (by decide) (fun K hK => ?_)
       refine goes_ Try.func56 (by kernel_rfl) rfl #[.agg #[.int .i64 ((rd_T57 t275 x9_1).f0), .slice A284_1 ((rd_T57 t275 x9_1).f1).length c284_1]] (by rfl) rfl rfl (by (try simp only [List.map_toArray, List.map_cons, List.map_nil]); first | done | rfl | (simp only [List.length_drop, List.length_take]; rfl)) ?_
       with_reducible refine (helioscoperef01_Wolf.calls k1 ((rd_T57 t275 x9_1).f0) _ _ ((rd_T57 t275 x9_1).f1) t285 _ ?side1 ?side2 A25.out).mono ?_
       (case side1 => repeat (first | exact (by repeat (first | (with_reducible exact HR284_1.out) | (with_reducible refine Kd.C_alloc ?_ _) | (with_reducible refine Kd.C_drewN ?_ _) | (with_reducible refine Kd.C_drew ?_) | exact HR284_1.out)) | (with_reducible refine Kd.C_alloc ?_ _) | (with_reducible refine Kd.C_drewN ?_ _) | (with_reducible refine Kd.C_drew ?_)))
       (case side2 => exact HC284_1.out)
       rintro e w28 ⟨rfl, hb⟩
       have HS2_ := (hb.cell (World.block_lt_of_cell? _ _ (hHeld.2.2.1))).trans (hHeld.2.2.1)
       have HS3_ := (hb.cell (World.block_lt_of_cell? _ _ (hHeld.2.2.2))).trans (hHeld.2.2.2)
       refine ⟨_, rfl, ?_⟩
       have n0_ := Aside0.mk (Kd.N_below (by (with_reducible repeat (first | apply Kd.N_alloc | apply Kd.N_drewN | apply Kd.N_drew)); exact HO_7.out) hb)
       have n1_ := Aside0.mk (Kd.V_below (by (with_reducible repeat (first | apply Kd.V_alloc | apply Kd.V_drewN | apply Kd.V_drew)); exact HL284_1.out) hb)
       have n2_ := Aside0.mk (blk_below (g := gb270) (o := .cells #[.string a0_0, .int .i64 a0_1, .int .i64 a0_2, .int .i64 a0_3, .slice A0_4 l0_4.length c0_4, .slice A0_5 l0_5.length c0_5] 27 (0, 0)) (by (with_reducible repeat (first | refine blk_drewN ?_ _ | refine blk_drew ?_ | refine blk_alloc ?_ _)); exact BK270.out) hb)
       have n3_ := Aside0.mk (blk_below (g := gb271) (o := .cells #[.int .i64 0, .int .i64 0] 23 (0, 0)) (by (with_reducible repeat (first | refine blk_drewN ?_ _ | refine blk_drew ?_ | refine blk_alloc ?_ _)); exact BK271.out) hb)
       have n4_ := Aside0.mk (blk_below (g := gb283) (o := .cells #[.int .i64 x284000_1, .int .i64 x284001_1] 23 (0, 0)) (by (with_reducible repeat (first | refine blk_drewN ?_ _ | refine blk_drew ?_ | refine blk_alloc ?_ _)); exact BK283.out) hb)
       have n5_ := Aside0.mk (Kd.C_below (by repeat (first | (with_reducible exact HR284_1.out) | (with_reducible refine Kd.C_alloc ?_ _) | (with_reducible refine Kd.C_drewN ?_ _) | (with_reducible refine Kd.C_drew ?_) | exact HR284_1.out)) hb)
       have n6_ := Aside0.mk (below_step (by repeat (first | (with_reducible first | exact HB.out | apply below_alloc | apply pw_below_drewN | apply below_drew1 | refine below_set ?_ GE270.out | refine below_set ?_ GE271.out | refine below_set ?_ GE283.out) | exact HB.out)) hb)
       clear HO_7
       clear HL284_1
       clear BK270
       clear BK271
       clear BK283
       clear HR284_1
       clear HB
       have HO_7 := n0_
       have HL284_1 := n1_
       have BK270 := n2_
       have BK271 := n3_
       have BK283 := n4_
       have HR284_1 := n5_
       have HB := n6_
       clear n0_ n1_ n2_ n3_ n4_ n5_ n6_
       (try clear hb)
       (try clear hb2)
       (try clear hk)
       (try clear hi)
       refine hK.out _ _ ⟨(blk_cell BK283.out 0).trans rfl, (blk_cell BK283.out 1).trans rfl, HS2_, HS3_⟩ (fun hHeld => ?_)
       clear hK K
       refine norm_ (a' := ?_) ?_ ?_
       rotate_left
       ·
        show Act.put _ (some 46) _ = _
        simp only [Act.put, List.setIfInBounds_toArray, List.set_cons_zero, List.set_cons_succ, i64_w, i32_w]
        rfl
       refine one_ (i := 6) (N := some 47) #[true, true, true, true, true, true, true, false] rfl rfl (one_of HT_.out (by kernel_rfl)) (by decide) (fun K hK => ?_)
       refine goes_ Try.func102 (by kernel_rfl) rfl #[.agg #[.int .i64 x284000_1, .int .i64 x284001_1], .int .i64 t285] (by rfl) rfl rfl (by (try simp only [List.map_toArray, List.map_cons, List.map_nil]); first | done | rfl | (simp only [List.length_drop, List.length_take]; rfl)) ?_
       with_reducible refine (helioscoperef01_Wide.calls x284000_1 x284001_1 t285 t286 t287 _ A26.out).mono ?_
       rintro e w29 ⟨rfl, hb⟩
       have HS2_ := (hb.cell (World.block_lt_of_cell? _ _ (hHeld.2.2.1))).trans (hHeld.2.2.1)
       have HS3_ := (hb.cell (World.block_lt_of_cell? _ _ (hHeld.2.2.2))).trans (hHeld.2.2.2)
       refine ⟨_, rfl, ?_⟩
       have n0_ := Aside0.mk (Kd.N_below (by (with_reducible repeat (first | apply Kd.N_alloc | apply Kd.N_drewN | apply Kd.N_drew)); exact HO_7.out) hb)
       have n1_ := Aside0.mk (Kd.V_below (by (with_reducible repeat (first | apply Kd.V_alloc | apply Kd.V_drewN | apply Kd.V_drew)); exact HL284_1.out) hb)
       have n2_ := Aside0.mk (blk_below (g := gb270) (o := .cells #[.string a0_0, .int .i64 a0_1, .int .i64 a0_2, .int .i64 a0_3, .slice A0_4 l0_4.length c0_4, .slice A0_5 l0_5.length c0_5] 27 (0, 0)) (by (with_reducible repeat (first | refine blk_drewN ?_ _ | refine blk_drew ?_ | refine blk_alloc ?_ _)); exact BK270.out) hb)
       have n3_ := Aside0.mk (blk_below (g := gb271) (o := .cells #[.int .i64 0, .int .i64 0] 23 (0, 0)) (by (with_reducible repeat (first | refine blk_drewN ?_ _ | refine blk_drew ?_ | refine blk_alloc ?_ _)); exact BK271.out) hb)
       have n4_ := Aside0.mk (blk_below (g := gb283) (o := .cells #[.int .i64 x284000_1, .int .i64 x284001_1] 23 (0, 0)) (by (with_reducible repeat (first | refine blk_drewN ?_ _ | refine blk_drew ?_ | refine blk_alloc ?_ _)); exact BK283.out) hb)
       have n5_ := Aside0.mk (Kd.C_below (by repeat (first | (with_reducible exact HR284_1.out) | (with_reducible refine Kd.C_alloc ?_ _) | (with_reducible refine Kd.C_drewN ?_ _) | (with_reducible refine Kd.C_drew ?_) | exact HR284_1.out)) hb)
       have n6_ := Aside0.mk (below_step (by repeat (first | (with_reducible first | exact HB.out | apply below_alloc | apply pw_below_drewN | apply below_drew1 | refine below_set ?_ GE270.out | refine below_set ?_ GE271.out | refine below_set ?_ GE283.out) | exact HB.out)) hb)
       clear HO_7
       clear HL284_1
       clear BK270
       clear BK271
       clear BK283
       clear HR284_1
       clear HB
       have HO_7 := n0_
       have HL284_1 := n1_
       have BK270 := n2_
       have BK271 := n3_
       have BK283 := n4_
       have HR284_1 := n5_
       have HB := n6_
       clear n0_ n1_ n2_ n3_ n4_ n5_ n6_
       (try clear hb)
       (try clear hb2)
       (try clear hk)
       (try clear hi)
       refine hK.out _ _ ⟨(blk_cell BK283.out 0).trans rfl, (blk_cell BK283.out 1).trans rfl, HS2_, HS3_⟩ (fun hHeld => ?_)
       clear hK K
       refine norm_ (a' := ?_) ?_ ?_
       rotate_left
       ·
        show Act.put _ (some 47) _ = _
        simp only [Act.put, List.setIfInBounds_toArray, List.set_cons_zero, List.set_cons_succ, i64_w, i32_w]
        rfl
       refine last_ (i := 7) (N := none) #[true, true, true, true, true, true, true, true] rfl rfl (one_of HT_.out (by kernel_rfl)) (by decide) (fun K hK => ?_)
       have hs30 : w29.cell? ⟨gb283, 0, none⟩ = some (.int .i64 x284000_1) := (blk_cell BK283.out 0).trans rfl
       have hfs30 := blk_frozen BK283.out 0
       have hns30_0 := NB270_283.out
       have hns30_1 := NB271_283.out
       have hms30_0 := NB283_270.out
       have hms30_1 := NB283_271.out
       have hs31 : w29.cell? ⟨gb283, 1, none⟩ = some (.int .i64 x284001_1) := (blk_cell BK283.out 1).trans rfl
       have hfs31 := blk_frozen BK283.out 1
       have hns31_0 := NB270_283.out
       have hns31_1 := NB271_283.out
       have hms31_0 := NB283_270.out
       have hms31_1 := NB283_271.out
       refine skip_ (w1 := ?_) (by rfl) rfl ?_ ?_
       rotate_left
       ·
        go_simp
        rfl
       refine hK.out _ _ ?_
       clear hK K
       refine done_ (done_of HT_.out (by kernel_rfl)) ?_
       try go_wp2
       go_roundg k1
       case measure => have := HK1.out; omega
       case rel => exact ⟨(wrap64 (x9_1 + 1)), (t286), (t287), (by first | rfl | (simp; done) | (simp [*]; done)), H', ⟨by have := HK1.out; omega⟩, ⟨by (with_reducible repeat (first | apply Kd.N_alloc | apply Kd.N_drewN | apply Kd.N_drew)); exact Kd.N_mono (Kd.N_far (p := ⟨gb283, 1, none⟩) (Kd.N_far (p := ⟨gb283, 0, none⟩) (Kd.N_mono HO_7.out (fun k_ hk => (⟨hk, hk.2.2⟩ : _ ∧ k_ ≠ gb283))) (fun _ hk => hk.2) (.int .i64 t286)) (fun _ hk => hk.2) (.int .i64 t287)) (fun _ hk => ⟨hk.1.1, ⟨hk.1.2.1, hk.1.2.2⟩⟩)⟩, ⟨by (with_reducible repeat (first | refine blk_drewN ?_ _ | refine blk_drew ?_ | refine blk_alloc ?_ _)); refine blk_far ?_ NB270_283.out _; (with_reducible repeat (first | refine blk_drewN ?_ _ | refine blk_drew ?_ | refine blk_alloc ?_ _)); refine blk_far ?_ NB270_283.out _; (with_reducible repeat (first | refine blk_drewN ?_ _ | refine blk_drew ?_ | refine blk_alloc ?_ _)); exact BK270.out⟩, ⟨by (with_reducible repeat (first | refine blk_drewN ?_ _ | refine blk_drew ?_ | refine blk_alloc ?_ _)); refine blk_far ?_ NB271_283.out _; (with_reducible repeat (first | refine blk_drewN ?_ _ | refine blk_drew ?_ | refine blk_alloc ?_ _)); refine blk_far ?_ NB271_283.out _; (with_reducible repeat (first | refine blk_drewN ?_ _ | refine blk_drew ?_ | refine blk_alloc ?_ _)); exact BK271.out⟩, ⟨by (with_reducible repeat (first | refine blk_drewN ?_ _ | refine blk_drew ?_ | refine blk_alloc ?_ _)); refine blk_put (cs := #[.int .i64 t286, .int .i64 x284001_1]) ?_ 1 _ rfl; (with_reducible repeat (first | refine blk_drewN ?_ _ | refine blk_drew ?_ | refine blk_alloc ?_ _)); refine blk_put (cs := #[.int .i64 x284000_1, .int .i64 x284001_1]) ?_ 0 _ rfl; (with_reducible repeat (first | refine blk_drewN ?_ _ | refine blk_drew ?_ | refine blk_alloc ?_ _)); exact BK283.out⟩, ⟨by repeat (first | (with_reducible first | exact HB.out | apply below_alloc | apply pw_below_drewN | apply below_drew1 | refine below_set ?_ GE270.out | refine below_set ?_ GE271.out | refine below_set ?_ GE283.out) | exact HB.out)⟩⟩
      ·
       rw [if_neg c24] at H
       exact absurd H (by simp)
     ·
      rw [if_neg c23] at H
      have c23b0 : decide (x9_1 < (t275.length : Int)) = false := decide_eq_false c23
      clear c23
      simp only [Option.some.injEq, Prod.mk.injEq] at H
      obtain ⟨rfl, rfl, rfl⟩ := H
      have hnb32 := NB283_270.out
      have hnc32 := NB270_283.out
      have hnb33 := NB283_271.out
      have hnc33 := NB271_283.out
      have hcz34_0 : wr.cell? ⟨gb283, 0, none⟩ = some (.int .i64 x284000_1) := (blk_cell BK283.out 0).trans rfl
      have hcz34_1 : wr.cell? ⟨gb283, 1, none⟩ = some (.int .i64 x284001_1) := (blk_cell BK283.out 1).trans rfl
      have hfz34_0 := blk_frozen BK283.out 0
      have hfz34_1 := blk_frozen BK283.out 1
      have hnb35 := NB271_270.out
      have hnc35 := NB270_271.out
      have hcz36_0 : wr.cell? ⟨gb271, 0, none⟩ = some (.int .i64 0) := (blk_cell BK271.out 0).trans rfl
      have hcz36_1 : wr.cell? ⟨gb271, 1, none⟩ = some (.int .i64 0) := (blk_cell BK271.out 1).trans rfl
      have hfz36_0 := blk_frozen BK271.out 0
      have hfz36_1 := blk_frozen BK271.out 1
      go_wp2
      refine bodyPost_ret (results_ct rfl _ _ gb271 23 #[.int .i64 x284000_1, .int .i64 x284001_1] (0, 0) _ rfl (by (with_reducible repeat (first | refine blk_drewN ?_ _ | refine blk_drew ?_ | refine blk_alloc ?_ _)); refine blk_put (cs := #[.int .i64 x284000_1, .int .i64 0]) ?_ 1 _ rfl; (with_reducible repeat (first | refine blk_drewN ?_ _ | refine blk_drew ?_ | refine blk_alloc ?_ _)); refine blk_put (cs := #[.int .i64 0, .int .i64 0]) ?_ 0 _ rfl; (with_reducible repeat (first | refine blk_drewN ?_ _ | refine blk_drew ?_ | refine blk_alloc ?_ _)); exact BK271.out) Try.underlying23 rfl (by kernel_rfl)) rfl ?_
      exact ⟨by first | rfl | (simp [errW_none, errW_some] <;> rfl) | (simp [*, errW_none, errW_some] <;> rfl), by repeat (first | (with_reducible first | exact HB.out | apply below_alloc | apply pw_below_drewN | apply below_drew1 | refine below_set ?_ GE270.out | refine below_set ?_ GE271.out | refine below_set ?_ GE283.out) | exact HB.out)⟩
  ·
   rw [if_neg c5] at H
   exact absurd H (by simp)
 ·
  rw [if_neg c4] at H
  have c4b0 : (t278 == 0) = false := beq_eq_false_iff_ne.mpr c4
  have c4b1 : (t278 != 0) = true := bne_iff_ne.mpr c4
  simp only [Option.some.injEq, Prod.mk.injEq] at H
  obtain ⟨rfl, rfl, rfl⟩ := H
  go_enter Try.func30, Try.ntmps30
  go_wp2_with (first | ((with_reducible refine gate_dst (N := 1) rfl ?_); refine box_event ?hg (N := 1) ?hd (cs := #[.string a0_0, .int .i64 a0_1, .int .i64 a0_2, .int .i64 a0_3, .slice A0_4 l0_4.length c0_4, .slice A0_5 l0_5.length c0_5]) (t := 27) ?hr ?_; (case hd => rfl); (case hg => rfl); (case hr => first | (go_simp; done) | (go_simp; rfl)); intro gb270 hg w37 hbox hb; have n0_ := Aside0.mk (below_step (by repeat (first | (with_reducible first | exact HB.out | apply below_alloc | apply pw_below_drewN | apply below_drew1) | exact HB.out)) hb); have n1_ := Aside0.mk (hbox); have n2_ := Aside0.mk ((by rw [hg]; exact (below_size (by repeat (first | (with_reducible first | exact HB.out | apply below_alloc | apply pw_below_drewN | apply below_drew1) | exact HB.out))) : w.heap.size ≤ gb270)); have n3_ := Aside0.mk ((by rw [hg]; exact (below_size (by repeat (first | (with_reducible first | exact HB.out | apply below_alloc | apply pw_below_drewN | apply below_drew1) | exact HB.out))) : w.heap.size ≤ gb270)); clear HB; have HB := n0_; have BK270 := n1_; have GW270 := n2_; have GE270 := n3_; clear n0_ n1_ n2_ n3_; clear hb hbox hg) | ((with_reducible refine gate_dst (N := 2) rfl ?_); refine box_event ?hg (N := 2) ?hd (cs := #[.int .i64 0, .int .i64 0]) (t := 23) ?hr ?_; (case hd => rfl); (case hg => rfl); (case hr => first | (go_simp; done) | (go_simp; rfl)); intro gb271 hg w38 hbox hb; have n0_ := Aside0.mk (blk_below (g := gb270) (o := .cells #[.string a0_0, .int .i64 a0_1, .int .i64 a0_2, .int .i64 a0_3, .slice A0_4 l0_4.length c0_4, .slice A0_5 l0_5.length c0_5] 27 (0, 0)) (by (with_reducible repeat (first | refine blk_drewN ?_ _ | refine blk_drew ?_ | refine blk_alloc ?_ _)); exact BK270.out) hb); have n1_ := Aside0.mk (below_step (by repeat (first | (with_reducible first | exact HB.out | apply below_alloc | apply pw_below_drewN | apply below_drew1 | refine below_set ?_ GE270.out) | exact HB.out)) hb); have n2_ := Aside0.mk (hbox); have n3_ := Aside0.mk ((by rw [hg]; exact (below_size (by repeat (first | (with_reducible first | exact HB.out | apply below_alloc | apply pw_below_drewN | apply below_drew1 | refine below_set ?_ GE270.out) | exact HB.out))) : w.heap.size ≤ gb271)); have n4_ := Aside0.mk ((by rw [hg]; exact (below_size (by repeat (first | (with_reducible first | exact HB.out | apply below_alloc | apply pw_below_drewN | apply below_drew1 | refine below_set ?_ GE270.out) | exact HB.out))) : w.heap.size ≤ gb271)); have n5_ := Aside0.mk ((by rw [hg]; exact Nat.ne_of_lt (blk_lt (g := gb270) (o := .cells #[.string a0_0, .int .i64 a0_1, .int .i64 a0_2, .int .i64 a0_3, .slice A0_4 l0_4.length c0_4, .slice A0_5 l0_5.length c0_5] 27 (0, 0)) (by (with_reducible repeat (first | refine blk_drewN ?_ _ | refine blk_drew ?_ | refine blk_alloc ?_ _)); exact BK270.out)) : gb270 ≠ gb271)); have n6_ := Aside0.mk ((by rw [hg]; exact Nat.ne_of_gt (blk_lt (g := gb270) (o := .cells #[.string a0_0, .int .i64 a0_1, .int .i64 a0_2, .int .i64 a0_3, .slice A0_4 l0_4.length c0_4, .slice A0_5 l0_5.length c0_5] 27 (0, 0)) (by (with_reducible repeat (first | refine blk_drewN ?_ _ | refine blk_drew ?_ | refine blk_alloc ?_ _)); exact BK270.out)) : gb271 ≠ gb270)); clear BK270; clear HB; have BK270 := n0_; have HB := n1_; have BK271 := n2_; have GW271 := n3_; have GE271 := n4_; have NB270_271 := n5_; have NB271_270 := n6_; clear n0_ n1_ n2_ n3_ n4_ n5_ n6_; clear hb hbox hg; have hnb39 := NB270_271.out; have hnc39 := NB271_270.out; have hcz40_0 : w38.cell? ⟨gb270, 0, none⟩ = some (.string a0_0) := (blk_cell BK270.out 0).trans rfl; have hcz40_1 : w38.cell? ⟨gb270, 1, none⟩ = some (.int .i64 a0_1) := (blk_cell BK270.out 1).trans rfl; have hcz40_2 : w38.cell? ⟨gb270, 2, none⟩ = some (.int .i64 a0_2) := (blk_cell BK270.out 2).trans rfl; have hcz40_3 : w38.cell? ⟨gb270, 3, none⟩ = some (.int .i64 a0_3) := (blk_cell BK270.out 3).trans rfl; have hcz40_4 : w38.cell? ⟨gb270, 4, none⟩ = some (.slice A0_4 l0_4.length c0_4) := (blk_cell BK270.out 4).trans rfl; have hcz40_5 : w38.cell? ⟨gb270, 5, none⟩ = some (.slice A0_5 l0_5.length c0_5) := (blk_cell BK270.out 5).trans rfl; have hfz40_0 := blk_frozen BK270.out 0; have hfz40_1 := blk_frozen BK270.out 1; have hfz40_2 := blk_frozen BK270.out 2; have hfz40_3 := blk_frozen BK270.out 3; have hfz40_4 := blk_frozen BK270.out 4; have hfz40_5 := blk_frozen BK270.out 5) | ((with_reducible refine gate_callee (f := 19) rfl ?_); refine goesL_ (some 12) rfl rfl Try.func19 (by kernel_rfl) rfl #[.agg #[.string a0_0, .int .i64 a0_1, .int .i64 a0_2, .int .i64 a0_3, .slice A0_4 l0_4.length c0_4, .slice A0_5 l0_5.length c0_5]] rfl (by (try simp only [List.map_toArray, List.map_cons, List.map_nil]); first | done | rfl | (simp only [List.length_drop, List.length_take]; rfl)) ?_; (with_reducible refine (helioscoperef01_Check.calls k a0_0 a0_1 a0_2 a0_3 _ _ l0_4 _ _ l0_5 t272 t273 t274 _ ?side1 ?side2 ?side3 ?side4 A2.out).mono ?_); (case side1 => repeat (first | exact (Kd.C_below HR0_4.out HB.out) | (with_reducible refine Kd.C_alloc ?_ _) | (with_reducible refine Kd.C_drewN ?_ _) | (with_reducible refine Kd.C_drew ?_))); (case side2 => exact HC0_4.out); (case side3 => repeat (first | exact (Kd.C_below HR0_5.out HB.out) | (with_reducible refine Kd.C_alloc ?_ _) | (with_reducible refine Kd.C_drewN ?_ _) | (with_reducible refine Kd.C_drew ?_))); (case side4 => exact HC0_5.out); rintro e w41 ⟨rfl, hb⟩; refine ⟨_, rfl, ?_⟩; have n0_ := Aside0.mk (blk_below (g := gb270) (o := .cells #[.string a0_0, .int .i64 a0_1, .int .i64 a0_2, .int .i64 a0_3, .slice A0_4 l0_4.length c0_4, .slice A0_5 l0_5.length c0_5] 27 (0, 0)) (by (with_reducible repeat (first | refine blk_drewN ?_ _ | refine blk_drew ?_ | refine blk_alloc ?_ _)); exact BK270.out) hb); have n1_ := Aside0.mk (blk_below (g := gb271) (o := .cells #[.int .i64 0, .int .i64 0] 23 (0, 0)) (by (with_reducible repeat (first | refine blk_drewN ?_ _ | refine blk_drew ?_ | refine blk_alloc ?_ _)); exact BK271.out) hb); have n2_ := Aside0.mk (below_step (by repeat (first | (with_reducible first | exact HB.out | apply below_alloc | apply pw_below_drewN | apply below_drew1 | refine below_set ?_ GE270.out | refine below_set ?_ GE271.out) | exact HB.out)) hb); clear BK270; clear BK271; clear HB; have BK270 := n0_; have BK271 := n1_; have HB := n2_; clear n0_ n1_ n2_; (try clear hb); (try clear hb2); (try clear hk); (try clear hi); have hcz42_0 : w41.cell? ⟨gb270, 0, none⟩ = some (.string a0_0) := (blk_cell BK270.out 0).trans rfl; have hcz42_1 : w41.cell? ⟨gb270, 1, none⟩ = some (.int .i64 a0_1) := (blk_cell BK270.out 1).trans rfl; have hcz42_2 : w41.cell? ⟨gb270, 2, none⟩ = some (.int .i64 a0_2) := (blk_cell BK270.out 2).trans rfl; have hcz42_3 : w41.cell? ⟨gb270, 3, none⟩ = some (.int .i64 a0_3) := (blk_cell BK270.out 3).trans rfl; have hcz42_4 : w41.cell? ⟨gb270, 4, none⟩ = some (.slice A0_4 l0_4.length c0_4) := (blk_cell BK270.out 4).trans rfl; have hcz42_5 : w41.cell? ⟨gb270, 5, none⟩ = some (.slice A0_5 l0_5.length c0_5) := (blk_cell BK270.out 5).trans rfl; have hfz42_0 := blk_frozen BK270.out 0; have hfz42_1 := blk_frozen BK270.out 1; have hfz42_2 := blk_frozen BK270.out 2; have hfz42_3 := blk_frozen BK270.out 3; have hfz42_4 := blk_frozen BK270.out 4; have hfz42_5 := blk_frozen BK270.out 5) | ((with_reducible refine gate_callee (f := 94) rfl ?_); refine goesL_ (some 19) rfl rfl Try.func94 (by kernel_rfl) rfl #[.agg #[.string a0_0, .int .i64 a0_1, .int .i64 a0_2, .int .i64 a0_3, .slice A0_4 l0_4.length c0_4, .slice A0_5 l0_5.length c0_5], .int .i64 t274] rfl (by (try simp only [List.map_toArray, List.map_cons, List.map_nil]); first | done | rfl | (simp only [List.length_drop, List.length_take]; rfl)) ?_; (with_reducible refine (helioscoperef01_known.calls k a0_0 a0_1 a0_2 a0_3 _ _ l0_4 _ _ l0_5 t274 t275 t278 _ ?side1 ?side2 ?side3 ?side4 A3.out).mono ?_); (case side1 => repeat (first | exact (Kd.C_below HR0_4.out HB.out) | (with_reducible refine Kd.C_alloc ?_ _) | (with_reducible refine Kd.C_drewN ?_ _) | (with_reducible refine Kd.C_drew ?_))); (case side2 => exact HC0_4.out); (case side3 => repeat (first | exact (Kd.C_below HR0_5.out HB.out) | (with_reducible refine Kd.C_alloc ?_ _) | (with_reducible refine Kd.C_drewN ?_ _) | (with_reducible refine Kd.C_drew ?_))); (case side4 => exact HC0_5.out); rintro e w43 ⟨v276, rfl, ho0, hb⟩; refine ⟨_, rfl, ?_⟩; have n0_ := Aside0.mk (Kd.N_lower (Kd.N_mono (ok' := fun k_ => k_ ≠ gb270 ∧ k_ ≠ gb271) ho0 (fun k_ hk_ => ⟨(Kd.freshB (g := gb270) (o := .cells #[.string a0_0, .int .i64 a0_1, .int .i64 a0_2, .int .i64 a0_3, .slice A0_4 l0_4.length c0_4, .slice A0_5 l0_5.length c0_5] 27 (0, 0)) (by (with_reducible repeat (first | refine blk_drewN ?_ _ | refine blk_drew ?_ | refine blk_alloc ?_ _)); exact BK270.out) k_ hk_), (Kd.freshB (g := gb271) (o := .cells #[.int .i64 0, .int .i64 0] 23 (0, 0)) (by (with_reducible repeat (first | refine blk_drewN ?_ _ | refine blk_drew ?_ | refine blk_alloc ?_ _)); exact BK271.out) k_ hk_)⟩)) (below_size (by repeat (first | (with_reducible first | exact HB.out | apply below_alloc | apply pw_below_drewN | apply below_drew1 | refine below_set ?_ GE270.out | refine below_set ?_ GE271.out) | exact HB.out)))); have n1_ := Aside0.mk (blk_below (g := gb270) (o := .cells #[.string a0_0, .int .i64 a0_1, .int .i64 a0_2, .int .i64 a0_3, .slice A0_4 l0_4.length c0_4, .slice A0_5 l0_5.length c0_5] 27 (0, 0)) (by (with_reducible repeat (first | refine blk_drewN ?_ _ | refine blk_drew ?_ | refine blk_alloc ?_ _)); exact BK270.out) hb); have n2_ := Aside0.mk (blk_below (g := gb271) (o := .cells #[.int .i64 0, .int .i64 0] 23 (0, 0)) (by (with_reducible repeat (first | refine blk_drewN ?_ _ | refine blk_drew ?_ | refine blk_alloc ?_ _)); exact BK271.out) hb); have n3_ := Aside0.mk (below_step (by repeat (first | (with_reducible first | exact HB.out | apply below_alloc | apply pw_below_drewN | apply below_drew1 | refine below_set ?_ GE270.out | refine below_set ?_ GE271.out) | exact HB.out)) hb); clear BK270; clear BK271; clear HB; have HO277 := n0_; have BK270 := n1_; have BK271 := n2_; have HB := n3_; clear n0_ n1_ n2_ n3_; (try clear hb); (try clear hb2); (try clear hk); (try clear hi); (try clear ho0); have hcz44_0 : w43.cell? ⟨gb271, 0, none⟩ = some (.int .i64 0) := (blk_cell BK271.out 0).trans rfl; have hcz44_1 : w43.cell? ⟨gb271, 1, none⟩ = some (.int .i64 0) := (blk_cell BK271.out 1).trans rfl; have hfz44_0 := blk_frozen BK271.out 0; have hfz44_1 := blk_frozen BK271.out 1))
  refine bodyPost_ret (results_ct rfl _ _ gb271 23 #[.int .i64 0, .int .i64 0] (0, 0) _ rfl (by (with_reducible repeat (first | refine blk_drewN ?_ _ | refine blk_drew ?_ | refine blk_alloc ?_ _)); refine blk_put (cs := #[.int .i64 0, .int .i64 0]) ?_ 1 _ rfl; (with_reducible repeat (first | refine blk_drewN ?_ _ | refine blk_drew ?_ | refine blk_alloc ?_ _)); refine blk_put (cs := #[.int .i64 0, .int .i64 0]) ?_ 0 _ rfl; (with_reducible repeat (first | refine blk_drewN ?_ _ | refine blk_drew ?_ | refine blk_alloc ?_ _)); exact BK271.out) Try.underlying23 rfl (by kernel_rfl)) rfl ?_
  exact ⟨by first | rfl | (simp [errW_none, errW_some] <;> rfl) | (simp [*, errW_none, errW_some] <;> rfl), by repeat (first | (with_reducible first | exact HB.out | apply below_alloc | apply pw_below_drewN | apply below_drew1 | refine below_set ?_ GE270.out | refine below_set ?_ GE271.out) | exact HB.out)⟩

end Go.Proofs.Ytemeapfnfegkiaa.PR
end
section
/- Package disk: how many groups and spots there are; the least and the greatest of what truths say. -/
namespace Go.Proofs.Ytemeapfnfegkiaa.D
open Go Go.RowKit Go.Proofs.YtemeapfnfegkiaaK Go.Proofs.YtemeapfnfegkiaaW.PrintWords Go.Proofs.YtemeapfnfegkiaaW.PrintLast Go.Proofs.YtemeapfnfegkiaaW.PrintMore Go.Proofs.Ytemeapfnfegkiaa.PR
set_option linter.unusedVariables false
set_option linter.unusedSimpArgs false

theorem RefG.lead {g : Nat → Int} {n : Nat} {R : List Int} (h : RefG g n R) (hg : ∀ x, 0 ≤ g x) (x : Nat) (hx : x < n) : rd R (x : Int) = (x : Int) ↔ leader g x = true := by
  rw [leader_iff]
  by_cases e : g x = 0
  · rw [h.no x hx e, e]; omega
  · obtain ⟨y, h1, h2, h3, h4, h5⟩ := h.yes x hx e
    have h0 := hg x
    rw [h3]
    constructor
    · intro hy
      have : y = x := by omega
      subst this
      exact ⟨by omega, fun k hk hkx => by have := h5 k hkx; omega⟩
    · rintro ⟨_, hk⟩
      have : ¬ y < x := fun hlt => hk y hlt h4
      omega
def spotsG (g : Nat → Int) (n : Nat) : Nat := (List.range n).countP fun k => decide (0 < g k)
theorem rCount0 {g : Nat → Int} {n : Nat} {R : List Int} (h : RefG g n R) (hg : ∀ x, 0 ≤ g x) (hn : n ≤ 7) (near : Int) (d : Nat) : ∀ (i : Nat), i + d = n →
    Ev (fun f => helioscoperef01_Count.l0 f (((List.range i).countP (leader g) : Nat) : Int) (spotsG g i : Int) (i : Int) near R) ((((List.range n).countP (leader g) : Nat) : Int), (spotsG g n : Int)) := by
  have hlen := h.len
  induction d with
  | zero =>
    intro i hi
    obtain rfl : i = n := by omega
    refine Ev.step (f := fun _ => some ((((List.range i).countP (leader g) : Nat) : Int), (spotsG g i : Int))) (fun f => ?_) (Ev.now _)
    simp only [helioscoperef01_Count.l0]
    rw [if_neg (by omega)]
  | succ d ih =>
    intro i hi
    have hin : i < n := by omega
    have ih' := ih (i + 1) (by omega)
    have h1 := h.ge hg i hin
    have h2 := h.lead hg i hin
    have c1 := List.countP_le_length (p := leader g) (l := List.range i)
    have c2 := List.countP_le_length (p := fun k => decide (0 < g k)) (l := List.range i)
    rw [List.length_range] at c1 c2
    have hs : spotsG g (i + 1) = spotsG g i + if 0 < g i then 1 else 0 := by
      unfold spotsG; rw [List.range_succ, List.countP_append, List.countP_singleton]; simp
    have c2' : spotsG g i ≤ i := c2
    rw [hs, List.range_succ, List.countP_append, List.countP_singleton] at ih'
    generalize (List.range i).countP (leader g) = a at *
    generalize spotsG g i = b at *
    refine Ev.step (fun f => ?_) ih'
    simp only [helioscoperef01_Count.l0]
    rw [if_pos (by omega), if_pos (by omega), wrapN (n := i) (by omega)]
    by_cases hl : leader g i = true
    · have h0 := (leader_iff.1 hl).1
      rw [if_pos (h1.2 h0), if_pos (h2.2 hl), if_pos hl, if_pos h0, wrapN (by omega), wrapN (by omega)]
    · rw [if_neg hl]
      by_cases h0 : 0 < g i
      · rw [if_pos (h1.2 h0), if_neg (fun x => hl (h2.1 x)), if_pos h0, wrapN (by omega)]; rfl
      · rw [if_neg (fun x => h0 (h1.1 x)), if_neg (fun x => hl (h2.1 x)), if_neg h0]; rfl
theorem spots_eq (g : Nat → Int) (hg : ∀ x, 0 ≤ g x) : ∀ k, spotsTo g k = (spotsG g k : Int)
  | 0 => rfl
  | k + 1 => by
    have ih := spots_eq g hg k
    have h0 := hg k
    unfold spotsTo
    rw [ih]
    unfold spotsG
    rw [List.range_succ, List.countP_append, List.countP_singleton]
    by_cases h : 0 < g k
    · simp only [decide_eq_true h, if_true]; omega
    · simp only [decide_eq_false h, Bool.false_eq_true, if_false]; omega
theorem spotsG_up {g : Nat → Int} {n : Nat} (h : ∀ x, g x ≠ 0 → x < n) : ∀ d, spotsG g (n + d) = spotsG g n
  | 0 => rfl
  | d + 1 => by
    have ih := spotsG_up h d
    unfold spotsG at *
    rw [← Nat.add_assoc, List.range_succ, List.countP_append, ih, List.countP_singleton]
    have : g (n + d) = 0 := Classical.byContradiction fun x => by have := h _ x; omega
    simp [this]
theorem manyF_eq {D : Dat} (hV : Valid D) (near : Int) (set : Nat) : manyF (G D near set) = manyG D near set := by
  have S := G_spec D near set hV.n7
  have h7 := hV.n7
  generalize G D near set = g at S
  generalize manyG D near set = m at S
  have l0 := S.low 0
  have l1 := S.low 1
  have l2 := S.low 2
  have l3 := S.low 3
  have l4 := S.low 4
  have l5 := S.low 5
  have l6 := S.low 6
  have hh : m = 0 ∨ (g 0 = m ∨ g 1 = m ∨ g 2 = m ∨ g 3 = m ∨ g 4 = m ∨ g 5 = m ∨ g 6 = m) := by
    by_cases h : m = 0
    · exact .inl h
    · obtain ⟨x, hx, hv⟩ := S.has m (by omega) (Int.le_refl _)
      right
      have : x = 0 ∨ x = 1 ∨ x = 2 ∨ x = 3 ∨ x = 4 ∨ x = 5 ∨ x = 6 := by omega
      rcases this with rfl | rfl | rfl | rfl | rfl | rfl | rfl <;> simp [hv]
  simp only [manyF, maxL, foldL, List.foldl_cons, List.foldl_nil]
  omega
theorem rCount {D : Dat} (hV : Valid D) (near : Int) (set : Nat) (x : Int) : Ev (fun f => helioscoperef01_Count.f f x (RG D near set)) (manyF (G D near set), spotsTo (G D near set) 7) := by
  have S := G_spec D near set hV.n7
  have h7 := hV.n7
  have := rCount0 (RG_ref hV near set) (G_nonneg hV near set) hV.n7 x D.spots.length 0 (by omega)
  rw [manyF_eq hV, spots_eq _ (G_nonneg hV near set), ← S.lead]
  have e : spotsG (G D near set) 7 = spotsG (G D near set) D.spots.length := by
    have := spotsG_up (g := G D near set) (n := D.spots.length) (fun x hx => (S.in_ x hx).1) (7 - D.spots.length)
    rw [show D.spots.length + (7 - D.spots.length) = 7 by omega] at this
    exact this
  rw [e]
  exact this

theorem foldMin : ∀ (xs : List Int) (x : Int), (xs.foldl min x ∈ x :: xs) ∧ ∀ y ∈ x :: xs, xs.foldl min x ≤ y
  | [], x => ⟨by simp, fun y hy => by simp at hy; simp [hy]⟩
  | a :: xs, x => by
    obtain ⟨h1, h2⟩ := foldMin xs (min x a)
    simp only [List.foldl_cons]
    refine ⟨?_, fun y hy => ?_⟩
    · rcases List.mem_cons.1 h1 with h | h
      · rw [h]; rcases Int.le_total x a with q | q
        · rw [Int.min_eq_left q]; simp
        · rw [Int.min_eq_right q]; simp
      · simp [h]
    · have h0 := h2 (min x a) (List.mem_cons_self ..)
      rcases List.mem_cons.1 hy with h | h
      · subst h; omega
      · rcases List.mem_cons.1 h with h | h
        · subst h; omega
        · exact h2 y (List.mem_cons_of_mem _ h)
theorem foldMax : ∀ (xs : List Int) (x : Int), (xs.foldl max x ∈ x :: xs) ∧ ∀ y ∈ x :: xs, y ≤ xs.foldl max x
  | [], x => ⟨by simp, fun y hy => by simp at hy; simp [hy]⟩
  | a :: xs, x => by
    obtain ⟨h1, h2⟩ := foldMax xs (max x a)
    simp only [List.foldl_cons]
    refine ⟨?_, fun y hy => ?_⟩
    · rcases List.mem_cons.1 h1 with h | h
      · rw [h]; rcases Int.le_total x a with q | q
        · rw [Int.max_eq_right q]; simp
        · rw [Int.max_eq_left q]; simp
      · simp [h]
    · have h0 := h2 (max x a) (List.mem_cons_self ..)
      rcases List.mem_cons.1 hy with h | h
      · subst h; omega
      · rcases List.mem_cons.1 h with h | h
        · subst h; omega
        · exact h2 y (List.mem_cons_of_mem _ h)
theorem minL_spec {l : List Int} (h : l ≠ []) : minL l ∈ l ∧ ∀ y ∈ l, minL l ≤ y := by
  cases l with
  | nil => exact absurd rfl h
  | cons x xs => exact foldMin xs x
theorem maxL_spec {l : List Int} (h : l ≠ []) : maxL l ∈ l ∧ ∀ y ∈ l, y ≤ maxL l := by
  cases l with
  | nil => exact absurd rfl h
  | cons x xs => exact foldMax xs x
theorem minL_perm {l m : List Int} (h : l.Perm m) : minL l = minL m := by
  by_cases e : l = []
  · subst e; rw [List.nil_perm.1 h]
  · have e' : m ≠ [] := fun x => e (by subst x; exact List.perm_nil.1 h)
    obtain ⟨a1, a2⟩ := minL_spec e
    obtain ⟨b1, b2⟩ := minL_spec e'
    have c1 := a2 _ (h.mem_iff.2 b1)
    have c2 := b2 _ (h.mem_iff.1 a1)
    omega
theorem maxL_perm {l m : List Int} (h : l.Perm m) : maxL l = maxL m := by
  by_cases e : l = []
  · subst e; rw [List.nil_perm.1 h]
  · have e' : m ≠ [] := fun x => e (by subst x; exact List.perm_nil.1 h)
    obtain ⟨a1, a2⟩ := maxL_spec e
    obtain ⟨b1, b2⟩ := maxL_spec e'
    have c1 := a2 _ (h.mem_iff.2 b1)
    have c2 := b2 _ (h.mem_iff.1 a1)
    omega

def valsN (D : Dat) (F : Int → (Nat → Int) → Int) : List Int := (truthsN D []).map fun x => F x.1 (G D x.1 x.2)
theorem vals_perm (D : Dat) (F : Int → (Nat → Int) → Int) : (valsN D F).Perm (valsL D F (truthsL D 0)) := (truths_perm0 D).map _
theorem spanF_vals {D : Dat} {F : Int → (Nat → Int) → Int} (h : enterE D [] = 0) : spanF D F = (minL (valsN D F), maxL (valsN D F)) := by
  unfold spanF; rw [if_pos h, minL_perm (vals_perm D F), maxL_perm (vals_perm D F)]

theorem enterE_none (D : Dat) : enterE D [] = if (checkF D).2.2 ≠ 0 then (checkF D).2.2 else if (truthsL D 0).isEmpty = true then 8 else 0 := by
  unfold enterE
  have h1 : outB 0 ((D.spots.length : Int) - 1) [] = false := rfl
  simp [h1]

theorem mn_eq (a b : Int) : mn a b = min b a := by unfold mn; rw [Int.min_def]; split <;> split <;> omega
theorem mx_eq (a b : Int) : mx a b = max b a := by unfold mx; rw [Int.max_def]; split <;> split <;> omega

abbrev numF : Int → (Nat → Int) → Int := fun _ g => 10 * manyF g + spotsTo g 7
theorem rWolf {D : Dat} (hV : Valid D) (near : Int) (set : Nat) (x : Int) : Ev (fun f => helioscoperef01_Wolf.f f x (RG D near set)) (10 * manyF (G D near set) + spotsTo (G D near set) 7) := by
  unfold helioscoperef01_Wolf.f
  have h1 : 0 ≤ manyF (G D near set) ∧ manyF (G D near set) ≤ 7 := by
    have S := G_spec D near set hV.n7
    have h7 := hV.n7
    rw [manyF_eq hV, ← S.lead]
    have := List.countP_le_length (p := leader (G D near set)) (l := List.range D.spots.length)
    rw [List.length_range] at this
    omega
  have h2 : 0 ≤ spotsTo (G D near set) 7 ∧ spotsTo (G D near set) 7 ≤ 7 := by
    rw [spots_eq _ (G_nonneg hV near set)]
    have := List.countP_le_length (p := fun k => decide (0 < G D near set k)) (l := List.range 7)
    rw [List.length_range] at this
    unfold spotsG
    omega
  refine Ev.bind (rCount hV near set x) ?_
  refine Ev.congr (f := fun _ => some (10 * manyF (G D near set) + spotsTo (G D near set) 7)) (fun f => ?_) (Ev.now _)
  simp only
  rw [wrap_in (x := 10 * manyF (G D near set)) (by omega) (by omega), wrap_in (by omega) (by omega)]

theorem rNum0 {D : Dat} (hV : Valid D) (X : List (Int × Nat)) (V : List Int) (hVl : V = X.map fun x => numF x.1 (G D x.1 x.2)) (hX : X.length ≤ 2000) (d : Nat) : ∀ (i : Nat), 0 < i → i + d = X.length →
    Ev (fun f => helioscoperef01_Numbers.l0 f (X.map (toR D)) (i : Int) (minL (V.take i)) (maxL (V.take i)))
      (minL V, maxL V, 0) := by
  induction d with
  | zero =>
    intro i _ hi
    have hlen : V.length = X.length := by rw [hVl, List.length_map]
    rw [show V.take i = V from List.take_of_length_le (by omega)]
    refine Ev.step (f := fun _ => some (minL V, maxL V, 0)) (fun f => ?_) (Ev.now _)
    simp only [helioscoperef01_Numbers.l0, List.length_map]
    rw [if_neg (by omega)]
  | succ d ih =>
    intro i h0 hi
    have hi' : i < X.length := by omega
    have ih' := ih (i + 1) (by omega) (by omega)
    have hx := rd_toR (D := D) X i hi'
    have hlen : V.length = X.length := by rw [hVl, List.length_map]
    have hv : V[i]'(by omega) = numF X[i].1 (G D X[i].1 X[i].2) := by subst hVl; rw [List.getElem_map]
    have m1 : minL (V.take (i + 1)) = min (minL (V.take i)) (V[i]'(by omega)) := foldL_take min V i h0 (by omega)
    have m2 : maxL (V.take (i + 1)) = max (maxL (V.take i)) (V[i]'(by omega)) := foldL_take max V i h0 (by omega)
    rw [m1, m2, hv] at ih'
    have hw := rWolf hV X[i].1 X[i].2 X[i].1
    generalize RG D X[i].1 X[i].2 = R at *
    generalize minL (V.take i) = lo at *
    generalize maxL (V.take i) = hi2 at *
    refine Ev.step (f := fun f => (helioscoperef01_Wolf.f f X[i].1 R).bind fun t => helioscoperef01_Numbers.l0 f (X.map (toR D)) ((i + 1 : Nat) : Int) (min lo t) (max hi2 t)) (fun f => ?_)
      (Ev.bind (f := fun f t => helioscoperef01_Numbers.l0 f (X.map (toR D)) ((i + 1 : Nat) : Int) (min lo t) (max hi2 t)) hw ih')
    simp only [helioscoperef01_Numbers.l0, List.length_map, hx, helioscoperef01_Wide.f, Option.bind_some, mn_eq, mx_eq]
    rw [if_pos (by omega), if_pos (by omega), wrapN (by omega)]

theorem rNumbers {D : Dat} (hF : Fits D) : Ev (fun f => helioscoperef01_Numbers.f f D.nm D.rad D.lo D.hi D.spots D.told) ((spanF D numF).1, (spanF D numF).2, enterE D []) := by
  unfold helioscoperef01_Numbers.f
  have he := enterE_none D
  refine Ev.bind (rCheck D hF.nm hF.s hF.t) ?_
  by_cases hc : (checkF D).2.2 = 0
  · have hV := (check_valid hc).1
    rw [if_neg (fun x => x hc)] at he
    rw [hc]
    refine Ev.bind (rKnown hV) ?_
    by_cases hz : (truthsL D 0).isEmpty = true
    · rw [if_pos hz] at he ⊢
      have e2 : spanF D numF = (0, 0) := by unfold spanF; rw [he]; rfl
      rw [e2, he]
      exact Ev.now _
    · rw [if_neg hz] at he ⊢
      have hne : truthsL D 0 ≠ [] := fun x => hz (List.isEmpty_iff.2 x)
      have hl : 0 < (truthsN D []).length := by rw [(truths_perm0 D).length_eq]; exact List.length_pos_iff.2 hne
      have hX := truthsN_len hV []
      have hx0 : rd_T57 ((truthsN D []).map (toR D)) 0 = ⟨(truthsN D [])[0].1, RG D (truthsN D [])[0].1 (truthsN D [])[0].2⟩ := rd_toR (D := D) (truthsN D []) 0 hl
      have hh := rNum0 hV (truthsN D []) (valsN D numF) rfl (by omega) ((truthsN D []).length - 1) 1 (by omega) (by omega)
      have e1 : (valsN D numF).take 1 = [numF (truthsN D [])[0].1 (G D (truthsN D [])[0].1 (truthsN D [])[0].2)] := by
        unfold valsN
        rw [List.take_one, List.head?_map, List.head?_eq_getElem?, List.getElem?_eq_getElem hl]; rfl
      rw [e1] at hh
      rw [spanF_vals he, he]
      have hw := rWolf hV (truthsN D [])[0].1 (truthsN D [])[0].2 (truthsN D [])[0].1
      simp only [if_true, hx0]
      generalize RG D (truthsN D [])[0].1 (truthsN D [])[0].2 = R at hw ⊢
      refine Ev.congr (f := fun f => (helioscoperef01_Wolf.f f (truthsN D [])[0].1 R).bind fun t => (helioscoperef01_Wolf.f f (truthsN D [])[0].1 R).bind fun u => helioscoperef01_Numbers.l0 f ((truthsN D []).map (toR D)) 1 t u) (fun f => by rw [if_pos (by rw [List.length_map]; omega)]) ?_
      refine Ev.bind (f := fun f t => (helioscoperef01_Wolf.f f (truthsN D [])[0].1 R).bind fun u => helioscoperef01_Numbers.l0 f ((truthsN D []).map (toR D)) 1 t u) hw ?_
      refine Ev.bind (f := fun f u => helioscoperef01_Numbers.l0 f ((truthsN D []).map (toR D)) 1 _ u) hw ?_
      exact hh
  · rw [if_pos hc] at he
    refine Ev.bind (rKnownE D _ hc) ?_
    have e2 : spanF D numF = (0, 0) := by unfold spanF; rw [he, if_neg hc]
    simp only [if_neg hc, e2, he]
    exact Ev.now _

theorem rKnownAll {D : Dat} (hF : Fits D) : ∃ rl re, Ev (fun f => helioscoperef01_known.f f D.nm D.rad D.lo D.hi D.spots D.told (checkF D).2.2) (rl, re) ∧ enterE D [] = re ∧ (re = 0 → Valid D ∧ rl = (truthsN D []).map (toR D) ∧ truthsN D [] ≠ []) := by
  have he := enterE_none D
  by_cases hc : (checkF D).2.2 = 0
  · have hV := (check_valid hc).1
    rw [if_neg (fun x => x hc)] at he
    have hk := rKnown hV
    rw [hc]
    by_cases hz : (truthsL D 0).isEmpty = true
    · rw [if_pos hz] at he hk
      exact ⟨_, _, hk, he, fun h => absurd h (by decide)⟩
    · rw [if_neg hz] at he hk
      have hne : truthsL D 0 ≠ [] := fun x => hz (List.isEmpty_iff.2 x)
      refine ⟨_, _, hk, he, fun _ => ⟨hV, rfl, fun x => hne ?_⟩⟩
      have := truths_perm0 D
      rw [x] at this
      exact List.nil_perm.1 this
  · rw [if_pos hc] at he
    exact ⟨_, _, rKnownE D _ hc, he, fun h => absurd h hc⟩
end Go.Proofs.Ytemeapfnfegkiaa.D
end
section
/- Package disk: the reference's Counts and Near. -/
namespace Go.Proofs.Ytemeapfnfegkiaa.D
open Go Go.RowKit Go.Proofs.YtemeapfnfegkiaaK Go.Proofs.YtemeapfnfegkiaaW.PrintWords Go.Proofs.YtemeapfnfegkiaaW.PrintLast Go.Proofs.YtemeapfnfegkiaaW.PrintMore Go.Proofs.Ytemeapfnfegkiaa.PR
set_option linter.unusedVariables false
set_option linter.unusedSimpArgs false

set_option maxRecDepth 100000 in
set_option maxHeartbeats 2000000 in
theorem refNear_calls (D : Dat) (A4 : Option Addr) (c4 : Nat) (A5 : Option Addr) (c5 : Nat) (w : World) (h : Arg w D A4 c4 A5 c5) :
    Calls Try.prog 32 #[.agg #[.string D.nm, .int .i64 D.rad, .int .i64 D.lo, .int .i64 D.hi, .slice A4 D.spots.length c4, .slice A5 D.told.length c5]] w
      fun e w' => e = .returned (.tuple #[.agg #[.int .i64 (spanF D (fun n _ => n)).1, .int .i64 (spanF D (fun n _ => n)).2], .int .i64 (enterE D [])]) ∧ Below w.heap.size w w' := by
  have hb1 := below_alloc (below_alloc (Below.refl w.heap.size w) (.cells #[.string D.nm, .int .i64 D.rad, .int .i64 D.lo, .int .i64 D.hi, .slice A4 D.spots.length c4, .slice A5 D.told.length c5] 27)) (.cells #[.int .i64 0, .int .i64 0] 23)
  have HB := Aside0.mk hb1
  have HS := Aside0.mk (blk_alloc (blk_new w (.cells #[.string D.nm, .int .i64 D.rad, .int .i64 D.lo, .int .i64 D.hi, .slice A4 D.spots.length c4, .slice A5 D.told.length c5] 27)) (.cells #[.int .i64 0, .int .i64 0] 23))
  have HX := Aside0.mk (new_at (W := w.alloc (.cells #[.string D.nm, .int .i64 D.rad, .int .i64 D.lo, .int .i64 D.hi, .slice A4 D.spots.length c4, .slice A5 D.told.length c5] 27)) (n := w.heap.size + 1) (by simp) (.cells #[.int .i64 0, .int .i64 0] 23))
  have HA := Aside0.mk (h.below hb1)
  have hF := h.fits
  have HE := Aside0.mk (enterE_none D)
  clear h hb1
  obtain ⟨rs, hrs⟩ : ∃ rs, spanF D (fun n _ => n) = rs := ⟨_, rfl⟩
  have HRS := Aside0.mk hrs
  rw [hrs]
  clear hrs
  obtain ⟨q, hq⟩ : ∃ q, w.heap.size = q := ⟨_, rfl⟩
  go_enter Try.func32, Try.ntmps32
  go_wp2_with fail
  generalize (w.alloc (.cells #[.string D.nm, .int .i64 D.rad, .int .i64 D.lo, .int .i64 D.hi, .slice A4 D.spots.length c4, .slice A5 D.told.length c5] 27)).alloc (.cells #[.int .i64 0, .int .i64 0] 23) = w1 at HB HS HX HA ⊢
  rw [hq] at HS HX
  obtain ⟨K, hK⟩ := (rCheck D hF.nm hF.s hF.t).rounds
  generalize hcF : checkF D = cF at hK
  obtain ⟨r1, r2, r3⟩ := cF
  have HK := Aside0.mk hK
  have HCF := Aside0.mk hcF
  clear hK hcF
  refine (helioscoperef01_Check.calls K D.nm D.rad D.lo D.hi A4 c4 D.spots A5 c5 D.told r1 r2 r3 w1 HA.out.s HA.out.sc HA.out.t HA.out.tc HK.out).mono ?_
  rintro e w2 ⟨rfl, hb⟩
  have HB2 := Aside0.mk (HB.out.trans (hb.mono HB.out.size))
  have HS2 := Aside0.mk (blk_below HS.out hb)
  have HX2 := Aside0.mk (blk_below HX.out hb)
  have HA2 := Aside0.mk (HA.out.below hb)
  clear hb HB HS HX HA HK
  go_upto_region 2 with (fail)
  have k0 := (blk_cell HS2.out 0).trans rfl
  have k1 := (blk_cell HS2.out 1).trans rfl
  have k2 := (blk_cell HS2.out 2).trans rfl
  have k3 := (blk_cell HS2.out 3).trans rfl
  have k4 := (blk_cell HS2.out 4).trans rfl
  have k5 := (blk_cell HS2.out 5).trans rfl
  have kl := blk_lt HS2.out
  go_wp2_with fail
  clear k0 k1 k2 k3 k4 k5 kl
  obtain ⟨rl, re, hev, hen, hok⟩ := rKnownAll hF
  obtain ⟨K, hK⟩ := hev.rounds
  rw [HCF.out] at hK
  have HK := Aside0.mk hK
  have HEN := Aside0.mk hen
  have HOK := Aside0.mk hok
  clear hK hev hen hok HE
  refine (helioscoperef01_known.calls K D.nm D.rad D.lo D.hi A4 c4 D.spots A5 c5 D.told r3 rl re w2 HA2.out.s HA2.out.sc HA2.out.t HA2.out.tc HK.out).mono ?_
  rintro e w3 ⟨v0, rfl, hn, hb⟩
  have HB3 := Aside0.mk (HB2.out.trans (hb.mono HB2.out.size))
  have HX3 := Aside0.mk (blk_below HX2.out hb)
  have HN3 := Aside0.mk hn
  clear hb hn HB2 HS2 HX2 HA2 HK
  by_cases h0 : re = 0
  · subst h0
    obtain ⟨hV, hrl, hne⟩ := HOK.out rfl
    obtain ⟨A, c, rfl⟩ := Kd.N_slice HN3.out
    have hC := (Kd.N_reads' HN3.out).2.2
    have hlen : rl.length = (truthsN D []).length := by rw [hrl, List.length_map]
    have hpos : 0 < (truthsN D []).length := List.length_pos_iff.2 hne
    have hle := truthsN_len hV []
    obtain ⟨ad, A1, c1, hA, hx0, hx1, _, _⟩ := at_T57 hC 0 (by omega) (by omega)
    subst hA
    have HV := Aside0.mk hV
    have HRL := Aside0.mk hrl
    have HC3 := Aside0.mk hC
    clear hV hrl hC HOK hne
    have hr : rs = (minL (valsN D fun n _ => n), maxL (valsN D fun n _ => n)) := by rw [← HRS.out, spanF_vals HEN.out]
    subst hr
    have hv0 : (rd_T57 rl 0).f0 = (truthsN D [])[0].1 := by
      have := rd_toR (D := D) (truthsN D []) 0 hpos
      rw [HRL.out]; exact congrArg S57.f0 this
    rw [hv0] at hx0
    have hx : w3.cell? ad = some (.int .i64 (truthsN D [])[0].1) := by simpa [Addr.add] using hx0
    have hxl := World.block_lt_of_cell? _ _ hx
    have hd : w3.drew.cell? ad = some (.int .i64 (truthsN D [])[0].1) := hx
    have hdl : ad.block < w3.drew.heap.size := hxl
    have hl0 : (0 : Int) < rl.length := by omega
    have hnew := World.new_ne w3 ad hx
    clear hx0 hx1 hv0 hxl
    go_upto_region 5 with (fail)
    go_region_held3 (fun w' => w'.cell? ad = some (.int .i64 (truthsN D [])[0].1)) (first | assumption | exact Lib.cell?_alloc_some (W := w3) _ hx | go_keep) (fail)
    have HB4 : Aside0 (Below w3.heap.size w3 (w3.alloc (.cells #[.int .i64 (truthsN D [])[0].1, .int .i64 (truthsN D [])[0].1] 23)).drew) := ⟨below_drew1 (below_alloc (Below.refl _ _) _)⟩
    have HD4 : Aside0 ((w3.alloc (.cells #[.int .i64 (truthsN D [])[0].1, .int .i64 (truthsN D [])[0].1] 23)).drew.heap[w3.heap.size]? = some (.cells #[.int .i64 (truthsN D [])[0].1, .int .i64 (truthsN D [])[0].1] 23 (0, 0))) := ⟨blk_new w3 _⟩
    generalize (w3.alloc (.cells #[.int .i64 (truthsN D [])[0].1, .int .i64 (truthsN D [])[0].1] 23)).drew = w4 at HB4 HD4 ⊢
    obtain ⟨B, hBe⟩ : ∃ B, w3.heap.size = B := ⟨_, rfl⟩
    have HBe := Aside0.mk hBe
    rw [hBe] at HD4 ⊢
    have hvl : (valsN D fun n _ => n).length = (truthsN D []).length := by simp [valsN]
    have ht1 : (valsN D fun n _ => n).take 1 = [(truthsN D [])[0].1] := by
      unfold valsN
      rw [List.take_one, List.head?_map, List.head?_eq_getElem?, List.getElem?_eq_getElem hpos]; rfl
    have HRD : Aside0 (∀ k, k < (truthsN D []).length → (rd_T57 rl (k : Int)).f0 = rd (valsN D fun n _ => n) (k : Int)) := ⟨fun k hk => by
      have := rd_toR (D := D) (truthsN D []) k hk
      rw [HRL.out, this, rd_nat]; simp [valsN, hk]⟩
    clear hx hd hdl hnew HN3 hBe HRL
    obtain ⟨V, hVe⟩ : ∃ V, (valsN D fun n _ => n) = V := ⟨_, rfl⟩
    have HVE := Aside0.mk hVe
    simp only [hVe] at hvl ht1 HRD
    have m1 : (truthsN D [])[0].1 = minL (V.take 1) := by rw [ht1]; rfl
    have m2 : (truthsN D [])[0].1 = maxL (V.take 1) := by rw [ht1]; rfl
    have HD5 : Aside0 (w4.heap[B]? = some (.cells #[.int .i64 (minL (V.take 1)), .int .i64 (maxL (V.take 1))] 23 (0, 0))) := ⟨by rw [← m1, ← m2]; exact HD4.out⟩
    clear HD4 ht1 hVe m1 m2
    obtain ⟨n, hn⟩ : ∃ n, (truthsN D []).length = n := ⟨_, rfl⟩
    rw [hn] at hlen hpos hle hvl HRD ⊢
    clear hn hl0 HV
    go_wp2_with fail
    go_loopw [9] (fun j wr => ∃ k : Nat, 0 < k ∧ k ≤ n ∧ j = .int .i64 k ∧ Aside0 (Below w3.heap.size w3 wr) ∧ Aside0 (wr.heap[B]? = some (.cells #[.int .i64 (minL (V.take k)), .int .i64 (maxL (V.take k))] 23 (0, 0)))) (fun j _ => n - (intOf j).toNat)
    case atStart => exact ⟨1, by omega, by omega, rfl, HB4, HD5⟩
    case round =>
      clear HB4 HD5
      obtain ⟨k, hk0, hk, rfl, HB, HD⟩ := hrel
      have HC := Aside0.mk (Kd.C_below HC3.out HB.out)
      have HX := Aside0.mk (blk_below HX3.out HB.out)
      by_cases hlt : k < n
      · obtain ⟨ad', A1', c1', hA', hx0, _, _, _⟩ := at_T57 HC.out (k : Int) (by omega) (by omega)
        cases hA'
        rw [HRD.out k hlt, Int.toNat_natCast] at hx0
        have hM : rd V (k : Int) = V[k]'(by omega) := by rw [rd_nat, List.getD_eq_getElem?_getD, List.getElem?_eq_getElem (by omega)]; rfl
        have m1 : minL (V.take (k + 1)) = mn (rd V (k : Int)) (minL (V.take k)) := by rw [mn_eq, hM]; exact foldL_take min V k hk0 (by omega)
        have m2 : maxL (V.take (k + 1)) = mx (rd V (k : Int)) (maxL (V.take k)) := by rw [mx_eq, hM]; exact foldL_take max V k hk0 (by omega)
        have HM := Aside0.mk (And.intro m1 m2)
        clear m1 m2 hM
        generalize rd V (k : Int) = v at hx0 HM
        generalize minL (V.take k) = lo at HD HM
        generalize maxL (V.take k) = hi at HD HM
        have b0 : wr.drew.cell? ⟨B, 0, none⟩ = some (.int .i64 lo) := (blk_cell HD.out 0).trans rfl
        have b1 : wr.drew.cell? ⟨B, 1, none⟩ = some (.int .i64 hi) := (blk_cell HD.out 1).trans rfl
        have hxd : wr.drew.cell? (ad.add (k * 2)) = some (.int .i64 v) := hx0
        go_upto_region 9 with (fail)
        go_region_with (go_at_call 102; refine (helioscoperef01_Wide.calls lo hi v (mn v lo) (mx v hi) wr.drew rfl).mono ?_; rintro e w5 ⟨rfl, hb⟩; have HB5 := Aside0.mk (HB.out.drew.trans (hb.mono HB.out.size)); have HD5 := Aside0.mk (blk_below (w := wr.drew) HD.out hb); have y0 := (blk_cell HD5.out 0).trans rfl; have y1 := (blk_cell HD5.out 1).trans rfl; have yf0 := blk_frozen HD5.out 0; have yf1 := blk_frozen HD5.out 1; have yl := blk_lt HD5.out; clear hb)
        all_goals
          go_wp2
          go_round
          case rel => exact ⟨k + 1, by omega, by omega, by go_num, ⟨below_set (below_set HB5.out (by show w3.heap.size ≤ B; rw [HBe.out]; exact Nat.le_refl _)) (by show w3.heap.size ≤ B; rw [HBe.out]; exact Nat.le_refl _)⟩, ⟨by rw [HM.out.1, HM.out.2]; exact blk_set (blk_set HD5.out 0 _) 1 _⟩⟩
          case measure => simp [intOf]; omega
      · obtain rfl : k = n := by omega
        have b0 : wr.cell? ⟨B, 0, none⟩ = some (.int .i64 (minL (V.take k))) := (blk_cell HD.out 0).trans rfl
        have b1 : wr.cell? ⟨B, 1, none⟩ = some (.int .i64 (maxL (V.take k))) := (blk_cell HD.out 1).trans rfl
        have x0 := (blk_cell HX.out 0).trans rfl
        have x1 := (blk_cell HX.out 1).trans rfl
        have xf0 := blk_frozen HX.out 0
        have xf1 := blk_frozen HX.out 1
        have xl := blk_lt HX.out
        go_wp2
        have hV : V.take k = V := List.take_of_length_le (by omega)
        refine bodyPost_ret (v := .tuple #[.agg #[.int .i64 (minL (V.take k)), .int .i64 (maxL (V.take k))], .int .i64 0]) (results_row_tmp rfl _ _ (q + 1) 23 _ (0, 0) _ _ rfl (blk_set (blk_set HX.out 0 _) 1 _) Try.underlying23 rfl info23s rfl) rfl
          ⟨by rw [HEN.out, hV, HVE.out], ?_⟩
        have hb := HB3.out.trans (HB.out.mono HB3.out.size)
        rw [← hq]
        exact below_set (below_set hb (by simp)) (by simp)
  · have hr : rs = (0, 0) := by rw [← HRS.out]; unfold spanF; rw [HEN.out, if_neg h0]
    subst hr
    have x0 := (blk_cell HX3.out 0).trans rfl
    have x1 := (blk_cell HX3.out 1).trans rfl
    have xf0 := blk_frozen HX3.out 0
    have xf1 := blk_frozen HX3.out 1
    have xl := blk_lt HX3.out
    go_wp2
    refine bodyPost_ret (v := .tuple #[.agg #[.int .i64 0, .int .i64 0], .int .i64 re]) (results_row_tmp rfl _ _ (q + 1) 23 _ (0, 0) _ _ rfl (blk_set (blk_set HX3.out 0 _) 1 _) Try.underlying23 rfl info23s rfl) rfl
      ⟨by rw [HEN.out], by rw [← hq]; exact below_set (below_set HB3.out (by simp)) (by simp)⟩
end Go.Proofs.Ytemeapfnfegkiaa.D
end
section
/- Package disk: the reference's Counts. -/
namespace Go.Proofs.Ytemeapfnfegkiaa.D
open Go Go.RowKit Go.Proofs.YtemeapfnfegkiaaK Go.Proofs.YtemeapfnfegkiaaW.PrintWords Go.Proofs.YtemeapfnfegkiaaW.PrintLast Go.Proofs.YtemeapfnfegkiaaW.PrintMore Go.Proofs.Ytemeapfnfegkiaa.PR
set_option linter.unusedVariables false
set_option linter.unusedSimpArgs false

set_option maxRecDepth 100000 in
set_option maxHeartbeats 2000000 in
theorem refCounts_calls (D : Dat) (A4 : Option Addr) (c4 : Nat) (A5 : Option Addr) (c5 : Nat) (w : World) (h : Arg w D A4 c4 A5 c5) :
    Calls Try.prog 28 #[.agg #[.string D.nm, .int .i64 D.rad, .int .i64 D.lo, .int .i64 D.hi, .slice A4 D.spots.length c4, .slice A5 D.told.length c5]] w
      fun e w' => e = .returned (.tuple #[.agg #[.int .i64 (spanF D (fun _ g => manyF g)).1, .int .i64 (spanF D (fun _ g => manyF g)).2], .agg #[.int .i64 (spanF D (fun _ g => spotsTo g 7)).1, .int .i64 (spanF D (fun _ g => spotsTo g 7)).2], .int .i64 (enterE D [])]) ∧ Below w.heap.size w w' := by
  have hb1 := below_alloc (below_alloc (below_alloc (Below.refl w.heap.size w) (.cells #[.string D.nm, .int .i64 D.rad, .int .i64 D.lo, .int .i64 D.hi, .slice A4 D.spots.length c4, .slice A5 D.told.length c5] 27)) (.cells #[.int .i64 0, .int .i64 0] 23)) (.cells #[.int .i64 0, .int .i64 0] 23)
  have HB := Aside0.mk hb1
  have HS := Aside0.mk (blk_alloc (blk_alloc (blk_new w (.cells #[.string D.nm, .int .i64 D.rad, .int .i64 D.lo, .int .i64 D.hi, .slice A4 D.spots.length c4, .slice A5 D.told.length c5] 27)) (.cells #[.int .i64 0, .int .i64 0] 23)) (.cells #[.int .i64 0, .int .i64 0] 23))
  have HX := Aside0.mk (blk_alloc (new_at (W := w.alloc (.cells #[.string D.nm, .int .i64 D.rad, .int .i64 D.lo, .int .i64 D.hi, .slice A4 D.spots.length c4, .slice A5 D.told.length c5] 27)) (n := w.heap.size + 1) (by simp) (.cells #[.int .i64 0, .int .i64 0] 23)) (.cells #[.int .i64 0, .int .i64 0] 23))
  have HY := Aside0.mk (new_at (W := (w.alloc (.cells #[.string D.nm, .int .i64 D.rad, .int .i64 D.lo, .int .i64 D.hi, .slice A4 D.spots.length c4, .slice A5 D.told.length c5] 27)).alloc (.cells #[.int .i64 0, .int .i64 0] 23)) (n := w.heap.size + 1 + 1) (by simp) (.cells #[.int .i64 0, .int .i64 0] 23))
  have HA := Aside0.mk (h.below hb1)
  have hF := h.fits
  clear h hb1
  obtain ⟨rs, hrs⟩ : ∃ rs, spanF D (fun _ g => manyF g) = rs := ⟨_, rfl⟩
  obtain ⟨rt, hrt⟩ : ∃ rs, spanF D (fun _ g => spotsTo g 7) = rs := ⟨_, rfl⟩
  have HRS := Aside0.mk hrs
  have HRT := Aside0.mk hrt
  rw [hrs, hrt]
  clear hrs hrt
  obtain ⟨q, hq⟩ : ∃ q, w.heap.size = q := ⟨_, rfl⟩
  go_enter Try.func28, Try.ntmps28
  go_wp2_with fail
  generalize ((w.alloc (.cells #[.string D.nm, .int .i64 D.rad, .int .i64 D.lo, .int .i64 D.hi, .slice A4 D.spots.length c4, .slice A5 D.told.length c5] 27)).alloc (.cells #[.int .i64 0, .int .i64 0] 23)).alloc (.cells #[.int .i64 0, .int .i64 0] 23) = w1 at HB HS HX HY HA ⊢
  rw [hq] at HS HX HY
  obtain ⟨K, hK⟩ := (rCheck D hF.nm hF.s hF.t).rounds
  generalize hcF : checkF D = cF at hK
  obtain ⟨r1, r2, r3⟩ := cF
  have HK := Aside0.mk hK
  have HCF := Aside0.mk hcF
  clear hK hcF
  refine (helioscoperef01_Check.calls K D.nm D.rad D.lo D.hi A4 c4 D.spots A5 c5 D.told r1 r2 r3 w1 HA.out.s HA.out.sc HA.out.t HA.out.tc HK.out).mono ?_
  rintro e w2 ⟨rfl, hb⟩
  have HB2 := Aside0.mk (HB.out.trans (hb.mono HB.out.size))
  have HS2 := Aside0.mk (blk_below HS.out hb)
  have HX2 := Aside0.mk (blk_below HX.out hb)
  have HY2 := Aside0.mk (blk_below HY.out hb)
  have HA2 := Aside0.mk (HA.out.below hb)
  clear hb HB HS HX HY HA HK
  go_upto_region 2 with (fail)
  have k0 := (blk_cell HS2.out 0).trans rfl
  have k1 := (blk_cell HS2.out 1).trans rfl
  have k2 := (blk_cell HS2.out 2).trans rfl
  have k3 := (blk_cell HS2.out 3).trans rfl
  have k4 := (blk_cell HS2.out 4).trans rfl
  have k5 := (blk_cell HS2.out 5).trans rfl
  have kl := blk_lt HS2.out
  go_wp2_with fail
  clear k0 k1 k2 k3 k4 k5 kl
  obtain ⟨rl, re, hev, hen, hok⟩ := rKnownAll hF
  obtain ⟨K, hK⟩ := hev.rounds
  rw [HCF.out] at hK
  have HK := Aside0.mk hK
  have HEN := Aside0.mk hen
  have HOK := Aside0.mk hok
  clear hK hev hen hok
  refine (helioscoperef01_known.calls K D.nm D.rad D.lo D.hi A4 c4 D.spots A5 c5 D.told r3 rl re w2 HA2.out.s HA2.out.sc HA2.out.t HA2.out.tc HK.out).mono ?_
  rintro e w3 ⟨v0, rfl, hn, hb⟩
  have HB3 := Aside0.mk (HB2.out.trans (hb.mono HB2.out.size))
  have HX3 := Aside0.mk (blk_below HX2.out hb)
  have HY3 := Aside0.mk (blk_below HY2.out hb)
  have HN3 := Aside0.mk hn
  clear hb hn HB2 HS2 HX2 HY2 HA2 HK
  by_cases h0 : re = 0
  · subst h0
    obtain ⟨hV, hrl, hne⟩ := HOK.out rfl
    obtain ⟨A, c, rfl⟩ := Kd.N_slice HN3.out
    have hC := (Kd.N_reads' HN3.out).2.2
    have hlen : rl.length = (truthsN D []).length := by rw [hrl, List.length_map]
    have hpos : 0 < (truthsN D []).length := List.length_pos_iff.2 hne
    have hle := truthsN_len hV []
    have HRC : Aside0 (∀ k, k < (truthsN D []).length → ∃ K, helioscoperef01_Count.f K (rd_T57 rl (k : Int)).f0 (rd_T57 rl (k : Int)).f1 = some (rd (valsN D fun _ g => manyF g) (k : Int), rd (valsN D fun _ g => spotsTo g 7) (k : Int))) := ⟨fun k hk => by
      have e := rd_toR (D := D) (truthsN D []) k hk
      obtain ⟨K, hK⟩ := (rCount hV (truthsN D [])[k].1 (truthsN D [])[k].2 (truthsN D [])[k].1).rounds
      refine ⟨K, ?_⟩
      rw [hrl, e]
      have e1 : rd (valsN D fun _ g => manyF g) (k : Int) = manyF (G D (truthsN D [])[k].1 (truthsN D [])[k].2) := by rw [rd_nat]; simp [valsN, hk]
      have e2 : rd (valsN D fun _ g => spotsTo g 7) (k : Int) = spotsTo (G D (truthsN D [])[k].1 (truthsN D [])[k].2) 7 := by rw [rd_nat]; simp [valsN, hk]
      rw [e1, e2]
      exact hK⟩
    have hM : (valsN D fun _ g => manyF g).length = (truthsN D []).length := by simp [valsN]
    have hT : (valsN D fun _ g => spotsTo g 7).length = (truthsN D []).length := by simp [valsN]
    have hr : rs = (minL (valsN D fun _ g => manyF g), maxL (valsN D fun _ g => manyF g)) := by rw [← HRS.out, spanF_vals HEN.out]
    have hs : rt = (minL (valsN D fun _ g => spotsTo g 7), maxL (valsN D fun _ g => spotsTo g 7)) := by rw [← HRT.out, spanF_vals HEN.out]
    subst hr hs
    obtain ⟨M, hMe⟩ : ∃ V, (valsN D fun _ g => manyF g) = V := ⟨_, rfl⟩
    obtain ⟨T, hTe⟩ : ∃ V, (valsN D fun _ g => spotsTo g 7) = V := ⟨_, rfl⟩
    have HME := Aside0.mk hMe
    have HTE := Aside0.mk hTe
    rw [hMe] at hM
    rw [hTe] at hT
    rw [hMe, hTe] at HRC
    obtain ⟨n, hn⟩ : ∃ n, (truthsN D []).length = n := ⟨_, rfl⟩
    rw [hn] at hlen hpos hle hM hT HRC
    obtain ⟨ad, A1, c1, hA, hx0, hx1, hx2, hx3⟩ := at_T57 hC 0 (by omega) (by omega)
    subst hA
    have HC3 := Aside0.mk hC
    have HX2 := Aside0.mk hx2
    have HX3' := Aside0.mk hx3
    clear hV hrl hC HOK hne hn hMe hTe HN3 hx2 hx3
    have hl0 : (0 : Int) < rl.length := by omega
    have z0 : w3.cell? ad = some (.int .i64 (rd_T57 rl 0).f0) := by simpa [Addr.add] using hx0
    have z1 : w3.cell? ⟨ad.block, ad.off + 1, none⟩ = some (.slice A1 (rd_T57 rl 0).f1.length c1) := by simpa [Addr.add] using hx1
    clear hx0 hx1
    go_upto_region 5 with (fail)
    go_wp2_with fail
    obtain ⟨K0, hK0⟩ : ∃ K, helioscoperef01_Count.f K (rd_T57 rl 0).f0 (rd_T57 rl 0).f1 = some (rd M 0, rd T 0) := HRC.out 0 hpos
    refine (helioscoperef01_Count.calls K0 _ A1 c1 _ _ _ w3 HX3'.out HX2.out hK0).mono ?_
    rintro e w4 ⟨rfl, hb⟩
    have HB4 := Aside0.mk hb
    clear hb hK0 z0 z1 HX2 HX3'
    go_upto_region 7 with (fail)
    have HB5 : Aside0 (Below w3.heap.size w3 ((w4.alloc (.cells #[.int .i64 (rd M 0), .int .i64 (rd M 0)] 23)).alloc (.cells #[.int .i64 (rd T 0), .int .i64 (rd T 0)] 23))) := ⟨below_alloc (below_alloc HB4.out _) _⟩
    have HD5 : Aside0 (((w4.alloc (.cells #[.int .i64 (rd M 0), .int .i64 (rd M 0)] 23)).alloc (.cells #[.int .i64 (rd T 0), .int .i64 (rd T 0)] 23)).heap[w4.heap.size]? = some (.cells #[.int .i64 (rd M 0), .int .i64 (rd M 0)] 23 (0, 0))) := ⟨blk_alloc (blk_new w4 _) _⟩
    have HE5 : Aside0 (((w4.alloc (.cells #[.int .i64 (rd M 0), .int .i64 (rd M 0)] 23)).alloc (.cells #[.int .i64 (rd T 0), .int .i64 (rd T 0)] 23)).heap[w4.heap.size + 1]? = some (.cells #[.int .i64 (rd T 0), .int .i64 (rd T 0)] 23 (0, 0))) := ⟨new_at (by simp) _⟩
    have hBw : w3.heap.size ≤ w4.heap.size := HB4.out.size
    generalize (w4.alloc (.cells #[.int .i64 (rd M 0), .int .i64 (rd M 0)] 23)).alloc (.cells #[.int .i64 (rd T 0), .int .i64 (rd T 0)] 23) = w5 at HB5 HD5 HE5 ⊢
    obtain ⟨B, hBe⟩ : ∃ B, w4.heap.size = B := ⟨_, rfl⟩
    rw [hBe] at HD5 HE5 hBw ⊢
    clear hBe HB4
    have t1 : ∀ V : List Int, V.length = n → V.take 1 = [rd V 0] := by
      intro V hV
      cases V with
      | nil => simp at hV; omega
      | cons a V => rfl
    have HD6 : Aside0 (w5.heap[B]? = some (.cells #[.int .i64 (minL (M.take 1)), .int .i64 (maxL (M.take 1))] 23 (0, 0))) := ⟨by rw [t1 M hM]; exact HD5.out⟩
    have HE6 : Aside0 (w5.heap[B + 1]? = some (.cells #[.int .i64 (minL (T.take 1)), .int .i64 (maxL (T.take 1))] 23 (0, 0))) := ⟨by rw [t1 T hT]; exact HE5.out⟩
    clear HD5 HE5 t1 hl0
    go_wp2_with fail
    go_loopw [9, 10, 13] (fun _ _ j wr => ∃ k : Nat, 0 < k ∧ k ≤ n ∧ j = .int .i64 k ∧ Aside0 (Below w3.heap.size w3 wr) ∧ Aside0 (wr.heap[B]? = some (.cells #[.int .i64 (minL (M.take k)), .int .i64 (maxL (M.take k))] 23 (0, 0))) ∧ Aside0 (wr.heap[B + 1]? = some (.cells #[.int .i64 (minL (T.take k)), .int .i64 (maxL (T.take k))] 23 (0, 0)))) (fun _ _ j _ => n - (intOf j).toNat)
    case atStart => exact ⟨1, by omega, by omega, rfl, HB5, HD6, HE6⟩
    case round =>
      clear HB5 HD6 HE6
      obtain ⟨k, hk0, hk, rfl, HB, HD, HE⟩ := hrel
      have HC := Aside0.mk (Kd.C_below HC3.out HB.out)
      by_cases hlt : k < n
      · obtain ⟨ad', A1', c1', hA', hx0, hx1, hx2, hx3⟩ := at_T57 HC.out (k : Int) (by omega) (by omega)
        cases hA'
        obtain ⟨K0, hK0⟩ := HRC.out k hlt
        rw [Int.toNat_natCast] at hx0 hx1
        have hMk : rd M (k : Int) = M[k]'(by omega) := by rw [rd_nat, List.getD_eq_getElem?_getD, List.getElem?_eq_getElem (by omega)]; rfl
        have hTk : rd T (k : Int) = T[k]'(by omega) := by rw [rd_nat, List.getD_eq_getElem?_getD, List.getElem?_eq_getElem (by omega)]; rfl
        have m1 : minL (M.take (k + 1)) = mn (rd M (k : Int)) (minL (M.take k)) := by rw [mn_eq, hMk]; exact foldL_take min M k hk0 (by omega)
        have m2 : maxL (M.take (k + 1)) = mx (rd M (k : Int)) (maxL (M.take k)) := by rw [mx_eq, hMk]; exact foldL_take max M k hk0 (by omega)
        have t1 : minL (T.take (k + 1)) = mn (rd T (k : Int)) (minL (T.take k)) := by rw [mn_eq, hTk]; exact foldL_take min T k hk0 (by omega)
        have t2 : maxL (T.take (k + 1)) = mx (rd T (k : Int)) (maxL (T.take k)) := by rw [mx_eq, hTk]; exact foldL_take max T k hk0 (by omega)
        have HM := Aside0.mk (And.intro m1 m2)
        have HT := Aside0.mk (And.intro t1 t2)
        clear m1 m2 t1 t2 hMk hTk
        generalize rd M (k : Int) = u at hK0 HM
        generalize rd T (k : Int) = v at hK0 HT
        generalize minL (M.take k) = lo at HD HM
        generalize maxL (M.take k) = hi at HD HM
        generalize minL (T.take k) = lo' at HE HT
        generalize maxL (T.take k) = hi' at HE HT
        have HK0 := Aside0.mk hK0
        have H2 := Aside0.mk hx2
        have H3 := Aside0.mk hx3
        clear hK0 hx2 hx3
        go_wp2_with fail
        refine (helioscoperef01_Count.calls K0 _ A1' c1' _ _ _ wr H3.out H2.out HK0.out).mono ?_
        rintro e w6 ⟨rfl, hb⟩
        have HB6 := Aside0.mk (HB.out.trans (hb.mono HB.out.size))
        have HD6 := Aside0.mk (blk_below HD.out hb)
        have HE6 := Aside0.mk (blk_below HE.out hb)
        clear hb hx0 hx1 HB HD HE H2 H3 HK0 HC
        have b0 := (blk_cell HD6.out 0).trans rfl
        have b1 := (blk_cell HD6.out 1).trans rfl
        go_wp2_with fail
        refine (helioscoperef01_Wide.calls lo hi u (mn u lo) (mx u hi) w6 rfl).mono ?_
        rintro e w7 ⟨rfl, hb⟩
        have HB7 := Aside0.mk (HB6.out.trans (hb.mono HB6.out.size))
        have HD7 := Aside0.mk (blk_below HD6.out hb)
        have HE7 := Aside0.mk (blk_below HE6.out hb)
        clear hb HB6 HD6 HE6 b0 b1
        have b0 := (blk_cell HD7.out 0).trans rfl
        have b1 := (blk_cell HD7.out 1).trans rfl
        have f0 := blk_frozen HD7.out 0
        have f1 := blk_frozen HD7.out 1
        have bl := blk_lt HD7.out
        go_upto_region 12 with (fail)
        have HB8 : Aside0 (Below w3.heap.size w3 ((w7.setCell ⟨B, 0, none⟩ (.int .i64 (mn u lo))).setCell ⟨B, 1, none⟩ (.int .i64 (mx u hi)))) := ⟨below_set (below_set HB7.out hBw) hBw⟩
        have HD8 : Aside0 (((w7.setCell ⟨B, 0, none⟩ (.int .i64 (mn u lo))).setCell ⟨B, 1, none⟩ (.int .i64 (mx u hi))).heap[B]? = some (.cells #[.int .i64 (mn u lo), .int .i64 (mx u hi)] 23 (0, 0))) := ⟨blk_set (blk_set HD7.out 0 _) 1 _⟩
        have HE8 : Aside0 (((w7.setCell ⟨B, 0, none⟩ (.int .i64 (mn u lo))).setCell ⟨B, 1, none⟩ (.int .i64 (mx u hi))).heap[B + 1]? = some (.cells #[.int .i64 lo', .int .i64 hi'] 23 (0, 0))) := ⟨blk_far (blk_far HE7.out (by simp) _) (by simp) _⟩
        generalize ((w7.setCell ⟨B, 0, none⟩ (.int .i64 (mn u lo))).setCell ⟨B, 1, none⟩ (.int .i64 (mx u hi))) = w8 at HB8 HD8 HE8 ⊢
        clear b0 b1 f0 f1 bl HB7 HD7 HE7
        have b0 := (blk_cell HE8.out 0).trans rfl
        have b1 := (blk_cell HE8.out 1).trans rfl
        go_wp2_with fail
        refine (helioscoperef01_Wide.calls lo' hi' v (mn v lo') (mx v hi') w8 rfl).mono ?_
        rintro e w9 ⟨rfl, hb⟩
        have HB9 := Aside0.mk (HB8.out.trans (hb.mono HB8.out.size))
        have HD9 := Aside0.mk (blk_below HD8.out hb)
        have HE9 := Aside0.mk (blk_below HE8.out hb)
        clear hb HB8 HD8 HE8 b0 b1
        have b0 := (blk_cell HE9.out 0).trans rfl
        have b1 := (blk_cell HE9.out 1).trans rfl
        have f0 := blk_frozen HE9.out 0
        have f1 := blk_frozen HE9.out 1
        have bl := blk_lt HE9.out
        have hBw1 : w3.heap.size ≤ B + 1 := by omega
        go_wp2
        go_round
        case rel => exact ⟨k + 1, by omega, by omega, by go_num, ⟨below_set (below_set HB9.out hBw1) hBw1⟩, ⟨by rw [HM.out.1, HM.out.2]; exact blk_far (blk_far HD9.out (by simp) _) (by simp) _⟩, ⟨by rw [HT.out.1, HT.out.2]; exact blk_set (blk_set HE9.out 0 _) 1 _⟩⟩
        case measure => simp [intOf]; omega
      · obtain rfl : k = n := by omega
        have hVM : M.take k = M := List.take_of_length_le (by omega)
        have hVT : T.take k = T := List.take_of_length_le (by omega)
        have HX := Aside0.mk (blk_below HX3.out HB.out)
        have HY := Aside0.mk (blk_below HY3.out HB.out)
        have b0 : wr.cell? ⟨B, 0, none⟩ = some (.int .i64 (minL (M.take k))) := (blk_cell HD.out 0).trans rfl
        have b1 : wr.cell? ⟨B, 1, none⟩ = some (.int .i64 (maxL (M.take k))) := (blk_cell HD.out 1).trans rfl
        have d0 : wr.cell? ⟨B + 1, 0, none⟩ = some (.int .i64 (minL (T.take k))) := (blk_cell HE.out 0).trans rfl
        have d1 : wr.cell? ⟨B + 1, 1, none⟩ = some (.int .i64 (maxL (T.take k))) := (blk_cell HE.out 1).trans rfl
        rw [hVM] at b0 b1
        rw [hVT] at d0 d1
        have x0 := (blk_cell HX.out 0).trans rfl
        have x1 := (blk_cell HX.out 1).trans rfl
        have xf0 := blk_frozen HX.out 0
        have xf1 := blk_frozen HX.out 1
        have xl := blk_lt HX.out
        have y0 := (blk_cell HY.out 0).trans rfl
        have y1 := (blk_cell HY.out 1).trans rfl
        have yf0 := blk_frozen HY.out 0
        have yf1 := blk_frozen HY.out 1
        have yl := blk_lt HY.out
        have hn1 : q + 1 ≠ B := by have := blk_lt HX3.out; omega
        have hn2 : q + 1 + 1 ≠ B := by have := blk_lt HY3.out; omega
        go_upto_region 13 with (fail)
        have hn3 : q ≠ B := by have := blk_lt HX3.out; omega
        go_region_held3 (fun w' => w'.cell? ⟨B, 0, none⟩ = some (.int .i64 (minL M)) ∧ w'.cell? ⟨B, 1, none⟩ = some (.int .i64 (maxL M)) ∧ w'.cell? ⟨B + 1, 0, none⟩ = some (.int .i64 (minL T)) ∧ w'.cell? ⟨B + 1, 1, none⟩ = some (.int .i64 (maxL T))) (first | (refine ⟨?_, ?_, ?_, ?_⟩ <;> assumption) | go_keep) (fail)
        have hb := HB3.out.trans (HB.out.mono HB3.out.size)
        all_goals
          go_wp2
          first
            | refine bodyPost_ret (v := .tuple #[.agg #[.int .i64 (minL M), .int .i64 (maxL M)], .agg #[.int .i64 (minL T), .int .i64 (maxL T)], .int .i64 0]) (results_row2_tmp rfl _ _ (q + 1) (q + 1 + 1) 23 _ _ (0, 0) (0, 0) _ _ rfl rfl (blk_far (blk_far (blk_set (blk_set HX.out 0 _) 1 _) (by simp) _) (by simp) _) (blk_set (blk_set (blk_far (blk_far HY.out (by simp) _) (by simp) _) 0 _) 1 _) Try.underlying23 rfl info23s info23s rfl) rfl ⟨by rw [HEN.out, HME.out, HTE.out], ?_⟩
            | refine bodyPost_ret (v := .tuple #[.agg #[.int .i64 (minL M), .int .i64 (maxL M)], .agg #[.int .i64 (minL T), .int .i64 (maxL T)], .int .i64 0]) (results_row2_tmp rfl _ _ (q + 1) (q + 1 + 1) 23 _ _ (0, 0) (0, 0) _ _ rfl rfl (blk_set (blk_set (blk_far (blk_far HX.out (by simp) _) (by simp) _) 0 _) 1 _) (blk_far (blk_far (blk_set (blk_set HY.out 0 _) 1 _) (by simp) _) (by simp) _) Try.underlying23 rfl info23s info23s rfl) rfl ⟨by rw [HEN.out, HME.out, HTE.out], ?_⟩
          rw [← hq]
          exact below_drew1 (below_set (below_set (below_set (below_set hb (by simp)) (by simp)) (by omega)) (by omega))
  · have hr : rs = (0, 0) := by rw [← HRS.out]; unfold spanF; rw [HEN.out, if_neg h0]
    have hs : rt = (0, 0) := by rw [← HRT.out]; unfold spanF; rw [HEN.out, if_neg h0]
    subst hr hs
    have x0 := (blk_cell HX3.out 0).trans rfl
    have x1 := (blk_cell HX3.out 1).trans rfl
    have xf0 := blk_frozen HX3.out 0
    have xf1 := blk_frozen HX3.out 1
    have xl := blk_lt HX3.out
    have y0 := (blk_cell HY3.out 0).trans rfl
    have y1 := (blk_cell HY3.out 1).trans rfl
    have yf0 := blk_frozen HY3.out 0
    have yf1 := blk_frozen HY3.out 1
    have yl := blk_lt HY3.out
    go_wp2
    refine bodyPost_ret (v := .tuple #[.agg #[.int .i64 0, .int .i64 0], .agg #[.int .i64 0, .int .i64 0], .int .i64 re]) (results_row2_tmp rfl _ _ (q + 1) (q + 1 + 1) 23 _ _ (0, 0) (0, 0) _ _ rfl rfl (blk_far (blk_far (blk_set (blk_set HX3.out 0 _) 1 _) (by simp) _) (by simp) _) (blk_set (blk_set (blk_far (blk_far HY3.out (by simp) _) (by simp) _) 0 _) 1 _) Try.underlying23 rfl info23s info23s rfl) rfl
      ⟨by rw [HEN.out], by rw [← hq]; exact below_set (below_set (below_set (below_set HB3.out (by simp)) (by simp)) (by omega)) (by omega)⟩
end Go.Proofs.Ytemeapfnfegkiaa.D
end
section
/- Package disk: DiskCounts. -/
namespace Go.Proofs.Ytemeapfnfegkiaa.D
open Go Go.RowKit Go.Proofs.YtemeapfnfegkiaaK Go.Proofs.YtemeapfnfegkiaaW.PrintWords Go.Proofs.YtemeapfnfegkiaaW.PrintLast Go.Proofs.YtemeapfnfegkiaaW.PrintMore Go.Proofs.Ytemeapfnfegkiaa.PR
set_option linter.unusedVariables false
set_option linter.unusedSimpArgs false

abbrev shQ (D : Dat) (A4 : Option Addr) (c4 : Nat) (A5 : Option Addr) (c5 : Nat) : Array Value := #[.string D.nm, .int .i64 D.rad, .int .i64 D.lo, .int .i64 D.hi, .slice A4 D.spots.length c4, .slice A5 D.told.length c5]
set_option maxRecDepth 100000 in
set_option maxHeartbeats 4000000 in
theorem DiskCounts_calls (D : Dat) (A4 : Option Addr) (c4 : Nat) (A5 : Option Addr) (c5 : Nat) (w : World) (h : Arg w D A4 c4 A5 c5) :
    Calls Try.prog 5 #[.agg #[.string D.nm, .int .i64 D.rad, .int .i64 D.lo, .int .i64 D.hi, .slice A4 D.spots.length c4, .slice A5 D.told.length c5]] w
      fun e w' => e = .returned (.bool true) ∧ Below w.heap.size w w' := by
  have hb1 := below_alloc (Below.refl w.heap.size w) (.cells #[.string D.nm, .int .i64 D.rad, .int .i64 D.lo, .int .i64 D.hi, .slice A4 D.spots.length c4, .slice A5 D.told.length c5] 27)
  have HB := Aside0.mk hb1
  have HS := Aside0.mk (blk_new w (.cells #[.string D.nm, .int .i64 D.rad, .int .i64 D.lo, .int .i64 D.hi, .slice A4 D.spots.length c4, .slice A5 D.told.length c5] 27))
  have HA0 := Aside0.mk h
  have hF := h.fits
  clear h hb1
  obtain ⟨q, hq⟩ : ∃ q, w.heap.size = q := ⟨_, rfl⟩
  have HQ := Aside0.mk hq
  go_enter Try.func5, Try.ntmps5
  go_wp2_with fail
  generalize w.alloc (.cells #[.string D.nm, .int .i64 D.rad, .int .i64 D.lo, .int .i64 D.hi, .slice A4 D.spots.length c4, .slice A5 D.told.length c5] 27) = w1 at HB HS ⊢
  rw [hq] at HS
  obtain ⟨en, hen⟩ : ∃ en, enterE D [] = en := ⟨_, rfl⟩
  obtain ⟨s1, hs1⟩ : ∃ s, spanF D (fun _ g => manyF g) = s := ⟨_, rfl⟩
  obtain ⟨s2, hs2⟩ : ∃ s, spanF D (fun _ g => spotsTo g 7) = s := ⟨_, rfl⟩
  obtain ⟨s3, hs3⟩ : ∃ s, spanF D (fun _ g => 10 * manyF g + spotsTo g 7) = s := ⟨_, rfl⟩
  obtain ⟨s4, hs4⟩ : ∃ s, spanF D (fun n _ => n) = s := ⟨_, rfl⟩
  have HEN := Aside0.mk hen
  have H1 := Aside0.mk hs1
  have H2 := Aside0.mk hs2
  have H3 := Aside0.mk hs3
  have H4 := Aside0.mk hs4
  clear hen hs1 hs2 hs3 hs4
  obtain ⟨a1, b1⟩ := s1
  obtain ⟨a2, b2⟩ := s2
  obtain ⟨a3, b3⟩ := s3
  obtain ⟨a4, b4⟩ := s4
  refine (Counts_calls D A4 c4 A5 c5 w1 (HA0.out.below HB.out)).mono ?_
  rw [HEN.out, H1.out, H2.out]
  rintro e w2 ⟨rfl, hb⟩
  replace HB := Aside0.mk (HB.out.trans (hb.mono HB.out.size))
  replace HS := Aside0.mk (blk_below HS.out hb)
  clear hb
  go_upto_region 2 with (fail)
  have HW := Aside0.mk HB.out.size
  have HQL := Aside0.mk (blk_lt HS.out)
  have hb : Below w2.heap.size w2 ((w2.alloc (.cells #[.int .i64 a1, .int .i64 b1] 23)).alloc (.cells #[.int .i64 a2, .int .i64 b2] 23)) := below_alloc (below_alloc (Below.refl _ _) _) _
  have n1 : Aside0 (((w2.alloc (.cells #[.int .i64 a1, .int .i64 b1] 23)).alloc (.cells #[.int .i64 a2, .int .i64 b2] 23)).heap[w2.heap.size]? = some (.cells #[.int .i64 a1, .int .i64 b1] 23 (0, 0))) := ⟨blk_alloc (blk_new _ _) _⟩
  have n2 : Aside0 (((w2.alloc (.cells #[.int .i64 a1, .int .i64 b1] 23)).alloc (.cells #[.int .i64 a2, .int .i64 b2] 23)).heap[w2.heap.size + 1]? = some (.cells #[.int .i64 a2, .int .i64 b2] 23 (0, 0))) := ⟨new_at (by simp) _⟩
  replace HB := Aside0.mk (HB.out.trans (hb.mono HB.out.size))
  replace HS := Aside0.mk (blk_below HS.out hb)
  clear hb
  obtain ⟨P, hP⟩ : ∃ b, w2.heap.size = b := ⟨_, rfl⟩
  rw [hP] at HW HQL
  have HWP := HW
  have HNP : Aside0 (q ≠ P) := ⟨Nat.ne_of_lt HQL.out⟩
  clear HW HQL
  generalize ((w2.alloc (.cells #[.int .i64 a1, .int .i64 b1] 23)).alloc (.cells #[.int .i64 a2, .int .i64 b2] 23)) = w3 at HB HS n1 n2 ⊢
  rw [hP] at n1 n2 ⊢
  clear hP
  have HP := n1
  have HR := n2
  clear n1 n2
  have k0 := (blk_cell HS.out 0).trans rfl
  have k1 := (blk_cell HS.out 1).trans rfl
  have k2 := (blk_cell HS.out 2).trans rfl
  have k3 := (blk_cell HS.out 3).trans rfl
  have k4 := (blk_cell HS.out 4).trans rfl
  have k5 := (blk_cell HS.out 5).trans rfl
  have kl := blk_lt HS.out
  go_wp2_with fail
  clear k0 k1 k2 k3 k4 k5 kl
  refine (refCounts_calls D A4 c4 A5 c5 w3 (HA0.out.below HB.out)).mono ?_
  rw [HEN.out, H1.out, H2.out]
  rintro e w4 ⟨rfl, hb⟩
  replace HB := Aside0.mk (HB.out.trans (hb.mono HB.out.size))
  replace HS := Aside0.mk (blk_below HS.out hb)
  replace HP := Aside0.mk (blk_below HP.out hb)
  replace HR := Aside0.mk (blk_below HR.out hb)
  clear hb
  go_upto_region 3 with (fail)
  have HW := Aside0.mk HB.out.size
  have HQL := Aside0.mk (blk_lt HS.out)
  have HPL := Aside0.mk (blk_lt HP.out)
  have hb : Below w4.heap.size w4 ((w4.alloc (.cells #[.int .i64 a1, .int .i64 b1] 23)).alloc (.cells #[.int .i64 a2, .int .i64 b2] 23)) := below_alloc (below_alloc (Below.refl _ _) _) _
  have n1 : Aside0 (((w4.alloc (.cells #[.int .i64 a1, .int .i64 b1] 23)).alloc (.cells #[.int .i64 a2, .int .i64 b2] 23)).heap[w4.heap.size]? = some (.cells #[.int .i64 a1, .int .i64 b1] 23 (0, 0))) := ⟨blk_alloc (blk_new _ _) _⟩
  have n2 : Aside0 (((w4.alloc (.cells #[.int .i64 a1, .int .i64 b1] 23)).alloc (.cells #[.int .i64 a2, .int .i64 b2] 23)).heap[w4.heap.size + 1]? = some (.cells #[.int .i64 a2, .int .i64 b2] 23 (0, 0))) := ⟨new_at (by simp) _⟩
  replace HB := Aside0.mk (HB.out.trans (hb.mono HB.out.size))
  replace HS := Aside0.mk (blk_below HS.out hb)
  replace HP := Aside0.mk (blk_below HP.out hb)
  replace HR := Aside0.mk (blk_below HR.out hb)
  clear hb
  obtain ⟨T, hT⟩ : ∃ b, w4.heap.size = b := ⟨_, rfl⟩
  rw [hT] at HW HQL HPL
  have HWT := HW
  have HNT : Aside0 (q ≠ T) := ⟨Nat.ne_of_lt HQL.out⟩
  have HPT : Aside0 (P ≠ T) := ⟨Nat.ne_of_lt HPL.out⟩
  clear HW HQL HPL
  generalize ((w4.alloc (.cells #[.int .i64 a1, .int .i64 b1] 23)).alloc (.cells #[.int .i64 a2, .int .i64 b2] 23)) = w5 at HB HS HP HR n1 n2 ⊢
  rw [hT] at n1 n2 ⊢
  clear hT
  have HT := n1
  have HU := n2
  clear n1 n2
  have p0 := (blk_cell HP.out 0).trans rfl
  have p1 := (blk_cell HP.out 1).trans rfl
  have r0 := (blk_cell HR.out 0).trans rfl
  have r1 := (blk_cell HR.out 1).trans rfl
  have t0 := (blk_cell HT.out 0).trans rfl
  have t1 := (blk_cell HT.out 1).trans rfl
  have u0 := (blk_cell HU.out 0).trans rfl
  have u1 := (blk_cell HU.out 1).trans rfl
  go_upto_region 5 with (fail)
  clear p0 p1 r0 r1 t0 t1 u0 u1 HR HU
  have k0 := (blk_cell HS.out 0).trans rfl
  have k1 := (blk_cell HS.out 1).trans rfl
  have k2 := (blk_cell HS.out 2).trans rfl
  have k3 := (blk_cell HS.out 3).trans rfl
  have k4 := (blk_cell HS.out 4).trans rfl
  have k5 := (blk_cell HS.out 5).trans rfl
  have kl := blk_lt HS.out
  go_wp2_with fail
  clear k0 k1 k2 k3 k4 k5 kl
  refine (Number_calls D A4 c4 A5 c5 w5 (HA0.out.below HB.out)).mono ?_
  rw [HEN.out, H3.out]
  rintro e w6 ⟨rfl, hb⟩
  replace HB := Aside0.mk (HB.out.trans (hb.mono HB.out.size))
  replace HS := Aside0.mk (blk_below HS.out hb)
  replace HP := Aside0.mk (blk_below HP.out hb)
  replace HT := Aside0.mk (blk_below HT.out hb)
  clear hb
  have x0 := (blk_cell HP.out 0).trans rfl
  have x1 := (blk_cell HP.out 1).trans rfl
  have xf0 := blk_frozen HP.out 0
  have xf1 := blk_frozen HP.out 1
  have xl := blk_lt HP.out
  go_upto_region 6 with (fail)
  have n1 : Aside0 (((w6.setCell ⟨P, 0, none⟩ (.int .i64 a3)).setCell ⟨P, 1, none⟩ (.int .i64 b3)).heap[P]? = some (.cells #[.int .i64 a3, .int .i64 b3] 23 (0, 0))) := ⟨blk_set (blk_set HP.out 0 _) 1 _⟩
  have n2 : Aside0 (Below w.heap.size w ((w6.setCell ⟨P, 0, none⟩ (.int .i64 a3)).setCell ⟨P, 1, none⟩ (.int .i64 b3))) := ⟨below_set (below_set HB.out HWP.out) HWP.out⟩
  have n3 : Aside0 (((w6.setCell ⟨P, 0, none⟩ (.int .i64 a3)).setCell ⟨P, 1, none⟩ (.int .i64 b3)).heap[q]? = some (.cells (shQ D A4 c4 A5 c5) 27 (0, 0))) := ⟨blk_far (blk_far HS.out HNP.out _) HNP.out _⟩
  have n4 : Aside0 (((w6.setCell ⟨P, 0, none⟩ (.int .i64 a3)).setCell ⟨P, 1, none⟩ (.int .i64 b3)).heap[T]? = some (.cells #[.int .i64 a1, .int .i64 b1] 23 (0, 0))) := ⟨blk_far (blk_far HT.out HPT.out.symm _) HPT.out.symm _⟩
  clear x0 x1 xf0 xf1 xl HB HS HP HT
  generalize ((w6.setCell ⟨P, 0, none⟩ (.int .i64 a3)).setCell ⟨P, 1, none⟩ (.int .i64 b3)) = w7 at n1 n2 n3 n4 ⊢
  have HB := n2
  have HS := n3
  have HP := n1
  have HT := n4
  clear n1 n2 n3 n4
  have k0 := (blk_cell HS.out 0).trans rfl
  have k1 := (blk_cell HS.out 1).trans rfl
  have k2 := (blk_cell HS.out 2).trans rfl
  have k3 := (blk_cell HS.out 3).trans rfl
  have k4 := (blk_cell HS.out 4).trans rfl
  have k5 := (blk_cell HS.out 5).trans rfl
  have kl := blk_lt HS.out
  go_wp2_with fail
  clear k0 k1 k2 k3 k4 k5 kl
  obtain ⟨K, hK⟩ := (rNumbers hF).rounds
  have HK := Aside0.mk hK
  clear hK
  have hA := HA0.out.below HB.out
  refine (helioscoperef01_Numbers.calls K D.nm D.rad D.lo D.hi A4 c4 D.spots A5 c5 D.told _ _ _ w7 hA.s hA.sc hA.t hA.tc HK.out).mono ?_
  clear hA
  rw [H3.out, HEN.out]
  rintro e w8 ⟨rfl, hb⟩
  replace HB := Aside0.mk (HB.out.trans (hb.mono HB.out.size))
  replace HS := Aside0.mk (blk_below HS.out hb)
  replace HP := Aside0.mk (blk_below HP.out hb)
  replace HT := Aside0.mk (blk_below HT.out hb)
  clear hb
  clear HK
  have x0 := (blk_cell HT.out 0).trans rfl
  have x1 := (blk_cell HT.out 1).trans rfl
  have xf0 := blk_frozen HT.out 0
  have xf1 := blk_frozen HT.out 1
  have xl := blk_lt HT.out
  go_upto_region 7 with (fail)
  have n1 : Aside0 (((w8.setCell ⟨T, 0, none⟩ (.int .i64 a3)).setCell ⟨T, 1, none⟩ (.int .i64 b3)).heap[T]? = some (.cells #[.int .i64 a3, .int .i64 b3] 23 (0, 0))) := ⟨blk_set (blk_set HT.out 0 _) 1 _⟩
  have n2 : Aside0 (Below w.heap.size w ((w8.setCell ⟨T, 0, none⟩ (.int .i64 a3)).setCell ⟨T, 1, none⟩ (.int .i64 b3))) := ⟨below_set (below_set HB.out HWT.out) HWT.out⟩
  have n3 : Aside0 (((w8.setCell ⟨T, 0, none⟩ (.int .i64 a3)).setCell ⟨T, 1, none⟩ (.int .i64 b3)).heap[q]? = some (.cells (shQ D A4 c4 A5 c5) 27 (0, 0))) := ⟨blk_far (blk_far HS.out HNT.out _) HNT.out _⟩
  have n4 : Aside0 (((w8.setCell ⟨T, 0, none⟩ (.int .i64 a3)).setCell ⟨T, 1, none⟩ (.int .i64 b3)).heap[P]? = some (.cells #[.int .i64 a3, .int .i64 b3] 23 (0, 0))) := ⟨blk_far (blk_far HP.out HPT.out _) HPT.out _⟩
  clear x0 x1 xf0 xf1 xl HB HS HP HT
  generalize ((w8.setCell ⟨T, 0, none⟩ (.int .i64 a3)).setCell ⟨T, 1, none⟩ (.int .i64 b3)) = w9 at n1 n2 n3 n4 ⊢
  have HB := n2
  have HS := n3
  have HT := n1
  have HP := n4
  clear n1 n2 n3 n4
  have p0 := (blk_cell HP.out 0).trans rfl
  have p1 := (blk_cell HP.out 1).trans rfl
  have t0 := (blk_cell HT.out 0).trans rfl
  have t1 := (blk_cell HT.out 1).trans rfl
  go_upto_region 9 with (fail)
  clear p0 p1 t0 t1
  have k0 := (blk_cell HS.out 0).trans rfl
  have k1 := (blk_cell HS.out 1).trans rfl
  have k2 := (blk_cell HS.out 2).trans rfl
  have k3 := (blk_cell HS.out 3).trans rfl
  have k4 := (blk_cell HS.out 4).trans rfl
  have k5 := (blk_cell HS.out 5).trans rfl
  have kl := blk_lt HS.out
  go_wp2_with fail
  clear k0 k1 k2 k3 k4 k5 kl
  refine (Near_calls D A4 c4 A5 c5 w9 (HA0.out.below HB.out)).mono ?_
  rw [HEN.out, H4.out]
  rintro e w10 ⟨rfl, hb⟩
  replace HB := Aside0.mk (HB.out.trans (hb.mono HB.out.size))
  replace HS := Aside0.mk (blk_below HS.out hb)
  replace HP := Aside0.mk (blk_below HP.out hb)
  replace HT := Aside0.mk (blk_below HT.out hb)
  clear hb
  have x0 := (blk_cell HP.out 0).trans rfl
  have x1 := (blk_cell HP.out 1).trans rfl
  have xf0 := blk_frozen HP.out 0
  have xf1 := blk_frozen HP.out 1
  have xl := blk_lt HP.out
  go_upto_region 10 with (fail)
  have n1 : Aside0 (((w10.setCell ⟨P, 0, none⟩ (.int .i64 a4)).setCell ⟨P, 1, none⟩ (.int .i64 b4)).heap[P]? = some (.cells #[.int .i64 a4, .int .i64 b4] 23 (0, 0))) := ⟨blk_set (blk_set HP.out 0 _) 1 _⟩
  have n2 : Aside0 (Below w.heap.size w ((w10.setCell ⟨P, 0, none⟩ (.int .i64 a4)).setCell ⟨P, 1, none⟩ (.int .i64 b4))) := ⟨below_set (below_set HB.out HWP.out) HWP.out⟩
  have n3 : Aside0 (((w10.setCell ⟨P, 0, none⟩ (.int .i64 a4)).setCell ⟨P, 1, none⟩ (.int .i64 b4)).heap[q]? = some (.cells (shQ D A4 c4 A5 c5) 27 (0, 0))) := ⟨blk_far (blk_far HS.out HNP.out _) HNP.out _⟩
  have n4 : Aside0 (((w10.setCell ⟨P, 0, none⟩ (.int .i64 a4)).setCell ⟨P, 1, none⟩ (.int .i64 b4)).heap[T]? = some (.cells #[.int .i64 a3, .int .i64 b3] 23 (0, 0))) := ⟨blk_far (blk_far HT.out HPT.out.symm _) HPT.out.symm _⟩
  clear x0 x1 xf0 xf1 xl HB HS HP HT
  generalize ((w10.setCell ⟨P, 0, none⟩ (.int .i64 a4)).setCell ⟨P, 1, none⟩ (.int .i64 b4)) = w11 at n1 n2 n3 n4 ⊢
  have HB := n2
  have HS := n3
  have HP := n1
  have HT := n4
  clear n1 n2 n3 n4
  have k0 := (blk_cell HS.out 0).trans rfl
  have k1 := (blk_cell HS.out 1).trans rfl
  have k2 := (blk_cell HS.out 2).trans rfl
  have k3 := (blk_cell HS.out 3).trans rfl
  have k4 := (blk_cell HS.out 4).trans rfl
  have k5 := (blk_cell HS.out 5).trans rfl
  have kl := blk_lt HS.out
  go_wp2_with fail
  clear k0 k1 k2 k3 k4 k5 kl
  refine (refNear_calls D A4 c4 A5 c5 w11 (HA0.out.below HB.out)).mono ?_
  rw [HEN.out, H4.out]
  rintro e w12 ⟨rfl, hb⟩
  replace HB := Aside0.mk (HB.out.trans (hb.mono HB.out.size))
  replace HS := Aside0.mk (blk_below HS.out hb)
  replace HP := Aside0.mk (blk_below HP.out hb)
  replace HT := Aside0.mk (blk_below HT.out hb)
  clear hb
  have x0 := (blk_cell HT.out 0).trans rfl
  have x1 := (blk_cell HT.out 1).trans rfl
  have xf0 := blk_frozen HT.out 0
  have xf1 := blk_frozen HT.out 1
  have xl := blk_lt HT.out
  go_upto_region 11 with (fail)
  have n1 : Aside0 (((w12.setCell ⟨T, 0, none⟩ (.int .i64 a4)).setCell ⟨T, 1, none⟩ (.int .i64 b4)).heap[T]? = some (.cells #[.int .i64 a4, .int .i64 b4] 23 (0, 0))) := ⟨blk_set (blk_set HT.out 0 _) 1 _⟩
  have n2 : Aside0 (Below w.heap.size w ((w12.setCell ⟨T, 0, none⟩ (.int .i64 a4)).setCell ⟨T, 1, none⟩ (.int .i64 b4))) := ⟨below_set (below_set HB.out HWT.out) HWT.out⟩
  have n3 : Aside0 (((w12.setCell ⟨T, 0, none⟩ (.int .i64 a4)).setCell ⟨T, 1, none⟩ (.int .i64 b4)).heap[q]? = some (.cells (shQ D A4 c4 A5 c5) 27 (0, 0))) := ⟨blk_far (blk_far HS.out HNT.out _) HNT.out _⟩
  have n4 : Aside0 (((w12.setCell ⟨T, 0, none⟩ (.int .i64 a4)).setCell ⟨T, 1, none⟩ (.int .i64 b4)).heap[P]? = some (.cells #[.int .i64 a4, .int .i64 b4] 23 (0, 0))) := ⟨blk_far (blk_far HP.out HPT.out _) HPT.out _⟩
  clear x0 x1 xf0 xf1 xl HB HS HP HT
  generalize ((w12.setCell ⟨T, 0, none⟩ (.int .i64 a4)).setCell ⟨T, 1, none⟩ (.int .i64 b4)) = w13 at n1 n2 n3 n4 ⊢
  have HB := n2
  have HS := n3
  have HT := n1
  have HP := n4
  clear n1 n2 n3 n4
  have p0 := (blk_cell HP.out 0).trans rfl
  have p1 := (blk_cell HP.out 1).trans rfl
  have t0 := (blk_cell HT.out 0).trans rfl
  have t1 := (blk_cell HT.out 1).trans rfl
  go_wp2_with fail
  clear p0 p1 t0 t1
  refine (Awake_calls w13).mono ?_
  rintro e w14 ⟨rfl, hb⟩
  replace HB := Aside0.mk (HB.out.trans (hb.mono HB.out.size))
  clear hb
  go_wp2
  go_ret
  exact ⟨rfl, HB.out⟩
end Go.Proofs.Ytemeapfnfegkiaa.D
end
