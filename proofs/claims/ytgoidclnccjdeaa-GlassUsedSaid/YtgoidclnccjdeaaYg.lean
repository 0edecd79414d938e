/- Contracts of the functions that this claim reaches, with the words for them: pruned and packed by wip/tools/prune.py. -/
import Derived.Test.YtgoidclnccjdeaaYf
import Derived.Deep.Slices
import Derived.Deep.Fields
import Derived.ChangeSame
import Derived.ProofKit
import Derived.SizedLaws
import Derived.OpenShut
import Derived.Laws.IdiomArrays
section
namespace Go.Proofs.Ytgoidclnccjdeaa.PR
open Go.RowKit Go.Proofs.YtgoidclnccjdeaaW.PrintWords Go.Proofs.YtgoidclnccjdeaaW.PrintLast Go.Proofs.YtgoidclnccjdeaaW.PrintMore
attribute [local go_sem] max2_int min2_int max_two min_two max_three min_three max_four min_four   -- for this text's walks alone
set_option linter.unusedVariables false
set_option linter.unusedSimpArgs false

def r7_known.f (k : Nat) (l0_0 : List (S95)) (a0_1 : Int) (a0_2 : Int) (l0_3 : List (S24)) (l0_4 : List (S72)) (a1 : Int) : Option ((List (S56)) × Int) := if a1 = 0 then ((r7_Truths.f k l0_0 a0_1 a0_2 l0_3 l0_4 ([] : List Int)).bind fun t223 => (if (t223.length : Int) = 0 then (some (([] : List (S56)), 8)) else (some (t223, 0)))) else (some (([] : List (S56)), a1))
set_option maxHeartbeats 8000000 in
set_option maxRecDepth 100000 in
theorem r7_known.calls (k : Nat) (A0_0 : Option Addr) (c0_0 : Nat) (l0_0 : List (S95)) (a0_1 : Int) (a0_2 : Int) (A0_3 : Option Addr) (c0_3 : Nat) (l0_3 : List (S24)) (A0_4 : Option Addr) (c0_4 : Nat) (l0_4 : List (S72)) (a1 : Int) (r1 : List (S56)) (r2 : Int) (w : World) (hr0_0 : Kd.C k95 w A0_0 l0_0.length l0_0) (hc0_0 : l0_0.length ≤ c0_0) (hr0_3 : Kd.C k24 w A0_3 l0_3.length l0_3) (hc0_3 : l0_3.length ≤ c0_3) (hr0_4 : Kd.C k72 w A0_4 l0_4.length l0_4) (hc0_4 : l0_4.length ≤ c0_4) (h : r7_known.f k l0_0 a0_1 a0_2 l0_3 l0_4 a1 = some (r1, r2)) :
  Calls Try.prog 92 #[.agg #[.slice A0_0 l0_0.length c0_0, .int .i64 a0_1, .int .i64 a0_2, .slice A0_3 l0_3.length c0_3, .slice A0_4 l0_4.length c0_4], .int .i64 a1] w fun e w' => ∃ v0_ : Value, e = .returned (.tuple #[v0_, .int .i64 r2]) ∧ Kd.N k56 56 w' w.heap.size (fun k_ => (w.heap.size ≤ k_)) v0_ r1 ∧ Below w.heap.size w w' := by
 have hu28 := Try.underlying28
 have HR0_0 := Aside0.mk hr0_0
 have HC0_0 := Aside0.mk hc0_0
 clear hr0_0 hc0_0
 have HR0_3 := Aside0.mk hr0_3
 have HC0_3 := Aside0.mk hc0_3
 clear hr0_3 hc0_3
 have HR0_4 := Aside0.mk hr0_4
 have HC0_4 := Aside0.mk hc0_4
 clear hr0_4 hc0_4
 have HB := Aside0.mk (Below.refl w.heap.size w)
 have H : (if a1 = 0 then ((r7_Truths.f k l0_0 a0_1 a0_2 l0_3 l0_4 ([] : List Int)).bind fun t223 => (if (t223.length : Int) = 0 then (some (([] : List (S56)), 8)) else (some (t223, 0)))) else (some (([] : List (S56)), a1))) = some (r1, r2) := h
 clear h
 by_cases c3 : a1 = 0
 ·
  rw [if_pos c3] at H
  have c3b0 : (a1 == 0) = true := beq_iff_eq.mpr c3
  have c3b1 : (a1 != 0) = false := bne_eq_false_iff_eq.mpr c3
  clear c3
  replace H := Option.bind_eq_some_iff.mp H
  obtain ⟨t223, A40, H⟩ := H
  replace H : (if (t223.length : Int) = 0 then (some (([] : List (S56)), 8)) else (some (t223, 0))) = some (r1, r2) := H
  have A4 := Aside0.mk A40
  clear A40
  by_cases c5 : (t223.length : Int) = 0
  ·
   rw [if_pos c5] at H
   have c5b0 : ((t223.length : Int) == 0) = true := beq_iff_eq.mpr c5
   have c5b1 : ((t223.length : Int) != 0) = false := bne_eq_false_iff_eq.mpr c5
   clear c5
   simp only [Option.some.injEq, Prod.mk.injEq] at H
   obtain ⟨rfl, rfl⟩ := H
   go_enter Try.func92, Try.ntmps92
   go_wp2_with (first | ((with_reducible refine gate_dst (N := 2) rfl ?_); refine box_event ?hg (N := 2) ?hd (cs := #[.slice A0_0 l0_0.length c0_0, .int .i64 a0_1, .int .i64 a0_2, .slice A0_3 l0_3.length c0_3, .slice A0_4 l0_4.length c0_4]) (t := 28) ?hr ?_; (case hd => rfl); (case hg => rfl); (case hr => first | (go_simp; done) | (go_simp; rfl)); intro gb222 hg w6 hbox hb; have n0_ := Aside0.mk (below_step (by repeat (first | (with_reducible first | exact HB.out | apply below_alloc | apply pw_below_drewN | apply below_drew1) | exact HB.out)) hb); have n1_ := Aside0.mk (hbox); have n2_ := Aside0.mk ((by rw [hg]; exact (below_size (by repeat (first | (with_reducible first | exact HB.out | apply below_alloc | apply pw_below_drewN | apply below_drew1) | exact HB.out))) : w.heap.size ≤ gb222)); have n3_ := Aside0.mk ((by rw [hg]; exact (below_size (by repeat (first | (with_reducible first | exact HB.out | apply below_alloc | apply pw_below_drewN | apply below_drew1) | exact HB.out))) : w.heap.size ≤ gb222)); clear HB; have HB := n0_; have BK222 := n1_; have GW222 := n2_; have GE222 := n3_; clear n0_ n1_ n2_ n3_; clear hb hbox hg; have hcz7_0 : w6.cell? ⟨gb222, 0, none⟩ = some (.slice A0_0 l0_0.length c0_0) := (blk_cell BK222.out 0).trans rfl; have hcz7_1 : w6.cell? ⟨gb222, 1, none⟩ = some (.int .i64 a0_1) := (blk_cell BK222.out 1).trans rfl; have hcz7_2 : w6.cell? ⟨gb222, 2, none⟩ = some (.int .i64 a0_2) := (blk_cell BK222.out 2).trans rfl; have hcz7_3 : w6.cell? ⟨gb222, 3, none⟩ = some (.slice A0_3 l0_3.length c0_3) := (blk_cell BK222.out 3).trans rfl; have hcz7_4 : w6.cell? ⟨gb222, 4, none⟩ = some (.slice A0_4 l0_4.length c0_4) := (blk_cell BK222.out 4).trans rfl; have hfz7_0 := blk_frozen BK222.out 0; have hfz7_1 := blk_frozen BK222.out 1; have hfz7_2 := blk_frozen BK222.out 2; have hfz7_3 := blk_frozen BK222.out 3; have hfz7_4 := blk_frozen BK222.out 4) | ((with_reducible refine gate_callee (f := 49) rfl ?_); refine goesL_ (some 11) rfl rfl Try.func49 (by kernel_rfl) rfl #[.agg #[.slice A0_0 l0_0.length c0_0, .int .i64 a0_1, .int .i64 a0_2, .slice A0_3 l0_3.length c0_3, .slice A0_4 l0_4.length c0_4], .slice none 0 0] rfl (by (try simp only [List.map_toArray, List.map_cons, List.map_nil]); first | done | rfl | (simp only [List.length_drop, List.length_take]; rfl)) ?_; (refine (r7_Truths.calls k _ _ l0_0 a0_1 a0_2 _ _ l0_3 _ _ l0_4 _ _ ([] : List Int) t223 _ ?side1 ?side2 ?side3 ?side4 ?side5 ?side6 ?side7 ?side8 A4.out).mono ?_); (case side1 => repeat (first | exact (Kd.C_below HR0_0.out HB.out) | (with_reducible refine Kd.C_alloc ?_ _) | (with_reducible refine Kd.C_drewN ?_ _) | (with_reducible refine Kd.C_drew ?_))); (case side2 => exact HC0_0.out); (case side3 => repeat (first | exact (Kd.C_below HR0_3.out HB.out) | (with_reducible refine Kd.C_alloc ?_ _) | (with_reducible refine Kd.C_drewN ?_ _) | (with_reducible refine Kd.C_drew ?_))); (case side4 => exact HC0_3.out); (case side5 => repeat (first | exact (Kd.C_below HR0_4.out HB.out) | (with_reducible refine Kd.C_alloc ?_ _) | (with_reducible refine Kd.C_drewN ?_ _) | (with_reducible refine Kd.C_drew ?_))); (case side6 => exact HC0_4.out); (case side7 => exact Kd.C_nil _ _); (case side8 => exact Nat.le_refl _); rintro e w8 ⟨v224, rfl, ho0, hb⟩; refine ⟨_, rfl, ?_⟩; have n0_ := Aside0.mk (Kd.N_lower (Kd.N_mono (ok' := fun k_ => (w.heap.size ≤ k_) ∧ k_ ≠ gb222) ho0 (fun k_ hk_ => ⟨(Nat.le_trans (below_size (by repeat (first | (with_reducible first | exact HB.out | apply below_alloc | apply pw_below_drewN | apply below_drew1 | refine below_set ?_ GE222.out) | exact HB.out))) hk_), (Kd.freshB (g := gb222) (o := .cells #[.slice A0_0 l0_0.length c0_0, .int .i64 a0_1, .int .i64 a0_2, .slice A0_3 l0_3.length c0_3, .slice A0_4 l0_4.length c0_4] 28 (0, 0)) (by (with_reducible repeat (first | refine blk_drewN ?_ _ | refine blk_drew ?_ | refine blk_alloc ?_ _)); exact BK222.out) k_ hk_)⟩)) (below_size (by repeat (first | (with_reducible first | exact HB.out | apply below_alloc | apply pw_below_drewN | apply below_drew1 | refine below_set ?_ GE222.out) | exact HB.out)))); have n1_ := Aside0.mk (blk_below (g := gb222) (o := .cells #[.slice A0_0 l0_0.length c0_0, .int .i64 a0_1, .int .i64 a0_2, .slice A0_3 l0_3.length c0_3, .slice A0_4 l0_4.length c0_4] 28 (0, 0)) (by (with_reducible repeat (first | refine blk_drewN ?_ _ | refine blk_drew ?_ | refine blk_alloc ?_ _)); exact BK222.out) hb); have n2_ := Aside0.mk (below_step (by repeat (first | (with_reducible first | exact HB.out | apply below_alloc | apply pw_below_drewN | apply below_drew1 | refine below_set ?_ GE222.out) | exact HB.out)) hb); clear BK222; clear HB; have HO225 := n0_; have BK222 := n1_; have HB := n2_; clear n0_ n1_ n2_; (try clear hb); (try clear hb2); (try clear hk); (try clear hi); (try clear ho0); obtain ⟨Ao9, co9, eo9⟩ := Kd.N_slice HO225.out; subst eo9))
   go_ret2
   exact ⟨_, by first | rfl | (simp [errW_none, errW_some] <;> rfl) | (simp [*, errW_none, errW_some] <;> rfl), by first | exact Kd.R_nil _ _ _ _ _ | exact Kd.N_nil _ _ _ _ _ | exact Kd.V_nil _ _ _ _ _ | exact Kd.Q_nil _ _ _ _ _ | exact Kd.S_nil _ _ _ _ _, by repeat (first | (with_reducible first | exact HB.out | apply below_alloc | apply pw_below_drewN | apply below_drew1 | refine below_set ?_ GE222.out) | exact HB.out)⟩
  ·
   rw [if_neg c5] at H
   have c5b0 : ((t223.length : Int) == 0) = false := beq_eq_false_iff_ne.mpr c5
   have c5b1 : ((t223.length : Int) != 0) = true := bne_iff_ne.mpr c5
   have c5b2 : ¬ (t223 = []) := fun h_ => c5 (by rw [h_]; rfl)
   simp only [Option.some.injEq, Prod.mk.injEq] at H
   obtain ⟨rfl, rfl⟩ := H
   go_enter Try.func92, Try.ntmps92
   go_wp2_with (first | ((with_reducible refine gate_dst (N := 2) rfl ?_); refine box_event ?hg (N := 2) ?hd (cs := #[.slice A0_0 l0_0.length c0_0, .int .i64 a0_1, .int .i64 a0_2, .slice A0_3 l0_3.length c0_3, .slice A0_4 l0_4.length c0_4]) (t := 28) ?hr ?_; (case hd => rfl); (case hg => rfl); (case hr => first | (go_simp; done) | (go_simp; rfl)); intro gb222 hg w10 hbox hb; have n0_ := Aside0.mk (below_step (by repeat (first | (with_reducible first | exact HB.out | apply below_alloc | apply pw_below_drewN | apply below_drew1) | exact HB.out)) hb); have n1_ := Aside0.mk (hbox); have n2_ := Aside0.mk ((by rw [hg]; exact (below_size (by repeat (first | (with_reducible first | exact HB.out | apply below_alloc | apply pw_below_drewN | apply below_drew1) | exact HB.out))) : w.heap.size ≤ gb222)); have n3_ := Aside0.mk ((by rw [hg]; exact (below_size (by repeat (first | (with_reducible first | exact HB.out | apply below_alloc | apply pw_below_drewN | apply below_drew1) | exact HB.out))) : w.heap.size ≤ gb222)); clear HB; have HB := n0_; have BK222 := n1_; have GW222 := n2_; have GE222 := n3_; clear n0_ n1_ n2_ n3_; clear hb hbox hg; have hcz11_0 : w10.cell? ⟨gb222, 0, none⟩ = some (.slice A0_0 l0_0.length c0_0) := (blk_cell BK222.out 0).trans rfl; have hcz11_1 : w10.cell? ⟨gb222, 1, none⟩ = some (.int .i64 a0_1) := (blk_cell BK222.out 1).trans rfl; have hcz11_2 : w10.cell? ⟨gb222, 2, none⟩ = some (.int .i64 a0_2) := (blk_cell BK222.out 2).trans rfl; have hcz11_3 : w10.cell? ⟨gb222, 3, none⟩ = some (.slice A0_3 l0_3.length c0_3) := (blk_cell BK222.out 3).trans rfl; have hcz11_4 : w10.cell? ⟨gb222, 4, none⟩ = some (.slice A0_4 l0_4.length c0_4) := (blk_cell BK222.out 4).trans rfl; have hfz11_0 := blk_frozen BK222.out 0; have hfz11_1 := blk_frozen BK222.out 1; have hfz11_2 := blk_frozen BK222.out 2; have hfz11_3 := blk_frozen BK222.out 3; have hfz11_4 := blk_frozen BK222.out 4) | ((with_reducible refine gate_callee (f := 49) rfl ?_); refine goesL_ (some 11) rfl rfl Try.func49 (by kernel_rfl) rfl #[.agg #[.slice A0_0 l0_0.length c0_0, .int .i64 a0_1, .int .i64 a0_2, .slice A0_3 l0_3.length c0_3, .slice A0_4 l0_4.length c0_4], .slice none 0 0] rfl (by (try simp only [List.map_toArray, List.map_cons, List.map_nil]); first | done | rfl | (simp only [List.length_drop, List.length_take]; rfl)) ?_; (refine (r7_Truths.calls k _ _ l0_0 a0_1 a0_2 _ _ l0_3 _ _ l0_4 _ _ ([] : List Int) t223 _ ?side1 ?side2 ?side3 ?side4 ?side5 ?side6 ?side7 ?side8 A4.out).mono ?_); (case side1 => repeat (first | exact (Kd.C_below HR0_0.out HB.out) | (with_reducible refine Kd.C_alloc ?_ _) | (with_reducible refine Kd.C_drewN ?_ _) | (with_reducible refine Kd.C_drew ?_))); (case side2 => exact HC0_0.out); (case side3 => repeat (first | exact (Kd.C_below HR0_3.out HB.out) | (with_reducible refine Kd.C_alloc ?_ _) | (with_reducible refine Kd.C_drewN ?_ _) | (with_reducible refine Kd.C_drew ?_))); (case side4 => exact HC0_3.out); (case side5 => repeat (first | exact (Kd.C_below HR0_4.out HB.out) | (with_reducible refine Kd.C_alloc ?_ _) | (with_reducible refine Kd.C_drewN ?_ _) | (with_reducible refine Kd.C_drew ?_))); (case side6 => exact HC0_4.out); (case side7 => exact Kd.C_nil _ _); (case side8 => exact Nat.le_refl _); rintro e w12 ⟨v224, rfl, ho0, hb⟩; refine ⟨_, rfl, ?_⟩; have n0_ := Aside0.mk (Kd.N_lower (Kd.N_mono (ok' := fun k_ => (w.heap.size ≤ k_) ∧ k_ ≠ gb222) ho0 (fun k_ hk_ => ⟨(Nat.le_trans (below_size (by repeat (first | (with_reducible first | exact HB.out | apply below_alloc | apply pw_below_drewN | apply below_drew1 | refine below_set ?_ GE222.out) | exact HB.out))) hk_), (Kd.freshB (g := gb222) (o := .cells #[.slice A0_0 l0_0.length c0_0, .int .i64 a0_1, .int .i64 a0_2, .slice A0_3 l0_3.length c0_3, .slice A0_4 l0_4.length c0_4] 28 (0, 0)) (by (with_reducible repeat (first | refine blk_drewN ?_ _ | refine blk_drew ?_ | refine blk_alloc ?_ _)); exact BK222.out) k_ hk_)⟩)) (below_size (by repeat (first | (with_reducible first | exact HB.out | apply below_alloc | apply pw_below_drewN | apply below_drew1 | refine below_set ?_ GE222.out) | exact HB.out)))); have n1_ := Aside0.mk (blk_below (g := gb222) (o := .cells #[.slice A0_0 l0_0.length c0_0, .int .i64 a0_1, .int .i64 a0_2, .slice A0_3 l0_3.length c0_3, .slice A0_4 l0_4.length c0_4] 28 (0, 0)) (by (with_reducible repeat (first | refine blk_drewN ?_ _ | refine blk_drew ?_ | refine blk_alloc ?_ _)); exact BK222.out) hb); have n2_ := Aside0.mk (below_step (by repeat (first | (with_reducible first | exact HB.out | apply below_alloc | apply pw_below_drewN | apply below_drew1 | refine below_set ?_ GE222.out) | exact HB.out)) hb); clear BK222; clear HB; have HO225 := n0_; have BK222 := n1_; have HB := n2_; clear n0_ n1_ n2_; (try clear hb); (try clear hb2); (try clear hk); (try clear hi); (try clear ho0); obtain ⟨Ao13, co13, eo13⟩ := Kd.N_slice HO225.out; subst eo13))
   go_ret2
   exact ⟨_, by first | rfl | (simp [errW_none, errW_some] <;> rfl) | (simp [*, errW_none, errW_some] <;> rfl), by (with_reducible repeat (first | apply Kd.N_alloc | apply Kd.N_drewN | apply Kd.N_drew)); exact Kd.N_mono HO225.out (fun _ hk => hk.1), by repeat (first | (with_reducible first | exact HB.out | apply below_alloc | apply pw_below_drewN | apply below_drew1 | refine below_set ?_ GE222.out) | exact HB.out)⟩
 ·
  rw [if_neg c3] at H
  have c3b0 : (a1 == 0) = false := beq_eq_false_iff_ne.mpr c3
  have c3b1 : (a1 != 0) = true := bne_iff_ne.mpr c3
  simp only [Option.some.injEq, Prod.mk.injEq] at H
  obtain ⟨rfl, rfl⟩ := H
  go_enter Try.func92, Try.ntmps92
  go_wp2_with (first | ((with_reducible refine gate_dst (N := 2) rfl ?_); refine box_event ?hg (N := 2) ?hd (cs := #[.slice A0_0 l0_0.length c0_0, .int .i64 a0_1, .int .i64 a0_2, .slice A0_3 l0_3.length c0_3, .slice A0_4 l0_4.length c0_4]) (t := 28) ?hr ?_; (case hd => rfl); (case hg => rfl); (case hr => first | (go_simp; done) | (go_simp; rfl)); intro gb222 hg w14 hbox hb; have n0_ := Aside0.mk (below_step (by repeat (first | (with_reducible first | exact HB.out | apply below_alloc | apply pw_below_drewN | apply below_drew1) | exact HB.out)) hb); have n1_ := Aside0.mk (hbox); have n2_ := Aside0.mk ((by rw [hg]; exact (below_size (by repeat (first | (with_reducible first | exact HB.out | apply below_alloc | apply pw_below_drewN | apply below_drew1) | exact HB.out))) : w.heap.size ≤ gb222)); have n3_ := Aside0.mk ((by rw [hg]; exact (below_size (by repeat (first | (with_reducible first | exact HB.out | apply below_alloc | apply pw_below_drewN | apply below_drew1) | exact HB.out))) : w.heap.size ≤ gb222)); clear HB; have HB := n0_; have BK222 := n1_; have GW222 := n2_; have GE222 := n3_; clear n0_ n1_ n2_ n3_; clear hb hbox hg))
  go_ret2
  exact ⟨_, by first | rfl | (simp [errW_none, errW_some] <;> rfl) | (simp [*, errW_none, errW_some] <;> rfl), by first | exact Kd.R_nil _ _ _ _ _ | exact Kd.N_nil _ _ _ _ _ | exact Kd.V_nil _ _ _ _ _ | exact Kd.Q_nil _ _ _ _ _ | exact Kd.S_nil _ _ _ _ _, by repeat (first | (with_reducible first | exact HB.out | apply below_alloc | apply pw_below_drewN | apply below_drew1 | refine below_set ?_ GE222.out) | exact HB.out)⟩

def r7_index.f (k : Nat) (l0_0 : List (S95)) (a0_1 : Int) (a0_2 : Int) (l0_3 : List (S24)) (l0_4 : List (S72)) (a1 : Int) (a2 : Int) : Option (Int) := (r7_Check.f k l0_0 a0_1 a0_2 l0_3 l0_4).bind fun bt227 => (if bt227.2.2 = 0 then ((r1_In.f a1 0 (wrap64 (a2 - 1))).bind fun t230 => (if t230 = true then (some bt227.2.2) else (some 4))) else (some bt227.2.2))
set_option maxHeartbeats 8000000 in
set_option maxRecDepth 100000 in
theorem r7_index.calls (k : Nat) (A0_0 : Option Addr) (c0_0 : Nat) (l0_0 : List (S95)) (a0_1 : Int) (a0_2 : Int) (A0_3 : Option Addr) (c0_3 : Nat) (l0_3 : List (S24)) (A0_4 : Option Addr) (c0_4 : Nat) (l0_4 : List (S72)) (a1 : Int) (a2 : Int) (r : Int) (w : World) (hr0_0 : Kd.C k95 w A0_0 l0_0.length l0_0) (hc0_0 : l0_0.length ≤ c0_0) (hr0_3 : Kd.C k24 w A0_3 l0_3.length l0_3) (hc0_3 : l0_3.length ≤ c0_3) (hr0_4 : Kd.C k72 w A0_4 l0_4.length l0_4) (hc0_4 : l0_4.length ≤ c0_4) (h : r7_index.f k l0_0 a0_1 a0_2 l0_3 l0_4 a1 a2 = some r) :
  Calls Try.prog 93 #[.agg #[.slice A0_0 l0_0.length c0_0, .int .i64 a0_1, .int .i64 a0_2, .slice A0_3 l0_3.length c0_3, .slice A0_4 l0_4.length c0_4], .int .i64 a1, .int .i64 a2] w fun e w' => e = .returned (.int .i64 r) ∧ Below w.heap.size w w' := by
 have hu28 := Try.underlying28
 have HR0_0 := Aside0.mk hr0_0
 have HC0_0 := Aside0.mk hc0_0
 clear hr0_0 hc0_0
 have HR0_3 := Aside0.mk hr0_3
 have HC0_3 := Aside0.mk hc0_3
 clear hr0_3 hc0_3
 have HR0_4 := Aside0.mk hr0_4
 have HC0_4 := Aside0.mk hc0_4
 clear hr0_4 hc0_4
 have HB := Aside0.mk (Below.refl w.heap.size w)
 have H : ((r7_Check.f k l0_0 a0_1 a0_2 l0_3 l0_4).bind fun bt227 => (if bt227.2.2 = 0 then ((r1_In.f a1 0 (wrap64 (a2 - 1))).bind fun t230 => (if t230 = true then (some bt227.2.2) else (some 4))) else (some bt227.2.2))) = some r := h
 clear h
 replace H := Option.bind_eq_some_iff.mp H
 obtain ⟨⟨t227, t228, t229⟩, A40, H⟩ := H
 replace H : (if t229 = 0 then ((r1_In.f a1 0 (wrap64 (a2 - 1))).bind fun t230 => (if t230 = true then (some t229) else (some 4))) else (some t229)) = some r := H
 have A4 := Aside0.mk A40
 clear A40
 by_cases c5 : t229 = 0
 ·
  rw [if_pos c5] at H
  have c5b0 : (t229 == 0) = true := beq_iff_eq.mpr c5
  have c5b1 : (t229 != 0) = false := bne_eq_false_iff_eq.mpr c5
  clear c5
  replace H := Option.bind_eq_some_iff.mp H
  obtain ⟨t230, A60, H⟩ := H
  replace H : (if t230 = true then (some t229) else (some 4)) = some r := H
  have A6 := Aside0.mk A60
  clear A60
  by_cases c7 : t230 = true
  ·
   subst c7
   have H1 : (some t229) = some r := by rw [if_pos rfl] at H; exact H
   clear H
   have H := H1
   clear H1
   obtain rfl := Option.some.inj H
   go_enter Try.func93, Try.ntmps93
   go_wp2_with (first | ((with_reducible refine gate_dst (N := 3) rfl ?_); refine box_event ?hg (N := 3) ?hd (cs := #[.slice A0_0 l0_0.length c0_0, .int .i64 a0_1, .int .i64 a0_2, .slice A0_3 l0_3.length c0_3, .slice A0_4 l0_4.length c0_4]) (t := 28) ?hr ?_; (case hd => rfl); (case hg => rfl); (case hr => first | (go_simp; done) | (go_simp; rfl)); intro gb226 hg w8 hbox hb; have n0_ := Aside0.mk (below_step (by repeat (first | (with_reducible first | exact HB.out | apply below_alloc | apply pw_below_drewN | apply below_drew1) | exact HB.out)) hb); have n1_ := Aside0.mk (hbox); have n2_ := Aside0.mk ((by rw [hg]; exact (below_size (by repeat (first | (with_reducible first | exact HB.out | apply below_alloc | apply pw_below_drewN | apply below_drew1) | exact HB.out))) : w.heap.size ≤ gb226)); have n3_ := Aside0.mk ((by rw [hg]; exact (below_size (by repeat (first | (with_reducible first | exact HB.out | apply below_alloc | apply pw_below_drewN | apply below_drew1) | exact HB.out))) : w.heap.size ≤ gb226)); clear HB; have HB := n0_; have BK226 := n1_; have GW226 := n2_; have GE226 := n3_; clear n0_ n1_ n2_ n3_; clear hb hbox hg; have hcz9_0 : w8.cell? ⟨gb226, 0, none⟩ = some (.slice A0_0 l0_0.length c0_0) := (blk_cell BK226.out 0).trans rfl; have hcz9_1 : w8.cell? ⟨gb226, 1, none⟩ = some (.int .i64 a0_1) := (blk_cell BK226.out 1).trans rfl; have hcz9_2 : w8.cell? ⟨gb226, 2, none⟩ = some (.int .i64 a0_2) := (blk_cell BK226.out 2).trans rfl; have hcz9_3 : w8.cell? ⟨gb226, 3, none⟩ = some (.slice A0_3 l0_3.length c0_3) := (blk_cell BK226.out 3).trans rfl; have hcz9_4 : w8.cell? ⟨gb226, 4, none⟩ = some (.slice A0_4 l0_4.length c0_4) := (blk_cell BK226.out 4).trans rfl; have hfz9_0 := blk_frozen BK226.out 0; have hfz9_1 := blk_frozen BK226.out 1; have hfz9_2 := blk_frozen BK226.out 2; have hfz9_3 := blk_frozen BK226.out 3; have hfz9_4 := blk_frozen BK226.out 4) | ((with_reducible refine gate_callee (f := 18) rfl ?_); refine goesL_ (some 12) rfl rfl Try.func18 (by kernel_rfl) rfl #[.agg #[.slice A0_0 l0_0.length c0_0, .int .i64 a0_1, .int .i64 a0_2, .slice A0_3 l0_3.length c0_3, .slice A0_4 l0_4.length c0_4]] rfl (by (try simp only [List.map_toArray, List.map_cons, List.map_nil]); first | done | rfl | (simp only [List.length_drop, List.length_take]; rfl)) ?_; (with_reducible refine (r7_Check.calls k _ _ l0_0 a0_1 a0_2 _ _ l0_3 _ _ l0_4 t227 t228 t229 _ ?side1 ?side2 ?side3 ?side4 ?side5 ?side6 A4.out).mono ?_); (case side1 => repeat (first | exact (Kd.C_below HR0_0.out HB.out) | (with_reducible refine Kd.C_alloc ?_ _) | (with_reducible refine Kd.C_drewN ?_ _) | (with_reducible refine Kd.C_drew ?_))); (case side2 => exact HC0_0.out); (case side3 => repeat (first | exact (Kd.C_below HR0_3.out HB.out) | (with_reducible refine Kd.C_alloc ?_ _) | (with_reducible refine Kd.C_drewN ?_ _) | (with_reducible refine Kd.C_drew ?_))); (case side4 => exact HC0_3.out); (case side5 => repeat (first | exact (Kd.C_below HR0_4.out HB.out) | (with_reducible refine Kd.C_alloc ?_ _) | (with_reducible refine Kd.C_drewN ?_ _) | (with_reducible refine Kd.C_drew ?_))); (case side6 => exact HC0_4.out); rintro e w10 ⟨rfl, hb⟩; refine ⟨_, rfl, ?_⟩; have n0_ := Aside0.mk (blk_below (g := gb226) (o := .cells #[.slice A0_0 l0_0.length c0_0, .int .i64 a0_1, .int .i64 a0_2, .slice A0_3 l0_3.length c0_3, .slice A0_4 l0_4.length c0_4] 28 (0, 0)) (by (with_reducible repeat (first | refine blk_drewN ?_ _ | refine blk_drew ?_ | refine blk_alloc ?_ _)); exact BK226.out) hb); have n1_ := Aside0.mk (below_step (by repeat (first | (with_reducible first | exact HB.out | apply below_alloc | apply pw_below_drewN | apply below_drew1 | refine below_set ?_ GE226.out) | exact HB.out)) hb); clear BK226; clear HB; have BK226 := n0_; have HB := n1_; clear n0_ n1_; (try clear hb); (try clear hb2); (try clear hk); (try clear hi)) | (go_at_call 85; (with_reducible refine (r1_In.calls a1 0 (wrap64 (a2 - 1)) true _ A6.out).mono ?_); rintro e w' ⟨rfl, ⟨nd, rfl⟩⟩))
   go_ret
   exact ⟨by first | rfl | (simp [errW_none, errW_some] <;> rfl) | (simp [*, errW_none, errW_some] <;> rfl), by repeat (first | (with_reducible first | exact HB.out | apply below_alloc | apply pw_below_drewN | apply below_drew1 | refine below_set ?_ GE226.out) | exact HB.out)⟩
  ·
   replace c7 := Bool.eq_false_iff.mpr c7
   subst c7
   have H1 : (some 4) = some r := by rw [if_neg (show ¬ (false = true) by decide)] at H; exact H
   clear H
   have H := H1
   clear H1
   obtain rfl := Option.some.inj H
   go_enter Try.func93, Try.ntmps93
   go_wp2_with (first | ((with_reducible refine gate_dst (N := 3) rfl ?_); refine box_event ?hg (N := 3) ?hd (cs := #[.slice A0_0 l0_0.length c0_0, .int .i64 a0_1, .int .i64 a0_2, .slice A0_3 l0_3.length c0_3, .slice A0_4 l0_4.length c0_4]) (t := 28) ?hr ?_; (case hd => rfl); (case hg => rfl); (case hr => first | (go_simp; done) | (go_simp; rfl)); intro gb226 hg w11 hbox hb; have n0_ := Aside0.mk (below_step (by repeat (first | (with_reducible first | exact HB.out | apply below_alloc | apply pw_below_drewN | apply below_drew1) | exact HB.out)) hb); have n1_ := Aside0.mk (hbox); have n2_ := Aside0.mk ((by rw [hg]; exact (below_size (by repeat (first | (with_reducible first | exact HB.out | apply below_alloc | apply pw_below_drewN | apply below_drew1) | exact HB.out))) : w.heap.size ≤ gb226)); have n3_ := Aside0.mk ((by rw [hg]; exact (below_size (by repeat (first | (with_reducible first | exact HB.out | apply below_alloc | apply pw_below_drewN | apply below_drew1) | exact HB.out))) : w.heap.size ≤ gb226)); clear HB; have HB := n0_; have BK226 := n1_; have GW226 := n2_; have GE226 := n3_; clear n0_ n1_ n2_ n3_; clear hb hbox hg; have hcz12_0 : w11.cell? ⟨gb226, 0, none⟩ = some (.slice A0_0 l0_0.length c0_0) := (blk_cell BK226.out 0).trans rfl; have hcz12_1 : w11.cell? ⟨gb226, 1, none⟩ = some (.int .i64 a0_1) := (blk_cell BK226.out 1).trans rfl; have hcz12_2 : w11.cell? ⟨gb226, 2, none⟩ = some (.int .i64 a0_2) := (blk_cell BK226.out 2).trans rfl; have hcz12_3 : w11.cell? ⟨gb226, 3, none⟩ = some (.slice A0_3 l0_3.length c0_3) := (blk_cell BK226.out 3).trans rfl; have hcz12_4 : w11.cell? ⟨gb226, 4, none⟩ = some (.slice A0_4 l0_4.length c0_4) := (blk_cell BK226.out 4).trans rfl; have hfz12_0 := blk_frozen BK226.out 0; have hfz12_1 := blk_frozen BK226.out 1; have hfz12_2 := blk_frozen BK226.out 2; have hfz12_3 := blk_frozen BK226.out 3; have hfz12_4 := blk_frozen BK226.out 4) | ((with_reducible refine gate_callee (f := 18) rfl ?_); refine goesL_ (some 12) rfl rfl Try.func18 (by kernel_rfl) rfl #[.agg #[.slice A0_0 l0_0.length c0_0, .int .i64 a0_1, .int .i64 a0_2, .slice A0_3 l0_3.length c0_3, .slice A0_4 l0_4.length c0_4]] rfl (by (try simp only [List.map_toArray, List.map_cons, List.map_nil]); first | done | rfl | (simp only [List.length_drop, List.length_take]; rfl)) ?_; (with_reducible refine (r7_Check.calls k _ _ l0_0 a0_1 a0_2 _ _ l0_3 _ _ l0_4 t227 t228 t229 _ ?side1 ?side2 ?side3 ?side4 ?side5 ?side6 A4.out).mono ?_); (case side1 => repeat (first | exact (Kd.C_below HR0_0.out HB.out) | (with_reducible refine Kd.C_alloc ?_ _) | (with_reducible refine Kd.C_drewN ?_ _) | (with_reducible refine Kd.C_drew ?_))); (case side2 => exact HC0_0.out); (case side3 => repeat (first | exact (Kd.C_below HR0_3.out HB.out) | (with_reducible refine Kd.C_alloc ?_ _) | (with_reducible refine Kd.C_drewN ?_ _) | (with_reducible refine Kd.C_drew ?_))); (case side4 => exact HC0_3.out); (case side5 => repeat (first | exact (Kd.C_below HR0_4.out HB.out) | (with_reducible refine Kd.C_alloc ?_ _) | (with_reducible refine Kd.C_drewN ?_ _) | (with_reducible refine Kd.C_drew ?_))); (case side6 => exact HC0_4.out); rintro e w13 ⟨rfl, hb⟩; refine ⟨_, rfl, ?_⟩; have n0_ := Aside0.mk (blk_below (g := gb226) (o := .cells #[.slice A0_0 l0_0.length c0_0, .int .i64 a0_1, .int .i64 a0_2, .slice A0_3 l0_3.length c0_3, .slice A0_4 l0_4.length c0_4] 28 (0, 0)) (by (with_reducible repeat (first | refine blk_drewN ?_ _ | refine blk_drew ?_ | refine blk_alloc ?_ _)); exact BK226.out) hb); have n1_ := Aside0.mk (below_step (by repeat (first | (with_reducible first | exact HB.out | apply below_alloc | apply pw_below_drewN | apply below_drew1 | refine below_set ?_ GE226.out) | exact HB.out)) hb); clear BK226; clear HB; have BK226 := n0_; have HB := n1_; clear n0_ n1_; (try clear hb); (try clear hb2); (try clear hk); (try clear hi)) | (go_at_call 85; (with_reducible refine (r1_In.calls a1 0 (wrap64 (a2 - 1)) false _ A6.out).mono ?_); rintro e w' ⟨rfl, ⟨nd, rfl⟩⟩))
   go_ret
   exact ⟨by first | rfl | (simp [errW_none, errW_some] <;> rfl) | (simp [*, errW_none, errW_some] <;> rfl), by repeat (first | (with_reducible first | exact HB.out | apply below_alloc | apply pw_below_drewN | apply below_drew1 | refine below_set ?_ GE226.out) | exact HB.out)⟩
 ·
  rw [if_neg c5] at H
  have c5b0 : (t229 == 0) = false := beq_eq_false_iff_ne.mpr c5
  have c5b1 : (t229 != 0) = true := bne_iff_ne.mpr c5
  obtain rfl := Option.some.inj H
  go_enter Try.func93, Try.ntmps93
  go_wp2_with (first | ((with_reducible refine gate_dst (N := 3) rfl ?_); refine box_event ?hg (N := 3) ?hd (cs := #[.slice A0_0 l0_0.length c0_0, .int .i64 a0_1, .int .i64 a0_2, .slice A0_3 l0_3.length c0_3, .slice A0_4 l0_4.length c0_4]) (t := 28) ?hr ?_; (case hd => rfl); (case hg => rfl); (case hr => first | (go_simp; done) | (go_simp; rfl)); intro gb226 hg w14 hbox hb; have n0_ := Aside0.mk (below_step (by repeat (first | (with_reducible first | exact HB.out | apply below_alloc | apply pw_below_drewN | apply below_drew1) | exact HB.out)) hb); have n1_ := Aside0.mk (hbox); have n2_ := Aside0.mk ((by rw [hg]; exact (below_size (by repeat (first | (with_reducible first | exact HB.out | apply below_alloc | apply pw_below_drewN | apply below_drew1) | exact HB.out))) : w.heap.size ≤ gb226)); have n3_ := Aside0.mk ((by rw [hg]; exact (below_size (by repeat (first | (with_reducible first | exact HB.out | apply below_alloc | apply pw_below_drewN | apply below_drew1) | exact HB.out))) : w.heap.size ≤ gb226)); clear HB; have HB := n0_; have BK226 := n1_; have GW226 := n2_; have GE226 := n3_; clear n0_ n1_ n2_ n3_; clear hb hbox hg; have hcz15_0 : w14.cell? ⟨gb226, 0, none⟩ = some (.slice A0_0 l0_0.length c0_0) := (blk_cell BK226.out 0).trans rfl; have hcz15_1 : w14.cell? ⟨gb226, 1, none⟩ = some (.int .i64 a0_1) := (blk_cell BK226.out 1).trans rfl; have hcz15_2 : w14.cell? ⟨gb226, 2, none⟩ = some (.int .i64 a0_2) := (blk_cell BK226.out 2).trans rfl; have hcz15_3 : w14.cell? ⟨gb226, 3, none⟩ = some (.slice A0_3 l0_3.length c0_3) := (blk_cell BK226.out 3).trans rfl; have hcz15_4 : w14.cell? ⟨gb226, 4, none⟩ = some (.slice A0_4 l0_4.length c0_4) := (blk_cell BK226.out 4).trans rfl; have hfz15_0 := blk_frozen BK226.out 0; have hfz15_1 := blk_frozen BK226.out 1; have hfz15_2 := blk_frozen BK226.out 2; have hfz15_3 := blk_frozen BK226.out 3; have hfz15_4 := blk_frozen BK226.out 4) | ((with_reducible refine gate_callee (f := 18) rfl ?_); refine goesL_ (some 12) rfl rfl Try.func18 (by kernel_rfl) rfl #[.agg #[.slice A0_0 l0_0.length c0_0, .int .i64 a0_1, .int .i64 a0_2, .slice A0_3 l0_3.length c0_3, .slice A0_4 l0_4.length c0_4]] rfl (by (try simp only [List.map_toArray, List.map_cons, List.map_nil]); first | done | rfl | (simp only [List.length_drop, List.length_take]; rfl)) ?_; (with_reducible refine (r7_Check.calls k _ _ l0_0 a0_1 a0_2 _ _ l0_3 _ _ l0_4 t227 t228 t229 _ ?side1 ?side2 ?side3 ?side4 ?side5 ?side6 A4.out).mono ?_); (case side1 => repeat (first | exact (Kd.C_below HR0_0.out HB.out) | (with_reducible refine Kd.C_alloc ?_ _) | (with_reducible refine Kd.C_drewN ?_ _) | (with_reducible refine Kd.C_drew ?_))); (case side2 => exact HC0_0.out); (case side3 => repeat (first | exact (Kd.C_below HR0_3.out HB.out) | (with_reducible refine Kd.C_alloc ?_ _) | (with_reducible refine Kd.C_drewN ?_ _) | (with_reducible refine Kd.C_drew ?_))); (case side4 => exact HC0_3.out); (case side5 => repeat (first | exact (Kd.C_below HR0_4.out HB.out) | (with_reducible refine Kd.C_alloc ?_ _) | (with_reducible refine Kd.C_drewN ?_ _) | (with_reducible refine Kd.C_drew ?_))); (case side6 => exact HC0_4.out); rintro e w16 ⟨rfl, hb⟩; refine ⟨_, rfl, ?_⟩; have n0_ := Aside0.mk (blk_below (g := gb226) (o := .cells #[.slice A0_0 l0_0.length c0_0, .int .i64 a0_1, .int .i64 a0_2, .slice A0_3 l0_3.length c0_3, .slice A0_4 l0_4.length c0_4] 28 (0, 0)) (by (with_reducible repeat (first | refine blk_drewN ?_ _ | refine blk_drew ?_ | refine blk_alloc ?_ _)); exact BK226.out) hb); have n1_ := Aside0.mk (below_step (by repeat (first | (with_reducible first | exact HB.out | apply below_alloc | apply pw_below_drewN | apply below_drew1 | refine below_set ?_ GE226.out) | exact HB.out)) hb); clear BK226; clear HB; have BK226 := n0_; have HB := n1_; clear n0_ n1_; (try clear hb); (try clear hb2); (try clear hk); (try clear hi)))
  go_ret
  exact ⟨by first | rfl | (simp [errW_none, errW_some] <;> rfl) | (simp [*, errW_none, errW_some] <;> rfl), by repeat (first | (with_reducible first | exact HB.out | apply below_alloc | apply pw_below_drewN | apply below_drew1 | refine below_set ?_ GE226.out) | exact HB.out)⟩




mutual
def r7_Used.l0 : Nat → Int → List (S56) → List Int → Int → List (S95) → Int → Int → List (S24) → List (S72) → Option (List Int × Int)
 | 0, _, _, _, _, _, _, _, _, _ => none
 | k + 1, x1, x6, x8, x9, x279000, x279001, x279002, x279003, x279004 => if x9 < (x279000.length : Int) then (r7_Used.l1 k x1 x6 x8 x9 false 0 x279000 x279001 x279002 x279003 x279004) else (some (x8, 0))
def r7_Used.l1 : Nat → Int → List (S56) → List Int → Int → Bool → Int → List (S95) → Int → Int → List (S24) → List (S72) → Option (List Int × Int)
 | 0, _, _, _, _, _, _, _, _, _, _, _ => none
 | k + 1, x1, x6, x8, x9, x10, x11, x279000, x279001, x279002, x279003, x279004 => if x11 < (x6.length : Int) then (if x10 = true then (if x8.length < 17592186044416 then (r7_Used.l0 k x1 x6 (x8 ++ [x9]) (wrap64 (x9 + 1)) x279000 x279001 x279002 x279003 x279004) else (none)) else (if 0 ≤ x11 then (if 0 ≤ x1 then (if x1 < (((rd_T56 x6 x11).f3).length : Int) then ((r1_Has.f k (rd_L2 ((rd_T56 x6 x11).f3) x1) x9).bind fun t289 => (r7_Used.l1 k x1 x6 x8 x9 t289 (wrap64 (x11 + 1)) x279000 x279001 x279002 x279003 x279004)) else (none)) else (none)) else (none))) else (if x10 = true then (if x8.length < 17592186044416 then (r7_Used.l0 k x1 x6 (x8 ++ [x9]) (wrap64 (x9 + 1)) x279000 x279001 x279002 x279003 x279004) else (none)) else (r7_Used.l0 k x1 x6 x8 (wrap64 (x9 + 1)) x279000 x279001 x279002 x279003 x279004))
end
def r7_Used.f (k : Nat) (l0_0 : List (S95)) (a0_1 : Int) (a0_2 : Int) (l0_3 : List (S24)) (l0_4 : List (S72)) (a1 : Int) : Option (List Int × Int) := (r7_index.f k l0_0 a0_1 a0_2 l0_3 l0_4 a1 (l0_4.length : Int)).bind fun t279 => ((r7_known.f k l0_0 a0_1 a0_2 l0_3 l0_4 t279).bind fun bt280 => (if bt280.2 = 0 then (r7_Used.l0 k a1 bt280.1 ([] : List Int) 0 l0_0 a0_1 a0_2 l0_3 l0_4) else (some (([] : List Int), bt280.2))))
def r7_Used.T1 : Bool × List (List Nat × List Nat) := (true, [([], []), ([], []), ([], []), ([], []), ([3], [3]), ([4], [4]), ([1, 2, 5], [1, 2, 5]), ([0, 6, 6], [0, 6]), ([7], [7]), ([8], [8]), ([8], [8]), ([9, 7, 0, 1, 2, 3, 4, 5, 6, 7, 8, 9], [9]), ([10, 11, 0, 1, 2, 3, 4, 5, 6, 7, 8, 9, 10, 11], [10])])
def r7_Used.B1 : List Nat := [0, 0, 0, 0, 8, 24, 62, 127, 255, 511, 511, 1023, 4095]
theorem r7_Used.tab1 : rtab .any (opsOf Try.f27 1) = r7_Used.T1 := by kernel_rfl
theorem r7_Used.bits1 : waitsOk r7_Used.T1.2 r7_Used.B1 = true := by kernel_rfl
set_option maxHeartbeats 8000000 in
set_option maxRecDepth 100000 in
theorem r7_Used.calls (k : Nat) (A0_0 : Option Addr) (c0_0 : Nat) (l0_0 : List (S95)) (a0_1 : Int) (a0_2 : Int) (A0_3 : Option Addr) (c0_3 : Nat) (l0_3 : List (S24)) (A0_4 : Option Addr) (c0_4 : Nat) (l0_4 : List (S72)) (a1 : Int) (r1 : List Int) (r2 : Int) (w : World) (hr0_0 : Kd.C k95 w A0_0 l0_0.length l0_0) (hc0_0 : l0_0.length ≤ c0_0) (hr0_3 : Kd.C k24 w A0_3 l0_3.length l0_3) (hc0_3 : l0_3.length ≤ c0_3) (hr0_4 : Kd.C k72 w A0_4 l0_4.length l0_4) (hc0_4 : l0_4.length ≤ c0_4) (h : r7_Used.f k l0_0 a0_1 a0_2 l0_3 l0_4 a1 = some (r1, r2)) :
  Calls Try.prog 27 #[.agg #[.slice A0_0 l0_0.length c0_0, .int .i64 a0_1, .int .i64 a0_2, .slice A0_3 l0_3.length c0_3, .slice A0_4 l0_4.length c0_4], .int .i64 a1] w fun e w' => ∃ v0_ : Value, e = .returned (.tuple #[v0_, .int .i64 r2]) ∧ Kd.R (Kd.int .i64) 3 w' w.heap.size (fun _ => True) v0_ r1 ∧ Below w.heap.size w w' := by
 have hu28 := Try.underlying28
 have HR0_0 := Aside0.mk hr0_0
 have HC0_0 := Aside0.mk hc0_0
 clear hr0_0 hc0_0
 have HR0_3 := Aside0.mk hr0_3
 have HC0_3 := Aside0.mk hc0_3
 clear hr0_3 hc0_3
 have HR0_4 := Aside0.mk hr0_4
 have HC0_4 := Aside0.mk hc0_4
 clear hr0_4 hc0_4
 have HB := Aside0.mk (Below.refl w.heap.size w)
 have H : ((r7_index.f k l0_0 a0_1 a0_2 l0_3 l0_4 a1 (l0_4.length : Int)).bind fun t279 => ((r7_known.f k l0_0 a0_1 a0_2 l0_3 l0_4 t279).bind fun bt280 => (if bt280.2 = 0 then (r7_Used.l0 k a1 bt280.1 ([] : List Int) 0 l0_0 a0_1 a0_2 l0_3 l0_4) else (some (([] : List Int), bt280.2))))) = some (r1, r2) := h
 clear h
 replace H := Option.bind_eq_some_iff.mp H
 obtain ⟨t279, A30, H⟩ := H
 replace H : ((r7_known.f k l0_0 a0_1 a0_2 l0_3 l0_4 t279).bind fun bt280 => (if bt280.2 = 0 then (r7_Used.l0 k a1 bt280.1 ([] : List Int) 0 l0_0 a0_1 a0_2 l0_3 l0_4) else (some (([] : List Int), bt280.2)))) = some (r1, r2) := H
 have A3 := Aside0.mk A30
 clear A30
 replace H := Option.bind_eq_some_iff.mp H
 obtain ⟨⟨t280, t283⟩, A40, H⟩ := H
 replace H : (if t283 = 0 then (r7_Used.l0 k a1 t280 ([] : List Int) 0 l0_0 a0_1 a0_2 l0_3 l0_4) else (some (([] : List Int), t283))) = some (r1, r2) := H
 have A4 := Aside0.mk A40
 clear A40
 by_cases c5 : t283 = 0
 ·
  rw [if_pos c5] at H
  have c5b0 : (t283 == 0) = true := beq_iff_eq.mpr c5
  have c5b1 : (t283 != 0) = false := bne_eq_false_iff_eq.mpr c5
  clear c5
  have H' := Aside0.mk H
  clear H
  go_enter Try.func27, Try.ntmps27
  try go_wp2_with (first | ((with_reducible refine gate_dst (N := 2) rfl ?_); refine box_event ?hg (N := 2) ?hd (cs := #[.slice A0_0 l0_0.length c0_0, .int .i64 a0_1, .int .i64 a0_2, .slice A0_3 l0_3.length c0_3, .slice A0_4 l0_4.length c0_4]) (t := 28) ?hr ?_; (case hd => rfl); (case hg => rfl); (case hr => first | (go_simp; done) | (go_simp; rfl)); intro gb278 hg w6 hbox hb; have n0_ := Aside0.mk (below_step (by repeat (first | (with_reducible first | exact HB.out | apply below_alloc | apply pw_below_drewN | apply below_drew1) | exact HB.out)) hb); have n1_ := Aside0.mk (hbox); have n2_ := Aside0.mk ((by rw [hg]; exact (below_size (by repeat (first | (with_reducible first | exact HB.out | apply below_alloc | apply pw_below_drewN | apply below_drew1) | exact HB.out))) : w.heap.size ≤ gb278)); have n3_ := Aside0.mk ((by rw [hg]; exact (below_size (by repeat (first | (with_reducible first | exact HB.out | apply below_alloc | apply pw_below_drewN | apply below_drew1) | exact HB.out))) : w.heap.size ≤ gb278)); clear HB; have HB := n0_; have BK278 := n1_; have GW278 := n2_; have GE278 := n3_; clear n0_ n1_ n2_ n3_; clear hb hbox hg))
  have n0_ := Aside0.mk (blk_drew BK278.out)
  have n1_ := Aside0.mk (below_drew1 HB.out)
  clear BK278 HB
  have BK278 := n0_
  have HB := n1_
  clear n0_ n1_
  refine start_ (n := 13) (S := fun w' => w'.cell? ⟨gb278, 0, none⟩ = some (.slice A0_0 l0_0.length c0_0) ∧ w'.cell? ⟨gb278, 1, none⟩ = some (.int .i64 a0_1) ∧ w'.cell? ⟨gb278, 2, none⟩ = some (.int .i64 a0_2) ∧ w'.cell? ⟨gb278, 3, none⟩ = some (.slice A0_3 l0_3.length c0_3) ∧ w'.cell? ⟨gb278, 4, none⟩ = some (.slice A0_4 l0_4.length c0_4)) (ds := []) #[false, false, false, false, false, false, false, false, false, false, false, false, false] (by kernel_rfl) rfl rfl ⟨(blk_cell BK278.out 0).trans rfl, (blk_cell BK278.out 1).trans rfl, (blk_cell BK278.out 2).trans rfl, (blk_cell BK278.out 3).trans rfl, (blk_cell BK278.out 4).trans rfl⟩ (fun hHeld => ?_); refine with_tabW r7_Used.tab1 r7_Used.bits1 (fun HT_ HW_ => ?_)
  generalize w6.drew = w7 at BK278 HB hHeld ⊢
  refine pureQ 2 15 HT_.out ?_
  refine pureQ 3 16 HT_.out ?_
  refine takeQ 0 13 HT_.out HW_.out hHeld ?_
  refine takeQ 1 14 HT_.out HW_.out hHeld ?_
  refine takeQ 4 17 HT_.out HW_.out hHeld ?_
  refine pureQ 5 18 HT_.out ?_
  refine one_ (i := 6) (N := some 19) #[true, true, true, true, true, true, true, false, false, false, false, false, false] rfl rfl (one_of HT_.out (by kernel_rfl)) (by decide) (fun K hK => ?_)
  refine goes_ Try.func93 (by kernel_rfl) rfl #[.agg #[.slice A0_0 l0_0.length c0_0, .int .i64 a0_1, .int .i64 a0_2, .slice A0_3 l0_3.length c0_3, .slice A0_4 l0_4.length c0_4], .int .i64 a1, .int .i64 (l0_4.length : Int)] (by rfl) rfl rfl (by (try simp only [List.map_toArray, List.map_cons, List.map_nil]); first | done | rfl | (simp only [List.length_drop, List.length_take]; rfl)) ?_
  with_reducible refine (r7_index.calls k _ _ l0_0 a0_1 a0_2 _ _ l0_3 _ _ l0_4 a1 (l0_4.length : Int) t279 _ ?side1 ?side2 ?side3 ?side4 ?side5 ?side6 A3.out).mono ?_
  (case side1 => repeat (first | exact (Kd.C_below HR0_0.out HB.out) | (with_reducible refine Kd.C_alloc ?_ _) | (with_reducible refine Kd.C_drewN ?_ _) | (with_reducible refine Kd.C_drew ?_)))
  (case side2 => exact HC0_0.out)
  (case side3 => repeat (first | exact (Kd.C_below HR0_3.out HB.out) | (with_reducible refine Kd.C_alloc ?_ _) | (with_reducible refine Kd.C_drewN ?_ _) | (with_reducible refine Kd.C_drew ?_)))
  (case side4 => exact HC0_3.out)
  (case side5 => repeat (first | exact (Kd.C_below HR0_4.out HB.out) | (with_reducible refine Kd.C_alloc ?_ _) | (with_reducible refine Kd.C_drewN ?_ _) | (with_reducible refine Kd.C_drew ?_)))
  (case side6 => exact HC0_4.out)
  rintro e w8 ⟨rfl, hb⟩
  refine ⟨_, rfl, ?_⟩
  have n0_ := Aside0.mk (blk_below (g := gb278) (o := .cells #[.slice A0_0 l0_0.length c0_0, .int .i64 a0_1, .int .i64 a0_2, .slice A0_3 l0_3.length c0_3, .slice A0_4 l0_4.length c0_4] 28 (0, 0)) (by (with_reducible repeat (first | refine blk_drewN ?_ _ | refine blk_drew ?_ | refine blk_alloc ?_ _)); exact BK278.out) hb)
  have n1_ := Aside0.mk (below_step (by repeat (first | (with_reducible first | exact HB.out | apply below_alloc | apply pw_below_drewN | apply below_drew1 | refine below_set ?_ GE278.out) | exact HB.out)) hb)
  clear BK278 HB
  have BK278 := n0_
  have HB := n1_
  clear n0_ n1_
  (try clear hb)
  (try clear hb2)
  (try clear hk)
  (try clear hi)
  refine hK.out _ _ ⟨(blk_cell BK278.out 0).trans rfl, (blk_cell BK278.out 1).trans rfl, (blk_cell BK278.out 2).trans rfl, (blk_cell BK278.out 3).trans rfl, (blk_cell BK278.out 4).trans rfl⟩ (fun hHeld => ?_)
  clear hK K
  refine norm_ (a' := ?_) ?_ ?_
  rotate_left
  ·
   show Act.put _ (some 19) _ = _
   simp only [Act.put, List.setIfInBounds_toArray, List.set_cons_zero, List.set_cons_succ, i64_w, i32_w]
   rfl
  refine one_ (i := 7) (N := some 20) #[true, true, true, true, true, true, true, true, false, false, false, false, false] rfl rfl (one_of HT_.out (by kernel_rfl)) (by decide) (fun K hK => ?_)
  refine goes_ Try.func92 (by kernel_rfl) rfl #[.agg #[.slice A0_0 l0_0.length c0_0, .int .i64 a0_1, .int .i64 a0_2, .slice A0_3 l0_3.length c0_3, .slice A0_4 l0_4.length c0_4], .int .i64 t279] (by rfl) rfl rfl (by (try simp only [List.map_toArray, List.map_cons, List.map_nil]); first | done | rfl | (simp only [List.length_drop, List.length_take]; rfl)) ?_
  with_reducible refine (r7_known.calls k _ _ l0_0 a0_1 a0_2 _ _ l0_3 _ _ l0_4 t279 t280 t283 _ ?side1 ?side2 ?side3 ?side4 ?side5 ?side6 A4.out).mono ?_
  (case side1 => repeat (first | exact (Kd.C_below HR0_0.out HB.out) | (with_reducible refine Kd.C_alloc ?_ _) | (with_reducible refine Kd.C_drewN ?_ _) | (with_reducible refine Kd.C_drew ?_)))
  (case side2 => exact HC0_0.out)
  (case side3 => repeat (first | exact (Kd.C_below HR0_3.out HB.out) | (with_reducible refine Kd.C_alloc ?_ _) | (with_reducible refine Kd.C_drewN ?_ _) | (with_reducible refine Kd.C_drew ?_)))
  (case side4 => exact HC0_3.out)
  (case side5 => repeat (first | exact (Kd.C_below HR0_4.out HB.out) | (with_reducible refine Kd.C_alloc ?_ _) | (with_reducible refine Kd.C_drewN ?_ _) | (with_reducible refine Kd.C_drew ?_)))
  (case side6 => exact HC0_4.out)
  rintro e w9 ⟨v281, rfl, ho0, hb⟩
  refine ⟨_, rfl, ?_⟩
  have n0_ := Aside0.mk (Kd.N_lower (Kd.N_mono (ok' := fun k_ => k_ ≠ gb278) ho0 (fun k_ hk_ => (Kd.freshB (g := gb278) (o := .cells #[.slice A0_0 l0_0.length c0_0, .int .i64 a0_1, .int .i64 a0_2, .slice A0_3 l0_3.length c0_3, .slice A0_4 l0_4.length c0_4] 28 (0, 0)) (by (with_reducible repeat (first | refine blk_drewN ?_ _ | refine blk_drew ?_ | refine blk_alloc ?_ _)); exact BK278.out) k_ hk_))) (below_size (by repeat (first | (with_reducible first | exact HB.out | apply below_alloc | apply pw_below_drewN | apply below_drew1 | refine below_set ?_ GE278.out) | exact HB.out))))
  have n1_ := Aside0.mk (blk_below (g := gb278) (o := .cells #[.slice A0_0 l0_0.length c0_0, .int .i64 a0_1, .int .i64 a0_2, .slice A0_3 l0_3.length c0_3, .slice A0_4 l0_4.length c0_4] 28 (0, 0)) (by (with_reducible repeat (first | refine blk_drewN ?_ _ | refine blk_drew ?_ | refine blk_alloc ?_ _)); exact BK278.out) hb)
  have n2_ := Aside0.mk (below_step (by repeat (first | (with_reducible first | exact HB.out | apply below_alloc | apply pw_below_drewN | apply below_drew1 | refine below_set ?_ GE278.out) | exact HB.out)) hb)
  clear BK278 HB
  have HO282 := n0_
  have BK278 := n1_
  have HB := n2_
  clear n0_ n1_ n2_
  (try clear hb)
  (try clear hb2)
  (try clear hk)
  (try clear hi)
  (try clear ho0)
  refine hK.out _ _ ⟨(blk_cell BK278.out 0).trans rfl, (blk_cell BK278.out 1).trans rfl, (blk_cell BK278.out 2).trans rfl, (blk_cell BK278.out 3).trans rfl, (blk_cell BK278.out 4).trans rfl⟩ (fun hHeld => ?_)
  clear hK K
  refine norm_ (a' := ?_) ?_ ?_
  rotate_left
  ·
   show Act.put _ (some 20) _ = _
   simp only [Act.put, List.setIfInBounds_toArray, List.set_cons_zero, List.set_cons_succ, i64_w, i32_w]
   rfl
  refine pureQ 8 12 HT_.out ?_
  refine pureQ 9 21 HT_.out ?_
  refine pureQ 10 22 HT_.out ?_
  refine pureQ 11 6 HT_.out ?_
  refine pureQ 12 7 HT_.out ?_
  refine done_ (done_of HT_.out (by kernel_rfl)) ?_
  try go_wp2
  go_loopg [8, 9] k (fun kq v8 v9 w' => ∃ (x8_1 : List Int) (x9_1 : Int), v9 = .int .i64 x9_1 ∧ Aside0 (r7_Used.l0 kq a1 t280 x8_1 x9_1 l0_0 a0_1 a0_2 l0_3 l0_4 = some (r1, r2)) ∧ Aside0 (kq ≤ k) ∧ Aside0 (Kd.N k56 56 w' w.heap.size (fun k_ => some k_ ≠ (v8 : Value).ownBlock ∧ k_ ≠ gb278) v281 t280) ∧ Aside0 (Kd.R (Kd.int .i64) 3 w' w.heap.size (fun _ => True) v8 x8_1) ∧ Aside0 (w'.heap[gb278]? = some (.cells #[(.slice A0_0 l0_0.length c0_0), .int .i64 a0_1, .int .i64 a0_2, (.slice A0_3 l0_3.length c0_3), (.slice A0_4 l0_4.length c0_4)] 28 (0, 0))) ∧ Aside0 (Below w.heap.size w w'))
  case atStart => exact ⟨(([] : List Int)), (0), (by first | rfl | (simp; done) | (simp [*]; done)), H', ⟨Nat.le_refl _⟩, ⟨by (with_reducible repeat (first | apply Kd.N_alloc | apply Kd.N_drewN | apply Kd.N_drew)); exact Kd.N_mono HO282.out (fun _ hk => ⟨(by simp [Value.ownBlock]), hk⟩)⟩, ⟨by first | exact Kd.R_nil _ _ _ _ _ | exact Kd.N_nil _ _ _ _ _ | exact Kd.V_nil _ _ _ _ _ | exact Kd.Q_nil _ _ _ _ _ | exact Kd.S_nil _ _ _ _ _⟩, ⟨by (with_reducible repeat (first | refine blk_drewN ?_ _ | refine blk_drew ?_ | refine blk_alloc ?_ _)); exact BK278.out⟩, ⟨by repeat (first | (with_reducible first | exact HB.out | apply below_alloc | apply pw_below_drewN | apply below_drew1 | refine below_set ?_ GE278.out) | exact HB.out)⟩⟩
  case round =>
   clear H'
   try clear c2
   try clear p2
   try clear c5
   try clear c5b0
   try clear c5b1
   try clear c9
   obtain ⟨x8_1, x9_1, rfl, HA, HK1, HO_6, HO_8, BK278, HB⟩ := hrel
   cases gk with
   | zero => exact absurd HA.out (by simp [r7_Used.l0])
   | succ k1 =>
    have H := HA.out
    clear HA
    simp only [r7_Used.l0] at H
    by_cases c10 : x9_1 < (l0_0.length : Int)
    ·
     rw [if_pos c10] at H
     have c10b0 : decide (x9_1 < (l0_0.length : Int)) = true := decide_eq_true c10
     clear c10
     have H' := Aside0.mk H
     clear H
     have hcz11_0 := (blk_cell BK278.out 0).trans rfl
     have hcz11_1 := (blk_cell BK278.out 1).trans rfl
     have hcz11_2 := (blk_cell BK278.out 2).trans rfl
     have hcz11_3 := (blk_cell BK278.out 3).trans rfl
     have hcz11_4 := (blk_cell BK278.out 4).trans rfl
     have hfz11_0 := blk_frozen BK278.out 0
     have hfz11_1 := blk_frozen BK278.out 1
     have hfz11_2 := blk_frozen BK278.out 2
     have hfz11_3 := blk_frozen BK278.out 3
     have hfz11_4 := blk_frozen BK278.out 4
     go_wp2
     go_loopg [10, 11] k1 (fun kq v10 v11 w' => ∃ (x10_2 : Bool) (x11_2 : Int), v10 = .bool x10_2 ∧ v11 = .int .i64 x11_2 ∧ Aside0 (r7_Used.l1 kq a1 t280 x8_1 x9_1 x10_2 x11_2 l0_0 a0_1 a0_2 l0_3 l0_4 = some (r1, r2)) ∧ Aside0 (kq ≤ k1) ∧ Aside0 (Kd.N k56 56 w' w.heap.size (fun k_ => some k_ ≠ (u8 : Value).ownBlock ∧ k_ ≠ gb278) v281 t280) ∧ Aside0 (Kd.R (Kd.int .i64) 3 w' w.heap.size (fun _ => True) u8 x8_1) ∧ Aside0 (w'.heap[gb278]? = some (.cells #[(.slice A0_0 l0_0.length c0_0), .int .i64 a0_1, .int .i64 a0_2, (.slice A0_3 l0_3.length c0_3), (.slice A0_4 l0_4.length c0_4)] 28 (0, 0))) ∧ Aside0 (Below w.heap.size w w'))
     case atStart => exact ⟨(false), (0), (by first | rfl | (simp; done) | (simp [*]; done)), (by first | rfl | (simp; done) | (simp [*]; done)), H', ⟨Nat.le_refl _⟩, ⟨by (with_reducible repeat (first | apply Kd.N_alloc | apply Kd.N_drewN | apply Kd.N_drew)); exact HO_6.out⟩, ⟨by (with_reducible repeat (first | apply Kd.R_alloc | apply Kd.R_drewN | apply Kd.R_drew)); exact HO_8.out⟩, ⟨by (with_reducible repeat (first | refine blk_drewN ?_ _ | refine blk_drew ?_ | refine blk_alloc ?_ _)); exact BK278.out⟩, ⟨by repeat (first | (with_reducible first | exact HB.out | apply below_alloc | apply pw_below_drewN | apply below_drew1 | refine below_set ?_ GE278.out) | exact HB.out)⟩⟩
     case round =>
      clear H'
      try clear c1
      try clear c2
      try clear p2
      try clear c5
      try clear c5b0
      try clear c5b1
      try clear c9
      try clear c10
      try clear c10b0
      try clear hcz11_0
      try clear hcz11_1
      try clear hcz11_2
      try clear hcz11_3
      try clear hcz11_4
      try clear hfz11_0
      try clear hfz11_1
      try clear hfz11_2
      try clear hfz11_3
      try clear hfz11_4
      try clear p2
      obtain ⟨x10_2, x11_2, rfl, rfl, HA, HK2, HO_6, HO_8, BK278, HB⟩ := hrel
      cases gk with
      | zero => exact absurd HA.out (by simp [r7_Used.l1])
      | succ k2 =>
       have H := HA.out
       clear HA
       simp only [r7_Used.l1] at H
       by_cases c12 : x11_2 < (t280.length : Int)
       ·
        rw [if_pos c12] at H
        have c12b0 : decide (x11_2 < (t280.length : Int)) = true := decide_eq_true c12
        clear c12
        by_cases c13 : x10_2 = true
        ·
         subst c13
         have H1 : (if x8_1.length < 17592186044416 then (r7_Used.l0 k2 a1 t280 (x8_1 ++ [x9_1]) (wrap64 (x9_1 + 1)) l0_0 a0_1 a0_2 l0_3 l0_4) else (none)) = some (r1, r2) := by rw [if_pos rfl] at H; exact H
         clear H
         have H := H1
         clear H1
         by_cases c14 : x8_1.length < 17592186044416
         ·
          rw [if_pos c14] at H
          have LMc14 := Aside0.mk c14
          clear c14
          obtain ⟨y284, hy284⟩ : ∃ y_ : List Int, y_ = (x8_1 ++ [x9_1]) := ⟨_, rfl⟩
          replace H : (r7_Used.l0 k2 a1 t280 y284 (wrap64 (x9_1 + 1)) l0_0 a0_1 a0_2 l0_3 l0_4) = some (r1, r2) := by first | (rw [hy284]; with_reducible exact H) | (have H2_ := (Option.bind_some _ _).symm.trans H; rw [hy284]; with_reducible exact H2_) | (have H2_ := (Option.bind_some _ _).symm.trans H; with_reducible exact H2_) | with_reducible exact H | (rw [hy284]; exact H) | exact H
          have Ny284 := Aside0.mk hy284
          clear hy284
          have H' := Aside0.mk H
          clear H
          obtain ⟨Ao15, co15, eo15⟩ := Kd.N_slice HO_6.out
          subst eo15
          go_wp2_with (first | ((with_reducible refine gate_builtin (b := .append) (xs := #[.tmp 54, .tmp 56]) rfl ?_); at_builtin; refine Kd.R_append (Kd.int .i64) (w0 := w) w.heap.size rfl (.tmp 54) (.tmp 56) 39 3 (.int .i64 0) 8 rfl Try.underlying39 info3 rfl (by decide) (by omega) u8 x8_1 x9_1 [.int .i64 x9_1] (fun _ => True) (fun _ => False) rfl rfl ?aP (fun _ hk => hk.elim) ?aF ?aO ?aB ?aS ?aL ?_; (case aP => exact rfl); (case aB => exact (by repeat (first | (with_reducible first | exact HB.out | apply below_alloc | apply pw_below_drewN | apply below_drew1 | refine below_set ?_ GE278.out) | exact HB.out))); (case aF => exact (fun _ _ => trivial)); (case aO => exact (by (with_reducible repeat (first | apply Kd.R_alloc | apply Kd.R_drewN | apply Kd.R_drew)); exact HO_8.out)); (case aS => exact (below_size (by repeat (first | (with_reducible first | exact HB.out | apply below_alloc | apply pw_below_drewN | apply below_drew1 | refine below_set ?_ GE278.out) | exact HB.out)))); (case aL => have := LMc14.out; omega); intro v285 w16 ho hb hg hat; rw [← Ny284.out] at ho; have n0_ := Aside0.mk (Kd.N_afterv (ok := (fun k_ => k_ ≠ gb278)) (by (with_reducible repeat (first | apply Kd.N_alloc | apply Kd.N_drewN | apply Kd.N_drew)); exact Kd.N_mono HO_6.out (fun _ hk => ⟨hk.2, hk.1⟩)) hg hat); have n1_ := Aside0.mk (blk_grown (g := gb278) (o := .cells #[.slice A0_0 l0_0.length c0_0, .int .i64 a0_1, .int .i64 a0_2, .slice A0_3 l0_3.length c0_3, .slice A0_4 l0_4.length c0_4] 28 (0, 0)) (by (with_reducible repeat (first | refine blk_drewN ?_ _ | refine blk_drew ?_ | refine blk_alloc ?_ _)); exact BK278.out) hg (Kd.R_ne HO_8.out BK278.out (by decide))); have n2_ := Aside0.mk (hb); have n3_ := Aside0.mk (ho); clear HO_6; clear BK278; clear HB; clear HO_8; have HO_6 := n0_; have BK278 := n1_; have HB := n2_; have HO286 := n3_; clear n0_ n1_ n2_ n3_; clear ho hb hg hat))
          go_roundg k2
          case measure => have := HK1.out; have := HK2.out; omega
          case rel => exact ⟨(y284), (wrap64 (x9_1 + 1)), (by first | rfl | (simp; done) | (simp [*]; done)), H', ⟨by have := HK1.out; have := HK2.out; omega⟩, ⟨by (with_reducible repeat (first | apply Kd.N_alloc | apply Kd.N_drewN | apply Kd.N_drew)); exact Kd.N_mono HO_6.out (fun _ hk => ⟨hk.2, hk.1⟩)⟩, ⟨by (with_reducible repeat (first | apply Kd.R_alloc | apply Kd.R_drewN | apply Kd.R_drew)); exact HO286.out⟩, ⟨by (with_reducible repeat (first | refine blk_drewN ?_ _ | refine blk_drew ?_ | refine blk_alloc ?_ _)); exact BK278.out⟩, ⟨by repeat (first | (with_reducible first | exact HB.out | apply below_alloc | apply pw_below_drewN | apply below_drew1 | refine below_set ?_ GE278.out) | exact HB.out)⟩⟩
         ·
          rw [if_neg c14] at H
          exact absurd H (by simp)
        ·
         replace c13 := Bool.eq_false_iff.mpr c13
         subst c13
         have H1 : (if 0 ≤ x11_2 then (if 0 ≤ a1 then (if a1 < (((rd_T56 t280 x11_2).f3).length : Int) then ((r1_Has.f k2 (rd_L2 ((rd_T56 t280 x11_2).f3) a1) x9_1).bind fun t289 => (r7_Used.l1 k2 a1 t280 x8_1 x9_1 t289 (wrap64 (x11_2 + 1)) l0_0 a0_1 a0_2 l0_3 l0_4)) else (none)) else (none)) else (none)) = some (r1, r2) := by rw [if_neg (show ¬ (false = true) by decide)] at H; exact H
         clear H
         have H := H1
         clear H1
         by_cases c17 : 0 ≤ x11_2
         ·
          rw [if_pos c17] at H
          have c17b0 : decide (0 ≤ x11_2) = true := decide_eq_true c17
          clear c17
          by_cases c18 : 0 ≤ a1
          ·
           rw [if_pos c18] at H
           have c18b0 : decide (0 ≤ a1) = true := decide_eq_true c18
           clear c18
           by_cases c19 : a1 < (((rd_T56 t280 x11_2).f3).length : Int)
           ·
            rw [if_pos c19] at H
            have c19b0 : decide (a1 < (((rd_T56 t280 x11_2).f3).length : Int)) = true := decide_eq_true c19
            clear c19
            replace H := Option.bind_eq_some_iff.mp H
            obtain ⟨t289, A200, H⟩ := H
            replace H : (r7_Used.l1 k2 a1 t280 x8_1 x9_1 t289 (wrap64 (x11_2 + 1)) l0_0 a0_1 a0_2 l0_3 l0_4) = some (r1, r2) := H
            have A20 := Aside0.mk A200
            clear A200
            have H' := Aside0.mk H
            clear H
            obtain ⟨Ao21, co21, eo21⟩ := Kd.N_slice HO_6.out
            subst eo21
            have p287 : 0 ≤ (x11_2 : Int) := of_decide_eq_true (by first | (with_reducible assumption) | assumption)
            have q287 : x11_2 < (t280.length : Int) := of_decide_eq_true (by first | (with_reducible assumption) | assumption)
            obtain ⟨ad287, A287_0, c287_0, A287_2, c287_2, A287_3, c287_3, e287, hx287_0, hx287_1, hx287_2, hx287_3, hl287_0, hi287_0, hl287_2, hi287_2, hl287_3, hi287_3⟩ := at_T56 (Kd.N_reads' HO_6.out).2.2 x11_2 p287 q287
            cases e287
            obtain ⟨ce287, hce287, hMe287, hcc287⟩ := Kd.N_get HO_6.out z56 x11_2 p287 (by first | exact q287 | exact of_decide_eq_true (by first | (with_reducible assumption) | assumption) | (have e_ := (Kd.N_reads' HO_6.out).1; omega))
            obtain ⟨ua287_0, uc287_0, ua287_2, uc287_2, ua287_3, uc287_3, rfl, ul287_0, ge287_0, ul287_2, ge287_2, ul287_3, ge287_3⟩ := k56_openF hMe287
            have hv287_0 := hcc287 0 _ rfl
            rw [Nat.add_zero] at hv287_0
            replace hv287_0 := Option.some.inj (hv287_0.symm.trans hx287_0)
            injection hv287_0 with hva_ hvn_ hvc_
            rw [hva_] at ge287_0
            rw [hvc_] at ul287_0
            have HL287_0 := Aside0.mk (show Kd.V (Kd.int .i64) 3 _ w.heap.size _ _ ((rd_T56 t280 x11_2).f0) from Kd.V_mk ul287_0 ge287_0)
            clear hva_ hvn_ hvc_ ge287_0 ul287_0
            have hv287_2 := hcc287 2 _ rfl
            rw [add_field _ _ 2 (by omega)] at hv287_2
            replace hv287_2 := Option.some.inj (hv287_2.symm.trans hx287_2)
            injection hv287_2 with hva_ hvn_ hvc_
            rw [hva_] at ge287_2
            rw [hvc_] at ul287_2
            have HL287_2 := Aside0.mk (show Kd.V (Kd.int .i64) 3 _ w.heap.size _ _ ((rd_T56 t280 x11_2).f2) from Kd.V_mk ul287_2 ge287_2)
            clear hva_ hvn_ hvc_ ge287_2 ul287_2
            have hv287_3 := hcc287 3 _ rfl
            rw [add_field _ _ 3 (by omega)] at hv287_3
            replace hv287_3 := Option.some.inj (hv287_3.symm.trans hx287_3)
            injection hv287_3 with hva_ hvn_ hvc_
            rw [hva_] at ge287_3
            rw [hvc_] at ul287_3
            have HL287_3 := Aside0.mk (show Kd.V (Kd.slice 3 (Kd.int .i64)) 39 _ w.heap.size _ _ ((rd_T56 t280 x11_2).f3) from Kd.V_mk ul287_3 ge287_3)
            clear hva_ hvn_ hvc_ ge287_3 ul287_3 hcc287 hce287
            have HR287_0 := Aside0.mk hi287_0
            have HC287_0 := Aside0.mk hl287_0
            clear hi287_0 hl287_0
            have HR287_2 := Aside0.mk hi287_2
            have HC287_2 := Aside0.mk hl287_2
            clear hi287_2 hl287_2
            have HR287_3 := Aside0.mk hi287_3
            have HC287_3 := Aside0.mk hl287_3
            clear hi287_3 hl287_3
            replace p287 := eq_true p287
            replace q287 := eq_true q287
            have p288 : 0 ≤ (a1 : Int) := of_decide_eq_true (by first | (with_reducible assumption) | assumption)
            have q288 : a1 < (((rd_T56 t280 x11_2).f3).length : Int) := of_decide_eq_true (by first | (with_reducible assumption) | assumption)
            obtain ⟨ad288, A288_0, c288_0, e288, hx288_0, hl288_0, hi288_0⟩ := at_L2 (by repeat (first | (with_reducible exact HR287_3.out) | (with_reducible refine Kd.C_alloc ?_ _) | (with_reducible refine Kd.C_drewN ?_ _) | (with_reducible refine Kd.C_drew ?_) | exact HR287_3.out)) a1 p288 q288
            cases e288
            obtain ⟨ce288, hce288, hMe288, hcc288⟩ := Kd.V_get HL287_3.out [] a1 p288 (by first | exact q288 | exact of_decide_eq_true (by first | (with_reducible assumption) | assumption) | (have e_ := (Kd.V_reads' HL287_3.out).1; omega))
            obtain ⟨ua288_0, uc288_0, rfl, ul288_0, ge288_0⟩ := Kd.FK_slice_open hMe288
            have hv288_0 := hcc288 0 _ rfl
            rw [Nat.add_zero, show ((Kd.slice 3 (Kd.int .i64))).sz = 1 from rfl, Nat.mul_one] at hv288_0
            replace hv288_0 := Option.some.inj (hv288_0.symm.trans hx288_0)
            injection hv288_0 with hva_ hvn_ hvc_
            rw [hva_] at ge288_0
            rw [hvc_] at ul288_0
            have HL288_0 := Aside0.mk (show Kd.V (Kd.int .i64) 3 _ w.heap.size _ _ (rd_L2 ((rd_T56 t280 x11_2).f3) a1) from Kd.V_mk ul288_0 ge288_0)
            clear hva_ hvn_ hvc_ ge288_0 ul288_0 hcc288 hce288
            have HR288_0 := Aside0.mk hi288_0
            have HC288_0 := Aside0.mk hl288_0
            clear hi288_0 hl288_0
            replace p288 := eq_true p288
            replace q288 := eq_true q288
            go_wp2_with (first | ((with_reducible refine gate_callee (f := 43) rfl ?_); refine goesL_ (some 52) rfl rfl Try.func43 (by kernel_rfl) rfl #[.slice A288_0 (rd_L2 ((rd_T56 t280 x11_2).f3) a1).length c288_0, .int .i64 x9_1] rfl (by (try simp only [List.map_toArray, List.map_cons, List.map_nil]); first | done | rfl | (simp only [List.length_drop, List.length_take]; rfl)) ?_; (with_reducible refine (r1_Has.calls k2 _ _ (rd_L2 ((rd_T56 t280 x11_2).f3) a1) x9_1 t289 _ ?side1 ?side2 A20.out).mono ?_); (case side1 => repeat (first | exact (by repeat (first | (with_reducible exact HR288_0.out) | (with_reducible refine Kd.C_alloc ?_ _) | (with_reducible refine Kd.C_drewN ?_ _) | (with_reducible refine Kd.C_drew ?_) | exact HR288_0.out)) | (with_reducible refine Kd.C_alloc ?_ _) | (with_reducible refine Kd.C_drewN ?_ _) | (with_reducible refine Kd.C_drew ?_))); (case side2 => exact HC288_0.out); rintro e w' ⟨rfl, ⟨nd, rfl⟩⟩; refine ⟨_, rfl, ?_⟩))
            go_roundg k2
            case measure => have := HK1.out; have := HK2.out; omega
            case rel => exact ⟨(t289), (wrap64 (x11_2 + 1)), (by first | rfl | (simp; done) | (simp [*]; done)), (by first | rfl | (simp; done) | (simp [*]; done)), H', ⟨by have := HK1.out; have := HK2.out; omega⟩, ⟨by (with_reducible repeat (first | apply Kd.N_alloc | apply Kd.N_drewN | apply Kd.N_drew)); exact HO_6.out⟩, ⟨by (with_reducible repeat (first | apply Kd.R_alloc | apply Kd.R_drewN | apply Kd.R_drew)); exact HO_8.out⟩, ⟨by (with_reducible repeat (first | refine blk_drewN ?_ _ | refine blk_drew ?_ | refine blk_alloc ?_ _)); exact BK278.out⟩, ⟨by repeat (first | (with_reducible first | exact HB.out | apply below_alloc | apply pw_below_drewN | apply below_drew1 | refine below_set ?_ GE278.out) | exact HB.out)⟩⟩
           ·
            rw [if_neg c19] at H
            exact absurd H (by simp)
          ·
           rw [if_neg c18] at H
           exact absurd H (by simp)
         ·
          rw [if_neg c17] at H
          exact absurd H (by simp)
       ·
        rw [if_neg c12] at H
        have c12b0 : decide (x11_2 < (t280.length : Int)) = false := decide_eq_false c12
        clear c12
        by_cases c22 : x10_2 = true
        ·
         subst c22
         have H1 : (if x8_1.length < 17592186044416 then (r7_Used.l0 k2 a1 t280 (x8_1 ++ [x9_1]) (wrap64 (x9_1 + 1)) l0_0 a0_1 a0_2 l0_3 l0_4) else (none)) = some (r1, r2) := by rw [if_pos rfl] at H; exact H
         clear H
         have H := H1
         clear H1
         by_cases c23 : x8_1.length < 17592186044416
         ·
          rw [if_pos c23] at H
          have LMc23 := Aside0.mk c23
          clear c23
          obtain ⟨y290, hy290⟩ : ∃ y_ : List Int, y_ = (x8_1 ++ [x9_1]) := ⟨_, rfl⟩
          replace H : (r7_Used.l0 k2 a1 t280 y290 (wrap64 (x9_1 + 1)) l0_0 a0_1 a0_2 l0_3 l0_4) = some (r1, r2) := by first | (rw [hy290]; with_reducible exact H) | (have H2_ := (Option.bind_some _ _).symm.trans H; rw [hy290]; with_reducible exact H2_) | (have H2_ := (Option.bind_some _ _).symm.trans H; with_reducible exact H2_) | with_reducible exact H | (rw [hy290]; exact H) | exact H
          have Ny290 := Aside0.mk hy290
          clear hy290
          have H' := Aside0.mk H
          clear H
          obtain ⟨Ao24, co24, eo24⟩ := Kd.N_slice HO_6.out
          subst eo24
          go_wp2_with (first | ((with_reducible refine gate_builtin (b := .append) (xs := #[.tmp 54, .tmp 56]) rfl ?_); at_builtin; refine Kd.R_append (Kd.int .i64) (w0 := w) w.heap.size rfl (.tmp 54) (.tmp 56) 39 3 (.int .i64 0) 8 rfl Try.underlying39 info3 rfl (by decide) (by omega) u8 x8_1 x9_1 [.int .i64 x9_1] (fun _ => True) (fun _ => False) rfl rfl ?aP (fun _ hk => hk.elim) ?aF ?aO ?aB ?aS ?aL ?_; (case aP => exact rfl); (case aB => exact (by repeat (first | (with_reducible first | exact HB.out | apply below_alloc | apply pw_below_drewN | apply below_drew1 | refine below_set ?_ GE278.out) | exact HB.out))); (case aF => exact (fun _ _ => trivial)); (case aO => exact (by (with_reducible repeat (first | apply Kd.R_alloc | apply Kd.R_drewN | apply Kd.R_drew)); exact HO_8.out)); (case aS => exact (below_size (by repeat (first | (with_reducible first | exact HB.out | apply below_alloc | apply pw_below_drewN | apply below_drew1 | refine below_set ?_ GE278.out) | exact HB.out)))); (case aL => have := LMc23.out; omega); intro v291 w25 ho hb hg hat; rw [← Ny290.out] at ho; have n0_ := Aside0.mk (Kd.N_afterv (ok := (fun k_ => k_ ≠ gb278)) (by (with_reducible repeat (first | apply Kd.N_alloc | apply Kd.N_drewN | apply Kd.N_drew)); exact Kd.N_mono HO_6.out (fun _ hk => ⟨hk.2, hk.1⟩)) hg hat); have n1_ := Aside0.mk (blk_grown (g := gb278) (o := .cells #[.slice A0_0 l0_0.length c0_0, .int .i64 a0_1, .int .i64 a0_2, .slice A0_3 l0_3.length c0_3, .slice A0_4 l0_4.length c0_4] 28 (0, 0)) (by (with_reducible repeat (first | refine blk_drewN ?_ _ | refine blk_drew ?_ | refine blk_alloc ?_ _)); exact BK278.out) hg (Kd.R_ne HO_8.out BK278.out (by decide))); have n2_ := Aside0.mk (hb); have n3_ := Aside0.mk (ho); clear HO_6; clear BK278; clear HB; clear HO_8; have HO_6 := n0_; have BK278 := n1_; have HB := n2_; have HO292 := n3_; clear n0_ n1_ n2_ n3_; clear ho hb hg hat))
          go_roundg k2
          case measure => have := HK1.out; have := HK2.out; omega
          case rel => exact ⟨(y290), (wrap64 (x9_1 + 1)), (by first | rfl | (simp; done) | (simp [*]; done)), H', ⟨by have := HK1.out; have := HK2.out; omega⟩, ⟨by (with_reducible repeat (first | apply Kd.N_alloc | apply Kd.N_drewN | apply Kd.N_drew)); exact Kd.N_mono HO_6.out (fun _ hk => ⟨hk.2, hk.1⟩)⟩, ⟨by (with_reducible repeat (first | apply Kd.R_alloc | apply Kd.R_drewN | apply Kd.R_drew)); exact HO292.out⟩, ⟨by (with_reducible repeat (first | refine blk_drewN ?_ _ | refine blk_drew ?_ | refine blk_alloc ?_ _)); exact BK278.out⟩, ⟨by repeat (first | (with_reducible first | exact HB.out | apply below_alloc | apply pw_below_drewN | apply below_drew1 | refine below_set ?_ GE278.out) | exact HB.out)⟩⟩
         ·
          rw [if_neg c23] at H
          exact absurd H (by simp)
        ·
         replace c22 := Bool.eq_false_iff.mpr c22
         subst c22
         have H1 : (r7_Used.l0 k2 a1 t280 x8_1 (wrap64 (x9_1 + 1)) l0_0 a0_1 a0_2 l0_3 l0_4) = some (r1, r2) := by rw [if_neg (show ¬ (false = true) by decide)] at H; exact H
         clear H
         have H := H1
         clear H1
         have H' := Aside0.mk H
         clear H
         obtain ⟨Ao26, co26, eo26⟩ := Kd.N_slice HO_6.out
         subst eo26
         go_wp2
         go_roundg k2
         case measure => have := HK1.out; have := HK2.out; omega
         case rel => exact ⟨(x8_1), (wrap64 (x9_1 + 1)), (by first | rfl | (simp; done) | (simp [*]; done)), H', ⟨by have := HK1.out; have := HK2.out; omega⟩, ⟨by (with_reducible repeat (first | apply Kd.N_alloc | apply Kd.N_drewN | apply Kd.N_drew)); exact HO_6.out⟩, ⟨by (with_reducible repeat (first | apply Kd.R_alloc | apply Kd.R_drewN | apply Kd.R_drew)); exact HO_8.out⟩, ⟨by (with_reducible repeat (first | refine blk_drewN ?_ _ | refine blk_drew ?_ | refine blk_alloc ?_ _)); exact BK278.out⟩, ⟨by repeat (first | (with_reducible first | exact HB.out | apply below_alloc | apply pw_below_drewN | apply below_drew1 | refine below_set ?_ GE278.out) | exact HB.out)⟩⟩
    ·
     rw [if_neg c10] at H
     have c10b0 : decide (x9_1 < (l0_0.length : Int)) = false := decide_eq_false c10
     clear c10
     simp only [Option.some.injEq, Prod.mk.injEq] at H
     obtain ⟨rfl, rfl⟩ := H
     have hcz27_0 := (blk_cell BK278.out 0).trans rfl
     have hcz27_1 := (blk_cell BK278.out 1).trans rfl
     have hcz27_2 := (blk_cell BK278.out 2).trans rfl
     have hcz27_3 := (blk_cell BK278.out 3).trans rfl
     have hcz27_4 := (blk_cell BK278.out 4).trans rfl
     have hfz27_0 := blk_frozen BK278.out 0
     have hfz27_1 := blk_frozen BK278.out 1
     have hfz27_2 := blk_frozen BK278.out 2
     have hfz27_3 := blk_frozen BK278.out 3
     have hfz27_4 := blk_frozen BK278.out 4
     go_wp2
     go_ret2
     exact ⟨_, by first | rfl | (simp [errW_none, errW_some] <;> rfl) | (simp [*, errW_none, errW_some] <;> rfl), by (with_reducible repeat (first | apply Kd.R_alloc | apply Kd.R_drewN | apply Kd.R_drew)); exact HO_8.out, by repeat (first | (with_reducible first | exact HB.out | apply below_alloc | apply pw_below_drewN | apply below_drew1 | refine below_set ?_ GE278.out) | exact HB.out)⟩
 ·
  rw [if_neg c5] at H
  have c5b0 : (t283 == 0) = false := beq_eq_false_iff_ne.mpr c5
  have c5b1 : (t283 != 0) = true := bne_iff_ne.mpr c5
  simp only [Option.some.injEq, Prod.mk.injEq] at H
  obtain ⟨rfl, rfl⟩ := H
  go_enter Try.func27, Try.ntmps27
  try go_wp2_with (first | ((with_reducible refine gate_dst (N := 2) rfl ?_); refine box_event ?hg (N := 2) ?hd (cs := #[.slice A0_0 l0_0.length c0_0, .int .i64 a0_1, .int .i64 a0_2, .slice A0_3 l0_3.length c0_3, .slice A0_4 l0_4.length c0_4]) (t := 28) ?hr ?_; (case hd => rfl); (case hg => rfl); (case hr => first | (go_simp; done) | (go_simp; rfl)); intro gb278 hg w28 hbox hb; have n0_ := Aside0.mk (below_step (by repeat (first | (with_reducible first | exact HB.out | apply below_alloc | apply pw_below_drewN | apply below_drew1) | exact HB.out)) hb); have n1_ := Aside0.mk (hbox); have n2_ := Aside0.mk ((by rw [hg]; exact (below_size (by repeat (first | (with_reducible first | exact HB.out | apply below_alloc | apply pw_below_drewN | apply below_drew1) | exact HB.out))) : w.heap.size ≤ gb278)); have n3_ := Aside0.mk ((by rw [hg]; exact (below_size (by repeat (first | (with_reducible first | exact HB.out | apply below_alloc | apply pw_below_drewN | apply below_drew1) | exact HB.out))) : w.heap.size ≤ gb278)); clear HB; have HB := n0_; have BK278 := n1_; have GW278 := n2_; have GE278 := n3_; clear n0_ n1_ n2_ n3_; clear hb hbox hg))
  have n0_ := Aside0.mk (blk_drew BK278.out)
  have n1_ := Aside0.mk (below_drew1 HB.out)
  clear BK278 HB
  have BK278 := n0_
  have HB := n1_
  clear n0_ n1_
  refine start_ (n := 13) (S := fun w' => w'.cell? ⟨gb278, 0, none⟩ = some (.slice A0_0 l0_0.length c0_0) ∧ w'.cell? ⟨gb278, 1, none⟩ = some (.int .i64 a0_1) ∧ w'.cell? ⟨gb278, 2, none⟩ = some (.int .i64 a0_2) ∧ w'.cell? ⟨gb278, 3, none⟩ = some (.slice A0_3 l0_3.length c0_3) ∧ w'.cell? ⟨gb278, 4, none⟩ = some (.slice A0_4 l0_4.length c0_4)) (ds := []) #[false, false, false, false, false, false, false, false, false, false, false, false, false] (by kernel_rfl) rfl rfl ⟨(blk_cell BK278.out 0).trans rfl, (blk_cell BK278.out 1).trans rfl, (blk_cell BK278.out 2).trans rfl, (blk_cell BK278.out 3).trans rfl, (blk_cell BK278.out 4).trans rfl⟩ (fun hHeld => ?_); refine with_tabW r7_Used.tab1 r7_Used.bits1 (fun HT_ HW_ => ?_)
  generalize w28.drew = w29 at BK278 HB hHeld ⊢
  refine pureQ 2 15 HT_.out ?_
  refine pureQ 3 16 HT_.out ?_
  refine takeQ 0 13 HT_.out HW_.out hHeld ?_
  refine takeQ 1 14 HT_.out HW_.out hHeld ?_
  refine takeQ 4 17 HT_.out HW_.out hHeld ?_
  refine pureQ 5 18 HT_.out ?_
  refine one_ (i := 6) (N := some 19) #[true, true, true, true, true, true, true, false, false, false, false, false, false] rfl rfl (one_of HT_.out (by kernel_rfl)) (by decide) (fun K hK => ?_)
  refine goes_ Try.func93 (by kernel_rfl) rfl #[.agg #[.slice A0_0 l0_0.length c0_0, .int .i64 a0_1, .int .i64 a0_2, .slice A0_3 l0_3.length c0_3, .slice A0_4 l0_4.length c0_4], .int .i64 a1, .int .i64 (l0_4.length : Int)] (by rfl) rfl rfl (by (try simp only [List.map_toArray, List.map_cons, List.map_nil]); first | done | rfl | (simp only [List.length_drop, List.length_take]; rfl)) ?_
  with_reducible refine (r7_index.calls k _ _ l0_0 a0_1 a0_2 _ _ l0_3 _ _ l0_4 a1 (l0_4.length : Int) t279 _ ?side1 ?side2 ?side3 ?side4 ?side5 ?side6 A3.out).mono ?_
  (case side1 => repeat (first | exact (Kd.C_below HR0_0.out HB.out) | (with_reducible refine Kd.C_alloc ?_ _) | (with_reducible refine Kd.C_drewN ?_ _) | (with_reducible refine Kd.C_drew ?_)))
  (case side2 => exact HC0_0.out)
  (case side3 => repeat (first | exact (Kd.C_below HR0_3.out HB.out) | (with_reducible refine Kd.C_alloc ?_ _) | (with_reducible refine Kd.C_drewN ?_ _) | (with_reducible refine Kd.C_drew ?_)))
  (case side4 => exact HC0_3.out)
  (case side5 => repeat (first | exact (Kd.C_below HR0_4.out HB.out) | (with_reducible refine Kd.C_alloc ?_ _) | (with_reducible refine Kd.C_drewN ?_ _) | (with_reducible refine Kd.C_drew ?_)))
  (case side6 => exact HC0_4.out)
  rintro e w30 ⟨rfl, hb⟩
  refine ⟨_, rfl, ?_⟩
  have n0_ := Aside0.mk (blk_below (g := gb278) (o := .cells #[.slice A0_0 l0_0.length c0_0, .int .i64 a0_1, .int .i64 a0_2, .slice A0_3 l0_3.length c0_3, .slice A0_4 l0_4.length c0_4] 28 (0, 0)) (by (with_reducible repeat (first | refine blk_drewN ?_ _ | refine blk_drew ?_ | refine blk_alloc ?_ _)); exact BK278.out) hb)
  have n1_ := Aside0.mk (below_step (by repeat (first | (with_reducible first | exact HB.out | apply below_alloc | apply pw_below_drewN | apply below_drew1 | refine below_set ?_ GE278.out) | exact HB.out)) hb)
  clear BK278 HB
  have BK278 := n0_
  have HB := n1_
  clear n0_ n1_
  (try clear hb)
  (try clear hb2)
  (try clear hk)
  (try clear hi)
  refine hK.out _ _ ⟨(blk_cell BK278.out 0).trans rfl, (blk_cell BK278.out 1).trans rfl, (blk_cell BK278.out 2).trans rfl, (blk_cell BK278.out 3).trans rfl, (blk_cell BK278.out 4).trans rfl⟩ (fun hHeld => ?_)
  clear hK K
  refine norm_ (a' := ?_) ?_ ?_
  rotate_left
  ·
   show Act.put _ (some 19) _ = _
   simp only [Act.put, List.setIfInBounds_toArray, List.set_cons_zero, List.set_cons_succ, i64_w, i32_w]
   rfl
  refine one_ (i := 7) (N := some 20) #[true, true, true, true, true, true, true, true, false, false, false, false, false] rfl rfl (one_of HT_.out (by kernel_rfl)) (by decide) (fun K hK => ?_)
  refine goes_ Try.func92 (by kernel_rfl) rfl #[.agg #[.slice A0_0 l0_0.length c0_0, .int .i64 a0_1, .int .i64 a0_2, .slice A0_3 l0_3.length c0_3, .slice A0_4 l0_4.length c0_4], .int .i64 t279] (by rfl) rfl rfl (by (try simp only [List.map_toArray, List.map_cons, List.map_nil]); first | done | rfl | (simp only [List.length_drop, List.length_take]; rfl)) ?_
  with_reducible refine (r7_known.calls k _ _ l0_0 a0_1 a0_2 _ _ l0_3 _ _ l0_4 t279 t280 t283 _ ?side1 ?side2 ?side3 ?side4 ?side5 ?side6 A4.out).mono ?_
  (case side1 => repeat (first | exact (Kd.C_below HR0_0.out HB.out) | (with_reducible refine Kd.C_alloc ?_ _) | (with_reducible refine Kd.C_drewN ?_ _) | (with_reducible refine Kd.C_drew ?_)))
  (case side2 => exact HC0_0.out)
  (case side3 => repeat (first | exact (Kd.C_below HR0_3.out HB.out) | (with_reducible refine Kd.C_alloc ?_ _) | (with_reducible refine Kd.C_drewN ?_ _) | (with_reducible refine Kd.C_drew ?_)))
  (case side4 => exact HC0_3.out)
  (case side5 => repeat (first | exact (Kd.C_below HR0_4.out HB.out) | (with_reducible refine Kd.C_alloc ?_ _) | (with_reducible refine Kd.C_drewN ?_ _) | (with_reducible refine Kd.C_drew ?_)))
  (case side6 => exact HC0_4.out)
  rintro e w31 ⟨v281, rfl, ho0, hb⟩
  refine ⟨_, rfl, ?_⟩
  have n0_ := Aside0.mk (Kd.N_lower (Kd.N_mono (ok' := fun k_ => k_ ≠ gb278) ho0 (fun k_ hk_ => (Kd.freshB (g := gb278) (o := .cells #[.slice A0_0 l0_0.length c0_0, .int .i64 a0_1, .int .i64 a0_2, .slice A0_3 l0_3.length c0_3, .slice A0_4 l0_4.length c0_4] 28 (0, 0)) (by (with_reducible repeat (first | refine blk_drewN ?_ _ | refine blk_drew ?_ | refine blk_alloc ?_ _)); exact BK278.out) k_ hk_))) (below_size (by repeat (first | (with_reducible first | exact HB.out | apply below_alloc | apply pw_below_drewN | apply below_drew1 | refine below_set ?_ GE278.out) | exact HB.out))))
  have n1_ := Aside0.mk (blk_below (g := gb278) (o := .cells #[.slice A0_0 l0_0.length c0_0, .int .i64 a0_1, .int .i64 a0_2, .slice A0_3 l0_3.length c0_3, .slice A0_4 l0_4.length c0_4] 28 (0, 0)) (by (with_reducible repeat (first | refine blk_drewN ?_ _ | refine blk_drew ?_ | refine blk_alloc ?_ _)); exact BK278.out) hb)
  have n2_ := Aside0.mk (below_step (by repeat (first | (with_reducible first | exact HB.out | apply below_alloc | apply pw_below_drewN | apply below_drew1 | refine below_set ?_ GE278.out) | exact HB.out)) hb)
  clear BK278 HB
  have HO282 := n0_
  have BK278 := n1_
  have HB := n2_
  clear n0_ n1_ n2_
  (try clear hb)
  (try clear hb2)
  (try clear hk)
  (try clear hi)
  (try clear ho0)
  refine hK.out _ _ ⟨(blk_cell BK278.out 0).trans rfl, (blk_cell BK278.out 1).trans rfl, (blk_cell BK278.out 2).trans rfl, (blk_cell BK278.out 3).trans rfl, (blk_cell BK278.out 4).trans rfl⟩ (fun hHeld => ?_)
  clear hK K
  refine norm_ (a' := ?_) ?_ ?_
  rotate_left
  ·
   show Act.put _ (some 20) _ = _
   simp only [Act.put, List.setIfInBounds_toArray, List.set_cons_zero, List.set_cons_succ, i64_w, i32_w]
   rfl
  refine pureQ 8 12 HT_.out ?_
  refine pureQ 9 21 HT_.out ?_
  refine pureQ 10 22 HT_.out ?_
  refine pureQ 11 6 HT_.out ?_
  refine pureQ 12 7 HT_.out ?_
  refine done_ (done_of HT_.out (by kernel_rfl)) ?_
  try go_wp2
  go_ret2
  exact ⟨_, by first | rfl | (simp [errW_none, errW_some] <;> rfl) | (simp [*, errW_none, errW_some] <;> rfl), by first | exact Kd.R_nil _ _ _ _ _ | exact Kd.N_nil _ _ _ _ _ | exact Kd.V_nil _ _ _ _ _ | exact Kd.Q_nil _ _ _ _ _ | exact Kd.S_nil _ _ _ _ _, by repeat (first | (with_reducible first | exact HB.out | apply below_alloc | apply pw_below_drewN | apply below_drew1 | refine below_set ?_ GE278.out) | exact HB.out)⟩

end Go.Proofs.Ytgoidclnccjdeaa.PR
end
section
/- Package glass: a shelf that came in as_ an argument, opened. -/
namespace Go.Proofs.Ytgoidclnccjdeaa.D
open Go Go.RowKit Go.ChangeShapes Go.WideShapes Go.Deep Go.Proofs.YtgoidclnccjdeaaK Go.Proofs.YtgoidclnccjdeaaW.PrintWords Go.Proofs.YtgoidclnccjdeaaW.PrintLast Go.Proofs.YtgoidclnccjdeaaW.PrintMore Go.Proofs.Ytgoidclnccjdeaa.PR
set_option linter.unusedVariables false
set_option linter.unusedSimpArgs false
set_option linter.unusedSectionVars false

section
variable {H : Type} {enc : TypeId × Value → H} {P : Program} {w : World} {base : Nat} {spare : Nat → Bool} {held : Bool}
theorem open_two {t : TypeId} {F : Array Field} {fuel : Nat} {cs : List Value} {x : DataW H × List MemPlace} (ht : P.underlying t = some (.struct F))
  (h0 : ∃ f, F[0]? = some f ∧ f.offset = 0 ∧ P.underlying f.type = some (.int .i64) ∧ P.cellsOf f.type = 1)
  (h1 : ∃ f, F[1]? = some f ∧ f.offset = 1 ∧ P.underlying f.type = some (.int .i64) ∧ P.cellsOf f.type = 1)
  (hc : P.cellsOf t = 2) (h : DataW.trod enc P w base spare held fuel t cs = some x) :
  ∃ a b, cs = [.int .i64 a, .int .i64 b] ∧ (Lit.int .i64 a).wf = true ∧ (Lit.int .i64 b).wf = true := by
 obtain ⟨xs, n, rfl, hx, hl, hlen, hf⟩ := DataW.trod_struct ht h
 rw [hc] at hl
 match cs, hl with
 | [v0, v1], _ =>
  obtain ⟨g0, e0, o0, u0, c0⟩ := h0
  obtain ⟨g1, e1, o1, u1, c1⟩ := h1
  have k0 := hf 0 g0 e0
  have k1 := hf 1 g1 e1
  have l0 : 0 < F.size := (Array.getElem?_eq_some_iff.1 e0).1
  have l1 : 1 < F.size := (Array.getElem?_eq_some_iff.1 e1).1
  rw [o0, c0, List.getElem?_eq_getElem (by omega)] at k0
  rw [o1, c1, List.getElem?_eq_getElem (by omega)] at k1
  obtain ⟨a, ha, _, wa⟩ := DataW.trod_int u0 k0
  obtain ⟨b, hb, _, wb⟩ := DataW.trod_int u1 k1
  simp only [List.drop_zero, List.take_succ_cons, List.take_zero, List.drop_succ_cons] at ha hb
  cases ha; cases hb
  exact ⟨a, b, rfl, wa, wb⟩
theorem open_ints3 {t : TypeId} {F : Array Field} {fuel : Nat} {cs : List Value} {x : DataW H × List MemPlace} (ht : P.underlying t = some (.struct F))
  (h0 : ∃ f, F[0]? = some f ∧ f.offset = 0 ∧ P.underlying f.type = some (.int .i64) ∧ P.cellsOf f.type = 1)
  (h1 : ∃ f, F[1]? = some f ∧ f.offset = 1 ∧ P.underlying f.type = some (.int .i64) ∧ P.cellsOf f.type = 1)
  (h2 : ∃ f, F[2]? = some f ∧ f.offset = 2 ∧ P.underlying f.type = some (.int .i64) ∧ P.cellsOf f.type = 1)
  (hc : P.cellsOf t = 3) (h : DataW.trod enc P w base spare held fuel t cs = some x) :
  ∃ a b c, cs = [.int .i64 a, .int .i64 b, .int .i64 c] ∧ (Lit.int .i64 a).wf = true ∧ (Lit.int .i64 b).wf = true ∧ (Lit.int .i64 c).wf = true := by
 obtain ⟨xs, n, rfl, hx, hl, hlen, hf⟩ := DataW.trod_struct ht h
 rw [hc] at hl
 match cs, hl with
 | [v0, v1, v2], _ =>
  obtain ⟨g0, e0, o0, u0, c0⟩ := h0
  obtain ⟨g1, e1, o1, u1, c1⟩ := h1
  obtain ⟨g2, e2, o2, u2, c2⟩ := h2
  have k0 := hf 0 g0 e0
  have k1 := hf 1 g1 e1
  have k2 := hf 2 g2 e2
  have l0 : 0 < F.size := (Array.getElem?_eq_some_iff.1 e0).1
  have l1 : 1 < F.size := (Array.getElem?_eq_some_iff.1 e1).1
  have l2 : 2 < F.size := (Array.getElem?_eq_some_iff.1 e2).1
  rw [o0, c0, List.getElem?_eq_getElem (by omega)] at k0
  rw [o1, c1, List.getElem?_eq_getElem (by omega)] at k1
  rw [o2, c2, List.getElem?_eq_getElem (by omega)] at k2
  obtain ⟨a, ha, _, wa⟩ := DataW.trod_int u0 k0
  obtain ⟨b, hb, _, wb⟩ := DataW.trod_int u1 k1
  obtain ⟨c, hc, _, wc⟩ := DataW.trod_int u2 k2
  simp only [List.drop_zero, List.take_succ_cons, List.take_zero, List.drop_succ_cons] at ha hb hc
  cases ha; cases hb; cases hc
  exact ⟨a, b, c, rfl, wa, wb, wc⟩
theorem open_named {t e : TypeId} {F G : Array Field} {fuel : Nat} {cs : List Value} {x : DataW H × List MemPlace} (ht : P.underlying t = some (.struct F)) (he : P.underlying e = some (.struct G))
  (h0 : ∃ f, F[0]? = some f ∧ f.offset = 0 ∧ P.underlying f.type = some .string ∧ P.cellsOf f.type = 1)
  (h1 : ∃ f, F[1]? = some f ∧ f.offset = 1 ∧ f.type = e)
  (i0 : ∃ f, G[0]? = some f ∧ f.offset = 0 ∧ P.underlying f.type = some (.int .i64) ∧ P.cellsOf f.type = 1)
  (i1 : ∃ f, G[1]? = some f ∧ f.offset = 1 ∧ P.underlying f.type = some (.int .i64) ∧ P.cellsOf f.type = 1)
  (hc : P.cellsOf t = 3) (hce : P.cellsOf e = 2) (h : DataW.trod enc P w base spare held fuel t cs = some x) :
  ∃ s a b, cs = [.string s, .int .i64 a, .int .i64 b] ∧ s.size ≤ 9223372036854775807 ∧ (Lit.int .i64 a).wf = true ∧ (Lit.int .i64 b).wf = true := by
 obtain ⟨xs, n, rfl, hx, hl, hlen, hf⟩ := DataW.trod_struct ht h
 rw [hc] at hl
 match cs, hl with
 | [v0, v1, v2], _ =>
  obtain ⟨g0, e0, o0, u0, c0⟩ := h0
  obtain ⟨g1, e1, o1, rfl⟩ := h1
  have k0 := hf 0 g0 e0
  have k1 := hf 1 g1 e1
  have l0 : 0 < F.size := (Array.getElem?_eq_some_iff.1 e0).1
  have l1 : 1 < F.size := (Array.getElem?_eq_some_iff.1 e1).1
  rw [o0, c0, List.getElem?_eq_getElem (by omega)] at k0
  rw [o1, hce, List.getElem?_eq_getElem (by omega)] at k1
  obtain ⟨s, hs, _, ws⟩ := DataW.trod_string u0 k0
  obtain ⟨a, b, hab, wa, wb⟩ := open_two he i0 i1 hce k1
  simp only [List.drop_zero, List.take_succ_cons, List.take_zero, List.drop_succ_cons] at hs hab
  cases hs; cases hab
  exact ⟨s, a, b, rfl, ws, wa, wb⟩
theorem open_rowG {α : Type} (z : α) {m : Nat} {K : World → α → List Value → Prop} {Wf : α → Prop} {t e : TypeId} {fuel : Nat} {cs : List Value} {x : DataW H × List MemPlace}
  (ht : P.underlying t = some (.slice e)) (hc : P.cellsOf e = m) (hopen : ∀ {fuel : Nat} {cs : List Value} {x : DataW H × List MemPlace}, DataW.trod enc P w base spare held fuel e cs = some x → ∃ p, K w p cs ∧ Wf p)
  (h : DataW.trod enc P w base spare held fuel t cs = some x) :
  ∃ (A : Option Addr) (cap : Nat) (l : List α), cs = [.slice A l.length cap] ∧ l.length ≤ cap ∧ ReadsRow (K w) m w A l.length l ∧ ∀ p ∈ l, Wf p := by
 rcases open_slice ht h with ⟨rfl, rfl⟩ | ⟨a, len, cap, mm, n, D, Pl, rfl, hb, hl, hm, hmm, hx, hi⟩
 ·
  exact ⟨none, 0, [], rfl, Nat.le_refl _, ⟨rfl, Nat.zero_le _, fun h => absurd h (Nat.lt_irrefl 0)⟩, fun p hp => by simp at hp⟩
 ·
  have hml : len ≤ mm := by rw [hmm]; split <;> omega
  have hh : ∀ i, ∃ p : α, i < len → (∃ c, c.length = m ∧ K w p c ∧ ∀ j u, c[j]? = some u → w.cell? (a.add (i * m + j)) = some u) ∧ Wf p := by
   intro i
   by_cases hil : i < len
   ·
    obtain ⟨cs', hcc, htt⟩ := hi i (by omega)
    rw [hc] at hcc
    obtain ⟨_, hcl, hat⟩ := World.cells?_some hcc
    obtain ⟨p, hp, hw⟩ := hopen htt
    refine ⟨p, fun _ => ⟨⟨cs', hcl, hp, fun j u hu => ?_⟩, hw⟩⟩
    have hj : j < m := by rw [← hcl]; exact (List.getElem?_eq_some_iff.1 hu).1
    have := hat j hj
    rw [hu] at this
    rw [← this, Go.Deep.add_add]
   ·
    exact ⟨z, fun h => absurd h hil⟩
  let pick : Nat → α := fun i => (hh i).choose
  have hpick : ∀ i, i < len → (∃ c, c.length = m ∧ K w (pick i) c ∧ ∀ j u, c[j]? = some u → w.cell? (a.add (i * m + j)) = some u) ∧ Wf (pick i) := fun i => (hh i).choose_spec
  have hlen : ((List.range len).map pick).length = len := by simp
  refine ⟨some a, cap, (List.range len).map pick, by rw [hlen], by rw [hlen]; exact hl, ⟨rfl, by rw [hlen]; unfold maxLen at hm; omega, fun _ => ⟨a, rfl, fun j p hp => ?_⟩⟩, fun p hp => ?_⟩
  ·
   have hj : j < len := by have := (List.getElem?_eq_some_iff.1 hp).1; simpa using this
   have : p = pick j := by
    have h := (List.getElem?_eq_some_iff.1 hp).2
    rw [← h]; simp
   subst this
   obtain ⟨c, h1, h2, h3⟩ := (hpick j hj).1
   exact ⟨c, h1, h2, h3⟩
  ·
   obtain ⟨i, hi, rfl⟩ := List.mem_map.1 hp
   exact (hpick i (List.mem_range.1 hi)).2
end

def wf (x : Int) : Prop := (Lit.int .i64 x).wf = true
structure Dat.Wf (D : Dat) : Prop where
 lo : wf D.lo
 hi : wf D.hi
 gl : ∀ p ∈ D.gl, p.f0.size ≤ 9223372036854775807 ∧ wf p.f1.f0 ∧ wf p.f1.f1
 sp : ∀ p ∈ D.sp, wf p.f0 ∧ wf p.f1
 dr : ∀ p ∈ D.dr, wf p.f0 ∧ wf p.f1 ∧ wf p.f2

section
variable {H : Type} {enc : TypeId × Value → H} {w : World} {base : Nat} {spare : Nat → Bool} {held : Bool}
set_option maxRecDepth 100000 in
theorem open_shelf {r : Reach} {b0 : Nat} {v : Value} {d : DataW H} {p : List MemPlace} (hv : Value.okWide Try.prog w r b0 28 v) (h : DataW.Trod enc Try.prog w base spare held 28 v d p) :
  ∃ (D : Dat) (A0 : Option Addr) (c0 : Nat) (A3 : Option Addr) (c3 : Nat) (A4 : Option Addr) (c4 : Nat), v = .agg (D.cells A0 c0 A3 c3 A4 c4) ∧ Arg w D A0 c0 A3 c3 A4 c4 ∧ D.Wf := by
 have hC : Try.prog.cellsOf 28 = 5 := by kernel_rfl
 have hS : Try.prog.cellsOf 24 = 2 := by kernel_rfl
 have hI : Try.prog.cellsOf 3 = 1 := by kernel_rfl
 have hN : Try.prog.cellsOf 9 = 1 := by kernel_rfl
 have h0 : Try.prog.cellsOf 22 = 1 := by kernel_rfl
 have h3 : Try.prog.cellsOf 25 = 1 := by kernel_rfl
 have h4 : Try.prog.cellsOf 26 = 1 := by kernel_rfl
 have hs0 : Try.prog.cellsOf 95 = 3 := by kernel_rfl
 have hs4 : Try.prog.cellsOf 72 = 3 := by kernel_rfl
 have e28 := Try.underlying28
 have e24 := Try.underlying24
 have e3 := Try.underlying3
 have e9 := Try.underlying9
 have e22 := Try.underlying22
 have e25 := Try.underlying25
 have e26 := Try.underlying26
 have e95 := Try.underlying95
 have e72 := Try.underlying72
 generalize Try.prog = P at hv h hC hS hI hN h0 h3 h4 hs0 hs4 e28 e24 e3 e9 e22 e25 e26 e95 e72 ⊢
 obtain ⟨cs, rfl, hsz⟩ := okWide_struct e28 hv
 obtain ⟨l⟩ := cs
 rw [hC] at hsz
 match l, hsz with
 | [c0, c1, c2, c3, c4], _ =>
  obtain ⟨fuel, hf⟩ := h
  obtain ⟨xs, n, _, hx, _, hlen, hg⟩ := DataW.trod_struct e28 hf
  have g0 := hg 0 _ rfl
  have g1 := hg 1 _ rfl
  have g2 := hg 2 _ rfl
  have g3 := hg 3 _ rfl
  have hl4 : xs.length = 4 := hlen
  rw [List.getElem?_eq_getElem (by omega)] at g0 g1 g2 g3
  simp only [Value.cells, List.getElem_toArray, List.getElem_cons_zero, List.getElem_cons_succ, hS, h0, h3, h4, List.drop_zero, List.drop_succ_cons, List.take_succ_cons, List.take_zero] at g0 g1 g2 g3
  obtain ⟨lo, hi, hlh, wlo, whi⟩ := open_two e24 ⟨_, rfl, rfl, e3, hI⟩ ⟨_, rfl, rfl, e3, hI⟩ hS g1
  obtain ⟨A0, k0, l0, hA0, hk0, hR0, w0⟩ := open_rowG (K := k95.K) (Wf := fun p : S95 => p.f0.size ≤ 9223372036854775807 ∧ wf p.f1.f0 ∧ wf p.f1.f1) z95 e22 hs0 (fun hh => by
   obtain ⟨s, a, b, rfl, ws, wa, wb⟩ := open_named e95 e24 ⟨_, rfl, rfl, e9, hN⟩ ⟨_, rfl, rfl, rfl⟩ ⟨_, rfl, rfl, e3, hI⟩ ⟨_, rfl, rfl, e3, hI⟩ hs0 hS hh
   exact ⟨⟨s, ⟨a, b⟩⟩, k95_mk w _, ws, wa, wb⟩) g0
  obtain ⟨A3, k3, l3, hA3, hk3, hR3, w3⟩ := open_rowG (K := k24.K) (Wf := fun p : S24 => wf p.f0 ∧ wf p.f1) z24 e25 hS (fun hh => by
   obtain ⟨a, b, rfl, wa, wb⟩ := open_two e24 ⟨_, rfl, rfl, e3, hI⟩ ⟨_, rfl, rfl, e3, hI⟩ hS hh
   exact ⟨⟨a, b⟩, k24_mk w _, wa, wb⟩) g2
  obtain ⟨A4, k4, l4, hA4, hk4, hR4, w4⟩ := open_rowG (K := k72.K) (Wf := fun p : S72 => wf p.f0 ∧ wf p.f1 ∧ wf p.f2) z72 e26 hs4 (fun hh => by
   obtain ⟨a, b, c, rfl, wa, wb, wc⟩ := open_ints3 e72 ⟨_, rfl, rfl, e3, hI⟩ ⟨_, rfl, rfl, e3, hI⟩ ⟨_, rfl, rfl, e3, hI⟩ hs4 hh
   exact ⟨⟨a, b, c⟩, k72_mk w _, wa, wb, wc⟩) g3
  cases hlh; cases hA0; cases hA3; cases hA4
  exact ⟨⟨l0, lo, hi, l3, l4⟩, A0, k0, A3, k3, A4, k4, rfl, ⟨hR0, hk0, fun x hx => (w0 x hx).1, hR3, hk3, hR4, hk4⟩, ⟨wlo, whi, w0, w3, w4⟩⟩
end
end Go.Proofs.Ytgoidclnccjdeaa.D
end
section
/- Package glass: what the reference's Check answers is what the program's does. -/
namespace Go.Proofs.Ytgoidclnccjdeaa.D
open Go Go.RowKit Go.Proofs.YtgoidclnccjdeaaK Go.Proofs.YtgoidclnccjdeaaW.PrintWords Go.Proofs.YtgoidclnccjdeaaW.PrintLast Go.Proofs.YtgoidclnccjdeaaW.PrintMore Go.Proofs.Ytgoidclnccjdeaa.PR
set_option linter.unusedVariables false
set_option linter.unusedSimpArgs false

theorem rIn (a lo hi : Int) : r1_In.f a lo hi = some (decide (lo ≤ a ∧ a ≤ hi)) := by
 unfold r1_In.f; split <;> simp [*]
theorem rletter (b : Int) : r1_letter.f b = some (decide (97 ≤ b ∧ b ≤ 122)) := by
 unfold r1_letter.f; split <;> simp <;> omega
theorem rdigit (b : Int) : r1_digit.f b = some (decide (48 ≤ b ∧ b ≤ 57)) := by
 unfold r1_digit.f; split <;> simp <;> omega
theorem wrapN {n : Nat} (h : n < 9223372036854775807) : wrap64 ((n : Int) + 1) = ((n + 1 : Nat) : Int) := by
 unfold wrap64; omega

theorem rName_l0 (s : ByteArray) (hs : s.size ≤ 9223372036854775807) : ∀ (d i : Nat), i + d = s.size → 1 ≤ i → okTo s i = true → Ev (fun k => r1_Name.l0 k s (i : Int)) (okTo s s.size)
 | 0, i, hd, _, h => by
  obtain rfl : i = s.size := by omega
  rw [h]
  exact Ev.step (f := fun _ => some true) (fun k => by simp only [r1_Name.l0]; rw [if_neg (by omega)]) (Ev.now _)
 | d + 1, i, hd, hi, h => by
  by_cases hb : okByte (i == 0) (bt s (i : Int)) = true
  ·
   have h1 : okTo s (i + 1) = true := by rw [okTo_succ, h, hb]; rfl
   have ih := rName_l0 s hs d (i + 1) (by omega) (by omega) h1
   refine Ev.step (f := fun k => r1_Name.l0 k s ((i + 1 : Nat) : Int)) (fun k => ?_) ih
   have hb' := (okByte_iff i _).1 hb
   simp only [r1_Name.l0, rletter, rdigit, Option.bind_some, decide_eq_true_eq]
   rw [if_pos (by omega), if_pos (by omega), wrapN (by omega)]
   split
   ·
    rfl
   ·
    split
    ·
     rfl
    ·
     rw [if_pos (by omega)]
  ·
   have hf : okByte (i == 0) (bt s (i : Int)) = false := by simpa using hb
   have h1 : okTo s (i + 1) = false := by rw [okTo_succ, hf]; simp
   rw [okTo_le s (by omega) h1]
   refine Ev.step (f := fun _ => some false) (fun k => ?_) (Ev.now _)
   have hb' : ¬ ((97 ≤ bt s (i : Int) ∧ bt s (i : Int) ≤ 122) ∨ (0 < i ∧ (bt s (i : Int) = 46 ∨ (48 ≤ bt s (i : Int) ∧ bt s (i : Int) ≤ 57)))) := fun x => hb ((okByte_iff i _).2 x)
   simp only [r1_Name.l0, rletter, rdigit, Option.bind_some, decide_eq_true_eq]
   rw [if_pos (by omega), if_pos (by omega), if_neg (by omega), if_neg (by omega), if_neg (by omega)]

theorem outB_one (lo hi a : Int) : outB lo hi [a] = true ↔ ¬ (lo ≤ a ∧ a ≤ hi) := by
 unfold outB; simp; omega
theorem outB_two (lo hi a b : Int) : outB lo hi [a, b] = true ↔ ¬ ((lo ≤ a ∧ a ≤ hi) ∧ (lo ≤ b ∧ b ≤ hi)) := by
 unfold outB; simp; omega

theorem rName (s : ByteArray) (hs : s.size ≤ 9223372036854775807) : Ev (fun k => r1_Name.f k s) (nameB s) := by
 unfold r1_Name.f
 simp only [rIn, rletter, Option.bind_some, decide_eq_true_eq]
 by_cases h : 1 ≤ (s.size : Int) ∧ (s.size : Int) ≤ 16
 ·
  have e : nameB s = okTo s s.size := by
   have : outB 1 16 [(s.size : Int)] = false := by rw [Bool.eq_false_iff]; exact fun x => (outB_one _ _ _).1 x h
   unfold nameB; rw [this]; rfl
  rw [e]
  refine Ev.congr (f := fun k => r1_Name.j0 k s (!decide (97 ≤ bt s 0 ∧ bt s 0 ≤ 122))) (fun k => by rw [if_pos h, if_pos (by omega)]) ?_
  by_cases hb : 97 ≤ bt s 0 ∧ bt s 0 ≤ 122
  ·
   have h1 : okTo s 1 = true := by
    have := (okByte_iff 0 (bt s ((0 : Nat) : Int))).2 (.inl hb)
    simp only [okTo, List.range_succ, List.range_zero, List.nil_append, List.all_cons, List.all_nil, Bool.and_true]
    exact this
   refine Ev.step (f := fun k => r1_Name.l0 k s ((1 : Nat) : Int)) (fun k => ?_) (rName_l0 s hs (s.size - 1) 1 (by omega) (by omega) h1)
   simp only [r1_Name.j0, decide_eq_true hb]
   rfl
  ·
   have h1 : okTo s 1 = false := by
    have := okByte_not 0 (bt s ((0 : Nat) : Int)) (fun x => by rcases x with x | x; exact hb x; omega)
    simp only [okTo, List.range_succ, List.range_zero, List.nil_append, List.all_cons, List.all_nil, Bool.and_true]
    exact this
   rw [okTo_le s (by omega) h1]
   refine Ev.step (f := fun _ => some false) (fun k => ?_) (Ev.now _)
   simp only [r1_Name.j0, decide_eq_false hb]
   rfl
 ·
  have e : nameB s = false := by
   have : outB 1 16 [(s.size : Int)] = true := (outB_one _ _ _).2 h
   unfold nameB; rw [this]; rfl
  rw [e]
  refine Ev.step (f := fun _ => some false) (fun k => ?_) (Ev.now _)
  rw [if_neg h]
  simp only [r1_Name.j0, if_true]

theorem rEnds (lo hi a b : Int) : Ev (fun k => r1_Ends.f k lo hi a b) (if outB a b [lo, hi] = true then 7 else if hi < lo then 2 else 0) := by
 unfold r1_Ends.f
 simp only [rIn, Option.bind_some, decide_eq_true_eq]
 refine Ev.step (f := fun _ => some (if outB a b [lo, hi] = true then 7 else if hi < lo then 2 else 0)) (fun k => ?_) (Ev.now _)
 simp only [outB_two, r1_Ends.j0]
 by_cases h1 : a ≤ lo ∧ lo ≤ b <;> by_cases h2 : a ≤ hi ∧ hi ≤ b <;> simp [h1, h2] <;> split <;> simp_all <;> omega

theorem rends (lo hi a b : Int) (ha : 0 ≤ a) (hb : b ≤ 1000) : Ev (fun k => r7_ends.f k lo hi a b) (endsE lo hi a b) := by
 unfold r7_ends.f
 refine Ev.bind (rEnds lo hi a b) ?_
 unfold endsE
 by_cases h1 : outB a b [lo, hi] = true
 ·
  simp only [h1, if_true]; rw [if_neg (by decide)]; exact Ev.now _
 ·
  have h2 : (a ≤ lo ∧ lo ≤ b) ∧ (a ≤ hi ∧ hi ≤ b) := by
   by_cases h : (a ≤ lo ∧ lo ≤ b) ∧ (a ≤ hi ∧ hi ≤ b)
   ·
    exact h
   ·
    exact absurd ((outB_two a b lo hi).2 h) h1
  have e : wrap64 (hi - lo) = hi - lo := by unfold wrap64; omega
  have ho := outB_one 0 2 (hi - lo)
  simp only [h1, if_false, e]
  by_cases h3 : hi < lo
  ·
   have : outB 0 2 [hi - lo] = true := ho.2 (by omega)
   simp only [h3, if_true, this]; rw [if_neg (by decide)]; exact Ev.now _
  ·
   simp only [h3, if_false, if_true]
   by_cases h4 : hi - lo > 2
   ·
    have : outB 0 2 [hi - lo] = true := ho.2 (by omega)
    simp only [h4, if_true, this]; exact Ev.now _
   ·
    have : outB 0 2 [hi - lo] = false := by rw [Bool.eq_false_iff]; exact fun x => ho.1 x ⟨by omega, by omega⟩
    simp only [h4, if_false, this]; exact Ev.now _

theorem rWhere0 (names : List ByteArray) (s : ByteArray) (hn : names.length ≤ 1000) : ∀ (d i : Nat), i + d = names.length → Ev (fun k => r1_Where.l0 k names s (i : Int)) (idxFrom (fun x => x.toList == s.toList) (names.drop i) i)
 | 0, i, hd => by
  rw [List.drop_eq_nil_of_le (by omega)]
  exact Ev.step (f := fun _ => some (-1)) (fun k => by simp only [r1_Where.l0]; rw [if_neg (by omega)]) (Ev.now _)
 | d + 1, i, hd => by
  have hi : i < names.length := by omega
  have e : rdOf ByteArray.empty names (i : Int) = names[i] := by simp [rdOf, hi]
  rw [List.drop_eq_getElem_cons hi]
  by_cases h : names[i].toList = s.toList
  ·
   refine Ev.step (f := fun _ => some (i : Int)) (fun k => ?_) (by simp only [idxFrom, h, beq_self_eq_true, if_true]; exact Ev.now _)
   simp only [r1_Where.l0, e]
   rw [if_pos (by omega), if_pos (by omega), if_pos h]
  ·
   refine Ev.step (f := fun k => r1_Where.l0 k names s ((i + 1 : Nat) : Int)) (fun k => ?_) ?_
   ·
    simp only [r1_Where.l0, e]
    rw [if_pos (by omega), if_pos (by omega), if_neg h, wrapN (by omega)]
   ·
    have hf : (names[i].toList == s.toList) = false := by simpa using h
    simp only [idxFrom, hf, Bool.false_eq_true, if_false]
    exact rWhere0 names s hn d (i + 1) (by omega)
theorem rWhere (names : List ByteArray) (s : ByteArray) (hn : names.length ≤ 1000) : Ev (fun k => r1_Where.f k names s) (idxFrom (fun x => x.toList == s.toList) names 0) := by
 have := rWhere0 names s hn names.length 0 (by omega)
 simpa [r1_Where.f] using this
theorem rFresh (s : ByteArray) (names : List ByteArray) (hs : s.size ≤ 9223372036854775807) (hn : names.length ≤ 1000) :
  Ev (fun k => r1_Fresh.f k s names) (if nameB s = false then 6 else if names.any (fun x => x.toList == s.toList) then 5 else 0) := by
 unfold r1_Fresh.f
 refine Ev.bind (rName s hs) ?_
 cases h : nameB s
 ·
  simp only [Bool.false_eq_true, if_false, if_true]; exact Ev.now _
 ·
  simp only [if_true, Bool.true_eq_false, if_false]
  refine Ev.bind (rWhere names s hn) ?_
  have hp := idxFrom_pos (fun x : ByteArray => x.toList == s.toList) names 0
  rw [← hp]
  by_cases h0 : 0 ≤ idxFrom (fun x : ByteArray => x.toList == s.toList) names 0
  ·
   rw [if_pos h0, decide_eq_true h0, if_pos rfl]; exact Ev.now _
  ·
   rw [if_neg h0, decide_eq_false h0, if_neg (by decide)]; exact Ev.now _

theorem rall0 (m : Nat) (hm : m ≤ 62) : ∀ (d i : Nat), i + d = m → Ev (fun k => r7_all.l0 k (m : Int) (((2 ^ i : Nat) : Int) - 1) (i : Int)) (((2 ^ m : Nat) : Int) - 1)
 | 0, i, hd => by
  obtain rfl : i = m := by omega
  exact Ev.step (f := fun _ => some _) (fun k => by simp only [r7_all.l0]; rw [if_neg (by omega)]) (Ev.now _)
 | d + 1, i, hd => by
  refine Ev.step (f := fun k => r7_all.l0 k (m : Int) (((2 ^ (i + 1) : Nat) : Int) - 1) ((i + 1 : Nat) : Int)) (fun k => ?_) (rall0 m hm d (i + 1) (by omega))
  have h2 : 2 ^ (i + 1) ≤ 2 ^ 62 := Nat.pow_le_pow_right (by decide) (by omega)
  have h3 : 2 ^ (i + 1) = 2 * 2 ^ i := by rw [Nat.pow_succ]; omega
  have h4 : (2 : Nat) ^ 62 = 4611686018427387904 := by decide
  have e1 : wrap64 (2 * (((2 ^ i : Nat) : Int) - 1)) = 2 * (((2 ^ i : Nat) : Int) - 1) := by
   generalize 2 ^ i = x at *; rw [h4] at h2; unfold wrap64; omega
  have e2 : wrap64 (2 * (((2 ^ i : Nat) : Int) - 1) + 1) = ((2 ^ (i + 1) : Nat) : Int) - 1 := by
   rw [h3] at h2 ⊢
   generalize 2 ^ i = x at *; rw [h4] at h2; unfold wrap64; omega
  simp only [r7_all.l0]
  rw [if_pos (by omega), e1, e2, wrapN (by omega)]
theorem rall (m : Nat) (hm : m ≤ 62) : Ev (fun k => r7_all.f k (m : Int)) (((2 ^ m : Nat) : Int) - 1) := rall0 m hm m 0 (by omega)
theorem rdrawing (D : Dat) (d : Dr) (hg : D.gl.length ≤ 9223372036854775807) (hs : D.sp.length ≤ 62) (i : Nat) :
  Ev (fun k => r7_drawing.f k D.gl D.lo D.hi D.sp D.dr d.f0 d.f1 d.f2) (errD D.gl.length D.sp.length i d) := by
 unfold r7_drawing.f errD
 have e : wrap64 ((D.gl.length : Int) - 1) = (D.gl.length : Int) - 1 := by unfold wrap64; omega
 simp only [rIn, e, Option.bind_some, decide_eq_true_eq]
 have o1 := outB_one (-1) ((D.gl.length : Int) - 1) d.f0
 have o2 := outB_one 0 9 d.f1
 have o3 := outB_one 0 (((2 ^ D.sp.length : Nat) : Int) - 1) d.f2
 by_cases h1 : -1 ≤ d.f0 ∧ d.f0 ≤ (D.gl.length : Int) - 1
 ·
  rw [Bool.eq_false_iff.2 (fun x => o1.1 x h1)]
  simp only [h1, and_self, if_true, Bool.false_eq_true, if_false]
  by_cases h2 : 0 ≤ d.f1 ∧ d.f1 ≤ 9
  ·
   rw [Bool.eq_false_iff.2 (fun x => o2.1 x h2)]
   simp only [h2, and_self, if_true, Bool.false_eq_true, if_false]
   refine Ev.bind (rall D.sp.length hs) ?_
   by_cases h3 : 0 ≤ d.f2 ∧ d.f2 ≤ ((2 ^ D.sp.length : Nat) : Int) - 1
   ·
    rw [Bool.eq_false_iff.2 (fun x => o3.1 x h3), if_pos h3]; exact Ev.now _
   ·
    rw [o3.2 h3, if_neg h3]; exact Ev.now _
  ·
   rw [o2.2 h2]; simp only [h2, if_false, if_true]; exact Ev.now _
 ·
  rw [o1.2 h1]; simp only [h1, if_false, if_true]; exact Ev.now _

def drF (D : Dat) (i : Nat) : Int × Int × Int := if (firstE (errD D.gl.length D.sp.length) (D.dr.drop i) i).2 ≠ 0 then (4, firstE (errD D.gl.length D.sp.length) (D.dr.drop i) i) else (0, 0, 0)
def drE (D : Dat) : Int × Int × Int := if (firstL D.dr 0 4 (errD D.gl.length D.sp.length)).2 ≠ 0 then (4, firstL D.dr 0 4 (errD D.gl.length D.sp.length)) else (0, 0, 0)
def spFr (D : Dat) (i : Nat) : Int × Int × Int := if (firstE errP (D.sp.drop i) i).2 ≠ 0 then (3, firstE errP (D.sp.drop i) i) else drE D
def spE (D : Dat) : Int × Int × Int := if (firstL D.sp 0 4 errP).2 ≠ 0 then (3, firstL D.sp 0 4 errP) else drE D
def glE (D : Dat) : Int × Int × Int := if endsE D.lo D.hi 0 3 ≠ 0 then (2, 0, endsE D.lo D.hi 0 3) else spE D
def glF (D : Dat) (i : Nat) : Int × Int × Int := if (firstE (errG D.gl) (D.gl.drop i) i).2 ≠ 0 then (1, firstE (errG D.gl) (D.gl.drop i) i) else glE D
theorem firstE_drop {α : Type} (E : Nat → α → Int) (l : List α) (i : Nat) (h : i < l.length) : firstE E (l.drop i) i = if E i l[i] = 0 then firstE E (l.drop (i + 1)) (i + 1) else (((i : Nat) : Int), E i l[i]) := by
 rw [List.drop_eq_getElem_cons h]; rfl
theorem rCheck_l2 (D : Dat) (hg : D.gl.length ≤ 1000) (hs : D.sp.length ≤ 62) (hd : D.dr.length ≤ 1000) : ∀ (d i : Nat), i + d = D.dr.length →
  Ev (fun k => r7_Check.l2 k (i : Int) D.gl D.lo D.hi D.sp D.dr) (drF D i)
 | 0, i, h => by
  have e : drF D i = (0, 0, 0) := by unfold drF; rw [List.drop_eq_nil_of_le (by omega)]; rfl
  rw [e]
  exact Ev.step (f := fun _ => some (0, 0, 0)) (fun k => by simp only [r7_Check.l2]; rw [if_neg (by omega)]) (Ev.now _)
 | d + 1, i, h => by
  have hi : i < D.dr.length := by omega
  have ih := rCheck_l2 D hg hs hd d (i + 1) (by omega)
  have e : drF D i = if errD D.gl.length D.sp.length i D.dr[i] = 0 then drF D (i + 1) else (4, (i : Int), errD D.gl.length D.sp.length i D.dr[i]) := by
   unfold drF
   rw [firstE_drop _ _ _ hi]
   by_cases e : errD D.gl.length D.sp.length i D.dr[i] = 0
   ·
    simp only [if_pos e]
   ·
    simp only [if_neg e, ne_eq]; rw [if_pos e]
  rw [e]
  refine Ev.step (f := fun k => (r7_drawing.f k D.gl D.lo D.hi D.sp D.dr D.dr[i].f0 D.dr[i].f1 D.dr[i].f2).bind fun t => if t = 0 then r7_Check.l2 k ((i + 1 : Nat) : Int) D.gl D.lo D.hi D.sp D.dr else some (4, (i : Int), t)) (fun k => ?_) ?_
  ·
   simp only [r7_Check.l2, dr_at _ _ hi]
   rw [if_pos (by omega), if_pos (by omega), wrapN (by omega)]
  ·
   refine Ev.bind (rdrawing D D.dr[i] (by omega) hs i) ?_
   by_cases e : errD D.gl.length D.sp.length i D.dr[i] = 0
   ·
    simp only [if_pos e]; exact ih
   ·
    simp only [if_neg e]; exact Ev.now _
theorem rCheck_l1 (D : Dat) (hg : D.gl.length ≤ 1000) (hs : D.sp.length ≤ 62) (hd : D.dr.length ≤ 9223372036854775807) : ∀ (d i : Nat), i + d = D.sp.length →
  Ev (fun k => r7_Check.l1 k (i : Int) D.gl D.lo D.hi D.sp D.dr) (spFr D i)
 | 0, i, h => by
  have e : spFr D i = drE D := by unfold spFr; rw [List.drop_eq_nil_of_le (by omega)]; rfl
  rw [e]
  by_cases h4 : (D.dr.length : Int) > 4
  ·
   have e : drE D = (4, 0, 3) := by
    have : outB 0 4 [(D.dr.length : Int)] = true := (outB_one _ _ _).2 (by omega)
    unfold drE firstL; rw [this]; rfl
   rw [e]
   exact Ev.step (f := fun _ => some (4, 0, 3)) (fun k => by simp only [r7_Check.l1]; rw [if_neg (by omega), if_pos h4]) (Ev.now _)
  ·
   have e : drE D = drF D 0 := by
    have : outB 0 4 [(D.dr.length : Int)] = false := by rw [Bool.eq_false_iff]; exact fun x => (outB_one _ _ _).1 x ⟨by omega, by omega⟩
    unfold drE firstL; rw [this]; rfl
   rw [e]
   exact Ev.step (f := fun k => r7_Check.l2 k ((0 : Nat) : Int) D.gl D.lo D.hi D.sp D.dr) (fun k => by simp only [r7_Check.l1]; rw [if_neg (by omega), if_neg h4]; rfl) (rCheck_l2 D hg hs (by omega) _ 0 (Nat.zero_add _))
 | d + 1, i, h => by
  have hi : i < D.sp.length := by omega
  have ih := rCheck_l1 D hg hs hd d (i + 1) (by omega)
  have e : spFr D i = if errP i D.sp[i] = 0 then spFr D (i + 1) else (3, (i : Int), errP i D.sp[i]) := by
   unfold spFr
   rw [firstE_drop _ _ _ hi]
   by_cases e : errP i D.sp[i] = 0
   ·
    simp only [if_pos e]
   ·
    simp only [if_neg e, ne_eq]; rw [if_pos e]
  rw [e]
  refine Ev.step (f := fun k => (r7_ends.f k D.sp[i].f0 D.sp[i].f1 1 60).bind fun t => if t = 0 then r7_Check.l1 k ((i + 1 : Nat) : Int) D.gl D.lo D.hi D.sp D.dr else some (3, (i : Int), t)) (fun k => ?_) ?_
  ·
   simp only [r7_Check.l1, sp_at _ _ hi]
   rw [if_pos (by omega), if_pos (by omega), wrapN (by omega)]
  ·
   refine Ev.bind (rends _ _ 1 60 (by decide) (by decide)) ?_
   show Ev (fun n => if errP i D.sp[i] = 0 then _ else some (3, (i : Int), errP i D.sp[i])) _
   by_cases e : errP i D.sp[i] = 0
   ·
    simp only [if_pos e]; exact ih
   ·
    simp only [if_neg e]; exact Ev.now _
theorem rCheck_l0 (D : Dat) (hn : ∀ x ∈ D.gl, x.f0.size ≤ 9223372036854775807) (hg : D.gl.length ≤ 1000) (hs : D.sp.length ≤ 9223372036854775807) (hd : D.dr.length ≤ 9223372036854775807) : ∀ (d i : Nat), i + d = D.gl.length →
  Ev (fun k => r7_Check.l0 k ((D.gl.take i).map fun x => x.f0) (i : Int) D.gl D.lo D.hi D.sp D.dr) (glF D i)
 | 0, i, h => by
  have e : glF D i = glE D := by unfold glF; rw [List.drop_eq_nil_of_le (by omega)]; rfl
  rw [e]
  refine Ev.step (f := fun k => (r7_ends.f k D.lo D.hi 0 3).bind fun t => if t = 0 then (if (D.sp.length : Int) > 4 then some (3, 0, 3) else r7_Check.l1 k 0 D.gl D.lo D.hi D.sp D.dr) else some (2, 0, t)) (fun k => by simp only [r7_Check.l0]; rw [if_neg (by omega)]) ?_
  refine Ev.bind (rends _ _ 0 3 (by decide) (by decide)) ?_
  unfold glE
  by_cases e : endsE D.lo D.hi 0 3 = 0
  ·
   simp only [if_pos e, e, ne_eq, not_true_eq_false, if_false]
   by_cases h4 : (D.sp.length : Int) > 4
   ·
    have e : spE D = (3, 0, 3) := by
     have : outB 0 4 [(D.sp.length : Int)] = true := (outB_one _ _ _).2 (by omega)
     unfold spE firstL; rw [this]; rfl
    rw [e]; simp only [if_pos h4]; exact Ev.now _
   ·
    have e : spE D = spFr D 0 := by
     have : outB 0 4 [(D.sp.length : Int)] = false := by rw [Bool.eq_false_iff]; exact fun x => (outB_one _ _ _).1 x ⟨by omega, by omega⟩
     unfold spE firstL; rw [this]; rfl
    rw [e]; simp only [if_neg h4]; exact rCheck_l1 D hg (by omega) hd _ 0 (Nat.zero_add _)
  ·
   simp only [if_neg e, ne_eq, e, not_false_eq_true, if_true]; exact Ev.now _
 | d + 1, i, h => by
  have hi : i < D.gl.length := by omega
  have ih := rCheck_l0 D hn hg hs hd d (i + 1) (by omega)
  have e : glF D i = if errG D.gl i D.gl[i] = 0 then glF D (i + 1) else (1, (i : Int), errG D.gl i D.gl[i]) := by
   unfold glF
   rw [firstE_drop _ _ _ hi]
   by_cases e : errG D.gl i D.gl[i] = 0
   ·
    simp only [if_pos e]
   ·
    simp only [if_neg e, ne_eq]; rw [if_pos e]
  rw [e]
  have hl : ((D.gl.take i).map fun x => x.f0).length = i := by simp; omega
  have hx : (D.gl.take i).map (fun x => x.f0) ++ [D.gl[i].f0] = (D.gl.take (i + 1)).map fun x => x.f0 := by
   rw [List.take_add_one, List.getElem?_eq_getElem hi, List.map_append]; rfl
  refine Ev.step (f := fun k => (r1_Fresh.f k D.gl[i].f0 ((D.gl.take i).map fun x => x.f0)).bind fun t => if t = 0 then ((r7_ends.f k D.gl[i].f1.f0 D.gl[i].f1.f1 1 40).bind fun u => if u = 0 then r7_Check.l0 k ((D.gl.take (i + 1)).map fun x => x.f0) ((i + 1 : Nat) : Int) D.gl D.lo D.hi D.sp D.dr else some (1, (i : Int), u)) else some (1, (i : Int), t)) (fun k => ?_) ?_
  ·
   simp only [r7_Check.l0, gl_at _ _ hi, hx]
   rw [if_pos (by omega), if_pos (by omega), wrapN (by omega)]
   congr 1
   funext t
   rw [if_pos (by rw [hl]; omega)]
  ·
   refine Ev.bind (rFresh _ _ (hn _ (List.getElem_mem hi)) (by rw [hl]; omega)) ?_
   have ha : ((D.gl.take i).map fun x => x.f0).any (fun x => x.toList == D.gl[i].f0.toList) = (D.gl.take i).any (sameName D.gl[i]) := by
    rw [List.any_map]; rfl
   rw [ha]
   unfold errG
   cases hnb : nameB D.gl[i].f0
   ·
    simp only [if_true]; exact Ev.congr (f := fun _ => some (1, (i : Int), 6)) (fun k => rfl) (Ev.now _)
   ·
    simp only [Bool.true_eq_false, if_false]
    cases hsn : (D.gl.take i).any (sameName D.gl[i])
    ·
     simp only [Bool.false_eq_true, if_false, if_true]
     refine Ev.bind (rends _ _ 1 40 (by decide) (by decide)) ?_
     by_cases e : endsE D.gl[i].f1.f0 D.gl[i].f1.f1 1 40 = 0
     ·
      simp only [if_pos e]; exact ih
     ·
      simp only [if_neg e]; exact Ev.now _
    ·
     simp only [if_true]; exact Ev.congr (f := fun _ => some (1, (i : Int), 5)) (fun k => rfl) (Ev.now _)
theorem rCheck (D : Dat) (hn : ∀ x ∈ D.gl, x.f0.size ≤ 9223372036854775807) (hg : D.gl.length ≤ 9223372036854775807) (hs : D.sp.length ≤ 9223372036854775807) (hd : D.dr.length ≤ 9223372036854775807) :
  Ev (fun k => r7_Check.f k D.gl D.lo D.hi D.sp D.dr) (checkF D) := by
 unfold r7_Check.f
 simp only [rIn, Option.bind_some, decide_eq_true_eq]
 have o := outB_one 1 3 (D.gl.length : Int)
 have e0 : checkF D = if (firstL D.gl 1 3 (errG D.gl)).2 ≠ 0 then (1, firstL D.gl 1 3 (errG D.gl)) else glE D := rfl
 rw [e0]
 by_cases h : 1 ≤ (D.gl.length : Int) ∧ (D.gl.length : Int) ≤ 3
 ·
  have e : (if (firstL D.gl 1 3 (errG D.gl)).2 ≠ 0 then (1, firstL D.gl 1 3 (errG D.gl)) else glE D) = glF D 0 := by
   unfold firstL; rw [Bool.eq_false_iff.2 (fun x => o.1 x h)]; rfl
  rw [e]
  simp only [h, and_self, if_true]
  exact rCheck_l0 D hn (by omega) hs hd _ 0 (Nat.zero_add _)
 ·
  have e : (if (firstL D.gl 1 3 (errG D.gl)).2 ≠ 0 then (1, firstL D.gl 1 3 (errG D.gl)) else glE D) = (1, 0, 3) := by
   unfold firstL; rw [o.2 h]; rfl
  rw [e]
  simp only [h, if_false]
  exact Ev.now _
theorem rd_nat (l : List Int) (k : Nat) : rd l (k : Int) = l.getD k 0 := by simp [rd]
theorem rHas0 (but : List Int) (hb : but.length ≤ 1000) (x : Int) (d : Nat) : ∀ (j : Nat), j + d = but.length → Ev (fun f => r1_Has.l0 f but x (j : Int)) ((but.drop j).any fun y => y == x) := by
 induction d with
 | zero =>
  intro j hd
  rw [List.drop_eq_nil_of_le (by omega)]
  refine Ev.step (f := fun _ => some false) (fun f => ?_) (Ev.now _)
  simp only [r1_Has.l0]
  rw [if_neg (by omega)]
 | succ d ih =>
  intro j hd
  have hj : j < but.length := by omega
  have e : rd but (j : Int) = but[j] := by rw [rd_nat, List.getD_eq_getElem?_getD, List.getElem?_eq_getElem hj]; rfl
  rw [List.drop_eq_getElem_cons hj, List.any_cons]
  by_cases h : but[j] = x
  ·
   rw [beq_iff_eq.2 h, Bool.true_or]
   refine Ev.step (f := fun _ => some true) (fun f => ?_) (Ev.now _)
   simp only [r1_Has.l0, e]
   rw [if_pos (by omega), if_pos (by omega), if_pos h]
  ·
   have hf : (but[j] == x) = false := by simpa using h
   rw [hf, Bool.false_or]
   refine Ev.step (f := fun f => r1_Has.l0 f but x ((j + 1 : Nat) : Int)) (fun f => ?_) (ih (j + 1) (by omega))
   simp only [r1_Has.l0, e]
   rw [if_pos (by omega), if_pos (by omega), if_neg h, wrapN (by omega)]
def hasB (but : List Int) (x : Nat) : Bool := but.any fun y => y == (x : Int)
theorem rHas (but : List Int) (hb : but.length ≤ 1000) (x : Nat) : Ev (fun f => r1_Has.f f but (x : Int)) (hasB but x) := rHas0 but hb x but.length 0 (by omega)

end Go.Proofs.Ytgoidclnccjdeaa.D
end
section
/- Package glass, plain: the numbers of all truths without drawings, as_ the program and as_ the reference go through them. -/
namespace Go.Proofs.Ytgoidclnccjdeaa.M
set_option linter.unusedVariables false

def vec (a : List Int) (n : Int) (b : List Int) : List Int := a ++ (List.replicate (3 - a.length) 0 ++ (n :: (b ++ List.replicate (4 - b.length) 0)))
def spans8 (g : List (Int × Int)) (d : Int × Int) (s : List (Int × Int)) : List (Int × Int) := g ++ (List.replicate (3 - g.length) (0, 0) ++ (d :: (s ++ List.replicate (4 - s.length) (0, 0))))
def allL (g : List (Int × Int)) (d : Int × Int) (s : List (Int × Int)) : List (List Int × Int × List Int) :=
 (prodL g).flatMap fun a => (rng d.1 d.2).flatMap fun n => (prodL s).map fun b => (a, n, b)
theorem fm_congr {α β : Type} {f g : α → List β} : ∀ (l : List α), (∀ x ∈ l, f x = g x) → l.flatMap f = l.flatMap g
 | [], _ => rfl
 | x :: r, h => by rw [List.flatMap_cons, List.flatMap_cons, h x (List.mem_cons_self ..), fm_congr r fun y hy => h y (List.mem_cons_of_mem _ hy)]
theorem fm_one {α β : Type} {f : α → List β} {g : α → β} : ∀ (l : List α), (∀ x ∈ l, f x = [g x]) → l.flatMap f = l.map g
 | [], _ => rfl
 | x :: r, h => by rw [List.flatMap_cons, List.map_cons, h x (List.mem_cons_self ..), fm_one r fun y hy => h y (List.mem_cons_of_mem _ hy)]; rfl
theorem prod_vec (g : List (Int × Int)) (d : Int × Int) (s : List (Int × Int)) : prodL (spans8 g d s) = (allL g d s).map fun t => vec t.1 t.2.1 t.2.2 := by
 have hS : prodL (s ++ List.replicate (4 - s.length) (0, 0)) = (prodL s).map fun b => b ++ List.replicate (4 - b.length) 0 := by
  rw [prodL_append, prodL_zeros]
  simp only [List.map_cons, List.map_nil]
  refine fm_one _ fun b hb => ?_
  rw [(mem_prodL s b hb).1]
 have hG : ∀ r, prodL (g ++ (List.replicate (3 - g.length) (0, 0) ++ r)) = (prodL g).flatMap fun a => (prodL r).map fun y => a ++ (List.replicate (3 - a.length) 0 ++ y) := by
  intro r
  rw [prodL_append, prodL_append, prodL_zeros]
  refine fm_congr _ fun a ha => ?_
  rw [(mem_prodL g a ha).1]
  simp
 unfold spans8 allL
 rw [hG]
 simp only [prodL, hS, List.map_flatMap, List.map_map]
 rfl
theorem vec_least {a : List Int} {n : Int} {b : List Int} {i : Nat} (hi : i < a.length) : (vec a n b).getD i 0 = a.getD i 0 := by
 simp [vec, List.getElem?_append_left hi]
theorem vec_dull {a : List Int} {n : Int} {b : List Int} (ha : a.length ≤ 3) : (vec a n b).getD 3 0 = n := by
 unfold vec
 rw [List.getD_eq_getElem?_getD, List.getElem?_append_right ha, List.getElem?_append_right (by simp)]
 simp
theorem vec_size {a : List Int} {n : Int} {b : List Int} {i : Nat} (ha : a.length ≤ 3) (hi : i < b.length) : (vec a n b).getD (4 + i) 0 = b.getD i 0 := by
 unfold vec
 rw [List.getD_eq_getElem?_getD, List.getElem?_append_right (by omega), List.getElem?_append_right (by simp; omega)]
 have e : 4 + i - a.length - (List.replicate (3 - a.length) (0 : Int)).length = i + 1 := by simp; omega
 rw [e, List.getElem?_cons_succ, List.getElem?_append_left hi]
 simp
end Go.Proofs.Ytgoidclnccjdeaa.M
end
section
/- Package glass: the reference's lists of a number of each span, and all truths without drawings. -/
namespace Go.Proofs.Ytgoidclnccjdeaa.D
open Go Go.RowKit Go.Proofs.YtgoidclnccjdeaaK Go.Proofs.YtgoidclnccjdeaaW.PrintWords Go.Proofs.YtgoidclnccjdeaaW.PrintLast Go.Proofs.YtgoidclnccjdeaaW.PrintMore Go.Proofs.Ytgoidclnccjdeaa.PR Go.Proofs.Ytgoidclnccjdeaa.M
set_option linter.unusedVariables false
set_option linter.unusedSimpArgs false

theorem L2_at (l : List (List Int)) (k : Nat) (h : k < l.length) : rd_L2 l (k : Int) = l[k] := by simp [rd_L2, h]
theorem wrapS {x : Int} (h : -1000000 ≤ x ∧ x ≤ 1000000) : wrap64 x = x := by unfold wrap64; omega
def SpOk (S : List Sp) : Prop := ∀ s ∈ S, -1000 ≤ s.f0 ∧ s.f0 ≤ s.f1 ∧ s.f1 ≤ 1000 ∧ s.f1 - s.f0 ≤ 2
abbrev pr (s : Sp) : Int × Int := (s.f0, s.f1)

theorem rE2 (S : List Sp) (out : List (List Int)) (i kk : Nat) (hi : i < S.length) (hk : kk < out.length) (hk' : out.length ≤ 100000) (hS : SpOk S) (hol : (out[kk]).length ≤ 1000) (r : List (List Int)) : ∀ (d : Nat) (n : Int) (next : List (List Int)), -1000 ≤ n → n + d = S[i].f1 + 1 → next.length + d ≤ 1000000 →
  Ev (fun k => r7_each.l1 k S out (i : Int) (next ++ (List.range d).map fun j : Nat => out[kk] ++ [n + (j : Int)]) ((kk + 1 : Nat) : Int)) r → Ev (fun k => r7_each.l2 k S out (i : Int) next (kk : Int) n) r
 | 0, n, next, h0, hn, hl, h => by
  refine Ev.step (f := fun k => r7_each.l1 k S out (i : Int) next ((kk + 1 : Nat) : Int)) (fun k => ?_) (by simpa using h)
  simp only [r7_each.l2, sp_at _ _ hi]
  rw [if_pos (by omega), if_pos (by omega), if_neg (by omega), wrapN (by omega)]
 | d + 1, n, next, h0, hn, hl, h => by
  have hs := hS _ (List.getElem_mem hi)
  refine Ev.step (f := fun k => r7_each.l2 k S out (i : Int) (next ++ [out[kk] ++ [n]]) (kk : Int) (n + 1)) (fun k => ?_) (rE2 S out i kk hi hk hk' hS hol r d (n + 1) (next ++ [out[kk] ++ [n]]) (by omega) (by omega) (by simp only [List.length_append, List.length_cons, List.length_nil]; omega) ?_)
  ·
   simp only [r7_each.l2, sp_at _ _ hi, L2_at _ _ hk, Option.bind_some, List.nil_append, List.length_nil]
   rw [if_pos (by omega), if_pos (by omega), if_pos (by omega), if_pos (by omega), if_pos (by omega), if_pos (by omega), if_pos (by omega), if_pos (by omega)]
   rw [wrapS (by omega)]
  ·
   have e : next ++ [out[kk] ++ [n]] ++ (List.range d).map (fun j : Nat => out[kk] ++ [n + 1 + (j : Int)]) = next ++ (List.range (d + 1)).map fun j : Nat => out[kk] ++ [n + (j : Int)] := by
    rw [List.range_succ_eq_map, List.map_cons, List.map_map, List.append_assoc]
    congr 1
    simp only [List.singleton_append, Int.natCast_zero, Int.add_zero]
    congr 1
    refine List.map_congr_left fun j _ => ?_
    show out[kk] ++ [n + 1 + (j : Int)] = out[kk] ++ [n + ((j + 1 : Nat) : Int)]
    congr 2; omega
   rw [e]; exact h
theorem rE1 (S : List Sp) (out : List (List Int)) (i : Nat) (hi : i < S.length) (hi' : i ≤ 1000) (hk' : out.length ≤ 100000) (hS : SpOk S) (hol : ∀ o ∈ out, o.length ≤ 1000) (r : List (List Int)) : ∀ (d kk : Nat) (next : List (List Int)), kk + d = out.length → next.length + 3 * d ≤ 1000000 →
  Ev (fun k => r7_each.l0 k S (next ++ (out.drop kk).flatMap fun o => (rng S[i].f0 S[i].f1).map fun n => o ++ [n]) ((i + 1 : Nat) : Int)) r → Ev (fun k => r7_each.l1 k S out (i : Int) next (kk : Int)) r
 | 0, kk, next, hd, hl, h => by
  rw [List.drop_eq_nil_of_le (by omega)] at h
  refine Ev.step (f := fun k => r7_each.l0 k S next ((i + 1 : Nat) : Int)) (fun k => ?_) (by simpa using h)
  simp only [r7_each.l1]
  rw [if_neg (by omega), wrapN (by omega)]
 | d + 1, kk, next, hd, hl, h => by
  have hk : kk < out.length := by omega
  have hs := hS _ (List.getElem_mem hi)
  refine Ev.step (f := fun k => r7_each.l2 k S out (i : Int) next (kk : Int) S[i].f0) (fun k => ?_) ?_
  ·
   simp only [r7_each.l1, sp_at _ _ hi]
   rw [if_pos (by omega), if_pos (by omega), if_pos (by omega)]
  ·
   have hdl : (S[i].f1 - S[i].f0 + 1).toNat ≤ 3 := by omega
   refine rE2 S out i kk hi hk hk' hS (hol _ (List.getElem_mem hk)) r (S[i].f1 - S[i].f0 + 1).toNat S[i].f0 next (by omega) (by omega) (by omega) ?_
   refine rE1 S out i hi hi' hk' hS hol r d (kk + 1) _ (by omega) (by simp only [List.length_append, List.length_map, List.length_range]; omega) ?_
   have e : (List.range (S[i].f1 - S[i].f0 + 1).toNat).map (fun j : Nat => out[kk] ++ [S[i].f0 + (j : Int)]) = (rng S[i].f0 S[i].f1).map fun n => out[kk] ++ [n] := by
    unfold rng; rw [List.map_map]; rfl
   rw [e, List.append_assoc]
   rw [List.drop_eq_getElem_cons hk, List.flatMap_cons] at h
   exact h
theorem fm_len3 {β : Type} (out : List β) (s : Sp) (h : s.f1 - s.f0 ≤ 2) (f : β → Int → List Int) : (out.flatMap fun o => (rng s.f0 s.f1).map (f o)).length ≤ 3 * out.length := by
 induction out with
 | nil => simp
 | cons x t ih =>
  have h3 : (rng s.f0 s.f1).length ≤ 3 := by rw [rng_len]; omega
  simp only [List.flatMap_cons, List.length_append, List.length_map, List.length_cons]
  omega
theorem rE0 (S : List Sp) (hS : SpOk S) (hl : S.length ≤ 4) : ∀ (d i : Nat) (out : List (List Int)), i + d = S.length → out.length ≤ 3 ^ i → (∀ o ∈ out, o.length ≤ i) →
  Ev (fun k => r7_each.l0 k S out (i : Int)) (((S.drop i).map pr).foldl (fun out s => out.flatMap fun o => (rng s.1 s.2).map fun n => o ++ [n]) out)
 | 0, i, out, hd, ho, hol => by
  rw [List.drop_eq_nil_of_le (by omega)]
  exact Ev.step (f := fun _ => some out) (fun k => by simp only [r7_each.l0]; rw [if_neg (by omega)]) (Ev.now _)
 | d + 1, i, out, hd, ho, hol => by
  have hi : i < S.length := by omega
  have hs := hS _ (List.getElem_mem hi)
  have h81 : 3 ^ i ≤ 3 ^ 4 := Nat.pow_le_pow_right (by decide) (by omega)
  have h81' : (3 : Nat) ^ 4 = 81 := by decide
  refine Ev.step (f := fun k => r7_each.l1 k S out (i : Int) [] ((0 : Nat) : Int)) (fun k => by simp only [r7_each.l0]; rw [if_pos (by omega)]; rfl) ?_
  refine rE1 S out i hi (by omega) (by omega) hS (fun o ho => Nat.le_trans (hol o ho) (by omega)) _ out.length 0 [] (by omega) (by simp only [List.length_nil]; omega) ?_
  rw [List.drop_zero, List.nil_append, List.drop_eq_getElem_cons hi, List.map_cons, List.foldl_cons]
  have hln := fm_len3 out S[i] (by omega) (fun o n => o ++ [n])
  refine rE0 S hS hl d (i + 1) _ (by omega) (by rw [Nat.pow_succ]; omega) (fun o ho => ?_)
  obtain ⟨x, hx, hy⟩ := List.mem_flatMap.1 ho
  obtain ⟨n, _, rfl⟩ := List.mem_map.1 hy
  have := hol x hx
  simp; omega
theorem rEach (S : List Sp) (hS : SpOk S) (hl : S.length ≤ 4) : Ev (fun k => r7_each.f k S) (prodL (S.map pr)) := by
 rw [← eachL_eq]
 have := rE0 S hS hl S.length 0 [[]] (by omega) (by simp) (by simp)
 simpa [r7_each.f, eachL] using this
end Go.Proofs.Ytgoidclnccjdeaa.D
end
section
/- Package glass: all truths without drawings, as_ the reference has them. -/
namespace Go.Proofs.Ytgoidclnccjdeaa.D
open Go Go.RowKit Go.Proofs.YtgoidclnccjdeaaK Go.Proofs.YtgoidclnccjdeaaW.PrintWords Go.Proofs.YtgoidclnccjdeaaW.PrintLast Go.Proofs.YtgoidclnccjdeaaW.PrintMore Go.Proofs.Ytgoidclnccjdeaa.PR Go.Proofs.Ytgoidclnccjdeaa.M
set_option linter.unusedVariables false
set_option linter.unusedSimpArgs false

abbrev tr0 (t : List Int × Int × List Int) : S56 := ⟨t.1, t.2.1, t.2.2, []⟩
theorem rA3 (D : Dat) (A B : List (List Int)) (i : Nat) (n : Int) (hi : i < A.length) (hA : A.length ≤ 1000) (hB : B.length ≤ 1000) (hn : -1000 ≤ n ∧ n ≤ 1000) (r : List S56) : ∀ (d kk : Nat) (out : List S56), kk + d = B.length → out.length + d ≤ 1000000 →
  Ev (fun k => r7_All.l2 k A B (out ++ (B.drop kk).map fun b => tr0 (A[i], n, b)) (i : Int) (n + 1) D.gl D.lo D.hi D.sp D.dr) r → Ev (fun k => r7_All.l3 k A B out (i : Int) n (kk : Int) D.gl D.lo D.hi D.sp D.dr) r
 | 0, kk, out, hd, hl, h => by
  rw [List.drop_eq_nil_of_le (by omega)] at h
  refine Ev.step (f := fun k => r7_All.l2 k A B out (i : Int) (n + 1) D.gl D.lo D.hi D.sp D.dr) (fun k => ?_) (by simpa using h)
  simp only [r7_All.l3]
  rw [if_neg (by omega), wrapS (by omega)]
 | d + 1, kk, out, hd, hl, h => by
  have hk : kk < B.length := by omega
  refine Ev.step (f := fun k => r7_All.l3 k A B (out ++ [tr0 (A[i], n, B[kk])]) (i : Int) n ((kk + 1 : Nat) : Int) D.gl D.lo D.hi D.sp D.dr) (fun k => ?_) (rA3 D A B i n hi hA hB hn r d (kk + 1) (out ++ [tr0 (A[i], n, B[kk])]) (by omega) (by simp only [List.length_append, List.length_cons, List.length_nil]; omega) ?_)
  ·
   simp only [r7_All.l3, L2_at _ _ hi, L2_at _ _ hk]
   rw [if_pos (by omega), if_pos (by omega), if_pos (by omega), if_pos (by omega), if_pos (by omega), wrapN (by omega)]
  ·
   rw [List.append_assoc]
   rw [List.drop_eq_getElem_cons hk, List.map_cons] at h
   exact h
theorem rA2 (D : Dat) (A B : List (List Int)) (i : Nat) (hi : i < A.length) (hA : A.length ≤ 1000) (hB : B.length ≤ 1000) (hh : D.hi ≤ 999) (r : List S56) : ∀ (d : Nat) (n : Int) (out : List S56), -1000 ≤ n → n + d = D.hi + 1 → out.length + d * B.length ≤ 1000000 →
  Ev (fun k => r7_All.l1 k A B (out ++ (List.range d).flatMap fun j : Nat => B.map fun b => tr0 (A[i], n + (j : Int), b)) ((i + 1 : Nat) : Int) D.gl D.lo D.hi D.sp D.dr) r → Ev (fun k => r7_All.l2 k A B out (i : Int) n D.gl D.lo D.hi D.sp D.dr) r
 | 0, n, out, h0, hn, hl, h => by
  refine Ev.step (f := fun k => r7_All.l1 k A B out ((i + 1 : Nat) : Int) D.gl D.lo D.hi D.sp D.dr) (fun k => ?_) (by simpa using h)
  simp only [r7_All.l2]
  rw [if_neg (by omega), wrapN (by omega)]
 | d + 1, n, out, h0, hn, hl, h => by
  have hmul : (d + 1) * B.length = d * B.length + B.length := by rw [Nat.add_mul]; omega
  refine Ev.step (f := fun k => r7_All.l3 k A B out (i : Int) n ((0 : Nat) : Int) D.gl D.lo D.hi D.sp D.dr) (fun k => by simp only [r7_All.l2]; rw [if_pos (by omega)]; rfl) ?_
  refine rA3 D A B i n hi hA hB (by omega) r B.length 0 out (by omega) (by omega) ?_
  rw [List.drop_zero]
  refine rA2 D A B i hi hA hB hh r d (n + 1) (out ++ B.map fun b => tr0 (A[i], n, b)) (by omega) (by omega) (by simp only [List.length_append, List.length_map]; omega) ?_
  have e : out ++ (B.map fun b => tr0 (A[i], n, b)) ++ ((List.range d).flatMap fun j : Nat => B.map fun b => tr0 (A[i], n + 1 + (j : Int), b)) = out ++ (List.range (d + 1)).flatMap fun j : Nat => B.map fun b => tr0 (A[i], n + (j : Int), b) := by
   rw [List.range_succ_eq_map, List.flatMap_cons, List.flatMap_map, List.append_assoc]
   congr 1
   simp only [Int.natCast_zero, Int.add_zero]
   congr 1
   refine fm_congr _ fun j _ => ?_
   have : n + 1 + (j : Int) = n + ((j + 1 : Nat) : Int) := by omega
   rw [this]
  rw [e]; exact h
theorem fm_le {α β : Type} (l : List α) (f : α → List β) (m : Nat) (h : ∀ x ∈ l, (f x).length ≤ m) : (l.flatMap f).length ≤ l.length * m := by
 induction l with
 | nil => simp
 | cons x t ih =>
  have h1 := h x (List.mem_cons_self ..)
  have h2 := ih (fun y hy => h y (List.mem_cons_of_mem _ hy))
  rw [List.flatMap_cons, List.length_append, List.length_cons, Nat.add_mul]
  omega
theorem rA1 (D : Dat) (A B : List (List Int)) (hA : A.length ≤ 100) (hB : B.length ≤ 100) (hlo : -1000 ≤ D.lo) (hle : D.lo ≤ D.hi + 1) (hh : D.hi ≤ 999) (hd2 : D.hi - D.lo ≤ 2) : ∀ (d i : Nat) (out : List S56), i + d = A.length → out.length + d * 300 ≤ 1000000 →
  Ev (fun k => r7_All.l1 k A B out (i : Int) D.gl D.lo D.hi D.sp D.dr) (out ++ (A.drop i).flatMap fun a => (rng D.lo D.hi).flatMap fun n => B.map fun b => tr0 (a, n, b))
 | 0, i, out, hd, hl => by
  rw [List.drop_eq_nil_of_le (by omega)]
  exact Ev.step (f := fun _ => some out) (fun k => by simp only [r7_All.l1]; rw [if_neg (by omega)]) (by simpa using Ev.now out)
 | d + 1, i, out, hd, hl => by
  have hi : i < A.length := by omega
  refine Ev.step (f := fun k => r7_All.l2 k A B out (i : Int) D.lo D.gl D.lo D.hi D.sp D.dr) (fun k => by simp only [r7_All.l1]; rw [if_pos (by omega)]) ?_
  have h3 : (D.hi - D.lo + 1).toNat ≤ 3 := by omega
  have h300 : (D.hi - D.lo + 1).toNat * B.length ≤ 300 := Nat.le_trans (Nat.mul_le_mul h3 hB) (by decide)
  refine rA2 D A B i hi (by omega) (by omega) hh _ (D.hi - D.lo + 1).toNat D.lo out hlo (by omega) (by omega) ?_
  have e : ((List.range (D.hi - D.lo + 1).toNat).flatMap fun j : Nat => B.map fun b => tr0 (A[i], D.lo + (j : Int), b)) = (rng D.lo D.hi).flatMap fun n => B.map fun b => tr0 (A[i], n, b) := by
   unfold rng; rw [List.flatMap_map]
  have hln : ((rng D.lo D.hi).flatMap fun n => B.map fun b => tr0 (A[i], n, b)).length ≤ 300 := by
   rw [← e]
   exact Nat.le_trans (fm_le _ _ B.length (fun x _ => by simp)) (by rw [List.length_range]; exact h300)
  have ih := rA1 D A B hA hB hlo hle hh hd2 d (i + 1) (out ++ ((rng D.lo D.hi).flatMap fun n => B.map fun b => tr0 (A[i], n, b))) (by omega) (by rw [List.length_append]; omega)
  rw [e]
  rw [List.drop_eq_getElem_cons hi, List.flatMap_cons, ← List.append_assoc]
  exact ih
theorem rA0 (D : Dat) (hg : D.gl.length ≤ 1000) (r : List S56) (h : Ev (fun k => (r7_each.f k (D.gl.map fun g => g.f1)).bind fun a => (r7_each.f k D.sp).bind fun b => r7_All.l1 k a b [] 0 D.gl D.lo D.hi D.sp D.dr) r) : ∀ (d i : Nat), i + d = D.gl.length →
  Ev (fun k => r7_All.l0 k ((D.gl.take i).map fun g => g.f1) (i : Int) D.gl D.lo D.hi D.sp D.dr) r
 | 0, i, hd => by
  rw [List.take_of_length_le (by omega)]
  exact Ev.step (fun k => by simp only [r7_All.l0]; rw [if_neg (by omega)]) h
 | d + 1, i, hd => by
  have hi : i < D.gl.length := by omega
  have hl : ((D.gl.take i).map fun g => g.f1).length = i := by simp; omega
  have hx : (D.gl.take i).map (fun g => g.f1) ++ [D.gl[i].f1] = (D.gl.take (i + 1)).map fun g => g.f1 := by
   rw [List.take_add_one, List.getElem?_eq_getElem hi, List.map_append]; rfl
  refine Ev.step (f := fun k => r7_All.l0 k ((D.gl.take (i + 1)).map fun g => g.f1) ((i + 1 : Nat) : Int) D.gl D.lo D.hi D.sp D.dr) (fun k => ?_) (rA0 D hg r h d (i + 1) (by omega))
  simp only [r7_All.l0, gl_at _ _ hi]
  rw [if_pos (by omega), if_pos (by omega), if_pos (by rw [hl]; omega), wrapN (by omega), ← hx]
theorem spOk_gl {D : Dat} (h : Valid D) : SpOk (D.gl.map fun g => g.f1) := by
 intro s hs
 obtain ⟨g, hg, rfl⟩ := List.mem_map.1 hs
 obtain ⟨k, hk, rfl⟩ := List.mem_iff_getElem.1 hg
 have := h.gl k hk
 rw [gl_at _ _ hk] at this
 omega
theorem spOk_sp {D : Dat} (h : Valid D) : SpOk D.sp := by
 intro s hs
 obtain ⟨k, hk, rfl⟩ := List.mem_iff_getElem.1 hs
 have := h.sp k hk
 rw [sp_at _ _ hk] at this
 omega
abbrev glS (D : Dat) : List (Int × Int) := D.gl.map fun g => (g.f1.f0, g.f1.f1)
abbrev spS (D : Dat) : List (Int × Int) := D.sp.map pr
theorem prodL_le3 (S : List (Int × Int)) (h : ∀ s ∈ S, s.2 - s.1 ≤ 2) : (prodL S).length ≤ 3 ^ S.length := prodL_len S h
theorem rAll {D : Dat} (h : Valid D) : Ev (fun k => r7_All.f k D.gl D.lo D.hi D.sp D.dr) ((allL (glS D) (D.lo, D.hi) (spS D)).map tr0) := by
 have hg := spOk_gl h
 have hs := spOk_sp h
 have hg3 := h.g3
 have hs4 := h.s4
 have hlo := h.lo
 have hle := h.le
 have hhi := h.hi
 have hdu := h.du
 have e0 : (D.gl.map fun g => g.f1).map pr = glS D := by unfold glS; rw [List.map_map]; rfl
 have hA : (prodL (glS D)).length ≤ 100 := by
  refine Nat.le_trans (prodL_le3 _ (fun s hs' => ?_)) (Nat.le_trans (Nat.pow_le_pow_right (n := 3) (i := (glS D).length) (j := 3) (by decide) (by simpa [glS] using hg3)) (by decide))
  rw [← e0] at hs'
  obtain ⟨t, ht, rfl⟩ := List.mem_map.1 hs'
  have := hg t ht
  exact this.2.2.2
 have hB : (prodL (spS D)).length ≤ 100 := by
  refine Nat.le_trans (prodL_le3 _ (fun s hs' => ?_)) (Nat.le_trans (Nat.pow_le_pow_right (n := 3) (i := (spS D).length) (j := 4) (by decide) (by simpa [spS] using hs4)) (by decide))
  obtain ⟨t, ht, rfl⟩ := List.mem_map.1 hs'
  have := hs t ht
  exact this.2.2.2
 refine rA0 D (by omega) _ ?_ D.gl.length 0 (by omega)
 have h1 := rEach (D.gl.map fun g => g.f1) hg (by simpa using Nat.le_trans hg3 (by decide))
 rw [e0] at h1
 refine Ev.bind (f := fun k a => (r7_each.f k D.sp).bind fun b => r7_All.l1 k a b [] 0 D.gl D.lo D.hi D.sp D.dr) h1 ?_
 refine Ev.bind (f := fun k b => r7_All.l1 k (prodL (glS D)) b [] 0 D.gl D.lo D.hi D.sp D.dr) (rEach D.sp hs hs4) ?_
 have h2 := rA1 D (prodL (glS D)) (prodL (spS D)) hA hB (by omega) (by omega) (by omega) hdu (prodL (glS D)).length 0 [] (by omega) (by simp only [List.length_nil]; omega)
 have e : (allL (glS D) (D.lo, D.hi) (spS D)).map tr0 = [] ++ ((prodL (glS D)).drop 0).flatMap fun a => (rng D.lo D.hi).flatMap fun n => (prodL (spS D)).map fun b => tr0 (a, n, b) := by
  unfold allL
  simp only [List.nil_append, List.drop_zero, List.map_flatMap, List.map_map]
  rfl
 rw [e]
 exact h2
end Go.Proofs.Ytgoidclnccjdeaa.D
end
section
/- Package glass: what is seen, and the glasses of a drawing, as_ the reference has them; its truths. -/
namespace Go.Proofs.Ytgoidclnccjdeaa.D
open Go Go.RowKit Go.Proofs.YtgoidclnccjdeaaK Go.Proofs.YtgoidclnccjdeaaW.PrintWords Go.Proofs.YtgoidclnccjdeaaW.PrintLast Go.Proofs.YtgoidclnccjdeaaW.PrintMore Go.Proofs.Ytgoidclnccjdeaa.PR Go.Proofs.Ytgoidclnccjdeaa.M
set_option linter.unusedVariables false
set_option linter.unusedSimpArgs false

abbrev Tr := List Int × Int × List Int
abbrev V8 (t : Tr) : List Int := vec t.1 t.2.1 t.2.2
abbrev allD (D : Dat) : List Tr := allL (glS D) (D.lo, D.hi) (spS D)
theorem spans8_eq {D : Dat} (h : Valid D) : spansL D = spans8 (glS D) (D.lo, D.hi) (spS D) := by
 have hg1 := h.g1
 have hg3 := h.g3
 have hs4 := h.s4
 have hl : (glS D).length = D.gl.length := by simp [glS]
 have hl2 : (spS D).length = D.sp.length := by simp [spS]
 have hgi : ∀ i, i < D.gl.length → (glS D)[i]? = some ((rd_T95 D.gl i).f1.f0, (rd_T95 D.gl i).f1.f1) := fun i hi => by
  simp only [glS, List.getElem?_map, List.getElem?_eq_getElem hi, Option.map_some, gl_at _ _ hi]
 have hsi : ∀ i, i < D.sp.length → (spS D)[i]? = some ((rd_T24 D.sp i).f0, (rd_T24 D.sp i).f1) := fun i hi => by
  simp only [spS, List.getElem?_map, List.getElem?_eq_getElem hi, Option.map_some, sp_at _ _ hi]
 refine List.ext_getElem? (fun i => ?_)
 unfold spans8
 rw [List.getElem?_append, List.getElem?_append, List.getElem?_cons, List.getElem?_append]
 simp only [List.length_replicate, hl, hl2]
 by_cases h8 : i < 8
 ·
  rw [List.getElem?_eq_getElem (by rw [spansL_len]; exact h8), spansL_get]
  unfold spanF
  by_cases c1 : i < D.gl.length
  ·
   rw [if_pos c1, if_pos c1, hgi i c1]
  ·
   rw [if_neg c1, if_neg c1]
   by_cases c2 : i - D.gl.length < 3 - D.gl.length
   ·
    have c5 : ¬ (4 ≤ i ∧ i < 4 + D.sp.length) := fun x => by omega
    rw [if_pos c2, if_neg (show ¬ i = 3 by omega), if_neg c5, List.getElem?_replicate, if_pos c2]
   ·
    rw [if_neg c2]
    by_cases c3 : i = 3
    ·
     rw [if_pos c3, if_pos (show i - D.gl.length - (3 - D.gl.length) = 0 by omega)]
    ·
     rw [if_neg c3, if_neg (show ¬ (i - D.gl.length - (3 - D.gl.length) = 0) by omega)]
     have e : i - D.gl.length - (3 - D.gl.length) - 1 = i - 4 := by omega
     rw [e]
     by_cases c4 : i - 4 < D.sp.length
     ·
      have c5 : 4 ≤ i ∧ i < 4 + D.sp.length := ⟨by omega, by omega⟩
      rw [if_pos c5, if_pos c4, hsi _ c4]
     ·
      have c5 : ¬ (4 ≤ i ∧ i < 4 + D.sp.length) := fun x => c4 (by omega)
      rw [if_neg c5, if_neg c4, List.getElem?_replicate, if_pos (show i - 4 - D.sp.length < 4 - D.sp.length by omega)]
 ·
  rw [List.getElem?_eq_none (by rw [spansL_len]; omega), if_neg (by omega), if_neg (by omega), if_neg (by omega), if_neg (by omega), List.getElem?_replicate, if_neg (by omega)]
theorem truthsL_eq {D : Dat} (h : Valid D) (but : Nat) : truthsL D but = ((allD D).filter fun t => soB D but (fn (V8 t))).map V8 := by
 unfold truthsL
 rw [spans8_eq h, prod_vec, List.filter_map]
 rfl
theorem mem_all {D : Dat} (h : Valid D) {t : Tr} (ht : t ∈ allD D) : t.1.length = D.gl.length ∧ t.2.2.length = D.sp.length ∧ (∀ i, 0 ≤ fn (V8 t) i ∧ fn (V8 t) i ≤ 60) ∧ t.1 ∈ prodL (glS D) ∧ t.2.1 ∈ rng D.lo D.hi ∧ t.2.2 ∈ prodL (spS D) := by
 have h8 : V8 t ∈ prodL (spansL D) := by rw [spans8_eq h, prod_vec]; exact List.mem_map.2 ⟨t, ht, rfl⟩
 obtain ⟨a, ha, h2⟩ := List.mem_flatMap.1 ht
 obtain ⟨n, hn, h3⟩ := List.mem_flatMap.1 h2
 obtain ⟨b, hb, rfl⟩ := List.mem_map.1 h3
 exact ⟨by simpa [glS] using (mem_prodL _ _ ha).1, by simpa [spS] using (mem_prodL _ _ hb).1, (mem_spans h h8).2, ha, hn, hb⟩

section
variable {D : Dat} (h : Valid D) {t : Tr} (ht : t ∈ allD D)
include h ht
theorem V_least {g : Nat} (hg : g < D.gl.length) : rd t.1 (g : Int) = fn (V8 t) g := by
 obtain ⟨h1, h2, _⟩ := mem_all h ht
 rw [rd_nat]; exact (vec_least (by omega)).symm
theorem V_dull : t.2.1 = fn (V8 t) 3 := by
 obtain ⟨h1, h2, _⟩ := mem_all h ht
 have := h.g3
 exact (vec_dull (by omega)).symm
theorem V_size {i : Nat} (hi : i < D.sp.length) : rd t.2.2 (i : Int) = fn (V8 t) (4 + i) := by
 obtain ⟨h1, h2, _⟩ := mem_all h ht
 have := h.g3
 rw [rd_nat]; exact (vec_size (by omega) (by omega)).symm
theorem rSeen (F : List (List Int)) {i g : Nat} {y : Int} (hi : i < D.sp.length) (hg : g < D.gl.length) (hy : 0 ≤ y ∧ y ≤ 9) : r7_Seen.f t.1 t.2.1 t.2.2 F (i : Int) (g : Int) y = some (seenB (fn (V8 t)) g y i) := by
 obtain ⟨h1, h2, hr, _⟩ := mem_all h ht
 unfold r7_Seen.f
 rw [if_pos (by omega), if_pos (by omega), if_pos (by omega), if_pos (by omega), V_size h ht hi, V_least h ht hg, V_dull h ht]
 have m := mul_in (hr 3).1 (hr 3).2 hy.1 hy.2
 have hg60 := hr g
 have e1 : wrap64 (fn (V8 t) 3 * y) = fn (V8 t) 3 * y := wrapS (by omega)
 rw [e1, wrapS (by omega)]
 rfl
end
theorem seenTo_testBit (n : Nat → Int) (g : Nat) (y : Int) : ∀ (k i : Nat), (seenTo n g y k).testBit i = (decide (i < k) && seenB n g y i)
 | 0, i => by simp [seenTo]
 | k + 1, i => by
  have ih := seenTo_testBit n g y k i
  unfold seenTo
  by_cases hs : seenB n g y k = true
  ·
   rw [if_pos hs, Nat.testBit_or, ih, Nat.testBit_two_pow]
   by_cases e : i = k
   ·
    subst e; simp [hs]
   ·
    have h2 : decide (k = i) = false := by simp; omega
    rw [h2, Bool.or_false]
    congr 1
    rw [decide_eq_decide]; omega
  ·
   rw [if_neg hs, ih]
   by_cases e : i = k
   ·
    subst e; simp [hs]
   ·
    congr 1
    rw [decide_eq_decide]; omega
theorem half_bit (x i : Nat) : x / 2 ^ i = 2 * (x / 2 ^ (i + 1)) + if x.testBit i = true then 1 else 0 := by
 have h1 : x / 2 ^ (i + 1) = x / 2 ^ i / 2 := by rw [Nat.pow_succ, Nat.div_div_eq_div_mul]
 rw [h1, Nat.testBit_eq_decide_div_mod_eq]
 by_cases h : x / 2 ^ i % 2 = 1
 ·
  simp only [h, decide_true, if_true]; omega
 ·
  simp only [h, decide_false, Bool.false_eq_true, if_false]; omega
theorem rBits {D : Dat} (h : Valid D) {t : Tr} (ht : t ∈ allD D) (F : List (List Int)) {g : Nat} {y : Int} (hg : g < D.gl.length) (hy : 0 ≤ y ∧ y ≤ 9) : Ev (fun k => r7_Bits.f k t.1 t.2.1 t.2.2 F (g : Int) y) (seenTo (fn (V8 t)) g y D.sp.length : Int) := by
 obtain ⟨h1, h2, hr, _⟩ := mem_all h ht
 have hs4 := h.s4
 obtain ⟨X, hX⟩ : ∃ X, seenTo (fn (V8 t)) g y D.sp.length = X := ⟨_, rfl⟩
 have hXb : ∀ i, i < D.sp.length → X.testBit i = seenB (fn (V8 t)) g y i := fun i hi => by rw [← hX, seenTo_testBit]; simp [hi]
 have hlt : X < 2 ^ D.sp.length := by rw [← hX]; exact seenTo_lt _ _ _ _
 have h16 : 2 ^ D.sp.length ≤ 2 ^ 4 := Nat.pow_le_pow_right (by decide) hs4
 have h16' : (2 : Nat) ^ 4 = 16 := by decide
 have key : ∀ (i : Nat), i ≤ D.sp.length → Ev (fun k => r7_Bits.l0 k (g : Int) y ((X / 2 ^ i : Nat) : Int) ((i : Int) - 1) t.1 t.2.1 t.2.2 F) (X : Int) := by
  intro i
  induction i with
  | zero =>
   intro _
   refine Ev.step (f := fun _ => some (X : Int)) (fun k => ?_) (Ev.now _)
   simp only [r7_Bits.l0]
   rw [if_neg (by omega)]
   simp
  | succ i ih =>
   intro hi
   have hx : X / 2 ^ i ≤ 16 := Nat.le_trans (Nat.div_le_self _ _) (by omega)
   have hx' : X / 2 ^ (i + 1) ≤ 16 := Nat.le_trans (Nat.div_le_self _ _) (by omega)
   have hb := half_bit X i
   rw [hXb i (by omega)] at hb
   have hrs := rSeen h ht F (show i < D.sp.length by omega) hg hy
   refine Ev.step (f := fun k => r7_Bits.l0 k (g : Int) y ((X / 2 ^ i : Nat) : Int) ((i : Int) - 1) t.1 t.2.1 t.2.2 F) (fun k => ?_) (ih (by omega))
   have e : ((i + 1 : Nat) : Int) - 1 = (i : Int) := by omega
   simp only [r7_Bits.l0, e, hrs, Option.bind_some]
   rw [if_pos (by omega), wrapS (x := 2 * ((X / 2 ^ (i + 1) : Nat) : Int)) (by omega), wrapS (x := 2 * ((X / 2 ^ (i + 1) : Nat) : Int) + 1) (by omega), wrapS (x := (i : Int) - 1) (by omega)]
   generalize X / 2 ^ i = u at *
   generalize X / 2 ^ (i + 1) = v at *
   cases hsb : seenB (fn (V8 t)) g y i
   ·
    rw [hsb] at hb
    simp only [Bool.false_eq_true, if_false] at hb ⊢
    rw [hb]; congr 1
   ·
    rw [hsb] at hb
    simp only [if_true] at hb ⊢
    rw [hb]; congr 1
 have hk := key D.sp.length (Nat.le_refl _)
 rw [Nat.div_eq_of_lt hlt] at hk
 rw [hX]
 unfold r7_Bits.f
 rw [h2, wrapS (by omega)]
 exact hk
end Go.Proofs.Ytgoidclnccjdeaa.D
end
section
/- Package glass: the reference's truths are the program's. -/
namespace Go.Proofs.Ytgoidclnccjdeaa.D
open Go Go.RowKit Go.Proofs.YtgoidclnccjdeaaK Go.Proofs.YtgoidclnccjdeaaW.PrintWords Go.Proofs.YtgoidclnccjdeaaW.PrintLast Go.Proofs.YtgoidclnccjdeaaW.PrintMore Go.Proofs.Ytgoidclnccjdeaa.PR Go.Proofs.Ytgoidclnccjdeaa.M
set_option linter.unusedVariables false
set_option linter.unusedSimpArgs false

def usedL (D : Dat) (t : Tr) (d : Dr) : List Nat := (List.range D.gl.length).filter (thrB D (fn (V8 t)) d)
def DrIn (D : Dat) (d : Dr) : Prop := 0 ≤ d.f1 ∧ d.f1 ≤ 9
theorem usedL_any (D : Dat) (t : Tr) (d : Dr) : decide (0 < (ints (usedL D t d)).length) = soD D (fn (V8 t)) d D.gl.length := by
 unfold usedL soD ints
 rw [List.length_map, Bool.eq_iff_iff, decide_eq_true_eq, List.length_filter_pos_iff, List.any_eq_true]
theorem rUsed {D : Dat} (h : Valid D) {t : Tr} (ht : t ∈ allD D) (F : List (List Int)) (d : Dr) (hd : DrIn D d) :
  Ev (fun k => r7_used.f k D.gl D.lo D.hi D.sp D.dr t.1 t.2.1 t.2.2 F d.f0 d.f1 d.f2) (ints (usedL D t d)) := by
 have hg3 := h.g3
 have key : ∀ (m g : Nat), g + m = D.gl.length → Ev (fun k => r7_used.l0 k (ints ((List.range g).filter (thrB D (fn (V8 t)) d))) (g : Int) D.gl D.lo D.hi D.sp D.dr t.1 t.2.1 t.2.2 F d.f0 d.f1 d.f2) (ints (usedL D t d)) := by
  intro m
  induction m with
  | zero =>
   intro g hg
   obtain rfl : g = D.gl.length := by omega
   exact Ev.step (f := fun _ => some (ints (usedL D t d))) (fun k => by simp only [r7_used.l0]; rw [if_neg (by omega)]; rfl) (Ev.now _)
  | succ m ih =>
   intro g hg
   have hlt : g < D.gl.length := by omega
   have ih' := ih (g + 1) (by omega)
   have hll : (ints ((List.range g).filter (thrB D (fn (V8 t)) d))).length ≤ 3 := by
    unfold ints; rw [List.length_map]
    exact Nat.le_trans (List.length_filter_le _ _) (by simp; omega)
   have hnx : (List.range (g + 1)).filter (thrB D (fn (V8 t)) d) = (List.range g).filter (thrB D (fn (V8 t)) d) ++ if thrB D (fn (V8 t)) d g = true then [g] else [] := by
    rw [List.range_succ, List.filter_append]
    congr 1
    cases hpb : thrB D (fn (V8 t)) d g <;> simp [hpb]
   have hB := rBits h ht F hlt hd
   have hth : thrB D (fn (V8 t)) d g = ((d.f0 == -1 || d.f0 == (g : Int)) && ((seenTo (fn (V8 t)) g d.f1 D.sp.length : Nat) : Int) == d.f2) := rfl
   obtain ⟨acc, hacc⟩ : ∃ acc, (List.range g).filter (thrB D (fn (V8 t)) d) = acc := ⟨_, rfl⟩
   rw [hacc] at hnx hll ⊢
   rw [hnx] at ih'
   obtain ⟨st, hst⟩ : ∃ st, seenTo (fn (V8 t)) g d.f1 D.sp.length = st := ⟨_, rfl⟩
   rw [hst] at hB hth
   have hins : ∀ l : List Nat, ints (l ++ [g]) = ints l ++ [(g : Int)] := fun l => by simp [ints]
   have hcore : Ev (fun k => (r7_Bits.f k t.1 t.2.1 t.2.2 F (g : Int) d.f1).bind fun b => if b = d.f2 then r7_used.l0 k (ints acc ++ [(g : Int)]) ((g + 1 : Nat) : Int) D.gl D.lo D.hi D.sp D.dr t.1 t.2.1 t.2.2 F d.f0 d.f1 d.f2 else r7_used.l0 k (ints acc) ((g + 1 : Nat) : Int) D.gl D.lo D.hi D.sp D.dr t.1 t.2.1 t.2.2 F d.f0 d.f1 d.f2) (ints (usedL D t d)) ∨ (d.f0 ≠ -1 ∧ d.f0 ≠ (g : Int)) := by
    by_cases h1 : d.f0 = -1 ∨ d.f0 = (g : Int)
    ·
     left
     have ho : (d.f0 == -1 || d.f0 == (g : Int)) = true := by rcases h1 with h1 | h1 <;> simp [h1]
     rw [ho, Bool.true_and] at hth
     refine Ev.bind hB ?_
     by_cases h2 : (st : Int) = d.f2
     ·
      have : thrB D (fn (V8 t)) d g = true := by rw [hth]; simp [h2]
      rw [this, if_pos rfl, hins] at ih'
      simp only [if_pos h2]; exact ih'
     ·
      have : thrB D (fn (V8 t)) d g = false := by rw [hth]; simp [h2]
      rw [this] at ih'
      simp only [if_neg h2]; simpa using ih'
    ·
     right; exact ⟨fun x => h1 (.inl x), fun x => h1 (.inr x)⟩
   rcases hcore with hcore | ⟨n1, n2⟩
   ·
    by_cases h1 : d.f0 = -1 ∨ d.f0 = (g : Int)
    ·
     refine Ev.step (fun k => ?_) hcore
     simp only [r7_used.l0]
     rw [if_pos (by omega)]
     have hk : ints acc = ints acc := rfl
     by_cases e1 : d.f0 = -1
     ·
      rw [if_pos e1]
      congr 1
      funext b
      rw [if_pos (show (ints acc).length < 17592186044416 by omega), wrapN (by omega)]
     ·
      rw [if_neg e1, if_pos (h1.resolve_left e1)]
      congr 1
      funext b
      rw [if_pos (show (ints acc).length < 17592186044416 by omega), wrapN (by omega)]
    ·
     have n1 : d.f0 ≠ -1 := fun x => h1 (.inl x)
     have n2 : d.f0 ≠ (g : Int) := fun x => h1 (.inr x)
     have : thrB D (fn (V8 t)) d g = false := by rw [hth]; simp [n1, n2]
     rw [this] at ih'
     refine Ev.step (f := fun k => r7_used.l0 k (ints acc) ((g + 1 : Nat) : Int) D.gl D.lo D.hi D.sp D.dr t.1 t.2.1 t.2.2 F d.f0 d.f1 d.f2) (fun k => ?_) (by simpa using ih')
     simp only [r7_used.l0]
     rw [if_pos (by omega), if_neg n1, if_neg n2, wrapN (by omega)]
   ·
    have : thrB D (fn (V8 t)) d g = false := by rw [hth]; simp [n1, n2]
    rw [this] at ih'
    refine Ev.step (f := fun k => r7_used.l0 k (ints acc) ((g + 1 : Nat) : Int) D.gl D.lo D.hi D.sp D.dr t.1 t.2.1 t.2.2 F d.f0 d.f1 d.f2) (fun k => ?_) (by simpa using ih')
    simp only [r7_used.l0]
    rw [if_pos (by omega), if_neg n1, if_neg n2, wrapN (by omega)]
 exact key D.gl.length 0 (by omega)

def ownL (D : Dat) (but : List Int) (t : Tr) (i : Nat) : List Int := if hasB but i = true then [] else ints (usedL D t (rd_T72 D.dr i))
def okI (D : Dat) (but : List Int) (t : Tr) (i : Nat) : Bool := hasB but i || soD D (fn (V8 t)) (rd_T72 D.dr i) D.gl.length
theorem rOne {D : Dat} (h : Valid D) {t : Tr} (ht : t ∈ allD D) (but : List Int) (hb : but.length ≤ 1000) (acc F : List (List Int)) (i : Nat) (hi : i < D.dr.length) :
  Ev (fun k => r7_Truths.one k D.gl D.lo D.hi D.sp D.dr but ⟨t.1, t.2.1, t.2.2, F⟩ acc i) (ownL D but t i, okI D but t i) := by
 unfold r7_Truths.one ownL okI
 refine Ev.bind (rHas but hb i) ?_
 cases hh : hasB but i
 ·
  simp only [Bool.false_eq_true, if_false, Bool.false_or]
  have hd := h.dr i hi
  have hu := rUsed h ht acc (rd_T72 D.dr (i : Int)) ⟨hd.2.2.1, hd.2.2.2.1⟩
  refine Ev.bind (f := fun _ o => some (o, decide (0 < o.length))) hu ?_
  simp only [usedL_any]
  exact Ev.now _
 ·
  simp only [if_true, Bool.true_or]
  exact Ev.now _
theorem rRow {D : Dat} (h : Valid D) {t : Tr} (ht : t ∈ allD D) (but : List Int) (hb : but.length ≤ 1000) (F : List (List Int)) : ∀ (n i : Nat) (acc : List (List Int)), i + n = D.dr.length → acc.length + n ≤ 1000 →
  ∃ p : Bool × List (List Int), Ev (fun k => r7_Truths.row k D.gl D.lo D.hi D.sp D.dr but ⟨t.1, t.2.1, t.2.2, F⟩ n i acc) p ∧ p.1 = ((List.range' i n).all fun j => okI D but t j) ∧ (p.1 = true → p.2 = acc ++ (List.range' i n).map (ownL D but t))
 | 0, i, acc, hi, hl => ⟨(true, acc), Ev.now _, by simp, fun _ => by simp⟩
 | n + 1, i, acc, hi, hl => by
  obtain ⟨p, hp, hp1, hp2⟩ := rRow h ht but hb F n (i + 1) (acc ++ [ownL D but t i]) (by omega) (by simp; omega)
  have h1 := rOne h ht but hb acc F i (by omega)
  cases ho : okI D but t i
  ·
   rw [ho] at h1
   refine ⟨(false, acc ++ [ownL D but t i]), ?_, ?_, fun x => by cases x⟩
   ·
    refine Ev.congr (fun k => by simp only [r7_Truths.row]; rw [if_pos (by omega)]) (Ev.bind (f := fun k q => if q.2 = true then r7_Truths.row k D.gl D.lo D.hi D.sp D.dr but ⟨t.1, t.2.1, t.2.2, F⟩ n (i + 1) (acc ++ [q.1]) else some (false, acc ++ [q.1])) h1 ?_)
    simp only [Bool.false_eq_true, if_false]
    exact Ev.now _
   ·
    rw [List.range'_succ, List.all_cons, ho]; rfl
  ·
   rw [ho] at h1
   refine ⟨p, ?_, ?_, fun x => ?_⟩
   ·
    refine Ev.congr (fun k => by simp only [r7_Truths.row]; rw [if_pos (by omega)]) (Ev.bind (f := fun k q => if q.2 = true then r7_Truths.row k D.gl D.lo D.hi D.sp D.dr but ⟨t.1, t.2.1, t.2.2, F⟩ n (i + 1) (acc ++ [q.1]) else some (false, acc ++ [q.1])) h1 ?_)
    simp only [if_true]
    exact hp
   ·
    rw [hp1, List.range'_succ, List.all_cons, ho]; rfl
   ·
    rw [hp2 x, List.range'_succ, List.map_cons, List.append_assoc]; rfl
def trU (D : Dat) (but : List Int) (t : Tr) : S56 := ⟨t.1, t.2.1, t.2.2, (List.range D.dr.length).map (ownL D but t)⟩
def okT (D : Dat) (but : List Int) (t : Tr) : Bool := (List.range D.dr.length).all fun j => okI D but t j
def truthsR (D : Dat) (but : List Int) : List S56 := ((allD D).filter (okT D but)).map (trU D but)
theorem rGo {D : Dat} (h : Valid D) (but : List Int) (hb : but.length ≤ 1000) : ∀ (l : List Tr) (out : List S56), (∀ t ∈ l, t ∈ allD D) → out.length + l.length ≤ 100000 →
  Ev (fun k => r7_Truths.go k D.gl D.lo D.hi D.sp D.dr but (l.map tr0) out) (out ++ (l.filter (okT D but)).map (trU D but))
 | [], out, hl, hn => by simpa [r7_Truths.go] using Ev.now out
 | t :: l, out, hl, hn => by
  have ht := hl t (List.mem_cons_self ..)
  have hd4 := h.d4
  obtain ⟨p, hp, hp1, hp2⟩ := rRow h ht but hb [] D.dr.length 0 [] (by omega) (by simp; omega)
  have hr : List.range' 0 D.dr.length = List.range D.dr.length := List.range_eq_range'.symm
  rw [hr] at hp1 hp2
  simp only [List.length_cons] at hn
  refine Ev.congr (fun k => by simp only [List.map_cons, r7_Truths.go]; rw [if_pos (by omega)]) (Ev.bind (f := fun k q => if q.1 = true then r7_Truths.go k D.gl D.lo D.hi D.sp D.dr but (l.map tr0) (out ++ [⟨t.1, t.2.1, t.2.2, q.2⟩]) else r7_Truths.go k D.gl D.lo D.hi D.sp D.dr but (l.map tr0) out) hp ?_)
  have hok : p.1 = okT D but t := hp1
  cases ho : okT D but t
  ·
   rw [ho] at hok
   rw [List.filter_cons_of_neg (by rw [ho]; simp)]
   simp only [hok, Bool.false_eq_true, if_false]
   exact rGo h but hb l out (fun x hx => hl x (List.mem_cons_of_mem _ hx)) (by omega)
  ·
   rw [ho] at hok
   rw [List.filter_cons_of_pos ho, List.map_cons]
   have e := hp2 hok
   simp only [hok, if_true, e, List.nil_append]
   have := rGo h but hb l (out ++ [trU D but t]) (fun x hx => hl x (List.mem_cons_of_mem _ hx)) (by simp; omega)
   rw [List.append_assoc] at this
   exact this
theorem allD_len {D : Dat} (h : Valid D) : (allD D).length ≤ 6561 := by
 have h1 := prodL_len (spansL D) (fun s hs => by
  obtain ⟨k, _, rfl⟩ := List.mem_map.1 hs
  exact spanF_wide h k)
 rw [spans8_eq h, prod_vec, List.length_map, ← spans8_eq h, spansL_len] at h1
 exact Nat.le_trans h1 (by decide)
theorem rTruths {D : Dat} (h : Valid D) (but : List Int) (hb : but.length ≤ 1000) : Ev (fun k => r7_Truths.f k D.gl D.lo D.hi D.sp D.dr but) (truthsR D but) := by
 unfold r7_Truths.f
 refine Ev.bind (rAll h) ?_
 have := rGo h but hb (allD D) [] (fun t ht => ht) (by have := allD_len h; simp; omega)
 simpa [truthsR] using this
def setIs (D : Dat) (but : List Int) (set : Nat) : Prop := ∀ i, i < D.dr.length → hasB but i = set.testBit i
theorem okT_so {D : Dat} {but : List Int} {set : Nat} (hs : setIs D but set) (t : Tr) : okT D but t = soB D set (fn (V8 t)) := by
 unfold okT soB soTo okI
 rw [Bool.eq_iff_iff, List.all_eq_true, List.all_eq_true]
 constructor
 ·
  intro hh i hi; have := hh i hi; rw [hs i (List.mem_range.1 hi)] at this; exact this
 ·
  intro hh i hi; have := hh i hi; rw [hs i (List.mem_range.1 hi)]; exact this
theorem truths_same {D : Dat} (h : Valid D) {but : List Int} {set : Nat} (hs : setIs D but set) : truthsL D set = ((allD D).filter (okT D but)).map V8 := by
 rw [truthsL_eq h]
 congr 1
 refine List.filter_congr fun t _ => (okT_so hs t).symm
theorem setIs_nil (D : Dat) : setIs D [] 0 := fun i _ => by simp [hasB]
end Go.Proofs.Ytgoidclnccjdeaa.D
end
section
namespace Go.Proofs.Ytgoidclnccjdeaa.PR
open Go.RowKit Go.Proofs.YtgoidclnccjdeaaW.PrintWords Go.Proofs.YtgoidclnccjdeaaW.PrintLast Go.Proofs.YtgoidclnccjdeaaW.PrintMore
attribute [local go_sem] max2_int min2_int max_two min_two max_three min_three max_four min_four   -- for this text's walks alone
set_option linter.unusedVariables false
set_option linter.unusedSimpArgs false

def r7_dated.f (a0 : Int) (a1 : Int) : Option (Int) := if a0 = 0 then ((r1_In.f a1 0 9).bind fun t293 => (if t293 = true then (some a0) else (some 7))) else (some a0)
set_option maxHeartbeats 8000000 in
set_option maxRecDepth 100000 in
theorem r7_dated.calls (a0 : Int) (a1 : Int) (r : Int) (w : World) (h : r7_dated.f a0 a1 = some r) :
  Calls Try.prog 101 #[.int .i64 a0, .int .i64 a1] w fun e w' => e = .returned (.int .i64 r) ∧ Drawn0 w w' := by
 have H : (if a0 = 0 then ((r1_In.f a1 0 9).bind fun t293 => (if t293 = true then (some a0) else (some 7))) else (some a0)) = some r := h
 clear h
 by_cases c3 : a0 = 0
 ·
  rw [if_pos c3] at H
  have c3b0 : (a0 == 0) = true := beq_iff_eq.mpr c3
  have c3b1 : (a0 != 0) = false := bne_eq_false_iff_eq.mpr c3
  clear c3
  replace H := Option.bind_eq_some_iff.mp H
  obtain ⟨t293, A40, H⟩ := H
  replace H : (if t293 = true then (some a0) else (some 7)) = some r := H
  have A4 := Aside0.mk A40
  clear A40
  by_cases c5 : t293 = true
  ·
   subst c5
   have H1 : (some a0) = some r := by rw [if_pos rfl] at H; exact H
   clear H
   have H := H1
   clear H1
   obtain rfl := Option.some.inj H
   go_enter Try.func101, Try.ntmps101
   go_wp2_with (first | (go_at_call 85; (with_reducible refine (r1_In.calls a1 0 9 true _ A4.out).mono ?_); rintro e w' ⟨rfl, ⟨nd, rfl⟩⟩))
   go_ret
   exact ⟨by first | rfl | (simp; done) | (simp [*]; done), by repeat (first | exact Drawn0.refl _ | apply Drawn0.step)⟩
  ·
   replace c5 := Bool.eq_false_iff.mpr c5
   subst c5
   have H1 : (some 7) = some r := by rw [if_neg (show ¬ (false = true) by decide)] at H; exact H
   clear H
   have H := H1
   clear H1
   obtain rfl := Option.some.inj H
   go_enter Try.func101, Try.ntmps101
   go_wp2_with (first | (go_at_call 85; (with_reducible refine (r1_In.calls a1 0 9 false _ A4.out).mono ?_); rintro e w' ⟨rfl, ⟨nd, rfl⟩⟩))
   go_ret
   exact ⟨by first | rfl | (simp; done) | (simp [*]; done), by repeat (first | exact Drawn0.refl _ | apply Drawn0.step)⟩
 ·
  rw [if_neg c3] at H
  have c3b0 : (a0 == 0) = false := beq_eq_false_iff_ne.mpr c3
  have c3b1 : (a0 != 0) = true := bne_iff_ne.mpr c3
  obtain rfl := Option.some.inj H
  go_enter Try.func101, Try.ntmps101
  go_wp2
  go_ret
  exact ⟨by first | rfl | (simp; done) | (simp [*]; done), by repeat (first | exact Drawn0.refl _ | apply Drawn0.step)⟩

def r7_seen.l0 : Nat → List (S56) → Int → Int → Int → Int → Int → Option (Int)
 | 0, _, _, _, _, _, _ => none
 | k + 1, x0, x1, x2, x3, x9, x10 => if x10 < (x0.length : Int) then (if 0 ≤ x10 then ((r7_Seen.f ((rd_T56 x0 x10).f0) ((rd_T56 x0 x10).f1) ((rd_T56 x0 x10).f2) ((rd_T56 x0 x10).f3) x1 x2 x3).bind fun t295 => (if t295 = true then (r7_seen.l0 k x0 x1 x2 x3 (wrap64 (x9 + 1)) (wrap64 (x10 + 1))) else (r7_seen.l0 k x0 x1 x2 x3 x9 (wrap64 (x10 + 1))))) else (none)) else ((r1_Settled.f x9 (x0.length : Int)).bind fun t296 => (some t296))
def r7_seen.f (k : Nat) (l0 : List (S56)) (a1 : Int) (a2 : Int) (a3 : Int) : Option (Int) := r7_seen.l0 k l0 a1 a2 a3 0 0
set_option maxHeartbeats 8000000 in
set_option maxRecDepth 100000 in
theorem r7_seen.calls (k : Nat) (A0 : Option Addr) (c0 : Nat) (l0 : List (S56)) (a1 : Int) (a2 : Int) (a3 : Int) (r : Int) (w : World) (hr0 : Kd.C k56 w A0 l0.length l0) (hc0 : l0.length ≤ c0) (h : r7_seen.f k l0 a1 a2 a3 = some r) :
  Calls Try.prog 102 #[.slice A0 l0.length c0, .int .i64 a1, .int .i64 a2, .int .i64 a3] w fun e w' => e = .returned (.int .i64 r) ∧ Below w.heap.size w w' := by
 have hu56 := Try.underlying56
 have HR0 := Aside0.mk hr0
 have HC0 := Aside0.mk hc0
 clear hr0 hc0
 have HB := Aside0.mk (Below.refl w.heap.size w)
 have H : (r7_seen.l0 k l0 a1 a2 a3 0 0) = some r := h
 clear h
 have H' := Aside0.mk H
 clear H
 go_enter Try.func102, Try.ntmps102
 go_wp2
 go_loopg [9, 10] k (fun kq v9 v10 w' => ∃ (x9_1 : Int) (x10_1 : Int), v9 = .int .i64 x9_1 ∧ v10 = .int .i64 x10_1 ∧ Aside0 (r7_seen.l0 kq l0 a1 a2 a3 x9_1 x10_1 = some r) ∧ Aside0 (kq ≤ k) ∧ Aside0 (Below w.heap.size w w'))
 case atStart => exact ⟨(0), (0), (by first | rfl | (simp; done) | (simp [*]; done)), (by first | rfl | (simp; done) | (simp [*]; done)), H', ⟨Nat.le_refl _⟩, ⟨by repeat (first | (with_reducible first | exact HB.out | apply below_alloc | apply pw_below_drewN | apply below_drew1) | exact HB.out)⟩⟩
 case round =>
  clear H'
  try clear c1
  try clear p2
  obtain ⟨x9_1, x10_1, rfl, rfl, HA, HK1, HB⟩ := hrel
  cases gk with
  | zero => exact absurd HA.out (by simp [r7_seen.l0])
  | succ k1 =>
   have H := HA.out
   clear HA
   simp only [r7_seen.l0] at H
   by_cases c5 : x10_1 < (l0.length : Int)
   ·
    rw [if_pos c5] at H
    have c5b0 : decide (x10_1 < (l0.length : Int)) = true := decide_eq_true c5
    clear c5
    by_cases c6 : 0 ≤ x10_1
    ·
     rw [if_pos c6] at H
     have c6b0 : decide (0 ≤ x10_1) = true := decide_eq_true c6
     clear c6
     replace H := Option.bind_eq_some_iff.mp H
     obtain ⟨t295, A70, H⟩ := H
     replace H : (if t295 = true then (r7_seen.l0 k1 l0 a1 a2 a3 (wrap64 (x9_1 + 1)) (wrap64 (x10_1 + 1))) else (r7_seen.l0 k1 l0 a1 a2 a3 x9_1 (wrap64 (x10_1 + 1)))) = some r := H
     have A7 := Aside0.mk A70
     clear A70
     by_cases c8 : t295 = true
     ·
      subst c8
      have H1 : (r7_seen.l0 k1 l0 a1 a2 a3 (wrap64 (x9_1 + 1)) (wrap64 (x10_1 + 1))) = some r := by rw [if_pos rfl] at H; exact H
      clear H
      have H := H1
      clear H1
      have H' := Aside0.mk H
      clear H
      have p294 : 0 ≤ (x10_1 : Int) := of_decide_eq_true (by first | (with_reducible assumption) | assumption)
      have q294 : x10_1 < (l0.length : Int) := of_decide_eq_true (by first | (with_reducible assumption) | assumption)
      obtain ⟨ad294, A294_0, c294_0, A294_2, c294_2, A294_3, c294_3, e294, hx294_0, hx294_1, hx294_2, hx294_3, hl294_0, hi294_0, hl294_2, hi294_2, hl294_3, hi294_3⟩ := at_T56 HR0.out x10_1 p294 q294
      cases e294
      replace hx294_0 := (HB.out.cell (World.block_lt_of_cell? w _ hx294_0)).trans hx294_0
      replace hx294_1 := (HB.out.cell (World.block_lt_of_cell? w _ hx294_1)).trans hx294_1
      replace hx294_2 := (HB.out.cell (World.block_lt_of_cell? w _ hx294_2)).trans hx294_2
      replace hx294_3 := (HB.out.cell (World.block_lt_of_cell? w _ hx294_3)).trans hx294_3
      have HR294_0 := Aside0.mk hi294_0
      have HC294_0 := Aside0.mk hl294_0
      clear hi294_0 hl294_0
      have HR294_2 := Aside0.mk hi294_2
      have HC294_2 := Aside0.mk hl294_2
      clear hi294_2 hl294_2
      have HR294_3 := Aside0.mk hi294_3
      have HC294_3 := Aside0.mk hl294_3
      clear hi294_3 hl294_3
      replace p294 := eq_true p294
      replace q294 := eq_true q294
      go_wp2_with (first | ((with_reducible refine gate_callee (f := 42) rfl ?_); refine goesL_ (some 24) rfl rfl Try.func42 (by kernel_rfl) rfl #[.agg #[.slice A294_0 ((rd_T56 l0 x10_1).f0).length c294_0, .int .i64 ((rd_T56 l0 x10_1).f1), .slice A294_2 ((rd_T56 l0 x10_1).f2).length c294_2, .slice A294_3 ((rd_T56 l0 x10_1).f3).length c294_3], .int .i64 a1, .int .i64 a2, .int .i64 a3] rfl (by (try simp only [List.map_toArray, List.map_cons, List.map_nil]); first | done | rfl | (simp only [List.length_drop, List.length_take]; rfl)) ?_; (with_reducible refine (r7_Seen.calls _ _ ((rd_T56 l0 x10_1).f0) ((rd_T56 l0 x10_1).f1) _ _ ((rd_T56 l0 x10_1).f2) _ _ ((rd_T56 l0 x10_1).f3) a1 a2 a3 true _ ?side1 ?side2 ?side3 ?side4 ?side5 ?side6 A7.out).mono ?_); (case side1 => repeat (first | exact (Kd.C_below HR294_0.out HB.out) | (with_reducible refine Kd.C_alloc ?_ _) | (with_reducible refine Kd.C_drewN ?_ _) | (with_reducible refine Kd.C_drew ?_))); (case side2 => exact HC294_0.out); (case side3 => repeat (first | exact (Kd.C_below HR294_2.out HB.out) | (with_reducible refine Kd.C_alloc ?_ _) | (with_reducible refine Kd.C_drewN ?_ _) | (with_reducible refine Kd.C_drew ?_))); (case side4 => exact HC294_2.out); (case side5 => repeat (first | exact (Kd.C_below HR294_3.out HB.out) | (with_reducible refine Kd.C_alloc ?_ _) | (with_reducible refine Kd.C_drewN ?_ _) | (with_reducible refine Kd.C_drew ?_))); (case side6 => exact HC294_3.out); rintro e w9 ⟨rfl, hb⟩; refine ⟨_, rfl, ?_⟩; have n0_ := Aside0.mk (below_step (by repeat (first | (with_reducible first | exact HB.out | apply below_alloc | apply pw_below_drewN | apply below_drew1) | exact HB.out)) hb); clear HB; have HB := n0_; clear n0_; (try clear hb); (try clear hb2); (try clear hk); (try clear hi)))
      go_roundg k1
      case measure => have := HK1.out; omega
      case rel => exact ⟨(wrap64 (x9_1 + 1)), (wrap64 (x10_1 + 1)), (by first | rfl | (simp; done) | (simp [*]; done)), (by first | rfl | (simp; done) | (simp [*]; done)), H', ⟨by have := HK1.out; omega⟩, ⟨by repeat (first | (with_reducible first | exact HB.out | apply below_alloc | apply pw_below_drewN | apply below_drew1) | exact HB.out)⟩⟩
     ·
      replace c8 := Bool.eq_false_iff.mpr c8
      subst c8
      have H1 : (r7_seen.l0 k1 l0 a1 a2 a3 x9_1 (wrap64 (x10_1 + 1))) = some r := by rw [if_neg (show ¬ (false = true) by decide)] at H; exact H
      clear H
      have H := H1
      clear H1
      have H' := Aside0.mk H
      clear H
      have p294 : 0 ≤ (x10_1 : Int) := of_decide_eq_true (by first | (with_reducible assumption) | assumption)
      have q294 : x10_1 < (l0.length : Int) := of_decide_eq_true (by first | (with_reducible assumption) | assumption)
      obtain ⟨ad294, A294_0, c294_0, A294_2, c294_2, A294_3, c294_3, e294, hx294_0, hx294_1, hx294_2, hx294_3, hl294_0, hi294_0, hl294_2, hi294_2, hl294_3, hi294_3⟩ := at_T56 HR0.out x10_1 p294 q294
      cases e294
      replace hx294_0 := (HB.out.cell (World.block_lt_of_cell? w _ hx294_0)).trans hx294_0
      replace hx294_1 := (HB.out.cell (World.block_lt_of_cell? w _ hx294_1)).trans hx294_1
      replace hx294_2 := (HB.out.cell (World.block_lt_of_cell? w _ hx294_2)).trans hx294_2
      replace hx294_3 := (HB.out.cell (World.block_lt_of_cell? w _ hx294_3)).trans hx294_3
      have HR294_0 := Aside0.mk hi294_0
      have HC294_0 := Aside0.mk hl294_0
      clear hi294_0 hl294_0
      have HR294_2 := Aside0.mk hi294_2
      have HC294_2 := Aside0.mk hl294_2
      clear hi294_2 hl294_2
      have HR294_3 := Aside0.mk hi294_3
      have HC294_3 := Aside0.mk hl294_3
      clear hi294_3 hl294_3
      replace p294 := eq_true p294
      replace q294 := eq_true q294
      go_wp2_with (first | ((with_reducible refine gate_callee (f := 42) rfl ?_); refine goesL_ (some 24) rfl rfl Try.func42 (by kernel_rfl) rfl #[.agg #[.slice A294_0 ((rd_T56 l0 x10_1).f0).length c294_0, .int .i64 ((rd_T56 l0 x10_1).f1), .slice A294_2 ((rd_T56 l0 x10_1).f2).length c294_2, .slice A294_3 ((rd_T56 l0 x10_1).f3).length c294_3], .int .i64 a1, .int .i64 a2, .int .i64 a3] rfl (by (try simp only [List.map_toArray, List.map_cons, List.map_nil]); first | done | rfl | (simp only [List.length_drop, List.length_take]; rfl)) ?_; (with_reducible refine (r7_Seen.calls _ _ ((rd_T56 l0 x10_1).f0) ((rd_T56 l0 x10_1).f1) _ _ ((rd_T56 l0 x10_1).f2) _ _ ((rd_T56 l0 x10_1).f3) a1 a2 a3 false _ ?side1 ?side2 ?side3 ?side4 ?side5 ?side6 A7.out).mono ?_); (case side1 => repeat (first | exact (Kd.C_below HR294_0.out HB.out) | (with_reducible refine Kd.C_alloc ?_ _) | (with_reducible refine Kd.C_drewN ?_ _) | (with_reducible refine Kd.C_drew ?_))); (case side2 => exact HC294_0.out); (case side3 => repeat (first | exact (Kd.C_below HR294_2.out HB.out) | (with_reducible refine Kd.C_alloc ?_ _) | (with_reducible refine Kd.C_drewN ?_ _) | (with_reducible refine Kd.C_drew ?_))); (case side4 => exact HC294_2.out); (case side5 => repeat (first | exact (Kd.C_below HR294_3.out HB.out) | (with_reducible refine Kd.C_alloc ?_ _) | (with_reducible refine Kd.C_drewN ?_ _) | (with_reducible refine Kd.C_drew ?_))); (case side6 => exact HC294_3.out); rintro e w10 ⟨rfl, hb⟩; refine ⟨_, rfl, ?_⟩; have n0_ := Aside0.mk (below_step (by repeat (first | (with_reducible first | exact HB.out | apply below_alloc | apply pw_below_drewN | apply below_drew1) | exact HB.out)) hb); clear HB; have HB := n0_; clear n0_; (try clear hb); (try clear hb2); (try clear hk); (try clear hi)))
      go_roundg k1
      case measure => have := HK1.out; omega
      case rel => exact ⟨(x9_1), (wrap64 (x10_1 + 1)), (by first | rfl | (simp; done) | (simp [*]; done)), (by first | rfl | (simp; done) | (simp [*]; done)), H', ⟨by have := HK1.out; omega⟩, ⟨by repeat (first | (with_reducible first | exact HB.out | apply below_alloc | apply pw_below_drewN | apply below_drew1) | exact HB.out)⟩⟩
    ·
     rw [if_neg c6] at H
     exact absurd H (by simp)
   ·
    rw [if_neg c5] at H
    have c5b0 : decide (x10_1 < (l0.length : Int)) = false := decide_eq_false c5
    clear c5
    replace H := Option.bind_eq_some_iff.mp H
    obtain ⟨t296, A110, H⟩ := H
    replace H : (some t296) = some r := H
    have A11 := Aside0.mk A110
    clear A110
    obtain rfl := Option.some.inj H
    go_wp2_with (first | ((with_reducible refine gate_callee (f := 106) rfl ?_); refine goesL_ (some 30) rfl rfl Try.func106 (by kernel_rfl) rfl #[.int .i64 x9_1, .int .i64 (l0.length : Int)] rfl (by (try simp only [List.map_toArray, List.map_cons, List.map_nil]); first | done | rfl | (simp only [List.length_drop, List.length_take]; rfl)) ?_; (with_reducible refine (r1_Settled.calls x9_1 (l0.length : Int) t296 _ A11.out).mono ?_); rintro e w' ⟨rfl, ⟨nd, rfl⟩⟩; refine ⟨_, rfl, ?_⟩))
    go_ret
    exact ⟨by first | rfl | (simp [errW_none, errW_some] <;> rfl) | (simp [*, errW_none, errW_some] <;> rfl), by repeat (first | (with_reducible first | exact HB.out | apply below_alloc | apply pw_below_drewN | apply below_drew1) | exact HB.out)⟩

def r7_Sees.l0 : Nat → Int → Int → List (S56) → List Int → List Int → Int → List (S95) → Int → Int → List (S24) → List (S72) → Option (List Int × List Int × Int)
 | 0, _, _, _, _, _, _, _, _, _, _, _ => none
 | k + 1, x1, x2, x9, x11, x12, x13, x298000, x298001, x298002, x298003, x298004 => if x13 < (x298003.length : Int) then ((r7_seen.f k x9 x13 x1 x2).bind fun t304 => (if t304 = 1 then (if x11.length < 17592186044416 then ((some (x11 ++ [x13] : List Int)).bind fun y305 => (if t304 = 2 then (r7_Sees.l0 k x1 x2 x9 y305 x12 (wrap64 (x13 + 1)) x298000 x298001 x298002 x298003 x298004) else (if x12.length < 17592186044416 then (r7_Sees.l0 k x1 x2 x9 y305 (x12 ++ [x13]) (wrap64 (x13 + 1)) x298000 x298001 x298002 x298003 x298004) else (none)))) else (none)) else (if t304 = 2 then (r7_Sees.l0 k x1 x2 x9 x11 x12 (wrap64 (x13 + 1)) x298000 x298001 x298002 x298003 x298004) else (if x12.length < 17592186044416 then (r7_Sees.l0 k x1 x2 x9 x11 (x12 ++ [x13]) (wrap64 (x13 + 1)) x298000 x298001 x298002 x298003 x298004) else (none))))) else (some (x11, x12, 0))
def r7_Sees.f (k : Nat) (l0_0 : List (S95)) (a0_1 : Int) (a0_2 : Int) (l0_3 : List (S24)) (l0_4 : List (S72)) (a1 : Int) (a2 : Int) : Option (List Int × List Int × Int) := (r7_index.f k l0_0 a0_1 a0_2 l0_3 l0_4 a1 (l0_0.length : Int)).bind fun t298 => ((r7_dated.f t298 a2).bind fun t299 => ((r7_known.f k l0_0 a0_1 a0_2 l0_3 l0_4 t299).bind fun bt300 => (if bt300.2 = 0 then (r7_Sees.l0 k a1 a2 bt300.1 ([] : List Int) ([] : List Int) 0 l0_0 a0_1 a0_2 l0_3 l0_4) else (some (([] : List Int), ([] : List Int), bt300.2)))))
def r7_Sees.T1 : Bool × List (List Nat × List Nat) := (true, [([], []), ([], []), ([], []), ([], []), ([3], [3]), ([4], [4]), ([1, 2, 5], [1, 2, 5]), ([], []), ([6, 7, 6], [6, 7]), ([0, 8, 8], [0, 8]), ([9], [9]), ([10], [10]), ([10], [10]), ([11, 9, 0, 1, 2, 3, 4, 5, 6, 7, 8, 9, 10, 11], [11]), ([12, 13, 0, 1, 2, 3, 4, 5, 6, 7, 8, 9, 10, 11, 12, 13], [12])])
def r7_Sees.B1 : List Nat := [0, 0, 0, 0, 8, 24, 62, 0, 254, 511, 1023, 2047, 2047, 4095, 16383]
theorem r7_Sees.tab1 : rtab .any (opsOf Try.f30 1) = r7_Sees.T1 := by kernel_rfl
theorem r7_Sees.bits1 : waitsOk r7_Sees.T1.2 r7_Sees.B1 = true := by kernel_rfl
set_option maxHeartbeats 8000000 in
set_option maxRecDepth 100000 in
theorem r7_Sees.calls (k : Nat) (A0_0 : Option Addr) (c0_0 : Nat) (l0_0 : List (S95)) (a0_1 : Int) (a0_2 : Int) (A0_3 : Option Addr) (c0_3 : Nat) (l0_3 : List (S24)) (A0_4 : Option Addr) (c0_4 : Nat) (l0_4 : List (S72)) (a1 : Int) (a2 : Int) (r1 : List Int) (r2 : List Int) (r3 : Int) (w : World) (hr0_0 : Kd.C k95 w A0_0 l0_0.length l0_0) (hc0_0 : l0_0.length ≤ c0_0) (hr0_3 : Kd.C k24 w A0_3 l0_3.length l0_3) (hc0_3 : l0_3.length ≤ c0_3) (hr0_4 : Kd.C k72 w A0_4 l0_4.length l0_4) (hc0_4 : l0_4.length ≤ c0_4) (h : r7_Sees.f k l0_0 a0_1 a0_2 l0_3 l0_4 a1 a2 = some (r1, r2, r3)) :
  Calls Try.prog 30 #[.agg #[.slice A0_0 l0_0.length c0_0, .int .i64 a0_1, .int .i64 a0_2, .slice A0_3 l0_3.length c0_3, .slice A0_4 l0_4.length c0_4], .int .i64 a1, .int .i64 a2] w fun e w' => ∃ v0_ v1_ : Value, e = .returned (.tuple #[v0_, v1_, .int .i64 r3]) ∧ Kd.R (Kd.int .i64) 3 w' w.heap.size (fun k_ => some k_ ≠ (v1_ : Value).ownBlock) v0_ r1 ∧ Kd.R (Kd.int .i64) 3 w' w.heap.size (fun k_ => some k_ ≠ (v0_ : Value).ownBlock) v1_ r2 ∧ Below w.heap.size w w' := by
 have hu28 := Try.underlying28
 have HR0_0 := Aside0.mk hr0_0
 have HC0_0 := Aside0.mk hc0_0
 clear hr0_0 hc0_0
 have HR0_3 := Aside0.mk hr0_3
 have HC0_3 := Aside0.mk hc0_3
 clear hr0_3 hc0_3
 have HR0_4 := Aside0.mk hr0_4
 have HC0_4 := Aside0.mk hc0_4
 clear hr0_4 hc0_4
 have HB := Aside0.mk (Below.refl w.heap.size w)
 have H : ((r7_index.f k l0_0 a0_1 a0_2 l0_3 l0_4 a1 (l0_0.length : Int)).bind fun t298 => ((r7_dated.f t298 a2).bind fun t299 => ((r7_known.f k l0_0 a0_1 a0_2 l0_3 l0_4 t299).bind fun bt300 => (if bt300.2 = 0 then (r7_Sees.l0 k a1 a2 bt300.1 ([] : List Int) ([] : List Int) 0 l0_0 a0_1 a0_2 l0_3 l0_4) else (some (([] : List Int), ([] : List Int), bt300.2)))))) = some (r1, r2, r3) := h
 clear h
 replace H := Option.bind_eq_some_iff.mp H
 obtain ⟨t298, A40, H⟩ := H
 replace H : ((r7_dated.f t298 a2).bind fun t299 => ((r7_known.f k l0_0 a0_1 a0_2 l0_3 l0_4 t299).bind fun bt300 => (if bt300.2 = 0 then (r7_Sees.l0 k a1 a2 bt300.1 ([] : List Int) ([] : List Int) 0 l0_0 a0_1 a0_2 l0_3 l0_4) else (some (([] : List Int), ([] : List Int), bt300.2))))) = some (r1, r2, r3) := H
 have A4 := Aside0.mk A40
 clear A40
 replace H := Option.bind_eq_some_iff.mp H
 obtain ⟨t299, A50, H⟩ := H
 replace H : ((r7_known.f k l0_0 a0_1 a0_2 l0_3 l0_4 t299).bind fun bt300 => (if bt300.2 = 0 then (r7_Sees.l0 k a1 a2 bt300.1 ([] : List Int) ([] : List Int) 0 l0_0 a0_1 a0_2 l0_3 l0_4) else (some (([] : List Int), ([] : List Int), bt300.2)))) = some (r1, r2, r3) := H
 have A5 := Aside0.mk A50
 clear A50
 replace H := Option.bind_eq_some_iff.mp H
 obtain ⟨⟨t300, t303⟩, A60, H⟩ := H
 replace H : (if t303 = 0 then (r7_Sees.l0 k a1 a2 t300 ([] : List Int) ([] : List Int) 0 l0_0 a0_1 a0_2 l0_3 l0_4) else (some (([] : List Int), ([] : List Int), t303))) = some (r1, r2, r3) := H
 have A6 := Aside0.mk A60
 clear A60
 by_cases c7 : t303 = 0
 ·
  rw [if_pos c7] at H
  have c7b0 : (t303 == 0) = true := beq_iff_eq.mpr c7
  have c7b1 : (t303 != 0) = false := bne_eq_false_iff_eq.mpr c7
  clear c7
  have H' := Aside0.mk H
  clear H
  go_enter Try.func30, Try.ntmps30
  try go_wp2_with (first | ((with_reducible refine gate_dst (N := 3) rfl ?_); refine box_event ?hg (N := 3) ?hd (cs := #[.slice A0_0 l0_0.length c0_0, .int .i64 a0_1, .int .i64 a0_2, .slice A0_3 l0_3.length c0_3, .slice A0_4 l0_4.length c0_4]) (t := 28) ?hr ?_; (case hd => rfl); (case hg => rfl); (case hr => first | (go_simp; done) | (go_simp; rfl)); intro gb297 hg w8 hbox hb; have n0_ := Aside0.mk (below_step (by repeat (first | (with_reducible first | exact HB.out | apply below_alloc | apply pw_below_drewN | apply below_drew1) | exact HB.out)) hb); have n1_ := Aside0.mk (hbox); have n2_ := Aside0.mk ((by rw [hg]; exact (below_size (by repeat (first | (with_reducible first | exact HB.out | apply below_alloc | apply pw_below_drewN | apply below_drew1) | exact HB.out))) : w.heap.size ≤ gb297)); have n3_ := Aside0.mk ((by rw [hg]; exact (below_size (by repeat (first | (with_reducible first | exact HB.out | apply below_alloc | apply pw_below_drewN | apply below_drew1) | exact HB.out))) : w.heap.size ≤ gb297)); clear HB; have HB := n0_; have BK297 := n1_; have GW297 := n2_; have GE297 := n3_; clear n0_ n1_ n2_ n3_; clear hb hbox hg))
  have n0_ := Aside0.mk (blk_drew BK297.out)
  have n1_ := Aside0.mk (below_drew1 HB.out)
  clear BK297 HB
  have BK297 := n0_
  have HB := n1_
  clear n0_ n1_
  refine start_ (n := 15) (S := fun w' => w'.cell? ⟨gb297, 0, none⟩ = some (.slice A0_0 l0_0.length c0_0) ∧ w'.cell? ⟨gb297, 1, none⟩ = some (.int .i64 a0_1) ∧ w'.cell? ⟨gb297, 2, none⟩ = some (.int .i64 a0_2) ∧ w'.cell? ⟨gb297, 3, none⟩ = some (.slice A0_3 l0_3.length c0_3) ∧ w'.cell? ⟨gb297, 4, none⟩ = some (.slice A0_4 l0_4.length c0_4)) (ds := []) #[false, false, false, false, false, false, false, false, false, false, false, false, false, false, false] (by kernel_rfl) rfl rfl ⟨(blk_cell BK297.out 0).trans rfl, (blk_cell BK297.out 1).trans rfl, (blk_cell BK297.out 2).trans rfl, (blk_cell BK297.out 3).trans rfl, (blk_cell BK297.out 4).trans rfl⟩ (fun hHeld => ?_); refine with_tabW r7_Sees.tab1 r7_Sees.bits1 (fun HT_ HW_ => ?_)
  generalize w8.drew = w9 at BK297 HB hHeld ⊢
  refine pureQ 2 18 HT_.out ?_
  refine pureQ 3 19 HT_.out ?_
  refine pureQ 7 23 HT_.out ?_
  refine takeQ 0 16 HT_.out HW_.out hHeld ?_
  refine takeQ 1 17 HT_.out HW_.out hHeld ?_
  refine takeQ 4 20 HT_.out HW_.out hHeld ?_
  refine pureQ 5 21 HT_.out ?_
  refine one_ (i := 6) (N := some 22) #[true, true, true, true, true, true, true, true, false, false, false, false, false, false, false] rfl rfl (one_of HT_.out (by kernel_rfl)) (by decide) (fun K hK => ?_)
  refine goes_ Try.func93 (by kernel_rfl) rfl #[.agg #[.slice A0_0 l0_0.length c0_0, .int .i64 a0_1, .int .i64 a0_2, .slice A0_3 l0_3.length c0_3, .slice A0_4 l0_4.length c0_4], .int .i64 a1, .int .i64 (l0_0.length : Int)] (by rfl) rfl rfl (by (try simp only [List.map_toArray, List.map_cons, List.map_nil]); first | done | rfl | (simp only [List.length_drop, List.length_take]; rfl)) ?_
  with_reducible refine (r7_index.calls k _ _ l0_0 a0_1 a0_2 _ _ l0_3 _ _ l0_4 a1 (l0_0.length : Int) t298 _ ?side1 ?side2 ?side3 ?side4 ?side5 ?side6 A4.out).mono ?_
  (case side1 => repeat (first | exact (Kd.C_below HR0_0.out HB.out) | (with_reducible refine Kd.C_alloc ?_ _) | (with_reducible refine Kd.C_drewN ?_ _) | (with_reducible refine Kd.C_drew ?_)))
  (case side2 => exact HC0_0.out)
  (case side3 => repeat (first | exact (Kd.C_below HR0_3.out HB.out) | (with_reducible refine Kd.C_alloc ?_ _) | (with_reducible refine Kd.C_drewN ?_ _) | (with_reducible refine Kd.C_drew ?_)))
  (case side4 => exact HC0_3.out)
  (case side5 => repeat (first | exact (Kd.C_below HR0_4.out HB.out) | (with_reducible refine Kd.C_alloc ?_ _) | (with_reducible refine Kd.C_drewN ?_ _) | (with_reducible refine Kd.C_drew ?_)))
  (case side6 => exact HC0_4.out)
  rintro e w10 ⟨rfl, hb⟩
  refine ⟨_, rfl, ?_⟩
  have n0_ := Aside0.mk (blk_below (g := gb297) (o := .cells #[.slice A0_0 l0_0.length c0_0, .int .i64 a0_1, .int .i64 a0_2, .slice A0_3 l0_3.length c0_3, .slice A0_4 l0_4.length c0_4] 28 (0, 0)) (by (with_reducible repeat (first | refine blk_drewN ?_ _ | refine blk_drew ?_ | refine blk_alloc ?_ _)); exact BK297.out) hb)
  have n1_ := Aside0.mk (below_step (by repeat (first | (with_reducible first | exact HB.out | apply below_alloc | apply pw_below_drewN | apply below_drew1 | refine below_set ?_ GE297.out) | exact HB.out)) hb)
  clear BK297 HB
  have BK297 := n0_
  have HB := n1_
  clear n0_ n1_
  (try clear hb)
  (try clear hb2)
  (try clear hk)
  (try clear hi)
  refine hK.out _ _ ⟨(blk_cell BK297.out 0).trans rfl, (blk_cell BK297.out 1).trans rfl, (blk_cell BK297.out 2).trans rfl, (blk_cell BK297.out 3).trans rfl, (blk_cell BK297.out 4).trans rfl⟩ (fun hHeld => ?_)
  clear hK K
  refine norm_ (a' := ?_) ?_ ?_
  rotate_left
  ·
   show Act.put _ (some 22) _ = _
   simp only [Act.put, List.setIfInBounds_toArray, List.set_cons_zero, List.set_cons_succ, i64_w, i32_w]
   rfl
  refine one_ (i := 8) (N := some 24) #[true, true, true, true, true, true, true, true, true, false, false, false, false, false, false] rfl rfl (one_of HT_.out (by kernel_rfl)) (by decide) (fun K hK => ?_)
  refine goes_ Try.func101 (by kernel_rfl) rfl #[.int .i64 t298, .int .i64 a2] (by rfl) rfl rfl (by (try simp only [List.map_toArray, List.map_cons, List.map_nil]); first | done | rfl | (simp only [List.length_drop, List.length_take]; rfl)) ?_
  with_reducible refine (r7_dated.calls t298 a2 t299 _ A5.out).mono ?_
  rintro e w' ⟨rfl, ⟨nd, rfl⟩⟩
  refine ⟨_, rfl, ?_⟩
  refine hK.out _ _ ⟨(blk_cell BK297.out 0).trans rfl, (blk_cell BK297.out 1).trans rfl, (blk_cell BK297.out 2).trans rfl, (blk_cell BK297.out 3).trans rfl, (blk_cell BK297.out 4).trans rfl⟩ (fun hHeld => ?_)
  clear hK K
  refine norm_ (a' := ?_) ?_ ?_
  rotate_left
  ·
   show Act.put _ (some 24) _ = _
   simp only [Act.put, List.setIfInBounds_toArray, List.set_cons_zero, List.set_cons_succ, i64_w, i32_w]
   rfl
  refine one_ (i := 9) (N := some 25) #[true, true, true, true, true, true, true, true, true, true, false, false, false, false, false] rfl rfl (one_of HT_.out (by kernel_rfl)) (by decide) (fun K hK => ?_)
  refine goes_ Try.func92 (by kernel_rfl) rfl #[.agg #[.slice A0_0 l0_0.length c0_0, .int .i64 a0_1, .int .i64 a0_2, .slice A0_3 l0_3.length c0_3, .slice A0_4 l0_4.length c0_4], .int .i64 t299] (by rfl) rfl rfl (by (try simp only [List.map_toArray, List.map_cons, List.map_nil]); first | done | rfl | (simp only [List.length_drop, List.length_take]; rfl)) ?_
  with_reducible refine (r7_known.calls k _ _ l0_0 a0_1 a0_2 _ _ l0_3 _ _ l0_4 t299 t300 t303 _ ?side1 ?side2 ?side3 ?side4 ?side5 ?side6 A6.out).mono ?_
  (case side1 => repeat (first | exact (Kd.C_below HR0_0.out (by repeat (first | (with_reducible first | exact HB.out | apply below_alloc | apply pw_below_drewN | apply below_drew1 | refine below_set ?_ GE297.out) | exact HB.out))) | (with_reducible refine Kd.C_alloc ?_ _) | (with_reducible refine Kd.C_drewN ?_ _) | (with_reducible refine Kd.C_drew ?_)))
  (case side2 => exact HC0_0.out)
  (case side3 => repeat (first | exact (Kd.C_below HR0_3.out (by repeat (first | (with_reducible first | exact HB.out | apply below_alloc | apply pw_below_drewN | apply below_drew1 | refine below_set ?_ GE297.out) | exact HB.out))) | (with_reducible refine Kd.C_alloc ?_ _) | (with_reducible refine Kd.C_drewN ?_ _) | (with_reducible refine Kd.C_drew ?_)))
  (case side4 => exact HC0_3.out)
  (case side5 => repeat (first | exact (Kd.C_below HR0_4.out (by repeat (first | (with_reducible first | exact HB.out | apply below_alloc | apply pw_below_drewN | apply below_drew1 | refine below_set ?_ GE297.out) | exact HB.out))) | (with_reducible refine Kd.C_alloc ?_ _) | (with_reducible refine Kd.C_drewN ?_ _) | (with_reducible refine Kd.C_drew ?_)))
  (case side6 => exact HC0_4.out)
  rintro e w11 ⟨v301, rfl, ho0, hb⟩
  refine ⟨_, rfl, ?_⟩
  have n0_ := Aside0.mk (Kd.N_lower (Kd.N_mono (ok' := fun k_ => k_ ≠ gb297) ho0 (fun k_ hk_ => (Kd.freshB (g := gb297) (o := .cells #[.slice A0_0 l0_0.length c0_0, .int .i64 a0_1, .int .i64 a0_2, .slice A0_3 l0_3.length c0_3, .slice A0_4 l0_4.length c0_4] 28 (0, 0)) (by (with_reducible repeat (first | refine blk_drewN ?_ _ | refine blk_drew ?_ | refine blk_alloc ?_ _)); exact BK297.out) k_ hk_))) (below_size (by repeat (first | (with_reducible first | exact HB.out | apply below_alloc | apply pw_below_drewN | apply below_drew1 | refine below_set ?_ GE297.out) | exact HB.out))))
  have n1_ := Aside0.mk (blk_below (g := gb297) (o := .cells #[.slice A0_0 l0_0.length c0_0, .int .i64 a0_1, .int .i64 a0_2, .slice A0_3 l0_3.length c0_3, .slice A0_4 l0_4.length c0_4] 28 (0, 0)) (by (with_reducible repeat (first | refine blk_drewN ?_ _ | refine blk_drew ?_ | refine blk_alloc ?_ _)); exact BK297.out) hb)
  have n2_ := Aside0.mk (below_step (by repeat (first | (with_reducible first | exact HB.out | apply below_alloc | apply pw_below_drewN | apply below_drew1 | refine below_set ?_ GE297.out) | exact HB.out)) hb)
  clear BK297 HB
  have HO302 := n0_
  have BK297 := n1_
  have HB := n2_
  clear n0_ n1_ n2_
  (try clear hb)
  (try clear hb2)
  (try clear hk)
  (try clear hi)
  (try clear ho0)
  refine hK.out _ _ ⟨(blk_cell BK297.out 0).trans rfl, (blk_cell BK297.out 1).trans rfl, (blk_cell BK297.out 2).trans rfl, (blk_cell BK297.out 3).trans rfl, (blk_cell BK297.out 4).trans rfl⟩ (fun hHeld => ?_)
  clear hK K
  refine norm_ (a' := ?_) ?_ ?_
  rotate_left
  ·
   show Act.put _ (some 25) _ = _
   simp only [Act.put, List.setIfInBounds_toArray, List.set_cons_zero, List.set_cons_succ, i64_w, i32_w]
   rfl
  refine pureQ 10 15 HT_.out ?_
  refine pureQ 11 26 HT_.out ?_
  refine pureQ 12 27 HT_.out ?_
  refine pureQ 13 9 HT_.out ?_
  refine pureQ 14 10 HT_.out ?_
  refine done_ (done_of HT_.out (by kernel_rfl)) ?_
  try go_wp2
  go_loopg [11, 12, 13] k (fun kq v11 v12 v13 w' => ∃ (x11_1 : List Int) (x12_1 : List Int) (x13_1 : Int), v13 = .int .i64 x13_1 ∧ Aside0 (r7_Sees.l0 kq a1 a2 t300 x11_1 x12_1 x13_1 l0_0 a0_1 a0_2 l0_3 l0_4 = some (r1, r2, r3)) ∧ Aside0 (kq ≤ k) ∧ Aside0 (Kd.N k56 56 w' w.heap.size (fun k_ => some k_ ≠ (v11 : Value).ownBlock ∧ some k_ ≠ (v12 : Value).ownBlock ∧ k_ ≠ gb297) v301 t300) ∧ Aside0 (Kd.R (Kd.int .i64) 3 w' w.heap.size (fun k_ => some k_ ≠ (v12 : Value).ownBlock) v11 x11_1) ∧ Aside0 (Kd.R (Kd.int .i64) 3 w' w.heap.size (fun k_ => some k_ ≠ (v11 : Value).ownBlock) v12 x12_1) ∧ Aside0 (w'.heap[gb297]? = some (.cells #[(.slice A0_0 l0_0.length c0_0), .int .i64 a0_1, .int .i64 a0_2, (.slice A0_3 l0_3.length c0_3), (.slice A0_4 l0_4.length c0_4)] 28 (0, 0))) ∧ Aside0 (Below w.heap.size w w'))
  case atStart => exact ⟨(([] : List Int)), (([] : List Int)), (0), (by first | rfl | (simp; done) | (simp [*]; done)), H', ⟨Nat.le_refl _⟩, ⟨by (with_reducible repeat (first | apply Kd.N_alloc | apply Kd.N_drewN | apply Kd.N_drew)); exact Kd.N_mono HO302.out (fun _ hk => ⟨(by simp [Value.ownBlock]), ⟨(by simp [Value.ownBlock]), hk⟩⟩)⟩, ⟨by first | exact Kd.R_nil _ _ _ _ _ | exact Kd.N_nil _ _ _ _ _ | exact Kd.V_nil _ _ _ _ _ | exact Kd.Q_nil _ _ _ _ _ | exact Kd.S_nil _ _ _ _ _⟩, ⟨by first | exact Kd.R_nil _ _ _ _ _ | exact Kd.N_nil _ _ _ _ _ | exact Kd.V_nil _ _ _ _ _ | exact Kd.Q_nil _ _ _ _ _ | exact Kd.S_nil _ _ _ _ _⟩, ⟨by (with_reducible repeat (first | refine blk_drewN ?_ _ | refine blk_drew ?_ | refine blk_alloc ?_ _)); exact BK297.out⟩, ⟨by repeat (first | (with_reducible first | exact HB.out | apply below_alloc | apply pw_below_drewN | apply below_drew1 | refine below_set ?_ GE297.out) | exact HB.out)⟩⟩
  case round =>
   clear H'
   try clear c1
   try clear p2
   try clear c3
   try clear c7
   try clear c7b0
   try clear c7b1
   try clear c9
   try clear c10
   obtain ⟨x11_1, x12_1, x13_1, rfl, HA, HK1, HO_9, HO_11, HO_12, BK297, HB⟩ := hrel
   cases gk with
   | zero => exact absurd HA.out (by simp [r7_Sees.l0])
   | succ k1 =>
    have H := HA.out
    clear HA
    simp only [r7_Sees.l0] at H
    by_cases c12 : x13_1 < (l0_3.length : Int)
    ·
     rw [if_pos c12] at H
     have c12b0 : decide (x13_1 < (l0_3.length : Int)) = true := decide_eq_true c12
     clear c12
     replace H := Option.bind_eq_some_iff.mp H
     obtain ⟨t304, A130, H⟩ := H
     replace H : (if t304 = 1 then (if x11_1.length < 17592186044416 then ((some (x11_1 ++ [x13_1] : List Int)).bind fun y305 => (if t304 = 2 then (r7_Sees.l0 k1 a1 a2 t300 y305 x12_1 (wrap64 (x13_1 + 1)) l0_0 a0_1 a0_2 l0_3 l0_4) else (if x12_1.length < 17592186044416 then (r7_Sees.l0 k1 a1 a2 t300 y305 (x12_1 ++ [x13_1]) (wrap64 (x13_1 + 1)) l0_0 a0_1 a0_2 l0_3 l0_4) else (none)))) else (none)) else (if t304 = 2 then (r7_Sees.l0 k1 a1 a2 t300 x11_1 x12_1 (wrap64 (x13_1 + 1)) l0_0 a0_1 a0_2 l0_3 l0_4) else (if x12_1.length < 17592186044416 then (r7_Sees.l0 k1 a1 a2 t300 x11_1 (x12_1 ++ [x13_1]) (wrap64 (x13_1 + 1)) l0_0 a0_1 a0_2 l0_3 l0_4) else (none)))) = some (r1, r2, r3) := H
     have A13 := Aside0.mk A130
     clear A130
     by_cases c14 : t304 = 1
     ·
      rw [if_pos c14] at H
      have c14b0 : (t304 == 1) = true := beq_iff_eq.mpr c14
      have c14b1 : (t304 != 1) = false := bne_eq_false_iff_eq.mpr c14
      clear c14
      by_cases c15 : x11_1.length < 17592186044416
      ·
       rw [if_pos c15] at H
       have LMc15 := Aside0.mk c15
       clear c15
       obtain ⟨y305, hy305⟩ : ∃ y_ : List Int, y_ = (x11_1 ++ [x13_1]) := ⟨_, rfl⟩
       replace H : (if t304 = 2 then (r7_Sees.l0 k1 a1 a2 t300 y305 x12_1 (wrap64 (x13_1 + 1)) l0_0 a0_1 a0_2 l0_3 l0_4) else (if x12_1.length < 17592186044416 then (r7_Sees.l0 k1 a1 a2 t300 y305 (x12_1 ++ [x13_1]) (wrap64 (x13_1 + 1)) l0_0 a0_1 a0_2 l0_3 l0_4) else (none))) = some (r1, r2, r3) := by first | (rw [hy305]; with_reducible exact H) | (have H2_ := (Option.bind_some _ _).symm.trans H; rw [hy305]; with_reducible exact H2_) | (have H2_ := (Option.bind_some _ _).symm.trans H; with_reducible exact H2_) | with_reducible exact H | (rw [hy305]; exact H) | exact H
       have Ny305 := Aside0.mk hy305
       clear hy305
       by_cases c16 : t304 = 2
       ·
        rw [if_pos c16] at H
        have c16b0 : (t304 == 2) = true := beq_iff_eq.mpr c16
        have c16b1 : (t304 != 2) = false := bne_eq_false_iff_eq.mpr c16
        clear c16
        have H' := Aside0.mk H
        clear H
        have hcz17_0 := (blk_cell BK297.out 0).trans rfl
        have hcz17_1 := (blk_cell BK297.out 1).trans rfl
        have hcz17_2 := (blk_cell BK297.out 2).trans rfl
        have hcz17_3 := (blk_cell BK297.out 3).trans rfl
        have hcz17_4 := (blk_cell BK297.out 4).trans rfl
        have hfz17_0 := blk_frozen BK297.out 0
        have hfz17_1 := blk_frozen BK297.out 1
        have hfz17_2 := blk_frozen BK297.out 2
        have hfz17_3 := blk_frozen BK297.out 3
        have hfz17_4 := blk_frozen BK297.out 4
        obtain ⟨Ao18, co18, eo18⟩ := Kd.N_slice HO_9.out
        subst eo18
        go_wp2_with (first | ((with_reducible refine gate_callee (f := 102) rfl ?_); refine goesL_ (some 42) rfl rfl Try.func102 (by kernel_rfl) rfl #[.slice Ao18 t300.length co18, .int .i64 x13_1, .int .i64 a1, .int .i64 a2] rfl (by (try simp only [List.map_toArray, List.map_cons, List.map_nil]); first | done | rfl | (simp only [List.length_drop, List.length_take]; rfl)) ?_; (with_reducible refine (r7_seen.calls k1 _ _ t300 x13_1 a1 a2 t304 _ ?side1 ?side2 A13.out).mono ?_); (case side1 => repeat (first | exact (Kd.N_reads' HO_9.out).2.2 | (with_reducible refine Kd.C_alloc ?_ _) | (with_reducible refine Kd.C_drewN ?_ _) | (with_reducible refine Kd.C_drew ?_))); (case side2 => exact (Kd.N_reads' HO_9.out).2.1); rintro e w19 ⟨rfl, hb⟩; refine ⟨_, rfl, ?_⟩; have n0_ := Aside0.mk (Kd.N_below (by (with_reducible repeat (first | apply Kd.N_alloc | apply Kd.N_drewN | apply Kd.N_drew)); exact HO_9.out) hb); have n1_ := Aside0.mk (Kd.R_below (by (with_reducible repeat (first | apply Kd.R_alloc | apply Kd.R_drewN | apply Kd.R_drew)); exact HO_11.out) hb); have n2_ := Aside0.mk (Kd.R_below (by (with_reducible repeat (first | apply Kd.R_alloc | apply Kd.R_drewN | apply Kd.R_drew)); exact HO_12.out) hb); have n3_ := Aside0.mk (blk_below (g := gb297) (o := .cells #[.slice A0_0 l0_0.length c0_0, .int .i64 a0_1, .int .i64 a0_2, .slice A0_3 l0_3.length c0_3, .slice A0_4 l0_4.length c0_4] 28 (0, 0)) (by (with_reducible repeat (first | refine blk_drewN ?_ _ | refine blk_drew ?_ | refine blk_alloc ?_ _)); exact BK297.out) hb); have n4_ := Aside0.mk (below_step (by repeat (first | (with_reducible first | exact HB.out | apply below_alloc | apply pw_below_drewN | apply below_drew1 | refine below_set ?_ GE297.out) | exact HB.out)) hb); clear HO_9; clear HO_11; clear HO_12; clear BK297; clear HB; have HO_9 := n0_; have HO_11 := n1_; have HO_12 := n2_; have BK297 := n3_; have HB := n4_; clear n0_ n1_ n2_ n3_ n4_; (try clear hb); (try clear hb2); (try clear hk); (try clear hi)) | ((with_reducible refine gate_builtin (b := .append) (xs := #[.tmp 45, .tmp 47]) rfl ?_); at_builtin; refine Kd.R_append (Kd.int .i64) (w0 := w) w.heap.size rfl (.tmp 45) (.tmp 47) 39 3 (.int .i64 0) 8 rfl Try.underlying39 info3 rfl (by decide) (by omega) u11 x11_1 x13_1 [.int .i64 x13_1] (fun k_ => some k_ ≠ (u12 : Value).ownBlock) (fun _ => False) rfl rfl ?aP (fun _ hk => hk.elim) ?aF ?aO ?aB ?aS ?aL ?_; (case aP => exact rfl); (case aB => exact (by repeat (first | (with_reducible first | exact HB.out | apply below_alloc | apply pw_below_drewN | apply below_drew1 | refine below_set ?_ GE297.out) | exact HB.out))); (case aF => exact (fun k_ hk => Kd.fresh' (Kd.R_lt (by (with_reducible repeat (first | apply Kd.R_alloc | apply Kd.R_drewN | apply Kd.R_drew)); exact HO_12.out)) k_ hk)); (case aO => exact (by (with_reducible repeat (first | apply Kd.R_alloc | apply Kd.R_drewN | apply Kd.R_drew)); exact HO_11.out)); (case aS => exact (below_size (by repeat (first | (with_reducible first | exact HB.out | apply below_alloc | apply pw_below_drewN | apply below_drew1 | refine below_set ?_ GE297.out) | exact HB.out)))); (case aL => have := LMc15.out; omega); intro v306 w20 ho hb hg hat; rw [← Ny305.out] at ho; have n0_ := Aside0.mk (Kd.N_afterv (ok := (fun k_ => some k_ ≠ (u12 : Value).ownBlock ∧ k_ ≠ gb297)) (by (with_reducible repeat (first | apply Kd.N_alloc | apply Kd.N_drewN | apply Kd.N_drew)); exact Kd.N_mono HO_9.out (fun _ hk => ⟨⟨hk.2.1, hk.2.2⟩, hk.1⟩)) hg hat); have n1_ := Aside0.mk (Kd.R_after (ok := (fun _ => True)) (by (with_reducible repeat (first | apply Kd.R_alloc | apply Kd.R_drewN | apply Kd.R_drew)); exact Kd.R_mono HO_12.out (fun _ hk => ⟨trivial, hk⟩)) hg hat); have n2_ := Aside0.mk (blk_grown (g := gb297) (o := .cells #[.slice A0_0 l0_0.length c0_0, .int .i64 a0_1, .int .i64 a0_2, .slice A0_3 l0_3.length c0_3, .slice A0_4 l0_4.length c0_4] 28 (0, 0)) (by (with_reducible repeat (first | refine blk_drewN ?_ _ | refine blk_drew ?_ | refine blk_alloc ?_ _)); exact BK297.out) hg (Kd.R_ne HO_11.out BK297.out (by decide))); have n3_ := Aside0.mk (hb); have n4_ := Aside0.mk (ho); clear HO_9; clear HO_12; clear BK297; clear HB; clear HO_11; have HO_9 := n0_; have HO_12 := n1_; have BK297 := n2_; have HB := n3_; have HO307 := n4_; clear n0_ n1_ n2_ n3_ n4_; clear ho hb hg hat))
        go_roundg k1
        case measure => have := HK1.out; omega
        case rel => exact ⟨(y305), (x12_1), (wrap64 (x13_1 + 1)), (by first | rfl | (simp; done) | (simp [*]; done)), H', ⟨by have := HK1.out; omega⟩, ⟨by (with_reducible repeat (first | apply Kd.N_alloc | apply Kd.N_drewN | apply Kd.N_drew)); exact Kd.N_mono HO_9.out (fun _ hk => ⟨hk.2, ⟨hk.1.1, hk.1.2⟩⟩)⟩, ⟨by (with_reducible repeat (first | apply Kd.R_alloc | apply Kd.R_drewN | apply Kd.R_drew)); exact HO307.out⟩, ⟨by (with_reducible repeat (first | apply Kd.R_alloc | apply Kd.R_drewN | apply Kd.R_drew)); exact Kd.R_mono HO_12.out (fun _ hk => hk.2)⟩, ⟨by (with_reducible repeat (first | refine blk_drewN ?_ _ | refine blk_drew ?_ | refine blk_alloc ?_ _)); exact BK297.out⟩, ⟨by repeat (first | (with_reducible first | exact HB.out | apply below_alloc | apply pw_below_drewN | apply below_drew1 | refine below_set ?_ GE297.out) | exact HB.out)⟩⟩
       ·
        rw [if_neg c16] at H
        have c16b0 : (t304 == 2) = false := beq_eq_false_iff_ne.mpr c16
        have c16b1 : (t304 != 2) = true := bne_iff_ne.mpr c16
        by_cases c21 : x12_1.length < 17592186044416
        ·
         rw [if_pos c21] at H
         have LMc21 := Aside0.mk c21
         clear c21
         obtain ⟨y308, hy308⟩ : ∃ y_ : List Int, y_ = (x12_1 ++ [x13_1]) := ⟨_, rfl⟩
         replace H : (r7_Sees.l0 k1 a1 a2 t300 y305 y308 (wrap64 (x13_1 + 1)) l0_0 a0_1 a0_2 l0_3 l0_4) = some (r1, r2, r3) := by first | (rw [hy308]; with_reducible exact H) | (have H2_ := (Option.bind_some _ _).symm.trans H; rw [hy308]; with_reducible exact H2_) | (have H2_ := (Option.bind_some _ _).symm.trans H; with_reducible exact H2_) | with_reducible exact H | (rw [hy308]; exact H) | exact H
         have Ny308 := Aside0.mk hy308
         clear hy308
         have H' := Aside0.mk H
         clear H
         have hcz22_0 := (blk_cell BK297.out 0).trans rfl
         have hcz22_1 := (blk_cell BK297.out 1).trans rfl
         have hcz22_2 := (blk_cell BK297.out 2).trans rfl
         have hcz22_3 := (blk_cell BK297.out 3).trans rfl
         have hcz22_4 := (blk_cell BK297.out 4).trans rfl
         have hfz22_0 := blk_frozen BK297.out 0
         have hfz22_1 := blk_frozen BK297.out 1
         have hfz22_2 := blk_frozen BK297.out 2
         have hfz22_3 := blk_frozen BK297.out 3
         have hfz22_4 := blk_frozen BK297.out 4
         obtain ⟨Ao23, co23, eo23⟩ := Kd.N_slice HO_9.out
         subst eo23
         go_wp2_with (first | ((with_reducible refine gate_callee (f := 102) rfl ?_); refine goesL_ (some 42) rfl rfl Try.func102 (by kernel_rfl) rfl #[.slice Ao23 t300.length co23, .int .i64 x13_1, .int .i64 a1, .int .i64 a2] rfl (by (try simp only [List.map_toArray, List.map_cons, List.map_nil]); first | done | rfl | (simp only [List.length_drop, List.length_take]; rfl)) ?_; (with_reducible refine (r7_seen.calls k1 _ _ t300 x13_1 a1 a2 t304 _ ?side1 ?side2 A13.out).mono ?_); (case side1 => repeat (first | exact (Kd.N_reads' HO_9.out).2.2 | (with_reducible refine Kd.C_alloc ?_ _) | (with_reducible refine Kd.C_drewN ?_ _) | (with_reducible refine Kd.C_drew ?_))); (case side2 => exact (Kd.N_reads' HO_9.out).2.1); rintro e w24 ⟨rfl, hb⟩; refine ⟨_, rfl, ?_⟩; have n0_ := Aside0.mk (Kd.N_below (by (with_reducible repeat (first | apply Kd.N_alloc | apply Kd.N_drewN | apply Kd.N_drew)); exact HO_9.out) hb); have n1_ := Aside0.mk (Kd.R_below (by (with_reducible repeat (first | apply Kd.R_alloc | apply Kd.R_drewN | apply Kd.R_drew)); exact HO_11.out) hb); have n2_ := Aside0.mk (Kd.R_below (by (with_reducible repeat (first | apply Kd.R_alloc | apply Kd.R_drewN | apply Kd.R_drew)); exact HO_12.out) hb); have n3_ := Aside0.mk (blk_below (g := gb297) (o := .cells #[.slice A0_0 l0_0.length c0_0, .int .i64 a0_1, .int .i64 a0_2, .slice A0_3 l0_3.length c0_3, .slice A0_4 l0_4.length c0_4] 28 (0, 0)) (by (with_reducible repeat (first | refine blk_drewN ?_ _ | refine blk_drew ?_ | refine blk_alloc ?_ _)); exact BK297.out) hb); have n4_ := Aside0.mk (below_step (by repeat (first | (with_reducible first | exact HB.out | apply below_alloc | apply pw_below_drewN | apply below_drew1 | refine below_set ?_ GE297.out) | exact HB.out)) hb); clear HO_9; clear HO_11; clear HO_12; clear BK297; clear HB; have HO_9 := n0_; have HO_11 := n1_; have HO_12 := n2_; have BK297 := n3_; have HB := n4_; clear n0_ n1_ n2_ n3_ n4_; (try clear hb); (try clear hb2); (try clear hk); (try clear hi)) | ((with_reducible refine gate_builtin (b := .append) (xs := #[.tmp 45, .tmp 47]) rfl ?_); at_builtin; refine Kd.R_append (Kd.int .i64) (w0 := w) w.heap.size rfl (.tmp 45) (.tmp 47) 39 3 (.int .i64 0) 8 rfl Try.underlying39 info3 rfl (by decide) (by omega) u11 x11_1 x13_1 [.int .i64 x13_1] (fun k_ => some k_ ≠ (u12 : Value).ownBlock) (fun _ => False) rfl rfl ?aP (fun _ hk => hk.elim) ?aF ?aO ?aB ?aS ?aL ?_; (case aP => exact rfl); (case aB => exact (by repeat (first | (with_reducible first | exact HB.out | apply below_alloc | apply pw_below_drewN | apply below_drew1 | refine below_set ?_ GE297.out) | exact HB.out))); (case aF => exact (fun k_ hk => Kd.fresh' (Kd.R_lt (by (with_reducible repeat (first | apply Kd.R_alloc | apply Kd.R_drewN | apply Kd.R_drew)); exact HO_12.out)) k_ hk)); (case aO => exact (by (with_reducible repeat (first | apply Kd.R_alloc | apply Kd.R_drewN | apply Kd.R_drew)); exact HO_11.out)); (case aS => exact (below_size (by repeat (first | (with_reducible first | exact HB.out | apply below_alloc | apply pw_below_drewN | apply below_drew1 | refine below_set ?_ GE297.out) | exact HB.out)))); (case aL => have := LMc15.out; omega); intro v306 w25 ho hb hg hat; rw [← Ny305.out] at ho; have n0_ := Aside0.mk (Kd.N_afterv (ok := (fun k_ => some k_ ≠ (u12 : Value).ownBlock ∧ k_ ≠ gb297)) (by (with_reducible repeat (first | apply Kd.N_alloc | apply Kd.N_drewN | apply Kd.N_drew)); exact Kd.N_mono HO_9.out (fun _ hk => ⟨⟨hk.2.1, hk.2.2⟩, hk.1⟩)) hg hat); have n1_ := Aside0.mk (Kd.R_after (ok := (fun _ => True)) (by (with_reducible repeat (first | apply Kd.R_alloc | apply Kd.R_drewN | apply Kd.R_drew)); exact Kd.R_mono HO_12.out (fun _ hk => ⟨trivial, hk⟩)) hg hat); have n2_ := Aside0.mk (blk_grown (g := gb297) (o := .cells #[.slice A0_0 l0_0.length c0_0, .int .i64 a0_1, .int .i64 a0_2, .slice A0_3 l0_3.length c0_3, .slice A0_4 l0_4.length c0_4] 28 (0, 0)) (by (with_reducible repeat (first | refine blk_drewN ?_ _ | refine blk_drew ?_ | refine blk_alloc ?_ _)); exact BK297.out) hg (Kd.R_ne HO_11.out BK297.out (by decide))); have n3_ := Aside0.mk (hb); have n4_ := Aside0.mk (ho); clear HO_9; clear HO_12; clear BK297; clear HB; clear HO_11; have HO_9 := n0_; have HO_12 := n1_; have BK297 := n2_; have HB := n3_; have HO307 := n4_; clear n0_ n1_ n2_ n3_ n4_; clear ho hb hg hat) | ((with_reducible refine gate_builtin (b := .append) (xs := #[.tmp 51, .tmp 53]) rfl ?_); at_builtin; refine Kd.R_append (Kd.int .i64) (w0 := w) w.heap.size rfl (.tmp 51) (.tmp 53) 39 3 (.int .i64 0) 8 rfl Try.underlying39 info3 rfl (by decide) (by omega) u12 x12_1 x13_1 [.int .i64 x13_1] (fun k_ => some k_ ≠ (v306 : Value).ownBlock) (fun _ => False) rfl rfl ?aP (fun _ hk => hk.elim) ?aF ?aO ?aB ?aS ?aL ?_; (case aP => exact rfl); (case aB => exact (by repeat (first | (with_reducible first | exact HB.out | apply below_alloc | apply pw_below_drewN | apply below_drew1 | refine below_set ?_ GE297.out) | exact HB.out))); (case aF => exact (fun k_ hk => Kd.fresh' (Kd.R_lt (by (with_reducible repeat (first | apply Kd.R_alloc | apply Kd.R_drewN | apply Kd.R_drew)); exact HO307.out)) k_ hk)); (case aO => exact (by (with_reducible repeat (first | apply Kd.R_alloc | apply Kd.R_drewN | apply Kd.R_drew)); exact Kd.R_mono HO_12.out (fun _ hk => hk.2))); (case aS => exact (below_size (by repeat (first | (with_reducible first | exact HB.out | apply below_alloc | apply pw_below_drewN | apply below_drew1 | refine below_set ?_ GE297.out) | exact HB.out)))); (case aL => have := LMc21.out; omega); intro v309 w26 ho hb hg hat; rw [← Ny308.out] at ho; have n0_ := Aside0.mk (Kd.N_afterv (ok := (fun k_ => some k_ ≠ (v306 : Value).ownBlock ∧ k_ ≠ gb297)) (by (with_reducible repeat (first | apply Kd.N_alloc | apply Kd.N_drewN | apply Kd.N_drew)); exact Kd.N_mono HO_9.out (fun _ hk => ⟨⟨hk.2, hk.1.2⟩, hk.1.1⟩)) hg hat); have n1_ := Aside0.mk (blk_grown (g := gb297) (o := .cells #[.slice A0_0 l0_0.length c0_0, .int .i64 a0_1, .int .i64 a0_2, .slice A0_3 l0_3.length c0_3, .slice A0_4 l0_4.length c0_4] 28 (0, 0)) (by (with_reducible repeat (first | refine blk_drewN ?_ _ | refine blk_drew ?_ | refine blk_alloc ?_ _)); exact BK297.out) hg (Kd.R_ne HO_12.out BK297.out (by decide))); have n2_ := Aside0.mk (Kd.R_after (ok := (fun _ => True)) (by (with_reducible repeat (first | apply Kd.R_alloc | apply Kd.R_drewN | apply Kd.R_drew)); exact Kd.R_mono HO307.out (fun _ hk => ⟨trivial, hk⟩)) hg hat); have n3_ := Aside0.mk (hb); have n4_ := Aside0.mk (ho); clear HO_9; clear BK297; clear HO307; clear HB; clear HO_12; have HO_9 := n0_; have BK297 := n1_; have HO307 := n2_; have HB := n3_; have HO310 := n4_; clear n0_ n1_ n2_ n3_ n4_; clear ho hb hg hat))
         go_roundg k1
         case measure => have := HK1.out; omega
         case rel => exact ⟨(y305), (y308), (wrap64 (x13_1 + 1)), (by first | rfl | (simp; done) | (simp [*]; done)), H', ⟨by have := HK1.out; omega⟩, ⟨by (with_reducible repeat (first | apply Kd.N_alloc | apply Kd.N_drewN | apply Kd.N_drew)); exact Kd.N_mono HO_9.out (fun _ hk => ⟨hk.1.1, ⟨hk.2, hk.1.2⟩⟩)⟩, ⟨by (with_reducible repeat (first | apply Kd.R_alloc | apply Kd.R_drewN | apply Kd.R_drew)); exact Kd.R_mono HO307.out (fun _ hk => hk.2)⟩, ⟨by (with_reducible repeat (first | apply Kd.R_alloc | apply Kd.R_drewN | apply Kd.R_drew)); exact HO310.out⟩, ⟨by (with_reducible repeat (first | refine blk_drewN ?_ _ | refine blk_drew ?_ | refine blk_alloc ?_ _)); exact BK297.out⟩, ⟨by repeat (first | (with_reducible first | exact HB.out | apply below_alloc | apply pw_below_drewN | apply below_drew1 | refine below_set ?_ GE297.out) | exact HB.out)⟩⟩
        ·
         rw [if_neg c21] at H
         exact absurd H (by simp)
      ·
       rw [if_neg c15] at H
       exact absurd H (by simp)
     ·
      rw [if_neg c14] at H
      have c14b0 : (t304 == 1) = false := beq_eq_false_iff_ne.mpr c14
      have c14b1 : (t304 != 1) = true := bne_iff_ne.mpr c14
      by_cases c27 : t304 = 2
      ·
       rw [if_pos c27] at H
       have c27b0 : (t304 == 2) = true := beq_iff_eq.mpr c27
       have c27b1 : (t304 != 2) = false := bne_eq_false_iff_eq.mpr c27
       clear c27
       have H' := Aside0.mk H
       clear H
       have hcz28_0 := (blk_cell BK297.out 0).trans rfl
       have hcz28_1 := (blk_cell BK297.out 1).trans rfl
       have hcz28_2 := (blk_cell BK297.out 2).trans rfl
       have hcz28_3 := (blk_cell BK297.out 3).trans rfl
       have hcz28_4 := (blk_cell BK297.out 4).trans rfl
       have hfz28_0 := blk_frozen BK297.out 0
       have hfz28_1 := blk_frozen BK297.out 1
       have hfz28_2 := blk_frozen BK297.out 2
       have hfz28_3 := blk_frozen BK297.out 3
       have hfz28_4 := blk_frozen BK297.out 4
       obtain ⟨Ao29, co29, eo29⟩ := Kd.N_slice HO_9.out
       subst eo29
       go_wp2_with (first | ((with_reducible refine gate_callee (f := 102) rfl ?_); refine goesL_ (some 42) rfl rfl Try.func102 (by kernel_rfl) rfl #[.slice Ao29 t300.length co29, .int .i64 x13_1, .int .i64 a1, .int .i64 a2] rfl (by (try simp only [List.map_toArray, List.map_cons, List.map_nil]); first | done | rfl | (simp only [List.length_drop, List.length_take]; rfl)) ?_; (with_reducible refine (r7_seen.calls k1 _ _ t300 x13_1 a1 a2 t304 _ ?side1 ?side2 A13.out).mono ?_); (case side1 => repeat (first | exact (Kd.N_reads' HO_9.out).2.2 | (with_reducible refine Kd.C_alloc ?_ _) | (with_reducible refine Kd.C_drewN ?_ _) | (with_reducible refine Kd.C_drew ?_))); (case side2 => exact (Kd.N_reads' HO_9.out).2.1); rintro e w30 ⟨rfl, hb⟩; refine ⟨_, rfl, ?_⟩; have n0_ := Aside0.mk (Kd.N_below (by (with_reducible repeat (first | apply Kd.N_alloc | apply Kd.N_drewN | apply Kd.N_drew)); exact HO_9.out) hb); have n1_ := Aside0.mk (Kd.R_below (by (with_reducible repeat (first | apply Kd.R_alloc | apply Kd.R_drewN | apply Kd.R_drew)); exact HO_11.out) hb); have n2_ := Aside0.mk (Kd.R_below (by (with_reducible repeat (first | apply Kd.R_alloc | apply Kd.R_drewN | apply Kd.R_drew)); exact HO_12.out) hb); have n3_ := Aside0.mk (blk_below (g := gb297) (o := .cells #[.slice A0_0 l0_0.length c0_0, .int .i64 a0_1, .int .i64 a0_2, .slice A0_3 l0_3.length c0_3, .slice A0_4 l0_4.length c0_4] 28 (0, 0)) (by (with_reducible repeat (first | refine blk_drewN ?_ _ | refine blk_drew ?_ | refine blk_alloc ?_ _)); exact BK297.out) hb); have n4_ := Aside0.mk (below_step (by repeat (first | (with_reducible first | exact HB.out | apply below_alloc | apply pw_below_drewN | apply below_drew1 | refine below_set ?_ GE297.out) | exact HB.out)) hb); clear HO_9; clear HO_11; clear HO_12; clear BK297; clear HB; have HO_9 := n0_; have HO_11 := n1_; have HO_12 := n2_; have BK297 := n3_; have HB := n4_; clear n0_ n1_ n2_ n3_ n4_; (try clear hb); (try clear hb2); (try clear hk); (try clear hi)))
       go_roundg k1
       case measure => have := HK1.out; omega
       case rel => exact ⟨(x11_1), (x12_1), (wrap64 (x13_1 + 1)), (by first | rfl | (simp; done) | (simp [*]; done)), H', ⟨by have := HK1.out; omega⟩, ⟨by (with_reducible repeat (first | apply Kd.N_alloc | apply Kd.N_drewN | apply Kd.N_drew)); exact HO_9.out⟩, ⟨by (with_reducible repeat (first | apply Kd.R_alloc | apply Kd.R_drewN | apply Kd.R_drew)); exact HO_11.out⟩, ⟨by (with_reducible repeat (first | apply Kd.R_alloc | apply Kd.R_drewN | apply Kd.R_drew)); exact HO_12.out⟩, ⟨by (with_reducible repeat (first | refine blk_drewN ?_ _ | refine blk_drew ?_ | refine blk_alloc ?_ _)); exact BK297.out⟩, ⟨by repeat (first | (with_reducible first | exact HB.out | apply below_alloc | apply pw_below_drewN | apply below_drew1 | refine below_set ?_ GE297.out) | exact HB.out)⟩⟩
      ·
       rw [if_neg c27] at H
       have c27b0 : (t304 == 2) = false := beq_eq_false_iff_ne.mpr c27
       have c27b1 : (t304 != 2) = true := bne_iff_ne.mpr c27
       by_cases c31 : x12_1.length < 17592186044416
       ·
        rw [if_pos c31] at H
        have LMc31 := Aside0.mk c31
        clear c31
        obtain ⟨y311, hy311⟩ : ∃ y_ : List Int, y_ = (x12_1 ++ [x13_1]) := ⟨_, rfl⟩
        replace H : (r7_Sees.l0 k1 a1 a2 t300 x11_1 y311 (wrap64 (x13_1 + 1)) l0_0 a0_1 a0_2 l0_3 l0_4) = some (r1, r2, r3) := by first | (rw [hy311]; with_reducible exact H) | (have H2_ := (Option.bind_some _ _).symm.trans H; rw [hy311]; with_reducible exact H2_) | (have H2_ := (Option.bind_some _ _).symm.trans H; with_reducible exact H2_) | with_reducible exact H | (rw [hy311]; exact H) | exact H
        have Ny311 := Aside0.mk hy311
        clear hy311
        have H' := Aside0.mk H
        clear H
        have hcz32_0 := (blk_cell BK297.out 0).trans rfl
        have hcz32_1 := (blk_cell BK297.out 1).trans rfl
        have hcz32_2 := (blk_cell BK297.out 2).trans rfl
        have hcz32_3 := (blk_cell BK297.out 3).trans rfl
        have hcz32_4 := (blk_cell BK297.out 4).trans rfl
        have hfz32_0 := blk_frozen BK297.out 0
        have hfz32_1 := blk_frozen BK297.out 1
        have hfz32_2 := blk_frozen BK297.out 2
        have hfz32_3 := blk_frozen BK297.out 3
        have hfz32_4 := blk_frozen BK297.out 4
        obtain ⟨Ao33, co33, eo33⟩ := Kd.N_slice HO_9.out
        subst eo33
        go_wp2_with (first | ((with_reducible refine gate_callee (f := 102) rfl ?_); refine goesL_ (some 42) rfl rfl Try.func102 (by kernel_rfl) rfl #[.slice Ao33 t300.length co33, .int .i64 x13_1, .int .i64 a1, .int .i64 a2] rfl (by (try simp only [List.map_toArray, List.map_cons, List.map_nil]); first | done | rfl | (simp only [List.length_drop, List.length_take]; rfl)) ?_; (with_reducible refine (r7_seen.calls k1 _ _ t300 x13_1 a1 a2 t304 _ ?side1 ?side2 A13.out).mono ?_); (case side1 => repeat (first | exact (Kd.N_reads' HO_9.out).2.2 | (with_reducible refine Kd.C_alloc ?_ _) | (with_reducible refine Kd.C_drewN ?_ _) | (with_reducible refine Kd.C_drew ?_))); (case side2 => exact (Kd.N_reads' HO_9.out).2.1); rintro e w34 ⟨rfl, hb⟩; refine ⟨_, rfl, ?_⟩; have n0_ := Aside0.mk (Kd.N_below (by (with_reducible repeat (first | apply Kd.N_alloc | apply Kd.N_drewN | apply Kd.N_drew)); exact HO_9.out) hb); have n1_ := Aside0.mk (Kd.R_below (by (with_reducible repeat (first | apply Kd.R_alloc | apply Kd.R_drewN | apply Kd.R_drew)); exact HO_11.out) hb); have n2_ := Aside0.mk (Kd.R_below (by (with_reducible repeat (first | apply Kd.R_alloc | apply Kd.R_drewN | apply Kd.R_drew)); exact HO_12.out) hb); have n3_ := Aside0.mk (blk_below (g := gb297) (o := .cells #[.slice A0_0 l0_0.length c0_0, .int .i64 a0_1, .int .i64 a0_2, .slice A0_3 l0_3.length c0_3, .slice A0_4 l0_4.length c0_4] 28 (0, 0)) (by (with_reducible repeat (first | refine blk_drewN ?_ _ | refine blk_drew ?_ | refine blk_alloc ?_ _)); exact BK297.out) hb); have n4_ := Aside0.mk (below_step (by repeat (first | (with_reducible first | exact HB.out | apply below_alloc | apply pw_below_drewN | apply below_drew1 | refine below_set ?_ GE297.out) | exact HB.out)) hb); clear HO_9; clear HO_11; clear HO_12; clear BK297; clear HB; have HO_9 := n0_; have HO_11 := n1_; have HO_12 := n2_; have BK297 := n3_; have HB := n4_; clear n0_ n1_ n2_ n3_ n4_; (try clear hb); (try clear hb2); (try clear hk); (try clear hi)) | ((with_reducible refine gate_builtin (b := .append) (xs := #[.tmp 51, .tmp 53]) rfl ?_); at_builtin; refine Kd.R_append (Kd.int .i64) (w0 := w) w.heap.size rfl (.tmp 51) (.tmp 53) 39 3 (.int .i64 0) 8 rfl Try.underlying39 info3 rfl (by decide) (by omega) u12 x12_1 x13_1 [.int .i64 x13_1] (fun k_ => some k_ ≠ (u11 : Value).ownBlock) (fun _ => False) rfl rfl ?aP (fun _ hk => hk.elim) ?aF ?aO ?aB ?aS ?aL ?_; (case aP => exact rfl); (case aB => exact (by repeat (first | (with_reducible first | exact HB.out | apply below_alloc | apply pw_below_drewN | apply below_drew1 | refine below_set ?_ GE297.out) | exact HB.out))); (case aF => exact (fun k_ hk => Kd.fresh' (Kd.R_lt (by (with_reducible repeat (first | apply Kd.R_alloc | apply Kd.R_drewN | apply Kd.R_drew)); exact HO_11.out)) k_ hk)); (case aO => exact (by (with_reducible repeat (first | apply Kd.R_alloc | apply Kd.R_drewN | apply Kd.R_drew)); exact HO_12.out)); (case aS => exact (below_size (by repeat (first | (with_reducible first | exact HB.out | apply below_alloc | apply pw_below_drewN | apply below_drew1 | refine below_set ?_ GE297.out) | exact HB.out)))); (case aL => have := LMc31.out; omega); intro v312 w35 ho hb hg hat; rw [← Ny311.out] at ho; have n0_ := Aside0.mk (Kd.N_afterv (ok := (fun k_ => some k_ ≠ (u11 : Value).ownBlock ∧ k_ ≠ gb297)) (by (with_reducible repeat (first | apply Kd.N_alloc | apply Kd.N_drewN | apply Kd.N_drew)); exact Kd.N_mono HO_9.out (fun _ hk => ⟨⟨hk.1, hk.2.2⟩, hk.2.1⟩)) hg hat); have n1_ := Aside0.mk (Kd.R_after (ok := (fun _ => True)) (by (with_reducible repeat (first | apply Kd.R_alloc | apply Kd.R_drewN | apply Kd.R_drew)); exact Kd.R_mono HO_11.out (fun _ hk => ⟨trivial, hk⟩)) hg hat); have n2_ := Aside0.mk (blk_grown (g := gb297) (o := .cells #[.slice A0_0 l0_0.length c0_0, .int .i64 a0_1, .int .i64 a0_2, .slice A0_3 l0_3.length c0_3, .slice A0_4 l0_4.length c0_4] 28 (0, 0)) (by (with_reducible repeat (first | refine blk_drewN ?_ _ | refine blk_drew ?_ | refine blk_alloc ?_ _)); exact BK297.out) hg (Kd.R_ne HO_12.out BK297.out (by decide))); have n3_ := Aside0.mk (hb); have n4_ := Aside0.mk (ho); clear HO_9; clear HO_11; clear BK297; clear HB; clear HO_12; have HO_9 := n0_; have HO_11 := n1_; have BK297 := n2_; have HB := n3_; have HO313 := n4_; clear n0_ n1_ n2_ n3_ n4_; clear ho hb hg hat))
        go_roundg k1
        case measure => have := HK1.out; omega
        case rel => exact ⟨(x11_1), (y311), (wrap64 (x13_1 + 1)), (by first | rfl | (simp; done) | (simp [*]; done)), H', ⟨by have := HK1.out; omega⟩, ⟨by (with_reducible repeat (first | apply Kd.N_alloc | apply Kd.N_drewN | apply Kd.N_drew)); exact Kd.N_mono HO_9.out (fun _ hk => ⟨hk.1.1, ⟨hk.2, hk.1.2⟩⟩)⟩, ⟨by (with_reducible repeat (first | apply Kd.R_alloc | apply Kd.R_drewN | apply Kd.R_drew)); exact Kd.R_mono HO_11.out (fun _ hk => hk.2)⟩, ⟨by (with_reducible repeat (first | apply Kd.R_alloc | apply Kd.R_drewN | apply Kd.R_drew)); exact HO313.out⟩, ⟨by (with_reducible repeat (first | refine blk_drewN ?_ _ | refine blk_drew ?_ | refine blk_alloc ?_ _)); exact BK297.out⟩, ⟨by repeat (first | (with_reducible first | exact HB.out | apply below_alloc | apply pw_below_drewN | apply below_drew1 | refine below_set ?_ GE297.out) | exact HB.out)⟩⟩
       ·
        rw [if_neg c31] at H
        exact absurd H (by simp)
    ·
     rw [if_neg c12] at H
     have c12b0 : decide (x13_1 < (l0_3.length : Int)) = false := decide_eq_false c12
     clear c12
     simp only [Option.some.injEq, Prod.mk.injEq] at H
     obtain ⟨rfl, rfl, rfl⟩ := H
     have hcz36_0 := (blk_cell BK297.out 0).trans rfl
     have hcz36_1 := (blk_cell BK297.out 1).trans rfl
     have hcz36_2 := (blk_cell BK297.out 2).trans rfl
     have hcz36_3 := (blk_cell BK297.out 3).trans rfl
     have hcz36_4 := (blk_cell BK297.out 4).trans rfl
     have hfz36_0 := blk_frozen BK297.out 0
     have hfz36_1 := blk_frozen BK297.out 1
     have hfz36_2 := blk_frozen BK297.out 2
     have hfz36_3 := blk_frozen BK297.out 3
     have hfz36_4 := blk_frozen BK297.out 4
     go_wp2
     go_ret3
     exact ⟨_, _, by first | rfl | (simp [errW_none, errW_some] <;> rfl) | (simp [*, errW_none, errW_some] <;> rfl), by (with_reducible repeat (first | apply Kd.R_alloc | apply Kd.R_drewN | apply Kd.R_drew)); exact HO_11.out, by (with_reducible repeat (first | apply Kd.R_alloc | apply Kd.R_drewN | apply Kd.R_drew)); exact HO_12.out, by repeat (first | (with_reducible first | exact HB.out | apply below_alloc | apply pw_below_drewN | apply below_drew1 | refine below_set ?_ GE297.out) | exact HB.out)⟩
 ·
  rw [if_neg c7] at H
  have c7b0 : (t303 == 0) = false := beq_eq_false_iff_ne.mpr c7
  have c7b1 : (t303 != 0) = true := bne_iff_ne.mpr c7
  simp only [Option.some.injEq, Prod.mk.injEq] at H
  obtain ⟨rfl, rfl, rfl⟩ := H
  go_enter Try.func30, Try.ntmps30
  try go_wp2_with (first | ((with_reducible refine gate_dst (N := 3) rfl ?_); refine box_event ?hg (N := 3) ?hd (cs := #[.slice A0_0 l0_0.length c0_0, .int .i64 a0_1, .int .i64 a0_2, .slice A0_3 l0_3.length c0_3, .slice A0_4 l0_4.length c0_4]) (t := 28) ?hr ?_; (case hd => rfl); (case hg => rfl); (case hr => first | (go_simp; done) | (go_simp; rfl)); intro gb297 hg w37 hbox hb; have n0_ := Aside0.mk (below_step (by repeat (first | (with_reducible first | exact HB.out | apply below_alloc | apply pw_below_drewN | apply below_drew1) | exact HB.out)) hb); have n1_ := Aside0.mk (hbox); have n2_ := Aside0.mk ((by rw [hg]; exact (below_size (by repeat (first | (with_reducible first | exact HB.out | apply below_alloc | apply pw_below_drewN | apply below_drew1) | exact HB.out))) : w.heap.size ≤ gb297)); have n3_ := Aside0.mk ((by rw [hg]; exact (below_size (by repeat (first | (with_reducible first | exact HB.out | apply below_alloc | apply pw_below_drewN | apply below_drew1) | exact HB.out))) : w.heap.size ≤ gb297)); clear HB; have HB := n0_; have BK297 := n1_; have GW297 := n2_; have GE297 := n3_; clear n0_ n1_ n2_ n3_; clear hb hbox hg))
  have n0_ := Aside0.mk (blk_drew BK297.out)
  have n1_ := Aside0.mk (below_drew1 HB.out)
  clear BK297 HB
  have BK297 := n0_
  have HB := n1_
  clear n0_ n1_
  refine start_ (n := 15) (S := fun w' => w'.cell? ⟨gb297, 0, none⟩ = some (.slice A0_0 l0_0.length c0_0) ∧ w'.cell? ⟨gb297, 1, none⟩ = some (.int .i64 a0_1) ∧ w'.cell? ⟨gb297, 2, none⟩ = some (.int .i64 a0_2) ∧ w'.cell? ⟨gb297, 3, none⟩ = some (.slice A0_3 l0_3.length c0_3) ∧ w'.cell? ⟨gb297, 4, none⟩ = some (.slice A0_4 l0_4.length c0_4)) (ds := []) #[false, false, false, false, false, false, false, false, false, false, false, false, false, false, false] (by kernel_rfl) rfl rfl ⟨(blk_cell BK297.out 0).trans rfl, (blk_cell BK297.out 1).trans rfl, (blk_cell BK297.out 2).trans rfl, (blk_cell BK297.out 3).trans rfl, (blk_cell BK297.out 4).trans rfl⟩ (fun hHeld => ?_); refine with_tabW r7_Sees.tab1 r7_Sees.bits1 (fun HT_ HW_ => ?_)
  generalize w37.drew = w38 at BK297 HB hHeld ⊢
  refine pureQ 2 18 HT_.out ?_
  refine pureQ 3 19 HT_.out ?_
  refine pureQ 7 23 HT_.out ?_
  refine takeQ 0 16 HT_.out HW_.out hHeld ?_
  refine takeQ 1 17 HT_.out HW_.out hHeld ?_
  refine takeQ 4 20 HT_.out HW_.out hHeld ?_
  refine pureQ 5 21 HT_.out ?_
  refine one_ (i := 6) (N := some 22) #[true, true, true, true, true, true, true, true, false, false, false, false, false, false, false] rfl rfl (one_of HT_.out (by kernel_rfl)) (by decide) (fun K hK => ?_)
  refine goes_ Try.func93 (by kernel_rfl) rfl #[.agg #[.slice A0_0 l0_0.length c0_0, .int .i64 a0_1, .int .i64 a0_2, .slice A0_3 l0_3.length c0_3, .slice A0_4 l0_4.length c0_4], .int .i64 a1, .int .i64 (l0_0.length : Int)] (by rfl) rfl rfl (by (try simp only [List.map_toArray, List.map_cons, List.map_nil]); first | done | rfl | (simp only [List.length_drop, List.length_take]; rfl)) ?_
  with_reducible refine (r7_index.calls k _ _ l0_0 a0_1 a0_2 _ _ l0_3 _ _ l0_4 a1 (l0_0.length : Int) t298 _ ?side1 ?side2 ?side3 ?side4 ?side5 ?side6 A4.out).mono ?_
  (case side1 => repeat (first | exact (Kd.C_below HR0_0.out HB.out) | (with_reducible refine Kd.C_alloc ?_ _) | (with_reducible refine Kd.C_drewN ?_ _) | (with_reducible refine Kd.C_drew ?_)))
  (case side2 => exact HC0_0.out)
  (case side3 => repeat (first | exact (Kd.C_below HR0_3.out HB.out) | (with_reducible refine Kd.C_alloc ?_ _) | (with_reducible refine Kd.C_drewN ?_ _) | (with_reducible refine Kd.C_drew ?_)))
  (case side4 => exact HC0_3.out)
  (case side5 => repeat (first | exact (Kd.C_below HR0_4.out HB.out) | (with_reducible refine Kd.C_alloc ?_ _) | (with_reducible refine Kd.C_drewN ?_ _) | (with_reducible refine Kd.C_drew ?_)))
  (case side6 => exact HC0_4.out)
  rintro e w39 ⟨rfl, hb⟩
  refine ⟨_, rfl, ?_⟩
  have n0_ := Aside0.mk (blk_below (g := gb297) (o := .cells #[.slice A0_0 l0_0.length c0_0, .int .i64 a0_1, .int .i64 a0_2, .slice A0_3 l0_3.length c0_3, .slice A0_4 l0_4.length c0_4] 28 (0, 0)) (by (with_reducible repeat (first | refine blk_drewN ?_ _ | refine blk_drew ?_ | refine blk_alloc ?_ _)); exact BK297.out) hb)
  have n1_ := Aside0.mk (below_step (by repeat (first | (with_reducible first | exact HB.out | apply below_alloc | apply pw_below_drewN | apply below_drew1 | refine below_set ?_ GE297.out) | exact HB.out)) hb)
  clear BK297 HB
  have BK297 := n0_
  have HB := n1_
  clear n0_ n1_
  (try clear hb)
  (try clear hb2)
  (try clear hk)
  (try clear hi)
  refine hK.out _ _ ⟨(blk_cell BK297.out 0).trans rfl, (blk_cell BK297.out 1).trans rfl, (blk_cell BK297.out 2).trans rfl, (blk_cell BK297.out 3).trans rfl, (blk_cell BK297.out 4).trans rfl⟩ (fun hHeld => ?_)
  clear hK K
  refine norm_ (a' := ?_) ?_ ?_
  rotate_left
  ·
   show Act.put _ (some 22) _ = _
   simp only [Act.put, List.setIfInBounds_toArray, List.set_cons_zero, List.set_cons_succ, i64_w, i32_w]
   rfl
  refine one_ (i := 8) (N := some 24) #[true, true, true, true, true, true, true, true, true, false, false, false, false, false, false] rfl rfl (one_of HT_.out (by kernel_rfl)) (by decide) (fun K hK => ?_)
  refine goes_ Try.func101 (by kernel_rfl) rfl #[.int .i64 t298, .int .i64 a2] (by rfl) rfl rfl (by (try simp only [List.map_toArray, List.map_cons, List.map_nil]); first | done | rfl | (simp only [List.length_drop, List.length_take]; rfl)) ?_
  with_reducible refine (r7_dated.calls t298 a2 t299 _ A5.out).mono ?_
  rintro e w' ⟨rfl, ⟨nd, rfl⟩⟩
  refine ⟨_, rfl, ?_⟩
  refine hK.out _ _ ⟨(blk_cell BK297.out 0).trans rfl, (blk_cell BK297.out 1).trans rfl, (blk_cell BK297.out 2).trans rfl, (blk_cell BK297.out 3).trans rfl, (blk_cell BK297.out 4).trans rfl⟩ (fun hHeld => ?_)
  clear hK K
  refine norm_ (a' := ?_) ?_ ?_
  rotate_left
  ·
   show Act.put _ (some 24) _ = _
   simp only [Act.put, List.setIfInBounds_toArray, List.set_cons_zero, List.set_cons_succ, i64_w, i32_w]
   rfl
  refine one_ (i := 9) (N := some 25) #[true, true, true, true, true, true, true, true, true, true, false, false, false, false, false] rfl rfl (one_of HT_.out (by kernel_rfl)) (by decide) (fun K hK => ?_)
  refine goes_ Try.func92 (by kernel_rfl) rfl #[.agg #[.slice A0_0 l0_0.length c0_0, .int .i64 a0_1, .int .i64 a0_2, .slice A0_3 l0_3.length c0_3, .slice A0_4 l0_4.length c0_4], .int .i64 t299] (by rfl) rfl rfl (by (try simp only [List.map_toArray, List.map_cons, List.map_nil]); first | done | rfl | (simp only [List.length_drop, List.length_take]; rfl)) ?_
  with_reducible refine (r7_known.calls k _ _ l0_0 a0_1 a0_2 _ _ l0_3 _ _ l0_4 t299 t300 t303 _ ?side1 ?side2 ?side3 ?side4 ?side5 ?side6 A6.out).mono ?_
  (case side1 => repeat (first | exact (Kd.C_below HR0_0.out (by repeat (first | (with_reducible first | exact HB.out | apply below_alloc | apply pw_below_drewN | apply below_drew1 | refine below_set ?_ GE297.out) | exact HB.out))) | (with_reducible refine Kd.C_alloc ?_ _) | (with_reducible refine Kd.C_drewN ?_ _) | (with_reducible refine Kd.C_drew ?_)))
  (case side2 => exact HC0_0.out)
  (case side3 => repeat (first | exact (Kd.C_below HR0_3.out (by repeat (first | (with_reducible first | exact HB.out | apply below_alloc | apply pw_below_drewN | apply below_drew1 | refine below_set ?_ GE297.out) | exact HB.out))) | (with_reducible refine Kd.C_alloc ?_ _) | (with_reducible refine Kd.C_drewN ?_ _) | (with_reducible refine Kd.C_drew ?_)))
  (case side4 => exact HC0_3.out)
  (case side5 => repeat (first | exact (Kd.C_below HR0_4.out (by repeat (first | (with_reducible first | exact HB.out | apply below_alloc | apply pw_below_drewN | apply below_drew1 | refine below_set ?_ GE297.out) | exact HB.out))) | (with_reducible refine Kd.C_alloc ?_ _) | (with_reducible refine Kd.C_drewN ?_ _) | (with_reducible refine Kd.C_drew ?_)))
  (case side6 => exact HC0_4.out)
  rintro e w40 ⟨v301, rfl, ho0, hb⟩
  refine ⟨_, rfl, ?_⟩
  have n0_ := Aside0.mk (Kd.N_lower (Kd.N_mono (ok' := fun k_ => k_ ≠ gb297) ho0 (fun k_ hk_ => (Kd.freshB (g := gb297) (o := .cells #[.slice A0_0 l0_0.length c0_0, .int .i64 a0_1, .int .i64 a0_2, .slice A0_3 l0_3.length c0_3, .slice A0_4 l0_4.length c0_4] 28 (0, 0)) (by (with_reducible repeat (first | refine blk_drewN ?_ _ | refine blk_drew ?_ | refine blk_alloc ?_ _)); exact BK297.out) k_ hk_))) (below_size (by repeat (first | (with_reducible first | exact HB.out | apply below_alloc | apply pw_below_drewN | apply below_drew1 | refine below_set ?_ GE297.out) | exact HB.out))))
  have n1_ := Aside0.mk (blk_below (g := gb297) (o := .cells #[.slice A0_0 l0_0.length c0_0, .int .i64 a0_1, .int .i64 a0_2, .slice A0_3 l0_3.length c0_3, .slice A0_4 l0_4.length c0_4] 28 (0, 0)) (by (with_reducible repeat (first | refine blk_drewN ?_ _ | refine blk_drew ?_ | refine blk_alloc ?_ _)); exact BK297.out) hb)
  have n2_ := Aside0.mk (below_step (by repeat (first | (with_reducible first | exact HB.out | apply below_alloc | apply pw_below_drewN | apply below_drew1 | refine below_set ?_ GE297.out) | exact HB.out)) hb)
  clear BK297 HB
  have HO302 := n0_
  have BK297 := n1_
  have HB := n2_
  clear n0_ n1_ n2_
  (try clear hb)
  (try clear hb2)
  (try clear hk)
  (try clear hi)
  (try clear ho0)
  refine hK.out _ _ ⟨(blk_cell BK297.out 0).trans rfl, (blk_cell BK297.out 1).trans rfl, (blk_cell BK297.out 2).trans rfl, (blk_cell BK297.out 3).trans rfl, (blk_cell BK297.out 4).trans rfl⟩ (fun hHeld => ?_)
  clear hK K
  refine norm_ (a' := ?_) ?_ ?_
  rotate_left
  ·
   show Act.put _ (some 25) _ = _
   simp only [Act.put, List.setIfInBounds_toArray, List.set_cons_zero, List.set_cons_succ, i64_w, i32_w]
   rfl
  refine pureQ 10 15 HT_.out ?_
  refine pureQ 11 26 HT_.out ?_
  refine pureQ 12 27 HT_.out ?_
  refine pureQ 13 9 HT_.out ?_
  refine pureQ 14 10 HT_.out ?_
  refine done_ (done_of HT_.out (by kernel_rfl)) ?_
  try go_wp2
  go_ret3
  exact ⟨_, _, by first | rfl | (simp [errW_none, errW_some] <;> rfl) | (simp [*, errW_none, errW_some] <;> rfl), by first | exact Kd.R_nil _ _ _ _ _ | exact Kd.N_nil _ _ _ _ _ | exact Kd.V_nil _ _ _ _ _ | exact Kd.Q_nil _ _ _ _ _ | exact Kd.S_nil _ _ _ _ _, by first | exact Kd.R_nil _ _ _ _ _ | exact Kd.N_nil _ _ _ _ _ | exact Kd.V_nil _ _ _ _ _ | exact Kd.Q_nil _ _ _ _ _ | exact Kd.S_nil _ _ _ _ _, by repeat (first | (with_reducible first | exact HB.out | apply below_alloc | apply pw_below_drewN | apply below_drew1 | refine below_set ?_ GE297.out) | exact HB.out)⟩

end Go.Proofs.Ytgoidclnccjdeaa.PR
end
section
/- Package glass: the reference's known and index. -/
namespace Go.Proofs.Ytgoidclnccjdeaa.D
open Go Go.RowKit Go.Proofs.YtgoidclnccjdeaaK Go.Proofs.YtgoidclnccjdeaaW.PrintWords Go.Proofs.YtgoidclnccjdeaaW.PrintLast Go.Proofs.YtgoidclnccjdeaaW.PrintMore Go.Proofs.Ytgoidclnccjdeaa.PR Go.Proofs.Ytgoidclnccjdeaa.M
set_option linter.unusedVariables false
set_option linter.unusedSimpArgs false

def knownR (D : Dat) (e : Int) : List S56 × Int := if e = 0 then (if (truthsL D 0).isEmpty then ([], 8) else (truthsR D [], 0)) else ([], e)
theorem truthsR_len {D : Dat} (h : Valid D) : (truthsR D []).length = (truthsL D 0).length := by
 rw [truths_same h (setIs_nil D), truthsR, List.length_map, List.length_map]
theorem truthsR_at {D : Dat} (h : Valid D) (i : Nat) (hi : i < (truthsL D 0).length) : ∃ t, t ∈ allD D ∧ rd_T56 (truthsR D []) (i : Int) = trU D [] t ∧ (truthsL D 0)[i] = V8 t ∧ okT D [] t = true := by
 have hi' : i < ((allD D).filter (okT D [])).length := by
  rw [truths_same h (setIs_nil D), List.length_map] at hi; exact hi
 refine ⟨((allD D).filter (okT D []))[i], (List.mem_filter.1 (List.getElem_mem hi')).1, ?_, ?_, (List.mem_filter.1 (List.getElem_mem hi')).2⟩
 ·
  simp only [rd_T56, truthsR, Int.toNat_natCast, List.getD_eq_getElem?_getD, List.getElem?_map, List.getElem?_eq_getElem hi', Option.map_some, Option.getD_some]
 ·
  have := truths_same h (setIs_nil D)
  simp only [this, List.getElem_map]
theorem rKnown {D : Dat} {e : Int} (h : e = 0 → Valid D) : Ev (fun k => r7_known.f k D.gl D.lo D.hi D.sp D.dr e) (knownR D e) := by
 unfold r7_known.f knownR
 by_cases he : e = 0
 ·
  simp only [if_pos he]
  refine Ev.bind (rTruths (h he) [] (by simp)) ?_
  have hl := truthsR_len (h he)
  by_cases hz : (truthsL D 0).isEmpty = true
  ·
   rw [if_pos hz]
   rw [List.isEmpty_iff] at hz
   rw [hz] at hl
   rw [if_pos (by simp at hl; simp [hl])]
   exact Ev.now _
  ·
   rw [if_neg hz]
   have : (truthsL D 0).length ≠ 0 := fun e => hz (by rw [List.isEmpty_iff]; exact List.eq_nil_of_length_eq_zero e)
   rw [if_neg (by omega)]
   exact Ev.now _
 ·
  simp only [if_neg he]; exact Ev.now _
theorem knownR_two (D : Dat) (l : List (Bool × Int)) : (knownR D (if (checkF D).2.2 ≠ 0 then (checkF D).2.2 else askE l)).2 = enterE D l := by
 unfold knownR enterE
 generalize (checkF D).2.2 = c
 generalize askE l = a
 generalize (truthsL D 0).isEmpty = z
 by_cases h0 : c = 0
 ·
  subst h0
  simp only [ne_eq, not_true_eq_false, if_false]
  by_cases h1 : a = 0
  ·
   subst h1; cases z <;> rfl
  ·
   simp only [h1, not_false_eq_true, if_true, if_false]
 ·
  simp only [ne_eq, h0, not_false_eq_true, if_true, if_false]
theorem knownR_one {D : Dat} {l : List (Bool × Int)} (h : enterE D l = 0) : (knownR D (if (checkF D).2.2 ≠ 0 then (checkF D).2.2 else askE l)).1 = truthsR D [] := by
 have h1 := enterE_ok h
 have h2 := enterE_some h
 have e : (if (checkF D).2.2 ≠ 0 then (checkF D).2.2 else askE l) = 0 := by
  unfold enterE at h
  by_cases h0 : (checkF D).2.2 = 0
  ·
   rw [if_neg (fun x => x h0)]; exact h1.2.2.1
  ·
   rw [if_pos h0] at h; exact absurd h h0
 rw [e, knownR, if_pos rfl, if_neg (by rw [List.isEmpty_iff]; exact h2)]
theorem ask_valid {D : Dat} {l : List (Bool × Int)} (h : (if (checkF D).2.2 ≠ 0 then (checkF D).2.2 else askE l) = 0) : Valid D := by
 by_cases h0 : (checkF D).2.2 = 0
 ·
  exact (check_valid h0).1
 ·
  rw [if_pos h0] at h; exact absurd h h0
structure Fits (D : Dat) : Prop where
 nm : ∀ x ∈ D.gl, x.f0.size ≤ 9223372036854775807
 g : D.gl.length ≤ 9223372036854775807
 s : D.sp.length ≤ 9223372036854775807
 d : D.dr.length ≤ 9223372036854775807
theorem Arg.fits {w : World} {D : Dat} {A0 : Option Addr} {c0 : Nat} {A3 : Option Addr} {c3 : Nat} {A4 : Option Addr} {c4 : Nat} (h : Arg w D A0 c0 A3 c3 A4 c4) : Fits D := ⟨h.gn, h.g.2.1, h.s.2.1, h.d.2.1⟩
theorem rCheck' {D : Dat} (h : Fits D) : Ev (fun k => r7_Check.f k D.gl D.lo D.hi D.sp D.dr) (checkF D) := rCheck D h.nm h.g h.s h.d
theorem rIndex {D : Dat} (h : Fits D) (n : Int) (m : Nat) (hm : m ≤ 9223372036854775807) : Ev (fun k => r7_index.f k D.gl D.lo D.hi D.sp D.dr n (m : Int)) (if (checkF D).2.2 ≠ 0 then (checkF D).2.2 else askE [(amongB m [n], 4)]) := by
 unfold r7_index.f
 refine Ev.bind (rCheck' h) ?_
 have e : wrap64 ((m : Int) - 1) = (m : Int) - 1 := by unfold wrap64; omega
 simp only [rIn, e, Option.bind_some, decide_eq_true_eq]
 have o := outB_one 0 ((m : Int) - 1) n
 generalize (checkF D).2.2 = c
 by_cases h0 : c = 0
 ·
  subst h0
  simp only [ne_eq, not_true_eq_false, if_false, if_true]
  by_cases h1 : 0 ≤ n ∧ n ≤ (m : Int) - 1
  ·
   have e2 : outB 0 ((m : Int) - 1) [n] = false := Bool.eq_false_iff.2 fun x => o.1 x h1
   simp only [if_pos h1, askE, amongB, e2, Bool.not_false, if_true]; exact Ev.now _
  ·
   simp only [if_neg h1, askE, amongB, o.2 h1, Bool.not_true, Bool.false_eq_true, if_false]; exact Ev.now _
 ·
  simp only [ne_eq, h0, not_false_eq_true, if_true, if_false]; exact Ev.now _
end Go.Proofs.Ytgoidclnccjdeaa.D
end
section
/- Package glass: the reference's Used. -/
namespace Go.Proofs.Ytgoidclnccjdeaa.D
open Go Go.RowKit Go.Proofs.YtgoidclnccjdeaaK Go.Proofs.YtgoidclnccjdeaaW.PrintWords Go.Proofs.YtgoidclnccjdeaaW.PrintLast Go.Proofs.YtgoidclnccjdeaaW.PrintMore Go.Proofs.Ytgoidclnccjdeaa.PR Go.Proofs.Ytgoidclnccjdeaa.M
set_option linter.unusedVariables false
set_option linter.unusedSimpArgs false

theorem usedX_testBit (D : Dat) (n : Nat → Int) (d : Dr) (s i : Nat) : ∀ k, (usedX D n d k s).testBit i = (s.testBit i || (decide (i < k) && thrB D n d i))
 | 0 => by simp [usedX]
 | k + 1 => by
  have ih := usedX_testBit D n d s i k
  unfold usedX
  by_cases hs : thrB D n d k = true
  ·
   rw [if_pos hs, Nat.testBit_or, ih, Nat.testBit_two_pow]
   by_cases e : i = k
   ·
    subst e; simp [hs]
   ·
    have h2 : decide (k = i) = false := by simp; omega
    rw [h2, Bool.or_false]
    congr 2
    rw [decide_eq_decide]; omega
  ·
   rw [if_neg hs, ih]
   by_cases e : i = k
   ·
    subst e; simp [hs]
   ·
    congr 2
    rw [decide_eq_decide]; omega
theorem usedN_testBit (D : Dat) (d : Dr) (i : Nat) (l : List (List Int)) : (usedN D d l).testBit i = (decide (i < D.gl.length) && l.any fun x => thrB D (fn x) d i) := by
 induction l using list_snoc with
 | h0 => simp [usedN]
 | h1 l x ih =>
  rw [usedN_snoc, usedX_testBit, ih, List.any_append]
  cases decide (i < D.gl.length) <;> simp
theorem usedF_eq {D : Dat} {i : Int} (h : enterE D (askUsed D i) = 0) : usedF D i = (List.range D.gl.length).filter fun g => (truthsL D 0).any fun x => thrB D (fn x) (rd_T72 D.dr i) g := by
 unfold usedF
 rw [if_pos h]
 refine List.filter_congr fun g hg => ?_
 show (!!(usedN D (rd_T72 D.dr i) (truthsL D 0)).testBit g) = _
 rw [Bool.not_not, usedN_testBit, decide_eq_true (List.mem_range.1 hg), Bool.true_and]
theorem hasB_ints (l : List Nat) (g : Nat) : hasB (ints l) g = l.contains g := by
 unfold hasB ints
 rw [List.any_map, Bool.eq_iff_iff]
 simp only [List.any_eq_true, Function.comp, beq_iff_eq, List.contains_iff_mem]
 constructor
 ·
  rintro ⟨x, hx, e⟩
  have : x = g := Int.ofNat.inj e
  exact this ▸ hx
 ·
  intro hg; exact ⟨g, hg, rfl⟩
theorem usedL_has {D : Dat} {t : Tr} {d : Dr} {g : Nat} (hg : g < D.gl.length) : hasB (ints (usedL D t d)) g = thrB D (fn (V8 t)) d g := by
 rw [hasB_ints, Bool.eq_iff_iff, List.contains_iff_mem]
 unfold usedL
 rw [List.mem_filter]
 exact ⟨fun x => x.2, fun x => ⟨List.mem_range.2 hg, x⟩⟩
theorem own_nil (D : Dat) (t : Tr) (i : Nat) : ownL D [] t i = ints (usedL D t (rd_T72 D.dr i)) := by
 unfold ownL; rw [if_neg (by simp [hasB])]
theorem usedL_len (D : Dat) (h : Valid D) (t : Tr) (d : Dr) : (ints (usedL D t d)).length ≤ 3 := by
 unfold ints usedL
 rw [List.length_map]
 exact Nat.le_trans (List.length_filter_le _ _) (by have := h.g3; simp; omega)

section
variable {D : Dat} (h : Valid D) {d : Nat} (hd : d < D.dr.length)
include h hd
theorem rUsed1 (acc : List Int) (ha : acc.length ≤ 1000) (g : Nat) (hg : g < D.gl.length) (r : List Int × Int) : ∀ (m i : Nat) (met : Bool), i + m = (truthsL D 0).length →
  Ev (fun k => r7_Used.l0 k (d : Int) (truthsR D []) (if (met || ((truthsL D 0).drop i).any fun x => thrB D (fn x) (rd_T72 D.dr d) g) = true then acc ++ [(g : Int)] else acc) ((g + 1 : Nat) : Int) D.gl D.lo D.hi D.sp D.dr) r →
  Ev (fun k => r7_Used.l1 k (d : Int) (truthsR D []) acc (g : Int) met (i : Int) D.gl D.lo D.hi D.sp D.dr) r
 | 0, i, met, hm, hh => by
  have hl := truthsR_len h
  have hg3 := h.g3
  rw [List.drop_eq_nil_of_le (by omega), List.any_nil, Bool.or_false] at hh
  refine Ev.step (fun k => ?_) hh
  simp only [r7_Used.l1]
  rw [if_neg (by omega), if_pos (show acc.length < 17592186044416 by omega), wrapN (by omega)]
  cases met <;> rfl
 | m + 1, i, met, hm, hh => by
  have hl := truthsR_len h
  have hg3 := h.g3
  have hle := truthsL_len h 0
  have hi : i < (truthsL D 0).length := by omega
  cases met with
  | true =>
   simp only [Bool.true_or, if_true] at hh
   refine Ev.step (fun k => ?_) hh
   simp only [r7_Used.l1]
   rw [if_pos (by omega), if_pos trivial, if_pos (by omega), wrapN (by omega)]
  | false =>
   obtain ⟨t, ht, hrt, hTt, _⟩ := truthsR_at h i hi
   have ih := rUsed1 acc ha g hg r m (i + 1) (thrB D (fn (V8 t)) (rd_T72 D.dr d) g) (by omega) (by
    rw [List.drop_eq_getElem_cons hi, List.any_cons, hTt, Bool.false_or] at hh
    exact hh)
   have hf3 : (trU D [] t).f3.length = D.dr.length := by simp [trU]
   have hL2 : rd_L2 (trU D [] t).f3 (d : Int) = ints (usedL D t (rd_T72 D.dr d)) := by
    rw [L2_at _ _ (by rw [hf3]; exact hd)]
    simp only [trU, List.getElem_map, List.getElem_range, own_nil]
   have hhas := rHas (ints (usedL D t (rd_T72 D.dr (d : Int)))) (Nat.le_trans (usedL_len D h t _) (by decide)) g
   rw [usedL_has hg] at hhas
   refine Ev.step (f := fun k => (r1_Has.f k (ints (usedL D t (rd_T72 D.dr (d : Int)))) (g : Int)).bind fun b => r7_Used.l1 k (d : Int) (truthsR D []) acc (g : Int) b ((i + 1 : Nat) : Int) D.gl D.lo D.hi D.sp D.dr) (fun k => ?_) (Ev.bind hhas ih)
   simp only [r7_Used.l1, hrt, hL2]
   rw [if_pos (by omega), if_neg (by simp), if_pos (by omega), if_pos (by omega), if_pos (by omega), wrapN (by omega)]
theorem rUsed0 (he : enterE D (askUsed D d) = 0) : ∀ (m g : Nat), g + m = D.gl.length →
  Ev (fun k => r7_Used.l0 k (d : Int) (truthsR D []) (ints ((List.range g).filter fun g => (truthsL D 0).any fun x => thrB D (fn x) (rd_T72 D.dr d) g)) (g : Int) D.gl D.lo D.hi D.sp D.dr) (ints (usedF D d), 0)
 | 0, g, hg => by
  obtain rfl : g = D.gl.length := by omega
  rw [usedF_eq he]
  exact Ev.step (f := fun _ => some _) (fun k => by simp only [r7_Used.l0]; rw [if_neg (by omega)]) (Ev.now _)
 | m + 1, g, hg => by
  have hlt : g < D.gl.length := by omega
  have hg3 := h.g3
  have ih := rUsed0 he m (g + 1) (by omega)
  have hnx : ints ((List.range (g + 1)).filter fun g => (truthsL D 0).any fun x => thrB D (fn x) (rd_T72 D.dr d) g) = if ((truthsL D 0).any fun x => thrB D (fn x) (rd_T72 D.dr d) g) = true then ints ((List.range g).filter fun g => (truthsL D 0).any fun x => thrB D (fn x) (rd_T72 D.dr d) g) ++ [(g : Int)] else ints ((List.range g).filter fun g => (truthsL D 0).any fun x => thrB D (fn x) (rd_T72 D.dr d) g) := by
   rw [List.range_succ, List.filter_append]
   cases hb : (truthsL D 0).any fun x => thrB D (fn x) (rd_T72 D.dr d) g <;> simp [hb, ints]
  refine Ev.step (f := fun k => r7_Used.l1 k (d : Int) (truthsR D []) (ints ((List.range g).filter fun g => (truthsL D 0).any fun x => thrB D (fn x) (rd_T72 D.dr d) g)) (g : Int) false ((0 : Nat) : Int) D.gl D.lo D.hi D.sp D.dr) (fun k => by simp only [r7_Used.l0]; rw [if_pos (by omega)]; rfl) ?_
  refine rUsed1 h hd _ ?_ g hlt _ (truthsL D 0).length 0 false (by omega) ?_
  ·
   unfold ints; rw [List.length_map]
   exact Nat.le_trans (List.length_filter_le _ _) (by simp; omega)
  ·
   rw [List.drop_zero, Bool.false_or, ← hnx]
   exact ih
end
theorem rUsedF {D : Dat} (h : Fits D) (i : Int) : Ev (fun k => r7_Used.f k D.gl D.lo D.hi D.sp D.dr i) (ints (usedF D i), enterE D (askUsed D i)) := by
 unfold r7_Used.f
 refine Ev.bind (rIndex h i D.dr.length h.d) ?_
 refine Ev.bind (rKnown ask_valid) ?_
 have h2 := knownR_two D (askUsed D i)
 unfold askUsed at h2
 by_cases he : enterE D (askUsed D i) = 0
 ·
  have hV := (enterE_ok he).1
  have ho := askUsed_ok (enterE_ok he).2.2.1
  obtain ⟨d, rfl⟩ := Int.eq_ofNat_of_zero_le ho.1
  have h1 := knownR_one he
  unfold askUsed at h1
  rw [h2, h1]
  have he' := he
  unfold askUsed at he'
  rw [he', he]
  simp only [if_true]
  exact rUsed0 hV (by omega) he D.gl.length 0 (by omega)
 ·
  have he' := he
  unfold askUsed at he'
  rw [h2]
  rw [show usedF D i = [] from if_neg he]
  simp only [if_neg he']
  exact Ev.now _
end Go.Proofs.Ytgoidclnccjdeaa.D
end
section
/- Package glass: the reference's Sees. -/
namespace Go.Proofs.Ytgoidclnccjdeaa.D
open Go Go.RowKit Go.Proofs.YtgoidclnccjdeaaK Go.Proofs.YtgoidclnccjdeaaW.PrintWords Go.Proofs.YtgoidclnccjdeaaW.PrintLast Go.Proofs.YtgoidclnccjdeaaW.PrintMore Go.Proofs.Ytgoidclnccjdeaa.PR Go.Proofs.Ytgoidclnccjdeaa.M
set_option linter.unusedVariables false
set_option linter.unusedSimpArgs false

theorem mayN_testBit (D : Dat) (g : Nat) (y : Int) (i : Nat) (l : List (List Int)) : (mayN D g y l).testBit i = l.any fun x => (seeL D g y x).testBit i := by
 induction l using list_snoc with
 | h0 => simp [mayN]
 | h1 l x ih => rw [mayN_snoc, Nat.testBit_or, ih, List.any_append]; simp
theorem sureO_testBit (D : Dat) (g : Nat) (y : Int) (i : Nat) (l : List (List Int)) : ∀ a, sureO D g y l = some a → a.testBit i = l.all fun x => (seeL D g y x).testBit i := by
 induction l using list_snoc with
 | h0 => intro a h; simp [sureO] at h
 | h1 l x ih =>
  intro a h
  rw [sureO_snoc] at h
  cases hs : sureO D g y l with
  | none =>
   have hl : l = [] := by
    cases l with
    | nil => rfl
    | cons z t => exact absurd hs (by rw [sureO_some (by simp)]; simp)
   subst hl
   rw [hs] at h
   have := Option.some.inj h
   rw [← this]; simp
  | some b =>
   rw [hs] at h
   have := Option.some.inj h
   rw [← this, Nat.testBit_and, ih b hs, List.all_append]; simp
theorem sureN_testBit {D : Dat} {g : Nat} {y : Int} {i : Nat} {l : List (List Int)} (h : l ≠ []) : (sureN D g y l).testBit i = l.all fun x => (seeL D g y x).testBit i := sureO_testBit D g y i l _ (sureO_some h)
theorem seeL_bit (D : Dat) (g : Nat) (y : Int) (x : List Int) (i : Nat) (hi : i < D.sp.length) : (seeL D g y x).testBit i = seenB (fn x) g y i := by
 unfold seeL; rw [seenTo_testBit]; simp [hi]
theorem rSettled (a b : Nat) : r1_Settled.f (a : Int) (b : Int) = some (toldF a b) := by
 unfold r1_Settled.f toldF; split
 ·
  rfl
 ·
  split <;> rfl
section
variable {D : Dat} (h : Valid D) {g : Nat} (hg : g < D.gl.length) {y : Int} (hy : 0 ≤ y ∧ y ≤ 9)
include h hg hy
theorem rSeenN (s : Nat) (hs : s < D.sp.length) : Ev (fun k => r7_seen.f k (truthsR D []) (s : Int) (g : Int) y) (toldF (cntL (fun n => seenB n g y s) (truthsL D 0)) (truthsL D 0).length) := by
 have hl := truthsR_len h
 have hle := truthsL_len h 0
 have key : ∀ (m i : Nat), i + m = (truthsL D 0).length → Ev (fun k => r7_seen.l0 k (truthsR D []) (s : Int) (g : Int) y ((cntL (fun n => seenB n g y s) ((truthsL D 0).take i) : Nat) : Int) (i : Int)) (toldF (cntL (fun n => seenB n g y s) (truthsL D 0)) (truthsL D 0).length) := by
  intro m
  induction m with
  | zero =>
   intro i hi
   rw [List.take_of_length_le (by omega)]
   refine Ev.step (f := fun _ => some _) (fun k => ?_) (Ev.now _)
   simp only [r7_seen.l0]
   rw [if_neg (by omega), hl, rSettled]
   rfl
  | succ m ih =>
   intro i hi
   have hlt : i < (truthsL D 0).length := by omega
   obtain ⟨t, ht, hrt, hTt, _⟩ := truthsR_at h i hlt
   have ih' := ih (i + 1) (by omega)
   have hc : cntL (fun n => seenB n g y s) ((truthsL D 0).take (i + 1)) = cntL (fun n => seenB n g y s) ((truthsL D 0).take i) + if seenB (fn (V8 t)) g y s = true then 1 else 0 := by
    rw [List.take_add_one, List.getElem?_eq_getElem hlt, Option.toList_some, cntL_snoc, hTt]
   have hcl : cntL (fun n => seenB n g y s) ((truthsL D 0).take i) ≤ 6561 := Nat.le_trans List.countP_le_length (by rw [List.length_take]; omega)
   rw [hc] at ih'
   generalize cntL (fun n => seenB n g y s) ((truthsL D 0).take i) = c at *
   have hrs := rSeen h ht (trU D [] t).f3 hs hg hy
   refine Ev.step (fun k => ?_) ih'
   simp only [r7_seen.l0, hrt]
   rw [if_pos (by omega), if_pos (by omega)]
   show (r7_Seen.f t.1 t.2.1 t.2.2 (trU D [] t).f3 (s : Int) (g : Int) y).bind _ = _
   rw [hrs, Option.bind_some, wrapN (n := c) (by omega), wrapN (n := i) (by omega)]
   cases seenB (fn (V8 t)) g y s <;> rfl
 exact key (truthsL D 0).length 0 (by omega)
end
theorem told_all {Q : (Nat → Int) → Bool} {l : List (List Int)} (h : l ≠ []) : (toldF (cntL Q l) l.length = 1 ↔ (l.all fun x => Q (fn x)) = true) ∧ (toldF (cntL Q l) l.length = 2 ↔ (l.any fun x => Q (fn x)) = false) := by
 have hpos := List.length_pos_iff.2 h
 have h1 : cntL Q l = l.length ↔ (l.all fun x => Q (fn x)) = true := by
  unfold cntL; rw [List.countP_eq_length, List.all_eq_true]
 have h2 : cntL Q l = 0 ↔ (l.any fun x => Q (fn x)) = false := by
  unfold cntL; rw [List.countP_eq_zero, List.any_eq_false]
 rw [← h1, ← h2]
 unfold toldF
 constructor
 ·
  constructor
  ·
   intro e; split at e
   ·
    omega
   ·
    split at e <;> cases e
  ·
   intro e; rw [if_pos (by omega)]
 ·
  constructor
  ·
   intro e; split at e
   ·
    cases e
   ·
    split at e
    ·
     omega
    ·
     cases e
  ·
   intro e; rw [if_neg (by omega), if_pos (by omega)]
section
variable {D : Dat} (h : Valid D) {g : Nat} (hg : g < D.gl.length) {y : Int} (hy : 0 ≤ y ∧ y ≤ 9) (hne : truthsL D 0 ≠ [])
include h hg hy hne
theorem rSees0 : ∀ (m i : Nat), i + m = D.sp.length →
  Ev (fun k => r7_Sees.l0 k (g : Int) y (truthsR D []) (ints ((List.range i).filter fun s => (truthsL D 0).all fun x => seenB (fn x) g y s)) (ints ((List.range i).filter fun s => (truthsL D 0).any fun x => seenB (fn x) g y s)) (i : Int) D.gl D.lo D.hi D.sp D.dr)
   (ints ((List.range D.sp.length).filter fun s => (truthsL D 0).all fun x => seenB (fn x) g y s), ints ((List.range D.sp.length).filter fun s => (truthsL D 0).any fun x => seenB (fn x) g y s), 0)
 | 0, i, hi => by
  obtain rfl : i = D.sp.length := by omega
  exact Ev.step (f := fun _ => some _) (fun k => by simp only [r7_Sees.l0]; rw [if_neg (by omega)]) (Ev.now _)
 | m + 1, i, hi => by
  have hlt : i < D.sp.length := by omega
  have hs4 := h.s4
  have ih := rSees0 m (i + 1) (by omega)
  have hS := rSeenN h hg hy i hlt
  obtain ⟨t1, t2⟩ := told_all (Q := fun n => seenB n g y i) hne
  have hfl : ∀ P : Nat → Bool, (ints ((List.range i).filter P)).length ≤ 1000 := fun P => by
   unfold ints; rw [List.length_map]; exact Nat.le_trans (List.length_filter_le _ _) (by simp; omega)
  have hnx : ∀ P : Nat → Bool, ints ((List.range (i + 1)).filter P) = if P i = true then ints ((List.range i).filter P) ++ [(i : Int)] else ints ((List.range i).filter P) := fun P => by
   rw [List.range_succ, List.filter_append]
   cases hb : P i <;> simp [hb, ints]
  rw [hnx, hnx] at ih
  have l1 := hfl fun s => (truthsL D 0).all fun x => seenB (fn x) g y s
  have l2 := hfl fun s => (truthsL D 0).any fun x => seenB (fn x) g y s
  generalize ints ((List.range i).filter fun s => (truthsL D 0).all fun x => seenB (fn x) g y s) = A at *
  generalize ints ((List.range i).filter fun s => (truthsL D 0).any fun x => seenB (fn x) g y s) = B at *
  generalize toldF (cntL (fun n => seenB n g y i) (truthsL D 0)) (truthsL D 0).length = w at *
  have hboth : ((truthsL D 0).all fun x => seenB (fn x) g y i) = true → ((truthsL D 0).any fun x => seenB (fn x) g y i) = true := fun ha => by
   cases hT : truthsL D 0 with
   | nil => exact absurd hT hne
   | cons z r => rw [hT] at ha; simp only [List.all_cons, Bool.and_eq_true] at ha; simp [ha.1]
  generalize ((truthsL D 0).all fun x => seenB (fn x) g y i) = pa at *
  generalize ((truthsL D 0).any fun x => seenB (fn x) g y i) = pb at *
  refine Ev.step (fun k => by simp only [r7_Sees.l0]; rw [if_pos (by omega)]) (Ev.bind hS ?_)
  rw [wrapN (by omega)]
  cases pa with
  | true =>
   have e1 := t1.2 rfl
   have e2 := hboth rfl
   subst e1
   subst e2
   simp only [if_true, Option.bind_some] at ih ⊢
   refine Ev.congr (fun k => ?_) ih
   rw [if_pos (by omega), if_neg (by decide), if_pos (by omega)]
  | false =>
   have n1 : w ≠ 1 := fun x => by have := t1.1 x; cases this
   cases pb with
   | true =>
    have n2 : w ≠ 2 := fun x => by have := t2.1 x; cases this
    simp only [if_neg n1, if_neg n2, Bool.false_eq_true, if_false, if_true] at ih ⊢
    refine Ev.congr (fun k => ?_) ih
    rw [if_pos (by omega)]
   | false =>
    have e2 := t2.2 rfl
    subst e2
    simp only [if_neg n1, if_true, Bool.false_eq_true, if_false] at ih ⊢
    exact ih
end
theorem rDated (e y : Int) : r7_dated.f e y = some (if e = 0 then (if outB 0 9 [y] = true then 7 else 0) else e) := by
 unfold r7_dated.f
 simp only [rIn, Option.bind_some, decide_eq_true_eq]
 have o := outB_one 0 9 y
 by_cases he : e = 0
 ·
  subst he
  simp only [if_true]
  by_cases h1 : 0 ≤ y ∧ y ≤ 9
  ·
   rw [if_pos h1, if_neg (fun x => o.1 x h1)]
  ·
   rw [if_neg h1, if_pos (o.2 h1)]
 ·
  rw [if_neg he, if_neg he]
theorem ask_dated (c : Int) (l : List (Bool × Int)) (y : Int) (h4 : ∀ x ∈ l, x.2 ≠ 0) : (if (if c ≠ 0 then c else askE l) = 0 then (if outB 0 9 [y] = true then (7 : Int) else 0) else (if c ≠ 0 then c else askE l)) = if c ≠ 0 then c else askE (l ++ [(datedB y, 7)]) := by
 have key : askE (l ++ [(datedB y, 7)]) = if askE l = 0 then (if outB 0 9 [y] = true then (7 : Int) else 0) else askE l := by
  induction l with
  | nil => simp only [List.nil_append, askE, datedB, if_true]; cases outB 0 9 [y] <;> rfl
  | cons x r ih =>
   have := ih (fun z hz => h4 z (List.mem_cons_of_mem _ hz))
   have hx := h4 x (List.mem_cons_self ..)
   obtain ⟨b, e⟩ := x
   simp only [List.cons_append, askE] at hx ⊢
   cases b
   ·
    simp only [Bool.false_eq_true, if_false]; rw [if_neg hx]
   ·
    simp only [if_true]; exact this
 rw [key]
 by_cases hc : c = 0
 ·
  simp only [hc, ne_eq, not_true_eq_false, if_false]
 ·
  simp only [hc, ne_eq, not_false_eq_true, if_true, if_false]
theorem rSeesF {D : Dat} (h : Fits D) (g y : Int) : Ev (fun k => r7_Sees.f k D.gl D.lo D.hi D.sp D.dr g y) (ints (seesF D g y).1, ints (seesF D g y).2, enterE D (askSees D g y)) := by
 unfold r7_Sees.f
 refine Ev.bind (rIndex h g D.gl.length h.g) ?_
 simp only [rDated, Option.bind_some]
 have ha : (if (if (checkF D).2.2 ≠ 0 then (checkF D).2.2 else askE [(amongB D.gl.length [g], 4)]) = 0 then (if outB 0 9 [y] = true then (7 : Int) else 0) else (if (checkF D).2.2 ≠ 0 then (checkF D).2.2 else askE [(amongB D.gl.length [g], 4)])) = if (checkF D).2.2 ≠ 0 then (checkF D).2.2 else askE (askSees D g y) := ask_dated _ _ _ (by simp)
 rw [ha]
 refine Ev.bind (rKnown ask_valid) ?_
 have h2 := knownR_two D (askSees D g y)
 by_cases he : enterE D (askSees D g y) = 0
 ·
  have hV := (enterE_ok he).1
  have ho := askSees_ok (enterE_ok he).2.2.1
  have hne := (enterE_ok he).2.2.2
  obtain ⟨n, rfl⟩ := Int.eq_ofNat_of_zero_le ho.1
  have h1 := knownR_one he
  rw [h2, h1, he]
  simp only [if_true]
  have hs := rSees0 hV (g := n) (by omega) (y := y) ⟨ho.2.2.1, ho.2.2.2⟩ hne D.sp.length 0 (by omega)
  have e : seesF D (n : Int) y = ((List.range D.sp.length).filter fun s => (truthsL D 0).all fun x => seenB (fn x) n y s, (List.range D.sp.length).filter fun s => (truthsL D 0).any fun x => seenB (fn x) n y s) := by
   unfold seesF
   rw [if_pos he, Int.toNat_natCast]
   congr 1
   ·
    refine List.filter_congr fun s hs => ?_
    show (!!(sureN D n y (truthsL D 0)).testBit s) = _
    rw [Bool.not_not, sureN_testBit hne]
    congr 1; funext x
    exact seeL_bit D n y x s (List.mem_range.1 hs)
   ·
    refine List.filter_congr fun s hs => ?_
    show (!!(mayN D n y (truthsL D 0)).testBit s) = _
    rw [Bool.not_not, mayN_testBit]
    congr 1; funext x
    exact seeL_bit D n y x s (List.mem_range.1 hs)
  rw [e]
  exact hs
 ·
  rw [h2, show seesF D g y = ([], []) from if_neg he]
  simp only [if_neg he]
  exact Ev.now _
end Go.Proofs.Ytgoidclnccjdeaa.D
end
section
/- Package glass: GlassUsed. -/
namespace Go.Proofs.Ytgoidclnccjdeaa.D
open Go Go.RowKit Go.Proofs.YtgoidclnccjdeaaK Go.Proofs.YtgoidclnccjdeaaW.PrintWords Go.Proofs.YtgoidclnccjdeaaW.PrintLast Go.Proofs.YtgoidclnccjdeaaW.PrintMore Go.Proofs.Ytgoidclnccjdeaa.PR Go.Proofs.Ytgoidclnccjdeaa.M
set_option linter.unusedVariables false
set_option linter.unusedSimpArgs false

set_option maxRecDepth 100000 in
set_option maxHeartbeats 4000000 in
theorem GlassUsed_calls (D : Dat) (A0 : Option Addr) (c0 : Nat) (A3 : Option Addr) (c3 : Nat) (A4 : Option Addr) (c4 : Nat) (x0 x1 x2 : Int) (w : World) (h : Arg w D A0 c0 A3 c3 A4 c4) :
  Calls Try.prog 4 #[.agg (D.cells A0 c0 A3 c3 A4 c4), .agg #[.int .i64 x0, .int .i64 x1, .int .i64 x2]] w
   fun e w' => e = .returned (.bool true) ∧ Below w.heap.size w w' := by
 have HS := Aside0.mk (blk_alloc (blk_new w (.cells (D.cells A0 c0 A3 c3 A4 c4) 28)) (.cells #[.int .i64 x0, .int .i64 x1, .int .i64 x2] 38))
 have HX := Aside0.mk (new_at (W := w.alloc (.cells (D.cells A0 c0 A3 c3 A4 c4) 28)) (n := w.heap.size + 1) (by simp) (.cells #[.int .i64 x0, .int .i64 x1, .int .i64 x2] 38))
 have HB := Aside0.mk (below_alloc (below_alloc (Below.refl w.heap.size w) (.cells (D.cells A0 c0 A3 c3 A4 c4) 28)) (.cells #[.int .i64 x0, .int .i64 x1, .int .i64 x2] 38))
 have HA := Aside0.mk h
 obtain ⟨K1, hK1⟩ := (rUsedF h.fits x0).rounds
 obtain ⟨K2, hK2⟩ := (rSeesF h.fits x1 x2).rounds
 clear h
 obtain ⟨q, hq⟩ : ∃ q, w.heap.size = q := ⟨_, rfl⟩
 obtain ⟨en1, hen1⟩ : ∃ en, enterE D (askUsed D x0) = en := ⟨_, rfl⟩
 obtain ⟨f, hf⟩ : ∃ f, usedF D x0 = f := ⟨_, rfl⟩
 obtain ⟨en2, hen2⟩ : ∃ en, enterE D (askSees D x1 x2) = en := ⟨_, rfl⟩
 obtain ⟨s, hs⟩ : ∃ s, seesF D x1 x2 = s := ⟨_, rfl⟩
 rw [hen1, hf] at hK1
 rw [hen2, hs] at hK2
 have HE1 := Aside0.mk hen1
 have HE2 := Aside0.mk hen2
 have H1 := Aside0.mk hf
 have H2 := Aside0.mk hs
 have HK1 := Aside0.mk hK1
 have HK2 := Aside0.mk hK2
 clear hen1 hen2 hf hs hK1 hK2
 obtain ⟨s1, s2⟩ := s
 go_enter Try.func4, Try.ntmps4
 go_upto_region 1 with (fail)
 generalize (w.alloc (.cells (D.cells A0 c0 A3 c3 A4 c4) 28)).alloc (.cells #[.int .i64 x0, .int .i64 x1, .int .i64 x2] 38) = w1 at HS HX HB ⊢
 rw [hq] at HS HX
 try rw [hq]
 have k0 := (blk_cell HS.out 0).trans rfl
 have k1 := (blk_cell HS.out 1).trans rfl
 have k2 := (blk_cell HS.out 2).trans rfl
 have k3 := (blk_cell HS.out 3).trans rfl
 have k4 := (blk_cell HS.out 4).trans rfl
 have kl := blk_lt HS.out
 have y0 := (blk_cell HX.out 0).trans rfl
 have y1 := (blk_cell HX.out 1).trans rfl
 have y2 := (blk_cell HX.out 2).trans rfl
 have yl := blk_lt HX.out
 go_wp2_with fail
 clear k0 k1 k2 k3 k4 kl y0 y1 y2 yl
 have hA := HA.out.below HB.out
 refine (Used_calls D A0 c0 A3 c3 A4 c4 x0 w1 hA).mono ?_
 clear hA
 rw [HE1.out, H1.out]
 rintro e w2 ⟨⟨v, rfl, hn⟩, hb⟩
 obtain ⟨Au, cu, rfl, hcu⟩ := hn.lit
 have Hu := Aside0.mk hcu
 clear hcu hn
 replace HB := Aside0.mk (HB.out.trans (hb.mono HB.out.size))
 replace HS := Aside0.mk (blk_below HS.out hb)
 replace HX := Aside0.mk (blk_below HX.out hb)
 clear hb
 go_upto_region 2 with (fail)
 have k0 := (blk_cell HS.out 0).trans rfl
 have k1 := (blk_cell HS.out 1).trans rfl
 have k2 := (blk_cell HS.out 2).trans rfl
 have k3 := (blk_cell HS.out 3).trans rfl
 have k4 := (blk_cell HS.out 4).trans rfl
 have kl := blk_lt HS.out
 have y0 := (blk_cell HX.out 0).trans rfl
 have y1 := (blk_cell HX.out 1).trans rfl
 have y2 := (blk_cell HX.out 2).trans rfl
 have yl := blk_lt HX.out
 go_wp2_with fail
 clear k0 k1 k2 k3 k4 kl y0 y1 y2 yl
 have hA := HA.out.below HB.out
 refine (r7_Used.calls K1 A0 c0 D.gl D.lo D.hi A3 c3 D.sp A4 c4 D.dr x0 (ints f) en1 w2 hA.g hA.gc hA.s hA.sc hA.d hA.dc HK1.out).mono ?_
 clear hA
 rintro e w3 ⟨v, rfl, hn, hb⟩
 obtain ⟨Av, cv, rfl, _, hcv⟩ := Kd.R_reads hn
 have Hv := Aside0.mk hcv
 clear hcv hn
 replace HB := Aside0.mk (HB.out.trans (hb.mono HB.out.size))
 replace HS := Aside0.mk (blk_below HS.out hb)
 replace HX := Aside0.mk (blk_below HX.out hb)
 replace Hu := Aside0.mk (Kd.C_below Hu.out hb)
 clear hb
 go_upto_region 3 with (fail)
 go_wp2_with fail
 have hI := Ints_calls (ints f) (ints f) Au Av f.length f.length cu cv w3 (by simp [ints]) (by simp [ints]) Hu.out (by have h9 := Hv.out; simpa [ints] using h9)
 rw [beq_self_eq_true] at hI
 refine Calls.mono (by first | exact hI | (simpa [ints] using hI)) ?_
 clear hI
 rintro e w4 ⟨rfl, hc⟩
 have hb := hc.below (fun _ _ x => x.elim) (Nat.le_refl _)
 clear hc
 replace HB := Aside0.mk (HB.out.trans (hb.mono HB.out.size))
 replace HS := Aside0.mk (blk_below HS.out hb)
 replace HX := Aside0.mk (blk_below HX.out hb)
 replace Hu := Aside0.mk (Kd.C_below Hu.out hb)
 replace Hv := Aside0.mk (Kd.C_below Hv.out hb)
 clear hb
 go_upto_region 5 with (fail)
 clear Hu Hv
 have k0 := (blk_cell HS.out 0).trans rfl
 have k1 := (blk_cell HS.out 1).trans rfl
 have k2 := (blk_cell HS.out 2).trans rfl
 have k3 := (blk_cell HS.out 3).trans rfl
 have k4 := (blk_cell HS.out 4).trans rfl
 have kl := blk_lt HS.out
 have y0 := (blk_cell HX.out 0).trans rfl
 have y1 := (blk_cell HX.out 1).trans rfl
 have y2 := (blk_cell HX.out 2).trans rfl
 have yl := blk_lt HX.out
 go_wp2_with fail
 clear k0 k1 k2 k3 k4 kl y0 y1 y2 yl
 have hA := HA.out.below HB.out
 refine (Sees_calls D A0 c0 A3 c3 A4 c4 x1 x2 w4 hA).mono ?_
 clear hA
 rw [HE2.out, H2.out]
 rintro e w5 ⟨⟨u, v, rfl, hn, m, _, _, hn2⟩, hb⟩
 obtain ⟨Aa, ca, rfl, hca⟩ := hn.lit
 have Ha := Aside0.mk hca
 clear hca hn
 obtain ⟨Ab, cb, rfl, hcb⟩ := hn2.lit
 have Hb := Aside0.mk hcb
 clear hcb hn2
 replace HB := Aside0.mk (HB.out.trans (hb.mono HB.out.size))
 replace HS := Aside0.mk (blk_below HS.out hb)
 replace HX := Aside0.mk (blk_below HX.out hb)
 clear hb
 go_upto_region 6 with (fail)
 have k0 := (blk_cell HS.out 0).trans rfl
 have k1 := (blk_cell HS.out 1).trans rfl
 have k2 := (blk_cell HS.out 2).trans rfl
 have k3 := (blk_cell HS.out 3).trans rfl
 have k4 := (blk_cell HS.out 4).trans rfl
 have kl := blk_lt HS.out
 have y0 := (blk_cell HX.out 0).trans rfl
 have y1 := (blk_cell HX.out 1).trans rfl
 have y2 := (blk_cell HX.out 2).trans rfl
 have yl := blk_lt HX.out
 go_wp2_with fail
 clear k0 k1 k2 k3 k4 kl y0 y1 y2 yl
 have hA := HA.out.below HB.out
 refine (r7_Sees.calls K2 A0 c0 D.gl D.lo D.hi A3 c3 D.sp A4 c4 D.dr x1 x2 (ints s1) (ints s2) en2 w5 hA.g hA.gc hA.s hA.sc hA.d hA.dc HK2.out).mono ?_
 clear hA
 rintro e w6 ⟨u, v, rfl, hn, hn2, hb⟩
 obtain ⟨Ac, cc, rfl, _, hcc⟩ := Kd.R_reads hn
 have Hc := Aside0.mk hcc
 clear hcc hn
 obtain ⟨Ad, cd, rfl, _, hcd⟩ := Kd.R_reads hn2
 have Hd := Aside0.mk hcd
 clear hcd hn2
 replace HB := Aside0.mk (HB.out.trans (hb.mono HB.out.size))
 replace HS := Aside0.mk (blk_below HS.out hb)
 replace HX := Aside0.mk (blk_below HX.out hb)
 replace Ha := Aside0.mk (Kd.C_below Ha.out hb)
 replace Hb := Aside0.mk (Kd.C_below Hb.out hb)
 clear hb
 go_upto_region 7 with (fail)
 go_wp2_with fail
 have hI := Ints_calls (ints s1) (ints s1) Aa Ac s1.length s1.length ca cc w6 (by simp [ints]) (by simp [ints]) Ha.out (by have h9 := Hc.out; simpa [ints] using h9)
 rw [beq_self_eq_true] at hI
 refine Calls.mono (by first | exact hI | (simpa [ints] using hI)) ?_
 clear hI
 rintro e w7 ⟨rfl, hc⟩
 have hb := hc.below (fun _ _ x => x.elim) (Nat.le_refl _)
 clear hc
 replace HB := Aside0.mk (HB.out.trans (hb.mono HB.out.size))
 replace HS := Aside0.mk (blk_below HS.out hb)
 replace HX := Aside0.mk (blk_below HX.out hb)
 replace Ha := Aside0.mk (Kd.C_below Ha.out hb)
 replace Hb := Aside0.mk (Kd.C_below Hb.out hb)
 replace Hc := Aside0.mk (Kd.C_below Hc.out hb)
 replace Hd := Aside0.mk (Kd.C_below Hd.out hb)
 clear hb
 go_wp2_with fail
 have hI := Ints_calls (ints s2) (ints s2) Ab Ad s2.length s2.length cb cd w7 (by simp [ints]) (by simp [ints]) Hb.out (by have h9 := Hd.out; simpa [ints] using h9)
 rw [beq_self_eq_true] at hI
 refine Calls.mono (by first | exact hI | (simpa [ints] using hI)) ?_
 clear hI
 rintro e w8 ⟨rfl, hc⟩
 have hb := hc.below (fun _ _ x => x.elim) (Nat.le_refl _)
 clear hc
 replace HB := Aside0.mk (HB.out.trans (hb.mono HB.out.size))
 replace HS := Aside0.mk (blk_below HS.out hb)
 replace HX := Aside0.mk (blk_below HX.out hb)
 replace Ha := Aside0.mk (Kd.C_below Ha.out hb)
 replace Hb := Aside0.mk (Kd.C_below Hb.out hb)
 replace Hc := Aside0.mk (Kd.C_below Hc.out hb)
 replace Hd := Aside0.mk (Kd.C_below Hd.out hb)
 clear hb
 go_wp2_with fail
 refine (Awake_calls _).mono ?_
 rintro e wA ⟨rfl, hb⟩
 replace HB := Aside0.mk (HB.out.trans (hb.mono HB.out.size))
 clear hb
 go_wp2
 go_ret
 exact ⟨rfl, by first | exact HB.out | (rw [← hq]; exact HB.out)⟩
end Go.Proofs.Ytgoidclnccjdeaa.D
end
section
/- Package glass: small arrays of ints that came in as_ arguments, opened. -/
namespace Go.Proofs.Ytgoidclnccjdeaa.D
open Go Go.RowKit Go.ChangeShapes Go.WideShapes Go.Deep
set_option linter.unusedVariables false
set_option linter.unusedSectionVars false
section
variable {H : Type} {enc : TypeId × Value → H} {w : World} {base : Nat} {spare : Nat → Bool} {held : Bool} {P : Program}
theorem okWide_array {n : Nat} {e t : TypeId} {r : Reach} {b0 : Nat} {v : Value} (ht : P.underlying t = some (.array n e)) (h : Value.okWide P w r b0 t v) : ∃ cs, v = .agg cs ∧ cs.size = P.cellsOf t := by
 simp only [Value.okWide, ht] at h
 obtain ⟨cs, h1, h2, _⟩ := h
 exact ⟨cs, h1, h2⟩
theorem open_arr3' {e t : TypeId} {r : Reach} {b0 : Nat} {v : Value} {d : DataW H} {p : List MemPlace} (ht : P.underlying t = some (.array 3 e)) (hc : P.cellsOf t = 3) (he : P.underlying e = some (.int .i64)) (hc1 : P.cellsOf e = 1)
  (hv : Value.okWide P w r b0 t v) (h : DataW.Trod enc P w base spare held t v d p) : ∃ x0 x1 x2 : Int, v = .agg #[.int .i64 x0, .int .i64 x1, .int .i64 x2] ∧ (Lit.int .i64 x0).wf = true ∧ (Lit.int .i64 x1).wf = true ∧ (Lit.int .i64 x2).wf = true := by
 obtain ⟨cs, rfl, hsz⟩ := okWide_array ht hv
 obtain ⟨fuel, hf⟩ := h
 obtain ⟨xs, m, _, _, _, hl, hi⟩ := DataW.trod_array ht hf
 obtain ⟨L⟩ := cs
 rw [hc] at hsz
 match L, hsz with
 | [c0, c1, c2], _ =>
  have g0 := hi 0 (by decide)
  rw [hc1, List.getElem?_eq_getElem (by omega)] at g0
  obtain ⟨x0, e0, _, w0⟩ := DataW.trod_int he g0
  simp [Value.cells] at e0
  have g1 := hi 1 (by decide)
  rw [hc1, List.getElem?_eq_getElem (by omega)] at g1
  obtain ⟨x1, e1, _, w1⟩ := DataW.trod_int he g1
  simp [Value.cells] at e1
  have g2 := hi 2 (by decide)
  rw [hc1, List.getElem?_eq_getElem (by omega)] at g2
  obtain ⟨x2, e2, _, w2⟩ := DataW.trod_int he g2
  simp [Value.cells] at e2
  subst e0 e1 e2
  exact ⟨x0, x1, x2, rfl, w0, w1, w2⟩
end
section
variable {H : Type} {enc : TypeId × Value → H} {w : World} {base : Nat} {spare : Nat → Bool} {held : Bool}
set_option maxRecDepth 100000 in
theorem open_arr3 {t : TypeId} {r : Reach} {b0 : Nat} {v : Value} {d : DataW H} {p : List MemPlace} (ht : Try.prog.underlying t = some (.array 3 3)) (hc : Try.prog.cellsOf t = 3)
  (hv : Value.okWide Try.prog w r b0 t v) (h : DataW.Trod enc Try.prog w base spare held t v d p) : ∃ x0 x1 x2 : Int, v = .agg #[.int .i64 x0, .int .i64 x1, .int .i64 x2] ∧ (Lit.int .i64 x0).wf = true ∧ (Lit.int .i64 x1).wf = true ∧ (Lit.int .i64 x2).wf = true :=
 open_arr3' ht hc Try.underlying3 (by kernel_rfl) hv h
end
end Go.Proofs.Ytgoidclnccjdeaa.D
end
