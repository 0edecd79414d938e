/- Contracts of the functions that this claim reaches, with the words for them: pruned and packed by wip/tools/prune.py. -/
import Derived.Test.YtgoidclnccjdeaaIf
import Derived.Deep.Slices
import Derived.Deep.Fields
import Derived.ChangeSame
import Derived.ProofKit
import Derived.SizedLaws
import Derived.KernelRfl
import Derived.Deep.RegionHeld3
import Derived.Deep.QuietTactic
import Derived.BigQuiet
import Derived.OpenShut
import Derived.Laws.IdiomArrays
section
namespace Go.Proofs.Ytgoidclnccjdeaa.PR
open Go.RowKit Go.Proofs.YtgoidclnccjdeaaW.PrintWords Go.Proofs.YtgoidclnccjdeaaW.PrintLast Go.Proofs.YtgoidclnccjdeaaW.PrintMore
attribute [local go_sem] max2_int min2_int max_two min_two max_three min_three max_four min_four   -- for this text's walks alone
set_option linter.unusedVariables false
set_option linter.unusedSimpArgs false

def helioscopelaw07_valid.f (k : Nat) (l0_0 : List (S95)) (a0_1 : Int) (a0_2 : Int) (l0_3 : List (S24)) (l0_4 : List (S72)) : Option (Bool) := (r7_Check.f k l0_0 a0_1 a0_2 l0_3 l0_4).bind fun bt358 => (some (bt358.2.2 == 0))
set_option maxHeartbeats 8000000 in
set_option maxRecDepth 100000 in
theorem helioscopelaw07_valid.calls (k : Nat) (A0_0 : Option Addr) (c0_0 : Nat) (l0_0 : List (S95)) (a0_1 : Int) (a0_2 : Int) (A0_3 : Option Addr) (c0_3 : Nat) (l0_3 : List (S24)) (A0_4 : Option Addr) (c0_4 : Nat) (l0_4 : List (S72)) (r : Bool) (w : World) (hr0_0 : Kd.C k95 w A0_0 l0_0.length l0_0) (hc0_0 : l0_0.length ≤ c0_0) (hr0_3 : Kd.C k24 w A0_3 l0_3.length l0_3) (hc0_3 : l0_3.length ≤ c0_3) (hr0_4 : Kd.C k72 w A0_4 l0_4.length l0_4) (hc0_4 : l0_4.length ≤ c0_4) (h : helioscopelaw07_valid.f k l0_0 a0_1 a0_2 l0_3 l0_4 = some r) :
  Calls Try.prog 39 #[.agg #[.slice A0_0 l0_0.length c0_0, .int .i64 a0_1, .int .i64 a0_2, .slice A0_3 l0_3.length c0_3, .slice A0_4 l0_4.length c0_4]] w fun e w' => e = .returned (.bool r) ∧ Below w.heap.size w w' := by
 have hu28 := Try.underlying28
 have HR0_0 := Aside0.mk hr0_0
 have HC0_0 := Aside0.mk hc0_0
 clear hr0_0 hc0_0
 have HR0_3 := Aside0.mk hr0_3
 have HC0_3 := Aside0.mk hc0_3
 clear hr0_3 hc0_3
 have HR0_4 := Aside0.mk hr0_4
 have HC0_4 := Aside0.mk hc0_4
 clear hr0_4 hc0_4
 have HB := Aside0.mk (Below.refl w.heap.size w)
 have H : ((r7_Check.f k l0_0 a0_1 a0_2 l0_3 l0_4).bind fun bt358 => (some (bt358.2.2 == 0))) = some r := h
 clear h
 replace H := Option.bind_eq_some_iff.mp H
 obtain ⟨⟨t358, t359, t360⟩, A20, H⟩ := H
 replace H : (some (t360 == 0)) = some r := H
 have A2 := Aside0.mk A20
 clear A20
 obtain rfl := Option.some.inj H
 go_enter Try.func39, Try.ntmps39
 go_wp2_with (first | ((with_reducible refine gate_dst (N := 1) rfl ?_); refine box_event ?hg (N := 1) ?hd (cs := #[.slice A0_0 l0_0.length c0_0, .int .i64 a0_1, .int .i64 a0_2, .slice A0_3 l0_3.length c0_3, .slice A0_4 l0_4.length c0_4]) (t := 28) ?hr ?_; (case hd => rfl); (case hg => rfl); (case hr => first | (go_simp; done) | (go_simp; rfl)); intro gb357 hg w3 hbox hb; have n0_ := Aside0.mk (below_step (by repeat (first | (with_reducible first | exact HB.out | apply below_alloc | apply pw_below_drewN | apply below_drew1) | exact HB.out)) hb); have n1_ := Aside0.mk (hbox); have n2_ := Aside0.mk ((by rw [hg]; exact (below_size (by repeat (first | (with_reducible first | exact HB.out | apply below_alloc | apply pw_below_drewN | apply below_drew1) | exact HB.out))) : w.heap.size ≤ gb357)); have n3_ := Aside0.mk ((by rw [hg]; exact (below_size (by repeat (first | (with_reducible first | exact HB.out | apply below_alloc | apply pw_below_drewN | apply below_drew1) | exact HB.out))) : w.heap.size ≤ gb357)); clear HB; have HB := n0_; have BK357 := n1_; have GW357 := n2_; have GE357 := n3_; clear n0_ n1_ n2_ n3_; clear hb hbox hg; have hcz4_0 : w3.cell? ⟨gb357, 0, none⟩ = some (.slice A0_0 l0_0.length c0_0) := (blk_cell BK357.out 0).trans rfl; have hcz4_1 : w3.cell? ⟨gb357, 1, none⟩ = some (.int .i64 a0_1) := (blk_cell BK357.out 1).trans rfl; have hcz4_2 : w3.cell? ⟨gb357, 2, none⟩ = some (.int .i64 a0_2) := (blk_cell BK357.out 2).trans rfl; have hcz4_3 : w3.cell? ⟨gb357, 3, none⟩ = some (.slice A0_3 l0_3.length c0_3) := (blk_cell BK357.out 3).trans rfl; have hcz4_4 : w3.cell? ⟨gb357, 4, none⟩ = some (.slice A0_4 l0_4.length c0_4) := (blk_cell BK357.out 4).trans rfl; have hfz4_0 := blk_frozen BK357.out 0; have hfz4_1 := blk_frozen BK357.out 1; have hfz4_2 := blk_frozen BK357.out 2; have hfz4_3 := blk_frozen BK357.out 3; have hfz4_4 := blk_frozen BK357.out 4) | ((with_reducible refine gate_callee (f := 18) rfl ?_); refine goesL_ (some 8) rfl rfl Try.func18 (by kernel_rfl) rfl #[.agg #[.slice A0_0 l0_0.length c0_0, .int .i64 a0_1, .int .i64 a0_2, .slice A0_3 l0_3.length c0_3, .slice A0_4 l0_4.length c0_4]] rfl (by (try simp only [List.map_toArray, List.map_cons, List.map_nil]); first | done | rfl | (simp only [List.length_drop, List.length_take]; rfl)) ?_; (with_reducible refine (r7_Check.calls k _ _ l0_0 a0_1 a0_2 _ _ l0_3 _ _ l0_4 t358 t359 t360 _ ?side1 ?side2 ?side3 ?side4 ?side5 ?side6 A2.out).mono ?_); (case side1 => repeat (first | exact (Kd.C_below HR0_0.out HB.out) | (with_reducible refine Kd.C_alloc ?_ _) | (with_reducible refine Kd.C_drewN ?_ _) | (with_reducible refine Kd.C_drew ?_))); (case side2 => exact HC0_0.out); (case side3 => repeat (first | exact (Kd.C_below HR0_3.out HB.out) | (with_reducible refine Kd.C_alloc ?_ _) | (with_reducible refine Kd.C_drewN ?_ _) | (with_reducible refine Kd.C_drew ?_))); (case side4 => exact HC0_3.out); (case side5 => repeat (first | exact (Kd.C_below HR0_4.out HB.out) | (with_reducible refine Kd.C_alloc ?_ _) | (with_reducible refine Kd.C_drewN ?_ _) | (with_reducible refine Kd.C_drew ?_))); (case side6 => exact HC0_4.out); rintro e w5 ⟨rfl, hb⟩; refine ⟨_, rfl, ?_⟩; have n0_ := Aside0.mk (blk_below (g := gb357) (o := .cells #[.slice A0_0 l0_0.length c0_0, .int .i64 a0_1, .int .i64 a0_2, .slice A0_3 l0_3.length c0_3, .slice A0_4 l0_4.length c0_4] 28 (0, 0)) (by (with_reducible repeat (first | refine blk_drewN ?_ _ | refine blk_drew ?_ | refine blk_alloc ?_ _)); exact BK357.out) hb); have n1_ := Aside0.mk (below_step (by repeat (first | (with_reducible first | exact HB.out | apply below_alloc | apply pw_below_drewN | apply below_drew1 | refine below_set ?_ GE357.out) | exact HB.out)) hb); clear BK357; clear HB; have BK357 := n0_; have HB := n1_; clear n0_ n1_; (try clear hb); (try clear hb2); (try clear hk); (try clear hi)))
 go_ret
 exact ⟨by first | rfl | (simp [errW_none, errW_some] <;> rfl) | (simp [*, errW_none, errW_some] <;> rfl), by repeat (first | (with_reducible first | exact HB.out | apply below_alloc | apply pw_below_drewN | apply below_drew1 | refine below_set ?_ GE357.out) | exact HB.out)⟩

def helioscopelaw07_some.f (k : Nat) (l0_0 : List (S95)) (a0_1 : Int) (a0_2 : Int) (l0_3 : List (S24)) (l0_4 : List (S72)) : Option (Bool) := (helioscopelaw07_valid.f k l0_0 a0_1 a0_2 l0_3 l0_4).bind fun t362 => (if t362 = true then ((r7_Truths.f k l0_0 a0_1 a0_2 l0_3 l0_4 ([] : List Int)).bind fun t363 => (some (decide ((t363.length : Int) > 0)))) else (some false))
set_option maxHeartbeats 8000000 in
set_option maxRecDepth 100000 in
theorem helioscopelaw07_some.calls (k : Nat) (A0_0 : Option Addr) (c0_0 : Nat) (l0_0 : List (S95)) (a0_1 : Int) (a0_2 : Int) (A0_3 : Option Addr) (c0_3 : Nat) (l0_3 : List (S24)) (A0_4 : Option Addr) (c0_4 : Nat) (l0_4 : List (S72)) (r : Bool) (w : World) (hr0_0 : Kd.C k95 w A0_0 l0_0.length l0_0) (hc0_0 : l0_0.length ≤ c0_0) (hr0_3 : Kd.C k24 w A0_3 l0_3.length l0_3) (hc0_3 : l0_3.length ≤ c0_3) (hr0_4 : Kd.C k72 w A0_4 l0_4.length l0_4) (hc0_4 : l0_4.length ≤ c0_4) (h : helioscopelaw07_some.f k l0_0 a0_1 a0_2 l0_3 l0_4 = some r) :
  Calls Try.prog 45 #[.agg #[.slice A0_0 l0_0.length c0_0, .int .i64 a0_1, .int .i64 a0_2, .slice A0_3 l0_3.length c0_3, .slice A0_4 l0_4.length c0_4]] w fun e w' => e = .returned (.bool r) ∧ Below w.heap.size w w' := by
 have hu28 := Try.underlying28
 have HR0_0 := Aside0.mk hr0_0
 have HC0_0 := Aside0.mk hc0_0
 clear hr0_0 hc0_0
 have HR0_3 := Aside0.mk hr0_3
 have HC0_3 := Aside0.mk hc0_3
 clear hr0_3 hc0_3
 have HR0_4 := Aside0.mk hr0_4
 have HC0_4 := Aside0.mk hc0_4
 clear hr0_4 hc0_4
 have HB := Aside0.mk (Below.refl w.heap.size w)
 have H : ((helioscopelaw07_valid.f k l0_0 a0_1 a0_2 l0_3 l0_4).bind fun t362 => (if t362 = true then ((r7_Truths.f k l0_0 a0_1 a0_2 l0_3 l0_4 ([] : List Int)).bind fun t363 => (some (decide ((t363.length : Int) > 0)))) else (some false))) = some r := h
 clear h
 replace H := Option.bind_eq_some_iff.mp H
 obtain ⟨t362, A20, H⟩ := H
 replace H : (if t362 = true then ((r7_Truths.f k l0_0 a0_1 a0_2 l0_3 l0_4 ([] : List Int)).bind fun t363 => (some (decide ((t363.length : Int) > 0)))) else (some false)) = some r := H
 have A2 := Aside0.mk A20
 clear A20
 by_cases c3 : t362 = true
 ·
  subst c3
  have H1 : ((r7_Truths.f k l0_0 a0_1 a0_2 l0_3 l0_4 ([] : List Int)).bind fun t363 => (some (decide ((t363.length : Int) > 0)))) = some r := by rw [if_pos rfl] at H; exact H
  clear H
  have H := H1
  clear H1
  replace H := Option.bind_eq_some_iff.mp H
  obtain ⟨t363, A40, H⟩ := H
  replace H : (some (decide ((t363.length : Int) > 0))) = some r := H
  have A4 := Aside0.mk A40
  clear A40
  obtain rfl := Option.some.inj H
  go_enter Try.func45, Try.ntmps45
  go_wp2_with (first | ((with_reducible refine gate_dst (N := 1) rfl ?_); (try (refine gate_guard (by rfl) ?_; dsimp only)); refine box_event ?hg (N := 1) ?hd (cs := #[.slice A0_0 l0_0.length c0_0, .int .i64 a0_1, .int .i64 a0_2, .slice A0_3 l0_3.length c0_3, .slice A0_4 l0_4.length c0_4]) (t := 28) ?hr ?_; (case hd => rfl); (case hg => rfl); (case hr => first | (go_simp; done) | (go_simp; rfl)); intro gb361 hg w5 hbox hb; have n0_ := Aside0.mk (below_step (by repeat (first | (with_reducible first | exact HB.out | apply below_alloc | apply pw_below_drewN | apply below_drew1) | exact HB.out)) hb); have n1_ := Aside0.mk (hbox); have n2_ := Aside0.mk ((by rw [hg]; exact (below_size (by repeat (first | (with_reducible first | exact HB.out | apply below_alloc | apply pw_below_drewN | apply below_drew1) | exact HB.out))) : w.heap.size ≤ gb361)); have n3_ := Aside0.mk ((by rw [hg]; exact (below_size (by repeat (first | (with_reducible first | exact HB.out | apply below_alloc | apply pw_below_drewN | apply below_drew1) | exact HB.out))) : w.heap.size ≤ gb361)); clear HB; have HB := n0_; have BK361 := n1_; have GW361 := n2_; have GE361 := n3_; clear n0_ n1_ n2_ n3_; clear hb hbox hg; have hcz6_0 : w5.cell? ⟨gb361, 0, none⟩ = some (.slice A0_0 l0_0.length c0_0) := (blk_cell BK361.out 0).trans rfl; have hcz6_1 : w5.cell? ⟨gb361, 1, none⟩ = some (.int .i64 a0_1) := (blk_cell BK361.out 1).trans rfl; have hcz6_2 : w5.cell? ⟨gb361, 2, none⟩ = some (.int .i64 a0_2) := (blk_cell BK361.out 2).trans rfl; have hcz6_3 : w5.cell? ⟨gb361, 3, none⟩ = some (.slice A0_3 l0_3.length c0_3) := (blk_cell BK361.out 3).trans rfl; have hcz6_4 : w5.cell? ⟨gb361, 4, none⟩ = some (.slice A0_4 l0_4.length c0_4) := (blk_cell BK361.out 4).trans rfl; have hfz6_0 := blk_frozen BK361.out 0; have hfz6_1 := blk_frozen BK361.out 1; have hfz6_2 := blk_frozen BK361.out 2; have hfz6_3 := blk_frozen BK361.out 3; have hfz6_4 := blk_frozen BK361.out 4) | ((with_reducible refine gate_callee (f := 39) rfl ?_); refine goesL_ (some 4) rfl rfl Try.func39 (by kernel_rfl) rfl #[.agg #[.slice A0_0 l0_0.length c0_0, .int .i64 a0_1, .int .i64 a0_2, .slice A0_3 l0_3.length c0_3, .slice A0_4 l0_4.length c0_4]] rfl (by (try simp only [List.map_toArray, List.map_cons, List.map_nil]); first | done | rfl | (simp only [List.length_drop, List.length_take]; rfl)) ?_; (with_reducible refine (helioscopelaw07_valid.calls k _ _ l0_0 a0_1 a0_2 _ _ l0_3 _ _ l0_4 true _ ?side1 ?side2 ?side3 ?side4 ?side5 ?side6 A2.out).mono ?_); (case side1 => repeat (first | exact (Kd.C_below HR0_0.out HB.out) | (with_reducible refine Kd.C_alloc ?_ _) | (with_reducible refine Kd.C_drewN ?_ _) | (with_reducible refine Kd.C_drew ?_))); (case side2 => exact HC0_0.out); (case side3 => repeat (first | exact (Kd.C_below HR0_3.out HB.out) | (with_reducible refine Kd.C_alloc ?_ _) | (with_reducible refine Kd.C_drewN ?_ _) | (with_reducible refine Kd.C_drew ?_))); (case side4 => exact HC0_3.out); (case side5 => repeat (first | exact (Kd.C_below HR0_4.out HB.out) | (with_reducible refine Kd.C_alloc ?_ _) | (with_reducible refine Kd.C_drewN ?_ _) | (with_reducible refine Kd.C_drew ?_))); (case side6 => exact HC0_4.out); rintro e w7 ⟨rfl, hb⟩; refine ⟨_, rfl, ?_⟩; have n0_ := Aside0.mk (blk_below (g := gb361) (o := .cells #[.slice A0_0 l0_0.length c0_0, .int .i64 a0_1, .int .i64 a0_2, .slice A0_3 l0_3.length c0_3, .slice A0_4 l0_4.length c0_4] 28 (0, 0)) (by (with_reducible repeat (first | refine blk_drewN ?_ _ | refine blk_drew ?_ | refine blk_alloc ?_ _)); exact BK361.out) hb); have n1_ := Aside0.mk (below_step (by repeat (first | (with_reducible first | exact HB.out | apply below_alloc | apply pw_below_drewN | apply below_drew1 | refine below_set ?_ GE361.out) | exact HB.out)) hb); clear BK361; clear HB; have BK361 := n0_; have HB := n1_; clear n0_ n1_; (try clear hb); (try clear hb2); (try clear hk); (try clear hi); have hcz8_0 : w7.cell? ⟨gb361, 0, none⟩ = some (.slice A0_0 l0_0.length c0_0) := (blk_cell BK361.out 0).trans rfl; have hcz8_1 : w7.cell? ⟨gb361, 1, none⟩ = some (.int .i64 a0_1) := (blk_cell BK361.out 1).trans rfl; have hcz8_2 : w7.cell? ⟨gb361, 2, none⟩ = some (.int .i64 a0_2) := (blk_cell BK361.out 2).trans rfl; have hcz8_3 : w7.cell? ⟨gb361, 3, none⟩ = some (.slice A0_3 l0_3.length c0_3) := (blk_cell BK361.out 3).trans rfl; have hcz8_4 : w7.cell? ⟨gb361, 4, none⟩ = some (.slice A0_4 l0_4.length c0_4) := (blk_cell BK361.out 4).trans rfl; have hfz8_0 := blk_frozen BK361.out 0; have hfz8_1 := blk_frozen BK361.out 1; have hfz8_2 := blk_frozen BK361.out 2; have hfz8_3 := blk_frozen BK361.out 3; have hfz8_4 := blk_frozen BK361.out 4) | (go_at_call 49; (refine (r7_Truths.calls k _ _ l0_0 a0_1 a0_2 _ _ l0_3 _ _ l0_4 _ _ ([] : List Int) t363 _ ?side1 ?side2 ?side3 ?side4 ?side5 ?side6 ?side7 ?side8 A4.out).mono ?_); (case side1 => repeat (first | exact (Kd.C_below HR0_0.out HB.out) | (with_reducible refine Kd.C_alloc ?_ _) | (with_reducible refine Kd.C_drewN ?_ _) | (with_reducible refine Kd.C_drew ?_))); (case side2 => exact HC0_0.out); (case side3 => repeat (first | exact (Kd.C_below HR0_3.out HB.out) | (with_reducible refine Kd.C_alloc ?_ _) | (with_reducible refine Kd.C_drewN ?_ _) | (with_reducible refine Kd.C_drew ?_))); (case side4 => exact HC0_3.out); (case side5 => repeat (first | exact (Kd.C_below HR0_4.out HB.out) | (with_reducible refine Kd.C_alloc ?_ _) | (with_reducible refine Kd.C_drewN ?_ _) | (with_reducible refine Kd.C_drew ?_))); (case side6 => exact HC0_4.out); (case side7 => exact Kd.C_nil _ _); (case side8 => exact Nat.le_refl _); rintro e w9 ⟨v364, rfl, ho0, hb⟩; have n0_ := Aside0.mk (Kd.N_lower (Kd.N_mono (ok' := fun k_ => k_ ≠ gb361) ho0 (fun k_ hk_ => (Kd.freshB (g := gb361) (o := .cells #[.slice A0_0 l0_0.length c0_0, .int .i64 a0_1, .int .i64 a0_2, .slice A0_3 l0_3.length c0_3, .slice A0_4 l0_4.length c0_4] 28 (0, 0)) (by (with_reducible repeat (first | refine blk_drewN ?_ _ | refine blk_drew ?_ | refine blk_alloc ?_ _)); exact BK361.out) k_ hk_))) (below_size (by repeat (first | (with_reducible first | exact HB.out | apply below_alloc | apply pw_below_drewN | apply below_drew1 | refine below_set ?_ GE361.out) | exact HB.out)))); have n1_ := Aside0.mk (blk_below (g := gb361) (o := .cells #[.slice A0_0 l0_0.length c0_0, .int .i64 a0_1, .int .i64 a0_2, .slice A0_3 l0_3.length c0_3, .slice A0_4 l0_4.length c0_4] 28 (0, 0)) (by (with_reducible repeat (first | refine blk_drewN ?_ _ | refine blk_drew ?_ | refine blk_alloc ?_ _)); exact BK361.out) hb); have n2_ := Aside0.mk (below_step (by repeat (first | (with_reducible first | exact HB.out | apply below_alloc | apply pw_below_drewN | apply below_drew1 | refine below_set ?_ GE361.out) | exact HB.out)) hb); clear BK361; clear HB; have HO365 := n0_; have BK361 := n1_; have HB := n2_; clear n0_ n1_ n2_; (try clear hb); (try clear hb2); (try clear hk); (try clear hi); (try clear ho0); obtain ⟨Ao10, co10, eo10⟩ := Kd.N_slice HO365.out; subst eo10))
  go_ret
  exact ⟨by first | rfl | (simp [errW_none, errW_some] <;> rfl) | (simp [*, errW_none, errW_some] <;> rfl), by repeat (first | (with_reducible first | exact HB.out | apply below_alloc | apply pw_below_drewN | apply below_drew1 | refine below_set ?_ GE361.out) | exact HB.out)⟩
 ·
  replace c3 := Bool.eq_false_iff.mpr c3
  subst c3
  have H1 : (some false) = some r := by rw [if_neg (show ¬ (false = true) by decide)] at H; exact H
  clear H
  have H := H1
  clear H1
  obtain rfl := Option.some.inj H
  go_enter Try.func45, Try.ntmps45
  go_wp2_with (first | ((with_reducible refine gate_dst (N := 1) rfl ?_); (try (refine gate_guard (by rfl) ?_; dsimp only)); refine box_event ?hg (N := 1) ?hd (cs := #[.slice A0_0 l0_0.length c0_0, .int .i64 a0_1, .int .i64 a0_2, .slice A0_3 l0_3.length c0_3, .slice A0_4 l0_4.length c0_4]) (t := 28) ?hr ?_; (case hd => rfl); (case hg => rfl); (case hr => first | (go_simp; done) | (go_simp; rfl)); intro gb361 hg w11 hbox hb; have n0_ := Aside0.mk (below_step (by repeat (first | (with_reducible first | exact HB.out | apply below_alloc | apply pw_below_drewN | apply below_drew1) | exact HB.out)) hb); have n1_ := Aside0.mk (hbox); have n2_ := Aside0.mk ((by rw [hg]; exact (below_size (by repeat (first | (with_reducible first | exact HB.out | apply below_alloc | apply pw_below_drewN | apply below_drew1) | exact HB.out))) : w.heap.size ≤ gb361)); have n3_ := Aside0.mk ((by rw [hg]; exact (below_size (by repeat (first | (with_reducible first | exact HB.out | apply below_alloc | apply pw_below_drewN | apply below_drew1) | exact HB.out))) : w.heap.size ≤ gb361)); clear HB; have HB := n0_; have BK361 := n1_; have GW361 := n2_; have GE361 := n3_; clear n0_ n1_ n2_ n3_; clear hb hbox hg; have hcz12_0 : w11.cell? ⟨gb361, 0, none⟩ = some (.slice A0_0 l0_0.length c0_0) := (blk_cell BK361.out 0).trans rfl; have hcz12_1 : w11.cell? ⟨gb361, 1, none⟩ = some (.int .i64 a0_1) := (blk_cell BK361.out 1).trans rfl; have hcz12_2 : w11.cell? ⟨gb361, 2, none⟩ = some (.int .i64 a0_2) := (blk_cell BK361.out 2).trans rfl; have hcz12_3 : w11.cell? ⟨gb361, 3, none⟩ = some (.slice A0_3 l0_3.length c0_3) := (blk_cell BK361.out 3).trans rfl; have hcz12_4 : w11.cell? ⟨gb361, 4, none⟩ = some (.slice A0_4 l0_4.length c0_4) := (blk_cell BK361.out 4).trans rfl; have hfz12_0 := blk_frozen BK361.out 0; have hfz12_1 := blk_frozen BK361.out 1; have hfz12_2 := blk_frozen BK361.out 2; have hfz12_3 := blk_frozen BK361.out 3; have hfz12_4 := blk_frozen BK361.out 4) | ((with_reducible refine gate_callee (f := 39) rfl ?_); refine goesL_ (some 4) rfl rfl Try.func39 (by kernel_rfl) rfl #[.agg #[.slice A0_0 l0_0.length c0_0, .int .i64 a0_1, .int .i64 a0_2, .slice A0_3 l0_3.length c0_3, .slice A0_4 l0_4.length c0_4]] rfl (by (try simp only [List.map_toArray, List.map_cons, List.map_nil]); first | done | rfl | (simp only [List.length_drop, List.length_take]; rfl)) ?_; (with_reducible refine (helioscopelaw07_valid.calls k _ _ l0_0 a0_1 a0_2 _ _ l0_3 _ _ l0_4 false _ ?side1 ?side2 ?side3 ?side4 ?side5 ?side6 A2.out).mono ?_); (case side1 => repeat (first | exact (Kd.C_below HR0_0.out HB.out) | (with_reducible refine Kd.C_alloc ?_ _) | (with_reducible refine Kd.C_drewN ?_ _) | (with_reducible refine Kd.C_drew ?_))); (case side2 => exact HC0_0.out); (case side3 => repeat (first | exact (Kd.C_below HR0_3.out HB.out) | (with_reducible refine Kd.C_alloc ?_ _) | (with_reducible refine Kd.C_drewN ?_ _) | (with_reducible refine Kd.C_drew ?_))); (case side4 => exact HC0_3.out); (case side5 => repeat (first | exact (Kd.C_below HR0_4.out HB.out) | (with_reducible refine Kd.C_alloc ?_ _) | (with_reducible refine Kd.C_drewN ?_ _) | (with_reducible refine Kd.C_drew ?_))); (case side6 => exact HC0_4.out); rintro e w13 ⟨rfl, hb⟩; refine ⟨_, rfl, ?_⟩; have n0_ := Aside0.mk (blk_below (g := gb361) (o := .cells #[.slice A0_0 l0_0.length c0_0, .int .i64 a0_1, .int .i64 a0_2, .slice A0_3 l0_3.length c0_3, .slice A0_4 l0_4.length c0_4] 28 (0, 0)) (by (with_reducible repeat (first | refine blk_drewN ?_ _ | refine blk_drew ?_ | refine blk_alloc ?_ _)); exact BK361.out) hb); have n1_ := Aside0.mk (below_step (by repeat (first | (with_reducible first | exact HB.out | apply below_alloc | apply pw_below_drewN | apply below_drew1 | refine below_set ?_ GE361.out) | exact HB.out)) hb); clear BK361; clear HB; have BK361 := n0_; have HB := n1_; clear n0_ n1_; (try clear hb); (try clear hb2); (try clear hk); (try clear hi)))
  go_ret
  exact ⟨by first | rfl | (simp [errW_none, errW_some] <;> rfl) | (simp [*, errW_none, errW_some] <;> rfl), by repeat (first | (with_reducible first | exact HB.out | apply below_alloc | apply pw_below_drewN | apply below_drew1 | refine below_set ?_ GE361.out) | exact HB.out)⟩

end Go.Proofs.Ytgoidclnccjdeaa.PR
end
section
/- Package glass: a shelf that came in as_ an argument, opened. -/
namespace Go.Proofs.Ytgoidclnccjdeaa.D
open Go Go.RowKit Go.ChangeShapes Go.WideShapes Go.Deep Go.Proofs.YtgoidclnccjdeaaK Go.Proofs.YtgoidclnccjdeaaW.PrintWords Go.Proofs.YtgoidclnccjdeaaW.PrintLast Go.Proofs.YtgoidclnccjdeaaW.PrintMore Go.Proofs.Ytgoidclnccjdeaa.PR
set_option linter.unusedVariables false
set_option linter.unusedSimpArgs false
set_option linter.unusedSectionVars false

section
variable {H : Type} {enc : TypeId × Value → H} {P : Program} {w : World} {base : Nat} {spare : Nat → Bool} {held : Bool}
theorem open_two {t : TypeId} {F : Array Field} {fuel : Nat} {cs : List Value} {x : DataW H × List MemPlace} (ht : P.underlying t = some (.struct F))
  (h0 : ∃ f, F[0]? = some f ∧ f.offset = 0 ∧ P.underlying f.type = some (.int .i64) ∧ P.cellsOf f.type = 1)
  (h1 : ∃ f, F[1]? = some f ∧ f.offset = 1 ∧ P.underlying f.type = some (.int .i64) ∧ P.cellsOf f.type = 1)
  (hc : P.cellsOf t = 2) (h : DataW.trod enc P w base spare held fuel t cs = some x) :
  ∃ a b, cs = [.int .i64 a, .int .i64 b] ∧ (Lit.int .i64 a).wf = true ∧ (Lit.int .i64 b).wf = true := by
 obtain ⟨xs, n, rfl, hx, hl, hlen, hf⟩ := DataW.trod_struct ht h
 rw [hc] at hl
 match cs, hl with
 | [v0, v1], _ =>
  obtain ⟨g0, e0, o0, u0, c0⟩ := h0
  obtain ⟨g1, e1, o1, u1, c1⟩ := h1
  have k0 := hf 0 g0 e0
  have k1 := hf 1 g1 e1
  have l0 : 0 < F.size := (Array.getElem?_eq_some_iff.1 e0).1
  have l1 : 1 < F.size := (Array.getElem?_eq_some_iff.1 e1).1
  rw [o0, c0, List.getElem?_eq_getElem (by omega)] at k0
  rw [o1, c1, List.getElem?_eq_getElem (by omega)] at k1
  obtain ⟨a, ha, _, wa⟩ := DataW.trod_int u0 k0
  obtain ⟨b, hb, _, wb⟩ := DataW.trod_int u1 k1
  simp only [List.drop_zero, List.take_succ_cons, List.take_zero, List.drop_succ_cons] at ha hb
  cases ha; cases hb
  exact ⟨a, b, rfl, wa, wb⟩
theorem open_ints3 {t : TypeId} {F : Array Field} {fuel : Nat} {cs : List Value} {x : DataW H × List MemPlace} (ht : P.underlying t = some (.struct F))
  (h0 : ∃ f, F[0]? = some f ∧ f.offset = 0 ∧ P.underlying f.type = some (.int .i64) ∧ P.cellsOf f.type = 1)
  (h1 : ∃ f, F[1]? = some f ∧ f.offset = 1 ∧ P.underlying f.type = some (.int .i64) ∧ P.cellsOf f.type = 1)
  (h2 : ∃ f, F[2]? = some f ∧ f.offset = 2 ∧ P.underlying f.type = some (.int .i64) ∧ P.cellsOf f.type = 1)
  (hc : P.cellsOf t = 3) (h : DataW.trod enc P w base spare held fuel t cs = some x) :
  ∃ a b c, cs = [.int .i64 a, .int .i64 b, .int .i64 c] ∧ (Lit.int .i64 a).wf = true ∧ (Lit.int .i64 b).wf = true ∧ (Lit.int .i64 c).wf = true := by
 obtain ⟨xs, n, rfl, hx, hl, hlen, hf⟩ := DataW.trod_struct ht h
 rw [hc] at hl
 match cs, hl with
 | [v0, v1, v2], _ =>
  obtain ⟨g0, e0, o0, u0, c0⟩ := h0
  obtain ⟨g1, e1, o1, u1, c1⟩ := h1
  obtain ⟨g2, e2, o2, u2, c2⟩ := h2
  have k0 := hf 0 g0 e0
  have k1 := hf 1 g1 e1
  have k2 := hf 2 g2 e2
  have l0 : 0 < F.size := (Array.getElem?_eq_some_iff.1 e0).1
  have l1 : 1 < F.size := (Array.getElem?_eq_some_iff.1 e1).1
  have l2 : 2 < F.size := (Array.getElem?_eq_some_iff.1 e2).1
  rw [o0, c0, List.getElem?_eq_getElem (by omega)] at k0
  rw [o1, c1, List.getElem?_eq_getElem (by omega)] at k1
  rw [o2, c2, List.getElem?_eq_getElem (by omega)] at k2
  obtain ⟨a, ha, _, wa⟩ := DataW.trod_int u0 k0
  obtain ⟨b, hb, _, wb⟩ := DataW.trod_int u1 k1
  obtain ⟨c, hc, _, wc⟩ := DataW.trod_int u2 k2
  simp only [List.drop_zero, List.take_succ_cons, List.take_zero, List.drop_succ_cons] at ha hb hc
  cases ha; cases hb; cases hc
  exact ⟨a, b, c, rfl, wa, wb, wc⟩
theorem open_named {t e : TypeId} {F G : Array Field} {fuel : Nat} {cs : List Value} {x : DataW H × List MemPlace} (ht : P.underlying t = some (.struct F)) (he : P.underlying e = some (.struct G))
  (h0 : ∃ f, F[0]? = some f ∧ f.offset = 0 ∧ P.underlying f.type = some .string ∧ P.cellsOf f.type = 1)
  (h1 : ∃ f, F[1]? = some f ∧ f.offset = 1 ∧ f.type = e)
  (i0 : ∃ f, G[0]? = some f ∧ f.offset = 0 ∧ P.underlying f.type = some (.int .i64) ∧ P.cellsOf f.type = 1)
  (i1 : ∃ f, G[1]? = some f ∧ f.offset = 1 ∧ P.underlying f.type = some (.int .i64) ∧ P.cellsOf f.type = 1)
  (hc : P.cellsOf t = 3) (hce : P.cellsOf e = 2) (h : DataW.trod enc P w base spare held fuel t cs = some x) :
  ∃ s a b, cs = [.string s, .int .i64 a, .int .i64 b] ∧ s.size ≤ 9223372036854775807 ∧ (Lit.int .i64 a).wf = true ∧ (Lit.int .i64 b).wf = true := by
 obtain ⟨xs, n, rfl, hx, hl, hlen, hf⟩ := DataW.trod_struct ht h
 rw [hc] at hl
 match cs, hl with
 | [v0, v1, v2], _ =>
  obtain ⟨g0, e0, o0, u0, c0⟩ := h0
  obtain ⟨g1, e1, o1, rfl⟩ := h1
  have k0 := hf 0 g0 e0
  have k1 := hf 1 g1 e1
  have l0 : 0 < F.size := (Array.getElem?_eq_some_iff.1 e0).1
  have l1 : 1 < F.size := (Array.getElem?_eq_some_iff.1 e1).1
  rw [o0, c0, List.getElem?_eq_getElem (by omega)] at k0
  rw [o1, hce, List.getElem?_eq_getElem (by omega)] at k1
  obtain ⟨s, hs, _, ws⟩ := DataW.trod_string u0 k0
  obtain ⟨a, b, hab, wa, wb⟩ := open_two he i0 i1 hce k1
  simp only [List.drop_zero, List.take_succ_cons, List.take_zero, List.drop_succ_cons] at hs hab
  cases hs; cases hab
  exact ⟨s, a, b, rfl, ws, wa, wb⟩
theorem open_rowG {α : Type} (z : α) {m : Nat} {K : World → α → List Value → Prop} {Wf : α → Prop} {t e : TypeId} {fuel : Nat} {cs : List Value} {x : DataW H × List MemPlace}
  (ht : P.underlying t = some (.slice e)) (hc : P.cellsOf e = m) (hopen : ∀ {fuel : Nat} {cs : List Value} {x : DataW H × List MemPlace}, DataW.trod enc P w base spare held fuel e cs = some x → ∃ p, K w p cs ∧ Wf p)
  (h : DataW.trod enc P w base spare held fuel t cs = some x) :
  ∃ (A : Option Addr) (cap : Nat) (l : List α), cs = [.slice A l.length cap] ∧ l.length ≤ cap ∧ ReadsRow (K w) m w A l.length l ∧ ∀ p ∈ l, Wf p := by
 rcases open_slice ht h with ⟨rfl, rfl⟩ | ⟨a, len, cap, mm, n, D, Pl, rfl, hb, hl, hm, hmm, hx, hi⟩
 ·
  exact ⟨none, 0, [], rfl, Nat.le_refl _, ⟨rfl, Nat.zero_le _, fun h => absurd h (Nat.lt_irrefl 0)⟩, fun p hp => by simp at hp⟩
 ·
  have hml : len ≤ mm := by rw [hmm]; split <;> omega
  have hh : ∀ i, ∃ p : α, i < len → (∃ c, c.length = m ∧ K w p c ∧ ∀ j u, c[j]? = some u → w.cell? (a.add (i * m + j)) = some u) ∧ Wf p := by
   intro i
   by_cases hil : i < len
   ·
    obtain ⟨cs', hcc, htt⟩ := hi i (by omega)
    rw [hc] at hcc
    obtain ⟨_, hcl, hat⟩ := World.cells?_some hcc
    obtain ⟨p, hp, hw⟩ := hopen htt
    refine ⟨p, fun _ => ⟨⟨cs', hcl, hp, fun j u hu => ?_⟩, hw⟩⟩
    have hj : j < m := by rw [← hcl]; exact (List.getElem?_eq_some_iff.1 hu).1
    have := hat j hj
    rw [hu] at this
    rw [← this, Go.Deep.add_add]
   ·
    exact ⟨z, fun h => absurd h hil⟩
  let pick : Nat → α := fun i => (hh i).choose
  have hpick : ∀ i, i < len → (∃ c, c.length = m ∧ K w (pick i) c ∧ ∀ j u, c[j]? = some u → w.cell? (a.add (i * m + j)) = some u) ∧ Wf (pick i) := fun i => (hh i).choose_spec
  have hlen : ((List.range len).map pick).length = len := by simp
  refine ⟨some a, cap, (List.range len).map pick, by rw [hlen], by rw [hlen]; exact hl, ⟨rfl, by rw [hlen]; unfold maxLen at hm; omega, fun _ => ⟨a, rfl, fun j p hp => ?_⟩⟩, fun p hp => ?_⟩
  ·
   have hj : j < len := by have := (List.getElem?_eq_some_iff.1 hp).1; simpa using this
   have : p = pick j := by
    have h := (List.getElem?_eq_some_iff.1 hp).2
    rw [← h]; simp
   subst this
   obtain ⟨c, h1, h2, h3⟩ := (hpick j hj).1
   exact ⟨c, h1, h2, h3⟩
  ·
   obtain ⟨i, hi, rfl⟩ := List.mem_map.1 hp
   exact (hpick i (List.mem_range.1 hi)).2
end

def wf (x : Int) : Prop := (Lit.int .i64 x).wf = true
structure Dat.Wf (D : Dat) : Prop where
 lo : wf D.lo
 hi : wf D.hi
 gl : ∀ p ∈ D.gl, p.f0.size ≤ 9223372036854775807 ∧ wf p.f1.f0 ∧ wf p.f1.f1
 sp : ∀ p ∈ D.sp, wf p.f0 ∧ wf p.f1
 dr : ∀ p ∈ D.dr, wf p.f0 ∧ wf p.f1 ∧ wf p.f2

section
variable {H : Type} {enc : TypeId × Value → H} {w : World} {base : Nat} {spare : Nat → Bool} {held : Bool}
set_option maxRecDepth 100000 in
theorem open_shelf {r : Reach} {b0 : Nat} {v : Value} {d : DataW H} {p : List MemPlace} (hv : Value.okWide Try.prog w r b0 28 v) (h : DataW.Trod enc Try.prog w base spare held 28 v d p) :
  ∃ (D : Dat) (A0 : Option Addr) (c0 : Nat) (A3 : Option Addr) (c3 : Nat) (A4 : Option Addr) (c4 : Nat), v = .agg (D.cells A0 c0 A3 c3 A4 c4) ∧ Arg w D A0 c0 A3 c3 A4 c4 ∧ D.Wf := by
 have hC : Try.prog.cellsOf 28 = 5 := by kernel_rfl
 have hS : Try.prog.cellsOf 24 = 2 := by kernel_rfl
 have hI : Try.prog.cellsOf 3 = 1 := by kernel_rfl
 have hN : Try.prog.cellsOf 9 = 1 := by kernel_rfl
 have h0 : Try.prog.cellsOf 22 = 1 := by kernel_rfl
 have h3 : Try.prog.cellsOf 25 = 1 := by kernel_rfl
 have h4 : Try.prog.cellsOf 26 = 1 := by kernel_rfl
 have hs0 : Try.prog.cellsOf 95 = 3 := by kernel_rfl
 have hs4 : Try.prog.cellsOf 72 = 3 := by kernel_rfl
 have e28 := Try.underlying28
 have e24 := Try.underlying24
 have e3 := Try.underlying3
 have e9 := Try.underlying9
 have e22 := Try.underlying22
 have e25 := Try.underlying25
 have e26 := Try.underlying26
 have e95 := Try.underlying95
 have e72 := Try.underlying72
 generalize Try.prog = P at hv h hC hS hI hN h0 h3 h4 hs0 hs4 e28 e24 e3 e9 e22 e25 e26 e95 e72 ⊢
 obtain ⟨cs, rfl, hsz⟩ := okWide_struct e28 hv
 obtain ⟨l⟩ := cs
 rw [hC] at hsz
 match l, hsz with
 | [c0, c1, c2, c3, c4], _ =>
  obtain ⟨fuel, hf⟩ := h
  obtain ⟨xs, n, _, hx, _, hlen, hg⟩ := DataW.trod_struct e28 hf
  have g0 := hg 0 _ rfl
  have g1 := hg 1 _ rfl
  have g2 := hg 2 _ rfl
  have g3 := hg 3 _ rfl
  have hl4 : xs.length = 4 := hlen
  rw [List.getElem?_eq_getElem (by omega)] at g0 g1 g2 g3
  simp only [Value.cells, List.getElem_toArray, List.getElem_cons_zero, List.getElem_cons_succ, hS, h0, h3, h4, List.drop_zero, List.drop_succ_cons, List.take_succ_cons, List.take_zero] at g0 g1 g2 g3
  obtain ⟨lo, hi, hlh, wlo, whi⟩ := open_two e24 ⟨_, rfl, rfl, e3, hI⟩ ⟨_, rfl, rfl, e3, hI⟩ hS g1
  obtain ⟨A0, k0, l0, hA0, hk0, hR0, w0⟩ := open_rowG (K := k95.K) (Wf := fun p : S95 => p.f0.size ≤ 9223372036854775807 ∧ wf p.f1.f0 ∧ wf p.f1.f1) z95 e22 hs0 (fun hh => by
   obtain ⟨s, a, b, rfl, ws, wa, wb⟩ := open_named e95 e24 ⟨_, rfl, rfl, e9, hN⟩ ⟨_, rfl, rfl, rfl⟩ ⟨_, rfl, rfl, e3, hI⟩ ⟨_, rfl, rfl, e3, hI⟩ hs0 hS hh
   exact ⟨⟨s, ⟨a, b⟩⟩, k95_mk w _, ws, wa, wb⟩) g0
  obtain ⟨A3, k3, l3, hA3, hk3, hR3, w3⟩ := open_rowG (K := k24.K) (Wf := fun p : S24 => wf p.f0 ∧ wf p.f1) z24 e25 hS (fun hh => by
   obtain ⟨a, b, rfl, wa, wb⟩ := open_two e24 ⟨_, rfl, rfl, e3, hI⟩ ⟨_, rfl, rfl, e3, hI⟩ hS hh
   exact ⟨⟨a, b⟩, k24_mk w _, wa, wb⟩) g2
  obtain ⟨A4, k4, l4, hA4, hk4, hR4, w4⟩ := open_rowG (K := k72.K) (Wf := fun p : S72 => wf p.f0 ∧ wf p.f1 ∧ wf p.f2) z72 e26 hs4 (fun hh => by
   obtain ⟨a, b, c, rfl, wa, wb, wc⟩ := open_ints3 e72 ⟨_, rfl, rfl, e3, hI⟩ ⟨_, rfl, rfl, e3, hI⟩ ⟨_, rfl, rfl, e3, hI⟩ hs4 hh
   exact ⟨⟨a, b, c⟩, k72_mk w _, wa, wb, wc⟩) g3
  cases hlh; cases hA0; cases hA3; cases hA4
  exact ⟨⟨l0, lo, hi, l3, l4⟩, A0, k0, A3, k3, A4, k4, rfl, ⟨hR0, hk0, fun x hx => (w0 x hx).1, hR3, hk3, hR4, hk4⟩, ⟨wlo, whi, w0, w3, w4⟩⟩
end
end Go.Proofs.Ytgoidclnccjdeaa.D
end
section
/- Package glass: what the reference's Check answers is what the program's does. -/
namespace Go.Proofs.Ytgoidclnccjdeaa.D
open Go Go.RowKit Go.Proofs.YtgoidclnccjdeaaK Go.Proofs.YtgoidclnccjdeaaW.PrintWords Go.Proofs.YtgoidclnccjdeaaW.PrintLast Go.Proofs.YtgoidclnccjdeaaW.PrintMore Go.Proofs.Ytgoidclnccjdeaa.PR
set_option linter.unusedVariables false
set_option linter.unusedSimpArgs false

theorem rIn (a lo hi : Int) : r1_In.f a lo hi = some (decide (lo ≤ a ∧ a ≤ hi)) := by
 unfold r1_In.f; split <;> simp [*]
theorem rletter (b : Int) : r1_letter.f b = some (decide (97 ≤ b ∧ b ≤ 122)) := by
 unfold r1_letter.f; split <;> simp <;> omega
theorem rdigit (b : Int) : r1_digit.f b = some (decide (48 ≤ b ∧ b ≤ 57)) := by
 unfold r1_digit.f; split <;> simp <;> omega
theorem wrapN {n : Nat} (h : n < 9223372036854775807) : wrap64 ((n : Int) + 1) = ((n + 1 : Nat) : Int) := by
 unfold wrap64; omega

theorem rName_l0 (s : ByteArray) (hs : s.size ≤ 9223372036854775807) : ∀ (d i : Nat), i + d = s.size → 1 ≤ i → okTo s i = true → Ev (fun k => r1_Name.l0 k s (i : Int)) (okTo s s.size)
 | 0, i, hd, _, h => by
  obtain rfl : i = s.size := by omega
  rw [h]
  exact Ev.step (f := fun _ => some true) (fun k => by simp only [r1_Name.l0]; rw [if_neg (by omega)]) (Ev.now _)
 | d + 1, i, hd, hi, h => by
  by_cases hb : okByte (i == 0) (bt s (i : Int)) = true
  ·
   have h1 : okTo s (i + 1) = true := by rw [okTo_succ, h, hb]; rfl
   have ih := rName_l0 s hs d (i + 1) (by omega) (by omega) h1
   refine Ev.step (f := fun k => r1_Name.l0 k s ((i + 1 : Nat) : Int)) (fun k => ?_) ih
   have hb' := (okByte_iff i _).1 hb
   simp only [r1_Name.l0, rletter, rdigit, Option.bind_some, decide_eq_true_eq]
   rw [if_pos (by omega), if_pos (by omega), wrapN (by omega)]
   split
   ·
    rfl
   ·
    split
    ·
     rfl
    ·
     rw [if_pos (by omega)]
  ·
   have hf : okByte (i == 0) (bt s (i : Int)) = false := by simpa using hb
   have h1 : okTo s (i + 1) = false := by rw [okTo_succ, hf]; simp
   rw [okTo_le s (by omega) h1]
   refine Ev.step (f := fun _ => some false) (fun k => ?_) (Ev.now _)
   have hb' : ¬ ((97 ≤ bt s (i : Int) ∧ bt s (i : Int) ≤ 122) ∨ (0 < i ∧ (bt s (i : Int) = 46 ∨ (48 ≤ bt s (i : Int) ∧ bt s (i : Int) ≤ 57)))) := fun x => hb ((okByte_iff i _).2 x)
   simp only [r1_Name.l0, rletter, rdigit, Option.bind_some, decide_eq_true_eq]
   rw [if_pos (by omega), if_pos (by omega), if_neg (by omega), if_neg (by omega), if_neg (by omega)]

theorem outB_one (lo hi a : Int) : outB lo hi [a] = true ↔ ¬ (lo ≤ a ∧ a ≤ hi) := by
 unfold outB; simp; omega
theorem outB_two (lo hi a b : Int) : outB lo hi [a, b] = true ↔ ¬ ((lo ≤ a ∧ a ≤ hi) ∧ (lo ≤ b ∧ b ≤ hi)) := by
 unfold outB; simp; omega

theorem rName (s : ByteArray) (hs : s.size ≤ 9223372036854775807) : Ev (fun k => r1_Name.f k s) (nameB s) := by
 unfold r1_Name.f
 simp only [rIn, rletter, Option.bind_some, decide_eq_true_eq]
 by_cases h : 1 ≤ (s.size : Int) ∧ (s.size : Int) ≤ 16
 ·
  have e : nameB s = okTo s s.size := by
   have : outB 1 16 [(s.size : Int)] = false := by rw [Bool.eq_false_iff]; exact fun x => (outB_one _ _ _).1 x h
   unfold nameB; rw [this]; rfl
  rw [e]
  refine Ev.congr (f := fun k => r1_Name.j0 k s (!decide (97 ≤ bt s 0 ∧ bt s 0 ≤ 122))) (fun k => by rw [if_pos h, if_pos (by omega)]) ?_
  by_cases hb : 97 ≤ bt s 0 ∧ bt s 0 ≤ 122
  ·
   have h1 : okTo s 1 = true := by
    have := (okByte_iff 0 (bt s ((0 : Nat) : Int))).2 (.inl hb)
    simp only [okTo, List.range_succ, List.range_zero, List.nil_append, List.all_cons, List.all_nil, Bool.and_true]
    exact this
   refine Ev.step (f := fun k => r1_Name.l0 k s ((1 : Nat) : Int)) (fun k => ?_) (rName_l0 s hs (s.size - 1) 1 (by omega) (by omega) h1)
   simp only [r1_Name.j0, decide_eq_true hb]
   rfl
  ·
   have h1 : okTo s 1 = false := by
    have := okByte_not 0 (bt s ((0 : Nat) : Int)) (fun x => by rcases x with x | x; exact hb x; omega)
    simp only [okTo, List.range_succ, List.range_zero, List.nil_append, List.all_cons, List.all_nil, Bool.and_true]
    exact this
   rw [okTo_le s (by omega) h1]
   refine Ev.step (f := fun _ => some false) (fun k => ?_) (Ev.now _)
   simp only [r1_Name.j0, decide_eq_false hb]
   rfl
 ·
  have e : nameB s = false := by
   have : outB 1 16 [(s.size : Int)] = true := (outB_one _ _ _).2 h
   unfold nameB; rw [this]; rfl
  rw [e]
  refine Ev.step (f := fun _ => some false) (fun k => ?_) (Ev.now _)
  rw [if_neg h]
  simp only [r1_Name.j0, if_true]

theorem rEnds (lo hi a b : Int) : Ev (fun k => r1_Ends.f k lo hi a b) (if outB a b [lo, hi] = true then 7 else if hi < lo then 2 else 0) := by
 unfold r1_Ends.f
 simp only [rIn, Option.bind_some, decide_eq_true_eq]
 refine Ev.step (f := fun _ => some (if outB a b [lo, hi] = true then 7 else if hi < lo then 2 else 0)) (fun k => ?_) (Ev.now _)
 simp only [outB_two, r1_Ends.j0]
 by_cases h1 : a ≤ lo ∧ lo ≤ b <;> by_cases h2 : a ≤ hi ∧ hi ≤ b <;> simp [h1, h2] <;> split <;> simp_all <;> omega

theorem rends (lo hi a b : Int) (ha : 0 ≤ a) (hb : b ≤ 1000) : Ev (fun k => r7_ends.f k lo hi a b) (endsE lo hi a b) := by
 unfold r7_ends.f
 refine Ev.bind (rEnds lo hi a b) ?_
 unfold endsE
 by_cases h1 : outB a b [lo, hi] = true
 ·
  simp only [h1, if_true]; rw [if_neg (by decide)]; exact Ev.now _
 ·
  have h2 : (a ≤ lo ∧ lo ≤ b) ∧ (a ≤ hi ∧ hi ≤ b) := by
   by_cases h : (a ≤ lo ∧ lo ≤ b) ∧ (a ≤ hi ∧ hi ≤ b)
   ·
    exact h
   ·
    exact absurd ((outB_two a b lo hi).2 h) h1
  have e : wrap64 (hi - lo) = hi - lo := by unfold wrap64; omega
  have ho := outB_one 0 2 (hi - lo)
  simp only [h1, if_false, e]
  by_cases h3 : hi < lo
  ·
   have : outB 0 2 [hi - lo] = true := ho.2 (by omega)
   simp only [h3, if_true, this]; rw [if_neg (by decide)]; exact Ev.now _
  ·
   simp only [h3, if_false, if_true]
   by_cases h4 : hi - lo > 2
   ·
    have : outB 0 2 [hi - lo] = true := ho.2 (by omega)
    simp only [h4, if_true, this]; exact Ev.now _
   ·
    have : outB 0 2 [hi - lo] = false := by rw [Bool.eq_false_iff]; exact fun x => ho.1 x ⟨by omega, by omega⟩
    simp only [h4, if_false, this]; exact Ev.now _

theorem rWhere0 (names : List ByteArray) (s : ByteArray) (hn : names.length ≤ 1000) : ∀ (d i : Nat), i + d = names.length → Ev (fun k => r1_Where.l0 k names s (i : Int)) (idxFrom (fun x => x.toList == s.toList) (names.drop i) i)
 | 0, i, hd => by
  rw [List.drop_eq_nil_of_le (by omega)]
  exact Ev.step (f := fun _ => some (-1)) (fun k => by simp only [r1_Where.l0]; rw [if_neg (by omega)]) (Ev.now _)
 | d + 1, i, hd => by
  have hi : i < names.length := by omega
  have e : rdOf ByteArray.empty names (i : Int) = names[i] := by simp [rdOf, hi]
  rw [List.drop_eq_getElem_cons hi]
  by_cases h : names[i].toList = s.toList
  ·
   refine Ev.step (f := fun _ => some (i : Int)) (fun k => ?_) (by simp only [idxFrom, h, beq_self_eq_true, if_true]; exact Ev.now _)
   simp only [r1_Where.l0, e]
   rw [if_pos (by omega), if_pos (by omega), if_pos h]
  ·
   refine Ev.step (f := fun k => r1_Where.l0 k names s ((i + 1 : Nat) : Int)) (fun k => ?_) ?_
   ·
    simp only [r1_Where.l0, e]
    rw [if_pos (by omega), if_pos (by omega), if_neg h, wrapN (by omega)]
   ·
    have hf : (names[i].toList == s.toList) = false := by simpa using h
    simp only [idxFrom, hf, Bool.false_eq_true, if_false]
    exact rWhere0 names s hn d (i + 1) (by omega)
theorem rWhere (names : List ByteArray) (s : ByteArray) (hn : names.length ≤ 1000) : Ev (fun k => r1_Where.f k names s) (idxFrom (fun x => x.toList == s.toList) names 0) := by
 have := rWhere0 names s hn names.length 0 (by omega)
 simpa [r1_Where.f] using this
theorem rFresh (s : ByteArray) (names : List ByteArray) (hs : s.size ≤ 9223372036854775807) (hn : names.length ≤ 1000) :
  Ev (fun k => r1_Fresh.f k s names) (if nameB s = false then 6 else if names.any (fun x => x.toList == s.toList) then 5 else 0) := by
 unfold r1_Fresh.f
 refine Ev.bind (rName s hs) ?_
 cases h : nameB s
 ·
  simp only [Bool.false_eq_true, if_false, if_true]; exact Ev.now _
 ·
  simp only [if_true, Bool.true_eq_false, if_false]
  refine Ev.bind (rWhere names s hn) ?_
  have hp := idxFrom_pos (fun x : ByteArray => x.toList == s.toList) names 0
  rw [← hp]
  by_cases h0 : 0 ≤ idxFrom (fun x : ByteArray => x.toList == s.toList) names 0
  ·
   rw [if_pos h0, decide_eq_true h0, if_pos rfl]; exact Ev.now _
  ·
   rw [if_neg h0, decide_eq_false h0, if_neg (by decide)]; exact Ev.now _

theorem rall0 (m : Nat) (hm : m ≤ 62) : ∀ (d i : Nat), i + d = m → Ev (fun k => r7_all.l0 k (m : Int) (((2 ^ i : Nat) : Int) - 1) (i : Int)) (((2 ^ m : Nat) : Int) - 1)
 | 0, i, hd => by
  obtain rfl : i = m := by omega
  exact Ev.step (f := fun _ => some _) (fun k => by simp only [r7_all.l0]; rw [if_neg (by omega)]) (Ev.now _)
 | d + 1, i, hd => by
  refine Ev.step (f := fun k => r7_all.l0 k (m : Int) (((2 ^ (i + 1) : Nat) : Int) - 1) ((i + 1 : Nat) : Int)) (fun k => ?_) (rall0 m hm d (i + 1) (by omega))
  have h2 : 2 ^ (i + 1) ≤ 2 ^ 62 := Nat.pow_le_pow_right (by decide) (by omega)
  have h3 : 2 ^ (i + 1) = 2 * 2 ^ i := by rw [Nat.pow_succ]; omega
  have h4 : (2 : Nat) ^ 62 = 4611686018427387904 := by decide
  have e1 : wrap64 (2 * (((2 ^ i : Nat) : Int) - 1)) = 2 * (((2 ^ i : Nat) : Int) - 1) := by
   generalize 2 ^ i = x at *; rw [h4] at h2; unfold wrap64; omega
  have e2 : wrap64 (2 * (((2 ^ i : Nat) : Int) - 1) + 1) = ((2 ^ (i + 1) : Nat) : Int) - 1 := by
   rw [h3] at h2 ⊢
   generalize 2 ^ i = x at *; rw [h4] at h2; unfold wrap64; omega
  simp only [r7_all.l0]
  rw [if_pos (by omega), e1, e2, wrapN (by omega)]
theorem rall (m : Nat) (hm : m ≤ 62) : Ev (fun k => r7_all.f k (m : Int)) (((2 ^ m : Nat) : Int) - 1) := rall0 m hm m 0 (by omega)
theorem rdrawing (D : Dat) (d : Dr) (hg : D.gl.length ≤ 9223372036854775807) (hs : D.sp.length ≤ 62) (i : Nat) :
  Ev (fun k => r7_drawing.f k D.gl D.lo D.hi D.sp D.dr d.f0 d.f1 d.f2) (errD D.gl.length D.sp.length i d) := by
 unfold r7_drawing.f errD
 have e : wrap64 ((D.gl.length : Int) - 1) = (D.gl.length : Int) - 1 := by unfold wrap64; omega
 simp only [rIn, e, Option.bind_some, decide_eq_true_eq]
 have o1 := outB_one (-1) ((D.gl.length : Int) - 1) d.f0
 have o2 := outB_one 0 9 d.f1
 have o3 := outB_one 0 (((2 ^ D.sp.length : Nat) : Int) - 1) d.f2
 by_cases h1 : -1 ≤ d.f0 ∧ d.f0 ≤ (D.gl.length : Int) - 1
 ·
  rw [Bool.eq_false_iff.2 (fun x => o1.1 x h1)]
  simp only [h1, and_self, if_true, Bool.false_eq_true, if_false]
  by_cases h2 : 0 ≤ d.f1 ∧ d.f1 ≤ 9
  ·
   rw [Bool.eq_false_iff.2 (fun x => o2.1 x h2)]
   simp only [h2, and_self, if_true, Bool.false_eq_true, if_false]
   refine Ev.bind (rall D.sp.length hs) ?_
   by_cases h3 : 0 ≤ d.f2 ∧ d.f2 ≤ ((2 ^ D.sp.length : Nat) : Int) - 1
   ·
    rw [Bool.eq_false_iff.2 (fun x => o3.1 x h3), if_pos h3]; exact Ev.now _
   ·
    rw [o3.2 h3, if_neg h3]; exact Ev.now _
  ·
   rw [o2.2 h2]; simp only [h2, if_false, if_true]; exact Ev.now _
 ·
  rw [o1.2 h1]; simp only [h1, if_false, if_true]; exact Ev.now _

def drF (D : Dat) (i : Nat) : Int × Int × Int := if (firstE (errD D.gl.length D.sp.length) (D.dr.drop i) i).2 ≠ 0 then (4, firstE (errD D.gl.length D.sp.length) (D.dr.drop i) i) else (0, 0, 0)
def drE (D : Dat) : Int × Int × Int := if (firstL D.dr 0 4 (errD D.gl.length D.sp.length)).2 ≠ 0 then (4, firstL D.dr 0 4 (errD D.gl.length D.sp.length)) else (0, 0, 0)
def spFr (D : Dat) (i : Nat) : Int × Int × Int := if (firstE errP (D.sp.drop i) i).2 ≠ 0 then (3, firstE errP (D.sp.drop i) i) else drE D
def spE (D : Dat) : Int × Int × Int := if (firstL D.sp 0 4 errP).2 ≠ 0 then (3, firstL D.sp 0 4 errP) else drE D
def glE (D : Dat) : Int × Int × Int := if endsE D.lo D.hi 0 3 ≠ 0 then (2, 0, endsE D.lo D.hi 0 3) else spE D
def glF (D : Dat) (i : Nat) : Int × Int × Int := if (firstE (errG D.gl) (D.gl.drop i) i).2 ≠ 0 then (1, firstE (errG D.gl) (D.gl.drop i) i) else glE D
theorem firstE_drop {α : Type} (E : Nat → α → Int) (l : List α) (i : Nat) (h : i < l.length) : firstE E (l.drop i) i = if E i l[i] = 0 then firstE E (l.drop (i + 1)) (i + 1) else (((i : Nat) : Int), E i l[i]) := by
 rw [List.drop_eq_getElem_cons h]; rfl
theorem rCheck_l2 (D : Dat) (hg : D.gl.length ≤ 1000) (hs : D.sp.length ≤ 62) (hd : D.dr.length ≤ 1000) : ∀ (d i : Nat), i + d = D.dr.length →
  Ev (fun k => r7_Check.l2 k (i : Int) D.gl D.lo D.hi D.sp D.dr) (drF D i)
 | 0, i, h => by
  have e : drF D i = (0, 0, 0) := by unfold drF; rw [List.drop_eq_nil_of_le (by omega)]; rfl
  rw [e]
  exact Ev.step (f := fun _ => some (0, 0, 0)) (fun k => by simp only [r7_Check.l2]; rw [if_neg (by omega)]) (Ev.now _)
 | d + 1, i, h => by
  have hi : i < D.dr.length := by omega
  have ih := rCheck_l2 D hg hs hd d (i + 1) (by omega)
  have e : drF D i = if errD D.gl.length D.sp.length i D.dr[i] = 0 then drF D (i + 1) else (4, (i : Int), errD D.gl.length D.sp.length i D.dr[i]) := by
   unfold drF
   rw [firstE_drop _ _ _ hi]
   by_cases e : errD D.gl.length D.sp.length i D.dr[i] = 0
   ·
    simp only [if_pos e]
   ·
    simp only [if_neg e, ne_eq]; rw [if_pos e]
  rw [e]
  refine Ev.step (f := fun k => (r7_drawing.f k D.gl D.lo D.hi D.sp D.dr D.dr[i].f0 D.dr[i].f1 D.dr[i].f2).bind fun t => if t = 0 then r7_Check.l2 k ((i + 1 : Nat) : Int) D.gl D.lo D.hi D.sp D.dr else some (4, (i : Int), t)) (fun k => ?_) ?_
  ·
   simp only [r7_Check.l2, dr_at _ _ hi]
   rw [if_pos (by omega), if_pos (by omega), wrapN (by omega)]
  ·
   refine Ev.bind (rdrawing D D.dr[i] (by omega) hs i) ?_
   by_cases e : errD D.gl.length D.sp.length i D.dr[i] = 0
   ·
    simp only [if_pos e]; exact ih
   ·
    simp only [if_neg e]; exact Ev.now _
theorem rCheck_l1 (D : Dat) (hg : D.gl.length ≤ 1000) (hs : D.sp.length ≤ 62) (hd : D.dr.length ≤ 9223372036854775807) : ∀ (d i : Nat), i + d = D.sp.length →
  Ev (fun k => r7_Check.l1 k (i : Int) D.gl D.lo D.hi D.sp D.dr) (spFr D i)
 | 0, i, h => by
  have e : spFr D i = drE D := by unfold spFr; rw [List.drop_eq_nil_of_le (by omega)]; rfl
  rw [e]
  by_cases h4 : (D.dr.length : Int) > 4
  ·
   have e : drE D = (4, 0, 3) := by
    have : outB 0 4 [(D.dr.length : Int)] = true := (outB_one _ _ _).2 (by omega)
    unfold drE firstL; rw [this]; rfl
   rw [e]
   exact Ev.step (f := fun _ => some (4, 0, 3)) (fun k => by simp only [r7_Check.l1]; rw [if_neg (by omega), if_pos h4]) (Ev.now _)
  ·
   have e : drE D = drF D 0 := by
    have : outB 0 4 [(D.dr.length : Int)] = false := by rw [Bool.eq_false_iff]; exact fun x => (outB_one _ _ _).1 x ⟨by omega, by omega⟩
    unfold drE firstL; rw [this]; rfl
   rw [e]
   exact Ev.step (f := fun k => r7_Check.l2 k ((0 : Nat) : Int) D.gl D.lo D.hi D.sp D.dr) (fun k => by simp only [r7_Check.l1]; rw [if_neg (by omega), if_neg h4]; rfl) (rCheck_l2 D hg hs (by omega) _ 0 (Nat.zero_add _))
 | d + 1, i, h => by
  have hi : i < D.sp.length := by omega
  have ih := rCheck_l1 D hg hs hd d (i + 1) (by omega)
  have e : spFr D i = if errP i D.sp[i] = 0 then spFr D (i + 1) else (3, (i : Int), errP i D.sp[i]) := by
   unfold spFr
   rw [firstE_drop _ _ _ hi]
   by_cases e : errP i D.sp[i] = 0
   ·
    simp only [if_pos e]
   ·
    simp only [if_neg e, ne_eq]; rw [if_pos e]
  rw [e]
  refine Ev.step (f := fun k => (r7_ends.f k D.sp[i].f0 D.sp[i].f1 1 60).bind fun t => if t = 0 then r7_Check.l1 k ((i + 1 : Nat) : Int) D.gl D.lo D.hi D.sp D.dr else some (3, (i : Int), t)) (fun k => ?_) ?_
  ·
   simp only [r7_Check.l1, sp_at _ _ hi]
   rw [if_pos (by omega), if_pos (by omega), wrapN (by omega)]
  ·
   refine Ev.bind (rends _ _ 1 60 (by decide) (by decide)) ?_
   show Ev (fun n => if errP i D.sp[i] = 0 then _ else some (3, (i : Int), errP i D.sp[i])) _
   by_cases e : errP i D.sp[i] = 0
   ·
    simp only [if_pos e]; exact ih
   ·
    simp only [if_neg e]; exact Ev.now _
theorem rCheck_l0 (D : Dat) (hn : ∀ x ∈ D.gl, x.f0.size ≤ 9223372036854775807) (hg : D.gl.length ≤ 1000) (hs : D.sp.length ≤ 9223372036854775807) (hd : D.dr.length ≤ 9223372036854775807) : ∀ (d i : Nat), i + d = D.gl.length →
  Ev (fun k => r7_Check.l0 k ((D.gl.take i).map fun x => x.f0) (i : Int) D.gl D.lo D.hi D.sp D.dr) (glF D i)
 | 0, i, h => by
  have e : glF D i = glE D := by unfold glF; rw [List.drop_eq_nil_of_le (by omega)]; rfl
  rw [e]
  refine Ev.step (f := fun k => (r7_ends.f k D.lo D.hi 0 3).bind fun t => if t = 0 then (if (D.sp.length : Int) > 4 then some (3, 0, 3) else r7_Check.l1 k 0 D.gl D.lo D.hi D.sp D.dr) else some (2, 0, t)) (fun k => by simp only [r7_Check.l0]; rw [if_neg (by omega)]) ?_
  refine Ev.bind (rends _ _ 0 3 (by decide) (by decide)) ?_
  unfold glE
  by_cases e : endsE D.lo D.hi 0 3 = 0
  ·
   simp only [if_pos e, e, ne_eq, not_true_eq_false, if_false]
   by_cases h4 : (D.sp.length : Int) > 4
   ·
    have e : spE D = (3, 0, 3) := by
     have : outB 0 4 [(D.sp.length : Int)] = true := (outB_one _ _ _).2 (by omega)
     unfold spE firstL; rw [this]; rfl
    rw [e]; simp only [if_pos h4]; exact Ev.now _
   ·
    have e : spE D = spFr D 0 := by
     have : outB 0 4 [(D.sp.length : Int)] = false := by rw [Bool.eq_false_iff]; exact fun x => (outB_one _ _ _).1 x ⟨by omega, by omega⟩
     unfold spE firstL; rw [this]; rfl
    rw [e]; simp only [if_neg h4]; exact rCheck_l1 D hg (by omega) hd _ 0 (Nat.zero_add _)
  ·
   simp only [if_neg e, ne_eq, e, not_false_eq_true, if_true]; exact Ev.now _
 | d + 1, i, h => by
  have hi : i < D.gl.length := by omega
  have ih := rCheck_l0 D hn hg hs hd d (i + 1) (by omega)
  have e : glF D i = if errG D.gl i D.gl[i] = 0 then glF D (i + 1) else (1, (i : Int), errG D.gl i D.gl[i]) := by
   unfold glF
   rw [firstE_drop _ _ _ hi]
   by_cases e : errG D.gl i D.gl[i] = 0
   ·
    simp only [if_pos e]
   ·
    simp only [if_neg e, ne_eq]; rw [if_pos e]
  rw [e]
  have hl : ((D.gl.take i).map fun x => x.f0).length = i := by simp; omega
  have hx : (D.gl.take i).map (fun x => x.f0) ++ [D.gl[i].f0] = (D.gl.take (i + 1)).map fun x => x.f0 := by
   rw [List.take_add_one, List.getElem?_eq_getElem hi, List.map_append]; rfl
  refine Ev.step (f := fun k => (r1_Fresh.f k D.gl[i].f0 ((D.gl.take i).map fun x => x.f0)).bind fun t => if t = 0 then ((r7_ends.f k D.gl[i].f1.f0 D.gl[i].f1.f1 1 40).bind fun u => if u = 0 then r7_Check.l0 k ((D.gl.take (i + 1)).map fun x => x.f0) ((i + 1 : Nat) : Int) D.gl D.lo D.hi D.sp D.dr else some (1, (i : Int), u)) else some (1, (i : Int), t)) (fun k => ?_) ?_
  ·
   simp only [r7_Check.l0, gl_at _ _ hi, hx]
   rw [if_pos (by omega), if_pos (by omega), wrapN (by omega)]
   congr 1
   funext t
   rw [if_pos (by rw [hl]; omega)]
  ·
   refine Ev.bind (rFresh _ _ (hn _ (List.getElem_mem hi)) (by rw [hl]; omega)) ?_
   have ha : ((D.gl.take i).map fun x => x.f0).any (fun x => x.toList == D.gl[i].f0.toList) = (D.gl.take i).any (sameName D.gl[i]) := by
    rw [List.any_map]; rfl
   rw [ha]
   unfold errG
   cases hnb : nameB D.gl[i].f0
   ·
    simp only [if_true]; exact Ev.congr (f := fun _ => some (1, (i : Int), 6)) (fun k => rfl) (Ev.now _)
   ·
    simp only [Bool.true_eq_false, if_false]
    cases hsn : (D.gl.take i).any (sameName D.gl[i])
    ·
     simp only [Bool.false_eq_true, if_false, if_true]
     refine Ev.bind (rends _ _ 1 40 (by decide) (by decide)) ?_
     by_cases e : endsE D.gl[i].f1.f0 D.gl[i].f1.f1 1 40 = 0
     ·
      simp only [if_pos e]; exact ih
     ·
      simp only [if_neg e]; exact Ev.now _
    ·
     simp only [if_true]; exact Ev.congr (f := fun _ => some (1, (i : Int), 5)) (fun k => rfl) (Ev.now _)
theorem rCheck (D : Dat) (hn : ∀ x ∈ D.gl, x.f0.size ≤ 9223372036854775807) (hg : D.gl.length ≤ 9223372036854775807) (hs : D.sp.length ≤ 9223372036854775807) (hd : D.dr.length ≤ 9223372036854775807) :
  Ev (fun k => r7_Check.f k D.gl D.lo D.hi D.sp D.dr) (checkF D) := by
 unfold r7_Check.f
 simp only [rIn, Option.bind_some, decide_eq_true_eq]
 have o := outB_one 1 3 (D.gl.length : Int)
 have e0 : checkF D = if (firstL D.gl 1 3 (errG D.gl)).2 ≠ 0 then (1, firstL D.gl 1 3 (errG D.gl)) else glE D := rfl
 rw [e0]
 by_cases h : 1 ≤ (D.gl.length : Int) ∧ (D.gl.length : Int) ≤ 3
 ·
  have e : (if (firstL D.gl 1 3 (errG D.gl)).2 ≠ 0 then (1, firstL D.gl 1 3 (errG D.gl)) else glE D) = glF D 0 := by
   unfold firstL; rw [Bool.eq_false_iff.2 (fun x => o.1 x h)]; rfl
  rw [e]
  simp only [h, and_self, if_true]
  exact rCheck_l0 D hn (by omega) hs hd _ 0 (Nat.zero_add _)
 ·
  have e : (if (firstL D.gl 1 3 (errG D.gl)).2 ≠ 0 then (1, firstL D.gl 1 3 (errG D.gl)) else glE D) = (1, 0, 3) := by
   unfold firstL; rw [o.2 h]; rfl
  rw [e]
  simp only [h, if_false]
  exact Ev.now _
theorem rd_nat (l : List Int) (k : Nat) : rd l (k : Int) = l.getD k 0 := by simp [rd]
theorem rHas0 (but : List Int) (hb : but.length ≤ 1000) (x : Int) (d : Nat) : ∀ (j : Nat), j + d = but.length → Ev (fun f => r1_Has.l0 f but x (j : Int)) ((but.drop j).any fun y => y == x) := by
 induction d with
 | zero =>
  intro j hd
  rw [List.drop_eq_nil_of_le (by omega)]
  refine Ev.step (f := fun _ => some false) (fun f => ?_) (Ev.now _)
  simp only [r1_Has.l0]
  rw [if_neg (by omega)]
 | succ d ih =>
  intro j hd
  have hj : j < but.length := by omega
  have e : rd but (j : Int) = but[j] := by rw [rd_nat, List.getD_eq_getElem?_getD, List.getElem?_eq_getElem hj]; rfl
  rw [List.drop_eq_getElem_cons hj, List.any_cons]
  by_cases h : but[j] = x
  ·
   rw [beq_iff_eq.2 h, Bool.true_or]
   refine Ev.step (f := fun _ => some true) (fun f => ?_) (Ev.now _)
   simp only [r1_Has.l0, e]
   rw [if_pos (by omega), if_pos (by omega), if_pos h]
  ·
   have hf : (but[j] == x) = false := by simpa using h
   rw [hf, Bool.false_or]
   refine Ev.step (f := fun f => r1_Has.l0 f but x ((j + 1 : Nat) : Int)) (fun f => ?_) (ih (j + 1) (by omega))
   simp only [r1_Has.l0, e]
   rw [if_pos (by omega), if_pos (by omega), if_neg h, wrapN (by omega)]
def hasB (but : List Int) (x : Nat) : Bool := but.any fun y => y == (x : Int)
theorem rHas (but : List Int) (hb : but.length ≤ 1000) (x : Nat) : Ev (fun f => r1_Has.f f but (x : Int)) (hasB but x) := rHas0 but hb x but.length 0 (by omega)

end Go.Proofs.Ytgoidclnccjdeaa.D
end
section
/- Package glass, plain: the numbers of all truths without drawings, as_ the program and as_ the reference go through them. -/
namespace Go.Proofs.Ytgoidclnccjdeaa.M
set_option linter.unusedVariables false

def vec (a : List Int) (n : Int) (b : List Int) : List Int := a ++ (List.replicate (3 - a.length) 0 ++ (n :: (b ++ List.replicate (4 - b.length) 0)))
def spans8 (g : List (Int × Int)) (d : Int × Int) (s : List (Int × Int)) : List (Int × Int) := g ++ (List.replicate (3 - g.length) (0, 0) ++ (d :: (s ++ List.replicate (4 - s.length) (0, 0))))
def allL (g : List (Int × Int)) (d : Int × Int) (s : List (Int × Int)) : List (List Int × Int × List Int) :=
 (prodL g).flatMap fun a => (rng d.1 d.2).flatMap fun n => (prodL s).map fun b => (a, n, b)
theorem fm_congr {α β : Type} {f g : α → List β} : ∀ (l : List α), (∀ x ∈ l, f x = g x) → l.flatMap f = l.flatMap g
 | [], _ => rfl
 | x :: r, h => by rw [List.flatMap_cons, List.flatMap_cons, h x (List.mem_cons_self ..), fm_congr r fun y hy => h y (List.mem_cons_of_mem _ hy)]
theorem fm_one {α β : Type} {f : α → List β} {g : α → β} : ∀ (l : List α), (∀ x ∈ l, f x = [g x]) → l.flatMap f = l.map g
 | [], _ => rfl
 | x :: r, h => by rw [List.flatMap_cons, List.map_cons, h x (List.mem_cons_self ..), fm_one r fun y hy => h y (List.mem_cons_of_mem _ hy)]; rfl
theorem prod_vec (g : List (Int × Int)) (d : Int × Int) (s : List (Int × Int)) : prodL (spans8 g d s) = (allL g d s).map fun t => vec t.1 t.2.1 t.2.2 := by
 have hS : prodL (s ++ List.replicate (4 - s.length) (0, 0)) = (prodL s).map fun b => b ++ List.replicate (4 - b.length) 0 := by
  rw [prodL_append, prodL_zeros]
  simp only [List.map_cons, List.map_nil]
  refine fm_one _ fun b hb => ?_
  rw [(mem_prodL s b hb).1]
 have hG : ∀ r, prodL (g ++ (List.replicate (3 - g.length) (0, 0) ++ r)) = (prodL g).flatMap fun a => (prodL r).map fun y => a ++ (List.replicate (3 - a.length) 0 ++ y) := by
  intro r
  rw [prodL_append, prodL_append, prodL_zeros]
  refine fm_congr _ fun a ha => ?_
  rw [(mem_prodL g a ha).1]
  simp
 unfold spans8 allL
 rw [hG]
 simp only [prodL, hS, List.map_flatMap, List.map_map]
 rfl
theorem vec_least {a : List Int} {n : Int} {b : List Int} {i : Nat} (hi : i < a.length) : (vec a n b).getD i 0 = a.getD i 0 := by
 simp [vec, List.getElem?_append_left hi]
theorem vec_dull {a : List Int} {n : Int} {b : List Int} (ha : a.length ≤ 3) : (vec a n b).getD 3 0 = n := by
 unfold vec
 rw [List.getD_eq_getElem?_getD, List.getElem?_append_right ha, List.getElem?_append_right (by simp)]
 simp
theorem vec_size {a : List Int} {n : Int} {b : List Int} {i : Nat} (ha : a.length ≤ 3) (hi : i < b.length) : (vec a n b).getD (4 + i) 0 = b.getD i 0 := by
 unfold vec
 rw [List.getD_eq_getElem?_getD, List.getElem?_append_right (by omega), List.getElem?_append_right (by simp; omega)]
 have e : 4 + i - a.length - (List.replicate (3 - a.length) (0 : Int)).length = i + 1 := by simp; omega
 rw [e, List.getElem?_cons_succ, List.getElem?_append_left hi]
 simp
end Go.Proofs.Ytgoidclnccjdeaa.M
end
section
/- Package glass: the reference's lists of a number of each span, and all truths without drawings. -/
namespace Go.Proofs.Ytgoidclnccjdeaa.D
open Go Go.RowKit Go.Proofs.YtgoidclnccjdeaaK Go.Proofs.YtgoidclnccjdeaaW.PrintWords Go.Proofs.YtgoidclnccjdeaaW.PrintLast Go.Proofs.YtgoidclnccjdeaaW.PrintMore Go.Proofs.Ytgoidclnccjdeaa.PR Go.Proofs.Ytgoidclnccjdeaa.M
set_option linter.unusedVariables false
set_option linter.unusedSimpArgs false

theorem L2_at (l : List (List Int)) (k : Nat) (h : k < l.length) : rd_L2 l (k : Int) = l[k] := by simp [rd_L2, h]
theorem wrapS {x : Int} (h : -1000000 ≤ x ∧ x ≤ 1000000) : wrap64 x = x := by unfold wrap64; omega
def SpOk (S : List Sp) : Prop := ∀ s ∈ S, -1000 ≤ s.f0 ∧ s.f0 ≤ s.f1 ∧ s.f1 ≤ 1000 ∧ s.f1 - s.f0 ≤ 2
abbrev pr (s : Sp) : Int × Int := (s.f0, s.f1)

theorem rE2 (S : List Sp) (out : List (List Int)) (i kk : Nat) (hi : i < S.length) (hk : kk < out.length) (hk' : out.length ≤ 100000) (hS : SpOk S) (hol : (out[kk]).length ≤ 1000) (r : List (List Int)) : ∀ (d : Nat) (n : Int) (next : List (List Int)), -1000 ≤ n → n + d = S[i].f1 + 1 → next.length + d ≤ 1000000 →
  Ev (fun k => r7_each.l1 k S out (i : Int) (next ++ (List.range d).map fun j : Nat => out[kk] ++ [n + (j : Int)]) ((kk + 1 : Nat) : Int)) r → Ev (fun k => r7_each.l2 k S out (i : Int) next (kk : Int) n) r
 | 0, n, next, h0, hn, hl, h => by
  refine Ev.step (f := fun k => r7_each.l1 k S out (i : Int) next ((kk + 1 : Nat) : Int)) (fun k => ?_) (by simpa using h)
  simp only [r7_each.l2, sp_at _ _ hi]
  rw [if_pos (by omega), if_pos (by omega), if_neg (by omega), wrapN (by omega)]
 | d + 1, n, next, h0, hn, hl, h => by
  have hs := hS _ (List.getElem_mem hi)
  refine Ev.step (f := fun k => r7_each.l2 k S out (i : Int) (next ++ [out[kk] ++ [n]]) (kk : Int) (n + 1)) (fun k => ?_) (rE2 S out i kk hi hk hk' hS hol r d (n + 1) (next ++ [out[kk] ++ [n]]) (by omega) (by omega) (by simp only [List.length_append, List.length_cons, List.length_nil]; omega) ?_)
  ·
   simp only [r7_each.l2, sp_at _ _ hi, L2_at _ _ hk, Option.bind_some, List.nil_append, List.length_nil]
   rw [if_pos (by omega), if_pos (by omega), if_pos (by omega), if_pos (by omega), if_pos (by omega), if_pos (by omega), if_pos (by omega), if_pos (by omega)]
   rw [wrapS (by omega)]
  ·
   have e : next ++ [out[kk] ++ [n]] ++ (List.range d).map (fun j : Nat => out[kk] ++ [n + 1 + (j : Int)]) = next ++ (List.range (d + 1)).map fun j : Nat => out[kk] ++ [n + (j : Int)] := by
    rw [List.range_succ_eq_map, List.map_cons, List.map_map, List.append_assoc]
    congr 1
    simp only [List.singleton_append, Int.natCast_zero, Int.add_zero]
    congr 1
    refine List.map_congr_left fun j _ => ?_
    show out[kk] ++ [n + 1 + (j : Int)] = out[kk] ++ [n + ((j + 1 : Nat) : Int)]
    congr 2; omega
   rw [e]; exact h
theorem rE1 (S : List Sp) (out : List (List Int)) (i : Nat) (hi : i < S.length) (hi' : i ≤ 1000) (hk' : out.length ≤ 100000) (hS : SpOk S) (hol : ∀ o ∈ out, o.length ≤ 1000) (r : List (List Int)) : ∀ (d kk : Nat) (next : List (List Int)), kk + d = out.length → next.length + 3 * d ≤ 1000000 →
  Ev (fun k => r7_each.l0 k S (next ++ (out.drop kk).flatMap fun o => (rng S[i].f0 S[i].f1).map fun n => o ++ [n]) ((i + 1 : Nat) : Int)) r → Ev (fun k => r7_each.l1 k S out (i : Int) next (kk : Int)) r
 | 0, kk, next, hd, hl, h => by
  rw [List.drop_eq_nil_of_le (by omega)] at h
  refine Ev.step (f := fun k => r7_each.l0 k S next ((i + 1 : Nat) : Int)) (fun k => ?_) (by simpa using h)
  simp only [r7_each.l1]
  rw [if_neg (by omega), wrapN (by omega)]
 | d + 1, kk, next, hd, hl, h => by
  have hk : kk < out.length := by omega
  have hs := hS _ (List.getElem_mem hi)
  refine Ev.step (f := fun k => r7_each.l2 k S out (i : Int) next (kk : Int) S[i].f0) (fun k => ?_) ?_
  ·
   simp only [r7_each.l1, sp_at _ _ hi]
   rw [if_pos (by omega), if_pos (by omega), if_pos (by omega)]
  ·
   have hdl : (S[i].f1 - S[i].f0 + 1).toNat ≤ 3 := by omega
   refine rE2 S out i kk hi hk hk' hS (hol _ (List.getElem_mem hk)) r (S[i].f1 - S[i].f0 + 1).toNat S[i].f0 next (by omega) (by omega) (by omega) ?_
   refine rE1 S out i hi hi' hk' hS hol r d (kk + 1) _ (by omega) (by simp only [List.length_append, List.length_map, List.length_range]; omega) ?_
   have e : (List.range (S[i].f1 - S[i].f0 + 1).toNat).map (fun j : Nat => out[kk] ++ [S[i].f0 + (j : Int)]) = (rng S[i].f0 S[i].f1).map fun n => out[kk] ++ [n] := by
    unfold rng; rw [List.map_map]; rfl
   rw [e, List.append_assoc]
   rw [List.drop_eq_getElem_cons hk, List.flatMap_cons] at h
   exact h
theorem fm_len3 {β : Type} (out : List β) (s : Sp) (h : s.f1 - s.f0 ≤ 2) (f : β → Int → List Int) : (out.flatMap fun o => (rng s.f0 s.f1).map (f o)).length ≤ 3 * out.length := by
 induction out with
 | nil => simp
 | cons x t ih =>
  have h3 : (rng s.f0 s.f1).length ≤ 3 := by rw [rng_len]; omega
  simp only [List.flatMap_cons, List.length_append, List.length_map, List.length_cons]
  omega
theorem rE0 (S : List Sp) (hS : SpOk S) (hl : S.length ≤ 4) : ∀ (d i : Nat) (out : List (List Int)), i + d = S.length → out.length ≤ 3 ^ i → (∀ o ∈ out, o.length ≤ i) →
  Ev (fun k => r7_each.l0 k S out (i : Int)) (((S.drop i).map pr).foldl (fun out s => out.flatMap fun o => (rng s.1 s.2).map fun n => o ++ [n]) out)
 | 0, i, out, hd, ho, hol => by
  rw [List.drop_eq_nil_of_le (by omega)]
  exact Ev.step (f := fun _ => some out) (fun k => by simp only [r7_each.l0]; rw [if_neg (by omega)]) (Ev.now _)
 | d + 1, i, out, hd, ho, hol => by
  have hi : i < S.length := by omega
  have hs := hS _ (List.getElem_mem hi)
  have h81 : 3 ^ i ≤ 3 ^ 4 := Nat.pow_le_pow_right (by decide) (by omega)
  have h81' : (3 : Nat) ^ 4 = 81 := by decide
  refine Ev.step (f := fun k => r7_each.l1 k S out (i : Int) [] ((0 : Nat) : Int)) (fun k => by simp only [r7_each.l0]; rw [if_pos (by omega)]; rfl) ?_
  refine rE1 S out i hi (by omega) (by omega) hS (fun o ho => Nat.le_trans (hol o ho) (by omega)) _ out.length 0 [] (by omega) (by simp only [List.length_nil]; omega) ?_
  rw [List.drop_zero, List.nil_append, List.drop_eq_getElem_cons hi, List.map_cons, List.foldl_cons]
  have hln := fm_len3 out S[i] (by omega) (fun o n => o ++ [n])
  refine rE0 S hS hl d (i + 1) _ (by omega) (by rw [Nat.pow_succ]; omega) (fun o ho => ?_)
  obtain ⟨x, hx, hy⟩ := List.mem_flatMap.1 ho
  obtain ⟨n, _, rfl⟩ := List.mem_map.1 hy
  have := hol x hx
  simp; omega
theorem rEach (S : List Sp) (hS : SpOk S) (hl : S.length ≤ 4) : Ev (fun k => r7_each.f k S) (prodL (S.map pr)) := by
 rw [← eachL_eq]
 have := rE0 S hS hl S.length 0 [[]] (by omega) (by simp) (by simp)
 simpa [r7_each.f, eachL] using this
end Go.Proofs.Ytgoidclnccjdeaa.D
end
section
/- Package glass: all truths without drawings, as_ the reference has them. -/
namespace Go.Proofs.Ytgoidclnccjdeaa.D
open Go Go.RowKit Go.Proofs.YtgoidclnccjdeaaK Go.Proofs.YtgoidclnccjdeaaW.PrintWords Go.Proofs.YtgoidclnccjdeaaW.PrintLast Go.Proofs.YtgoidclnccjdeaaW.PrintMore Go.Proofs.Ytgoidclnccjdeaa.PR Go.Proofs.Ytgoidclnccjdeaa.M
set_option linter.unusedVariables false
set_option linter.unusedSimpArgs false

abbrev tr0 (t : List Int × Int × List Int) : S56 := ⟨t.1, t.2.1, t.2.2, []⟩
theorem rA3 (D : Dat) (A B : List (List Int)) (i : Nat) (n : Int) (hi : i < A.length) (hA : A.length ≤ 1000) (hB : B.length ≤ 1000) (hn : -1000 ≤ n ∧ n ≤ 1000) (r : List S56) : ∀ (d kk : Nat) (out : List S56), kk + d = B.length → out.length + d ≤ 1000000 →
  Ev (fun k => r7_All.l2 k A B (out ++ (B.drop kk).map fun b => tr0 (A[i], n, b)) (i : Int) (n + 1) D.gl D.lo D.hi D.sp D.dr) r → Ev (fun k => r7_All.l3 k A B out (i : Int) n (kk : Int) D.gl D.lo D.hi D.sp D.dr) r
 | 0, kk, out, hd, hl, h => by
  rw [List.drop_eq_nil_of_le (by omega)] at h
  refine Ev.step (f := fun k => r7_All.l2 k A B out (i : Int) (n + 1) D.gl D.lo D.hi D.sp D.dr) (fun k => ?_) (by simpa using h)
  simp only [r7_All.l3]
  rw [if_neg (by omega), wrapS (by omega)]
 | d + 1, kk, out, hd, hl, h => by
  have hk : kk < B.length := by omega
  refine Ev.step (f := fun k => r7_All.l3 k A B (out ++ [tr0 (A[i], n, B[kk])]) (i : Int) n ((kk + 1 : Nat) : Int) D.gl D.lo D.hi D.sp D.dr) (fun k => ?_) (rA3 D A B i n hi hA hB hn r d (kk + 1) (out ++ [tr0 (A[i], n, B[kk])]) (by omega) (by simp only [List.length_append, List.length_cons, List.length_nil]; omega) ?_)
  ·
   simp only [r7_All.l3, L2_at _ _ hi, L2_at _ _ hk]
   rw [if_pos (by omega), if_pos (by omega), if_pos (by omega), if_pos (by omega), if_pos (by omega), wrapN (by omega)]
  ·
   rw [List.append_assoc]
   rw [List.drop_eq_getElem_cons hk, List.map_cons] at h
   exact h
theorem rA2 (D : Dat) (A B : List (List Int)) (i : Nat) (hi : i < A.length) (hA : A.length ≤ 1000) (hB : B.length ≤ 1000) (hh : D.hi ≤ 999) (r : List S56) : ∀ (d : Nat) (n : Int) (out : List S56), -1000 ≤ n → n + d = D.hi + 1 → out.length + d * B.length ≤ 1000000 →
  Ev (fun k => r7_All.l1 k A B (out ++ (List.range d).flatMap fun j : Nat => B.map fun b => tr0 (A[i], n + (j : Int), b)) ((i + 1 : Nat) : Int) D.gl D.lo D.hi D.sp D.dr) r → Ev (fun k => r7_All.l2 k A B out (i : Int) n D.gl D.lo D.hi D.sp D.dr) r
 | 0, n, out, h0, hn, hl, h => by
  refine Ev.step (f := fun k => r7_All.l1 k A B out ((i + 1 : Nat) : Int) D.gl D.lo D.hi D.sp D.dr) (fun k => ?_) (by simpa using h)
  simp only [r7_All.l2]
  rw [if_neg (by omega), wrapN (by omega)]
 | d + 1, n, out, h0, hn, hl, h => by
  have hmul : (d + 1) * B.length = d * B.length + B.length := by rw [Nat.add_mul]; omega
  refine Ev.step (f := fun k => r7_All.l3 k A B out (i : Int) n ((0 : Nat) : Int) D.gl D.lo D.hi D.sp D.dr) (fun k => by simp only [r7_All.l2]; rw [if_pos (by omega)]; rfl) ?_
  refine rA3 D A B i n hi hA hB (by omega) r B.length 0 out (by omega) (by omega) ?_
  rw [List.drop_zero]
  refine rA2 D A B i hi hA hB hh r d (n + 1) (out ++ B.map fun b => tr0 (A[i], n, b)) (by omega) (by omega) (by simp only [List.length_append, List.length_map]; omega) ?_
  have e : out ++ (B.map fun b => tr0 (A[i], n, b)) ++ ((List.range d).flatMap fun j : Nat => B.map fun b => tr0 (A[i], n + 1 + (j : Int), b)) = out ++ (List.range (d + 1)).flatMap fun j : Nat => B.map fun b => tr0 (A[i], n + (j : Int), b) := by
   rw [List.range_succ_eq_map, List.flatMap_cons, List.flatMap_map, List.append_assoc]
   congr 1
   simp only [Int.natCast_zero, Int.add_zero]
   congr 1
   refine fm_congr _ fun j _ => ?_
   have : n + 1 + (j : Int) = n + ((j + 1 : Nat) : Int) := by omega
   rw [this]
  rw [e]; exact h
theorem fm_le {α β : Type} (l : List α) (f : α → List β) (m : Nat) (h : ∀ x ∈ l, (f x).length ≤ m) : (l.flatMap f).length ≤ l.length * m := by
 induction l with
 | nil => simp
 | cons x t ih =>
  have h1 := h x (List.mem_cons_self ..)
  have h2 := ih (fun y hy => h y (List.mem_cons_of_mem _ hy))
  rw [List.flatMap_cons, List.length_append, List.length_cons, Nat.add_mul]
  omega
theorem rA1 (D : Dat) (A B : List (List Int)) (hA : A.length ≤ 100) (hB : B.length ≤ 100) (hlo : -1000 ≤ D.lo) (hle : D.lo ≤ D.hi + 1) (hh : D.hi ≤ 999) (hd2 : D.hi - D.lo ≤ 2) : ∀ (d i : Nat) (out : List S56), i + d = A.length → out.length + d * 300 ≤ 1000000 →
  Ev (fun k => r7_All.l1 k A B out (i : Int) D.gl D.lo D.hi D.sp D.dr) (out ++ (A.drop i).flatMap fun a => (rng D.lo D.hi).flatMap fun n => B.map fun b => tr0 (a, n, b))
 | 0, i, out, hd, hl => by
  rw [List.drop_eq_nil_of_le (by omega)]
  exact Ev.step (f := fun _ => some out) (fun k => by simp only [r7_All.l1]; rw [if_neg (by omega)]) (by simpa using Ev.now out)
 | d + 1, i, out, hd, hl => by
  have hi : i < A.length := by omega
  refine Ev.step (f := fun k => r7_All.l2 k A B out (i : Int) D.lo D.gl D.lo D.hi D.sp D.dr) (fun k => by simp only [r7_All.l1]; rw [if_pos (by omega)]) ?_
  have h3 : (D.hi - D.lo + 1).toNat ≤ 3 := by omega
  have h300 : (D.hi - D.lo + 1).toNat * B.length ≤ 300 := Nat.le_trans (Nat.mul_le_mul h3 hB) (by decide)
  refine rA2 D A B i hi (by omega) (by omega) hh _ (D.hi - D.lo + 1).toNat D.lo out hlo (by omega) (by omega) ?_
  have e : ((List.range (D.hi - D.lo + 1).toNat).flatMap fun j : Nat => B.map fun b => tr0 (A[i], D.lo + (j : Int), b)) = (rng D.lo D.hi).flatMap fun n => B.map fun b => tr0 (A[i], n, b) := by
   unfold rng; rw [List.flatMap_map]
  have hln : ((rng D.lo D.hi).flatMap fun n => B.map fun b => tr0 (A[i], n, b)).length ≤ 300 := by
   rw [← e]
   exact Nat.le_trans (fm_le _ _ B.length (fun x _ => by simp)) (by rw [List.length_range]; exact h300)
  have ih := rA1 D A B hA hB hlo hle hh hd2 d (i + 1) (out ++ ((rng D.lo D.hi).flatMap fun n => B.map fun b => tr0 (A[i], n, b))) (by omega) (by rw [List.length_append]; omega)
  rw [e]
  rw [List.drop_eq_getElem_cons hi, List.flatMap_cons, ← List.append_assoc]
  exact ih
theorem rA0 (D : Dat) (hg : D.gl.length ≤ 1000) (r : List S56) (h : Ev (fun k => (r7_each.f k (D.gl.map fun g => g.f1)).bind fun a => (r7_each.f k D.sp).bind fun b => r7_All.l1 k a b [] 0 D.gl D.lo D.hi D.sp D.dr) r) : ∀ (d i : Nat), i + d = D.gl.length →
  Ev (fun k => r7_All.l0 k ((D.gl.take i).map fun g => g.f1) (i : Int) D.gl D.lo D.hi D.sp D.dr) r
 | 0, i, hd => by
  rw [List.take_of_length_le (by omega)]
  exact Ev.step (fun k => by simp only [r7_All.l0]; rw [if_neg (by omega)]) h
 | d + 1, i, hd => by
  have hi : i < D.gl.length := by omega
  have hl : ((D.gl.take i).map fun g => g.f1).length = i := by simp; omega
  have hx : (D.gl.take i).map (fun g => g.f1) ++ [D.gl[i].f1] = (D.gl.take (i + 1)).map fun g => g.f1 := by
   rw [List.take_add_one, List.getElem?_eq_getElem hi, List.map_append]; rfl
  refine Ev.step (f := fun k => r7_All.l0 k ((D.gl.take (i + 1)).map fun g => g.f1) ((i + 1 : Nat) : Int) D.gl D.lo D.hi D.sp D.dr) (fun k => ?_) (rA0 D hg r h d (i + 1) (by omega))
  simp only [r7_All.l0, gl_at _ _ hi]
  rw [if_pos (by omega), if_pos (by omega), if_pos (by rw [hl]; omega), wrapN (by omega), ← hx]
theorem spOk_gl {D : Dat} (h : Valid D) : SpOk (D.gl.map fun g => g.f1) := by
 intro s hs
 obtain ⟨g, hg, rfl⟩ := List.mem_map.1 hs
 obtain ⟨k, hk, rfl⟩ := List.mem_iff_getElem.1 hg
 have := h.gl k hk
 rw [gl_at _ _ hk] at this
 omega
theorem spOk_sp {D : Dat} (h : Valid D) : SpOk D.sp := by
 intro s hs
 obtain ⟨k, hk, rfl⟩ := List.mem_iff_getElem.1 hs
 have := h.sp k hk
 rw [sp_at _ _ hk] at this
 omega
abbrev glS (D : Dat) : List (Int × Int) := D.gl.map fun g => (g.f1.f0, g.f1.f1)
abbrev spS (D : Dat) : List (Int × Int) := D.sp.map pr
theorem prodL_le3 (S : List (Int × Int)) (h : ∀ s ∈ S, s.2 - s.1 ≤ 2) : (prodL S).length ≤ 3 ^ S.length := prodL_len S h
theorem rAll {D : Dat} (h : Valid D) : Ev (fun k => r7_All.f k D.gl D.lo D.hi D.sp D.dr) ((allL (glS D) (D.lo, D.hi) (spS D)).map tr0) := by
 have hg := spOk_gl h
 have hs := spOk_sp h
 have hg3 := h.g3
 have hs4 := h.s4
 have hlo := h.lo
 have hle := h.le
 have hhi := h.hi
 have hdu := h.du
 have e0 : (D.gl.map fun g => g.f1).map pr = glS D := by unfold glS; rw [List.map_map]; rfl
 have hA : (prodL (glS D)).length ≤ 100 := by
  refine Nat.le_trans (prodL_le3 _ (fun s hs' => ?_)) (Nat.le_trans (Nat.pow_le_pow_right (n := 3) (i := (glS D).length) (j := 3) (by decide) (by simpa [glS] using hg3)) (by decide))
  rw [← e0] at hs'
  obtain ⟨t, ht, rfl⟩ := List.mem_map.1 hs'
  have := hg t ht
  exact this.2.2.2
 have hB : (prodL (spS D)).length ≤ 100 := by
  refine Nat.le_trans (prodL_le3 _ (fun s hs' => ?_)) (Nat.le_trans (Nat.pow_le_pow_right (n := 3) (i := (spS D).length) (j := 4) (by decide) (by simpa [spS] using hs4)) (by decide))
  obtain ⟨t, ht, rfl⟩ := List.mem_map.1 hs'
  have := hs t ht
  exact this.2.2.2
 refine rA0 D (by omega) _ ?_ D.gl.length 0 (by omega)
 have h1 := rEach (D.gl.map fun g => g.f1) hg (by simpa using Nat.le_trans hg3 (by decide))
 rw [e0] at h1
 refine Ev.bind (f := fun k a => (r7_each.f k D.sp).bind fun b => r7_All.l1 k a b [] 0 D.gl D.lo D.hi D.sp D.dr) h1 ?_
 refine Ev.bind (f := fun k b => r7_All.l1 k (prodL (glS D)) b [] 0 D.gl D.lo D.hi D.sp D.dr) (rEach D.sp hs hs4) ?_
 have h2 := rA1 D (prodL (glS D)) (prodL (spS D)) hA hB (by omega) (by omega) (by omega) hdu (prodL (glS D)).length 0 [] (by omega) (by simp only [List.length_nil]; omega)
 have e : (allL (glS D) (D.lo, D.hi) (spS D)).map tr0 = [] ++ ((prodL (glS D)).drop 0).flatMap fun a => (rng D.lo D.hi).flatMap fun n => (prodL (spS D)).map fun b => tr0 (a, n, b) := by
  unfold allL
  simp only [List.nil_append, List.drop_zero, List.map_flatMap, List.map_map]
  rfl
 rw [e]
 exact h2
end Go.Proofs.Ytgoidclnccjdeaa.D
end
section
/- Package glass: what is seen, and the glasses of a drawing, as_ the reference has them; its truths. -/
namespace Go.Proofs.Ytgoidclnccjdeaa.D
open Go Go.RowKit Go.Proofs.YtgoidclnccjdeaaK Go.Proofs.YtgoidclnccjdeaaW.PrintWords Go.Proofs.YtgoidclnccjdeaaW.PrintLast Go.Proofs.YtgoidclnccjdeaaW.PrintMore Go.Proofs.Ytgoidclnccjdeaa.PR Go.Proofs.Ytgoidclnccjdeaa.M
set_option linter.unusedVariables false
set_option linter.unusedSimpArgs false

abbrev Tr := List Int × Int × List Int
abbrev V8 (t : Tr) : List Int := vec t.1 t.2.1 t.2.2
abbrev allD (D : Dat) : List Tr := allL (glS D) (D.lo, D.hi) (spS D)
theorem spans8_eq {D : Dat} (h : Valid D) : spansL D = spans8 (glS D) (D.lo, D.hi) (spS D) := by
 have hg1 := h.g1
 have hg3 := h.g3
 have hs4 := h.s4
 have hl : (glS D).length = D.gl.length := by simp [glS]
 have hl2 : (spS D).length = D.sp.length := by simp [spS]
 have hgi : ∀ i, i < D.gl.length → (glS D)[i]? = some ((rd_T95 D.gl i).f1.f0, (rd_T95 D.gl i).f1.f1) := fun i hi => by
  simp only [glS, List.getElem?_map, List.getElem?_eq_getElem hi, Option.map_some, gl_at _ _ hi]
 have hsi : ∀ i, i < D.sp.length → (spS D)[i]? = some ((rd_T24 D.sp i).f0, (rd_T24 D.sp i).f1) := fun i hi => by
  simp only [spS, List.getElem?_map, List.getElem?_eq_getElem hi, Option.map_some, sp_at _ _ hi]
 refine List.ext_getElem? (fun i => ?_)
 unfold spans8
 rw [List.getElem?_append, List.getElem?_append, List.getElem?_cons, List.getElem?_append]
 simp only [List.length_replicate, hl, hl2]
 by_cases h8 : i < 8
 ·
  rw [List.getElem?_eq_getElem (by rw [spansL_len]; exact h8), spansL_get]
  unfold spanF
  by_cases c1 : i < D.gl.length
  ·
   rw [if_pos c1, if_pos c1, hgi i c1]
  ·
   rw [if_neg c1, if_neg c1]
   by_cases c2 : i - D.gl.length < 3 - D.gl.length
   ·
    have c5 : ¬ (4 ≤ i ∧ i < 4 + D.sp.length) := fun x => by omega
    rw [if_pos c2, if_neg (show ¬ i = 3 by omega), if_neg c5, List.getElem?_replicate, if_pos c2]
   ·
    rw [if_neg c2]
    by_cases c3 : i = 3
    ·
     rw [if_pos c3, if_pos (show i - D.gl.length - (3 - D.gl.length) = 0 by omega)]
    ·
     rw [if_neg c3, if_neg (show ¬ (i - D.gl.length - (3 - D.gl.length) = 0) by omega)]
     have e : i - D.gl.length - (3 - D.gl.length) - 1 = i - 4 := by omega
     rw [e]
     by_cases c4 : i - 4 < D.sp.length
     ·
      have c5 : 4 ≤ i ∧ i < 4 + D.sp.length := ⟨by omega, by omega⟩
      rw [if_pos c5, if_pos c4, hsi _ c4]
     ·
      have c5 : ¬ (4 ≤ i ∧ i < 4 + D.sp.length) := fun x => c4 (by omega)
      rw [if_neg c5, if_neg c4, List.getElem?_replicate, if_pos (show i - 4 - D.sp.length < 4 - D.sp.length by omega)]
 ·
  rw [List.getElem?_eq_none (by rw [spansL_len]; omega), if_neg (by omega), if_neg (by omega), if_neg (by omega), if_neg (by omega), List.getElem?_replicate, if_neg (by omega)]
theorem truthsL_eq {D : Dat} (h : Valid D) (but : Nat) : truthsL D but = ((allD D).filter fun t => soB D but (fn (V8 t))).map V8 := by
 unfold truthsL
 rw [spans8_eq h, prod_vec, List.filter_map]
 rfl
theorem mem_all {D : Dat} (h : Valid D) {t : Tr} (ht : t ∈ allD D) : t.1.length = D.gl.length ∧ t.2.2.length = D.sp.length ∧ (∀ i, 0 ≤ fn (V8 t) i ∧ fn (V8 t) i ≤ 60) ∧ t.1 ∈ prodL (glS D) ∧ t.2.1 ∈ rng D.lo D.hi ∧ t.2.2 ∈ prodL (spS D) := by
 have h8 : V8 t ∈ prodL (spansL D) := by rw [spans8_eq h, prod_vec]; exact List.mem_map.2 ⟨t, ht, rfl⟩
 obtain ⟨a, ha, h2⟩ := List.mem_flatMap.1 ht
 obtain ⟨n, hn, h3⟩ := List.mem_flatMap.1 h2
 obtain ⟨b, hb, rfl⟩ := List.mem_map.1 h3
 exact ⟨by simpa [glS] using (mem_prodL _ _ ha).1, by simpa [spS] using (mem_prodL _ _ hb).1, (mem_spans h h8).2, ha, hn, hb⟩

section
variable {D : Dat} (h : Valid D) {t : Tr} (ht : t ∈ allD D)
include h ht
theorem V_least {g : Nat} (hg : g < D.gl.length) : rd t.1 (g : Int) = fn (V8 t) g := by
 obtain ⟨h1, h2, _⟩ := mem_all h ht
 rw [rd_nat]; exact (vec_least (by omega)).symm
theorem V_dull : t.2.1 = fn (V8 t) 3 := by
 obtain ⟨h1, h2, _⟩ := mem_all h ht
 have := h.g3
 exact (vec_dull (by omega)).symm
theorem V_size {i : Nat} (hi : i < D.sp.length) : rd t.2.2 (i : Int) = fn (V8 t) (4 + i) := by
 obtain ⟨h1, h2, _⟩ := mem_all h ht
 have := h.g3
 rw [rd_nat]; exact (vec_size (by omega) (by omega)).symm
theorem rSeen (F : List (List Int)) {i g : Nat} {y : Int} (hi : i < D.sp.length) (hg : g < D.gl.length) (hy : 0 ≤ y ∧ y ≤ 9) : r7_Seen.f t.1 t.2.1 t.2.2 F (i : Int) (g : Int) y = some (seenB (fn (V8 t)) g y i) := by
 obtain ⟨h1, h2, hr, _⟩ := mem_all h ht
 unfold r7_Seen.f
 rw [if_pos (by omega), if_pos (by omega), if_pos (by omega), if_pos (by omega), V_size h ht hi, V_least h ht hg, V_dull h ht]
 have m := mul_in (hr 3).1 (hr 3).2 hy.1 hy.2
 have hg60 := hr g
 have e1 : wrap64 (fn (V8 t) 3 * y) = fn (V8 t) 3 * y := wrapS (by omega)
 rw [e1, wrapS (by omega)]
 rfl
end
theorem seenTo_testBit (n : Nat → Int) (g : Nat) (y : Int) : ∀ (k i : Nat), (seenTo n g y k).testBit i = (decide (i < k) && seenB n g y i)
 | 0, i => by simp [seenTo]
 | k + 1, i => by
  have ih := seenTo_testBit n g y k i
  unfold seenTo
  by_cases hs : seenB n g y k = true
  ·
   rw [if_pos hs, Nat.testBit_or, ih, Nat.testBit_two_pow]
   by_cases e : i = k
   ·
    subst e; simp [hs]
   ·
    have h2 : decide (k = i) = false := by simp; omega
    rw [h2, Bool.or_false]
    congr 1
    rw [decide_eq_decide]; omega
  ·
   rw [if_neg hs, ih]
   by_cases e : i = k
   ·
    subst e; simp [hs]
   ·
    congr 1
    rw [decide_eq_decide]; omega
theorem half_bit (x i : Nat) : x / 2 ^ i = 2 * (x / 2 ^ (i + 1)) + if x.testBit i = true then 1 else 0 := by
 have h1 : x / 2 ^ (i + 1) = x / 2 ^ i / 2 := by rw [Nat.pow_succ, Nat.div_div_eq_div_mul]
 rw [h1, Nat.testBit_eq_decide_div_mod_eq]
 by_cases h : x / 2 ^ i % 2 = 1
 ·
  simp only [h, decide_true, if_true]; omega
 ·
  simp only [h, decide_false, Bool.false_eq_true, if_false]; omega
theorem rBits {D : Dat} (h : Valid D) {t : Tr} (ht : t ∈ allD D) (F : List (List Int)) {g : Nat} {y : Int} (hg : g < D.gl.length) (hy : 0 ≤ y ∧ y ≤ 9) : Ev (fun k => r7_Bits.f k t.1 t.2.1 t.2.2 F (g : Int) y) (seenTo (fn (V8 t)) g y D.sp.length : Int) := by
 obtain ⟨h1, h2, hr, _⟩ := mem_all h ht
 have hs4 := h.s4
 obtain ⟨X, hX⟩ : ∃ X, seenTo (fn (V8 t)) g y D.sp.length = X := ⟨_, rfl⟩
 have hXb : ∀ i, i < D.sp.length → X.testBit i = seenB (fn (V8 t)) g y i := fun i hi => by rw [← hX, seenTo_testBit]; simp [hi]
 have hlt : X < 2 ^ D.sp.length := by rw [← hX]; exact seenTo_lt _ _ _ _
 have h16 : 2 ^ D.sp.length ≤ 2 ^ 4 := Nat.pow_le_pow_right (by decide) hs4
 have h16' : (2 : Nat) ^ 4 = 16 := by decide
 have key : ∀ (i : Nat), i ≤ D.sp.length → Ev (fun k => r7_Bits.l0 k (g : Int) y ((X / 2 ^ i : Nat) : Int) ((i : Int) - 1) t.1 t.2.1 t.2.2 F) (X : Int) := by
  intro i
  induction i with
  | zero =>
   intro _
   refine Ev.step (f := fun _ => some (X : Int)) (fun k => ?_) (Ev.now _)
   simp only [r7_Bits.l0]
   rw [if_neg (by omega)]
   simp
  | succ i ih =>
   intro hi
   have hx : X / 2 ^ i ≤ 16 := Nat.le_trans (Nat.div_le_self _ _) (by omega)
   have hx' : X / 2 ^ (i + 1) ≤ 16 := Nat.le_trans (Nat.div_le_self _ _) (by omega)
   have hb := half_bit X i
   rw [hXb i (by omega)] at hb
   have hrs := rSeen h ht F (show i < D.sp.length by omega) hg hy
   refine Ev.step (f := fun k => r7_Bits.l0 k (g : Int) y ((X / 2 ^ i : Nat) : Int) ((i : Int) - 1) t.1 t.2.1 t.2.2 F) (fun k => ?_) (ih (by omega))
   have e : ((i + 1 : Nat) : Int) - 1 = (i : Int) := by omega
   simp only [r7_Bits.l0, e, hrs, Option.bind_some]
   rw [if_pos (by omega), wrapS (x := 2 * ((X / 2 ^ (i + 1) : Nat) : Int)) (by omega), wrapS (x := 2 * ((X / 2 ^ (i + 1) : Nat) : Int) + 1) (by omega), wrapS (x := (i : Int) - 1) (by omega)]
   generalize X / 2 ^ i = u at *
   generalize X / 2 ^ (i + 1) = v at *
   cases hsb : seenB (fn (V8 t)) g y i
   ·
    rw [hsb] at hb
    simp only [Bool.false_eq_true, if_false] at hb ⊢
    rw [hb]; congr 1
   ·
    rw [hsb] at hb
    simp only [if_true] at hb ⊢
    rw [hb]; congr 1
 have hk := key D.sp.length (Nat.le_refl _)
 rw [Nat.div_eq_of_lt hlt] at hk
 rw [hX]
 unfold r7_Bits.f
 rw [h2, wrapS (by omega)]
 exact hk
end Go.Proofs.Ytgoidclnccjdeaa.D
end
section
/- Package glass: the reference's truths are the program's. -/
namespace Go.Proofs.Ytgoidclnccjdeaa.D
open Go Go.RowKit Go.Proofs.YtgoidclnccjdeaaK Go.Proofs.YtgoidclnccjdeaaW.PrintWords Go.Proofs.YtgoidclnccjdeaaW.PrintLast Go.Proofs.YtgoidclnccjdeaaW.PrintMore Go.Proofs.Ytgoidclnccjdeaa.PR Go.Proofs.Ytgoidclnccjdeaa.M
set_option linter.unusedVariables false
set_option linter.unusedSimpArgs false

def usedL (D : Dat) (t : Tr) (d : Dr) : List Nat := (List.range D.gl.length).filter (thrB D (fn (V8 t)) d)
def DrIn (D : Dat) (d : Dr) : Prop := 0 ≤ d.f1 ∧ d.f1 ≤ 9
theorem usedL_any (D : Dat) (t : Tr) (d : Dr) : decide (0 < (ints (usedL D t d)).length) = soD D (fn (V8 t)) d D.gl.length := by
 unfold usedL soD ints
 rw [List.length_map, Bool.eq_iff_iff, decide_eq_true_eq, List.length_filter_pos_iff, List.any_eq_true]
theorem rUsed {D : Dat} (h : Valid D) {t : Tr} (ht : t ∈ allD D) (F : List (List Int)) (d : Dr) (hd : DrIn D d) :
  Ev (fun k => r7_used.f k D.gl D.lo D.hi D.sp D.dr t.1 t.2.1 t.2.2 F d.f0 d.f1 d.f2) (ints (usedL D t d)) := by
 have hg3 := h.g3
 have key : ∀ (m g : Nat), g + m = D.gl.length → Ev (fun k => r7_used.l0 k (ints ((List.range g).filter (thrB D (fn (V8 t)) d))) (g : Int) D.gl D.lo D.hi D.sp D.dr t.1 t.2.1 t.2.2 F d.f0 d.f1 d.f2) (ints (usedL D t d)) := by
  intro m
  induction m with
  | zero =>
   intro g hg
   obtain rfl : g = D.gl.length := by omega
   exact Ev.step (f := fun _ => some (ints (usedL D t d))) (fun k => by simp only [r7_used.l0]; rw [if_neg (by omega)]; rfl) (Ev.now _)
  | succ m ih =>
   intro g hg
   have hlt : g < D.gl.length := by omega
   have ih' := ih (g + 1) (by omega)
   have hll : (ints ((List.range g).filter (thrB D (fn (V8 t)) d))).length ≤ 3 := by
    unfold ints; rw [List.length_map]
    exact Nat.le_trans (List.length_filter_le _ _) (by simp; omega)
   have hnx : (List.range (g + 1)).filter (thrB D (fn (V8 t)) d) = (List.range g).filter (thrB D (fn (V8 t)) d) ++ if thrB D (fn (V8 t)) d g = true then [g] else [] := by
    rw [List.range_succ, List.filter_append]
    congr 1
    cases hpb : thrB D (fn (V8 t)) d g <;> simp [hpb]
   have hB := rBits h ht F hlt hd
   have hth : thrB D (fn (V8 t)) d g = ((d.f0 == -1 || d.f0 == (g : Int)) && ((seenTo (fn (V8 t)) g d.f1 D.sp.length : Nat) : Int) == d.f2) := rfl
   obtain ⟨acc, hacc⟩ : ∃ acc, (List.range g).filter (thrB D (fn (V8 t)) d) = acc := ⟨_, rfl⟩
   rw [hacc] at hnx hll ⊢
   rw [hnx] at ih'
   obtain ⟨st, hst⟩ : ∃ st, seenTo (fn (V8 t)) g d.f1 D.sp.length = st := ⟨_, rfl⟩
   rw [hst] at hB hth
   have hins : ∀ l : List Nat, ints (l ++ [g]) = ints l ++ [(g : Int)] := fun l => by simp [ints]
   have hcore : Ev (fun k => (r7_Bits.f k t.1 t.2.1 t.2.2 F (g : Int) d.f1).bind fun b => if b = d.f2 then r7_used.l0 k (ints acc ++ [(g : Int)]) ((g + 1 : Nat) : Int) D.gl D.lo D.hi D.sp D.dr t.1 t.2.1 t.2.2 F d.f0 d.f1 d.f2 else r7_used.l0 k (ints acc) ((g + 1 : Nat) : Int) D.gl D.lo D.hi D.sp D.dr t.1 t.2.1 t.2.2 F d.f0 d.f1 d.f2) (ints (usedL D t d)) ∨ (d.f0 ≠ -1 ∧ d.f0 ≠ (g : Int)) := by
    by_cases h1 : d.f0 = -1 ∨ d.f0 = (g : Int)
    ·
     left
     have ho : (d.f0 == -1 || d.f0 == (g : Int)) = true := by rcases h1 with h1 | h1 <;> simp [h1]
     rw [ho, Bool.true_and] at hth
     refine Ev.bind hB ?_
     by_cases h2 : (st : Int) = d.f2
     ·
      have : thrB D (fn (V8 t)) d g = true := by rw [hth]; simp [h2]
      rw [this, if_pos rfl, hins] at ih'
      simp only [if_pos h2]; exact ih'
     ·
      have : thrB D (fn (V8 t)) d g = false := by rw [hth]; simp [h2]
      rw [this] at ih'
      simp only [if_neg h2]; simpa using ih'
    ·
     right; exact ⟨fun x => h1 (.inl x), fun x => h1 (.inr x)⟩
   rcases hcore with hcore | ⟨n1, n2⟩
   ·
    by_cases h1 : d.f0 = -1 ∨ d.f0 = (g : Int)
    ·
     refine Ev.step (fun k => ?_) hcore
     simp only [r7_used.l0]
     rw [if_pos (by omega)]
     have hk : ints acc = ints acc := rfl
     by_cases e1 : d.f0 = -1
     ·
      rw [if_pos e1]
      congr 1
      funext b
      rw [if_pos (show (ints acc).length < 17592186044416 by omega), wrapN (by omega)]
     ·
      rw [if_neg e1, if_pos (h1.resolve_left e1)]
      congr 1
      funext b
      rw [if_pos (show (ints acc).length < 17592186044416 by omega), wrapN (by omega)]
    ·
     have n1 : d.f0 ≠ -1 := fun x => h1 (.inl x)
     have n2 : d.f0 ≠ (g : Int) := fun x => h1 (.inr x)
     have : thrB D (fn (V8 t)) d g = false := by rw [hth]; simp [n1, n2]
     rw [this] at ih'
     refine Ev.step (f := fun k => r7_used.l0 k (ints acc) ((g + 1 : Nat) : Int) D.gl D.lo D.hi D.sp D.dr t.1 t.2.1 t.2.2 F d.f0 d.f1 d.f2) (fun k => ?_) (by simpa using ih')
     simp only [r7_used.l0]
     rw [if_pos (by omega), if_neg n1, if_neg n2, wrapN (by omega)]
   ·
    have : thrB D (fn (V8 t)) d g = false := by rw [hth]; simp [n1, n2]
    rw [this] at ih'
    refine Ev.step (f := fun k => r7_used.l0 k (ints acc) ((g + 1 : Nat) : Int) D.gl D.lo D.hi D.sp D.dr t.1 t.2.1 t.2.2 F d.f0 d.f1 d.f2) (fun k => ?_) (by simpa using ih')
    simp only [r7_used.l0]
    rw [if_pos (by omega), if_neg n1, if_neg n2, wrapN (by omega)]
 exact key D.gl.length 0 (by omega)

def ownL (D : Dat) (but : List Int) (t : Tr) (i : Nat) : List Int := if hasB but i = true then [] else ints (usedL D t (rd_T72 D.dr i))
def okI (D : Dat) (but : List Int) (t : Tr) (i : Nat) : Bool := hasB but i || soD D (fn (V8 t)) (rd_T72 D.dr i) D.gl.length
theorem rOne {D : Dat} (h : Valid D) {t : Tr} (ht : t ∈ allD D) (but : List Int) (hb : but.length ≤ 1000) (acc F : List (List Int)) (i : Nat) (hi : i < D.dr.length) :
  Ev (fun k => r7_Truths.one k D.gl D.lo D.hi D.sp D.dr but ⟨t.1, t.2.1, t.2.2, F⟩ acc i) (ownL D but t i, okI D but t i) := by
 unfold r7_Truths.one ownL okI
 refine Ev.bind (rHas but hb i) ?_
 cases hh : hasB but i
 ·
  simp only [Bool.false_eq_true, if_false, Bool.false_or]
  have hd := h.dr i hi
  have hu := rUsed h ht acc (rd_T72 D.dr (i : Int)) ⟨hd.2.2.1, hd.2.2.2.1⟩
  refine Ev.bind (f := fun _ o => some (o, decide (0 < o.length))) hu ?_
  simp only [usedL_any]
  exact Ev.now _
 ·
  simp only [if_true, Bool.true_or]
  exact Ev.now _
theorem rRow {D : Dat} (h : Valid D) {t : Tr} (ht : t ∈ allD D) (but : List Int) (hb : but.length ≤ 1000) (F : List (List Int)) : ∀ (n i : Nat) (acc : List (List Int)), i + n = D.dr.length → acc.length + n ≤ 1000 →
  ∃ p : Bool × List (List Int), Ev (fun k => r7_Truths.row k D.gl D.lo D.hi D.sp D.dr but ⟨t.1, t.2.1, t.2.2, F⟩ n i acc) p ∧ p.1 = ((List.range' i n).all fun j => okI D but t j) ∧ (p.1 = true → p.2 = acc ++ (List.range' i n).map (ownL D but t))
 | 0, i, acc, hi, hl => ⟨(true, acc), Ev.now _, by simp, fun _ => by simp⟩
 | n + 1, i, acc, hi, hl => by
  obtain ⟨p, hp, hp1, hp2⟩ := rRow h ht but hb F n (i + 1) (acc ++ [ownL D but t i]) (by omega) (by simp; omega)
  have h1 := rOne h ht but hb acc F i (by omega)
  cases ho : okI D but t i
  ·
   rw [ho] at h1
   refine ⟨(false, acc ++ [ownL D but t i]), ?_, ?_, fun x => by cases x⟩
   ·
    refine Ev.congr (fun k => by simp only [r7_Truths.row]; rw [if_pos (by omega)]) (Ev.bind (f := fun k q => if q.2 = true then r7_Truths.row k D.gl D.lo D.hi D.sp D.dr but ⟨t.1, t.2.1, t.2.2, F⟩ n (i + 1) (acc ++ [q.1]) else some (false, acc ++ [q.1])) h1 ?_)
    simp only [Bool.false_eq_true, if_false]
    exact Ev.now _
   ·
    rw [List.range'_succ, List.all_cons, ho]; rfl
  ·
   rw [ho] at h1
   refine ⟨p, ?_, ?_, fun x => ?_⟩
   ·
    refine Ev.congr (fun k => by simp only [r7_Truths.row]; rw [if_pos (by omega)]) (Ev.bind (f := fun k q => if q.2 = true then r7_Truths.row k D.gl D.lo D.hi D.sp D.dr but ⟨t.1, t.2.1, t.2.2, F⟩ n (i + 1) (acc ++ [q.1]) else some (false, acc ++ [q.1])) h1 ?_)
    simp only [if_true]
    exact hp
   ·
    rw [hp1, List.range'_succ, List.all_cons, ho]; rfl
   ·
    rw [hp2 x, List.range'_succ, List.map_cons, List.append_assoc]; rfl
def trU (D : Dat) (but : List Int) (t : Tr) : S56 := ⟨t.1, t.2.1, t.2.2, (List.range D.dr.length).map (ownL D but t)⟩
def okT (D : Dat) (but : List Int) (t : Tr) : Bool := (List.range D.dr.length).all fun j => okI D but t j
def truthsR (D : Dat) (but : List Int) : List S56 := ((allD D).filter (okT D but)).map (trU D but)
theorem rGo {D : Dat} (h : Valid D) (but : List Int) (hb : but.length ≤ 1000) : ∀ (l : List Tr) (out : List S56), (∀ t ∈ l, t ∈ allD D) → out.length + l.length ≤ 100000 →
  Ev (fun k => r7_Truths.go k D.gl D.lo D.hi D.sp D.dr but (l.map tr0) out) (out ++ (l.filter (okT D but)).map (trU D but))
 | [], out, hl, hn => by simpa [r7_Truths.go] using Ev.now out
 | t :: l, out, hl, hn => by
  have ht := hl t (List.mem_cons_self ..)
  have hd4 := h.d4
  obtain ⟨p, hp, hp1, hp2⟩ := rRow h ht but hb [] D.dr.length 0 [] (by omega) (by simp; omega)
  have hr : List.range' 0 D.dr.length = List.range D.dr.length := List.range_eq_range'.symm
  rw [hr] at hp1 hp2
  simp only [List.length_cons] at hn
  refine Ev.congr (fun k => by simp only [List.map_cons, r7_Truths.go]; rw [if_pos (by omega)]) (Ev.bind (f := fun k q => if q.1 = true then r7_Truths.go k D.gl D.lo D.hi D.sp D.dr but (l.map tr0) (out ++ [⟨t.1, t.2.1, t.2.2, q.2⟩]) else r7_Truths.go k D.gl D.lo D.hi D.sp D.dr but (l.map tr0) out) hp ?_)
  have hok : p.1 = okT D but t := hp1
  cases ho : okT D but t
  ·
   rw [ho] at hok
   rw [List.filter_cons_of_neg (by rw [ho]; simp)]
   simp only [hok, Bool.false_eq_true, if_false]
   exact rGo h but hb l out (fun x hx => hl x (List.mem_cons_of_mem _ hx)) (by omega)
  ·
   rw [ho] at hok
   rw [List.filter_cons_of_pos ho, List.map_cons]
   have e := hp2 hok
   simp only [hok, if_true, e, List.nil_append]
   have := rGo h but hb l (out ++ [trU D but t]) (fun x hx => hl x (List.mem_cons_of_mem _ hx)) (by simp; omega)
   rw [List.append_assoc] at this
   exact this
theorem allD_len {D : Dat} (h : Valid D) : (allD D).length ≤ 6561 := by
 have h1 := prodL_len (spansL D) (fun s hs => by
  obtain ⟨k, _, rfl⟩ := List.mem_map.1 hs
  exact spanF_wide h k)
 rw [spans8_eq h, prod_vec, List.length_map, ← spans8_eq h, spansL_len] at h1
 exact Nat.le_trans h1 (by decide)
theorem rTruths {D : Dat} (h : Valid D) (but : List Int) (hb : but.length ≤ 1000) : Ev (fun k => r7_Truths.f k D.gl D.lo D.hi D.sp D.dr but) (truthsR D but) := by
 unfold r7_Truths.f
 refine Ev.bind (rAll h) ?_
 have := rGo h but hb (allD D) [] (fun t ht => ht) (by have := allD_len h; simp; omega)
 simpa [truthsR] using this
def setIs (D : Dat) (but : List Int) (set : Nat) : Prop := ∀ i, i < D.dr.length → hasB but i = set.testBit i
theorem okT_so {D : Dat} {but : List Int} {set : Nat} (hs : setIs D but set) (t : Tr) : okT D but t = soB D set (fn (V8 t)) := by
 unfold okT soB soTo okI
 rw [Bool.eq_iff_iff, List.all_eq_true, List.all_eq_true]
 constructor
 ·
  intro hh i hi; have := hh i hi; rw [hs i (List.mem_range.1 hi)] at this; exact this
 ·
  intro hh i hi; have := hh i hi; rw [hs i (List.mem_range.1 hi)]; exact this
theorem truths_same {D : Dat} (h : Valid D) {but : List Int} {set : Nat} (hs : setIs D but set) : truthsL D set = ((allD D).filter (okT D but)).map V8 := by
 rw [truthsL_eq h]
 congr 1
 refine List.filter_congr fun t _ => (okT_so hs t).symm
theorem setIs_nil (D : Dat) : setIs D [] 0 := fun i _ => by simp [hasB]
end Go.Proofs.Ytgoidclnccjdeaa.D
end
section
/- Package glass: the reference's known and index. -/
namespace Go.Proofs.Ytgoidclnccjdeaa.D
open Go Go.RowKit Go.Proofs.YtgoidclnccjdeaaK Go.Proofs.YtgoidclnccjdeaaW.PrintWords Go.Proofs.YtgoidclnccjdeaaW.PrintLast Go.Proofs.YtgoidclnccjdeaaW.PrintMore Go.Proofs.Ytgoidclnccjdeaa.PR Go.Proofs.Ytgoidclnccjdeaa.M
set_option linter.unusedVariables false
set_option linter.unusedSimpArgs false

theorem truthsR_len {D : Dat} (h : Valid D) : (truthsR D []).length = (truthsL D 0).length := by
 rw [truths_same h (setIs_nil D), truthsR, List.length_map, List.length_map]
theorem truthsR_at {D : Dat} (h : Valid D) (i : Nat) (hi : i < (truthsL D 0).length) : ∃ t, t ∈ allD D ∧ rd_T56 (truthsR D []) (i : Int) = trU D [] t ∧ (truthsL D 0)[i] = V8 t ∧ okT D [] t = true := by
 have hi' : i < ((allD D).filter (okT D [])).length := by
  rw [truths_same h (setIs_nil D), List.length_map] at hi; exact hi
 refine ⟨((allD D).filter (okT D []))[i], (List.mem_filter.1 (List.getElem_mem hi')).1, ?_, ?_, (List.mem_filter.1 (List.getElem_mem hi')).2⟩
 ·
  simp only [rd_T56, truthsR, Int.toNat_natCast, List.getD_eq_getElem?_getD, List.getElem?_map, List.getElem?_eq_getElem hi', Option.map_some, Option.getD_some]
 ·
  have := truths_same h (setIs_nil D)
  simp only [this, List.getElem_map]
structure Fits (D : Dat) : Prop where
 nm : ∀ x ∈ D.gl, x.f0.size ≤ 9223372036854775807
 g : D.gl.length ≤ 9223372036854775807
 s : D.sp.length ≤ 9223372036854775807
 d : D.dr.length ≤ 9223372036854775807
theorem Arg.fits {w : World} {D : Dat} {A0 : Option Addr} {c0 : Nat} {A3 : Option Addr} {c3 : Nat} {A4 : Option Addr} {c4 : Nat} (h : Arg w D A0 c0 A3 c3 A4 c4) : Fits D := ⟨h.gn, h.g.2.1, h.s.2.1, h.d.2.1⟩
theorem rCheck' {D : Dat} (h : Fits D) : Ev (fun k => r7_Check.f k D.gl D.lo D.hi D.sp D.dr) (checkF D) := rCheck D h.nm h.g h.s h.d
end Go.Proofs.Ytgoidclnccjdeaa.D
end
section
/- Package glass: the reference's Used. -/
namespace Go.Proofs.Ytgoidclnccjdeaa.D
open Go Go.RowKit Go.Proofs.YtgoidclnccjdeaaK Go.Proofs.YtgoidclnccjdeaaW.PrintWords Go.Proofs.YtgoidclnccjdeaaW.PrintLast Go.Proofs.YtgoidclnccjdeaaW.PrintMore Go.Proofs.Ytgoidclnccjdeaa.PR Go.Proofs.Ytgoidclnccjdeaa.M
set_option linter.unusedVariables false
set_option linter.unusedSimpArgs false

theorem hasB_ints (l : List Nat) (g : Nat) : hasB (ints l) g = l.contains g := by
 unfold hasB ints
 rw [List.any_map, Bool.eq_iff_iff]
 simp only [List.any_eq_true, Function.comp, beq_iff_eq, List.contains_iff_mem]
 constructor
 ·
  rintro ⟨x, hx, e⟩
  have : x = g := Int.ofNat.inj e
  exact this ▸ hx
 ·
  intro hg; exact ⟨g, hg, rfl⟩
theorem own_nil (D : Dat) (t : Tr) (i : Nat) : ownL D [] t i = ints (usedL D t (rd_T72 D.dr i)) := by
 unfold ownL; rw [if_neg (by simp [hasB])]
section
variable {D : Dat} (h : Valid D) {d : Nat} (hd : d < D.dr.length)
include h hd
end
end Go.Proofs.Ytgoidclnccjdeaa.D
end
section
/- Package glass: the reference's Sees. -/
namespace Go.Proofs.Ytgoidclnccjdeaa.D
open Go Go.RowKit Go.Proofs.YtgoidclnccjdeaaK Go.Proofs.YtgoidclnccjdeaaW.PrintWords Go.Proofs.YtgoidclnccjdeaaW.PrintLast Go.Proofs.YtgoidclnccjdeaaW.PrintMore Go.Proofs.Ytgoidclnccjdeaa.PR Go.Proofs.Ytgoidclnccjdeaa.M
set_option linter.unusedVariables false
set_option linter.unusedSimpArgs false

theorem mayN_testBit (D : Dat) (g : Nat) (y : Int) (i : Nat) (l : List (List Int)) : (mayN D g y l).testBit i = l.any fun x => (seeL D g y x).testBit i := by
 induction l using list_snoc with
 | h0 => simp [mayN]
 | h1 l x ih => rw [mayN_snoc, Nat.testBit_or, ih, List.any_append]; simp
theorem sureO_testBit (D : Dat) (g : Nat) (y : Int) (i : Nat) (l : List (List Int)) : ∀ a, sureO D g y l = some a → a.testBit i = l.all fun x => (seeL D g y x).testBit i := by
 induction l using list_snoc with
 | h0 => intro a h; simp [sureO] at h
 | h1 l x ih =>
  intro a h
  rw [sureO_snoc] at h
  cases hs : sureO D g y l with
  | none =>
   have hl : l = [] := by
    cases l with
    | nil => rfl
    | cons z t => exact absurd hs (by rw [sureO_some (by simp)]; simp)
   subst hl
   rw [hs] at h
   have := Option.some.inj h
   rw [← this]; simp
  | some b =>
   rw [hs] at h
   have := Option.some.inj h
   rw [← this, Nat.testBit_and, ih b hs, List.all_append]; simp
theorem sureN_testBit {D : Dat} {g : Nat} {y : Int} {i : Nat} {l : List (List Int)} (h : l ≠ []) : (sureN D g y l).testBit i = l.all fun x => (seeL D g y x).testBit i := sureO_testBit D g y i l _ (sureO_some h)
theorem seeL_bit (D : Dat) (g : Nat) (y : Int) (x : List Int) (i : Nat) (hi : i < D.sp.length) : (seeL D g y x).testBit i = seenB (fn x) g y i := by
 unfold seeL; rw [seenTo_testBit]; simp [hi]
section
variable {D : Dat} (h : Valid D) {g : Nat} (hg : g < D.gl.length) {y : Int} (hy : 0 ≤ y ∧ y ≤ 9)
include h hg hy
end
theorem told_all {Q : (Nat → Int) → Bool} {l : List (List Int)} (h : l ≠ []) : (toldF (cntL Q l) l.length = 1 ↔ (l.all fun x => Q (fn x)) = true) ∧ (toldF (cntL Q l) l.length = 2 ↔ (l.any fun x => Q (fn x)) = false) := by
 have hpos := List.length_pos_iff.2 h
 have h1 : cntL Q l = l.length ↔ (l.all fun x => Q (fn x)) = true := by
  unfold cntL; rw [List.countP_eq_length, List.all_eq_true]
 have h2 : cntL Q l = 0 ↔ (l.any fun x => Q (fn x)) = false := by
  unfold cntL; rw [List.countP_eq_zero, List.any_eq_false]
 rw [← h1, ← h2]
 unfold toldF
 constructor
 ·
  constructor
  ·
   intro e; split at e
   ·
    omega
   ·
    split at e <;> cases e
  ·
   intro e; rw [if_pos (by omega)]
 ·
  constructor
  ·
   intro e; split at e
   ·
    cases e
   ·
    split at e
    ·
     omega
    ·
     cases e
  ·
   intro e; rw [if_neg (by omega), if_pos (by omega)]
section
variable {D : Dat} (h : Valid D) {g : Nat} (hg : g < D.gl.length) {y : Int} (hy : 0 ≤ y ∧ y ≤ 9) (hne : truthsL D 0 ≠ [])
include h hg hy hne
end
end Go.Proofs.Ytgoidclnccjdeaa.D
end
section
/- Package independent: the fewest of some things: the sets in order, what a search over all sets names. -/
namespace Go.Proofs.YtgoidclnccjdeaaK
open Go
set_option linter.unusedVariables false
set_option linter.unusedSimpArgs false

def cmpZ : List Int → List Int → Int
 | [], [] => 0
 | [], _ :: _ => -1
 | _ :: _, [] => 1
 | a :: l, b :: m => if (if a < b then (-1 : Int) else if b < a then 1 else 0) = 0 then cmpZ l m else (if a < b then -1 else if b < a then 1 else 0)
abbrev natZ (l : List Nat) : List Int := l.map Int.ofNat
def bitsL (set n : Nat) : List Nat := (List.range n).filter fun i => set.testBit i
def wStep (m : Nat) (P : Nat → Bool) (set : Nat) (s : Option (List Nat)) : Option (List Nat) :=
 if (match s with | some b => decide (b.length < (bitsL set m).length) || ((bitsL set m).length == b.length && decide (0 < cmpZ (natZ (bitsL set m)) (natZ b))) | none => false) = true then s
 else if P set = true then some (bitsL set m) else s
def wTo (m : Nat) (P : Nat → Bool) (k : Nat) : Option (List Nat) := (List.range k).foldl (fun s set => wStep m P set s) none
end Go.Proofs.YtgoidclnccjdeaaK
end
section
/- Package glass: the reference's two, Part and Wrong. -/
namespace Go.Proofs.Ytgoidclnccjdeaa.D
open Go Go.RowKit Go.Proofs.YtgoidclnccjdeaaK Go.Proofs.YtgoidclnccjdeaaW.PrintWords Go.Proofs.YtgoidclnccjdeaaW.PrintLast Go.Proofs.YtgoidclnccjdeaaW.PrintMore Go.Proofs.Ytgoidclnccjdeaa.PR Go.Proofs.Ytgoidclnccjdeaa.M
set_option linter.unusedVariables false
set_option linter.unusedSimpArgs false

theorem partB_eq {D : Dat} {a b : Nat} (ha : a < D.sp.length) (hb : b < D.sp.length) {y : Int} (hne : truthsL D 0 ≠ []) (g : Nat) : partB D a b y g = (((truthsL D 0).all fun x => seenB (fn x) g y a) && !((truthsL D 0).any fun x => seenB (fn x) g y b)) := by
 unfold partB
 rw [sureN_testBit hne, mayN_testBit]
 congr 1
 ·
  congr 1; funext x; exact seeL_bit D g y x a ha
 ·
  congr 2; funext x; exact seeL_bit D g y x b hb
section
variable {D : Dat} (h : Valid D) {a b : Nat} (ha : a < D.sp.length) (hb : b < D.sp.length) {y : Int} (hy : 0 ≤ y ∧ y ≤ 9) (hne : truthsL D 0 ≠ [])
include h ha hb hy hne
end
def someT (D : Dat) (set : Nat) : Bool := !(truthsL D set).isEmpty
section
variable {D : Dat} (h : Valid D) {res : List Nat} (hres : wTo D.dr.length (someT D) (2 ^ D.dr.length) = some res)
include h hres
end
end Go.Proofs.Ytgoidclnccjdeaa.D
end
section
/- Package glass: what the outright laws need of the program's answers. -/
namespace Go.Proofs.Ytgoidclnccjdeaa.D
open Go Go.RowKit Go.Proofs.YtgoidclnccjdeaaK Go.Proofs.YtgoidclnccjdeaaW.PrintWords Go.Proofs.YtgoidclnccjdeaaW.PrintLast Go.Proofs.YtgoidclnccjdeaaW.PrintMore Go.Proofs.Ytgoidclnccjdeaa.PR Go.Proofs.Ytgoidclnccjdeaa.M
set_option linter.unusedVariables false
set_option linter.unusedSimpArgs false

def someB (D : Dat) : Bool := (checkF D).2.2 == 0 && someT D 0
theorem rValid {D : Dat} (h : Fits D) : Ev (fun k => helioscopelaw07_valid.f k D.gl D.lo D.hi D.sp D.dr) ((checkF D).2.2 == 0) := by
 unfold helioscopelaw07_valid.f
 exact Ev.bind (rCheck' h) (Ev.now _)
theorem rSome {D : Dat} (h : Fits D) : Ev (fun k => helioscopelaw07_some.f k D.gl D.lo D.hi D.sp D.dr) (someB D) := by
 unfold helioscopelaw07_some.f someB
 refine Ev.bind (rValid h) ?_
 by_cases hc : (checkF D).2.2 = 0
 ·
  have hb : ((checkF D).2.2 == 0) = true := by simpa using hc
  have hV := (check_valid hc).1
  simp only [hb, if_true, Bool.true_and]
  refine Ev.bind (rTruths hV [] (by simp)) ?_
  have e : decide (((truthsR D []).length : Int) > 0) = someT D 0 := by
   rw [truthsR_len hV]
   unfold someT
   cases truthsL D 0 <;> simp <;> omega
  rw [e]
  exact Ev.now _
 ·
  have hb : ((checkF D).2.2 == 0) = false := by simpa using hc
  simp only [hb, Bool.false_eq_true, if_false, Bool.false_and]
  exact Ev.now _
theorem some_no {D : Dat} (h : someB D = false) (l : List (Bool × Int)) : enterE D l ≠ 0 := by
 intro he
 have h1 := enterE_ok he
 unfold someB someT at h
 rw [h1.2.1] at h
 cases ht : truthsL D 0 with
 | nil => exact h1.2.2.2 ht
 | cons a l => rw [ht] at h; simp at h
theorem some_yes {D : Dat} (h : someB D = true) : (checkF D).2.2 = 0 ∧ Valid D ∧ truthsL D 0 ≠ [] := by
 unfold someB someT at h
 rw [Bool.and_eq_true] at h
 have hc : (checkF D).2.2 = 0 := by simpa using h.1
 exact ⟨hc, (check_valid hc).1, fun e => by rw [e] at h; simp at h⟩
theorem enter_yes {D : Dat} (h : someB D = true) {l : List (Bool × Int)} (ha : askE l = 0) : enterE D l = 0 := by
 obtain ⟨h1, _, h3⟩ := some_yes h
 unfold enterE
 rw [if_neg (fun x => x h1), if_neg (fun x => x ha), if_neg (by rw [List.isEmpty_iff]; exact h3)]
theorem ask_one {n : Nat} {k : Nat} (h : k < n) : amongB n [(k : Int)] = true := by
 unfold amongB
 rw [(outB_cons 0 ((n : Int) - 1) k []).2 ⟨⟨by omega, by omega⟩, rfl⟩]; rfl
theorem ask_pair {n : Nat} {a b : Nat} (h : a < n) (h' : b < n) : amongB n [(a : Int), (b : Int)] = true := by
 unfold amongB
 rw [(outB_cons 0 ((n : Int) - 1) a _).2 ⟨⟨by omega, by omega⟩, (outB_cons 0 ((n : Int) - 1) b []).2 ⟨⟨by omega, by omega⟩, rfl⟩⟩]; rfl
theorem ask_year {y : Nat} (h : y ≤ 9) : datedB (y : Int) = true := by
 unfold datedB
 rw [(outB_cons 0 9 (y : Int) []).2 ⟨⟨by omega, by omega⟩, rfl⟩]; rfl
theorem ask_sees {D : Dat} {g y : Nat} (hg : g < D.gl.length) (hy : y ≤ 9) : askE (askSees D (g : Int) (y : Int)) = 0 := by
 unfold askSees; simp [askE, ask_one hg, ask_year hy]
theorem ask_two {D : Dat} {a b : Nat} (ha : a < D.sp.length) (hb : b < D.sp.length) (h : a ≠ b) : askE (askTwo D (a : Int) (b : Int)) = 0 := by
 unfold askTwo; simp [askE, ask_pair ha hb]; omega
theorem ask_part {D : Dat} {a b y : Nat} (ha : a < D.sp.length) (hb : b < D.sp.length) (h : a ≠ b) (hy : y ≤ 9) : askE (askPart D (a : Int) (b : Int) (y : Int)) = 0 := by
 unfold askPart; simp [askE, ask_pair ha hb, ask_year hy]; omega
def sureP (D : Dat) (g : Nat) (y : Int) (s : Nat) : Bool := (truthsL D 0).all fun x => seenB (fn x) g y s
def mayP (D : Dat) (g : Nat) (y : Int) (s : Nat) : Bool := (truthsL D 0).any fun x => seenB (fn x) g y s
def sureL (D : Dat) (g : Nat) (y : Int) : List Nat := (List.range D.sp.length).filter (sureP D g y)
def mayL (D : Dat) (g : Nat) (y : Int) : List Nat := (List.range D.sp.length).filter (mayP D g y)
theorem seesF_eq {D : Dat} {g : Nat} {y : Int} (he : enterE D (askSees D g y) = 0) : seesF D g y = (sureL D g y, mayL D g y) := by
 have hne := (enterE_ok he).2.2.2
 unfold seesF sureL mayL
 rw [if_pos he, Int.toNat_natCast]
 congr 1
 ·
  refine List.filter_congr fun s hs => ?_
  show (!!(sureN D g y (truthsL D 0)).testBit s) = _
  rw [Bool.not_not, sureN_testBit hne]
  unfold sureP
  congr 1; funext x
  exact seeL_bit D g y x s (List.mem_range.1 hs)
 ·
  refine List.filter_congr fun s hs => ?_
  show (!!(mayN D g y (truthsL D 0)).testBit s) = _
  rw [Bool.not_not, mayN_testBit]
  unfold mayP
  congr 1; funext x
  exact seeL_bit D g y x s (List.mem_range.1 hs)
theorem rd_ints (l : List Nat) (i : Nat) (h : i < l.length) : rd (ints l) (i : Int) = (l[i] : Int) := by
 simp [rd, ints, List.getD_eq_getElem?_getD, List.getElem?_map, List.getElem?_eq_getElem h]
theorem has_filter {n : Nat} {P : Nat → Bool} {s : Nat} (h : s < n) : hasB (ints ((List.range n).filter P)) s = P s := by
 rw [hasB_ints, Bool.eq_iff_iff, List.contains_iff_mem, List.mem_filter, List.mem_range]
 exact ⟨fun x => x.2, fun x => ⟨h, x⟩⟩
theorem filter_len (n : Nat) (P : Nat → Bool) : ((List.range n).filter P).length ≤ n := Nat.le_trans (List.length_filter_le _ _) (by simp)
def upB (m : Nat) (l : List Int) : Bool := (List.range l.length).all fun i => decide (0 ≤ rd l (i : Int)) && decide (rd l (i : Int) ≤ (m : Int) - 1) && (i == 0 || decide (rd l ((i : Int) - 1) < rd l (i : Int)))
theorem up_filter (m : Nat) (P : Nat → Bool) : upB m (ints ((List.range m).filter P)) = true := by
 unfold upB
 rw [List.all_eq_true]
 intro i hi
 have hl : (ints ((List.range m).filter P)).length = ((List.range m).filter P).length := by simp [ints]
 rw [hl] at hi
 have hlt := List.mem_range.1 hi
 have hm := List.mem_range.1 (List.mem_filter.1 (List.getElem_mem hlt)).1
 rw [rd_ints _ i hlt]
 have h1 : decide ((0 : Int) ≤ ((List.range m).filter P)[i]) = true := decide_eq_true (by omega)
 have h2 : decide ((((List.range m).filter P)[i] : Int) ≤ (m : Int) - 1) = true := decide_eq_true (by omega)
 rw [h1, h2, Bool.true_and, Bool.true_and, Bool.or_eq_true]
 by_cases h0 : i = 0
 ·
  left; simpa using h0
 ·
  right
  have hp : ((List.range m).filter P).Pairwise (· < ·) := List.pairwise_lt_range.filter _
  have := List.pairwise_iff_getElem.1 hp (i - 1) i (by omega) hlt (by omega)
  rw [show (i : Int) - 1 = ((i - 1 : Nat) : Int) by omega, rd_ints _ (i - 1) (by omega)]
  exact decide_eq_true (by omega)
end Go.Proofs.Ytgoidclnccjdeaa.D
end
section
/- Package glass: Rising, which the laws ask of lists. -/
namespace Go.Proofs.Ytgoidclnccjdeaa.D
open Go Go.RowKit Go.Proofs.YtgoidclnccjdeaaK Go.Proofs.YtgoidclnccjdeaaW.PrintWords Go.Proofs.YtgoidclnccjdeaaW.PrintLast Go.Proofs.YtgoidclnccjdeaaW.PrintMore Go.Proofs.Ytgoidclnccjdeaa.PR Go.Proofs.Ytgoidclnccjdeaa.M
set_option linter.unusedVariables false
set_option linter.unusedSimpArgs false

theorem wrapI {x : Int} (h1 : -9223372036854775808 ≤ x) (h2 : x ≤ 9223372036854775807) : IntKind.i64.wrap x = x := by rw [i64_w]; unfold wrap64; omega
theorem upB_at {m : Nat} {l : List Int} (h : upB m l = true) (i : Nat) (hi : i < l.length) : 0 ≤ rd l (i : Int) ∧ rd l (i : Int) ≤ (m : Int) - 1 ∧ (i ≠ 0 → rd l ((i : Int) - 1) < rd l (i : Int)) := by
 have := List.all_eq_true.1 h i (List.mem_range.2 hi)
 simp only [Bool.and_eq_true, decide_eq_true_eq, Bool.or_eq_true, beq_iff_eq] at this
 exact ⟨this.1.1, this.1.2, fun h => this.2.resolve_left h⟩
theorem In_true (a lo hi : Int) (w : World) (h1 : decide (lo ≤ a) = true) (h2 : decide (a ≤ hi) = true) : Calls Try.prog 85 #[.int .i64 a, .int .i64 lo, .int .i64 hi] w fun e w' => e = .returned (.bool true) ∧ w' = w := by
 go_enter Try.func85, Try.ntmps85
 go_wp2
 go_ret
 exact ⟨rfl, rfl⟩
set_option maxHeartbeats 1000000 in
theorem Rising_calls (l : List Int) (A : Option Addr) (c m : Nat) (w : World) (hm : m ≤ 4) (hl : l.length ≤ 4) (hr : Kd.C (Kd.int .i64) w A l.length l) (hu : upB m l = true) :
  Calls Try.prog 46 #[.slice A l.length c, .int .i64 m] w fun e w' => e = .returned (.bool true) ∧ Below w.heap.size w w' := by
 have HU := Aside0.mk hu
 have HR := Aside0.mk hr
 clear hu hr
 go_enter Try.func46, Try.ntmps46
 go_wp2
 go_loopw [5] (fun j wr => ∃ k : Nat, k ≤ l.length ∧ j = .int .i64 k ∧ Aside0 (Below w.heap.size w wr)) (fun j _ => l.length - (intOf j).toNat)
 case atStart => exact ⟨0, Nat.zero_le _, rfl, ⟨Below.refl _ _⟩⟩
 case round =>
  obtain ⟨k, hk, rfl, HB⟩ := hrel
  by_cases hlt : k < l.length
  ·
   obtain ⟨ad, e, hx⟩ := Kd.at_int (Kd.C_below HR.out HB.out) (k : Int) (by omega) (by omega)
   subst e
   rw [Int.toNat_natCast] at hx
   obtain ⟨u1, u2, u3⟩ := upB_at HU.out k hlt
   have HIN : Aside0 (decide (0 ≤ rd l (k : Int)) = true ∧ decide (rd l (k : Int) ≤ (m : Int) - 1) = true) := ⟨decide_eq_true u1, decide_eq_true u2⟩
   have hw1 : IntKind.i64.wrap ((m : Int) - 1) = (m : Int) - 1 := wrapI (by omega) (by omega)
   clear u1 u2
   have p1 : (0 ≤ (k : Int)) = True := eq_true (by omega)
   have q1 : ((k : Int) < (l.length : Int)) = True := eq_true (by omega)
   have c1 : decide (0 ≤ (k : Int)) = true := decide_eq_true (by omega)
   have c2 : decide ((k : Int) < (l.length : Int)) = true := decide_eq_true (by omega)
   by_cases h0 : k = 0
   ·
    have hk3 : decide (0 < (k : Int)) = false := decide_eq_false (by omega)
    have hk4 : decide (0 < k) = false := decide_eq_false (by omega)
    have H0 := Aside0.mk h0
    clear h0 u3
    go_wp2_with fail
    go_quiet ((go_at_call 85; exact Calls.quiet_of_same (In_true _ _ _ _ HIN.out.1 HIN.out.2)))
    go_wp2
    go_roundw
    case rel => exact ⟨k + 1, by omega, by go_num, ⟨pw_below_drewN HB.out _⟩⟩
    case measure => simp [intOf]; omega
   ·
    have hk3 : decide (0 < (k : Int)) = true := decide_eq_true (by omega)
    have hk4 : decide (0 < k) = true := decide_eq_true (by omega)
    obtain ⟨y, hy⟩ : ∃ y : Int, (k : Int) - 1 = y := ⟨_, rfl⟩
    have hw2 : IntKind.i64.wrap ((k : Int) - 1) = y := by rw [wrapI (by omega) (by omega)]; exact hy
    obtain ⟨ad2, e2, hx2⟩ := Kd.at_int (Kd.C_below HR.out HB.out) y (by omega) (by omega)
    cases e2
    have hlt2 : decide (rd l (k : Int) ≤ rd l y) = false := decide_eq_false (by have := u3 h0; rw [hy] at this; omega)
    have p2 : (0 ≤ y) = True := eq_true (by omega)
    have q2 : (y < (l.length : Int)) = True := eq_true (by omega)
    have c3 : decide (0 ≤ y) = true := decide_eq_true (by omega)
    have c4 : decide (y < (l.length : Int)) = true := decide_eq_true (by omega)
    have HY := Aside0.mk hy
    have H0 := Aside0.mk h0
    clear u3 hy h0
    go_wp2_with fail
    go_quiet ((go_at_call 85; exact Calls.quiet_of_same (In_true _ _ _ _ HIN.out.1 HIN.out.2)))
    go_wp2
    go_roundw
    case rel => exact ⟨k + 1, by omega, by go_num, ⟨pw_below_drewN HB.out _⟩⟩
    case measure => simp [intOf]; omega
  ·
   obtain rfl : k = l.length := by omega
   go_wp2
   go_ret
   exact ⟨rfl, HB.out⟩
end Go.Proofs.Ytgoidclnccjdeaa.D
end
section
/- Package glass: small facts for the walks through outright laws. -/
namespace Go.Proofs.Ytgoidclnccjdeaa.D
open Go Go.RowKit Go.Proofs.YtgoidclnccjdeaaK Go.Proofs.YtgoidclnccjdeaaW.PrintWords Go.Proofs.YtgoidclnccjdeaaW.PrintLast Go.Proofs.YtgoidclnccjdeaaW.PrintMore Go.Proofs.Ytgoidclnccjdeaa.PR Go.Proofs.Ytgoidclnccjdeaa.M
set_option linter.unusedVariables false

theorem tmodN (u m : Int) (hu : 0 ≤ u) (hm : 0 < m) : ∃ a : Nat, (a : Int) < m ∧ u.tmod m = (a : Int) := by
 refine ⟨(u % m).toNat, ?_, ?_⟩
 ·
  have h1 := Int.emod_lt_of_pos u hm
  have h2 := Int.emod_nonneg u (show m ≠ 0 by omega)
  omega
 ·
  have h2 := Int.emod_nonneg u (show m ≠ 0 by omega)
  rw [Int.tmod_eq_emod_of_nonneg hu]
  omega
theorem NewRow.rowI {w : World} {n0 : Nat} {v : Value} {l : List Nat} (h : NewRow w n0 v l) : ∃ A c, v = .slice A (ints l).length c ∧ (ints l).length ≤ c ∧ (ints l).length ≤ 50 ∧ Kd.C (Kd.int .i64) w A (ints l).length (ints l) := by
 have el : (ints l).length = l.length := List.length_map ..
 rw [el]
 rcases h with ⟨rfl, rfl⟩ | ⟨g, L, n, rfl, h2, h3, h4, h5, h6⟩
 ·
  exact ⟨none, 0, rfl, Nat.le_refl _, by simp, rfl, by simp, fun h => absurd h (by simp)⟩
 ·
  have hle : l.length ≤ L.length := by
   have := congrArg List.length h6
   simp at this; omega
  refine ⟨_, n, rfl, by omega, by omega, ?_⟩
  have := h3.read l.length hle (by omega)
  rw [h6] at this
  exact this
end Go.Proofs.Ytgoidclnccjdeaa.D
end
section
/- Package glass: through which glasses one spot is told from another one. -/
namespace Go.Proofs.Ytgoidclnccjdeaa.D
open Go Go.RowKit Go.Proofs.YtgoidclnccjdeaaK Go.Proofs.YtgoidclnccjdeaaW.PrintWords Go.Proofs.YtgoidclnccjdeaaW.PrintLast Go.Proofs.YtgoidclnccjdeaaW.PrintMore Go.Proofs.Ytgoidclnccjdeaa.PR Go.Proofs.Ytgoidclnccjdeaa.M
set_option linter.unusedVariables false
set_option linter.unusedSimpArgs false

theorem w64 {x : Int} (h0 : -9223372036854775808 ≤ x) (h1 : x ≤ 9223372036854775807) : wrap64 x = x := by unfold wrap64; omega
theorem emodN (u m : Int) (hm : 0 < m) : ∃ a : Nat, (a : Int) < m ∧ u % m = (a : Int) := by
 have h1 := Int.emod_lt_of_pos u hm
 have h2 := Int.emod_nonneg u (show m ≠ 0 by omega)
 exact ⟨(u % m).toNat, by omega, by omega⟩
def tellP (a b : Nat) (y : Int) (g : Nat) (x : List Int) : Bool := seenB (fn x) g y a && !seenB (fn x) g y b
def partL (D : Dat) (a b : Nat) (y : Int) : List Nat := (List.range D.gl.length).filter fun g => sureP D g y a && !mayP D g y b
theorem partF_eq {D : Dat} {a b : Nat} {y : Int} (he : enterE D (askPart D (a : Int) (b : Int) y) = 0) (ha : a < D.sp.length) (hb : b < D.sp.length) : partF D (a : Int) (b : Int) y = partL D a b y := by
 unfold partF partL
 rw [if_pos he, Int.toNat_natCast, Int.toNat_natCast]
 exact List.filter_congr fun g hg => partB_eq ha hb (enterE_ok he).2.2.2 g
theorem tell_all (D : Dat) (a b : Nat) (y : Int) (g : Nat) : ((truthsL D 0).all (tellP a b y g)) = (sureP D g y a && !mayP D g y b) := by
 unfold sureP mayP tellP
 induction truthsL D 0 with
 | nil => rfl
 | cons x l ih =>
  simp only [List.all_cons, List.any_cons, ih]
  cases seenB (fn x) g y a <;> cases seenB (fn x) g y b <;> cases (l.all fun x => seenB (fn x) g y a) <;> cases (l.any fun x => seenB (fn x) g y b) <;> rfl
theorem part_larger {D : Dat} {a b : Nat} {y : Int} (he : enterE D (askTwo D (a : Int) (b : Int)) = 0) (h : 0 < (partL D a b y).length) : largerF D (a : Int) (b : Int) = 1 := by
 obtain ⟨g, hg⟩ := List.exists_mem_of_length_pos h
 have := (List.mem_filter.1 hg).2
 rw [← tell_all, List.all_eq_true] at this
 unfold largerF
 rw [if_pos he, Int.toNat_natCast, Int.toNat_natCast]
 refine ((told_all (Q := largerQ a b) (enterE_ok he).2.2.2).1).2 ?_
 rw [List.all_eq_true]
 intro x hx
 have h2 := this x hx
 unfold tellP seenB at h2
 unfold largerQ
 rw [Bool.and_eq_true, decide_eq_true_eq, Bool.not_eq_true', decide_eq_false_iff_not] at h2
 rw [decide_eq_true_eq]
 omega
theorem part_none {D : Dat} (h : someB D = false ∨ D.sp.length < 2) : enterE D (askPart D 0 1 0) ≠ 0 := by
 rcases h with h | h
 ·
  exact some_no h _
 ·
  intro he
  have := askPart_ok (enterE_ok he).2.2.1
  omega
end Go.Proofs.Ytgoidclnccjdeaa.D
end
section
/- Package glass: the reference's Size, Least, Dull. -/
namespace Go.Proofs.Ytgoidclnccjdeaa.D
open Go Go.RowKit Go.Proofs.YtgoidclnccjdeaaK Go.Proofs.YtgoidclnccjdeaaW.PrintWords Go.Proofs.YtgoidclnccjdeaaW.PrintLast Go.Proofs.YtgoidclnccjdeaaW.PrintMore Go.Proofs.Ytgoidclnccjdeaa.PR Go.Proofs.Ytgoidclnccjdeaa.M
set_option linter.unusedVariables false
set_option linter.unusedSimpArgs false
attribute [local go_sem] Oper.semAt_some

theorem cell_bl {w w' : World} {a : Addr} {v : Value} (h : w.cell? a = some v) (hb : Below w.heap.size w w') : w'.cell? a = some v := (Chg.of_below hb).cell h (fun hx => Nat.lt_irrefl _ (Nat.lt_of_lt_of_le (World.block_lt_of_cell? _ _ h) hx))
end Go.Proofs.Ytgoidclnccjdeaa.D
end
section
/- Package glass: GlassPart. -/
namespace Go.Proofs.Ytgoidclnccjdeaa.D
open Go Go.RowKit Go.Proofs.YtgoidclnccjdeaaK Go.Proofs.YtgoidclnccjdeaaW.PrintWords Go.Proofs.YtgoidclnccjdeaaW.PrintLast Go.Proofs.YtgoidclnccjdeaaW.PrintMore Go.Proofs.Ytgoidclnccjdeaa.PR Go.Proofs.Ytgoidclnccjdeaa.M
set_option linter.unusedVariables false
set_option linter.unusedSimpArgs false

set_option maxRecDepth 100000 in
set_option maxHeartbeats 4000000 in
theorem GlassPart_calls (D : Dat) (A0 : Option Addr) (c0 : Nat) (A3 : Option Addr) (c3 : Nat) (A4 : Option Addr) (c4 : Nat) (x0 x1 x2 : Int) (w : World) (h : Arg w D A0 c0 A3 c3 A4 c4) (hx0 : 0 ≤ x0 ∧ x0 ≤ 255) (hx1 : 0 ≤ x1 ∧ x1 ≤ 255) (hx2 : 0 ≤ x2 ∧ x2 ≤ 255) :
  Calls Try.prog 13 #[.agg (D.cells A0 c0 A3 c3 A4 c4), .agg #[.int .u8 x0, .int .u8 x1, .int .u8 x2]] w
   fun e w' => e = .returned (.bool true) ∧ Below w.heap.size w w' := by
 have HS := Aside0.mk (blk_alloc (blk_new w (.cells (D.cells A0 c0 A3 c3 A4 c4) 28)) (.cells #[.int .u8 x0, .int .u8 x1, .int .u8 x2] 64))
 have HX := Aside0.mk (new_at (W := (w.alloc (.cells (D.cells A0 c0 A3 c3 A4 c4) 28))) (n := w.heap.size + 1) (by simp) (.cells #[.int .u8 x0, .int .u8 x1, .int .u8 x2] 64))
 have HB := Aside0.mk (below_alloc (below_alloc (Below.refl w.heap.size w) (.cells (D.cells A0 c0 A3 c3 A4 c4) 28)) (.cells #[.int .u8 x0, .int .u8 x1, .int .u8 x2] 64))
 have HA := Aside0.mk h
 have HBD := Aside0.mk (And.intro hx0 (And.intro hx1 hx2))
 clear hx0 hx1 hx2
 have HLS := Aside0.mk h.fits.s
 obtain ⟨K1, hK1⟩ := (rSome h.fits).rounds
 clear h
 obtain ⟨q, hq⟩ : ∃ q, w.heap.size = q := ⟨_, rfl⟩
 obtain ⟨sb, hsb⟩ : ∃ z, someB D = z := ⟨_, rfl⟩
 try rw [hsb] at hK1
 have Esb := Aside0.mk hsb
 have HK1 := Aside0.mk hK1
 clear hsb hK1
 go_enter Try.func13, Try.ntmps13
 go_upto_region 1 with (fail)
 generalize (w.alloc (.cells (D.cells A0 c0 A3 c3 A4 c4) 28)).alloc (.cells #[.int .u8 x0, .int .u8 x1, .int .u8 x2] 64) = w1 at HS HX HB ⊢
 rw [hq] at HS HX
 try rw [hq]
 have k0 := (blk_cell HS.out 0).trans rfl
 have k1 := (blk_cell HS.out 1).trans rfl
 have k2 := (blk_cell HS.out 2).trans rfl
 have k3 := (blk_cell HS.out 3).trans rfl
 have k4 := (blk_cell HS.out 4).trans rfl
 have kl := blk_lt HS.out
 have y0 := (blk_cell HX.out 0).trans rfl
 have y1 := (blk_cell HX.out 1).trans rfl
 have y2 := (blk_cell HX.out 2).trans rfl
 have yl := blk_lt HX.out
 go_wp2_with fail
 clear k0 k1 k2 k3 k4 kl y0 y1 y2 yl
 have hA := HA.out.below HB.out
 refine (helioscopelaw07_some.calls K1 A0 c0 D.gl D.lo D.hi A3 c3 D.sp A4 c4 D.dr _ w1 hA.g hA.gc hA.s hA.sc hA.d hA.dc HK1.out).mono ?_
 clear hA
 rintro e w2 ⟨rfl, hb⟩
 replace HB := Aside0.mk (HB.out.trans (hb.mono HB.out.size))
 replace HS := Aside0.mk (blk_below HS.out hb)
 replace HX := Aside0.mk (blk_below HX.out hb)
 clear hb HK1
 have hls := HLS.out
 by_cases hfew : sb = false ∨ D.sp.length < 2
 ·
  have he := part_none (D := D) (hfew.imp (fun h => Esb.out.trans h) id)
  obtain ⟨en, hen⟩ : ∃ en, enterE D (askPart D 0 1 0) = en := ⟨_, rfl⟩
  rw [hen] at he
  obtain ⟨s, hs⟩ : ∃ s, partF D 0 1 0 = s := ⟨_, rfl⟩
  have Een := Aside0.mk hen
  have Es := Aside0.mk hs
  clear hen hs
  have hz : (en != 0) = true := by simpa using he
  have hz2 : (en == 0) = false := by simpa using he
  clear he
  have hsb : sb = false ∨ (sb = true ∧ (D.sp.length : Int) < 2) := by cases sb; exact .inl rfl; exact .inr ⟨rfl, by rcases hfew with h | h; cases h; omega⟩
  clear hfew
  rcases hsb with rfl | ⟨rfl, h2⟩
  ·
   skip
   have k0 := (blk_cell HS.out 0).trans rfl
   have k1 := (blk_cell HS.out 1).trans rfl
   have k2 := (blk_cell HS.out 2).trans rfl
   have k3 := (blk_cell HS.out 3).trans rfl
   have k4 := (blk_cell HS.out 4).trans rfl
   have kl := blk_lt HS.out
   have y0 := (blk_cell HX.out 0).trans rfl
   have y1 := (blk_cell HX.out 1).trans rfl
   have y2 := (blk_cell HX.out 2).trans rfl
   have yl := blk_lt HX.out
   go_wp2_with fail
   clear k0 k1 k2 k3 k4 kl y0 y1 y2 yl
   have hA := HA.out.below HB.out
   refine (Part_calls D A0 c0 A3 c3 A4 c4 0 1 0 w2 hA).mono ?_
   clear hA
   rw [Een.out, Es.out]
   rintro e w3 ⟨⟨v, rfl, hn, hl3⟩, hb⟩
   obtain ⟨Au, cu, rfl, _⟩ := Row.lit hn (by omega)
   clear hn hl3
   replace HB := Aside0.mk (HB.out.trans (hb.mono HB.out.size))
   replace HS := Aside0.mk (blk_below HS.out hb)
   replace HX := Aside0.mk (blk_below HX.out hb)
   clear hb
   go_wp2_with fail
   refine (Awake_calls _).mono ?_
   rintro e wA ⟨rfl, hb⟩
   replace HB := Aside0.mk (HB.out.trans (hb.mono HB.out.size))
   clear hb
   go_wp2
   go_ret
   exact ⟨rfl, by first | exact HB.out | (rw [← hq]; exact HB.out)⟩
  ·
   skip
   have k0 := (blk_cell HS.out 0).trans rfl
   have k1 := (blk_cell HS.out 1).trans rfl
   have k2 := (blk_cell HS.out 2).trans rfl
   have k3 := (blk_cell HS.out 3).trans rfl
   have k4 := (blk_cell HS.out 4).trans rfl
   have kl := blk_lt HS.out
   have y0 := (blk_cell HX.out 0).trans rfl
   have y1 := (blk_cell HX.out 1).trans rfl
   have y2 := (blk_cell HX.out 2).trans rfl
   have yl := blk_lt HX.out
   go_wp2_with fail
   clear k0 k1 k2 k3 k4 kl y0 y1 y2 yl
   have hA := HA.out.below HB.out
   refine (Part_calls D A0 c0 A3 c3 A4 c4 0 1 0 w2 hA).mono ?_
   clear hA
   rw [Een.out, Es.out]
   rintro e w3 ⟨⟨v, rfl, hn, hl3⟩, hb⟩
   obtain ⟨Au, cu, rfl, _⟩ := Row.lit hn (by omega)
   clear hn hl3
   replace HB := Aside0.mk (HB.out.trans (hb.mono HB.out.size))
   replace HS := Aside0.mk (blk_below HS.out hb)
   replace HX := Aside0.mk (blk_below HX.out hb)
   clear hb
   go_wp2_with fail
   refine (Awake_calls _).mono ?_
   rintro e wA ⟨rfl, hb⟩
   replace HB := Aside0.mk (HB.out.trans (hb.mono HB.out.size))
   clear hb
   go_wp2
   go_ret
   exact ⟨rfl, by first | exact HB.out | (rw [← hq]; exact HB.out)⟩
 ·
  have hsb : sb = true := by cases sb; exact absurd (.inl rfl) hfew; rfl
  subst hsb
  have h2 : 2 ≤ D.sp.length := by omega
  have h2' : ¬ (D.sp.length : Int) < 2 := by omega
  clear hfew
  have HSB := Aside0.mk Esb.out
  have HV := Aside0.mk (some_yes Esb.out).2.1
  have hg1 := HV.out.g1
  have hg3 := HV.out.g3
  have hs4 := HV.out.s4
  clear hls
  obtain ⟨a, ha', ea⟩ := emodN x0 (D.sp.length : Int) (by omega)
  obtain ⟨c, hc', ec⟩ := emodN x1 ((D.sp.length : Int) - 1) (by omega)
  obtain ⟨b, hb', eb⟩ := tmodN ((a : Int) + 1 + (c : Int)) (D.sp.length : Int) (by omega) (by omega)
  obtain ⟨yr, hyr, ey⟩ := emodN x2 10 (by omega)
  have hab : a ≠ b := by
   intro e
   subst e
   rw [Int.tmod_eq_emod_of_nonneg (by omega)] at eb
   have h5 := Int.emod_add_mul_ediv ((a : Int) + 1 + (c : Int)) (D.sp.length : Int)
   rw [eb] at h5
   have h6 : (D.sp.length : Int) * (((a : Int) + 1 + (c : Int)) / (D.sp.length : Int)) = 1 + (c : Int) := by omega
   have h7 : 0 < 1 + (c : Int) ∧ 1 + (c : Int) < (D.sp.length : Int) := by omega
   generalize ((a : Int) + 1 + (c : Int)) / (D.sp.length : Int) = z at h6
   rcases Int.lt_trichotomy z 0 with hz | hz | hz
   ·
    have := Int.mul_le_mul_of_nonneg_left (show z ≤ -1 by omega) (show 0 ≤ (D.sp.length : Int) by omega); omega
   ·
    subst hz; omega
   ·
    have := Int.mul_le_mul_of_nonneg_left (show 1 ≤ z by omega) (show 0 ≤ (D.sp.length : Int) by omega); omega
  have hw0 : IntKind.i64.wrap x0 = x0 := wrapI (by have := HBD.out; omega) (by have := HBD.out; omega)
  have hw1 : IntKind.i64.wrap x1 = x1 := wrapI (by have := HBD.out; omega) (by have := HBD.out; omega)
  have hw2 : IntKind.i64.wrap x2 = x2 := wrapI (by have := HBD.out; omega) (by have := HBD.out; omega)
  have hnz : ¬ ((D.sp.length : Int) = 0) := by omega
  have hnz1 : ((D.sp.length : Int) == 0) = false := beq_eq_false_iff_ne.2 hnz
  have hnz2 : ¬ (D.sp.length = 0) := by omega
  have hnz3 : ¬ ((D.sp.length : Int) - 1 = 0) := by omega
  have hnz4 : ((D.sp.length : Int) - 1 == 0) = false := beq_eq_false_iff_ne.2 hnz3
  have hxx0 : 0 ≤ x0 := HBD.out.1.1
  have hxx1 : 0 ≤ x1 := HBD.out.2.1.1
  have hxx2 : 0 ≤ x2 := HBD.out.2.2.1
  have EA := Aside0.mk ea
  have EB := Aside0.mk eb
  have EC := Aside0.mk ec
  have EY := Aside0.mk ey
  clear ea eb ec ey
  have k0 := (blk_cell HS.out 0).trans rfl
  have k1 := (blk_cell HS.out 1).trans rfl
  have k2 := (blk_cell HS.out 2).trans rfl
  have k3 := (blk_cell HS.out 3).trans rfl
  have k4 := (blk_cell HS.out 4).trans rfl
  have kl := blk_lt HS.out
  have y0 := (blk_cell HX.out 0).trans rfl
  have y1 := (blk_cell HX.out 1).trans rfl
  have y2 := (blk_cell HX.out 2).trans rfl
  have yl := blk_lt HX.out
  go_upto_region 8 with (fail)
  clear k0 k1 k2 k3 k4 kl y0 y1 y2 yl
  rw [EA.out, EC.out, EY.out]
  rw [w64 (x := (a : Int) + 1) (by omega) (by omega), w64 (x := (a : Int) + 1 + (c : Int)) (by omega) (by omega)]
  rw [EB.out]
  have HY9 := Aside0.mk hyr
  have ha : a < D.sp.length := by omega
  have hbl : b < D.sp.length := by omega
  clear hw0 hw1 hw2 hnz hnz1 hnz2 hnz3 hnz4 hxx0 hxx1 hxx2 EA EB EC EY hyr ha' hb' hc' HX
  have HEP := Aside0.mk (enter_yes HSB.out (ask_part (D := D) (a := a) (b := b) (y := yr) ha hbl hab (by have := HY9.out; omega)))
  have HPE := Aside0.mk (partF_eq HEP.out ha hbl)
  have HE2 := Aside0.mk (enter_yes HSB.out (ask_two (D := D) (a := a) (b := b) ha hbl hab))
  obtain ⟨how, hhow⟩ : ∃ h, largerF D (a : Int) (b : Int) = h := ⟨_, rfl⟩
  have HH := Aside0.mk hhow
  clear hhow
  have k0 := (blk_cell HS.out 0).trans rfl
  have k1 := (blk_cell HS.out 1).trans rfl
  have k2 := (blk_cell HS.out 2).trans rfl
  have k3 := (blk_cell HS.out 3).trans rfl
  have k4 := (blk_cell HS.out 4).trans rfl
  have kl := blk_lt HS.out
  go_wp2_with fail
  clear k0 k1 k2 k3 k4 kl
  have hA := HA.out.below HB.out
  refine (Part_calls D A0 c0 A3 c3 A4 c4 (a : Int) (b : Int) (yr : Int) w2 hA).mono ?_
  clear hA
  rw [HEP.out, HPE.out]
  rintro e w3 ⟨⟨v, rfl, hn, hl3⟩, hb⟩
  obtain ⟨A1, c1', rfl, hc1⟩ := Row.shape hn
  have hC1 := Row.read hn rfl (by have := filter_len D.gl.length (fun g => sureP D g (yr : Int) a && !mayP D g (yr : Int) b); simp only [partL, List.length_map] at *; omega)
  obtain ⟨L1, hL1⟩ : ∃ L, ints (partL D a b (yr : Int)) = L := ⟨_, rfl⟩
  rw [hL1] at hC1 hc1 ⊢
  have HC1 := Aside0.mk hC1
  have HN1 := Aside0.mk hc1
  have EL1 := Aside0.mk hL1
  clear hn hl3 hC1 hc1 hL1
  replace HB := Aside0.mk (HB.out.trans (hb.mono HB.out.size))
  replace HS := Aside0.mk (blk_below HS.out hb)
  clear hb
  go_upto_region 9 with (fail)
  have k0 := (blk_cell HS.out 0).trans rfl
  have k1 := (blk_cell HS.out 1).trans rfl
  have k2 := (blk_cell HS.out 2).trans rfl
  have k3 := (blk_cell HS.out 3).trans rfl
  have k4 := (blk_cell HS.out 4).trans rfl
  have kl := blk_lt HS.out
  go_wp2_with fail
  clear k0 k1 k2 k3 k4 kl
  have hA := HA.out.below HB.out
  refine (Larger_calls D A0 c0 A3 c3 A4 c4 (a : Int) (b : Int) w3 hA).mono ?_
  clear hA
  rw [HE2.out, HH.out]
  rintro e w4 ⟨rfl, hb⟩
  replace HB := Aside0.mk (HB.out.trans (hb.mono HB.out.size))
  replace HS := Aside0.mk (blk_below HS.out hb)
  replace HC1 := Aside0.mk (Kd.C_below HC1.out hb)
  clear hb
  go_upto_region 10 with (fail)
  have hl1 : L1.length ≤ 3 := by rw [← EL1.out, List.length_map]; exact Nat.le_trans (filter_len _ _) hg3
  have hpl : L1.length = 0 ∨ (0 < L1.length ∧ how = 1) := by
   rcases Nat.eq_zero_or_pos L1.length with h | h
   ·
    exact .inl h
   ·
    refine .inr ⟨h, ?_⟩
    rw [← HH.out]
    exact part_larger HE2.out (by rw [← EL1.out, List.length_map] at h; exact h)
  have k0 := (blk_cell HS.out 0).trans rfl
  have k1 := (blk_cell HS.out 1).trans rfl
  have k2 := (blk_cell HS.out 2).trans rfl
  have k3 := (blk_cell HS.out 3).trans rfl
  have k4 := (blk_cell HS.out 4).trans rfl
  have kl := blk_lt HS.out
  go_wp2_with fail
  clear k0 k1 k2 k3 k4 kl
  refine (Rising_calls L1 A1 c1' D.gl.length w4 (by omega) (by omega) HC1.out (by rw [← EL1.out]; exact up_filter _ _)).mono ?_
  rintro e w5 ⟨rfl, hb⟩
  replace HB := Aside0.mk (HB.out.trans (hb.mono HB.out.size))
  replace HS := Aside0.mk (blk_below HS.out hb)
  replace HC1 := Aside0.mk (Kd.C_below HC1.out hb)
  clear hb
  obtain ⟨KT, hKT⟩ := (rTruths HV.out [] (by simp)).rounds
  have HKT := Aside0.mk hKT
  clear hKT HE2 HH HEP HPE
  obtain ⟨T, hT⟩ : ∃ T, truthsL D 0 = T := ⟨_, rfl⟩
  have hTl : (truthsR D []).length = T.length := by rw [truthsR_len HV.out, hT]
  have hTle : T.length ≤ 6561 := by rw [← hT]; exact truthsL_len HV.out 0
  have hAT : ∀ i, (hi : i < T.length) → ∃ t, t ∈ allD D ∧ rd_T56 (truthsR D []) (i : Int) = trU D [] t ∧ T[i] = V8 t := fun i hi => by
   subst hT
   obtain ⟨t, h1, h2, h3, _⟩ := truthsR_at HV.out i hi
   exact ⟨t, h1, h2, h3⟩
  have HAT := Aside0.mk hAT
  have HTL := Aside0.mk hTl
  have HTT := Aside0.mk hT
  have HTE := Aside0.mk hTle
  clear hAT hTl hT hTle
  have hp0 : L1.length = 0 → decide (0 < (L1.length : Int)) = false := fun h => decide_eq_false (by omega)
  have hp1 : 0 < L1.length → decide (0 < (L1.length : Int)) = true := fun h => decide_eq_true (by omega)
  have hq3 : decide (0 < (L1.length : Int)) = false ∨ (decide (0 < (L1.length : Int)) = true ∧ how = 1) := hpl.imp hp0 (fun h => ⟨hp1 h.1, h.2⟩)
  clear hpl hp0 hp1
  obtain ⟨dl, hdl⟩ : ∃ z, decide (0 < (L1.length : Int)) = z := ⟨_, rfl⟩
  rw [hdl] at hq3
  have hdl2 : decide (0 < L1.length) = dl := by rw [← hdl]; exact decide_eq_decide.2 (by omega)
  have hmid : (dl && (how != 1)) = false := by rcases hq3 with rfl | ⟨rfl, rfl⟩ <;> rfl
  have HMID := Aside0.mk hmid
  clear hmid
  have hq4 : dl = false ∨ (dl = true ∧ how = 1) := hq3
  clear hq3
  rcases hq4 with rfl | ⟨rfl, rfl⟩
  ·
   skip
   have k0 := (blk_cell HS.out 0).trans rfl
   have k1 := (blk_cell HS.out 1).trans rfl
   have k2 := (blk_cell HS.out 2).trans rfl
   have k3 := (blk_cell HS.out 3).trans rfl
   have k4 := (blk_cell HS.out 4).trans rfl
   have kl := blk_lt HS.out
   go_upto_region 12 with (fail)
   clear k0 k1 k2 k3 k4 kl hdl hdl2 HMID
   have k0 := (blk_cell HS.out 0).trans rfl
   have k1 := (blk_cell HS.out 1).trans rfl
   have k2 := (blk_cell HS.out 2).trans rfl
   have k3 := (blk_cell HS.out 3).trans rfl
   have k4 := (blk_cell HS.out 4).trans rfl
   have kl := blk_lt HS.out
   go_wp2_with fail
   clear k0 k1 k2 k3 k4 kl
   have hA := HA.out.below HB.out
   refine (r7_Truths.calls KT A0 c0 D.gl D.lo D.hi A3 c3 D.sp A4 c4 D.dr none 0 [] (truthsR D []) w5 hA.g hA.gc hA.s hA.sc hA.d hA.dc ⟨rfl, by simp, fun hx => absurd hx (by simp)⟩ (Nat.le_refl _) HKT.out).mono ?_
   clear hA
   rintro e w6 ⟨v0, rfl, hn, hb⟩
   obtain ⟨AT, cT, rfl, _, hC⟩ := Kd.N_reads hn
   obtain ⟨RR, hRR⟩ : ∃ R, truthsR D [] = R := ⟨_, rfl⟩
   rw [hRR] at hC HAT HTL ⊢
   have HCT := Aside0.mk hC
   clear hn hC HKT hRR
   replace HB := Aside0.mk (HB.out.trans (hb.mono HB.out.size))
   replace HS := Aside0.mk (blk_below HS.out hb)
   replace HC1 := Aside0.mk (Kd.C_below HC1.out hb)
   clear hb
   have k0 := (blk_cell HS.out 0).trans rfl
   have k1 := (blk_cell HS.out 1).trans rfl
   have k2 := (blk_cell HS.out 2).trans rfl
   have k3 := (blk_cell HS.out 3).trans rfl
   have k4 := (blk_cell HS.out 4).trans rfl
   have kl := blk_lt HS.out
   go_wp2_with fail
   clear k0 k1 k2 k3 k4 kl
   go_loopw [16] (fun j wr => ∃ k : Nat, k ≤ D.gl.length ∧ j = .int .i64 k ∧ Aside0 (Below w6.heap.size w6 wr)) (fun j _ => D.gl.length - (intOf j).toNat)
   case atStart => exact ⟨0, Nat.zero_le _, rfl, ⟨Below.refl _ _⟩⟩
   case round =>
    obtain ⟨k, hk, rfl, HBr⟩ := hrel
    have hb := HBr.out
    replace HB := Aside0.mk (HB.out.trans (hb.mono HB.out.size))
    replace HS := Aside0.mk (blk_below HS.out hb)
    replace HC1 := Aside0.mk (Kd.C_below HC1.out hb)
    replace HCT := Aside0.mk (Kd.C_below HCT.out hb)
    clear hb
    generalize wr = w100 at HBr HB HS HC1 HCT ⊢
    by_cases hlt : k < D.gl.length
    ·
     have HES := Aside0.mk (enter_yes HSB.out (ask_sees (D := D) (y := yr) hlt (by have := HY9.out; omega)))
     have HQ := Aside0.mk (seesF_eq HES.out)
     have k0 := (blk_cell HS.out 0).trans rfl
     have k1 := (blk_cell HS.out 1).trans rfl
     have k2 := (blk_cell HS.out 2).trans rfl
     have k3 := (blk_cell HS.out 3).trans rfl
     have k4 := (blk_cell HS.out 4).trans rfl
     have kl := blk_lt HS.out
     go_wp2_with fail
     clear k0 k1 k2 k3 k4 kl
     have hA := HA.out.below HB.out
     refine (Sees_calls D A0 c0 A3 c3 A4 c4 (k : Int) (yr : Int) w100 hA).mono ?_
     clear hA
     rw [HES.out, HQ.out]
     rintro e w101 ⟨⟨u, v, rfl, hn, m', _, _, hn2⟩, hb⟩
     obtain ⟨A2, c2', rfl, hc2, _, hC2⟩ := NewRow.rowI (l := sureL D k (yr : Int)) hn
     obtain ⟨A3', d2, rfl, hd2, _, hD2⟩ := NewRow.rowI (l := mayL D k (yr : Int)) hn2
     obtain ⟨L2, hL2⟩ : ∃ L, ints (sureL D k (yr : Int)) = L := ⟨_, rfl⟩
     obtain ⟨L3, hL3⟩ : ∃ L, ints (mayL D k (yr : Int)) = L := ⟨_, rfl⟩
     rw [hL2] at hC2 hc2 ⊢
     rw [hL3] at hD2 hd2 ⊢
     have HC2 := Aside0.mk hC2
     have HD2 := Aside0.mk hD2
     have HN2 := Aside0.mk (And.intro hc2 hd2)
     have EL2 := Aside0.mk hL2
     have EL3 := Aside0.mk hL3
     clear hn hn2 hC2 hD2 hc2 hd2 hL2 hL3 HES HQ
     replace HB := Aside0.mk (HB.out.trans (hb.mono HB.out.size))
     replace HS := Aside0.mk (blk_below HS.out hb)
     replace HBr := Aside0.mk (HBr.out.trans (hb.mono HBr.out.size))
     replace HC1 := Aside0.mk (Kd.C_below HC1.out hb)
     replace HCT := Aside0.mk (Kd.C_below HCT.out hb)
     clear hb
     go_upto_region 17 with (fail)
     obtain ⟨sa, hsa⟩ : ∃ z, sureP D k (yr : Int) a = z := ⟨_, rfl⟩
     obtain ⟨mb, hmb⟩ : ∃ z, mayP D k (yr : Int) b = z := ⟨_, rfl⟩
     have hall := tell_all D a b (yr : Int) k
     rw [hsa, hmb, HTT.out] at hall
     have hpl : (sureP D k (yr : Int) a && !mayP D k (yr : Int) b) = (sa && !mb) := by rw [hsa, hmb]
     obtain ⟨Ks, hKs⟩ : ∃ K, r1_Has.f K L2 (a : Int) = some sa := by
      have hr := (rHas L2 (by rw [← EL2.out, List.length_map]; exact Nat.le_trans (filter_len _ _) (by omega)) a).rounds
      rw [← EL2.out] at hr ⊢
      rw [show hasB (ints (sureL D k (yr : Int))) a = sa from (has_filter ha).trans hsa] at hr
      exact hr
     have HKs := Aside0.mk hKs
     obtain ⟨Km, hKm⟩ : ∃ K, r1_Has.f K L3 (b : Int) = some mb := by
      have hr := (rHas L3 (by rw [← EL3.out, List.length_map]; exact Nat.le_trans (filter_len _ _) (by omega)) b).rounds
      rw [← EL3.out] at hr ⊢
      rw [show hasB (ints (mayL D k (yr : Int))) b = mb from (has_filter hbl).trans hmb] at hr
      exact hr
     have HKm := Aside0.mk hKm
     obtain ⟨Kp, hKp⟩ : ∃ K, r1_Has.f K L1 (k : Int) = some (sa && !mb) := by
      have hr := (rHas L1 (by rw [← EL1.out, List.length_map]; exact Nat.le_trans (filter_len _ _) (by omega)) k).rounds
      rw [← EL1.out] at hr ⊢
      rw [show hasB (ints (partL D a b (yr : Int))) k = (sa && !mb) from (has_filter hlt).trans hpl] at hr
      exact hr
     have HKp := Aside0.mk hKp
     have HALL := Aside0.mk hall
     clear hall hpl hsa hmb hKs hKm hKp
     have hcs : (sa = false) ∨ (sa = true ∧ mb = false) ∨ (sa = true ∧ mb = true) := by cases sa; exact .inl rfl; cases mb; exact .inr (.inl ⟨rfl, rfl⟩); exact .inr (.inr ⟨rfl, rfl⟩)
     rcases hcs with rfl | ⟨rfl, rfl⟩ | ⟨rfl, rfl⟩
     ·
      go_wp2_with fail
      refine (r1_Has.calls Ks A2 c2' L2 (a : Int) false w101 HC2.out HN2.out.1 HKs.out).mono ?_
      rintro e wq ⟨rfl, nd, rfl⟩
      have hb : Below w101.heap.size w101 (w101.drewN nd) := pw_below_drewN (Below.refl _ _) nd
      replace HB := Aside0.mk (HB.out.trans (hb.mono HB.out.size))
      replace HS := Aside0.mk (blk_below HS.out hb)
      replace HBr := Aside0.mk (HBr.out.trans (hb.mono HBr.out.size))
      replace HC1 := Aside0.mk (Kd.C_below HC1.out hb)
      replace HCT := Aside0.mk (Kd.C_below HCT.out hb)
      replace HC2 := Aside0.mk (Kd.C_below HC2.out hb)
      replace HD2 := Aside0.mk (Kd.C_below HD2.out hb)
      clear hb
      generalize w101.drewN nd = w102 at HB HS HBr HC1 HCT HC2 HD2 ⊢
      go_wp2_with fail
      refine (r1_Has.calls Kp A1 c1' L1 (k : Int) false w102 HC1.out HN1.out HKp.out).mono ?_
      rintro e wq ⟨rfl, nd, rfl⟩
      have hb : Below w102.heap.size w102 (w102.drewN nd) := pw_below_drewN (Below.refl _ _) nd
      replace HB := Aside0.mk (HB.out.trans (hb.mono HB.out.size))
      replace HS := Aside0.mk (blk_below HS.out hb)
      replace HBr := Aside0.mk (HBr.out.trans (hb.mono HBr.out.size))
      replace HC1 := Aside0.mk (Kd.C_below HC1.out hb)
      replace HCT := Aside0.mk (Kd.C_below HCT.out hb)
      replace HC2 := Aside0.mk (Kd.C_below HC2.out hb)
      replace HD2 := Aside0.mk (Kd.C_below HD2.out hb)
      clear hb
      generalize w102.drewN nd = w103 at HB HS HBr HC1 HCT HC2 HD2 ⊢
      clear HC2 HD2 HN2 EL2 EL3 HKs HKm
      have hall2 : T.all (tellP a b (yr : Int) k) = false := HALL.out.trans (by first | rfl | (cases mb <;> rfl))
      have HAL := Aside0.mk hall2
      clear hall2 HALL
      go_wp2_with fail
      go_loopw [20, 21] (fun b0 j wr => ∃ m : Nat, m ≤ T.length ∧ j = .int .i64 m ∧ b0 = .bool ((T.take m).all (tellP a b (yr : Int) k)) ∧ Aside0 (Below w103.heap.size w103 wr)) (fun _ j _ => T.length - (intOf j).toNat)
      case atStart => exact ⟨0, Nat.zero_le _, rfl, rfl, ⟨Below.refl _ _⟩⟩
      case round =>
       obtain ⟨m, hm, rfl, rfl, HBi⟩ := hrel
       have hb := HBi.out
       replace HB := Aside0.mk (HB.out.trans (hb.mono HB.out.size))
       replace HS := Aside0.mk (blk_below HS.out hb)
       replace HBr := Aside0.mk (HBr.out.trans (hb.mono HBr.out.size))
       replace HC1 := Aside0.mk (Kd.C_below HC1.out hb)
       replace HCT := Aside0.mk (Kd.C_below HCT.out hb)
       clear hb
       generalize wr = w200 at HBi HB HS HBr HC1 HCT ⊢
       obtain ⟨tl, htl⟩ : ∃ z, (T.take m).all (tellP a b (yr : Int) k) = z := ⟨_, rfl⟩
       rw [htl]
       have HTK := Aside0.mk htl
       clear htl
       have hmR : (m < T.length) = (m < RR.length) := by rw [HTL.out]
       by_cases hlm : m < RR.length
       ·
        have hlmT : m < T.length := by have := HTL.out; omega
        cases tl
        ·
         clear HTK
         go_wp2_with fail
         refine (r1_Has.calls Kp A1 c1' L1 (k : Int) false w200 HC1.out HN1.out HKp.out).mono ?_
         rintro e wq ⟨rfl, nd, rfl⟩
         have hb : Below w200.heap.size w200 (w200.drewN nd) := pw_below_drewN (Below.refl _ _) nd
         replace HB := Aside0.mk (HB.out.trans (hb.mono HB.out.size))
         replace HS := Aside0.mk (blk_below HS.out hb)
         replace HBr := Aside0.mk (HBr.out.trans (hb.mono HBr.out.size))
         replace HC1 := Aside0.mk (Kd.C_below HC1.out hb)
         replace HCT := Aside0.mk (Kd.C_below HCT.out hb)
         clear hb
         generalize w200.drewN nd = w201 at HB HS HBr HC1 HCT ⊢
         go_wp2_with fail
         go_roundw
         case rel => exact ⟨k + 1, by omega, by go_num, HBr⟩
         case measure => simp [intOf]; omega
        ·
         have hlm2 : (m : Int) < (RR.length : Int) := by omega
         have hRl : RR.length ≤ 6561 := by have := HTL.out; have := HTE.out; omega
         obtain ⟨t, ht, hrt, hTt⟩ := HAT.out m hlmT
         have hll := mem_all HV.out ht
         obtain ⟨ad, B0, d0, B2, d2', B3, d3, hAD, e0, e1, e2, e3, l0, g0, l2, g2, l3, g3⟩ := at_T56 HCT.out (m : Int) (by omega) (by omega)
         rw [Int.toNat_natCast] at e0 e1 e2 e3
         subst hAD
         rw [hrt] at e0 e1 e2 e3 l0 g0 l2 g2 l3 g3
         have hs1 := rSeen HV.out ht (trU D [] t).f3 ha hlt (y := (yr : Int)) ⟨by omega, by have := HY9.out; omega⟩
         have hs2 := rSeen HV.out ht (trU D [] t).f3 hbl hlt (y := (yr : Int)) ⟨by omega, by have := HY9.out; omega⟩
         have htk : (T.take (m + 1)).all (tellP a b (yr : Int) k) = (seenB (fn (V8 t)) k (yr : Int) a && !seenB (fn (V8 t)) k (yr : Int) b) := by
          rw [List.take_add_one, List.getElem?_eq_getElem hlmT, Option.toList_some, List.all_append, HTK.out, hTt]
          simp [tellP]
         obtain ⟨p1, hp1⟩ : ∃ z, seenB (fn (V8 t)) k (yr : Int) a = z := ⟨_, rfl⟩
         obtain ⟨p2, hp2⟩ : ∃ z, seenB (fn (V8 t)) k (yr : Int) b = z := ⟨_, rfl⟩
         rw [hp1] at hs1 htk
         rw [hp2] at hs2 htk
         have HS1 := Aside0.mk hs1
         have HS2 := Aside0.mk hs2
         have HTN := Aside0.mk htk
         clear hs1 hs2 htk hp1 hp2 hTt hrt hll ht HTK
         skip
         have G0 := Aside0.mk g0
         have G2 := Aside0.mk g2
         have G3 := Aside0.mk g3
         have LL := Aside0.mk (And.intro l0 (And.intro l2 l3))
         have EE := Aside0.mk (And.intro e0 (And.intro e1 (And.intro e2 e3)))
         clear l0 l2 l3 g0 g2 g3
         go_wp2_with fail
         clear e0 e1 e2 e3
         refine (r7_Seen.calls B0 d0 _ _ B2 d2' _ B3 d3 _ (a : Int) (k : Int) (yr : Int) p1 w200 G0.out LL.out.1 G2.out LL.out.2.1 G3.out LL.out.2.2 HS1.out).mono ?_
         rintro e w201 ⟨rfl, hb⟩
         have e0 := cell_bl EE.out.1 hb
         have e1 := cell_bl EE.out.2.1 hb
         have e2 := cell_bl EE.out.2.2.1 hb
         have e3 := cell_bl EE.out.2.2.2 hb
         replace HB := Aside0.mk (HB.out.trans (hb.mono HB.out.size))
         replace HS := Aside0.mk (blk_below HS.out hb)
         replace HBr := Aside0.mk (HBr.out.trans (hb.mono HBr.out.size))
         replace HBi := Aside0.mk (HBi.out.trans (hb.mono HBi.out.size))
         replace HC1 := Aside0.mk (Kd.C_below HC1.out hb)
         replace HCT := Aside0.mk (Kd.C_below HCT.out hb)
         replace G0 := Aside0.mk (Kd.C_below G0.out hb)
         replace G2 := Aside0.mk (Kd.C_below G2.out hb)
         replace G3 := Aside0.mk (Kd.C_below G3.out hb)
         clear hb
         cases p1
         ·
          go_wp2_with fail
          go_roundw
          case rel => exact ⟨m + 1, by omega, by go_num, by rw [HTN.out]; first | rfl | (cases p2 <;> rfl), HBi⟩
          case measure => simp [intOf]; omega
         ·
          go_wp2_with fail
          clear e0 e1 e2 e3
          refine (r7_Seen.calls B0 d0 _ _ B2 d2' _ B3 d3 _ (b : Int) (k : Int) (yr : Int) p2 w201 G0.out LL.out.1 G2.out LL.out.2.1 G3.out LL.out.2.2 HS2.out).mono ?_
          rintro e w202 ⟨rfl, hb⟩
          replace HB := Aside0.mk (HB.out.trans (hb.mono HB.out.size))
          replace HS := Aside0.mk (blk_below HS.out hb)
          replace HBr := Aside0.mk (HBr.out.trans (hb.mono HBr.out.size))
          replace HBi := Aside0.mk (HBi.out.trans (hb.mono HBi.out.size))
          replace HC1 := Aside0.mk (Kd.C_below HC1.out hb)
          replace HCT := Aside0.mk (Kd.C_below HCT.out hb)
          replace G0 := Aside0.mk (Kd.C_below G0.out hb)
          replace G2 := Aside0.mk (Kd.C_below G2.out hb)
          replace G3 := Aside0.mk (Kd.C_below G3.out hb)
          clear hb
          go_wp2_with fail
          go_roundw
          case rel => exact ⟨m + 1, by omega, by go_num, by rw [HTN.out]; first | rfl | (cases p2 <;> rfl), HBi⟩
          case measure => simp [intOf]; omega
       ·
        have hml : m = T.length := by have := HTL.out; omega
        have htr : tl = false := by rw [← HTK.out, hml, List.take_length]; exact HAL.out
        subst htr
        have hlm2 : ¬ ((m : Int) < (RR.length : Int)) := by omega
        clear HTK
        go_wp2_with fail
        refine (r1_Has.calls Kp A1 c1' L1 (k : Int) false w200 HC1.out HN1.out HKp.out).mono ?_
        rintro e wq ⟨rfl, nd, rfl⟩
        have hb : Below w200.heap.size w200 (w200.drewN nd) := pw_below_drewN (Below.refl _ _) nd
        replace HB := Aside0.mk (HB.out.trans (hb.mono HB.out.size))
        replace HS := Aside0.mk (blk_below HS.out hb)
        replace HBr := Aside0.mk (HBr.out.trans (hb.mono HBr.out.size))
        replace HC1 := Aside0.mk (Kd.C_below HC1.out hb)
        replace HCT := Aside0.mk (Kd.C_below HCT.out hb)
        clear hb
        generalize w200.drewN nd = w201 at HB HS HBr HC1 HCT ⊢
        go_wp2_with fail
        go_roundw
        case rel => exact ⟨k + 1, by omega, by go_num, HBr⟩
        case measure => simp [intOf]; omega
     ·
      go_wp2_with fail
      refine (r1_Has.calls Ks A2 c2' L2 (a : Int) true w101 HC2.out HN2.out.1 HKs.out).mono ?_
      rintro e wq ⟨rfl, nd, rfl⟩
      have hb : Below w101.heap.size w101 (w101.drewN nd) := pw_below_drewN (Below.refl _ _) nd
      replace HB := Aside0.mk (HB.out.trans (hb.mono HB.out.size))
      replace HS := Aside0.mk (blk_below HS.out hb)
      replace HBr := Aside0.mk (HBr.out.trans (hb.mono HBr.out.size))
      replace HC1 := Aside0.mk (Kd.C_below HC1.out hb)
      replace HCT := Aside0.mk (Kd.C_below HCT.out hb)
      replace HC2 := Aside0.mk (Kd.C_below HC2.out hb)
      replace HD2 := Aside0.mk (Kd.C_below HD2.out hb)
      clear hb
      generalize w101.drewN nd = w102 at HB HS HBr HC1 HCT HC2 HD2 ⊢
      go_wp2_with fail
      refine (r1_Has.calls Km A3' d2 L3 (b : Int) false w102 HD2.out HN2.out.2 HKm.out).mono ?_
      rintro e wq ⟨rfl, nd, rfl⟩
      have hb : Below w102.heap.size w102 (w102.drewN nd) := pw_below_drewN (Below.refl _ _) nd
      replace HB := Aside0.mk (HB.out.trans (hb.mono HB.out.size))
      replace HS := Aside0.mk (blk_below HS.out hb)
      replace HBr := Aside0.mk (HBr.out.trans (hb.mono HBr.out.size))
      replace HC1 := Aside0.mk (Kd.C_below HC1.out hb)
      replace HCT := Aside0.mk (Kd.C_below HCT.out hb)
      replace HC2 := Aside0.mk (Kd.C_below HC2.out hb)
      replace HD2 := Aside0.mk (Kd.C_below HD2.out hb)
      clear hb
      generalize w102.drewN nd = w103 at HB HS HBr HC1 HCT HC2 HD2 ⊢
      go_wp2_with fail
      refine (r1_Has.calls Kp A1 c1' L1 (k : Int) true w103 HC1.out HN1.out HKp.out).mono ?_
      rintro e wq ⟨rfl, nd, rfl⟩
      have hb : Below w103.heap.size w103 (w103.drewN nd) := pw_below_drewN (Below.refl _ _) nd
      replace HB := Aside0.mk (HB.out.trans (hb.mono HB.out.size))
      replace HS := Aside0.mk (blk_below HS.out hb)
      replace HBr := Aside0.mk (HBr.out.trans (hb.mono HBr.out.size))
      replace HC1 := Aside0.mk (Kd.C_below HC1.out hb)
      replace HCT := Aside0.mk (Kd.C_below HCT.out hb)
      replace HC2 := Aside0.mk (Kd.C_below HC2.out hb)
      replace HD2 := Aside0.mk (Kd.C_below HD2.out hb)
      clear hb
      generalize w103.drewN nd = w104 at HB HS HBr HC1 HCT HC2 HD2 ⊢
      clear HC2 HD2 HN2 EL2 EL3 HKs HKm
      have hall2 : T.all (tellP a b (yr : Int) k) = true := HALL.out.trans (by first | rfl | (cases mb <;> rfl))
      have HAL := Aside0.mk hall2
      clear hall2 HALL
      go_wp2_with fail
      go_loopw [20, 21] (fun b0 j wr => ∃ m : Nat, m ≤ T.length ∧ j = .int .i64 m ∧ b0 = .bool ((T.take m).all (tellP a b (yr : Int) k)) ∧ Aside0 (Below w104.heap.size w104 wr)) (fun _ j _ => T.length - (intOf j).toNat)
      case atStart => exact ⟨0, Nat.zero_le _, rfl, rfl, ⟨Below.refl _ _⟩⟩
      case round =>
       obtain ⟨m, hm, rfl, rfl, HBi⟩ := hrel
       have hb := HBi.out
       replace HB := Aside0.mk (HB.out.trans (hb.mono HB.out.size))
       replace HS := Aside0.mk (blk_below HS.out hb)
       replace HBr := Aside0.mk (HBr.out.trans (hb.mono HBr.out.size))
       replace HC1 := Aside0.mk (Kd.C_below HC1.out hb)
       replace HCT := Aside0.mk (Kd.C_below HCT.out hb)
       clear hb
       generalize wr = w200 at HBi HB HS HBr HC1 HCT ⊢
       obtain ⟨tl, htl⟩ : ∃ z, (T.take m).all (tellP a b (yr : Int) k) = z := ⟨_, rfl⟩
       rw [htl]
       have HTK := Aside0.mk htl
       clear htl
       have hmR : (m < T.length) = (m < RR.length) := by rw [HTL.out]
       by_cases hlm : m < RR.length
       ·
        have hlmT : m < T.length := by have := HTL.out; omega
        cases tl
        ·
         exfalso
         have h1 := HAL.out
         have h2 := HTK.out
         rw [List.all_eq_true] at h1
         rw [List.all_eq_false] at h2
         obtain ⟨x, hx, hx2⟩ := h2
         exact hx2 (h1 x (List.mem_of_mem_take hx))
        ·
         have hlm2 : (m : Int) < (RR.length : Int) := by omega
         have hRl : RR.length ≤ 6561 := by have := HTL.out; have := HTE.out; omega
         obtain ⟨t, ht, hrt, hTt⟩ := HAT.out m hlmT
         have hll := mem_all HV.out ht
         obtain ⟨ad, B0, d0, B2, d2', B3, d3, hAD, e0, e1, e2, e3, l0, g0, l2, g2, l3, g3⟩ := at_T56 HCT.out (m : Int) (by omega) (by omega)
         rw [Int.toNat_natCast] at e0 e1 e2 e3
         subst hAD
         rw [hrt] at e0 e1 e2 e3 l0 g0 l2 g2 l3 g3
         have hs1 := rSeen HV.out ht (trU D [] t).f3 ha hlt (y := (yr : Int)) ⟨by omega, by have := HY9.out; omega⟩
         have hs2 := rSeen HV.out ht (trU D [] t).f3 hbl hlt (y := (yr : Int)) ⟨by omega, by have := HY9.out; omega⟩
         have htk : (T.take (m + 1)).all (tellP a b (yr : Int) k) = (seenB (fn (V8 t)) k (yr : Int) a && !seenB (fn (V8 t)) k (yr : Int) b) := by
          rw [List.take_add_one, List.getElem?_eq_getElem hlmT, Option.toList_some, List.all_append, HTK.out, hTt]
          simp [tellP]
         obtain ⟨p1, hp1⟩ : ∃ z, seenB (fn (V8 t)) k (yr : Int) a = z := ⟨_, rfl⟩
         obtain ⟨p2, hp2⟩ : ∃ z, seenB (fn (V8 t)) k (yr : Int) b = z := ⟨_, rfl⟩
         rw [hp1] at hs1 htk
         rw [hp2] at hs2 htk
         have HS1 := Aside0.mk hs1
         have HS2 := Aside0.mk hs2
         have HTN := Aside0.mk htk
         clear hs1 hs2 htk hp1 hp2 hTt hrt hll ht HTK
         skip
         have G0 := Aside0.mk g0
         have G2 := Aside0.mk g2
         have G3 := Aside0.mk g3
         have LL := Aside0.mk (And.intro l0 (And.intro l2 l3))
         have EE := Aside0.mk (And.intro e0 (And.intro e1 (And.intro e2 e3)))
         clear l0 l2 l3 g0 g2 g3
         go_wp2_with fail
         clear e0 e1 e2 e3
         refine (r7_Seen.calls B0 d0 _ _ B2 d2' _ B3 d3 _ (a : Int) (k : Int) (yr : Int) p1 w200 G0.out LL.out.1 G2.out LL.out.2.1 G3.out LL.out.2.2 HS1.out).mono ?_
         rintro e w201 ⟨rfl, hb⟩
         have e0 := cell_bl EE.out.1 hb
         have e1 := cell_bl EE.out.2.1 hb
         have e2 := cell_bl EE.out.2.2.1 hb
         have e3 := cell_bl EE.out.2.2.2 hb
         replace HB := Aside0.mk (HB.out.trans (hb.mono HB.out.size))
         replace HS := Aside0.mk (blk_below HS.out hb)
         replace HBr := Aside0.mk (HBr.out.trans (hb.mono HBr.out.size))
         replace HBi := Aside0.mk (HBi.out.trans (hb.mono HBi.out.size))
         replace HC1 := Aside0.mk (Kd.C_below HC1.out hb)
         replace HCT := Aside0.mk (Kd.C_below HCT.out hb)
         replace G0 := Aside0.mk (Kd.C_below G0.out hb)
         replace G2 := Aside0.mk (Kd.C_below G2.out hb)
         replace G3 := Aside0.mk (Kd.C_below G3.out hb)
         clear hb
         cases p1
         ·
          go_wp2_with fail
          go_roundw
          case rel => exact ⟨m + 1, by omega, by go_num, by rw [HTN.out]; first | rfl | (cases p2 <;> rfl), HBi⟩
          case measure => simp [intOf]; omega
         ·
          go_wp2_with fail
          clear e0 e1 e2 e3
          refine (r7_Seen.calls B0 d0 _ _ B2 d2' _ B3 d3 _ (b : Int) (k : Int) (yr : Int) p2 w201 G0.out LL.out.1 G2.out LL.out.2.1 G3.out LL.out.2.2 HS2.out).mono ?_
          rintro e w202 ⟨rfl, hb⟩
          replace HB := Aside0.mk (HB.out.trans (hb.mono HB.out.size))
          replace HS := Aside0.mk (blk_below HS.out hb)
          replace HBr := Aside0.mk (HBr.out.trans (hb.mono HBr.out.size))
          replace HBi := Aside0.mk (HBi.out.trans (hb.mono HBi.out.size))
          replace HC1 := Aside0.mk (Kd.C_below HC1.out hb)
          replace HCT := Aside0.mk (Kd.C_below HCT.out hb)
          replace G0 := Aside0.mk (Kd.C_below G0.out hb)
          replace G2 := Aside0.mk (Kd.C_below G2.out hb)
          replace G3 := Aside0.mk (Kd.C_below G3.out hb)
          clear hb
          go_wp2_with fail
          go_roundw
          case rel => exact ⟨m + 1, by omega, by go_num, by rw [HTN.out]; first | rfl | (cases p2 <;> rfl), HBi⟩
          case measure => simp [intOf]; omega
       ·
        have hml : m = T.length := by have := HTL.out; omega
        have htr : tl = true := by rw [← HTK.out, hml, List.take_length]; exact HAL.out
        subst htr
        have hlm2 : ¬ ((m : Int) < (RR.length : Int)) := by omega
        clear HTK
        go_wp2_with fail
        refine (r1_Has.calls Kp A1 c1' L1 (k : Int) true w200 HC1.out HN1.out HKp.out).mono ?_
        rintro e wq ⟨rfl, nd, rfl⟩
        have hb : Below w200.heap.size w200 (w200.drewN nd) := pw_below_drewN (Below.refl _ _) nd
        replace HB := Aside0.mk (HB.out.trans (hb.mono HB.out.size))
        replace HS := Aside0.mk (blk_below HS.out hb)
        replace HBr := Aside0.mk (HBr.out.trans (hb.mono HBr.out.size))
        replace HC1 := Aside0.mk (Kd.C_below HC1.out hb)
        replace HCT := Aside0.mk (Kd.C_below HCT.out hb)
        clear hb
        generalize w200.drewN nd = w201 at HB HS HBr HC1 HCT ⊢
        go_wp2_with fail
        go_roundw
        case rel => exact ⟨k + 1, by omega, by go_num, HBr⟩
        case measure => simp [intOf]; omega
     ·
      go_wp2_with fail
      refine (r1_Has.calls Ks A2 c2' L2 (a : Int) true w101 HC2.out HN2.out.1 HKs.out).mono ?_
      rintro e wq ⟨rfl, nd, rfl⟩
      have hb : Below w101.heap.size w101 (w101.drewN nd) := pw_below_drewN (Below.refl _ _) nd
      replace HB := Aside0.mk (HB.out.trans (hb.mono HB.out.size))
      replace HS := Aside0.mk (blk_below HS.out hb)
      replace HBr := Aside0.mk (HBr.out.trans (hb.mono HBr.out.size))
      replace HC1 := Aside0.mk (Kd.C_below HC1.out hb)
      replace HCT := Aside0.mk (Kd.C_below HCT.out hb)
      replace HC2 := Aside0.mk (Kd.C_below HC2.out hb)
      replace HD2 := Aside0.mk (Kd.C_below HD2.out hb)
      clear hb
      generalize w101.drewN nd = w102 at HB HS HBr HC1 HCT HC2 HD2 ⊢
      go_wp2_with fail
      refine (r1_Has.calls Km A3' d2 L3 (b : Int) true w102 HD2.out HN2.out.2 HKm.out).mono ?_
      rintro e wq ⟨rfl, nd, rfl⟩
      have hb : Below w102.heap.size w102 (w102.drewN nd) := pw_below_drewN (Below.refl _ _) nd
      replace HB := Aside0.mk (HB.out.trans (hb.mono HB.out.size))
      replace HS := Aside0.mk (blk_below HS.out hb)
      replace HBr := Aside0.mk (HBr.out.trans (hb.mono HBr.out.size))
      replace HC1 := Aside0.mk (Kd.C_below HC1.out hb)
      replace HCT := Aside0.mk (Kd.C_below HCT.out hb)
      replace HC2 := Aside0.mk (Kd.C_below HC2.out hb)
      replace HD2 := Aside0.mk (Kd.C_below HD2.out hb)
      clear hb
      generalize w102.drewN nd = w103 at HB HS HBr HC1 HCT HC2 HD2 ⊢
      go_wp2_with fail
      refine (r1_Has.calls Kp A1 c1' L1 (k : Int) false w103 HC1.out HN1.out HKp.out).mono ?_
      rintro e wq ⟨rfl, nd, rfl⟩
      have hb : Below w103.heap.size w103 (w103.drewN nd) := pw_below_drewN (Below.refl _ _) nd
      replace HB := Aside0.mk (HB.out.trans (hb.mono HB.out.size))
      replace HS := Aside0.mk (blk_below HS.out hb)
      replace HBr := Aside0.mk (HBr.out.trans (hb.mono HBr.out.size))
      replace HC1 := Aside0.mk (Kd.C_below HC1.out hb)
      replace HCT := Aside0.mk (Kd.C_below HCT.out hb)
      replace HC2 := Aside0.mk (Kd.C_below HC2.out hb)
      replace HD2 := Aside0.mk (Kd.C_below HD2.out hb)
      clear hb
      generalize w103.drewN nd = w104 at HB HS HBr HC1 HCT HC2 HD2 ⊢
      clear HC2 HD2 HN2 EL2 EL3 HKs HKm
      have hall2 : T.all (tellP a b (yr : Int) k) = false := HALL.out.trans (by first | rfl | (cases mb <;> rfl))
      have HAL := Aside0.mk hall2
      clear hall2 HALL
      go_wp2_with fail
      go_loopw [20, 21] (fun b0 j wr => ∃ m : Nat, m ≤ T.length ∧ j = .int .i64 m ∧ b0 = .bool ((T.take m).all (tellP a b (yr : Int) k)) ∧ Aside0 (Below w104.heap.size w104 wr)) (fun _ j _ => T.length - (intOf j).toNat)
      case atStart => exact ⟨0, Nat.zero_le _, rfl, rfl, ⟨Below.refl _ _⟩⟩
      case round =>
       obtain ⟨m, hm, rfl, rfl, HBi⟩ := hrel
       have hb := HBi.out
       replace HB := Aside0.mk (HB.out.trans (hb.mono HB.out.size))
       replace HS := Aside0.mk (blk_below HS.out hb)
       replace HBr := Aside0.mk (HBr.out.trans (hb.mono HBr.out.size))
       replace HC1 := Aside0.mk (Kd.C_below HC1.out hb)
       replace HCT := Aside0.mk (Kd.C_below HCT.out hb)
       clear hb
       generalize wr = w200 at HBi HB HS HBr HC1 HCT ⊢
       obtain ⟨tl, htl⟩ : ∃ z, (T.take m).all (tellP a b (yr : Int) k) = z := ⟨_, rfl⟩
       rw [htl]
       have HTK := Aside0.mk htl
       clear htl
       have hmR : (m < T.length) = (m < RR.length) := by rw [HTL.out]
       by_cases hlm : m < RR.length
       ·
        have hlmT : m < T.length := by have := HTL.out; omega
        cases tl
        ·
         clear HTK
         go_wp2_with fail
         refine (r1_Has.calls Kp A1 c1' L1 (k : Int) false w200 HC1.out HN1.out HKp.out).mono ?_
         rintro e wq ⟨rfl, nd, rfl⟩
         have hb : Below w200.heap.size w200 (w200.drewN nd) := pw_below_drewN (Below.refl _ _) nd
         replace HB := Aside0.mk (HB.out.trans (hb.mono HB.out.size))
         replace HS := Aside0.mk (blk_below HS.out hb)
         replace HBr := Aside0.mk (HBr.out.trans (hb.mono HBr.out.size))
         replace HC1 := Aside0.mk (Kd.C_below HC1.out hb)
         replace HCT := Aside0.mk (Kd.C_below HCT.out hb)
         clear hb
         generalize w200.drewN nd = w201 at HB HS HBr HC1 HCT ⊢
         go_wp2_with fail
         go_roundw
         case rel => exact ⟨k + 1, by omega, by go_num, HBr⟩
         case measure => simp [intOf]; omega
        ·
         have hlm2 : (m : Int) < (RR.length : Int) := by omega
         have hRl : RR.length ≤ 6561 := by have := HTL.out; have := HTE.out; omega
         obtain ⟨t, ht, hrt, hTt⟩ := HAT.out m hlmT
         have hll := mem_all HV.out ht
         obtain ⟨ad, B0, d0, B2, d2', B3, d3, hAD, e0, e1, e2, e3, l0, g0, l2, g2, l3, g3⟩ := at_T56 HCT.out (m : Int) (by omega) (by omega)
         rw [Int.toNat_natCast] at e0 e1 e2 e3
         subst hAD
         rw [hrt] at e0 e1 e2 e3 l0 g0 l2 g2 l3 g3
         have hs1 := rSeen HV.out ht (trU D [] t).f3 ha hlt (y := (yr : Int)) ⟨by omega, by have := HY9.out; omega⟩
         have hs2 := rSeen HV.out ht (trU D [] t).f3 hbl hlt (y := (yr : Int)) ⟨by omega, by have := HY9.out; omega⟩
         have htk : (T.take (m + 1)).all (tellP a b (yr : Int) k) = (seenB (fn (V8 t)) k (yr : Int) a && !seenB (fn (V8 t)) k (yr : Int) b) := by
          rw [List.take_add_one, List.getElem?_eq_getElem hlmT, Option.toList_some, List.all_append, HTK.out, hTt]
          simp [tellP]
         obtain ⟨p1, hp1⟩ : ∃ z, seenB (fn (V8 t)) k (yr : Int) a = z := ⟨_, rfl⟩
         obtain ⟨p2, hp2⟩ : ∃ z, seenB (fn (V8 t)) k (yr : Int) b = z := ⟨_, rfl⟩
         rw [hp1] at hs1 htk
         rw [hp2] at hs2 htk
         have HS1 := Aside0.mk hs1
         have HS2 := Aside0.mk hs2
         have HTN := Aside0.mk htk
         clear hs1 hs2 htk hp1 hp2 hTt hrt hll ht HTK
         skip
         have G0 := Aside0.mk g0
         have G2 := Aside0.mk g2
         have G3 := Aside0.mk g3
         have LL := Aside0.mk (And.intro l0 (And.intro l2 l3))
         have EE := Aside0.mk (And.intro e0 (And.intro e1 (And.intro e2 e3)))
         clear l0 l2 l3 g0 g2 g3
         go_wp2_with fail
         clear e0 e1 e2 e3
         refine (r7_Seen.calls B0 d0 _ _ B2 d2' _ B3 d3 _ (a : Int) (k : Int) (yr : Int) p1 w200 G0.out LL.out.1 G2.out LL.out.2.1 G3.out LL.out.2.2 HS1.out).mono ?_
         rintro e w201 ⟨rfl, hb⟩
         have e0 := cell_bl EE.out.1 hb
         have e1 := cell_bl EE.out.2.1 hb
         have e2 := cell_bl EE.out.2.2.1 hb
         have e3 := cell_bl EE.out.2.2.2 hb
         replace HB := Aside0.mk (HB.out.trans (hb.mono HB.out.size))
         replace HS := Aside0.mk (blk_below HS.out hb)
         replace HBr := Aside0.mk (HBr.out.trans (hb.mono HBr.out.size))
         replace HBi := Aside0.mk (HBi.out.trans (hb.mono HBi.out.size))
         replace HC1 := Aside0.mk (Kd.C_below HC1.out hb)
         replace HCT := Aside0.mk (Kd.C_below HCT.out hb)
         replace G0 := Aside0.mk (Kd.C_below G0.out hb)
         replace G2 := Aside0.mk (Kd.C_below G2.out hb)
         replace G3 := Aside0.mk (Kd.C_below G3.out hb)
         clear hb
         cases p1
         ·
          go_wp2_with fail
          go_roundw
          case rel => exact ⟨m + 1, by omega, by go_num, by rw [HTN.out]; first | rfl | (cases p2 <;> rfl), HBi⟩
          case measure => simp [intOf]; omega
         ·
          go_wp2_with fail
          clear e0 e1 e2 e3
          refine (r7_Seen.calls B0 d0 _ _ B2 d2' _ B3 d3 _ (b : Int) (k : Int) (yr : Int) p2 w201 G0.out LL.out.1 G2.out LL.out.2.1 G3.out LL.out.2.2 HS2.out).mono ?_
          rintro e w202 ⟨rfl, hb⟩
          replace HB := Aside0.mk (HB.out.trans (hb.mono HB.out.size))
          replace HS := Aside0.mk (blk_below HS.out hb)
          replace HBr := Aside0.mk (HBr.out.trans (hb.mono HBr.out.size))
          replace HBi := Aside0.mk (HBi.out.trans (hb.mono HBi.out.size))
          replace HC1 := Aside0.mk (Kd.C_below HC1.out hb)
          replace HCT := Aside0.mk (Kd.C_below HCT.out hb)
          replace G0 := Aside0.mk (Kd.C_below G0.out hb)
          replace G2 := Aside0.mk (Kd.C_below G2.out hb)
          replace G3 := Aside0.mk (Kd.C_below G3.out hb)
          clear hb
          go_wp2_with fail
          go_roundw
          case rel => exact ⟨m + 1, by omega, by go_num, by rw [HTN.out]; first | rfl | (cases p2 <;> rfl), HBi⟩
          case measure => simp [intOf]; omega
       ·
        have hml : m = T.length := by have := HTL.out; omega
        have htr : tl = false := by rw [← HTK.out, hml, List.take_length]; exact HAL.out
        subst htr
        have hlm2 : ¬ ((m : Int) < (RR.length : Int)) := by omega
        clear HTK
        go_wp2_with fail
        refine (r1_Has.calls Kp A1 c1' L1 (k : Int) false w200 HC1.out HN1.out HKp.out).mono ?_
        rintro e wq ⟨rfl, nd, rfl⟩
        have hb : Below w200.heap.size w200 (w200.drewN nd) := pw_below_drewN (Below.refl _ _) nd
        replace HB := Aside0.mk (HB.out.trans (hb.mono HB.out.size))
        replace HS := Aside0.mk (blk_below HS.out hb)
        replace HBr := Aside0.mk (HBr.out.trans (hb.mono HBr.out.size))
        replace HC1 := Aside0.mk (Kd.C_below HC1.out hb)
        replace HCT := Aside0.mk (Kd.C_below HCT.out hb)
        clear hb
        generalize w200.drewN nd = w201 at HB HS HBr HC1 HCT ⊢
        go_wp2_with fail
        go_roundw
        case rel => exact ⟨k + 1, by omega, by go_num, HBr⟩
        case measure => simp [intOf]; omega
    ·
     obtain rfl : k = D.gl.length := by omega
     have k0 := (blk_cell HS.out 0).trans rfl
     have k1 := (blk_cell HS.out 1).trans rfl
     have k2 := (blk_cell HS.out 2).trans rfl
     have k3 := (blk_cell HS.out 3).trans rfl
     have k4 := (blk_cell HS.out 4).trans rfl
     have kl := blk_lt HS.out
     go_wp2_with fail
     clear k0 k1 k2 k3 k4 kl
     refine (Awake_calls _).mono ?_
     rintro e wA ⟨rfl, hb⟩
     replace HB := Aside0.mk (HB.out.trans (hb.mono HB.out.size))
     clear hb
     go_wp2
     go_ret
     exact ⟨rfl, by first | exact HB.out | (rw [← hq]; exact HB.out)⟩
  ·
   skip
   have k0 := (blk_cell HS.out 0).trans rfl
   have k1 := (blk_cell HS.out 1).trans rfl
   have k2 := (blk_cell HS.out 2).trans rfl
   have k3 := (blk_cell HS.out 3).trans rfl
   have k4 := (blk_cell HS.out 4).trans rfl
   have kl := blk_lt HS.out
   go_upto_region 12 with (fail)
   clear k0 k1 k2 k3 k4 kl hdl hdl2 HMID
   have k0 := (blk_cell HS.out 0).trans rfl
   have k1 := (blk_cell HS.out 1).trans rfl
   have k2 := (blk_cell HS.out 2).trans rfl
   have k3 := (blk_cell HS.out 3).trans rfl
   have k4 := (blk_cell HS.out 4).trans rfl
   have kl := blk_lt HS.out
   go_wp2_with fail
   clear k0 k1 k2 k3 k4 kl
   have hA := HA.out.below HB.out
   refine (r7_Truths.calls KT A0 c0 D.gl D.lo D.hi A3 c3 D.sp A4 c4 D.dr none 0 [] (truthsR D []) w5 hA.g hA.gc hA.s hA.sc hA.d hA.dc ⟨rfl, by simp, fun hx => absurd hx (by simp)⟩ (Nat.le_refl _) HKT.out).mono ?_
   clear hA
   rintro e w6 ⟨v0, rfl, hn, hb⟩
   obtain ⟨AT, cT, rfl, _, hC⟩ := Kd.N_reads hn
   obtain ⟨RR, hRR⟩ : ∃ R, truthsR D [] = R := ⟨_, rfl⟩
   rw [hRR] at hC HAT HTL ⊢
   have HCT := Aside0.mk hC
   clear hn hC HKT hRR
   replace HB := Aside0.mk (HB.out.trans (hb.mono HB.out.size))
   replace HS := Aside0.mk (blk_below HS.out hb)
   replace HC1 := Aside0.mk (Kd.C_below HC1.out hb)
   clear hb
   have k0 := (blk_cell HS.out 0).trans rfl
   have k1 := (blk_cell HS.out 1).trans rfl
   have k2 := (blk_cell HS.out 2).trans rfl
   have k3 := (blk_cell HS.out 3).trans rfl
   have k4 := (blk_cell HS.out 4).trans rfl
   have kl := blk_lt HS.out
   go_wp2_with fail
   clear k0 k1 k2 k3 k4 kl
   go_loopw [16] (fun j wr => ∃ k : Nat, k ≤ D.gl.length ∧ j = .int .i64 k ∧ Aside0 (Below w6.heap.size w6 wr)) (fun j _ => D.gl.length - (intOf j).toNat)
   case atStart => exact ⟨0, Nat.zero_le _, rfl, ⟨Below.refl _ _⟩⟩
   case round =>
    obtain ⟨k, hk, rfl, HBr⟩ := hrel
    have hb := HBr.out
    replace HB := Aside0.mk (HB.out.trans (hb.mono HB.out.size))
    replace HS := Aside0.mk (blk_below HS.out hb)
    replace HC1 := Aside0.mk (Kd.C_below HC1.out hb)
    replace HCT := Aside0.mk (Kd.C_below HCT.out hb)
    clear hb
    generalize wr = w100 at HBr HB HS HC1 HCT ⊢
    by_cases hlt : k < D.gl.length
    ·
     have HES := Aside0.mk (enter_yes HSB.out (ask_sees (D := D) (y := yr) hlt (by have := HY9.out; omega)))
     have HQ := Aside0.mk (seesF_eq HES.out)
     have k0 := (blk_cell HS.out 0).trans rfl
     have k1 := (blk_cell HS.out 1).trans rfl
     have k2 := (blk_cell HS.out 2).trans rfl
     have k3 := (blk_cell HS.out 3).trans rfl
     have k4 := (blk_cell HS.out 4).trans rfl
     have kl := blk_lt HS.out
     go_wp2_with fail
     clear k0 k1 k2 k3 k4 kl
     have hA := HA.out.below HB.out
     refine (Sees_calls D A0 c0 A3 c3 A4 c4 (k : Int) (yr : Int) w100 hA).mono ?_
     clear hA
     rw [HES.out, HQ.out]
     rintro e w101 ⟨⟨u, v, rfl, hn, m', _, _, hn2⟩, hb⟩
     obtain ⟨A2, c2', rfl, hc2, _, hC2⟩ := NewRow.rowI (l := sureL D k (yr : Int)) hn
     obtain ⟨A3', d2, rfl, hd2, _, hD2⟩ := NewRow.rowI (l := mayL D k (yr : Int)) hn2
     obtain ⟨L2, hL2⟩ : ∃ L, ints (sureL D k (yr : Int)) = L := ⟨_, rfl⟩
     obtain ⟨L3, hL3⟩ : ∃ L, ints (mayL D k (yr : Int)) = L := ⟨_, rfl⟩
     rw [hL2] at hC2 hc2 ⊢
     rw [hL3] at hD2 hd2 ⊢
     have HC2 := Aside0.mk hC2
     have HD2 := Aside0.mk hD2
     have HN2 := Aside0.mk (And.intro hc2 hd2)
     have EL2 := Aside0.mk hL2
     have EL3 := Aside0.mk hL3
     clear hn hn2 hC2 hD2 hc2 hd2 hL2 hL3 HES HQ
     replace HB := Aside0.mk (HB.out.trans (hb.mono HB.out.size))
     replace HS := Aside0.mk (blk_below HS.out hb)
     replace HBr := Aside0.mk (HBr.out.trans (hb.mono HBr.out.size))
     replace HC1 := Aside0.mk (Kd.C_below HC1.out hb)
     replace HCT := Aside0.mk (Kd.C_below HCT.out hb)
     clear hb
     go_upto_region 17 with (fail)
     obtain ⟨sa, hsa⟩ : ∃ z, sureP D k (yr : Int) a = z := ⟨_, rfl⟩
     obtain ⟨mb, hmb⟩ : ∃ z, mayP D k (yr : Int) b = z := ⟨_, rfl⟩
     have hall := tell_all D a b (yr : Int) k
     rw [hsa, hmb, HTT.out] at hall
     have hpl : (sureP D k (yr : Int) a && !mayP D k (yr : Int) b) = (sa && !mb) := by rw [hsa, hmb]
     obtain ⟨Ks, hKs⟩ : ∃ K, r1_Has.f K L2 (a : Int) = some sa := by
      have hr := (rHas L2 (by rw [← EL2.out, List.length_map]; exact Nat.le_trans (filter_len _ _) (by omega)) a).rounds
      rw [← EL2.out] at hr ⊢
      rw [show hasB (ints (sureL D k (yr : Int))) a = sa from (has_filter ha).trans hsa] at hr
      exact hr
     have HKs := Aside0.mk hKs
     obtain ⟨Km, hKm⟩ : ∃ K, r1_Has.f K L3 (b : Int) = some mb := by
      have hr := (rHas L3 (by rw [← EL3.out, List.length_map]; exact Nat.le_trans (filter_len _ _) (by omega)) b).rounds
      rw [← EL3.out] at hr ⊢
      rw [show hasB (ints (mayL D k (yr : Int))) b = mb from (has_filter hbl).trans hmb] at hr
      exact hr
     have HKm := Aside0.mk hKm
     obtain ⟨Kp, hKp⟩ : ∃ K, r1_Has.f K L1 (k : Int) = some (sa && !mb) := by
      have hr := (rHas L1 (by rw [← EL1.out, List.length_map]; exact Nat.le_trans (filter_len _ _) (by omega)) k).rounds
      rw [← EL1.out] at hr ⊢
      rw [show hasB (ints (partL D a b (yr : Int))) k = (sa && !mb) from (has_filter hlt).trans hpl] at hr
      exact hr
     have HKp := Aside0.mk hKp
     have HALL := Aside0.mk hall
     clear hall hpl hsa hmb hKs hKm hKp
     have hcs : (sa = false) ∨ (sa = true ∧ mb = false) ∨ (sa = true ∧ mb = true) := by cases sa; exact .inl rfl; cases mb; exact .inr (.inl ⟨rfl, rfl⟩); exact .inr (.inr ⟨rfl, rfl⟩)
     rcases hcs with rfl | ⟨rfl, rfl⟩ | ⟨rfl, rfl⟩
     ·
      go_wp2_with fail
      refine (r1_Has.calls Ks A2 c2' L2 (a : Int) false w101 HC2.out HN2.out.1 HKs.out).mono ?_
      rintro e wq ⟨rfl, nd, rfl⟩
      have hb : Below w101.heap.size w101 (w101.drewN nd) := pw_below_drewN (Below.refl _ _) nd
      replace HB := Aside0.mk (HB.out.trans (hb.mono HB.out.size))
      replace HS := Aside0.mk (blk_below HS.out hb)
      replace HBr := Aside0.mk (HBr.out.trans (hb.mono HBr.out.size))
      replace HC1 := Aside0.mk (Kd.C_below HC1.out hb)
      replace HCT := Aside0.mk (Kd.C_below HCT.out hb)
      replace HC2 := Aside0.mk (Kd.C_below HC2.out hb)
      replace HD2 := Aside0.mk (Kd.C_below HD2.out hb)
      clear hb
      generalize w101.drewN nd = w102 at HB HS HBr HC1 HCT HC2 HD2 ⊢
      go_wp2_with fail
      refine (r1_Has.calls Kp A1 c1' L1 (k : Int) false w102 HC1.out HN1.out HKp.out).mono ?_
      rintro e wq ⟨rfl, nd, rfl⟩
      have hb : Below w102.heap.size w102 (w102.drewN nd) := pw_below_drewN (Below.refl _ _) nd
      replace HB := Aside0.mk (HB.out.trans (hb.mono HB.out.size))
      replace HS := Aside0.mk (blk_below HS.out hb)
      replace HBr := Aside0.mk (HBr.out.trans (hb.mono HBr.out.size))
      replace HC1 := Aside0.mk (Kd.C_below HC1.out hb)
      replace HCT := Aside0.mk (Kd.C_below HCT.out hb)
      replace HC2 := Aside0.mk (Kd.C_below HC2.out hb)
      replace HD2 := Aside0.mk (Kd.C_below HD2.out hb)
      clear hb
      generalize w102.drewN nd = w103 at HB HS HBr HC1 HCT HC2 HD2 ⊢
      clear HC2 HD2 HN2 EL2 EL3 HKs HKm
      have hall2 : T.all (tellP a b (yr : Int) k) = false := HALL.out.trans (by first | rfl | (cases mb <;> rfl))
      have HAL := Aside0.mk hall2
      clear hall2 HALL
      go_wp2_with fail
      go_loopw [20, 21] (fun b0 j wr => ∃ m : Nat, m ≤ T.length ∧ j = .int .i64 m ∧ b0 = .bool ((T.take m).all (tellP a b (yr : Int) k)) ∧ Aside0 (Below w103.heap.size w103 wr)) (fun _ j _ => T.length - (intOf j).toNat)
      case atStart => exact ⟨0, Nat.zero_le _, rfl, rfl, ⟨Below.refl _ _⟩⟩
      case round =>
       obtain ⟨m, hm, rfl, rfl, HBi⟩ := hrel
       have hb := HBi.out
       replace HB := Aside0.mk (HB.out.trans (hb.mono HB.out.size))
       replace HS := Aside0.mk (blk_below HS.out hb)
       replace HBr := Aside0.mk (HBr.out.trans (hb.mono HBr.out.size))
       replace HC1 := Aside0.mk (Kd.C_below HC1.out hb)
       replace HCT := Aside0.mk (Kd.C_below HCT.out hb)
       clear hb
       generalize wr = w200 at HBi HB HS HBr HC1 HCT ⊢
       obtain ⟨tl, htl⟩ : ∃ z, (T.take m).all (tellP a b (yr : Int) k) = z := ⟨_, rfl⟩
       rw [htl]
       have HTK := Aside0.mk htl
       clear htl
       have hmR : (m < T.length) = (m < RR.length) := by rw [HTL.out]
       by_cases hlm : m < RR.length
       ·
        have hlmT : m < T.length := by have := HTL.out; omega
        cases tl
        ·
         clear HTK
         go_wp2_with fail
         refine (r1_Has.calls Kp A1 c1' L1 (k : Int) false w200 HC1.out HN1.out HKp.out).mono ?_
         rintro e wq ⟨rfl, nd, rfl⟩
         have hb : Below w200.heap.size w200 (w200.drewN nd) := pw_below_drewN (Below.refl _ _) nd
         replace HB := Aside0.mk (HB.out.trans (hb.mono HB.out.size))
         replace HS := Aside0.mk (blk_below HS.out hb)
         replace HBr := Aside0.mk (HBr.out.trans (hb.mono HBr.out.size))
         replace HC1 := Aside0.mk (Kd.C_below HC1.out hb)
         replace HCT := Aside0.mk (Kd.C_below HCT.out hb)
         clear hb
         generalize w200.drewN nd = w201 at HB HS HBr HC1 HCT ⊢
         go_wp2_with fail
         go_roundw
         case rel => exact ⟨k + 1, by omega, by go_num, HBr⟩
         case measure => simp [intOf]; omega
        ·
         have hlm2 : (m : Int) < (RR.length : Int) := by omega
         have hRl : RR.length ≤ 6561 := by have := HTL.out; have := HTE.out; omega
         obtain ⟨t, ht, hrt, hTt⟩ := HAT.out m hlmT
         have hll := mem_all HV.out ht
         obtain ⟨ad, B0, d0, B2, d2', B3, d3, hAD, e0, e1, e2, e3, l0, g0, l2, g2, l3, g3⟩ := at_T56 HCT.out (m : Int) (by omega) (by omega)
         rw [Int.toNat_natCast] at e0 e1 e2 e3
         subst hAD
         rw [hrt] at e0 e1 e2 e3 l0 g0 l2 g2 l3 g3
         have hs1 := rSeen HV.out ht (trU D [] t).f3 ha hlt (y := (yr : Int)) ⟨by omega, by have := HY9.out; omega⟩
         have hs2 := rSeen HV.out ht (trU D [] t).f3 hbl hlt (y := (yr : Int)) ⟨by omega, by have := HY9.out; omega⟩
         have htk : (T.take (m + 1)).all (tellP a b (yr : Int) k) = (seenB (fn (V8 t)) k (yr : Int) a && !seenB (fn (V8 t)) k (yr : Int) b) := by
          rw [List.take_add_one, List.getElem?_eq_getElem hlmT, Option.toList_some, List.all_append, HTK.out, hTt]
          simp [tellP]
         obtain ⟨p1, hp1⟩ : ∃ z, seenB (fn (V8 t)) k (yr : Int) a = z := ⟨_, rfl⟩
         obtain ⟨p2, hp2⟩ : ∃ z, seenB (fn (V8 t)) k (yr : Int) b = z := ⟨_, rfl⟩
         rw [hp1] at hs1 htk
         rw [hp2] at hs2 htk
         have HS1 := Aside0.mk hs1
         have HS2 := Aside0.mk hs2
         have HTN := Aside0.mk htk
         clear hs1 hs2 htk hp1 hp2 hTt hrt hll ht HTK
         skip
         have G0 := Aside0.mk g0
         have G2 := Aside0.mk g2
         have G3 := Aside0.mk g3
         have LL := Aside0.mk (And.intro l0 (And.intro l2 l3))
         have EE := Aside0.mk (And.intro e0 (And.intro e1 (And.intro e2 e3)))
         clear l0 l2 l3 g0 g2 g3
         go_wp2_with fail
         clear e0 e1 e2 e3
         refine (r7_Seen.calls B0 d0 _ _ B2 d2' _ B3 d3 _ (a : Int) (k : Int) (yr : Int) p1 w200 G0.out LL.out.1 G2.out LL.out.2.1 G3.out LL.out.2.2 HS1.out).mono ?_
         rintro e w201 ⟨rfl, hb⟩
         have e0 := cell_bl EE.out.1 hb
         have e1 := cell_bl EE.out.2.1 hb
         have e2 := cell_bl EE.out.2.2.1 hb
         have e3 := cell_bl EE.out.2.2.2 hb
         replace HB := Aside0.mk (HB.out.trans (hb.mono HB.out.size))
         replace HS := Aside0.mk (blk_below HS.out hb)
         replace HBr := Aside0.mk (HBr.out.trans (hb.mono HBr.out.size))
         replace HBi := Aside0.mk (HBi.out.trans (hb.mono HBi.out.size))
         replace HC1 := Aside0.mk (Kd.C_below HC1.out hb)
         replace HCT := Aside0.mk (Kd.C_below HCT.out hb)
         replace G0 := Aside0.mk (Kd.C_below G0.out hb)
         replace G2 := Aside0.mk (Kd.C_below G2.out hb)
         replace G3 := Aside0.mk (Kd.C_below G3.out hb)
         clear hb
         cases p1
         ·
          go_wp2_with fail
          go_roundw
          case rel => exact ⟨m + 1, by omega, by go_num, by rw [HTN.out]; first | rfl | (cases p2 <;> rfl), HBi⟩
          case measure => simp [intOf]; omega
         ·
          go_wp2_with fail
          clear e0 e1 e2 e3
          refine (r7_Seen.calls B0 d0 _ _ B2 d2' _ B3 d3 _ (b : Int) (k : Int) (yr : Int) p2 w201 G0.out LL.out.1 G2.out LL.out.2.1 G3.out LL.out.2.2 HS2.out).mono ?_
          rintro e w202 ⟨rfl, hb⟩
          replace HB := Aside0.mk (HB.out.trans (hb.mono HB.out.size))
          replace HS := Aside0.mk (blk_below HS.out hb)
          replace HBr := Aside0.mk (HBr.out.trans (hb.mono HBr.out.size))
          replace HBi := Aside0.mk (HBi.out.trans (hb.mono HBi.out.size))
          replace HC1 := Aside0.mk (Kd.C_below HC1.out hb)
          replace HCT := Aside0.mk (Kd.C_below HCT.out hb)
          replace G0 := Aside0.mk (Kd.C_below G0.out hb)
          replace G2 := Aside0.mk (Kd.C_below G2.out hb)
          replace G3 := Aside0.mk (Kd.C_below G3.out hb)
          clear hb
          go_wp2_with fail
          go_roundw
          case rel => exact ⟨m + 1, by omega, by go_num, by rw [HTN.out]; first | rfl | (cases p2 <;> rfl), HBi⟩
          case measure => simp [intOf]; omega
       ·
        have hml : m = T.length := by have := HTL.out; omega
        have htr : tl = false := by rw [← HTK.out, hml, List.take_length]; exact HAL.out
        subst htr
        have hlm2 : ¬ ((m : Int) < (RR.length : Int)) := by omega
        clear HTK
        go_wp2_with fail
        refine (r1_Has.calls Kp A1 c1' L1 (k : Int) false w200 HC1.out HN1.out HKp.out).mono ?_
        rintro e wq ⟨rfl, nd, rfl⟩
        have hb : Below w200.heap.size w200 (w200.drewN nd) := pw_below_drewN (Below.refl _ _) nd
        replace HB := Aside0.mk (HB.out.trans (hb.mono HB.out.size))
        replace HS := Aside0.mk (blk_below HS.out hb)
        replace HBr := Aside0.mk (HBr.out.trans (hb.mono HBr.out.size))
        replace HC1 := Aside0.mk (Kd.C_below HC1.out hb)
        replace HCT := Aside0.mk (Kd.C_below HCT.out hb)
        clear hb
        generalize w200.drewN nd = w201 at HB HS HBr HC1 HCT ⊢
        go_wp2_with fail
        go_roundw
        case rel => exact ⟨k + 1, by omega, by go_num, HBr⟩
        case measure => simp [intOf]; omega
     ·
      go_wp2_with fail
      refine (r1_Has.calls Ks A2 c2' L2 (a : Int) true w101 HC2.out HN2.out.1 HKs.out).mono ?_
      rintro e wq ⟨rfl, nd, rfl⟩
      have hb : Below w101.heap.size w101 (w101.drewN nd) := pw_below_drewN (Below.refl _ _) nd
      replace HB := Aside0.mk (HB.out.trans (hb.mono HB.out.size))
      replace HS := Aside0.mk (blk_below HS.out hb)
      replace HBr := Aside0.mk (HBr.out.trans (hb.mono HBr.out.size))
      replace HC1 := Aside0.mk (Kd.C_below HC1.out hb)
      replace HCT := Aside0.mk (Kd.C_below HCT.out hb)
      replace HC2 := Aside0.mk (Kd.C_below HC2.out hb)
      replace HD2 := Aside0.mk (Kd.C_below HD2.out hb)
      clear hb
      generalize w101.drewN nd = w102 at HB HS HBr HC1 HCT HC2 HD2 ⊢
      go_wp2_with fail
      refine (r1_Has.calls Km A3' d2 L3 (b : Int) false w102 HD2.out HN2.out.2 HKm.out).mono ?_
      rintro e wq ⟨rfl, nd, rfl⟩
      have hb : Below w102.heap.size w102 (w102.drewN nd) := pw_below_drewN (Below.refl _ _) nd
      replace HB := Aside0.mk (HB.out.trans (hb.mono HB.out.size))
      replace HS := Aside0.mk (blk_below HS.out hb)
      replace HBr := Aside0.mk (HBr.out.trans (hb.mono HBr.out.size))
      replace HC1 := Aside0.mk (Kd.C_below HC1.out hb)
      replace HCT := Aside0.mk (Kd.C_below HCT.out hb)
      replace HC2 := Aside0.mk (Kd.C_below HC2.out hb)
      replace HD2 := Aside0.mk (Kd.C_below HD2.out hb)
      clear hb
      generalize w102.drewN nd = w103 at HB HS HBr HC1 HCT HC2 HD2 ⊢
      go_wp2_with fail
      refine (r1_Has.calls Kp A1 c1' L1 (k : Int) true w103 HC1.out HN1.out HKp.out).mono ?_
      rintro e wq ⟨rfl, nd, rfl⟩
      have hb : Below w103.heap.size w103 (w103.drewN nd) := pw_below_drewN (Below.refl _ _) nd
      replace HB := Aside0.mk (HB.out.trans (hb.mono HB.out.size))
      replace HS := Aside0.mk (blk_below HS.out hb)
      replace HBr := Aside0.mk (HBr.out.trans (hb.mono HBr.out.size))
      replace HC1 := Aside0.mk (Kd.C_below HC1.out hb)
      replace HCT := Aside0.mk (Kd.C_below HCT.out hb)
      replace HC2 := Aside0.mk (Kd.C_below HC2.out hb)
      replace HD2 := Aside0.mk (Kd.C_below HD2.out hb)
      clear hb
      generalize w103.drewN nd = w104 at HB HS HBr HC1 HCT HC2 HD2 ⊢
      clear HC2 HD2 HN2 EL2 EL3 HKs HKm
      have hall2 : T.all (tellP a b (yr : Int) k) = true := HALL.out.trans (by first | rfl | (cases mb <;> rfl))
      have HAL := Aside0.mk hall2
      clear hall2 HALL
      go_wp2_with fail
      go_loopw [20, 21] (fun b0 j wr => ∃ m : Nat, m ≤ T.length ∧ j = .int .i64 m ∧ b0 = .bool ((T.take m).all (tellP a b (yr : Int) k)) ∧ Aside0 (Below w104.heap.size w104 wr)) (fun _ j _ => T.length - (intOf j).toNat)
      case atStart => exact ⟨0, Nat.zero_le _, rfl, rfl, ⟨Below.refl _ _⟩⟩
      case round =>
       obtain ⟨m, hm, rfl, rfl, HBi⟩ := hrel
       have hb := HBi.out
       replace HB := Aside0.mk (HB.out.trans (hb.mono HB.out.size))
       replace HS := Aside0.mk (blk_below HS.out hb)
       replace HBr := Aside0.mk (HBr.out.trans (hb.mono HBr.out.size))
       replace HC1 := Aside0.mk (Kd.C_below HC1.out hb)
       replace HCT := Aside0.mk (Kd.C_below HCT.out hb)
       clear hb
       generalize wr = w200 at HBi HB HS HBr HC1 HCT ⊢
       obtain ⟨tl, htl⟩ : ∃ z, (T.take m).all (tellP a b (yr : Int) k) = z := ⟨_, rfl⟩
       rw [htl]
       have HTK := Aside0.mk htl
       clear htl
       have hmR : (m < T.length) = (m < RR.length) := by rw [HTL.out]
       by_cases hlm : m < RR.length
       ·
        have hlmT : m < T.length := by have := HTL.out; omega
        cases tl
        ·
         exfalso
         have h1 := HAL.out
         have h2 := HTK.out
         rw [List.all_eq_true] at h1
         rw [List.all_eq_false] at h2
         obtain ⟨x, hx, hx2⟩ := h2
         exact hx2 (h1 x (List.mem_of_mem_take hx))
        ·
         have hlm2 : (m : Int) < (RR.length : Int) := by omega
         have hRl : RR.length ≤ 6561 := by have := HTL.out; have := HTE.out; omega
         obtain ⟨t, ht, hrt, hTt⟩ := HAT.out m hlmT
         have hll := mem_all HV.out ht
         obtain ⟨ad, B0, d0, B2, d2', B3, d3, hAD, e0, e1, e2, e3, l0, g0, l2, g2, l3, g3⟩ := at_T56 HCT.out (m : Int) (by omega) (by omega)
         rw [Int.toNat_natCast] at e0 e1 e2 e3
         subst hAD
         rw [hrt] at e0 e1 e2 e3 l0 g0 l2 g2 l3 g3
         have hs1 := rSeen HV.out ht (trU D [] t).f3 ha hlt (y := (yr : Int)) ⟨by omega, by have := HY9.out; omega⟩
         have hs2 := rSeen HV.out ht (trU D [] t).f3 hbl hlt (y := (yr : Int)) ⟨by omega, by have := HY9.out; omega⟩
         have htk : (T.take (m + 1)).all (tellP a b (yr : Int) k) = (seenB (fn (V8 t)) k (yr : Int) a && !seenB (fn (V8 t)) k (yr : Int) b) := by
          rw [List.take_add_one, List.getElem?_eq_getElem hlmT, Option.toList_some, List.all_append, HTK.out, hTt]
          simp [tellP]
         obtain ⟨p1, hp1⟩ : ∃ z, seenB (fn (V8 t)) k (yr : Int) a = z := ⟨_, rfl⟩
         obtain ⟨p2, hp2⟩ : ∃ z, seenB (fn (V8 t)) k (yr : Int) b = z := ⟨_, rfl⟩
         rw [hp1] at hs1 htk
         rw [hp2] at hs2 htk
         have HS1 := Aside0.mk hs1
         have HS2 := Aside0.mk hs2
         have HTN := Aside0.mk htk
         clear hs1 hs2 htk hp1 hp2 hTt hrt hll ht HTK
         skip
         have G0 := Aside0.mk g0
         have G2 := Aside0.mk g2
         have G3 := Aside0.mk g3
         have LL := Aside0.mk (And.intro l0 (And.intro l2 l3))
         have EE := Aside0.mk (And.intro e0 (And.intro e1 (And.intro e2 e3)))
         clear l0 l2 l3 g0 g2 g3
         go_wp2_with fail
         clear e0 e1 e2 e3
         refine (r7_Seen.calls B0 d0 _ _ B2 d2' _ B3 d3 _ (a : Int) (k : Int) (yr : Int) p1 w200 G0.out LL.out.1 G2.out LL.out.2.1 G3.out LL.out.2.2 HS1.out).mono ?_
         rintro e w201 ⟨rfl, hb⟩
         have e0 := cell_bl EE.out.1 hb
         have e1 := cell_bl EE.out.2.1 hb
         have e2 := cell_bl EE.out.2.2.1 hb
         have e3 := cell_bl EE.out.2.2.2 hb
         replace HB := Aside0.mk (HB.out.trans (hb.mono HB.out.size))
         replace HS := Aside0.mk (blk_below HS.out hb)
         replace HBr := Aside0.mk (HBr.out.trans (hb.mono HBr.out.size))
         replace HBi := Aside0.mk (HBi.out.trans (hb.mono HBi.out.size))
         replace HC1 := Aside0.mk (Kd.C_below HC1.out hb)
         replace HCT := Aside0.mk (Kd.C_below HCT.out hb)
         replace G0 := Aside0.mk (Kd.C_below G0.out hb)
         replace G2 := Aside0.mk (Kd.C_below G2.out hb)
         replace G3 := Aside0.mk (Kd.C_below G3.out hb)
         clear hb
         cases p1
         ·
          go_wp2_with fail
          go_roundw
          case rel => exact ⟨m + 1, by omega, by go_num, by rw [HTN.out]; first | rfl | (cases p2 <;> rfl), HBi⟩
          case measure => simp [intOf]; omega
         ·
          go_wp2_with fail
          clear e0 e1 e2 e3
          refine (r7_Seen.calls B0 d0 _ _ B2 d2' _ B3 d3 _ (b : Int) (k : Int) (yr : Int) p2 w201 G0.out LL.out.1 G2.out LL.out.2.1 G3.out LL.out.2.2 HS2.out).mono ?_
          rintro e w202 ⟨rfl, hb⟩
          replace HB := Aside0.mk (HB.out.trans (hb.mono HB.out.size))
          replace HS := Aside0.mk (blk_below HS.out hb)
          replace HBr := Aside0.mk (HBr.out.trans (hb.mono HBr.out.size))
          replace HBi := Aside0.mk (HBi.out.trans (hb.mono HBi.out.size))
          replace HC1 := Aside0.mk (Kd.C_below HC1.out hb)
          replace HCT := Aside0.mk (Kd.C_below HCT.out hb)
          replace G0 := Aside0.mk (Kd.C_below G0.out hb)
          replace G2 := Aside0.mk (Kd.C_below G2.out hb)
          replace G3 := Aside0.mk (Kd.C_below G3.out hb)
          clear hb
          go_wp2_with fail
          go_roundw
          case rel => exact ⟨m + 1, by omega, by go_num, by rw [HTN.out]; first | rfl | (cases p2 <;> rfl), HBi⟩
          case measure => simp [intOf]; omega
       ·
        have hml : m = T.length := by have := HTL.out; omega
        have htr : tl = true := by rw [← HTK.out, hml, List.take_length]; exact HAL.out
        subst htr
        have hlm2 : ¬ ((m : Int) < (RR.length : Int)) := by omega
        clear HTK
        go_wp2_with fail
        refine (r1_Has.calls Kp A1 c1' L1 (k : Int) true w200 HC1.out HN1.out HKp.out).mono ?_
        rintro e wq ⟨rfl, nd, rfl⟩
        have hb : Below w200.heap.size w200 (w200.drewN nd) := pw_below_drewN (Below.refl _ _) nd
        replace HB := Aside0.mk (HB.out.trans (hb.mono HB.out.size))
        replace HS := Aside0.mk (blk_below HS.out hb)
        replace HBr := Aside0.mk (HBr.out.trans (hb.mono HBr.out.size))
        replace HC1 := Aside0.mk (Kd.C_below HC1.out hb)
        replace HCT := Aside0.mk (Kd.C_below HCT.out hb)
        clear hb
        generalize w200.drewN nd = w201 at HB HS HBr HC1 HCT ⊢
        go_wp2_with fail
        go_roundw
        case rel => exact ⟨k + 1, by omega, by go_num, HBr⟩
        case measure => simp [intOf]; omega
     ·
      go_wp2_with fail
      refine (r1_Has.calls Ks A2 c2' L2 (a : Int) true w101 HC2.out HN2.out.1 HKs.out).mono ?_
      rintro e wq ⟨rfl, nd, rfl⟩
      have hb : Below w101.heap.size w101 (w101.drewN nd) := pw_below_drewN (Below.refl _ _) nd
      replace HB := Aside0.mk (HB.out.trans (hb.mono HB.out.size))
      replace HS := Aside0.mk (blk_below HS.out hb)
      replace HBr := Aside0.mk (HBr.out.trans (hb.mono HBr.out.size))
      replace HC1 := Aside0.mk (Kd.C_below HC1.out hb)
      replace HCT := Aside0.mk (Kd.C_below HCT.out hb)
      replace HC2 := Aside0.mk (Kd.C_below HC2.out hb)
      replace HD2 := Aside0.mk (Kd.C_below HD2.out hb)
      clear hb
      generalize w101.drewN nd = w102 at HB HS HBr HC1 HCT HC2 HD2 ⊢
      go_wp2_with fail
      refine (r1_Has.calls Km A3' d2 L3 (b : Int) true w102 HD2.out HN2.out.2 HKm.out).mono ?_
      rintro e wq ⟨rfl, nd, rfl⟩
      have hb : Below w102.heap.size w102 (w102.drewN nd) := pw_below_drewN (Below.refl _ _) nd
      replace HB := Aside0.mk (HB.out.trans (hb.mono HB.out.size))
      replace HS := Aside0.mk (blk_below HS.out hb)
      replace HBr := Aside0.mk (HBr.out.trans (hb.mono HBr.out.size))
      replace HC1 := Aside0.mk (Kd.C_below HC1.out hb)
      replace HCT := Aside0.mk (Kd.C_below HCT.out hb)
      replace HC2 := Aside0.mk (Kd.C_below HC2.out hb)
      replace HD2 := Aside0.mk (Kd.C_below HD2.out hb)
      clear hb
      generalize w102.drewN nd = w103 at HB HS HBr HC1 HCT HC2 HD2 ⊢
      go_wp2_with fail
      refine (r1_Has.calls Kp A1 c1' L1 (k : Int) false w103 HC1.out HN1.out HKp.out).mono ?_
      rintro e wq ⟨rfl, nd, rfl⟩
      have hb : Below w103.heap.size w103 (w103.drewN nd) := pw_below_drewN (Below.refl _ _) nd
      replace HB := Aside0.mk (HB.out.trans (hb.mono HB.out.size))
      replace HS := Aside0.mk (blk_below HS.out hb)
      replace HBr := Aside0.mk (HBr.out.trans (hb.mono HBr.out.size))
      replace HC1 := Aside0.mk (Kd.C_below HC1.out hb)
      replace HCT := Aside0.mk (Kd.C_below HCT.out hb)
      replace HC2 := Aside0.mk (Kd.C_below HC2.out hb)
      replace HD2 := Aside0.mk (Kd.C_below HD2.out hb)
      clear hb
      generalize w103.drewN nd = w104 at HB HS HBr HC1 HCT HC2 HD2 ⊢
      clear HC2 HD2 HN2 EL2 EL3 HKs HKm
      have hall2 : T.all (tellP a b (yr : Int) k) = false := HALL.out.trans (by first | rfl | (cases mb <;> rfl))
      have HAL := Aside0.mk hall2
      clear hall2 HALL
      go_wp2_with fail
      go_loopw [20, 21] (fun b0 j wr => ∃ m : Nat, m ≤ T.length ∧ j = .int .i64 m ∧ b0 = .bool ((T.take m).all (tellP a b (yr : Int) k)) ∧ Aside0 (Below w104.heap.size w104 wr)) (fun _ j _ => T.length - (intOf j).toNat)
      case atStart => exact ⟨0, Nat.zero_le _, rfl, rfl, ⟨Below.refl _ _⟩⟩
      case round =>
       obtain ⟨m, hm, rfl, rfl, HBi⟩ := hrel
       have hb := HBi.out
       replace HB := Aside0.mk (HB.out.trans (hb.mono HB.out.size))
       replace HS := Aside0.mk (blk_below HS.out hb)
       replace HBr := Aside0.mk (HBr.out.trans (hb.mono HBr.out.size))
       replace HC1 := Aside0.mk (Kd.C_below HC1.out hb)
       replace HCT := Aside0.mk (Kd.C_below HCT.out hb)
       clear hb
       generalize wr = w200 at HBi HB HS HBr HC1 HCT ⊢
       obtain ⟨tl, htl⟩ : ∃ z, (T.take m).all (tellP a b (yr : Int) k) = z := ⟨_, rfl⟩
       rw [htl]
       have HTK := Aside0.mk htl
       clear htl
       have hmR : (m < T.length) = (m < RR.length) := by rw [HTL.out]
       by_cases hlm : m < RR.length
       ·
        have hlmT : m < T.length := by have := HTL.out; omega
        cases tl
        ·
         clear HTK
         go_wp2_with fail
         refine (r1_Has.calls Kp A1 c1' L1 (k : Int) false w200 HC1.out HN1.out HKp.out).mono ?_
         rintro e wq ⟨rfl, nd, rfl⟩
         have hb : Below w200.heap.size w200 (w200.drewN nd) := pw_below_drewN (Below.refl _ _) nd
         replace HB := Aside0.mk (HB.out.trans (hb.mono HB.out.size))
         replace HS := Aside0.mk (blk_below HS.out hb)
         replace HBr := Aside0.mk (HBr.out.trans (hb.mono HBr.out.size))
         replace HC1 := Aside0.mk (Kd.C_below HC1.out hb)
         replace HCT := Aside0.mk (Kd.C_below HCT.out hb)
         clear hb
         generalize w200.drewN nd = w201 at HB HS HBr HC1 HCT ⊢
         go_wp2_with fail
         go_roundw
         case rel => exact ⟨k + 1, by omega, by go_num, HBr⟩
         case measure => simp [intOf]; omega
        ·
         have hlm2 : (m : Int) < (RR.length : Int) := by omega
         have hRl : RR.length ≤ 6561 := by have := HTL.out; have := HTE.out; omega
         obtain ⟨t, ht, hrt, hTt⟩ := HAT.out m hlmT
         have hll := mem_all HV.out ht
         obtain ⟨ad, B0, d0, B2, d2', B3, d3, hAD, e0, e1, e2, e3, l0, g0, l2, g2, l3, g3⟩ := at_T56 HCT.out (m : Int) (by omega) (by omega)
         rw [Int.toNat_natCast] at e0 e1 e2 e3
         subst hAD
         rw [hrt] at e0 e1 e2 e3 l0 g0 l2 g2 l3 g3
         have hs1 := rSeen HV.out ht (trU D [] t).f3 ha hlt (y := (yr : Int)) ⟨by omega, by have := HY9.out; omega⟩
         have hs2 := rSeen HV.out ht (trU D [] t).f3 hbl hlt (y := (yr : Int)) ⟨by omega, by have := HY9.out; omega⟩
         have htk : (T.take (m + 1)).all (tellP a b (yr : Int) k) = (seenB (fn (V8 t)) k (yr : Int) a && !seenB (fn (V8 t)) k (yr : Int) b) := by
          rw [List.take_add_one, List.getElem?_eq_getElem hlmT, Option.toList_some, List.all_append, HTK.out, hTt]
          simp [tellP]
         obtain ⟨p1, hp1⟩ : ∃ z, seenB (fn (V8 t)) k (yr : Int) a = z := ⟨_, rfl⟩
         obtain ⟨p2, hp2⟩ : ∃ z, seenB (fn (V8 t)) k (yr : Int) b = z := ⟨_, rfl⟩
         rw [hp1] at hs1 htk
         rw [hp2] at hs2 htk
         have HS1 := Aside0.mk hs1
         have HS2 := Aside0.mk hs2
         have HTN := Aside0.mk htk
         clear hs1 hs2 htk hp1 hp2 hTt hrt hll ht HTK
         skip
         have G0 := Aside0.mk g0
         have G2 := Aside0.mk g2
         have G3 := Aside0.mk g3
         have LL := Aside0.mk (And.intro l0 (And.intro l2 l3))
         have EE := Aside0.mk (And.intro e0 (And.intro e1 (And.intro e2 e3)))
         clear l0 l2 l3 g0 g2 g3
         go_wp2_with fail
         clear e0 e1 e2 e3
         refine (r7_Seen.calls B0 d0 _ _ B2 d2' _ B3 d3 _ (a : Int) (k : Int) (yr : Int) p1 w200 G0.out LL.out.1 G2.out LL.out.2.1 G3.out LL.out.2.2 HS1.out).mono ?_
         rintro e w201 ⟨rfl, hb⟩
         have e0 := cell_bl EE.out.1 hb
         have e1 := cell_bl EE.out.2.1 hb
         have e2 := cell_bl EE.out.2.2.1 hb
         have e3 := cell_bl EE.out.2.2.2 hb
         replace HB := Aside0.mk (HB.out.trans (hb.mono HB.out.size))
         replace HS := Aside0.mk (blk_below HS.out hb)
         replace HBr := Aside0.mk (HBr.out.trans (hb.mono HBr.out.size))
         replace HBi := Aside0.mk (HBi.out.trans (hb.mono HBi.out.size))
         replace HC1 := Aside0.mk (Kd.C_below HC1.out hb)
         replace HCT := Aside0.mk (Kd.C_below HCT.out hb)
         replace G0 := Aside0.mk (Kd.C_below G0.out hb)
         replace G2 := Aside0.mk (Kd.C_below G2.out hb)
         replace G3 := Aside0.mk (Kd.C_below G3.out hb)
         clear hb
         cases p1
         ·
          go_wp2_with fail
          go_roundw
          case rel => exact ⟨m + 1, by omega, by go_num, by rw [HTN.out]; first | rfl | (cases p2 <;> rfl), HBi⟩
          case measure => simp [intOf]; omega
         ·
          go_wp2_with fail
          clear e0 e1 e2 e3
          refine (r7_Seen.calls B0 d0 _ _ B2 d2' _ B3 d3 _ (b : Int) (k : Int) (yr : Int) p2 w201 G0.out LL.out.1 G2.out LL.out.2.1 G3.out LL.out.2.2 HS2.out).mono ?_
          rintro e w202 ⟨rfl, hb⟩
          replace HB := Aside0.mk (HB.out.trans (hb.mono HB.out.size))
          replace HS := Aside0.mk (blk_below HS.out hb)
          replace HBr := Aside0.mk (HBr.out.trans (hb.mono HBr.out.size))
          replace HBi := Aside0.mk (HBi.out.trans (hb.mono HBi.out.size))
          replace HC1 := Aside0.mk (Kd.C_below HC1.out hb)
          replace HCT := Aside0.mk (Kd.C_below HCT.out hb)
          replace G0 := Aside0.mk (Kd.C_below G0.out hb)
          replace G2 := Aside0.mk (Kd.C_below G2.out hb)
          replace G3 := Aside0.mk (Kd.C_below G3.out hb)
          clear hb
          go_wp2_with fail
          go_roundw
          case rel => exact ⟨m + 1, by omega, by go_num, by rw [HTN.out]; first | rfl | (cases p2 <;> rfl), HBi⟩
          case measure => simp [intOf]; omega
       ·
        have hml : m = T.length := by have := HTL.out; omega
        have htr : tl = false := by rw [← HTK.out, hml, List.take_length]; exact HAL.out
        subst htr
        have hlm2 : ¬ ((m : Int) < (RR.length : Int)) := by omega
        clear HTK
        go_wp2_with fail
        refine (r1_Has.calls Kp A1 c1' L1 (k : Int) false w200 HC1.out HN1.out HKp.out).mono ?_
        rintro e wq ⟨rfl, nd, rfl⟩
        have hb : Below w200.heap.size w200 (w200.drewN nd) := pw_below_drewN (Below.refl _ _) nd
        replace HB := Aside0.mk (HB.out.trans (hb.mono HB.out.size))
        replace HS := Aside0.mk (blk_below HS.out hb)
        replace HBr := Aside0.mk (HBr.out.trans (hb.mono HBr.out.size))
        replace HC1 := Aside0.mk (Kd.C_below HC1.out hb)
        replace HCT := Aside0.mk (Kd.C_below HCT.out hb)
        clear hb
        generalize w200.drewN nd = w201 at HB HS HBr HC1 HCT ⊢
        go_wp2_with fail
        go_roundw
        case rel => exact ⟨k + 1, by omega, by go_num, HBr⟩
        case measure => simp [intOf]; omega
    ·
     obtain rfl : k = D.gl.length := by omega
     have k0 := (blk_cell HS.out 0).trans rfl
     have k1 := (blk_cell HS.out 1).trans rfl
     have k2 := (blk_cell HS.out 2).trans rfl
     have k3 := (blk_cell HS.out 3).trans rfl
     have k4 := (blk_cell HS.out 4).trans rfl
     have kl := blk_lt HS.out
     go_wp2_with fail
     clear k0 k1 k2 k3 k4 kl
     refine (Awake_calls _).mono ?_
     rintro e wA ⟨rfl, hb⟩
     replace HB := Aside0.mk (HB.out.trans (hb.mono HB.out.size))
     clear hb
     go_wp2
     go_ret
     exact ⟨rfl, by first | exact HB.out | (rw [← hq]; exact HB.out)⟩
end Go.Proofs.Ytgoidclnccjdeaa.D
end
section
/- Package glass: small arrays of ints that came in as_ arguments, opened. -/
namespace Go.Proofs.Ytgoidclnccjdeaa.D
open Go Go.RowKit Go.ChangeShapes Go.WideShapes Go.Deep
set_option linter.unusedVariables false
set_option linter.unusedSectionVars false
section
variable {H : Type} {enc : TypeId × Value → H} {w : World} {base : Nat} {spare : Nat → Bool} {held : Bool} {P : Program}
theorem okWide_array {n : Nat} {e t : TypeId} {r : Reach} {b0 : Nat} {v : Value} (ht : P.underlying t = some (.array n e)) (h : Value.okWide P w r b0 t v) : ∃ cs, v = .agg cs ∧ cs.size = P.cellsOf t := by
 simp only [Value.okWide, ht] at h
 obtain ⟨cs, h1, h2, _⟩ := h
 exact ⟨cs, h1, h2⟩
theorem open_arr3b' {e t : TypeId} {r : Reach} {b0 : Nat} {v : Value} {d : DataW H} {p : List MemPlace} (ht : P.underlying t = some (.array 3 e)) (hc : P.cellsOf t = 3) (he : P.underlying e = some (.int .u8)) (hc1 : P.cellsOf e = 1)
  (hv : Value.okWide P w r b0 t v) (h : DataW.Trod enc P w base spare held t v d p) : ∃ x0 x1 x2 : Int, v = .agg #[.int .u8 x0, .int .u8 x1, .int .u8 x2] ∧ (Lit.int .u8 x0).wf = true ∧ (Lit.int .u8 x1).wf = true ∧ (Lit.int .u8 x2).wf = true := by
 obtain ⟨cs, rfl, hsz⟩ := okWide_array ht hv
 obtain ⟨fuel, hf⟩ := h
 obtain ⟨xs, m, _, _, _, hl, hi⟩ := DataW.trod_array ht hf
 obtain ⟨L⟩ := cs
 rw [hc] at hsz
 match L, hsz with
 | [c0, c1, c2], _ =>
  have g0 := hi 0 (by decide)
  rw [hc1, List.getElem?_eq_getElem (by omega)] at g0
  obtain ⟨x0, e0, _, w0⟩ := DataW.trod_int he g0
  simp [Value.cells] at e0
  have g1 := hi 1 (by decide)
  rw [hc1, List.getElem?_eq_getElem (by omega)] at g1
  obtain ⟨x1, e1, _, w1⟩ := DataW.trod_int he g1
  simp [Value.cells] at e1
  have g2 := hi 2 (by decide)
  rw [hc1, List.getElem?_eq_getElem (by omega)] at g2
  obtain ⟨x2, e2, _, w2⟩ := DataW.trod_int he g2
  simp [Value.cells] at e2
  subst e0 e1 e2
  exact ⟨x0, x1, x2, rfl, w0, w1, w2⟩
end
section
variable {H : Type} {enc : TypeId × Value → H} {w : World} {base : Nat} {spare : Nat → Bool} {held : Bool}
set_option maxRecDepth 100000 in
theorem open_arr3b {t : TypeId} {r : Reach} {b0 : Nat} {v : Value} {d : DataW H} {p : List MemPlace} (ht : Try.prog.underlying t = some (.array 3 5)) (hc : Try.prog.cellsOf t = 3)
  (hv : Value.okWide Try.prog w r b0 t v) (h : DataW.Trod enc Try.prog w base spare held t v d p) : ∃ x0 x1 x2 : Int, v = .agg #[.int .u8 x0, .int .u8 x1, .int .u8 x2] ∧ (Lit.int .u8 x0).wf = true ∧ (Lit.int .u8 x1).wf = true ∧ (Lit.int .u8 x2).wf = true :=
 open_arr3b' ht hc Try.underlying5 (by kernel_rfl) hv h
end
end Go.Proofs.Ytgoidclnccjdeaa.D
end
