/- Contracts of the functions that this claim reaches, with the words for them: pruned and packed by wip/tools/prune.py. -/
import Derived.Test.YtgoidclnccjdeaaHf
import Derived.Deep.Slices
import Derived.Deep.Fields
import Derived.ChangeSame
import Derived.ProofKit
import Derived.SizedLaws
import Derived.KernelRfl
import Derived.Deep.RegionHeld3
import Derived.Deep.QuietTactic
import Derived.BigQuiet
import Derived.Maps.AppendAt
import Derived.Laws.OwnMore
import Derived.Laws.World
import Derived.Deep.AppendLies
import Derived.OpenShut
import Derived.Laws.IdiomArrays
section
namespace Go.Proofs.Ytgoidclnccjdeaa.PR
open Go.RowKit Go.Proofs.YtgoidclnccjdeaaW.PrintWords Go.Proofs.YtgoidclnccjdeaaW.PrintLast Go.Proofs.YtgoidclnccjdeaaW.PrintMore
attribute [local go_sem] max2_int min2_int max_two min_two max_three min_three max_four min_four   -- for this text's walks alone
set_option linter.unusedVariables false
set_option linter.unusedSimpArgs false

def helioscopelaw07_valid.f (k : Nat) (l0_0 : List (S95)) (a0_1 : Int) (a0_2 : Int) (l0_3 : List (S24)) (l0_4 : List (S72)) : Option (Bool) := (r7_Check.f k l0_0 a0_1 a0_2 l0_3 l0_4).bind fun bt358 => (some (bt358.2.2 == 0))
set_option maxHeartbeats 8000000 in
set_option maxRecDepth 100000 in
theorem helioscopelaw07_valid.calls (k : Nat) (A0_0 : Option Addr) (c0_0 : Nat) (l0_0 : List (S95)) (a0_1 : Int) (a0_2 : Int) (A0_3 : Option Addr) (c0_3 : Nat) (l0_3 : List (S24)) (A0_4 : Option Addr) (c0_4 : Nat) (l0_4 : List (S72)) (r : Bool) (w : World) (hr0_0 : Kd.C k95 w A0_0 l0_0.length l0_0) (hc0_0 : l0_0.length ≤ c0_0) (hr0_3 : Kd.C k24 w A0_3 l0_3.length l0_3) (hc0_3 : l0_3.length ≤ c0_3) (hr0_4 : Kd.C k72 w A0_4 l0_4.length l0_4) (hc0_4 : l0_4.length ≤ c0_4) (h : helioscopelaw07_valid.f k l0_0 a0_1 a0_2 l0_3 l0_4 = some r) :
  Calls Try.prog 39 #[.agg #[.slice A0_0 l0_0.length c0_0, .int .i64 a0_1, .int .i64 a0_2, .slice A0_3 l0_3.length c0_3, .slice A0_4 l0_4.length c0_4]] w fun e w' => e = .returned (.bool r) ∧ Below w.heap.size w w' := by
 have hu28 := Try.underlying28
 have HR0_0 := Aside0.mk hr0_0
 have HC0_0 := Aside0.mk hc0_0
 clear hr0_0 hc0_0
 have HR0_3 := Aside0.mk hr0_3
 have HC0_3 := Aside0.mk hc0_3
 clear hr0_3 hc0_3
 have HR0_4 := Aside0.mk hr0_4
 have HC0_4 := Aside0.mk hc0_4
 clear hr0_4 hc0_4
 have HB := Aside0.mk (Below.refl w.heap.size w)
 have H : ((r7_Check.f k l0_0 a0_1 a0_2 l0_3 l0_4).bind fun bt358 => (some (bt358.2.2 == 0))) = some r := h
 clear h
 replace H := Option.bind_eq_some_iff.mp H
 obtain ⟨⟨t358, t359, t360⟩, A20, H⟩ := H
 replace H : (some (t360 == 0)) = some r := H
 have A2 := Aside0.mk A20
 clear A20
 obtain rfl := Option.some.inj H
 go_enter Try.func39, Try.ntmps39
 go_wp2_with (first | ((with_reducible refine gate_dst (N := 1) rfl ?_); refine box_event ?hg (N := 1) ?hd (cs := #[.slice A0_0 l0_0.length c0_0, .int .i64 a0_1, .int .i64 a0_2, .slice A0_3 l0_3.length c0_3, .slice A0_4 l0_4.length c0_4]) (t := 28) ?hr ?_; (case hd => rfl); (case hg => rfl); (case hr => first | (go_simp; done) | (go_simp; rfl)); intro gb357 hg w3 hbox hb; have n0_ := Aside0.mk (below_step (by repeat (first | (with_reducible first | exact HB.out | apply below_alloc | apply pw_below_drewN | apply below_drew1) | exact HB.out)) hb); have n1_ := Aside0.mk (hbox); have n2_ := Aside0.mk ((by rw [hg]; exact (below_size (by repeat (first | (with_reducible first | exact HB.out | apply below_alloc | apply pw_below_drewN | apply below_drew1) | exact HB.out))) : w.heap.size ≤ gb357)); have n3_ := Aside0.mk ((by rw [hg]; exact (below_size (by repeat (first | (with_reducible first | exact HB.out | apply below_alloc | apply pw_below_drewN | apply below_drew1) | exact HB.out))) : w.heap.size ≤ gb357)); clear HB; have HB := n0_; have BK357 := n1_; have GW357 := n2_; have GE357 := n3_; clear n0_ n1_ n2_ n3_; clear hb hbox hg; have hcz4_0 : w3.cell? ⟨gb357, 0, none⟩ = some (.slice A0_0 l0_0.length c0_0) := (blk_cell BK357.out 0).trans rfl; have hcz4_1 : w3.cell? ⟨gb357, 1, none⟩ = some (.int .i64 a0_1) := (blk_cell BK357.out 1).trans rfl; have hcz4_2 : w3.cell? ⟨gb357, 2, none⟩ = some (.int .i64 a0_2) := (blk_cell BK357.out 2).trans rfl; have hcz4_3 : w3.cell? ⟨gb357, 3, none⟩ = some (.slice A0_3 l0_3.length c0_3) := (blk_cell BK357.out 3).trans rfl; have hcz4_4 : w3.cell? ⟨gb357, 4, none⟩ = some (.slice A0_4 l0_4.length c0_4) := (blk_cell BK357.out 4).trans rfl; have hfz4_0 := blk_frozen BK357.out 0; have hfz4_1 := blk_frozen BK357.out 1; have hfz4_2 := blk_frozen BK357.out 2; have hfz4_3 := blk_frozen BK357.out 3; have hfz4_4 := blk_frozen BK357.out 4) | ((with_reducible refine gate_callee (f := 18) rfl ?_); refine goesL_ (some 8) rfl rfl Try.func18 (by kernel_rfl) rfl #[.agg #[.slice A0_0 l0_0.length c0_0, .int .i64 a0_1, .int .i64 a0_2, .slice A0_3 l0_3.length c0_3, .slice A0_4 l0_4.length c0_4]] rfl (by (try simp only [List.map_toArray, List.map_cons, List.map_nil]); first | done | rfl | (simp only [List.length_drop, List.length_take]; rfl)) ?_; (with_reducible refine (r7_Check.calls k _ _ l0_0 a0_1 a0_2 _ _ l0_3 _ _ l0_4 t358 t359 t360 _ ?side1 ?side2 ?side3 ?side4 ?side5 ?side6 A2.out).mono ?_); (case side1 => repeat (first | exact (Kd.C_below HR0_0.out HB.out) | (with_reducible refine Kd.C_alloc ?_ _) | (with_reducible refine Kd.C_drewN ?_ _) | (with_reducible refine Kd.C_drew ?_))); (case side2 => exact HC0_0.out); (case side3 => repeat (first | exact (Kd.C_below HR0_3.out HB.out) | (with_reducible refine Kd.C_alloc ?_ _) | (with_reducible refine Kd.C_drewN ?_ _) | (with_reducible refine Kd.C_drew ?_))); (case side4 => exact HC0_3.out); (case side5 => repeat (first | exact (Kd.C_below HR0_4.out HB.out) | (with_reducible refine Kd.C_alloc ?_ _) | (with_reducible refine Kd.C_drewN ?_ _) | (with_reducible refine Kd.C_drew ?_))); (case side6 => exact HC0_4.out); rintro e w5 ⟨rfl, hb⟩; refine ⟨_, rfl, ?_⟩; have n0_ := Aside0.mk (blk_below (g := gb357) (o := .cells #[.slice A0_0 l0_0.length c0_0, .int .i64 a0_1, .int .i64 a0_2, .slice A0_3 l0_3.length c0_3, .slice A0_4 l0_4.length c0_4] 28 (0, 0)) (by (with_reducible repeat (first | refine blk_drewN ?_ _ | refine blk_drew ?_ | refine blk_alloc ?_ _)); exact BK357.out) hb); have n1_ := Aside0.mk (below_step (by repeat (first | (with_reducible first | exact HB.out | apply below_alloc | apply pw_below_drewN | apply below_drew1 | refine below_set ?_ GE357.out) | exact HB.out)) hb); clear BK357; clear HB; have BK357 := n0_; have HB := n1_; clear n0_ n1_; (try clear hb); (try clear hb2); (try clear hk); (try clear hi)))
 go_ret
 exact ⟨by first | rfl | (simp [errW_none, errW_some] <;> rfl) | (simp [*, errW_none, errW_some] <;> rfl), by repeat (first | (with_reducible first | exact HB.out | apply below_alloc | apply pw_below_drewN | apply below_drew1 | refine below_set ?_ GE357.out) | exact HB.out)⟩

def helioscopelaw07_some.f (k : Nat) (l0_0 : List (S95)) (a0_1 : Int) (a0_2 : Int) (l0_3 : List (S24)) (l0_4 : List (S72)) : Option (Bool) := (helioscopelaw07_valid.f k l0_0 a0_1 a0_2 l0_3 l0_4).bind fun t362 => (if t362 = true then ((r7_Truths.f k l0_0 a0_1 a0_2 l0_3 l0_4 ([] : List Int)).bind fun t363 => (some (decide ((t363.length : Int) > 0)))) else (some false))
set_option maxHeartbeats 8000000 in
set_option maxRecDepth 100000 in
theorem helioscopelaw07_some.calls (k : Nat) (A0_0 : Option Addr) (c0_0 : Nat) (l0_0 : List (S95)) (a0_1 : Int) (a0_2 : Int) (A0_3 : Option Addr) (c0_3 : Nat) (l0_3 : List (S24)) (A0_4 : Option Addr) (c0_4 : Nat) (l0_4 : List (S72)) (r : Bool) (w : World) (hr0_0 : Kd.C k95 w A0_0 l0_0.length l0_0) (hc0_0 : l0_0.length ≤ c0_0) (hr0_3 : Kd.C k24 w A0_3 l0_3.length l0_3) (hc0_3 : l0_3.length ≤ c0_3) (hr0_4 : Kd.C k72 w A0_4 l0_4.length l0_4) (hc0_4 : l0_4.length ≤ c0_4) (h : helioscopelaw07_some.f k l0_0 a0_1 a0_2 l0_3 l0_4 = some r) :
  Calls Try.prog 45 #[.agg #[.slice A0_0 l0_0.length c0_0, .int .i64 a0_1, .int .i64 a0_2, .slice A0_3 l0_3.length c0_3, .slice A0_4 l0_4.length c0_4]] w fun e w' => e = .returned (.bool r) ∧ Below w.heap.size w w' := by
 have hu28 := Try.underlying28
 have HR0_0 := Aside0.mk hr0_0
 have HC0_0 := Aside0.mk hc0_0
 clear hr0_0 hc0_0
 have HR0_3 := Aside0.mk hr0_3
 have HC0_3 := Aside0.mk hc0_3
 clear hr0_3 hc0_3
 have HR0_4 := Aside0.mk hr0_4
 have HC0_4 := Aside0.mk hc0_4
 clear hr0_4 hc0_4
 have HB := Aside0.mk (Below.refl w.heap.size w)
 have H : ((helioscopelaw07_valid.f k l0_0 a0_1 a0_2 l0_3 l0_4).bind fun t362 => (if t362 = true then ((r7_Truths.f k l0_0 a0_1 a0_2 l0_3 l0_4 ([] : List Int)).bind fun t363 => (some (decide ((t363.length : Int) > 0)))) else (some false))) = some r := h
 clear h
 replace H := Option.bind_eq_some_iff.mp H
 obtain ⟨t362, A20, H⟩ := H
 replace H : (if t362 = true then ((r7_Truths.f k l0_0 a0_1 a0_2 l0_3 l0_4 ([] : List Int)).bind fun t363 => (some (decide ((t363.length : Int) > 0)))) else (some false)) = some r := H
 have A2 := Aside0.mk A20
 clear A20
 by_cases c3 : t362 = true
 ·
  subst c3
  have H1 : ((r7_Truths.f k l0_0 a0_1 a0_2 l0_3 l0_4 ([] : List Int)).bind fun t363 => (some (decide ((t363.length : Int) > 0)))) = some r := by rw [if_pos rfl] at H; exact H
  clear H
  have H := H1
  clear H1
  replace H := Option.bind_eq_some_iff.mp H
  obtain ⟨t363, A40, H⟩ := H
  replace H : (some (decide ((t363.length : Int) > 0))) = some r := H
  have A4 := Aside0.mk A40
  clear A40
  obtain rfl := Option.some.inj H
  go_enter Try.func45, Try.ntmps45
  go_wp2_with (first | ((with_reducible refine gate_dst (N := 1) rfl ?_); (try (refine gate_guard (by rfl) ?_; dsimp only)); refine box_event ?hg (N := 1) ?hd (cs := #[.slice A0_0 l0_0.length c0_0, .int .i64 a0_1, .int .i64 a0_2, .slice A0_3 l0_3.length c0_3, .slice A0_4 l0_4.length c0_4]) (t := 28) ?hr ?_; (case hd => rfl); (case hg => rfl); (case hr => first | (go_simp; done) | (go_simp; rfl)); intro gb361 hg w5 hbox hb; have n0_ := Aside0.mk (below_step (by repeat (first | (with_reducible first | exact HB.out | apply below_alloc | apply pw_below_drewN | apply below_drew1) | exact HB.out)) hb); have n1_ := Aside0.mk (hbox); have n2_ := Aside0.mk ((by rw [hg]; exact (below_size (by repeat (first | (with_reducible first | exact HB.out | apply below_alloc | apply pw_below_drewN | apply below_drew1) | exact HB.out))) : w.heap.size ≤ gb361)); have n3_ := Aside0.mk ((by rw [hg]; exact (below_size (by repeat (first | (with_reducible first | exact HB.out | apply below_alloc | apply pw_below_drewN | apply below_drew1) | exact HB.out))) : w.heap.size ≤ gb361)); clear HB; have HB := n0_; have BK361 := n1_; have GW361 := n2_; have GE361 := n3_; clear n0_ n1_ n2_ n3_; clear hb hbox hg; have hcz6_0 : w5.cell? ⟨gb361, 0, none⟩ = some (.slice A0_0 l0_0.length c0_0) := (blk_cell BK361.out 0).trans rfl; have hcz6_1 : w5.cell? ⟨gb361, 1, none⟩ = some (.int .i64 a0_1) := (blk_cell BK361.out 1).trans rfl; have hcz6_2 : w5.cell? ⟨gb361, 2, none⟩ = some (.int .i64 a0_2) := (blk_cell BK361.out 2).trans rfl; have hcz6_3 : w5.cell? ⟨gb361, 3, none⟩ = some (.slice A0_3 l0_3.length c0_3) := (blk_cell BK361.out 3).trans rfl; have hcz6_4 : w5.cell? ⟨gb361, 4, none⟩ = some (.slice A0_4 l0_4.length c0_4) := (blk_cell BK361.out 4).trans rfl; have hfz6_0 := blk_frozen BK361.out 0; have hfz6_1 := blk_frozen BK361.out 1; have hfz6_2 := blk_frozen BK361.out 2; have hfz6_3 := blk_frozen BK361.out 3; have hfz6_4 := blk_frozen BK361.out 4) | ((with_reducible refine gate_callee (f := 39) rfl ?_); refine goesL_ (some 4) rfl rfl Try.func39 (by kernel_rfl) rfl #[.agg #[.slice A0_0 l0_0.length c0_0, .int .i64 a0_1, .int .i64 a0_2, .slice A0_3 l0_3.length c0_3, .slice A0_4 l0_4.length c0_4]] rfl (by (try simp only [List.map_toArray, List.map_cons, List.map_nil]); first | done | rfl | (simp only [List.length_drop, List.length_take]; rfl)) ?_; (with_reducible refine (helioscopelaw07_valid.calls k _ _ l0_0 a0_1 a0_2 _ _ l0_3 _ _ l0_4 true _ ?side1 ?side2 ?side3 ?side4 ?side5 ?side6 A2.out).mono ?_); (case side1 => repeat (first | exact (Kd.C_below HR0_0.out HB.out) | (with_reducible refine Kd.C_alloc ?_ _) | (with_reducible refine Kd.C_drewN ?_ _) | (with_reducible refine Kd.C_drew ?_))); (case side2 => exact HC0_0.out); (case side3 => repeat (first | exact (Kd.C_below HR0_3.out HB.out) | (with_reducible refine Kd.C_alloc ?_ _) | (with_reducible refine Kd.C_drewN ?_ _) | (with_reducible refine Kd.C_drew ?_))); (case side4 => exact HC0_3.out); (case side5 => repeat (first | exact (Kd.C_below HR0_4.out HB.out) | (with_reducible refine Kd.C_alloc ?_ _) | (with_reducible refine Kd.C_drewN ?_ _) | (with_reducible refine Kd.C_drew ?_))); (case side6 => exact HC0_4.out); rintro e w7 ⟨rfl, hb⟩; refine ⟨_, rfl, ?_⟩; have n0_ := Aside0.mk (blk_below (g := gb361) (o := .cells #[.slice A0_0 l0_0.length c0_0, .int .i64 a0_1, .int .i64 a0_2, .slice A0_3 l0_3.length c0_3, .slice A0_4 l0_4.length c0_4] 28 (0, 0)) (by (with_reducible repeat (first | refine blk_drewN ?_ _ | refine blk_drew ?_ | refine blk_alloc ?_ _)); exact BK361.out) hb); have n1_ := Aside0.mk (below_step (by repeat (first | (with_reducible first | exact HB.out | apply below_alloc | apply pw_below_drewN | apply below_drew1 | refine below_set ?_ GE361.out) | exact HB.out)) hb); clear BK361; clear HB; have BK361 := n0_; have HB := n1_; clear n0_ n1_; (try clear hb); (try clear hb2); (try clear hk); (try clear hi); have hcz8_0 : w7.cell? ⟨gb361, 0, none⟩ = some (.slice A0_0 l0_0.length c0_0) := (blk_cell BK361.out 0).trans rfl; have hcz8_1 : w7.cell? ⟨gb361, 1, none⟩ = some (.int .i64 a0_1) := (blk_cell BK361.out 1).trans rfl; have hcz8_2 : w7.cell? ⟨gb361, 2, none⟩ = some (.int .i64 a0_2) := (blk_cell BK361.out 2).trans rfl; have hcz8_3 : w7.cell? ⟨gb361, 3, none⟩ = some (.slice A0_3 l0_3.length c0_3) := (blk_cell BK361.out 3).trans rfl; have hcz8_4 : w7.cell? ⟨gb361, 4, none⟩ = some (.slice A0_4 l0_4.length c0_4) := (blk_cell BK361.out 4).trans rfl; have hfz8_0 := blk_frozen BK361.out 0; have hfz8_1 := blk_frozen BK361.out 1; have hfz8_2 := blk_frozen BK361.out 2; have hfz8_3 := blk_frozen BK361.out 3; have hfz8_4 := blk_frozen BK361.out 4) | (go_at_call 49; (refine (r7_Truths.calls k _ _ l0_0 a0_1 a0_2 _ _ l0_3 _ _ l0_4 _ _ ([] : List Int) t363 _ ?side1 ?side2 ?side3 ?side4 ?side5 ?side6 ?side7 ?side8 A4.out).mono ?_); (case side1 => repeat (first | exact (Kd.C_below HR0_0.out HB.out) | (with_reducible refine Kd.C_alloc ?_ _) | (with_reducible refine Kd.C_drewN ?_ _) | (with_reducible refine Kd.C_drew ?_))); (case side2 => exact HC0_0.out); (case side3 => repeat (first | exact (Kd.C_below HR0_3.out HB.out) | (with_reducible refine Kd.C_alloc ?_ _) | (with_reducible refine Kd.C_drewN ?_ _) | (with_reducible refine Kd.C_drew ?_))); (case side4 => exact HC0_3.out); (case side5 => repeat (first | exact (Kd.C_below HR0_4.out HB.out) | (with_reducible refine Kd.C_alloc ?_ _) | (with_reducible refine Kd.C_drewN ?_ _) | (with_reducible refine Kd.C_drew ?_))); (case side6 => exact HC0_4.out); (case side7 => exact Kd.C_nil _ _); (case side8 => exact Nat.le_refl _); rintro e w9 ⟨v364, rfl, ho0, hb⟩; have n0_ := Aside0.mk (Kd.N_lower (Kd.N_mono (ok' := fun k_ => k_ ≠ gb361) ho0 (fun k_ hk_ => (Kd.freshB (g := gb361) (o := .cells #[.slice A0_0 l0_0.length c0_0, .int .i64 a0_1, .int .i64 a0_2, .slice A0_3 l0_3.length c0_3, .slice A0_4 l0_4.length c0_4] 28 (0, 0)) (by (with_reducible repeat (first | refine blk_drewN ?_ _ | refine blk_drew ?_ | refine blk_alloc ?_ _)); exact BK361.out) k_ hk_))) (below_size (by repeat (first | (with_reducible first | exact HB.out | apply below_alloc | apply pw_below_drewN | apply below_drew1 | refine below_set ?_ GE361.out) | exact HB.out)))); have n1_ := Aside0.mk (blk_below (g := gb361) (o := .cells #[.slice A0_0 l0_0.length c0_0, .int .i64 a0_1, .int .i64 a0_2, .slice A0_3 l0_3.length c0_3, .slice A0_4 l0_4.length c0_4] 28 (0, 0)) (by (with_reducible repeat (first | refine blk_drewN ?_ _ | refine blk_drew ?_ | refine blk_alloc ?_ _)); exact BK361.out) hb); have n2_ := Aside0.mk (below_step (by repeat (first | (with_reducible first | exact HB.out | apply below_alloc | apply pw_below_drewN | apply below_drew1 | refine below_set ?_ GE361.out) | exact HB.out)) hb); clear BK361; clear HB; have HO365 := n0_; have BK361 := n1_; have HB := n2_; clear n0_ n1_ n2_; (try clear hb); (try clear hb2); (try clear hk); (try clear hi); (try clear ho0); obtain ⟨Ao10, co10, eo10⟩ := Kd.N_slice HO365.out; subst eo10))
  go_ret
  exact ⟨by first | rfl | (simp [errW_none, errW_some] <;> rfl) | (simp [*, errW_none, errW_some] <;> rfl), by repeat (first | (with_reducible first | exact HB.out | apply below_alloc | apply pw_below_drewN | apply below_drew1 | refine below_set ?_ GE361.out) | exact HB.out)⟩
 ·
  replace c3 := Bool.eq_false_iff.mpr c3
  subst c3
  have H1 : (some false) = some r := by rw [if_neg (show ¬ (false = true) by decide)] at H; exact H
  clear H
  have H := H1
  clear H1
  obtain rfl := Option.some.inj H
  go_enter Try.func45, Try.ntmps45
  go_wp2_with (first | ((with_reducible refine gate_dst (N := 1) rfl ?_); (try (refine gate_guard (by rfl) ?_; dsimp only)); refine box_event ?hg (N := 1) ?hd (cs := #[.slice A0_0 l0_0.length c0_0, .int .i64 a0_1, .int .i64 a0_2, .slice A0_3 l0_3.length c0_3, .slice A0_4 l0_4.length c0_4]) (t := 28) ?hr ?_; (case hd => rfl); (case hg => rfl); (case hr => first | (go_simp; done) | (go_simp; rfl)); intro gb361 hg w11 hbox hb; have n0_ := Aside0.mk (below_step (by repeat (first | (with_reducible first | exact HB.out | apply below_alloc | apply pw_below_drewN | apply below_drew1) | exact HB.out)) hb); have n1_ := Aside0.mk (hbox); have n2_ := Aside0.mk ((by rw [hg]; exact (below_size (by repeat (first | (with_reducible first | exact HB.out | apply below_alloc | apply pw_below_drewN | apply below_drew1) | exact HB.out))) : w.heap.size ≤ gb361)); have n3_ := Aside0.mk ((by rw [hg]; exact (below_size (by repeat (first | (with_reducible first | exact HB.out | apply below_alloc | apply pw_below_drewN | apply below_drew1) | exact HB.out))) : w.heap.size ≤ gb361)); clear HB; have HB := n0_; have BK361 := n1_; have GW361 := n2_; have GE361 := n3_; clear n0_ n1_ n2_ n3_; clear hb hbox hg; have hcz12_0 : w11.cell? ⟨gb361, 0, none⟩ = some (.slice A0_0 l0_0.length c0_0) := (blk_cell BK361.out 0).trans rfl; have hcz12_1 : w11.cell? ⟨gb361, 1, none⟩ = some (.int .i64 a0_1) := (blk_cell BK361.out 1).trans rfl; have hcz12_2 : w11.cell? ⟨gb361, 2, none⟩ = some (.int .i64 a0_2) := (blk_cell BK361.out 2).trans rfl; have hcz12_3 : w11.cell? ⟨gb361, 3, none⟩ = some (.slice A0_3 l0_3.length c0_3) := (blk_cell BK361.out 3).trans rfl; have hcz12_4 : w11.cell? ⟨gb361, 4, none⟩ = some (.slice A0_4 l0_4.length c0_4) := (blk_cell BK361.out 4).trans rfl; have hfz12_0 := blk_frozen BK361.out 0; have hfz12_1 := blk_frozen BK361.out 1; have hfz12_2 := blk_frozen BK361.out 2; have hfz12_3 := blk_frozen BK361.out 3; have hfz12_4 := blk_frozen BK361.out 4) | ((with_reducible refine gate_callee (f := 39) rfl ?_); refine goesL_ (some 4) rfl rfl Try.func39 (by kernel_rfl) rfl #[.agg #[.slice A0_0 l0_0.length c0_0, .int .i64 a0_1, .int .i64 a0_2, .slice A0_3 l0_3.length c0_3, .slice A0_4 l0_4.length c0_4]] rfl (by (try simp only [List.map_toArray, List.map_cons, List.map_nil]); first | done | rfl | (simp only [List.length_drop, List.length_take]; rfl)) ?_; (with_reducible refine (helioscopelaw07_valid.calls k _ _ l0_0 a0_1 a0_2 _ _ l0_3 _ _ l0_4 false _ ?side1 ?side2 ?side3 ?side4 ?side5 ?side6 A2.out).mono ?_); (case side1 => repeat (first | exact (Kd.C_below HR0_0.out HB.out) | (with_reducible refine Kd.C_alloc ?_ _) | (with_reducible refine Kd.C_drewN ?_ _) | (with_reducible refine Kd.C_drew ?_))); (case side2 => exact HC0_0.out); (case side3 => repeat (first | exact (Kd.C_below HR0_3.out HB.out) | (with_reducible refine Kd.C_alloc ?_ _) | (with_reducible refine Kd.C_drewN ?_ _) | (with_reducible refine Kd.C_drew ?_))); (case side4 => exact HC0_3.out); (case side5 => repeat (first | exact (Kd.C_below HR0_4.out HB.out) | (with_reducible refine Kd.C_alloc ?_ _) | (with_reducible refine Kd.C_drewN ?_ _) | (with_reducible refine Kd.C_drew ?_))); (case side6 => exact HC0_4.out); rintro e w13 ⟨rfl, hb⟩; refine ⟨_, rfl, ?_⟩; have n0_ := Aside0.mk (blk_below (g := gb361) (o := .cells #[.slice A0_0 l0_0.length c0_0, .int .i64 a0_1, .int .i64 a0_2, .slice A0_3 l0_3.length c0_3, .slice A0_4 l0_4.length c0_4] 28 (0, 0)) (by (with_reducible repeat (first | refine blk_drewN ?_ _ | refine blk_drew ?_ | refine blk_alloc ?_ _)); exact BK361.out) hb); have n1_ := Aside0.mk (below_step (by repeat (first | (with_reducible first | exact HB.out | apply below_alloc | apply pw_below_drewN | apply below_drew1 | refine below_set ?_ GE361.out) | exact HB.out)) hb); clear BK361; clear HB; have BK361 := n0_; have HB := n1_; clear n0_ n1_; (try clear hb); (try clear hb2); (try clear hk); (try clear hi)))
  go_ret
  exact ⟨by first | rfl | (simp [errW_none, errW_some] <;> rfl) | (simp [*, errW_none, errW_some] <;> rfl), by repeat (first | (with_reducible first | exact HB.out | apply below_alloc | apply pw_below_drewN | apply below_drew1 | refine below_set ?_ GE361.out) | exact HB.out)⟩

end Go.Proofs.Ytgoidclnccjdeaa.PR
end
section
/- Package glass: a shelf that came in as_ an argument, opened. -/
namespace Go.Proofs.Ytgoidclnccjdeaa.D
open Go Go.RowKit Go.ChangeShapes Go.WideShapes Go.Deep Go.Proofs.YtgoidclnccjdeaaK Go.Proofs.YtgoidclnccjdeaaW.PrintWords Go.Proofs.YtgoidclnccjdeaaW.PrintLast Go.Proofs.YtgoidclnccjdeaaW.PrintMore Go.Proofs.Ytgoidclnccjdeaa.PR
set_option linter.unusedVariables false
set_option linter.unusedSimpArgs false
set_option linter.unusedSectionVars false

section
variable {H : Type} {enc : TypeId × Value → H} {P : Program} {w : World} {base : Nat} {spare : Nat → Bool} {held : Bool}
theorem open_two {t : TypeId} {F : Array Field} {fuel : Nat} {cs : List Value} {x : DataW H × List MemPlace} (ht : P.underlying t = some (.struct F))
  (h0 : ∃ f, F[0]? = some f ∧ f.offset = 0 ∧ P.underlying f.type = some (.int .i64) ∧ P.cellsOf f.type = 1)
  (h1 : ∃ f, F[1]? = some f ∧ f.offset = 1 ∧ P.underlying f.type = some (.int .i64) ∧ P.cellsOf f.type = 1)
  (hc : P.cellsOf t = 2) (h : DataW.trod enc P w base spare held fuel t cs = some x) :
  ∃ a b, cs = [.int .i64 a, .int .i64 b] ∧ (Lit.int .i64 a).wf = true ∧ (Lit.int .i64 b).wf = true := by
 obtain ⟨xs, n, rfl, hx, hl, hlen, hf⟩ := DataW.trod_struct ht h
 rw [hc] at hl
 match cs, hl with
 | [v0, v1], _ =>
  obtain ⟨g0, e0, o0, u0, c0⟩ := h0
  obtain ⟨g1, e1, o1, u1, c1⟩ := h1
  have k0 := hf 0 g0 e0
  have k1 := hf 1 g1 e1
  have l0 : 0 < F.size := (Array.getElem?_eq_some_iff.1 e0).1
  have l1 : 1 < F.size := (Array.getElem?_eq_some_iff.1 e1).1
  rw [o0, c0, List.getElem?_eq_getElem (by omega)] at k0
  rw [o1, c1, List.getElem?_eq_getElem (by omega)] at k1
  obtain ⟨a, ha, _, wa⟩ := DataW.trod_int u0 k0
  obtain ⟨b, hb, _, wb⟩ := DataW.trod_int u1 k1
  simp only [List.drop_zero, List.take_succ_cons, List.take_zero, List.drop_succ_cons] at ha hb
  cases ha; cases hb
  exact ⟨a, b, rfl, wa, wb⟩
theorem open_ints3 {t : TypeId} {F : Array Field} {fuel : Nat} {cs : List Value} {x : DataW H × List MemPlace} (ht : P.underlying t = some (.struct F))
  (h0 : ∃ f, F[0]? = some f ∧ f.offset = 0 ∧ P.underlying f.type = some (.int .i64) ∧ P.cellsOf f.type = 1)
  (h1 : ∃ f, F[1]? = some f ∧ f.offset = 1 ∧ P.underlying f.type = some (.int .i64) ∧ P.cellsOf f.type = 1)
  (h2 : ∃ f, F[2]? = some f ∧ f.offset = 2 ∧ P.underlying f.type = some (.int .i64) ∧ P.cellsOf f.type = 1)
  (hc : P.cellsOf t = 3) (h : DataW.trod enc P w base spare held fuel t cs = some x) :
  ∃ a b c, cs = [.int .i64 a, .int .i64 b, .int .i64 c] ∧ (Lit.int .i64 a).wf = true ∧ (Lit.int .i64 b).wf = true ∧ (Lit.int .i64 c).wf = true := by
 obtain ⟨xs, n, rfl, hx, hl, hlen, hf⟩ := DataW.trod_struct ht h
 rw [hc] at hl
 match cs, hl with
 | [v0, v1, v2], _ =>
  obtain ⟨g0, e0, o0, u0, c0⟩ := h0
  obtain ⟨g1, e1, o1, u1, c1⟩ := h1
  obtain ⟨g2, e2, o2, u2, c2⟩ := h2
  have k0 := hf 0 g0 e0
  have k1 := hf 1 g1 e1
  have k2 := hf 2 g2 e2
  have l0 : 0 < F.size := (Array.getElem?_eq_some_iff.1 e0).1
  have l1 : 1 < F.size := (Array.getElem?_eq_some_iff.1 e1).1
  have l2 : 2 < F.size := (Array.getElem?_eq_some_iff.1 e2).1
  rw [o0, c0, List.getElem?_eq_getElem (by omega)] at k0
  rw [o1, c1, List.getElem?_eq_getElem (by omega)] at k1
  rw [o2, c2, List.getElem?_eq_getElem (by omega)] at k2
  obtain ⟨a, ha, _, wa⟩ := DataW.trod_int u0 k0
  obtain ⟨b, hb, _, wb⟩ := DataW.trod_int u1 k1
  obtain ⟨c, hc, _, wc⟩ := DataW.trod_int u2 k2
  simp only [List.drop_zero, List.take_succ_cons, List.take_zero, List.drop_succ_cons] at ha hb hc
  cases ha; cases hb; cases hc
  exact ⟨a, b, c, rfl, wa, wb, wc⟩
theorem open_named {t e : TypeId} {F G : Array Field} {fuel : Nat} {cs : List Value} {x : DataW H × List MemPlace} (ht : P.underlying t = some (.struct F)) (he : P.underlying e = some (.struct G))
  (h0 : ∃ f, F[0]? = some f ∧ f.offset = 0 ∧ P.underlying f.type = some .string ∧ P.cellsOf f.type = 1)
  (h1 : ∃ f, F[1]? = some f ∧ f.offset = 1 ∧ f.type = e)
  (i0 : ∃ f, G[0]? = some f ∧ f.offset = 0 ∧ P.underlying f.type = some (.int .i64) ∧ P.cellsOf f.type = 1)
  (i1 : ∃ f, G[1]? = some f ∧ f.offset = 1 ∧ P.underlying f.type = some (.int .i64) ∧ P.cellsOf f.type = 1)
  (hc : P.cellsOf t = 3) (hce : P.cellsOf e = 2) (h : DataW.trod enc P w base spare held fuel t cs = some x) :
  ∃ s a b, cs = [.string s, .int .i64 a, .int .i64 b] ∧ s.size ≤ 9223372036854775807 ∧ (Lit.int .i64 a).wf = true ∧ (Lit.int .i64 b).wf = true := by
 obtain ⟨xs, n, rfl, hx, hl, hlen, hf⟩ := DataW.trod_struct ht h
 rw [hc] at hl
 match cs, hl with
 | [v0, v1, v2], _ =>
  obtain ⟨g0, e0, o0, u0, c0⟩ := h0
  obtain ⟨g1, e1, o1, rfl⟩ := h1
  have k0 := hf 0 g0 e0
  have k1 := hf 1 g1 e1
  have l0 : 0 < F.size := (Array.getElem?_eq_some_iff.1 e0).1
  have l1 : 1 < F.size := (Array.getElem?_eq_some_iff.1 e1).1
  rw [o0, c0, List.getElem?_eq_getElem (by omega)] at k0
  rw [o1, hce, List.getElem?_eq_getElem (by omega)] at k1
  obtain ⟨s, hs, _, ws⟩ := DataW.trod_string u0 k0
  obtain ⟨a, b, hab, wa, wb⟩ := open_two he i0 i1 hce k1
  simp only [List.drop_zero, List.take_succ_cons, List.take_zero, List.drop_succ_cons] at hs hab
  cases hs; cases hab
  exact ⟨s, a, b, rfl, ws, wa, wb⟩
theorem open_rowG {α : Type} (z : α) {m : Nat} {K : World → α → List Value → Prop} {Wf : α → Prop} {t e : TypeId} {fuel : Nat} {cs : List Value} {x : DataW H × List MemPlace}
  (ht : P.underlying t = some (.slice e)) (hc : P.cellsOf e = m) (hopen : ∀ {fuel : Nat} {cs : List Value} {x : DataW H × List MemPlace}, DataW.trod enc P w base spare held fuel e cs = some x → ∃ p, K w p cs ∧ Wf p)
  (h : DataW.trod enc P w base spare held fuel t cs = some x) :
  ∃ (A : Option Addr) (cap : Nat) (l : List α), cs = [.slice A l.length cap] ∧ l.length ≤ cap ∧ ReadsRow (K w) m w A l.length l ∧ ∀ p ∈ l, Wf p := by
 rcases open_slice ht h with ⟨rfl, rfl⟩ | ⟨a, len, cap, mm, n, D, Pl, rfl, hb, hl, hm, hmm, hx, hi⟩
 ·
  exact ⟨none, 0, [], rfl, Nat.le_refl _, ⟨rfl, Nat.zero_le _, fun h => absurd h (Nat.lt_irrefl 0)⟩, fun p hp => by simp at hp⟩
 ·
  have hml : len ≤ mm := by rw [hmm]; split <;> omega
  have hh : ∀ i, ∃ p : α, i < len → (∃ c, c.length = m ∧ K w p c ∧ ∀ j u, c[j]? = some u → w.cell? (a.add (i * m + j)) = some u) ∧ Wf p := by
   intro i
   by_cases hil : i < len
   ·
    obtain ⟨cs', hcc, htt⟩ := hi i (by omega)
    rw [hc] at hcc
    obtain ⟨_, hcl, hat⟩ := World.cells?_some hcc
    obtain ⟨p, hp, hw⟩ := hopen htt
    refine ⟨p, fun _ => ⟨⟨cs', hcl, hp, fun j u hu => ?_⟩, hw⟩⟩
    have hj : j < m := by rw [← hcl]; exact (List.getElem?_eq_some_iff.1 hu).1
    have := hat j hj
    rw [hu] at this
    rw [← this, Go.Deep.add_add]
   ·
    exact ⟨z, fun h => absurd h hil⟩
  let pick : Nat → α := fun i => (hh i).choose
  have hpick : ∀ i, i < len → (∃ c, c.length = m ∧ K w (pick i) c ∧ ∀ j u, c[j]? = some u → w.cell? (a.add (i * m + j)) = some u) ∧ Wf (pick i) := fun i => (hh i).choose_spec
  have hlen : ((List.range len).map pick).length = len := by simp
  refine ⟨some a, cap, (List.range len).map pick, by rw [hlen], by rw [hlen]; exact hl, ⟨rfl, by rw [hlen]; unfold maxLen at hm; omega, fun _ => ⟨a, rfl, fun j p hp => ?_⟩⟩, fun p hp => ?_⟩
  ·
   have hj : j < len := by have := (List.getElem?_eq_some_iff.1 hp).1; simpa using this
   have : p = pick j := by
    have h := (List.getElem?_eq_some_iff.1 hp).2
    rw [← h]; simp
   subst this
   obtain ⟨c, h1, h2, h3⟩ := (hpick j hj).1
   exact ⟨c, h1, h2, h3⟩
  ·
   obtain ⟨i, hi, rfl⟩ := List.mem_map.1 hp
   exact (hpick i (List.mem_range.1 hi)).2
end

def wf (x : Int) : Prop := (Lit.int .i64 x).wf = true
structure Dat.Wf (D : Dat) : Prop where
 lo : wf D.lo
 hi : wf D.hi
 gl : ∀ p ∈ D.gl, p.f0.size ≤ 9223372036854775807 ∧ wf p.f1.f0 ∧ wf p.f1.f1
 sp : ∀ p ∈ D.sp, wf p.f0 ∧ wf p.f1
 dr : ∀ p ∈ D.dr, wf p.f0 ∧ wf p.f1 ∧ wf p.f2

section
variable {H : Type} {enc : TypeId × Value → H} {w : World} {base : Nat} {spare : Nat → Bool} {held : Bool}
set_option maxRecDepth 100000 in
theorem open_shelf {r : Reach} {b0 : Nat} {v : Value} {d : DataW H} {p : List MemPlace} (hv : Value.okWide Try.prog w r b0 28 v) (h : DataW.Trod enc Try.prog w base spare held 28 v d p) :
  ∃ (D : Dat) (A0 : Option Addr) (c0 : Nat) (A3 : Option Addr) (c3 : Nat) (A4 : Option Addr) (c4 : Nat), v = .agg (D.cells A0 c0 A3 c3 A4 c4) ∧ Arg w D A0 c0 A3 c3 A4 c4 ∧ D.Wf := by
 have hC : Try.prog.cellsOf 28 = 5 := by kernel_rfl
 have hS : Try.prog.cellsOf 24 = 2 := by kernel_rfl
 have hI : Try.prog.cellsOf 3 = 1 := by kernel_rfl
 have hN : Try.prog.cellsOf 9 = 1 := by kernel_rfl
 have h0 : Try.prog.cellsOf 22 = 1 := by kernel_rfl
 have h3 : Try.prog.cellsOf 25 = 1 := by kernel_rfl
 have h4 : Try.prog.cellsOf 26 = 1 := by kernel_rfl
 have hs0 : Try.prog.cellsOf 95 = 3 := by kernel_rfl
 have hs4 : Try.prog.cellsOf 72 = 3 := by kernel_rfl
 have e28 := Try.underlying28
 have e24 := Try.underlying24
 have e3 := Try.underlying3
 have e9 := Try.underlying9
 have e22 := Try.underlying22
 have e25 := Try.underlying25
 have e26 := Try.underlying26
 have e95 := Try.underlying95
 have e72 := Try.underlying72
 generalize Try.prog = P at hv h hC hS hI hN h0 h3 h4 hs0 hs4 e28 e24 e3 e9 e22 e25 e26 e95 e72 ⊢
 obtain ⟨cs, rfl, hsz⟩ := okWide_struct e28 hv
 obtain ⟨l⟩ := cs
 rw [hC] at hsz
 match l, hsz with
 | [c0, c1, c2, c3, c4], _ =>
  obtain ⟨fuel, hf⟩ := h
  obtain ⟨xs, n, _, hx, _, hlen, hg⟩ := DataW.trod_struct e28 hf
  have g0 := hg 0 _ rfl
  have g1 := hg 1 _ rfl
  have g2 := hg 2 _ rfl
  have g3 := hg 3 _ rfl
  have hl4 : xs.length = 4 := hlen
  rw [List.getElem?_eq_getElem (by omega)] at g0 g1 g2 g3
  simp only [Value.cells, List.getElem_toArray, List.getElem_cons_zero, List.getElem_cons_succ, hS, h0, h3, h4, List.drop_zero, List.drop_succ_cons, List.take_succ_cons, List.take_zero] at g0 g1 g2 g3
  obtain ⟨lo, hi, hlh, wlo, whi⟩ := open_two e24 ⟨_, rfl, rfl, e3, hI⟩ ⟨_, rfl, rfl, e3, hI⟩ hS g1
  obtain ⟨A0, k0, l0, hA0, hk0, hR0, w0⟩ := open_rowG (K := k95.K) (Wf := fun p : S95 => p.f0.size ≤ 9223372036854775807 ∧ wf p.f1.f0 ∧ wf p.f1.f1) z95 e22 hs0 (fun hh => by
   obtain ⟨s, a, b, rfl, ws, wa, wb⟩ := open_named e95 e24 ⟨_, rfl, rfl, e9, hN⟩ ⟨_, rfl, rfl, rfl⟩ ⟨_, rfl, rfl, e3, hI⟩ ⟨_, rfl, rfl, e3, hI⟩ hs0 hS hh
   exact ⟨⟨s, ⟨a, b⟩⟩, k95_mk w _, ws, wa, wb⟩) g0
  obtain ⟨A3, k3, l3, hA3, hk3, hR3, w3⟩ := open_rowG (K := k24.K) (Wf := fun p : S24 => wf p.f0 ∧ wf p.f1) z24 e25 hS (fun hh => by
   obtain ⟨a, b, rfl, wa, wb⟩ := open_two e24 ⟨_, rfl, rfl, e3, hI⟩ ⟨_, rfl, rfl, e3, hI⟩ hS hh
   exact ⟨⟨a, b⟩, k24_mk w _, wa, wb⟩) g2
  obtain ⟨A4, k4, l4, hA4, hk4, hR4, w4⟩ := open_rowG (K := k72.K) (Wf := fun p : S72 => wf p.f0 ∧ wf p.f1 ∧ wf p.f2) z72 e26 hs4 (fun hh => by
   obtain ⟨a, b, c, rfl, wa, wb, wc⟩ := open_ints3 e72 ⟨_, rfl, rfl, e3, hI⟩ ⟨_, rfl, rfl, e3, hI⟩ ⟨_, rfl, rfl, e3, hI⟩ hs4 hh
   exact ⟨⟨a, b, c⟩, k72_mk w _, wa, wb, wc⟩) g3
  cases hlh; cases hA0; cases hA3; cases hA4
  exact ⟨⟨l0, lo, hi, l3, l4⟩, A0, k0, A3, k3, A4, k4, rfl, ⟨hR0, hk0, fun x hx => (w0 x hx).1, hR3, hk3, hR4, hk4⟩, ⟨wlo, whi, w0, w3, w4⟩⟩
end
end Go.Proofs.Ytgoidclnccjdeaa.D
end
section
/- Package glass: what the reference's Check answers is what the program's does. -/
namespace Go.Proofs.Ytgoidclnccjdeaa.D
open Go Go.RowKit Go.Proofs.YtgoidclnccjdeaaK Go.Proofs.YtgoidclnccjdeaaW.PrintWords Go.Proofs.YtgoidclnccjdeaaW.PrintLast Go.Proofs.YtgoidclnccjdeaaW.PrintMore Go.Proofs.Ytgoidclnccjdeaa.PR
set_option linter.unusedVariables false
set_option linter.unusedSimpArgs false

theorem rIn (a lo hi : Int) : r1_In.f a lo hi = some (decide (lo ≤ a ∧ a ≤ hi)) := by
 unfold r1_In.f; split <;> simp [*]
theorem rletter (b : Int) : r1_letter.f b = some (decide (97 ≤ b ∧ b ≤ 122)) := by
 unfold r1_letter.f; split <;> simp <;> omega
theorem rdigit (b : Int) : r1_digit.f b = some (decide (48 ≤ b ∧ b ≤ 57)) := by
 unfold r1_digit.f; split <;> simp <;> omega
theorem wrapN {n : Nat} (h : n < 9223372036854775807) : wrap64 ((n : Int) + 1) = ((n + 1 : Nat) : Int) := by
 unfold wrap64; omega

theorem rName_l0 (s : ByteArray) (hs : s.size ≤ 9223372036854775807) : ∀ (d i : Nat), i + d = s.size → 1 ≤ i → okTo s i = true → Ev (fun k => r1_Name.l0 k s (i : Int)) (okTo s s.size)
 | 0, i, hd, _, h => by
  obtain rfl : i = s.size := by omega
  rw [h]
  exact Ev.step (f := fun _ => some true) (fun k => by simp only [r1_Name.l0]; rw [if_neg (by omega)]) (Ev.now _)
 | d + 1, i, hd, hi, h => by
  by_cases hb : okByte (i == 0) (bt s (i : Int)) = true
  ·
   have h1 : okTo s (i + 1) = true := by rw [okTo_succ, h, hb]; rfl
   have ih := rName_l0 s hs d (i + 1) (by omega) (by omega) h1
   refine Ev.step (f := fun k => r1_Name.l0 k s ((i + 1 : Nat) : Int)) (fun k => ?_) ih
   have hb' := (okByte_iff i _).1 hb
   simp only [r1_Name.l0, rletter, rdigit, Option.bind_some, decide_eq_true_eq]
   rw [if_pos (by omega), if_pos (by omega), wrapN (by omega)]
   split
   ·
    rfl
   ·
    split
    ·
     rfl
    ·
     rw [if_pos (by omega)]
  ·
   have hf : okByte (i == 0) (bt s (i : Int)) = false := by simpa using hb
   have h1 : okTo s (i + 1) = false := by rw [okTo_succ, hf]; simp
   rw [okTo_le s (by omega) h1]
   refine Ev.step (f := fun _ => some false) (fun k => ?_) (Ev.now _)
   have hb' : ¬ ((97 ≤ bt s (i : Int) ∧ bt s (i : Int) ≤ 122) ∨ (0 < i ∧ (bt s (i : Int) = 46 ∨ (48 ≤ bt s (i : Int) ∧ bt s (i : Int) ≤ 57)))) := fun x => hb ((okByte_iff i _).2 x)
   simp only [r1_Name.l0, rletter, rdigit, Option.bind_some, decide_eq_true_eq]
   rw [if_pos (by omega), if_pos (by omega), if_neg (by omega), if_neg (by omega), if_neg (by omega)]

theorem outB_one (lo hi a : Int) : outB lo hi [a] = true ↔ ¬ (lo ≤ a ∧ a ≤ hi) := by
 unfold outB; simp; omega
theorem outB_two (lo hi a b : Int) : outB lo hi [a, b] = true ↔ ¬ ((lo ≤ a ∧ a ≤ hi) ∧ (lo ≤ b ∧ b ≤ hi)) := by
 unfold outB; simp; omega

theorem rName (s : ByteArray) (hs : s.size ≤ 9223372036854775807) : Ev (fun k => r1_Name.f k s) (nameB s) := by
 unfold r1_Name.f
 simp only [rIn, rletter, Option.bind_some, decide_eq_true_eq]
 by_cases h : 1 ≤ (s.size : Int) ∧ (s.size : Int) ≤ 16
 ·
  have e : nameB s = okTo s s.size := by
   have : outB 1 16 [(s.size : Int)] = false := by rw [Bool.eq_false_iff]; exact fun x => (outB_one _ _ _).1 x h
   unfold nameB; rw [this]; rfl
  rw [e]
  refine Ev.congr (f := fun k => r1_Name.j0 k s (!decide (97 ≤ bt s 0 ∧ bt s 0 ≤ 122))) (fun k => by rw [if_pos h, if_pos (by omega)]) ?_
  by_cases hb : 97 ≤ bt s 0 ∧ bt s 0 ≤ 122
  ·
   have h1 : okTo s 1 = true := by
    have := (okByte_iff 0 (bt s ((0 : Nat) : Int))).2 (.inl hb)
    simp only [okTo, List.range_succ, List.range_zero, List.nil_append, List.all_cons, List.all_nil, Bool.and_true]
    exact this
   refine Ev.step (f := fun k => r1_Name.l0 k s ((1 : Nat) : Int)) (fun k => ?_) (rName_l0 s hs (s.size - 1) 1 (by omega) (by omega) h1)
   simp only [r1_Name.j0, decide_eq_true hb]
   rfl
  ·
   have h1 : okTo s 1 = false := by
    have := okByte_not 0 (bt s ((0 : Nat) : Int)) (fun x => by rcases x with x | x; exact hb x; omega)
    simp only [okTo, List.range_succ, List.range_zero, List.nil_append, List.all_cons, List.all_nil, Bool.and_true]
    exact this
   rw [okTo_le s (by omega) h1]
   refine Ev.step (f := fun _ => some false) (fun k => ?_) (Ev.now _)
   simp only [r1_Name.j0, decide_eq_false hb]
   rfl
 ·
  have e : nameB s = false := by
   have : outB 1 16 [(s.size : Int)] = true := (outB_one _ _ _).2 h
   unfold nameB; rw [this]; rfl
  rw [e]
  refine Ev.step (f := fun _ => some false) (fun k => ?_) (Ev.now _)
  rw [if_neg h]
  simp only [r1_Name.j0, if_true]

theorem rEnds (lo hi a b : Int) : Ev (fun k => r1_Ends.f k lo hi a b) (if outB a b [lo, hi] = true then 7 else if hi < lo then 2 else 0) := by
 unfold r1_Ends.f
 simp only [rIn, Option.bind_some, decide_eq_true_eq]
 refine Ev.step (f := fun _ => some (if outB a b [lo, hi] = true then 7 else if hi < lo then 2 else 0)) (fun k => ?_) (Ev.now _)
 simp only [outB_two, r1_Ends.j0]
 by_cases h1 : a ≤ lo ∧ lo ≤ b <;> by_cases h2 : a ≤ hi ∧ hi ≤ b <;> simp [h1, h2] <;> split <;> simp_all <;> omega

theorem rends (lo hi a b : Int) (ha : 0 ≤ a) (hb : b ≤ 1000) : Ev (fun k => r7_ends.f k lo hi a b) (endsE lo hi a b) := by
 unfold r7_ends.f
 refine Ev.bind (rEnds lo hi a b) ?_
 unfold endsE
 by_cases h1 : outB a b [lo, hi] = true
 ·
  simp only [h1, if_true]; rw [if_neg (by decide)]; exact Ev.now _
 ·
  have h2 : (a ≤ lo ∧ lo ≤ b) ∧ (a ≤ hi ∧ hi ≤ b) := by
   by_cases h : (a ≤ lo ∧ lo ≤ b) ∧ (a ≤ hi ∧ hi ≤ b)
   ·
    exact h
   ·
    exact absurd ((outB_two a b lo hi).2 h) h1
  have e : wrap64 (hi - lo) = hi - lo := by unfold wrap64; omega
  have ho := outB_one 0 2 (hi - lo)
  simp only [h1, if_false, e]
  by_cases h3 : hi < lo
  ·
   have : outB 0 2 [hi - lo] = true := ho.2 (by omega)
   simp only [h3, if_true, this]; rw [if_neg (by decide)]; exact Ev.now _
  ·
   simp only [h3, if_false, if_true]
   by_cases h4 : hi - lo > 2
   ·
    have : outB 0 2 [hi - lo] = true := ho.2 (by omega)
    simp only [h4, if_true, this]; exact Ev.now _
   ·
    have : outB 0 2 [hi - lo] = false := by rw [Bool.eq_false_iff]; exact fun x => ho.1 x ⟨by omega, by omega⟩
    simp only [h4, if_false, this]; exact Ev.now _

theorem rWhere0 (names : List ByteArray) (s : ByteArray) (hn : names.length ≤ 1000) : ∀ (d i : Nat), i + d = names.length → Ev (fun k => r1_Where.l0 k names s (i : Int)) (idxFrom (fun x => x.toList == s.toList) (names.drop i) i)
 | 0, i, hd => by
  rw [List.drop_eq_nil_of_le (by omega)]
  exact Ev.step (f := fun _ => some (-1)) (fun k => by simp only [r1_Where.l0]; rw [if_neg (by omega)]) (Ev.now _)
 | d + 1, i, hd => by
  have hi : i < names.length := by omega
  have e : rdOf ByteArray.empty names (i : Int) = names[i] := by simp [rdOf, hi]
  rw [List.drop_eq_getElem_cons hi]
  by_cases h : names[i].toList = s.toList
  ·
   refine Ev.step (f := fun _ => some (i : Int)) (fun k => ?_) (by simp only [idxFrom, h, beq_self_eq_true, if_true]; exact Ev.now _)
   simp only [r1_Where.l0, e]
   rw [if_pos (by omega), if_pos (by omega), if_pos h]
  ·
   refine Ev.step (f := fun k => r1_Where.l0 k names s ((i + 1 : Nat) : Int)) (fun k => ?_) ?_
   ·
    simp only [r1_Where.l0, e]
    rw [if_pos (by omega), if_pos (by omega), if_neg h, wrapN (by omega)]
   ·
    have hf : (names[i].toList == s.toList) = false := by simpa using h
    simp only [idxFrom, hf, Bool.false_eq_true, if_false]
    exact rWhere0 names s hn d (i + 1) (by omega)
theorem rWhere (names : List ByteArray) (s : ByteArray) (hn : names.length ≤ 1000) : Ev (fun k => r1_Where.f k names s) (idxFrom (fun x => x.toList == s.toList) names 0) := by
 have := rWhere0 names s hn names.length 0 (by omega)
 simpa [r1_Where.f] using this
theorem rFresh (s : ByteArray) (names : List ByteArray) (hs : s.size ≤ 9223372036854775807) (hn : names.length ≤ 1000) :
  Ev (fun k => r1_Fresh.f k s names) (if nameB s = false then 6 else if names.any (fun x => x.toList == s.toList) then 5 else 0) := by
 unfold r1_Fresh.f
 refine Ev.bind (rName s hs) ?_
 cases h : nameB s
 ·
  simp only [Bool.false_eq_true, if_false, if_true]; exact Ev.now _
 ·
  simp only [if_true, Bool.true_eq_false, if_false]
  refine Ev.bind (rWhere names s hn) ?_
  have hp := idxFrom_pos (fun x : ByteArray => x.toList == s.toList) names 0
  rw [← hp]
  by_cases h0 : 0 ≤ idxFrom (fun x : ByteArray => x.toList == s.toList) names 0
  ·
   rw [if_pos h0, decide_eq_true h0, if_pos rfl]; exact Ev.now _
  ·
   rw [if_neg h0, decide_eq_false h0, if_neg (by decide)]; exact Ev.now _

theorem rall0 (m : Nat) (hm : m ≤ 62) : ∀ (d i : Nat), i + d = m → Ev (fun k => r7_all.l0 k (m : Int) (((2 ^ i : Nat) : Int) - 1) (i : Int)) (((2 ^ m : Nat) : Int) - 1)
 | 0, i, hd => by
  obtain rfl : i = m := by omega
  exact Ev.step (f := fun _ => some _) (fun k => by simp only [r7_all.l0]; rw [if_neg (by omega)]) (Ev.now _)
 | d + 1, i, hd => by
  refine Ev.step (f := fun k => r7_all.l0 k (m : Int) (((2 ^ (i + 1) : Nat) : Int) - 1) ((i + 1 : Nat) : Int)) (fun k => ?_) (rall0 m hm d (i + 1) (by omega))
  have h2 : 2 ^ (i + 1) ≤ 2 ^ 62 := Nat.pow_le_pow_right (by decide) (by omega)
  have h3 : 2 ^ (i + 1) = 2 * 2 ^ i := by rw [Nat.pow_succ]; omega
  have h4 : (2 : Nat) ^ 62 = 4611686018427387904 := by decide
  have e1 : wrap64 (2 * (((2 ^ i : Nat) : Int) - 1)) = 2 * (((2 ^ i : Nat) : Int) - 1) := by
   generalize 2 ^ i = x at *; rw [h4] at h2; unfold wrap64; omega
  have e2 : wrap64 (2 * (((2 ^ i : Nat) : Int) - 1) + 1) = ((2 ^ (i + 1) : Nat) : Int) - 1 := by
   rw [h3] at h2 ⊢
   generalize 2 ^ i = x at *; rw [h4] at h2; unfold wrap64; omega
  simp only [r7_all.l0]
  rw [if_pos (by omega), e1, e2, wrapN (by omega)]
theorem rall (m : Nat) (hm : m ≤ 62) : Ev (fun k => r7_all.f k (m : Int)) (((2 ^ m : Nat) : Int) - 1) := rall0 m hm m 0 (by omega)
theorem rdrawing (D : Dat) (d : Dr) (hg : D.gl.length ≤ 9223372036854775807) (hs : D.sp.length ≤ 62) (i : Nat) :
  Ev (fun k => r7_drawing.f k D.gl D.lo D.hi D.sp D.dr d.f0 d.f1 d.f2) (errD D.gl.length D.sp.length i d) := by
 unfold r7_drawing.f errD
 have e : wrap64 ((D.gl.length : Int) - 1) = (D.gl.length : Int) - 1 := by unfold wrap64; omega
 simp only [rIn, e, Option.bind_some, decide_eq_true_eq]
 have o1 := outB_one (-1) ((D.gl.length : Int) - 1) d.f0
 have o2 := outB_one 0 9 d.f1
 have o3 := outB_one 0 (((2 ^ D.sp.length : Nat) : Int) - 1) d.f2
 by_cases h1 : -1 ≤ d.f0 ∧ d.f0 ≤ (D.gl.length : Int) - 1
 ·
  rw [Bool.eq_false_iff.2 (fun x => o1.1 x h1)]
  simp only [h1, and_self, if_true, Bool.false_eq_true, if_false]
  by_cases h2 : 0 ≤ d.f1 ∧ d.f1 ≤ 9
  ·
   rw [Bool.eq_false_iff.2 (fun x => o2.1 x h2)]
   simp only [h2, and_self, if_true, Bool.false_eq_true, if_false]
   refine Ev.bind (rall D.sp.length hs) ?_
   by_cases h3 : 0 ≤ d.f2 ∧ d.f2 ≤ ((2 ^ D.sp.length : Nat) : Int) - 1
   ·
    rw [Bool.eq_false_iff.2 (fun x => o3.1 x h3), if_pos h3]; exact Ev.now _
   ·
    rw [o3.2 h3, if_neg h3]; exact Ev.now _
  ·
   rw [o2.2 h2]; simp only [h2, if_false, if_true]; exact Ev.now _
 ·
  rw [o1.2 h1]; simp only [h1, if_false, if_true]; exact Ev.now _

def drF (D : Dat) (i : Nat) : Int × Int × Int := if (firstE (errD D.gl.length D.sp.length) (D.dr.drop i) i).2 ≠ 0 then (4, firstE (errD D.gl.length D.sp.length) (D.dr.drop i) i) else (0, 0, 0)
def drE (D : Dat) : Int × Int × Int := if (firstL D.dr 0 4 (errD D.gl.length D.sp.length)).2 ≠ 0 then (4, firstL D.dr 0 4 (errD D.gl.length D.sp.length)) else (0, 0, 0)
def spFr (D : Dat) (i : Nat) : Int × Int × Int := if (firstE errP (D.sp.drop i) i).2 ≠ 0 then (3, firstE errP (D.sp.drop i) i) else drE D
def spE (D : Dat) : Int × Int × Int := if (firstL D.sp 0 4 errP).2 ≠ 0 then (3, firstL D.sp 0 4 errP) else drE D
def glE (D : Dat) : Int × Int × Int := if endsE D.lo D.hi 0 3 ≠ 0 then (2, 0, endsE D.lo D.hi 0 3) else spE D
def glF (D : Dat) (i : Nat) : Int × Int × Int := if (firstE (errG D.gl) (D.gl.drop i) i).2 ≠ 0 then (1, firstE (errG D.gl) (D.gl.drop i) i) else glE D
theorem firstE_drop {α : Type} (E : Nat → α → Int) (l : List α) (i : Nat) (h : i < l.length) : firstE E (l.drop i) i = if E i l[i] = 0 then firstE E (l.drop (i + 1)) (i + 1) else (((i : Nat) : Int), E i l[i]) := by
 rw [List.drop_eq_getElem_cons h]; rfl
theorem rCheck_l2 (D : Dat) (hg : D.gl.length ≤ 1000) (hs : D.sp.length ≤ 62) (hd : D.dr.length ≤ 1000) : ∀ (d i : Nat), i + d = D.dr.length →
  Ev (fun k => r7_Check.l2 k (i : Int) D.gl D.lo D.hi D.sp D.dr) (drF D i)
 | 0, i, h => by
  have e : drF D i = (0, 0, 0) := by unfold drF; rw [List.drop_eq_nil_of_le (by omega)]; rfl
  rw [e]
  exact Ev.step (f := fun _ => some (0, 0, 0)) (fun k => by simp only [r7_Check.l2]; rw [if_neg (by omega)]) (Ev.now _)
 | d + 1, i, h => by
  have hi : i < D.dr.length := by omega
  have ih := rCheck_l2 D hg hs hd d (i + 1) (by omega)
  have e : drF D i = if errD D.gl.length D.sp.length i D.dr[i] = 0 then drF D (i + 1) else (4, (i : Int), errD D.gl.length D.sp.length i D.dr[i]) := by
   unfold drF
   rw [firstE_drop _ _ _ hi]
   by_cases e : errD D.gl.length D.sp.length i D.dr[i] = 0
   ·
    simp only [if_pos e]
   ·
    simp only [if_neg e, ne_eq]; rw [if_pos e]
  rw [e]
  refine Ev.step (f := fun k => (r7_drawing.f k D.gl D.lo D.hi D.sp D.dr D.dr[i].f0 D.dr[i].f1 D.dr[i].f2).bind fun t => if t = 0 then r7_Check.l2 k ((i + 1 : Nat) : Int) D.gl D.lo D.hi D.sp D.dr else some (4, (i : Int), t)) (fun k => ?_) ?_
  ·
   simp only [r7_Check.l2, dr_at _ _ hi]
   rw [if_pos (by omega), if_pos (by omega), wrapN (by omega)]
  ·
   refine Ev.bind (rdrawing D D.dr[i] (by omega) hs i) ?_
   by_cases e : errD D.gl.length D.sp.length i D.dr[i] = 0
   ·
    simp only [if_pos e]; exact ih
   ·
    simp only [if_neg e]; exact Ev.now _
theorem rCheck_l1 (D : Dat) (hg : D.gl.length ≤ 1000) (hs : D.sp.length ≤ 62) (hd : D.dr.length ≤ 9223372036854775807) : ∀ (d i : Nat), i + d = D.sp.length →
  Ev (fun k => r7_Check.l1 k (i : Int) D.gl D.lo D.hi D.sp D.dr) (spFr D i)
 | 0, i, h => by
  have e : spFr D i = drE D := by unfold spFr; rw [List.drop_eq_nil_of_le (by omega)]; rfl
  rw [e]
  by_cases h4 : (D.dr.length : Int) > 4
  ·
   have e : drE D = (4, 0, 3) := by
    have : outB 0 4 [(D.dr.length : Int)] = true := (outB_one _ _ _).2 (by omega)
    unfold drE firstL; rw [this]; rfl
   rw [e]
   exact Ev.step (f := fun _ => some (4, 0, 3)) (fun k => by simp only [r7_Check.l1]; rw [if_neg (by omega), if_pos h4]) (Ev.now _)
  ·
   have e : drE D = drF D 0 := by
    have : outB 0 4 [(D.dr.length : Int)] = false := by rw [Bool.eq_false_iff]; exact fun x => (outB_one _ _ _).1 x ⟨by omega, by omega⟩
    unfold drE firstL; rw [this]; rfl
   rw [e]
   exact Ev.step (f := fun k => r7_Check.l2 k ((0 : Nat) : Int) D.gl D.lo D.hi D.sp D.dr) (fun k => by simp only [r7_Check.l1]; rw [if_neg (by omega), if_neg h4]; rfl) (rCheck_l2 D hg hs (by omega) _ 0 (Nat.zero_add _))
 | d + 1, i, h => by
  have hi : i < D.sp.length := by omega
  have ih := rCheck_l1 D hg hs hd d (i + 1) (by omega)
  have e : spFr D i = if errP i D.sp[i] = 0 then spFr D (i + 1) else (3, (i : Int), errP i D.sp[i]) := by
   unfold spFr
   rw [firstE_drop _ _ _ hi]
   by_cases e : errP i D.sp[i] = 0
   ·
    simp only [if_pos e]
   ·
    simp only [if_neg e, ne_eq]; rw [if_pos e]
  rw [e]
  refine Ev.step (f := fun k => (r7_ends.f k D.sp[i].f0 D.sp[i].f1 1 60).bind fun t => if t = 0 then r7_Check.l1 k ((i + 1 : Nat) : Int) D.gl D.lo D.hi D.sp D.dr else some (3, (i : Int), t)) (fun k => ?_) ?_
  ·
   simp only [r7_Check.l1, sp_at _ _ hi]
   rw [if_pos (by omega), if_pos (by omega), wrapN (by omega)]
  ·
   refine Ev.bind (rends _ _ 1 60 (by decide) (by decide)) ?_
   show Ev (fun n => if errP i D.sp[i] = 0 then _ else some (3, (i : Int), errP i D.sp[i])) _
   by_cases e : errP i D.sp[i] = 0
   ·
    simp only [if_pos e]; exact ih
   ·
    simp only [if_neg e]; exact Ev.now _
theorem rCheck_l0 (D : Dat) (hn : ∀ x ∈ D.gl, x.f0.size ≤ 9223372036854775807) (hg : D.gl.length ≤ 1000) (hs : D.sp.length ≤ 9223372036854775807) (hd : D.dr.length ≤ 9223372036854775807) : ∀ (d i : Nat), i + d = D.gl.length →
  Ev (fun k => r7_Check.l0 k ((D.gl.take i).map fun x => x.f0) (i : Int) D.gl D.lo D.hi D.sp D.dr) (glF D i)
 | 0, i, h => by
  have e : glF D i = glE D := by unfold glF; rw [List.drop_eq_nil_of_le (by omega)]; rfl
  rw [e]
  refine Ev.step (f := fun k => (r7_ends.f k D.lo D.hi 0 3).bind fun t => if t = 0 then (if (D.sp.length : Int) > 4 then some (3, 0, 3) else r7_Check.l1 k 0 D.gl D.lo D.hi D.sp D.dr) else some (2, 0, t)) (fun k => by simp only [r7_Check.l0]; rw [if_neg (by omega)]) ?_
  refine Ev.bind (rends _ _ 0 3 (by decide) (by decide)) ?_
  unfold glE
  by_cases e : endsE D.lo D.hi 0 3 = 0
  ·
   simp only [if_pos e, e, ne_eq, not_true_eq_false, if_false]
   by_cases h4 : (D.sp.length : Int) > 4
   ·
    have e : spE D = (3, 0, 3) := by
     have : outB 0 4 [(D.sp.length : Int)] = true := (outB_one _ _ _).2 (by omega)
     unfold spE firstL; rw [this]; rfl
    rw [e]; simp only [if_pos h4]; exact Ev.now _
   ·
    have e : spE D = spFr D 0 := by
     have : outB 0 4 [(D.sp.length : Int)] = false := by rw [Bool.eq_false_iff]; exact fun x => (outB_one _ _ _).1 x ⟨by omega, by omega⟩
     unfold spE firstL; rw [this]; rfl
    rw [e]; simp only [if_neg h4]; exact rCheck_l1 D hg (by omega) hd _ 0 (Nat.zero_add _)
  ·
   simp only [if_neg e, ne_eq, e, not_false_eq_true, if_true]; exact Ev.now _
 | d + 1, i, h => by
  have hi : i < D.gl.length := by omega
  have ih := rCheck_l0 D hn hg hs hd d (i + 1) (by omega)
  have e : glF D i = if errG D.gl i D.gl[i] = 0 then glF D (i + 1) else (1, (i : Int), errG D.gl i D.gl[i]) := by
   unfold glF
   rw [firstE_drop _ _ _ hi]
   by_cases e : errG D.gl i D.gl[i] = 0
   ·
    simp only [if_pos e]
   ·
    simp only [if_neg e, ne_eq]; rw [if_pos e]
  rw [e]
  have hl : ((D.gl.take i).map fun x => x.f0).length = i := by simp; omega
  have hx : (D.gl.take i).map (fun x => x.f0) ++ [D.gl[i].f0] = (D.gl.take (i + 1)).map fun x => x.f0 := by
   rw [List.take_add_one, List.getElem?_eq_getElem hi, List.map_append]; rfl
  refine Ev.step (f := fun k => (r1_Fresh.f k D.gl[i].f0 ((D.gl.take i).map fun x => x.f0)).bind fun t => if t = 0 then ((r7_ends.f k D.gl[i].f1.f0 D.gl[i].f1.f1 1 40).bind fun u => if u = 0 then r7_Check.l0 k ((D.gl.take (i + 1)).map fun x => x.f0) ((i + 1 : Nat) : Int) D.gl D.lo D.hi D.sp D.dr else some (1, (i : Int), u)) else some (1, (i : Int), t)) (fun k => ?_) ?_
  ·
   simp only [r7_Check.l0, gl_at _ _ hi, hx]
   rw [if_pos (by omega), if_pos (by omega), wrapN (by omega)]
   congr 1
   funext t
   rw [if_pos (by rw [hl]; omega)]
  ·
   refine Ev.bind (rFresh _ _ (hn _ (List.getElem_mem hi)) (by rw [hl]; omega)) ?_
   have ha : ((D.gl.take i).map fun x => x.f0).any (fun x => x.toList == D.gl[i].f0.toList) = (D.gl.take i).any (sameName D.gl[i]) := by
    rw [List.any_map]; rfl
   rw [ha]
   unfold errG
   cases hnb : nameB D.gl[i].f0
   ·
    simp only [if_true]; exact Ev.congr (f := fun _ => some (1, (i : Int), 6)) (fun k => rfl) (Ev.now _)
   ·
    simp only [Bool.true_eq_false, if_false]
    cases hsn : (D.gl.take i).any (sameName D.gl[i])
    ·
     simp only [Bool.false_eq_true, if_false, if_true]
     refine Ev.bind (rends _ _ 1 40 (by decide) (by decide)) ?_
     by_cases e : endsE D.gl[i].f1.f0 D.gl[i].f1.f1 1 40 = 0
     ·
      simp only [if_pos e]; exact ih
     ·
      simp only [if_neg e]; exact Ev.now _
    ·
     simp only [if_true]; exact Ev.congr (f := fun _ => some (1, (i : Int), 5)) (fun k => rfl) (Ev.now _)
theorem rCheck (D : Dat) (hn : ∀ x ∈ D.gl, x.f0.size ≤ 9223372036854775807) (hg : D.gl.length ≤ 9223372036854775807) (hs : D.sp.length ≤ 9223372036854775807) (hd : D.dr.length ≤ 9223372036854775807) :
  Ev (fun k => r7_Check.f k D.gl D.lo D.hi D.sp D.dr) (checkF D) := by
 unfold r7_Check.f
 simp only [rIn, Option.bind_some, decide_eq_true_eq]
 have o := outB_one 1 3 (D.gl.length : Int)
 have e0 : checkF D = if (firstL D.gl 1 3 (errG D.gl)).2 ≠ 0 then (1, firstL D.gl 1 3 (errG D.gl)) else glE D := rfl
 rw [e0]
 by_cases h : 1 ≤ (D.gl.length : Int) ∧ (D.gl.length : Int) ≤ 3
 ·
  have e : (if (firstL D.gl 1 3 (errG D.gl)).2 ≠ 0 then (1, firstL D.gl 1 3 (errG D.gl)) else glE D) = glF D 0 := by
   unfold firstL; rw [Bool.eq_false_iff.2 (fun x => o.1 x h)]; rfl
  rw [e]
  simp only [h, and_self, if_true]
  exact rCheck_l0 D hn (by omega) hs hd _ 0 (Nat.zero_add _)
 ·
  have e : (if (firstL D.gl 1 3 (errG D.gl)).2 ≠ 0 then (1, firstL D.gl 1 3 (errG D.gl)) else glE D) = (1, 0, 3) := by
   unfold firstL; rw [o.2 h]; rfl
  rw [e]
  simp only [h, if_false]
  exact Ev.now _
theorem rd_nat (l : List Int) (k : Nat) : rd l (k : Int) = l.getD k 0 := by simp [rd]
theorem rHas0 (but : List Int) (hb : but.length ≤ 1000) (x : Int) (d : Nat) : ∀ (j : Nat), j + d = but.length → Ev (fun f => r1_Has.l0 f but x (j : Int)) ((but.drop j).any fun y => y == x) := by
 induction d with
 | zero =>
  intro j hd
  rw [List.drop_eq_nil_of_le (by omega)]
  refine Ev.step (f := fun _ => some false) (fun f => ?_) (Ev.now _)
  simp only [r1_Has.l0]
  rw [if_neg (by omega)]
 | succ d ih =>
  intro j hd
  have hj : j < but.length := by omega
  have e : rd but (j : Int) = but[j] := by rw [rd_nat, List.getD_eq_getElem?_getD, List.getElem?_eq_getElem hj]; rfl
  rw [List.drop_eq_getElem_cons hj, List.any_cons]
  by_cases h : but[j] = x
  ·
   rw [beq_iff_eq.2 h, Bool.true_or]
   refine Ev.step (f := fun _ => some true) (fun f => ?_) (Ev.now _)
   simp only [r1_Has.l0, e]
   rw [if_pos (by omega), if_pos (by omega), if_pos h]
  ·
   have hf : (but[j] == x) = false := by simpa using h
   rw [hf, Bool.false_or]
   refine Ev.step (f := fun f => r1_Has.l0 f but x ((j + 1 : Nat) : Int)) (fun f => ?_) (ih (j + 1) (by omega))
   simp only [r1_Has.l0, e]
   rw [if_pos (by omega), if_pos (by omega), if_neg h, wrapN (by omega)]
def hasB (but : List Int) (x : Nat) : Bool := but.any fun y => y == (x : Int)
theorem rHas (but : List Int) (hb : but.length ≤ 1000) (x : Nat) : Ev (fun f => r1_Has.f f but (x : Int)) (hasB but x) := rHas0 but hb x but.length 0 (by omega)

end Go.Proofs.Ytgoidclnccjdeaa.D
end
section
/- Package glass, plain: the numbers of all truths without drawings, as_ the program and as_ the reference go through them. -/
namespace Go.Proofs.Ytgoidclnccjdeaa.M
set_option linter.unusedVariables false

def vec (a : List Int) (n : Int) (b : List Int) : List Int := a ++ (List.replicate (3 - a.length) 0 ++ (n :: (b ++ List.replicate (4 - b.length) 0)))
def spans8 (g : List (Int × Int)) (d : Int × Int) (s : List (Int × Int)) : List (Int × Int) := g ++ (List.replicate (3 - g.length) (0, 0) ++ (d :: (s ++ List.replicate (4 - s.length) (0, 0))))
def allL (g : List (Int × Int)) (d : Int × Int) (s : List (Int × Int)) : List (List Int × Int × List Int) :=
 (prodL g).flatMap fun a => (rng d.1 d.2).flatMap fun n => (prodL s).map fun b => (a, n, b)
theorem fm_congr {α β : Type} {f g : α → List β} : ∀ (l : List α), (∀ x ∈ l, f x = g x) → l.flatMap f = l.flatMap g
 | [], _ => rfl
 | x :: r, h => by rw [List.flatMap_cons, List.flatMap_cons, h x (List.mem_cons_self ..), fm_congr r fun y hy => h y (List.mem_cons_of_mem _ hy)]
theorem fm_one {α β : Type} {f : α → List β} {g : α → β} : ∀ (l : List α), (∀ x ∈ l, f x = [g x]) → l.flatMap f = l.map g
 | [], _ => rfl
 | x :: r, h => by rw [List.flatMap_cons, List.map_cons, h x (List.mem_cons_self ..), fm_one r fun y hy => h y (List.mem_cons_of_mem _ hy)]; rfl
theorem prod_vec (g : List (Int × Int)) (d : Int × Int) (s : List (Int × Int)) : prodL (spans8 g d s) = (allL g d s).map fun t => vec t.1 t.2.1 t.2.2 := by
 have hS : prodL (s ++ List.replicate (4 - s.length) (0, 0)) = (prodL s).map fun b => b ++ List.replicate (4 - b.length) 0 := by
  rw [prodL_append, prodL_zeros]
  simp only [List.map_cons, List.map_nil]
  refine fm_one _ fun b hb => ?_
  rw [(mem_prodL s b hb).1]
 have hG : ∀ r, prodL (g ++ (List.replicate (3 - g.length) (0, 0) ++ r)) = (prodL g).flatMap fun a => (prodL r).map fun y => a ++ (List.replicate (3 - a.length) 0 ++ y) := by
  intro r
  rw [prodL_append, prodL_append, prodL_zeros]
  refine fm_congr _ fun a ha => ?_
  rw [(mem_prodL g a ha).1]
  simp
 unfold spans8 allL
 rw [hG]
 simp only [prodL, hS, List.map_flatMap, List.map_map]
 rfl
theorem vec_least {a : List Int} {n : Int} {b : List Int} {i : Nat} (hi : i < a.length) : (vec a n b).getD i 0 = a.getD i 0 := by
 simp [vec, List.getElem?_append_left hi]
theorem vec_dull {a : List Int} {n : Int} {b : List Int} (ha : a.length ≤ 3) : (vec a n b).getD 3 0 = n := by
 unfold vec
 rw [List.getD_eq_getElem?_getD, List.getElem?_append_right ha, List.getElem?_append_right (by simp)]
 simp
theorem vec_size {a : List Int} {n : Int} {b : List Int} {i : Nat} (ha : a.length ≤ 3) (hi : i < b.length) : (vec a n b).getD (4 + i) 0 = b.getD i 0 := by
 unfold vec
 rw [List.getD_eq_getElem?_getD, List.getElem?_append_right (by omega), List.getElem?_append_right (by simp; omega)]
 have e : 4 + i - a.length - (List.replicate (3 - a.length) (0 : Int)).length = i + 1 := by simp; omega
 rw [e, List.getElem?_cons_succ, List.getElem?_append_left hi]
 simp
end Go.Proofs.Ytgoidclnccjdeaa.M
end
section
/- Package glass: the reference's lists of a number of each span, and all truths without drawings. -/
namespace Go.Proofs.Ytgoidclnccjdeaa.D
open Go Go.RowKit Go.Proofs.YtgoidclnccjdeaaK Go.Proofs.YtgoidclnccjdeaaW.PrintWords Go.Proofs.YtgoidclnccjdeaaW.PrintLast Go.Proofs.YtgoidclnccjdeaaW.PrintMore Go.Proofs.Ytgoidclnccjdeaa.PR Go.Proofs.Ytgoidclnccjdeaa.M
set_option linter.unusedVariables false
set_option linter.unusedSimpArgs false

theorem L2_at (l : List (List Int)) (k : Nat) (h : k < l.length) : rd_L2 l (k : Int) = l[k] := by simp [rd_L2, h]
theorem wrapS {x : Int} (h : -1000000 ≤ x ∧ x ≤ 1000000) : wrap64 x = x := by unfold wrap64; omega
def SpOk (S : List Sp) : Prop := ∀ s ∈ S, -1000 ≤ s.f0 ∧ s.f0 ≤ s.f1 ∧ s.f1 ≤ 1000 ∧ s.f1 - s.f0 ≤ 2
abbrev pr (s : Sp) : Int × Int := (s.f0, s.f1)

theorem rE2 (S : List Sp) (out : List (List Int)) (i kk : Nat) (hi : i < S.length) (hk : kk < out.length) (hk' : out.length ≤ 100000) (hS : SpOk S) (hol : (out[kk]).length ≤ 1000) (r : List (List Int)) : ∀ (d : Nat) (n : Int) (next : List (List Int)), -1000 ≤ n → n + d = S[i].f1 + 1 → next.length + d ≤ 1000000 →
  Ev (fun k => r7_each.l1 k S out (i : Int) (next ++ (List.range d).map fun j : Nat => out[kk] ++ [n + (j : Int)]) ((kk + 1 : Nat) : Int)) r → Ev (fun k => r7_each.l2 k S out (i : Int) next (kk : Int) n) r
 | 0, n, next, h0, hn, hl, h => by
  refine Ev.step (f := fun k => r7_each.l1 k S out (i : Int) next ((kk + 1 : Nat) : Int)) (fun k => ?_) (by simpa using h)
  simp only [r7_each.l2, sp_at _ _ hi]
  rw [if_pos (by omega), if_pos (by omega), if_neg (by omega), wrapN (by omega)]
 | d + 1, n, next, h0, hn, hl, h => by
  have hs := hS _ (List.getElem_mem hi)
  refine Ev.step (f := fun k => r7_each.l2 k S out (i : Int) (next ++ [out[kk] ++ [n]]) (kk : Int) (n + 1)) (fun k => ?_) (rE2 S out i kk hi hk hk' hS hol r d (n + 1) (next ++ [out[kk] ++ [n]]) (by omega) (by omega) (by simp only [List.length_append, List.length_cons, List.length_nil]; omega) ?_)
  ·
   simp only [r7_each.l2, sp_at _ _ hi, L2_at _ _ hk, Option.bind_some, List.nil_append, List.length_nil]
   rw [if_pos (by omega), if_pos (by omega), if_pos (by omega), if_pos (by omega), if_pos (by omega), if_pos (by omega), if_pos (by omega), if_pos (by omega)]
   rw [wrapS (by omega)]
  ·
   have e : next ++ [out[kk] ++ [n]] ++ (List.range d).map (fun j : Nat => out[kk] ++ [n + 1 + (j : Int)]) = next ++ (List.range (d + 1)).map fun j : Nat => out[kk] ++ [n + (j : Int)] := by
    rw [List.range_succ_eq_map, List.map_cons, List.map_map, List.append_assoc]
    congr 1
    simp only [List.singleton_append, Int.natCast_zero, Int.add_zero]
    congr 1
    refine List.map_congr_left fun j _ => ?_
    show out[kk] ++ [n + 1 + (j : Int)] = out[kk] ++ [n + ((j + 1 : Nat) : Int)]
    congr 2; omega
   rw [e]; exact h
theorem rE1 (S : List Sp) (out : List (List Int)) (i : Nat) (hi : i < S.length) (hi' : i ≤ 1000) (hk' : out.length ≤ 100000) (hS : SpOk S) (hol : ∀ o ∈ out, o.length ≤ 1000) (r : List (List Int)) : ∀ (d kk : Nat) (next : List (List Int)), kk + d = out.length → next.length + 3 * d ≤ 1000000 →
  Ev (fun k => r7_each.l0 k S (next ++ (out.drop kk).flatMap fun o => (rng S[i].f0 S[i].f1).map fun n => o ++ [n]) ((i + 1 : Nat) : Int)) r → Ev (fun k => r7_each.l1 k S out (i : Int) next (kk : Int)) r
 | 0, kk, next, hd, hl, h => by
  rw [List.drop_eq_nil_of_le (by omega)] at h
  refine Ev.step (f := fun k => r7_each.l0 k S next ((i + 1 : Nat) : Int)) (fun k => ?_) (by simpa using h)
  simp only [r7_each.l1]
  rw [if_neg (by omega), wrapN (by omega)]
 | d + 1, kk, next, hd, hl, h => by
  have hk : kk < out.length := by omega
  have hs := hS _ (List.getElem_mem hi)
  refine Ev.step (f := fun k => r7_each.l2 k S out (i : Int) next (kk : Int) S[i].f0) (fun k => ?_) ?_
  ·
   simp only [r7_each.l1, sp_at _ _ hi]
   rw [if_pos (by omega), if_pos (by omega), if_pos (by omega)]
  ·
   have hdl : (S[i].f1 - S[i].f0 + 1).toNat ≤ 3 := by omega
   refine rE2 S out i kk hi hk hk' hS (hol _ (List.getElem_mem hk)) r (S[i].f1 - S[i].f0 + 1).toNat S[i].f0 next (by omega) (by omega) (by omega) ?_
   refine rE1 S out i hi hi' hk' hS hol r d (kk + 1) _ (by omega) (by simp only [List.length_append, List.length_map, List.length_range]; omega) ?_
   have e : (List.range (S[i].f1 - S[i].f0 + 1).toNat).map (fun j : Nat => out[kk] ++ [S[i].f0 + (j : Int)]) = (rng S[i].f0 S[i].f1).map fun n => out[kk] ++ [n] := by
    unfold rng; rw [List.map_map]; rfl
   rw [e, List.append_assoc]
   rw [List.drop_eq_getElem_cons hk, List.flatMap_cons] at h
   exact h
theorem fm_len3 {β : Type} (out : List β) (s : Sp) (h : s.f1 - s.f0 ≤ 2) (f : β → Int → List Int) : (out.flatMap fun o => (rng s.f0 s.f1).map (f o)).length ≤ 3 * out.length := by
 induction out with
 | nil => simp
 | cons x t ih =>
  have h3 : (rng s.f0 s.f1).length ≤ 3 := by rw [rng_len]; omega
  simp only [List.flatMap_cons, List.length_append, List.length_map, List.length_cons]
  omega
theorem rE0 (S : List Sp) (hS : SpOk S) (hl : S.length ≤ 4) : ∀ (d i : Nat) (out : List (List Int)), i + d = S.length → out.length ≤ 3 ^ i → (∀ o ∈ out, o.length ≤ i) →
  Ev (fun k => r7_each.l0 k S out (i : Int)) (((S.drop i).map pr).foldl (fun out s => out.flatMap fun o => (rng s.1 s.2).map fun n => o ++ [n]) out)
 | 0, i, out, hd, ho, hol => by
  rw [List.drop_eq_nil_of_le (by omega)]
  exact Ev.step (f := fun _ => some out) (fun k => by simp only [r7_each.l0]; rw [if_neg (by omega)]) (Ev.now _)
 | d + 1, i, out, hd, ho, hol => by
  have hi : i < S.length := by omega
  have hs := hS _ (List.getElem_mem hi)
  have h81 : 3 ^ i ≤ 3 ^ 4 := Nat.pow_le_pow_right (by decide) (by omega)
  have h81' : (3 : Nat) ^ 4 = 81 := by decide
  refine Ev.step (f := fun k => r7_each.l1 k S out (i : Int) [] ((0 : Nat) : Int)) (fun k => by simp only [r7_each.l0]; rw [if_pos (by omega)]; rfl) ?_
  refine rE1 S out i hi (by omega) (by omega) hS (fun o ho => Nat.le_trans (hol o ho) (by omega)) _ out.length 0 [] (by omega) (by simp only [List.length_nil]; omega) ?_
  rw [List.drop_zero, List.nil_append, List.drop_eq_getElem_cons hi, List.map_cons, List.foldl_cons]
  have hln := fm_len3 out S[i] (by omega) (fun o n => o ++ [n])
  refine rE0 S hS hl d (i + 1) _ (by omega) (by rw [Nat.pow_succ]; omega) (fun o ho => ?_)
  obtain ⟨x, hx, hy⟩ := List.mem_flatMap.1 ho
  obtain ⟨n, _, rfl⟩ := List.mem_map.1 hy
  have := hol x hx
  simp; omega
theorem rEach (S : List Sp) (hS : SpOk S) (hl : S.length ≤ 4) : Ev (fun k => r7_each.f k S) (prodL (S.map pr)) := by
 rw [← eachL_eq]
 have := rE0 S hS hl S.length 0 [[]] (by omega) (by simp) (by simp)
 simpa [r7_each.f, eachL] using this
end Go.Proofs.Ytgoidclnccjdeaa.D
end
section
/- Package glass: all truths without drawings, as_ the reference has them. -/
namespace Go.Proofs.Ytgoidclnccjdeaa.D
open Go Go.RowKit Go.Proofs.YtgoidclnccjdeaaK Go.Proofs.YtgoidclnccjdeaaW.PrintWords Go.Proofs.YtgoidclnccjdeaaW.PrintLast Go.Proofs.YtgoidclnccjdeaaW.PrintMore Go.Proofs.Ytgoidclnccjdeaa.PR Go.Proofs.Ytgoidclnccjdeaa.M
set_option linter.unusedVariables false
set_option linter.unusedSimpArgs false

abbrev tr0 (t : List Int × Int × List Int) : S56 := ⟨t.1, t.2.1, t.2.2, []⟩
theorem rA3 (D : Dat) (A B : List (List Int)) (i : Nat) (n : Int) (hi : i < A.length) (hA : A.length ≤ 1000) (hB : B.length ≤ 1000) (hn : -1000 ≤ n ∧ n ≤ 1000) (r : List S56) : ∀ (d kk : Nat) (out : List S56), kk + d = B.length → out.length + d ≤ 1000000 →
  Ev (fun k => r7_All.l2 k A B (out ++ (B.drop kk).map fun b => tr0 (A[i], n, b)) (i : Int) (n + 1) D.gl D.lo D.hi D.sp D.dr) r → Ev (fun k => r7_All.l3 k A B out (i : Int) n (kk : Int) D.gl D.lo D.hi D.sp D.dr) r
 | 0, kk, out, hd, hl, h => by
  rw [List.drop_eq_nil_of_le (by omega)] at h
  refine Ev.step (f := fun k => r7_All.l2 k A B out (i : Int) (n + 1) D.gl D.lo D.hi D.sp D.dr) (fun k => ?_) (by simpa using h)
  simp only [r7_All.l3]
  rw [if_neg (by omega), wrapS (by omega)]
 | d + 1, kk, out, hd, hl, h => by
  have hk : kk < B.length := by omega
  refine Ev.step (f := fun k => r7_All.l3 k A B (out ++ [tr0 (A[i], n, B[kk])]) (i : Int) n ((kk + 1 : Nat) : Int) D.gl D.lo D.hi D.sp D.dr) (fun k => ?_) (rA3 D A B i n hi hA hB hn r d (kk + 1) (out ++ [tr0 (A[i], n, B[kk])]) (by omega) (by simp only [List.length_append, List.length_cons, List.length_nil]; omega) ?_)
  ·
   simp only [r7_All.l3, L2_at _ _ hi, L2_at _ _ hk]
   rw [if_pos (by omega), if_pos (by omega), if_pos (by omega), if_pos (by omega), if_pos (by omega), wrapN (by omega)]
  ·
   rw [List.append_assoc]
   rw [List.drop_eq_getElem_cons hk, List.map_cons] at h
   exact h
theorem rA2 (D : Dat) (A B : List (List Int)) (i : Nat) (hi : i < A.length) (hA : A.length ≤ 1000) (hB : B.length ≤ 1000) (hh : D.hi ≤ 999) (r : List S56) : ∀ (d : Nat) (n : Int) (out : List S56), -1000 ≤ n → n + d = D.hi + 1 → out.length + d * B.length ≤ 1000000 →
  Ev (fun k => r7_All.l1 k A B (out ++ (List.range d).flatMap fun j : Nat => B.map fun b => tr0 (A[i], n + (j : Int), b)) ((i + 1 : Nat) : Int) D.gl D.lo D.hi D.sp D.dr) r → Ev (fun k => r7_All.l2 k A B out (i : Int) n D.gl D.lo D.hi D.sp D.dr) r
 | 0, n, out, h0, hn, hl, h => by
  refine Ev.step (f := fun k => r7_All.l1 k A B out ((i + 1 : Nat) : Int) D.gl D.lo D.hi D.sp D.dr) (fun k => ?_) (by simpa using h)
  simp only [r7_All.l2]
  rw [if_neg (by omega), wrapN (by omega)]
 | d + 1, n, out, h0, hn, hl, h => by
  have hmul : (d + 1) * B.length = d * B.length + B.length := by rw [Nat.add_mul]; omega
  refine Ev.step (f := fun k => r7_All.l3 k A B out (i : Int) n ((0 : Nat) : Int) D.gl D.lo D.hi D.sp D.dr) (fun k => by simp only [r7_All.l2]; rw [if_pos (by omega)]; rfl) ?_
  refine rA3 D A B i n hi hA hB (by omega) r B.length 0 out (by omega) (by omega) ?_
  rw [List.drop_zero]
  refine rA2 D A B i hi hA hB hh r d (n + 1) (out ++ B.map fun b => tr0 (A[i], n, b)) (by omega) (by omega) (by simp only [List.length_append, List.length_map]; omega) ?_
  have e : out ++ (B.map fun b => tr0 (A[i], n, b)) ++ ((List.range d).flatMap fun j : Nat => B.map fun b => tr0 (A[i], n + 1 + (j : Int), b)) = out ++ (List.range (d + 1)).flatMap fun j : Nat => B.map fun b => tr0 (A[i], n + (j : Int), b) := by
   rw [List.range_succ_eq_map, List.flatMap_cons, List.flatMap_map, List.append_assoc]
   congr 1
   simp only [Int.natCast_zero, Int.add_zero]
   congr 1
   refine fm_congr _ fun j _ => ?_
   have : n + 1 + (j : Int) = n + ((j + 1 : Nat) : Int) := by omega
   rw [this]
  rw [e]; exact h
theorem fm_le {α β : Type} (l : List α) (f : α → List β) (m : Nat) (h : ∀ x ∈ l, (f x).length ≤ m) : (l.flatMap f).length ≤ l.length * m := by
 induction l with
 | nil => simp
 | cons x t ih =>
  have h1 := h x (List.mem_cons_self ..)
  have h2 := ih (fun y hy => h y (List.mem_cons_of_mem _ hy))
  rw [List.flatMap_cons, List.length_append, List.length_cons, Nat.add_mul]
  omega
theorem rA1 (D : Dat) (A B : List (List Int)) (hA : A.length ≤ 100) (hB : B.length ≤ 100) (hlo : -1000 ≤ D.lo) (hle : D.lo ≤ D.hi + 1) (hh : D.hi ≤ 999) (hd2 : D.hi - D.lo ≤ 2) : ∀ (d i : Nat) (out : List S56), i + d = A.length → out.length + d * 300 ≤ 1000000 →
  Ev (fun k => r7_All.l1 k A B out (i : Int) D.gl D.lo D.hi D.sp D.dr) (out ++ (A.drop i).flatMap fun a => (rng D.lo D.hi).flatMap fun n => B.map fun b => tr0 (a, n, b))
 | 0, i, out, hd, hl => by
  rw [List.drop_eq_nil_of_le (by omega)]
  exact Ev.step (f := fun _ => some out) (fun k => by simp only [r7_All.l1]; rw [if_neg (by omega)]) (by simpa using Ev.now out)
 | d + 1, i, out, hd, hl => by
  have hi : i < A.length := by omega
  refine Ev.step (f := fun k => r7_All.l2 k A B out (i : Int) D.lo D.gl D.lo D.hi D.sp D.dr) (fun k => by simp only [r7_All.l1]; rw [if_pos (by omega)]) ?_
  have h3 : (D.hi - D.lo + 1).toNat ≤ 3 := by omega
  have h300 : (D.hi - D.lo + 1).toNat * B.length ≤ 300 := Nat.le_trans (Nat.mul_le_mul h3 hB) (by decide)
  refine rA2 D A B i hi (by omega) (by omega) hh _ (D.hi - D.lo + 1).toNat D.lo out hlo (by omega) (by omega) ?_
  have e : ((List.range (D.hi - D.lo + 1).toNat).flatMap fun j : Nat => B.map fun b => tr0 (A[i], D.lo + (j : Int), b)) = (rng D.lo D.hi).flatMap fun n => B.map fun b => tr0 (A[i], n, b) := by
   unfold rng; rw [List.flatMap_map]
  have hln : ((rng D.lo D.hi).flatMap fun n => B.map fun b => tr0 (A[i], n, b)).length ≤ 300 := by
   rw [← e]
   exact Nat.le_trans (fm_le _ _ B.length (fun x _ => by simp)) (by rw [List.length_range]; exact h300)
  have ih := rA1 D A B hA hB hlo hle hh hd2 d (i + 1) (out ++ ((rng D.lo D.hi).flatMap fun n => B.map fun b => tr0 (A[i], n, b))) (by omega) (by rw [List.length_append]; omega)
  rw [e]
  rw [List.drop_eq_getElem_cons hi, List.flatMap_cons, ← List.append_assoc]
  exact ih
theorem rA0 (D : Dat) (hg : D.gl.length ≤ 1000) (r : List S56) (h : Ev (fun k => (r7_each.f k (D.gl.map fun g => g.f1)).bind fun a => (r7_each.f k D.sp).bind fun b => r7_All.l1 k a b [] 0 D.gl D.lo D.hi D.sp D.dr) r) : ∀ (d i : Nat), i + d = D.gl.length →
  Ev (fun k => r7_All.l0 k ((D.gl.take i).map fun g => g.f1) (i : Int) D.gl D.lo D.hi D.sp D.dr) r
 | 0, i, hd => by
  rw [List.take_of_length_le (by omega)]
  exact Ev.step (fun k => by simp only [r7_All.l0]; rw [if_neg (by omega)]) h
 | d + 1, i, hd => by
  have hi : i < D.gl.length := by omega
  have hl : ((D.gl.take i).map fun g => g.f1).length = i := by simp; omega
  have hx : (D.gl.take i).map (fun g => g.f1) ++ [D.gl[i].f1] = (D.gl.take (i + 1)).map fun g => g.f1 := by
   rw [List.take_add_one, List.getElem?_eq_getElem hi, List.map_append]; rfl
  refine Ev.step (f := fun k => r7_All.l0 k ((D.gl.take (i + 1)).map fun g => g.f1) ((i + 1 : Nat) : Int) D.gl D.lo D.hi D.sp D.dr) (fun k => ?_) (rA0 D hg r h d (i + 1) (by omega))
  simp only [r7_All.l0, gl_at _ _ hi]
  rw [if_pos (by omega), if_pos (by omega), if_pos (by rw [hl]; omega), wrapN (by omega), ← hx]
theorem spOk_gl {D : Dat} (h : Valid D) : SpOk (D.gl.map fun g => g.f1) := by
 intro s hs
 obtain ⟨g, hg, rfl⟩ := List.mem_map.1 hs
 obtain ⟨k, hk, rfl⟩ := List.mem_iff_getElem.1 hg
 have := h.gl k hk
 rw [gl_at _ _ hk] at this
 omega
theorem spOk_sp {D : Dat} (h : Valid D) : SpOk D.sp := by
 intro s hs
 obtain ⟨k, hk, rfl⟩ := List.mem_iff_getElem.1 hs
 have := h.sp k hk
 rw [sp_at _ _ hk] at this
 omega
abbrev glS (D : Dat) : List (Int × Int) := D.gl.map fun g => (g.f1.f0, g.f1.f1)
abbrev spS (D : Dat) : List (Int × Int) := D.sp.map pr
theorem prodL_le3 (S : List (Int × Int)) (h : ∀ s ∈ S, s.2 - s.1 ≤ 2) : (prodL S).length ≤ 3 ^ S.length := prodL_len S h
theorem rAll {D : Dat} (h : Valid D) : Ev (fun k => r7_All.f k D.gl D.lo D.hi D.sp D.dr) ((allL (glS D) (D.lo, D.hi) (spS D)).map tr0) := by
 have hg := spOk_gl h
 have hs := spOk_sp h
 have hg3 := h.g3
 have hs4 := h.s4
 have hlo := h.lo
 have hle := h.le
 have hhi := h.hi
 have hdu := h.du
 have e0 : (D.gl.map fun g => g.f1).map pr = glS D := by unfold glS; rw [List.map_map]; rfl
 have hA : (prodL (glS D)).length ≤ 100 := by
  refine Nat.le_trans (prodL_le3 _ (fun s hs' => ?_)) (Nat.le_trans (Nat.pow_le_pow_right (n := 3) (i := (glS D).length) (j := 3) (by decide) (by simpa [glS] using hg3)) (by decide))
  rw [← e0] at hs'
  obtain ⟨t, ht, rfl⟩ := List.mem_map.1 hs'
  have := hg t ht
  exact this.2.2.2
 have hB : (prodL (spS D)).length ≤ 100 := by
  refine Nat.le_trans (prodL_le3 _ (fun s hs' => ?_)) (Nat.le_trans (Nat.pow_le_pow_right (n := 3) (i := (spS D).length) (j := 4) (by decide) (by simpa [spS] using hs4)) (by decide))
  obtain ⟨t, ht, rfl⟩ := List.mem_map.1 hs'
  have := hs t ht
  exact this.2.2.2
 refine rA0 D (by omega) _ ?_ D.gl.length 0 (by omega)
 have h1 := rEach (D.gl.map fun g => g.f1) hg (by simpa using Nat.le_trans hg3 (by decide))
 rw [e0] at h1
 refine Ev.bind (f := fun k a => (r7_each.f k D.sp).bind fun b => r7_All.l1 k a b [] 0 D.gl D.lo D.hi D.sp D.dr) h1 ?_
 refine Ev.bind (f := fun k b => r7_All.l1 k (prodL (glS D)) b [] 0 D.gl D.lo D.hi D.sp D.dr) (rEach D.sp hs hs4) ?_
 have h2 := rA1 D (prodL (glS D)) (prodL (spS D)) hA hB (by omega) (by omega) (by omega) hdu (prodL (glS D)).length 0 [] (by omega) (by simp only [List.length_nil]; omega)
 have e : (allL (glS D) (D.lo, D.hi) (spS D)).map tr0 = [] ++ ((prodL (glS D)).drop 0).flatMap fun a => (rng D.lo D.hi).flatMap fun n => (prodL (spS D)).map fun b => tr0 (a, n, b) := by
  unfold allL
  simp only [List.nil_append, List.drop_zero, List.map_flatMap, List.map_map]
  rfl
 rw [e]
 exact h2
end Go.Proofs.Ytgoidclnccjdeaa.D
end
section
/- Package glass: what is seen, and the glasses of a drawing, as_ the reference has them; its truths. -/
namespace Go.Proofs.Ytgoidclnccjdeaa.D
open Go Go.RowKit Go.Proofs.YtgoidclnccjdeaaK Go.Proofs.YtgoidclnccjdeaaW.PrintWords Go.Proofs.YtgoidclnccjdeaaW.PrintLast Go.Proofs.YtgoidclnccjdeaaW.PrintMore Go.Proofs.Ytgoidclnccjdeaa.PR Go.Proofs.Ytgoidclnccjdeaa.M
set_option linter.unusedVariables false
set_option linter.unusedSimpArgs false

abbrev Tr := List Int × Int × List Int
abbrev V8 (t : Tr) : List Int := vec t.1 t.2.1 t.2.2
abbrev allD (D : Dat) : List Tr := allL (glS D) (D.lo, D.hi) (spS D)
theorem spans8_eq {D : Dat} (h : Valid D) : spansL D = spans8 (glS D) (D.lo, D.hi) (spS D) := by
 have hg1 := h.g1
 have hg3 := h.g3
 have hs4 := h.s4
 have hl : (glS D).length = D.gl.length := by simp [glS]
 have hl2 : (spS D).length = D.sp.length := by simp [spS]
 have hgi : ∀ i, i < D.gl.length → (glS D)[i]? = some ((rd_T95 D.gl i).f1.f0, (rd_T95 D.gl i).f1.f1) := fun i hi => by
  simp only [glS, List.getElem?_map, List.getElem?_eq_getElem hi, Option.map_some, gl_at _ _ hi]
 have hsi : ∀ i, i < D.sp.length → (spS D)[i]? = some ((rd_T24 D.sp i).f0, (rd_T24 D.sp i).f1) := fun i hi => by
  simp only [spS, List.getElem?_map, List.getElem?_eq_getElem hi, Option.map_some, sp_at _ _ hi]
 refine List.ext_getElem? (fun i => ?_)
 unfold spans8
 rw [List.getElem?_append, List.getElem?_append, List.getElem?_cons, List.getElem?_append]
 simp only [List.length_replicate, hl, hl2]
 by_cases h8 : i < 8
 ·
  rw [List.getElem?_eq_getElem (by rw [spansL_len]; exact h8), spansL_get]
  unfold spanF
  by_cases c1 : i < D.gl.length
  ·
   rw [if_pos c1, if_pos c1, hgi i c1]
  ·
   rw [if_neg c1, if_neg c1]
   by_cases c2 : i - D.gl.length < 3 - D.gl.length
   ·
    have c5 : ¬ (4 ≤ i ∧ i < 4 + D.sp.length) := fun x => by omega
    rw [if_pos c2, if_neg (show ¬ i = 3 by omega), if_neg c5, List.getElem?_replicate, if_pos c2]
   ·
    rw [if_neg c2]
    by_cases c3 : i = 3
    ·
     rw [if_pos c3, if_pos (show i - D.gl.length - (3 - D.gl.length) = 0 by omega)]
    ·
     rw [if_neg c3, if_neg (show ¬ (i - D.gl.length - (3 - D.gl.length) = 0) by omega)]
     have e : i - D.gl.length - (3 - D.gl.length) - 1 = i - 4 := by omega
     rw [e]
     by_cases c4 : i - 4 < D.sp.length
     ·
      have c5 : 4 ≤ i ∧ i < 4 + D.sp.length := ⟨by omega, by omega⟩
      rw [if_pos c5, if_pos c4, hsi _ c4]
     ·
      have c5 : ¬ (4 ≤ i ∧ i < 4 + D.sp.length) := fun x => c4 (by omega)
      rw [if_neg c5, if_neg c4, List.getElem?_replicate, if_pos (show i - 4 - D.sp.length < 4 - D.sp.length by omega)]
 ·
  rw [List.getElem?_eq_none (by rw [spansL_len]; omega), if_neg (by omega), if_neg (by omega), if_neg (by omega), if_neg (by omega), List.getElem?_replicate, if_neg (by omega)]
theorem truthsL_eq {D : Dat} (h : Valid D) (but : Nat) : truthsL D but = ((allD D).filter fun t => soB D but (fn (V8 t))).map V8 := by
 unfold truthsL
 rw [spans8_eq h, prod_vec, List.filter_map]
 rfl
theorem mem_all {D : Dat} (h : Valid D) {t : Tr} (ht : t ∈ allD D) : t.1.length = D.gl.length ∧ t.2.2.length = D.sp.length ∧ (∀ i, 0 ≤ fn (V8 t) i ∧ fn (V8 t) i ≤ 60) ∧ t.1 ∈ prodL (glS D) ∧ t.2.1 ∈ rng D.lo D.hi ∧ t.2.2 ∈ prodL (spS D) := by
 have h8 : V8 t ∈ prodL (spansL D) := by rw [spans8_eq h, prod_vec]; exact List.mem_map.2 ⟨t, ht, rfl⟩
 obtain ⟨a, ha, h2⟩ := List.mem_flatMap.1 ht
 obtain ⟨n, hn, h3⟩ := List.mem_flatMap.1 h2
 obtain ⟨b, hb, rfl⟩ := List.mem_map.1 h3
 exact ⟨by simpa [glS] using (mem_prodL _ _ ha).1, by simpa [spS] using (mem_prodL _ _ hb).1, (mem_spans h h8).2, ha, hn, hb⟩

section
variable {D : Dat} (h : Valid D) {t : Tr} (ht : t ∈ allD D)
include h ht
theorem V_least {g : Nat} (hg : g < D.gl.length) : rd t.1 (g : Int) = fn (V8 t) g := by
 obtain ⟨h1, h2, _⟩ := mem_all h ht
 rw [rd_nat]; exact (vec_least (by omega)).symm
theorem V_dull : t.2.1 = fn (V8 t) 3 := by
 obtain ⟨h1, h2, _⟩ := mem_all h ht
 have := h.g3
 exact (vec_dull (by omega)).symm
theorem V_size {i : Nat} (hi : i < D.sp.length) : rd t.2.2 (i : Int) = fn (V8 t) (4 + i) := by
 obtain ⟨h1, h2, _⟩ := mem_all h ht
 have := h.g3
 rw [rd_nat]; exact (vec_size (by omega) (by omega)).symm
theorem rSeen (F : List (List Int)) {i g : Nat} {y : Int} (hi : i < D.sp.length) (hg : g < D.gl.length) (hy : 0 ≤ y ∧ y ≤ 9) : r7_Seen.f t.1 t.2.1 t.2.2 F (i : Int) (g : Int) y = some (seenB (fn (V8 t)) g y i) := by
 obtain ⟨h1, h2, hr, _⟩ := mem_all h ht
 unfold r7_Seen.f
 rw [if_pos (by omega), if_pos (by omega), if_pos (by omega), if_pos (by omega), V_size h ht hi, V_least h ht hg, V_dull h ht]
 have m := mul_in (hr 3).1 (hr 3).2 hy.1 hy.2
 have hg60 := hr g
 have e1 : wrap64 (fn (V8 t) 3 * y) = fn (V8 t) 3 * y := wrapS (by omega)
 rw [e1, wrapS (by omega)]
 rfl
end
theorem seenTo_testBit (n : Nat → Int) (g : Nat) (y : Int) : ∀ (k i : Nat), (seenTo n g y k).testBit i = (decide (i < k) && seenB n g y i)
 | 0, i => by simp [seenTo]
 | k + 1, i => by
  have ih := seenTo_testBit n g y k i
  unfold seenTo
  by_cases hs : seenB n g y k = true
  ·
   rw [if_pos hs, Nat.testBit_or, ih, Nat.testBit_two_pow]
   by_cases e : i = k
   ·
    subst e; simp [hs]
   ·
    have h2 : decide (k = i) = false := by simp; omega
    rw [h2, Bool.or_false]
    congr 1
    rw [decide_eq_decide]; omega
  ·
   rw [if_neg hs, ih]
   by_cases e : i = k
   ·
    subst e; simp [hs]
   ·
    congr 1
    rw [decide_eq_decide]; omega
theorem half_bit (x i : Nat) : x / 2 ^ i = 2 * (x / 2 ^ (i + 1)) + if x.testBit i = true then 1 else 0 := by
 have h1 : x / 2 ^ (i + 1) = x / 2 ^ i / 2 := by rw [Nat.pow_succ, Nat.div_div_eq_div_mul]
 rw [h1, Nat.testBit_eq_decide_div_mod_eq]
 by_cases h : x / 2 ^ i % 2 = 1
 ·
  simp only [h, decide_true, if_true]; omega
 ·
  simp only [h, decide_false, Bool.false_eq_true, if_false]; omega
theorem rBits {D : Dat} (h : Valid D) {t : Tr} (ht : t ∈ allD D) (F : List (List Int)) {g : Nat} {y : Int} (hg : g < D.gl.length) (hy : 0 ≤ y ∧ y ≤ 9) : Ev (fun k => r7_Bits.f k t.1 t.2.1 t.2.2 F (g : Int) y) (seenTo (fn (V8 t)) g y D.sp.length : Int) := by
 obtain ⟨h1, h2, hr, _⟩ := mem_all h ht
 have hs4 := h.s4
 obtain ⟨X, hX⟩ : ∃ X, seenTo (fn (V8 t)) g y D.sp.length = X := ⟨_, rfl⟩
 have hXb : ∀ i, i < D.sp.length → X.testBit i = seenB (fn (V8 t)) g y i := fun i hi => by rw [← hX, seenTo_testBit]; simp [hi]
 have hlt : X < 2 ^ D.sp.length := by rw [← hX]; exact seenTo_lt _ _ _ _
 have h16 : 2 ^ D.sp.length ≤ 2 ^ 4 := Nat.pow_le_pow_right (by decide) hs4
 have h16' : (2 : Nat) ^ 4 = 16 := by decide
 have key : ∀ (i : Nat), i ≤ D.sp.length → Ev (fun k => r7_Bits.l0 k (g : Int) y ((X / 2 ^ i : Nat) : Int) ((i : Int) - 1) t.1 t.2.1 t.2.2 F) (X : Int) := by
  intro i
  induction i with
  | zero =>
   intro _
   refine Ev.step (f := fun _ => some (X : Int)) (fun k => ?_) (Ev.now _)
   simp only [r7_Bits.l0]
   rw [if_neg (by omega)]
   simp
  | succ i ih =>
   intro hi
   have hx : X / 2 ^ i ≤ 16 := Nat.le_trans (Nat.div_le_self _ _) (by omega)
   have hx' : X / 2 ^ (i + 1) ≤ 16 := Nat.le_trans (Nat.div_le_self _ _) (by omega)
   have hb := half_bit X i
   rw [hXb i (by omega)] at hb
   have hrs := rSeen h ht F (show i < D.sp.length by omega) hg hy
   refine Ev.step (f := fun k => r7_Bits.l0 k (g : Int) y ((X / 2 ^ i : Nat) : Int) ((i : Int) - 1) t.1 t.2.1 t.2.2 F) (fun k => ?_) (ih (by omega))
   have e : ((i + 1 : Nat) : Int) - 1 = (i : Int) := by omega
   simp only [r7_Bits.l0, e, hrs, Option.bind_some]
   rw [if_pos (by omega), wrapS (x := 2 * ((X / 2 ^ (i + 1) : Nat) : Int)) (by omega), wrapS (x := 2 * ((X / 2 ^ (i + 1) : Nat) : Int) + 1) (by omega), wrapS (x := (i : Int) - 1) (by omega)]
   generalize X / 2 ^ i = u at *
   generalize X / 2 ^ (i + 1) = v at *
   cases hsb : seenB (fn (V8 t)) g y i
   ·
    rw [hsb] at hb
    simp only [Bool.false_eq_true, if_false] at hb ⊢
    rw [hb]; congr 1
   ·
    rw [hsb] at hb
    simp only [if_true] at hb ⊢
    rw [hb]; congr 1
 have hk := key D.sp.length (Nat.le_refl _)
 rw [Nat.div_eq_of_lt hlt] at hk
 rw [hX]
 unfold r7_Bits.f
 rw [h2, wrapS (by omega)]
 exact hk
end Go.Proofs.Ytgoidclnccjdeaa.D
end
section
/- Package glass: the reference's truths are the program's. -/
namespace Go.Proofs.Ytgoidclnccjdeaa.D
open Go Go.RowKit Go.Proofs.YtgoidclnccjdeaaK Go.Proofs.YtgoidclnccjdeaaW.PrintWords Go.Proofs.YtgoidclnccjdeaaW.PrintLast Go.Proofs.YtgoidclnccjdeaaW.PrintMore Go.Proofs.Ytgoidclnccjdeaa.PR Go.Proofs.Ytgoidclnccjdeaa.M
set_option linter.unusedVariables false
set_option linter.unusedSimpArgs false

def usedL (D : Dat) (t : Tr) (d : Dr) : List Nat := (List.range D.gl.length).filter (thrB D (fn (V8 t)) d)
def DrIn (D : Dat) (d : Dr) : Prop := 0 ≤ d.f1 ∧ d.f1 ≤ 9
theorem usedL_any (D : Dat) (t : Tr) (d : Dr) : decide (0 < (ints (usedL D t d)).length) = soD D (fn (V8 t)) d D.gl.length := by
 unfold usedL soD ints
 rw [List.length_map, Bool.eq_iff_iff, decide_eq_true_eq, List.length_filter_pos_iff, List.any_eq_true]
theorem rUsed {D : Dat} (h : Valid D) {t : Tr} (ht : t ∈ allD D) (F : List (List Int)) (d : Dr) (hd : DrIn D d) :
  Ev (fun k => r7_used.f k D.gl D.lo D.hi D.sp D.dr t.1 t.2.1 t.2.2 F d.f0 d.f1 d.f2) (ints (usedL D t d)) := by
 have hg3 := h.g3
 have key : ∀ (m g : Nat), g + m = D.gl.length → Ev (fun k => r7_used.l0 k (ints ((List.range g).filter (thrB D (fn (V8 t)) d))) (g : Int) D.gl D.lo D.hi D.sp D.dr t.1 t.2.1 t.2.2 F d.f0 d.f1 d.f2) (ints (usedL D t d)) := by
  intro m
  induction m with
  | zero =>
   intro g hg
   obtain rfl : g = D.gl.length := by omega
   exact Ev.step (f := fun _ => some (ints (usedL D t d))) (fun k => by simp only [r7_used.l0]; rw [if_neg (by omega)]; rfl) (Ev.now _)
  | succ m ih =>
   intro g hg
   have hlt : g < D.gl.length := by omega
   have ih' := ih (g + 1) (by omega)
   have hll : (ints ((List.range g).filter (thrB D (fn (V8 t)) d))).length ≤ 3 := by
    unfold ints; rw [List.length_map]
    exact Nat.le_trans (List.length_filter_le _ _) (by simp; omega)
   have hnx : (List.range (g + 1)).filter (thrB D (fn (V8 t)) d) = (List.range g).filter (thrB D (fn (V8 t)) d) ++ if thrB D (fn (V8 t)) d g = true then [g] else [] := by
    rw [List.range_succ, List.filter_append]
    congr 1
    cases hpb : thrB D (fn (V8 t)) d g <;> simp [hpb]
   have hB := rBits h ht F hlt hd
   have hth : thrB D (fn (V8 t)) d g = ((d.f0 == -1 || d.f0 == (g : Int)) && ((seenTo (fn (V8 t)) g d.f1 D.sp.length : Nat) : Int) == d.f2) := rfl
   obtain ⟨acc, hacc⟩ : ∃ acc, (List.range g).filter (thrB D (fn (V8 t)) d) = acc := ⟨_, rfl⟩
   rw [hacc] at hnx hll ⊢
   rw [hnx] at ih'
   obtain ⟨st, hst⟩ : ∃ st, seenTo (fn (V8 t)) g d.f1 D.sp.length = st := ⟨_, rfl⟩
   rw [hst] at hB hth
   have hins : ∀ l : List Nat, ints (l ++ [g]) = ints l ++ [(g : Int)] := fun l => by simp [ints]
   have hcore : Ev (fun k => (r7_Bits.f k t.1 t.2.1 t.2.2 F (g : Int) d.f1).bind fun b => if b = d.f2 then r7_used.l0 k (ints acc ++ [(g : Int)]) ((g + 1 : Nat) : Int) D.gl D.lo D.hi D.sp D.dr t.1 t.2.1 t.2.2 F d.f0 d.f1 d.f2 else r7_used.l0 k (ints acc) ((g + 1 : Nat) : Int) D.gl D.lo D.hi D.sp D.dr t.1 t.2.1 t.2.2 F d.f0 d.f1 d.f2) (ints (usedL D t d)) ∨ (d.f0 ≠ -1 ∧ d.f0 ≠ (g : Int)) := by
    by_cases h1 : d.f0 = -1 ∨ d.f0 = (g : Int)
    ·
     left
     have ho : (d.f0 == -1 || d.f0 == (g : Int)) = true := by rcases h1 with h1 | h1 <;> simp [h1]
     rw [ho, Bool.true_and] at hth
     refine Ev.bind hB ?_
     by_cases h2 : (st : Int) = d.f2
     ·
      have : thrB D (fn (V8 t)) d g = true := by rw [hth]; simp [h2]
      rw [this, if_pos rfl, hins] at ih'
      simp only [if_pos h2]; exact ih'
     ·
      have : thrB D (fn (V8 t)) d g = false := by rw [hth]; simp [h2]
      rw [this] at ih'
      simp only [if_neg h2]; simpa using ih'
    ·
     right; exact ⟨fun x => h1 (.inl x), fun x => h1 (.inr x)⟩
   rcases hcore with hcore | ⟨n1, n2⟩
   ·
    by_cases h1 : d.f0 = -1 ∨ d.f0 = (g : Int)
    ·
     refine Ev.step (fun k => ?_) hcore
     simp only [r7_used.l0]
     rw [if_pos (by omega)]
     have hk : ints acc = ints acc := rfl
     by_cases e1 : d.f0 = -1
     ·
      rw [if_pos e1]
      congr 1
      funext b
      rw [if_pos (show (ints acc).length < 17592186044416 by omega), wrapN (by omega)]
     ·
      rw [if_neg e1, if_pos (h1.resolve_left e1)]
      congr 1
      funext b
      rw [if_pos (show (ints acc).length < 17592186044416 by omega), wrapN (by omega)]
    ·
     have n1 : d.f0 ≠ -1 := fun x => h1 (.inl x)
     have n2 : d.f0 ≠ (g : Int) := fun x => h1 (.inr x)
     have : thrB D (fn (V8 t)) d g = false := by rw [hth]; simp [n1, n2]
     rw [this] at ih'
     refine Ev.step (f := fun k => r7_used.l0 k (ints acc) ((g + 1 : Nat) : Int) D.gl D.lo D.hi D.sp D.dr t.1 t.2.1 t.2.2 F d.f0 d.f1 d.f2) (fun k => ?_) (by simpa using ih')
     simp only [r7_used.l0]
     rw [if_pos (by omega), if_neg n1, if_neg n2, wrapN (by omega)]
   ·
    have : thrB D (fn (V8 t)) d g = false := by rw [hth]; simp [n1, n2]
    rw [this] at ih'
    refine Ev.step (f := fun k => r7_used.l0 k (ints acc) ((g + 1 : Nat) : Int) D.gl D.lo D.hi D.sp D.dr t.1 t.2.1 t.2.2 F d.f0 d.f1 d.f2) (fun k => ?_) (by simpa using ih')
    simp only [r7_used.l0]
    rw [if_pos (by omega), if_neg n1, if_neg n2, wrapN (by omega)]
 exact key D.gl.length 0 (by omega)

def ownL (D : Dat) (but : List Int) (t : Tr) (i : Nat) : List Int := if hasB but i = true then [] else ints (usedL D t (rd_T72 D.dr i))
def okI (D : Dat) (but : List Int) (t : Tr) (i : Nat) : Bool := hasB but i || soD D (fn (V8 t)) (rd_T72 D.dr i) D.gl.length
theorem rOne {D : Dat} (h : Valid D) {t : Tr} (ht : t ∈ allD D) (but : List Int) (hb : but.length ≤ 1000) (acc F : List (List Int)) (i : Nat) (hi : i < D.dr.length) :
  Ev (fun k => r7_Truths.one k D.gl D.lo D.hi D.sp D.dr but ⟨t.1, t.2.1, t.2.2, F⟩ acc i) (ownL D but t i, okI D but t i) := by
 unfold r7_Truths.one ownL okI
 refine Ev.bind (rHas but hb i) ?_
 cases hh : hasB but i
 ·
  simp only [Bool.false_eq_true, if_false, Bool.false_or]
  have hd := h.dr i hi
  have hu := rUsed h ht acc (rd_T72 D.dr (i : Int)) ⟨hd.2.2.1, hd.2.2.2.1⟩
  refine Ev.bind (f := fun _ o => some (o, decide (0 < o.length))) hu ?_
  simp only [usedL_any]
  exact Ev.now _
 ·
  simp only [if_true, Bool.true_or]
  exact Ev.now _
theorem rRow {D : Dat} (h : Valid D) {t : Tr} (ht : t ∈ allD D) (but : List Int) (hb : but.length ≤ 1000) (F : List (List Int)) : ∀ (n i : Nat) (acc : List (List Int)), i + n = D.dr.length → acc.length + n ≤ 1000 →
  ∃ p : Bool × List (List Int), Ev (fun k => r7_Truths.row k D.gl D.lo D.hi D.sp D.dr but ⟨t.1, t.2.1, t.2.2, F⟩ n i acc) p ∧ p.1 = ((List.range' i n).all fun j => okI D but t j) ∧ (p.1 = true → p.2 = acc ++ (List.range' i n).map (ownL D but t))
 | 0, i, acc, hi, hl => ⟨(true, acc), Ev.now _, by simp, fun _ => by simp⟩
 | n + 1, i, acc, hi, hl => by
  obtain ⟨p, hp, hp1, hp2⟩ := rRow h ht but hb F n (i + 1) (acc ++ [ownL D but t i]) (by omega) (by simp; omega)
  have h1 := rOne h ht but hb acc F i (by omega)
  cases ho : okI D but t i
  ·
   rw [ho] at h1
   refine ⟨(false, acc ++ [ownL D but t i]), ?_, ?_, fun x => by cases x⟩
   ·
    refine Ev.congr (fun k => by simp only [r7_Truths.row]; rw [if_pos (by omega)]) (Ev.bind (f := fun k q => if q.2 = true then r7_Truths.row k D.gl D.lo D.hi D.sp D.dr but ⟨t.1, t.2.1, t.2.2, F⟩ n (i + 1) (acc ++ [q.1]) else some (false, acc ++ [q.1])) h1 ?_)
    simp only [Bool.false_eq_true, if_false]
    exact Ev.now _
   ·
    rw [List.range'_succ, List.all_cons, ho]; rfl
  ·
   rw [ho] at h1
   refine ⟨p, ?_, ?_, fun x => ?_⟩
   ·
    refine Ev.congr (fun k => by simp only [r7_Truths.row]; rw [if_pos (by omega)]) (Ev.bind (f := fun k q => if q.2 = true then r7_Truths.row k D.gl D.lo D.hi D.sp D.dr but ⟨t.1, t.2.1, t.2.2, F⟩ n (i + 1) (acc ++ [q.1]) else some (false, acc ++ [q.1])) h1 ?_)
    simp only [if_true]
    exact hp
   ·
    rw [hp1, List.range'_succ, List.all_cons, ho]; rfl
   ·
    rw [hp2 x, List.range'_succ, List.map_cons, List.append_assoc]; rfl
def trU (D : Dat) (but : List Int) (t : Tr) : S56 := ⟨t.1, t.2.1, t.2.2, (List.range D.dr.length).map (ownL D but t)⟩
def okT (D : Dat) (but : List Int) (t : Tr) : Bool := (List.range D.dr.length).all fun j => okI D but t j
def truthsR (D : Dat) (but : List Int) : List S56 := ((allD D).filter (okT D but)).map (trU D but)
theorem rGo {D : Dat} (h : Valid D) (but : List Int) (hb : but.length ≤ 1000) : ∀ (l : List Tr) (out : List S56), (∀ t ∈ l, t ∈ allD D) → out.length + l.length ≤ 100000 →
  Ev (fun k => r7_Truths.go k D.gl D.lo D.hi D.sp D.dr but (l.map tr0) out) (out ++ (l.filter (okT D but)).map (trU D but))
 | [], out, hl, hn => by simpa [r7_Truths.go] using Ev.now out
 | t :: l, out, hl, hn => by
  have ht := hl t (List.mem_cons_self ..)
  have hd4 := h.d4
  obtain ⟨p, hp, hp1, hp2⟩ := rRow h ht but hb [] D.dr.length 0 [] (by omega) (by simp; omega)
  have hr : List.range' 0 D.dr.length = List.range D.dr.length := List.range_eq_range'.symm
  rw [hr] at hp1 hp2
  simp only [List.length_cons] at hn
  refine Ev.congr (fun k => by simp only [List.map_cons, r7_Truths.go]; rw [if_pos (by omega)]) (Ev.bind (f := fun k q => if q.1 = true then r7_Truths.go k D.gl D.lo D.hi D.sp D.dr but (l.map tr0) (out ++ [⟨t.1, t.2.1, t.2.2, q.2⟩]) else r7_Truths.go k D.gl D.lo D.hi D.sp D.dr but (l.map tr0) out) hp ?_)
  have hok : p.1 = okT D but t := hp1
  cases ho : okT D but t
  ·
   rw [ho] at hok
   rw [List.filter_cons_of_neg (by rw [ho]; simp)]
   simp only [hok, Bool.false_eq_true, if_false]
   exact rGo h but hb l out (fun x hx => hl x (List.mem_cons_of_mem _ hx)) (by omega)
  ·
   rw [ho] at hok
   rw [List.filter_cons_of_pos ho, List.map_cons]
   have e := hp2 hok
   simp only [hok, if_true, e, List.nil_append]
   have := rGo h but hb l (out ++ [trU D but t]) (fun x hx => hl x (List.mem_cons_of_mem _ hx)) (by simp; omega)
   rw [List.append_assoc] at this
   exact this
theorem allD_len {D : Dat} (h : Valid D) : (allD D).length ≤ 6561 := by
 have h1 := prodL_len (spansL D) (fun s hs => by
  obtain ⟨k, _, rfl⟩ := List.mem_map.1 hs
  exact spanF_wide h k)
 rw [spans8_eq h, prod_vec, List.length_map, ← spans8_eq h, spansL_len] at h1
 exact Nat.le_trans h1 (by decide)
theorem rTruths {D : Dat} (h : Valid D) (but : List Int) (hb : but.length ≤ 1000) : Ev (fun k => r7_Truths.f k D.gl D.lo D.hi D.sp D.dr but) (truthsR D but) := by
 unfold r7_Truths.f
 refine Ev.bind (rAll h) ?_
 have := rGo h but hb (allD D) [] (fun t ht => ht) (by have := allD_len h; simp; omega)
 simpa [truthsR] using this
def setIs (D : Dat) (but : List Int) (set : Nat) : Prop := ∀ i, i < D.dr.length → hasB but i = set.testBit i
theorem okT_so {D : Dat} {but : List Int} {set : Nat} (hs : setIs D but set) (t : Tr) : okT D but t = soB D set (fn (V8 t)) := by
 unfold okT soB soTo okI
 rw [Bool.eq_iff_iff, List.all_eq_true, List.all_eq_true]
 constructor
 ·
  intro hh i hi; have := hh i hi; rw [hs i (List.mem_range.1 hi)] at this; exact this
 ·
  intro hh i hi; have := hh i hi; rw [hs i (List.mem_range.1 hi)]; exact this
theorem truths_same {D : Dat} (h : Valid D) {but : List Int} {set : Nat} (hs : setIs D but set) : truthsL D set = ((allD D).filter (okT D but)).map V8 := by
 rw [truthsL_eq h]
 congr 1
 refine List.filter_congr fun t _ => (okT_so hs t).symm
theorem setIs_nil (D : Dat) : setIs D [] 0 := fun i _ => by simp [hasB]
end Go.Proofs.Ytgoidclnccjdeaa.D
end
section
/- Package glass: the reference's known and index. -/
namespace Go.Proofs.Ytgoidclnccjdeaa.D
open Go Go.RowKit Go.Proofs.YtgoidclnccjdeaaK Go.Proofs.YtgoidclnccjdeaaW.PrintWords Go.Proofs.YtgoidclnccjdeaaW.PrintLast Go.Proofs.YtgoidclnccjdeaaW.PrintMore Go.Proofs.Ytgoidclnccjdeaa.PR Go.Proofs.Ytgoidclnccjdeaa.M
set_option linter.unusedVariables false
set_option linter.unusedSimpArgs false

theorem truthsR_len {D : Dat} (h : Valid D) : (truthsR D []).length = (truthsL D 0).length := by
 rw [truths_same h (setIs_nil D), truthsR, List.length_map, List.length_map]
structure Fits (D : Dat) : Prop where
 nm : ∀ x ∈ D.gl, x.f0.size ≤ 9223372036854775807
 g : D.gl.length ≤ 9223372036854775807
 s : D.sp.length ≤ 9223372036854775807
 d : D.dr.length ≤ 9223372036854775807
theorem Arg.fits {w : World} {D : Dat} {A0 : Option Addr} {c0 : Nat} {A3 : Option Addr} {c3 : Nat} {A4 : Option Addr} {c4 : Nat} (h : Arg w D A0 c0 A3 c3 A4 c4) : Fits D := ⟨h.gn, h.g.2.1, h.s.2.1, h.d.2.1⟩
theorem rCheck' {D : Dat} (h : Fits D) : Ev (fun k => r7_Check.f k D.gl D.lo D.hi D.sp D.dr) (checkF D) := rCheck D h.nm h.g h.s h.d
end Go.Proofs.Ytgoidclnccjdeaa.D
end
section
/- Package glass: the reference's Used. -/
namespace Go.Proofs.Ytgoidclnccjdeaa.D
open Go Go.RowKit Go.Proofs.YtgoidclnccjdeaaK Go.Proofs.YtgoidclnccjdeaaW.PrintWords Go.Proofs.YtgoidclnccjdeaaW.PrintLast Go.Proofs.YtgoidclnccjdeaaW.PrintMore Go.Proofs.Ytgoidclnccjdeaa.PR Go.Proofs.Ytgoidclnccjdeaa.M
set_option linter.unusedVariables false
set_option linter.unusedSimpArgs false

theorem usedX_testBit (D : Dat) (n : Nat → Int) (d : Dr) (s i : Nat) : ∀ k, (usedX D n d k s).testBit i = (s.testBit i || (decide (i < k) && thrB D n d i))
 | 0 => by simp [usedX]
 | k + 1 => by
  have ih := usedX_testBit D n d s i k
  unfold usedX
  by_cases hs : thrB D n d k = true
  ·
   rw [if_pos hs, Nat.testBit_or, ih, Nat.testBit_two_pow]
   by_cases e : i = k
   ·
    subst e; simp [hs]
   ·
    have h2 : decide (k = i) = false := by simp; omega
    rw [h2, Bool.or_false]
    congr 2
    rw [decide_eq_decide]; omega
  ·
   rw [if_neg hs, ih]
   by_cases e : i = k
   ·
    subst e; simp [hs]
   ·
    congr 2
    rw [decide_eq_decide]; omega
theorem usedN_testBit (D : Dat) (d : Dr) (i : Nat) (l : List (List Int)) : (usedN D d l).testBit i = (decide (i < D.gl.length) && l.any fun x => thrB D (fn x) d i) := by
 induction l using list_snoc with
 | h0 => simp [usedN]
 | h1 l x ih =>
  rw [usedN_snoc, usedX_testBit, ih, List.any_append]
  cases decide (i < D.gl.length) <;> simp
theorem usedF_eq {D : Dat} {i : Int} (h : enterE D (askUsed D i) = 0) : usedF D i = (List.range D.gl.length).filter fun g => (truthsL D 0).any fun x => thrB D (fn x) (rd_T72 D.dr i) g := by
 unfold usedF
 rw [if_pos h]
 refine List.filter_congr fun g hg => ?_
 show (!!(usedN D (rd_T72 D.dr i) (truthsL D 0)).testBit g) = _
 rw [Bool.not_not, usedN_testBit, decide_eq_true (List.mem_range.1 hg), Bool.true_and]
theorem hasB_ints (l : List Nat) (g : Nat) : hasB (ints l) g = l.contains g := by
 unfold hasB ints
 rw [List.any_map, Bool.eq_iff_iff]
 simp only [List.any_eq_true, Function.comp, beq_iff_eq, List.contains_iff_mem]
 constructor
 ·
  rintro ⟨x, hx, e⟩
  have : x = g := Int.ofNat.inj e
  exact this ▸ hx
 ·
  intro hg; exact ⟨g, hg, rfl⟩
theorem own_nil (D : Dat) (t : Tr) (i : Nat) : ownL D [] t i = ints (usedL D t (rd_T72 D.dr i)) := by
 unfold ownL; rw [if_neg (by simp [hasB])]
section
variable {D : Dat} (h : Valid D) {d : Nat} (hd : d < D.dr.length)
include h hd
end
end Go.Proofs.Ytgoidclnccjdeaa.D
end
section
/- Package independent: the fewest of some things: the sets in order, what a search over all sets names. -/
namespace Go.Proofs.YtgoidclnccjdeaaK
open Go
set_option linter.unusedVariables false
set_option linter.unusedSimpArgs false

def cmpZ : List Int → List Int → Int
 | [], [] => 0
 | [], _ :: _ => -1
 | _ :: _, [] => 1
 | a :: l, b :: m => if (if a < b then (-1 : Int) else if b < a then 1 else 0) = 0 then cmpZ l m else (if a < b then -1 else if b < a then 1 else 0)
abbrev natZ (l : List Nat) : List Int := l.map Int.ofNat
def bitsL (set n : Nat) : List Nat := (List.range n).filter fun i => set.testBit i
def wStep (m : Nat) (P : Nat → Bool) (set : Nat) (s : Option (List Nat)) : Option (List Nat) :=
 if (match s with | some b => decide (b.length < (bitsL set m).length) || ((bitsL set m).length == b.length && decide (0 < cmpZ (natZ (bitsL set m)) (natZ b))) | none => false) = true then s
 else if P set = true then some (bitsL set m) else s
def wTo (m : Nat) (P : Nat → Bool) (k : Nat) : Option (List Nat) := (List.range k).foldl (fun s set => wStep m P set s) none
end Go.Proofs.YtgoidclnccjdeaaK
end
section
/- Package glass: the reference's two, Part and Wrong. -/
namespace Go.Proofs.Ytgoidclnccjdeaa.D
open Go Go.RowKit Go.Proofs.YtgoidclnccjdeaaK Go.Proofs.YtgoidclnccjdeaaW.PrintWords Go.Proofs.YtgoidclnccjdeaaW.PrintLast Go.Proofs.YtgoidclnccjdeaaW.PrintMore Go.Proofs.Ytgoidclnccjdeaa.PR Go.Proofs.Ytgoidclnccjdeaa.M
set_option linter.unusedVariables false
set_option linter.unusedSimpArgs false

section
variable {D : Dat} (h : Valid D) {a b : Nat} (ha : a < D.sp.length) (hb : b < D.sp.length) {y : Int} (hy : 0 ≤ y ∧ y ≤ 9) (hne : truthsL D 0 ≠ [])
include h ha hb hy hne
end
def someT (D : Dat) (set : Nat) : Bool := !(truthsL D set).isEmpty
section
variable {D : Dat} (h : Valid D) {res : List Nat} (hres : wTo D.dr.length (someT D) (2 ^ D.dr.length) = some res)
include h hres
end
end Go.Proofs.Ytgoidclnccjdeaa.D
end
section
/- Package glass: what the outright laws need of the program's answers. -/
namespace Go.Proofs.Ytgoidclnccjdeaa.D
open Go Go.RowKit Go.Proofs.YtgoidclnccjdeaaK Go.Proofs.YtgoidclnccjdeaaW.PrintWords Go.Proofs.YtgoidclnccjdeaaW.PrintLast Go.Proofs.YtgoidclnccjdeaaW.PrintMore Go.Proofs.Ytgoidclnccjdeaa.PR Go.Proofs.Ytgoidclnccjdeaa.M
set_option linter.unusedVariables false
set_option linter.unusedSimpArgs false

def someB (D : Dat) : Bool := (checkF D).2.2 == 0 && someT D 0
theorem rValid {D : Dat} (h : Fits D) : Ev (fun k => helioscopelaw07_valid.f k D.gl D.lo D.hi D.sp D.dr) ((checkF D).2.2 == 0) := by
 unfold helioscopelaw07_valid.f
 exact Ev.bind (rCheck' h) (Ev.now _)
theorem rSome {D : Dat} (h : Fits D) : Ev (fun k => helioscopelaw07_some.f k D.gl D.lo D.hi D.sp D.dr) (someB D) := by
 unfold helioscopelaw07_some.f someB
 refine Ev.bind (rValid h) ?_
 by_cases hc : (checkF D).2.2 = 0
 ·
  have hb : ((checkF D).2.2 == 0) = true := by simpa using hc
  have hV := (check_valid hc).1
  simp only [hb, if_true, Bool.true_and]
  refine Ev.bind (rTruths hV [] (by simp)) ?_
  have e : decide (((truthsR D []).length : Int) > 0) = someT D 0 := by
   rw [truthsR_len hV]
   unfold someT
   cases truthsL D 0 <;> simp <;> omega
  rw [e]
  exact Ev.now _
 ·
  have hb : ((checkF D).2.2 == 0) = false := by simpa using hc
  simp only [hb, Bool.false_eq_true, if_false, Bool.false_and]
  exact Ev.now _
theorem some_no {D : Dat} (h : someB D = false) (l : List (Bool × Int)) : enterE D l ≠ 0 := by
 intro he
 have h1 := enterE_ok he
 unfold someB someT at h
 rw [h1.2.1] at h
 cases ht : truthsL D 0 with
 | nil => exact h1.2.2.2 ht
 | cons a l => rw [ht] at h; simp at h
theorem some_yes {D : Dat} (h : someB D = true) : (checkF D).2.2 = 0 ∧ Valid D ∧ truthsL D 0 ≠ [] := by
 unfold someB someT at h
 rw [Bool.and_eq_true] at h
 have hc : (checkF D).2.2 = 0 := by simpa using h.1
 exact ⟨hc, (check_valid hc).1, fun e => by rw [e] at h; simp at h⟩
theorem enter_yes {D : Dat} (h : someB D = true) {l : List (Bool × Int)} (ha : askE l = 0) : enterE D l = 0 := by
 obtain ⟨h1, _, h3⟩ := some_yes h
 unfold enterE
 rw [if_neg (fun x => x h1), if_neg (fun x => x ha), if_neg (by rw [List.isEmpty_iff]; exact h3)]
theorem ask_one {n : Nat} {k : Nat} (h : k < n) : amongB n [(k : Int)] = true := by
 unfold amongB
 rw [(outB_cons 0 ((n : Int) - 1) k []).2 ⟨⟨by omega, by omega⟩, rfl⟩]; rfl
theorem ask_size {n k : Nat} (h : k < n) : askE [(amongB n [(k : Int)], 4)] = 0 := by simp [askE, ask_one h]
theorem rd_ints (l : List Nat) (i : Nat) (h : i < l.length) : rd (ints l) (i : Int) = (l[i] : Int) := by
 simp [rd, ints, List.getD_eq_getElem?_getD, List.getElem?_map, List.getElem?_eq_getElem h]
theorem has_filter {n : Nat} {P : Nat → Bool} {s : Nat} (h : s < n) : hasB (ints ((List.range n).filter P)) s = P s := by
 rw [hasB_ints, Bool.eq_iff_iff, List.contains_iff_mem, List.mem_filter, List.mem_range]
 exact ⟨fun x => x.2, fun x => ⟨h, x⟩⟩
theorem filter_len (n : Nat) (P : Nat → Bool) : ((List.range n).filter P).length ≤ n := Nat.le_trans (List.length_filter_le _ _) (by simp)
def upB (m : Nat) (l : List Int) : Bool := (List.range l.length).all fun i => decide (0 ≤ rd l (i : Int)) && decide (rd l (i : Int) ≤ (m : Int) - 1) && (i == 0 || decide (rd l ((i : Int) - 1) < rd l (i : Int)))
theorem up_filter (m : Nat) (P : Nat → Bool) : upB m (ints ((List.range m).filter P)) = true := by
 unfold upB
 rw [List.all_eq_true]
 intro i hi
 have hl : (ints ((List.range m).filter P)).length = ((List.range m).filter P).length := by simp [ints]
 rw [hl] at hi
 have hlt := List.mem_range.1 hi
 have hm := List.mem_range.1 (List.mem_filter.1 (List.getElem_mem hlt)).1
 rw [rd_ints _ i hlt]
 have h1 : decide ((0 : Int) ≤ ((List.range m).filter P)[i]) = true := decide_eq_true (by omega)
 have h2 : decide ((((List.range m).filter P)[i] : Int) ≤ (m : Int) - 1) = true := decide_eq_true (by omega)
 rw [h1, h2, Bool.true_and, Bool.true_and, Bool.or_eq_true]
 by_cases h0 : i = 0
 ·
  left; simpa using h0
 ·
  right
  have hp : ((List.range m).filter P).Pairwise (· < ·) := List.pairwise_lt_range.filter _
  have := List.pairwise_iff_getElem.1 hp (i - 1) i (by omega) hlt (by omega)
  rw [show (i : Int) - 1 = ((i - 1 : Nat) : Int) by omega, rd_ints _ (i - 1) (by omega)]
  exact decide_eq_true (by omega)
end Go.Proofs.Ytgoidclnccjdeaa.D
end
section
/- Package glass: Rising, which the laws ask of lists. -/
namespace Go.Proofs.Ytgoidclnccjdeaa.D
open Go Go.RowKit Go.Proofs.YtgoidclnccjdeaaK Go.Proofs.YtgoidclnccjdeaaW.PrintWords Go.Proofs.YtgoidclnccjdeaaW.PrintLast Go.Proofs.YtgoidclnccjdeaaW.PrintMore Go.Proofs.Ytgoidclnccjdeaa.PR Go.Proofs.Ytgoidclnccjdeaa.M
set_option linter.unusedVariables false
set_option linter.unusedSimpArgs false

theorem wrapI {x : Int} (h1 : -9223372036854775808 ≤ x) (h2 : x ≤ 9223372036854775807) : IntKind.i64.wrap x = x := by rw [i64_w]; unfold wrap64; omega
theorem upB_at {m : Nat} {l : List Int} (h : upB m l = true) (i : Nat) (hi : i < l.length) : 0 ≤ rd l (i : Int) ∧ rd l (i : Int) ≤ (m : Int) - 1 ∧ (i ≠ 0 → rd l ((i : Int) - 1) < rd l (i : Int)) := by
 have := List.all_eq_true.1 h i (List.mem_range.2 hi)
 simp only [Bool.and_eq_true, decide_eq_true_eq, Bool.or_eq_true, beq_iff_eq] at this
 exact ⟨this.1.1, this.1.2, fun h => this.2.resolve_left h⟩
theorem In_true (a lo hi : Int) (w : World) (h1 : decide (lo ≤ a) = true) (h2 : decide (a ≤ hi) = true) : Calls Try.prog 85 #[.int .i64 a, .int .i64 lo, .int .i64 hi] w fun e w' => e = .returned (.bool true) ∧ w' = w := by
 go_enter Try.func85, Try.ntmps85
 go_wp2
 go_ret
 exact ⟨rfl, rfl⟩
set_option maxHeartbeats 1000000 in
theorem Rising_calls (l : List Int) (A : Option Addr) (c m : Nat) (w : World) (hm : m ≤ 4) (hl : l.length ≤ 4) (hr : Kd.C (Kd.int .i64) w A l.length l) (hu : upB m l = true) :
  Calls Try.prog 46 #[.slice A l.length c, .int .i64 m] w fun e w' => e = .returned (.bool true) ∧ Below w.heap.size w w' := by
 have HU := Aside0.mk hu
 have HR := Aside0.mk hr
 clear hu hr
 go_enter Try.func46, Try.ntmps46
 go_wp2
 go_loopw [5] (fun j wr => ∃ k : Nat, k ≤ l.length ∧ j = .int .i64 k ∧ Aside0 (Below w.heap.size w wr)) (fun j _ => l.length - (intOf j).toNat)
 case atStart => exact ⟨0, Nat.zero_le _, rfl, ⟨Below.refl _ _⟩⟩
 case round =>
  obtain ⟨k, hk, rfl, HB⟩ := hrel
  by_cases hlt : k < l.length
  ·
   obtain ⟨ad, e, hx⟩ := Kd.at_int (Kd.C_below HR.out HB.out) (k : Int) (by omega) (by omega)
   subst e
   rw [Int.toNat_natCast] at hx
   obtain ⟨u1, u2, u3⟩ := upB_at HU.out k hlt
   have HIN : Aside0 (decide (0 ≤ rd l (k : Int)) = true ∧ decide (rd l (k : Int) ≤ (m : Int) - 1) = true) := ⟨decide_eq_true u1, decide_eq_true u2⟩
   have hw1 : IntKind.i64.wrap ((m : Int) - 1) = (m : Int) - 1 := wrapI (by omega) (by omega)
   clear u1 u2
   have p1 : (0 ≤ (k : Int)) = True := eq_true (by omega)
   have q1 : ((k : Int) < (l.length : Int)) = True := eq_true (by omega)
   have c1 : decide (0 ≤ (k : Int)) = true := decide_eq_true (by omega)
   have c2 : decide ((k : Int) < (l.length : Int)) = true := decide_eq_true (by omega)
   by_cases h0 : k = 0
   ·
    have hk3 : decide (0 < (k : Int)) = false := decide_eq_false (by omega)
    have hk4 : decide (0 < k) = false := decide_eq_false (by omega)
    have H0 := Aside0.mk h0
    clear h0 u3
    go_wp2_with fail
    go_quiet ((go_at_call 85; exact Calls.quiet_of_same (In_true _ _ _ _ HIN.out.1 HIN.out.2)))
    go_wp2
    go_roundw
    case rel => exact ⟨k + 1, by omega, by go_num, ⟨pw_below_drewN HB.out _⟩⟩
    case measure => simp [intOf]; omega
   ·
    have hk3 : decide (0 < (k : Int)) = true := decide_eq_true (by omega)
    have hk4 : decide (0 < k) = true := decide_eq_true (by omega)
    obtain ⟨y, hy⟩ : ∃ y : Int, (k : Int) - 1 = y := ⟨_, rfl⟩
    have hw2 : IntKind.i64.wrap ((k : Int) - 1) = y := by rw [wrapI (by omega) (by omega)]; exact hy
    obtain ⟨ad2, e2, hx2⟩ := Kd.at_int (Kd.C_below HR.out HB.out) y (by omega) (by omega)
    cases e2
    have hlt2 : decide (rd l (k : Int) ≤ rd l y) = false := decide_eq_false (by have := u3 h0; rw [hy] at this; omega)
    have p2 : (0 ≤ y) = True := eq_true (by omega)
    have q2 : (y < (l.length : Int)) = True := eq_true (by omega)
    have c3 : decide (0 ≤ y) = true := decide_eq_true (by omega)
    have c4 : decide (y < (l.length : Int)) = true := decide_eq_true (by omega)
    have HY := Aside0.mk hy
    have H0 := Aside0.mk h0
    clear u3 hy h0
    go_wp2_with fail
    go_quiet ((go_at_call 85; exact Calls.quiet_of_same (In_true _ _ _ _ HIN.out.1 HIN.out.2)))
    go_wp2
    go_roundw
    case rel => exact ⟨k + 1, by omega, by go_num, ⟨pw_below_drewN HB.out _⟩⟩
    case measure => simp [intOf]; omega
  ·
   obtain rfl : k = l.length := by omega
   go_wp2
   go_ret
   exact ⟨rfl, HB.out⟩
end Go.Proofs.Ytgoidclnccjdeaa.D
end
section
/- Package glass: small facts for the walks through outright laws. -/
namespace Go.Proofs.Ytgoidclnccjdeaa.D
open Go Go.RowKit Go.Proofs.YtgoidclnccjdeaaK Go.Proofs.YtgoidclnccjdeaaW.PrintWords Go.Proofs.YtgoidclnccjdeaaW.PrintLast Go.Proofs.YtgoidclnccjdeaaW.PrintMore Go.Proofs.Ytgoidclnccjdeaa.PR Go.Proofs.Ytgoidclnccjdeaa.M
set_option linter.unusedVariables false

theorem tmodN (u m : Int) (hu : 0 ≤ u) (hm : 0 < m) : ∃ a : Nat, (a : Int) < m ∧ u.tmod m = (a : Int) := by
 refine ⟨(u % m).toNat, ?_, ?_⟩
 ·
  have h1 := Int.emod_lt_of_pos u hm
  have h2 := Int.emod_nonneg u (show m ≠ 0 by omega)
  omega
 ·
  have h2 := Int.emod_nonneg u (show m ≠ 0 by omega)
  rw [Int.tmod_eq_emod_of_nonneg hu]
  omega
theorem NewRow.rowI {w : World} {n0 : Nat} {v : Value} {l : List Nat} (h : NewRow w n0 v l) : ∃ A c, v = .slice A (ints l).length c ∧ (ints l).length ≤ c ∧ (ints l).length ≤ 50 ∧ Kd.C (Kd.int .i64) w A (ints l).length (ints l) := by
 have el : (ints l).length = l.length := List.length_map ..
 rw [el]
 rcases h with ⟨rfl, rfl⟩ | ⟨g, L, n, rfl, h2, h3, h4, h5, h6⟩
 ·
  exact ⟨none, 0, rfl, Nat.le_refl _, by simp, rfl, by simp, fun h => absurd h (by simp)⟩
 ·
  have hle : l.length ≤ L.length := by
   have := congrArg List.length h6
   simp at this; omega
  refine ⟨_, n, rfl, by omega, by omega, ?_⟩
  have := h3.read l.length hle (by omega)
  rw [h6] at this
  exact this
end Go.Proofs.Ytgoidclnccjdeaa.D
end
section
/- General lemmas of this session's own: rows of any plain kind that are copied by append. -/
namespace Go.Proofs.YtgoidclnccjdeaaK
open Go Go.RowKit Go.Proofs.YtgoidclnccjdeaaW.PrintWords Go.Proofs.YtgoidclnccjdeaaW.PrintLast Go.Proofs.YtgoidclnccjdeaaW.PrintMore
set_option linter.unusedVariables false
set_option linter.unusedSimpArgs false
variable {P : Program}

theorem flat_at {α : Type} (enc : α → List Value) {sz : Nat} (hl : ∀ x, (enc x).length = sz) : ∀ (xs : List α), (xs.flatMap enc).length = xs.length * sz ∧
  ∀ j u, (xs.flatMap enc)[j]? = some u → ∃ p i, xs[j / sz]? = some p ∧ (enc p)[i]? = some u ∧ i < sz ∧ j = j / sz * sz + i
 | [] => ⟨by simp, fun j u h => by simp at h⟩
 | x :: xs => by
  obtain ⟨h1, h2⟩ := flat_at enc hl xs
  refine ⟨by rw [List.flatMap_cons, List.length_append, h1, hl, List.length_cons, Nat.succ_mul]; omega, fun j u h => ?_⟩
  rw [List.flatMap_cons] at h
  by_cases hj : j < sz
  ·
   rw [List.getElem?_append_left (by rw [hl]; exact hj)] at h
   have hd : j / sz = 0 := Nat.div_eq_of_lt hj
   exact ⟨x, j, by rw [hd]; rfl, h, hj, by rw [hd]; omega⟩
  ·
   have hsz : 0 < sz := by
    rcases Nat.eq_zero_or_pos sz with e | e
    ·
     subst e
     have h0 : (xs.flatMap enc).length = 0 := by rw [h1, Nat.mul_zero]
     rw [List.getElem?_append_right (by rw [hl]; omega), List.eq_nil_of_length_eq_zero h0] at h
     simp at h
    ·
     exact e
   rw [List.getElem?_append_right (by rw [hl]; omega), hl] at h
   obtain ⟨p, i, a1, a2, a3, a4⟩ := h2 (j - sz) u h
   have hd : j / sz = (j - sz) / sz + 1 := by
    rw [Nat.div_eq_sub_div hsz (by omega)]
   exact ⟨p, i, by rw [hd]; simpa using a1, a2, a3, by rw [hd, Nat.succ_mul]; omega⟩

theorem C_news {α : Type} {d : Kd α} {enc : α → List Value} (hK : ∀ (w : World) x cs, d.K w x cs → cs = enc x) (hl : ∀ x, (enc x).length = d.sz) {w : World} {A : Option Addr} {xs : List α} (h : Kd.C d w A xs.length xs) {ad : Addr} (hA : A = some ad) :
  ∀ j u, (xs.flatMap enc)[j]? = some u → w.cell? (ad.add j) = some u := by
 intro j u hj
 obtain ⟨p, i, h1, h2, h3, h4⟩ := (flat_at enc hl xs).2 j u hj
 have hpos : 0 < xs.length := by
  have := (List.getElem?_eq_some_iff.1 h1).1
  exact Nat.lt_of_le_of_lt (Nat.zero_le _) this
 obtain ⟨ad', e, hc⟩ := h.2.2 hpos
 rw [hA] at e
 cases e
 obtain ⟨cs, hs, hk, hcell⟩ := hc _ p h1
 rw [hK w p cs hk] at hcell
 rw [h4]
 exact hcell i u h2
theorem C_some {α : Type} {d : Kd α} {w : World} {A : Option Addr} {xs : List α} (h : Kd.C d w A xs.length xs) (h0 : A = none) : xs = [] := by
 by_cases hp : 0 < xs.length
 ·
  obtain ⟨ad, e, _⟩ := h.2.2 hp
  rw [h0] at e; cases e
 ·
  exact List.eq_nil_of_length_eq_zero (by omega)

theorem append_row {α : Type} {d : Kd α} {enc : α → List Value} (hK : ∀ (w : World) x cs, d.K w x cs → cs = enc x) (hl : ∀ x, (enc x).length = d.sz) (h1 : ∀ x, ∀ u ∈ enc x, u.oneCell' = true) {w : World} {base e t ty : Nat} {i : TypeInfo} {z : Value} {bytes : Nat}
  (ht : P.underlying t = some (.slice e)) (hi : P.info? e = some i) (hz : i.zero = some z) (hsize : i.size = d.sz) (hby : i.bytes = bytes) (hzs : z.cells.size = d.sz) (hsz : 0 < d.sz) (hb : 0 < bytes)
  {v : Value} {ys : List α} (hown : w.ownsRow base e d.sz v ys.length (ys.flatMap enc)) {A : Option Addr} {c : Nat} {xs : List α} (h : Kd.C d w A xs.length xs) (hn : (ys.length + xs.length) * bytes ≤ 140737488355328) (hbase : base ≤ w.heap.size)
  (hno : A = none → (Builtin.append_ #[t, t] ty #[v, .slice none xs.length c]).run P w = .ok v w) :
  ∃ v' w', (Builtin.append_ #[t, t] ty #[v, .slice A xs.length c]).run P w = .ok v' w' ∧ w'.ownsRow base e d.sz v' (ys ++ xs).length ((ys ++ xs).flatMap enc) ∧ w.grownBy w' v.ownBlock ∧ (v'.ownBlock = v.ownBlock ∨ v'.ownBlock = some w.heap.size) := by
 cases A with
 | none =>
  have hx := C_some h rfl
  refine ⟨v, w, hno rfl, ?_, ⟨rfl, rfl, rfl, Nat.le_refl _, fun _ _ _ => rfl⟩, .inl rfl⟩
  subst hx
  rw [List.append_nil]
  exact hown
 | some ad =>
  obtain ⟨v', w', hr, ho, hg, _, hb'⟩ := run_append_own_at (P := P) w base t ty e i z d.sz bytes ht hi hz hsize hby hzs hsz v ys.length _ hown ad xs.length c (xs.flatMap enc) (flat_at enc hl xs).1 (C_news hK hl h rfl)
   (fun u hu => by obtain ⟨x, _, hx⟩ := List.mem_flatMap.1 hu; exact h1 x u hx) (by have := Nat.le_mul_of_pos_right (ys.length + xs.length) hb; simp only [maxLen]; omega) (by exact hn) hbase
  exact ⟨v', w', hr, by rw [List.length_append, List.flatMap_append]; exact ho, hg, hb'⟩
theorem row_read {α : Type} {d : Kd α} {enc : α → List Value} (hM : ∀ (w : World) x, d.K w x (enc x)) (hl : ∀ x, (enc x).length = d.sz) {w : World} {base e : Nat} {v : Value} {xs : List α} (h : w.ownsRow base e d.sz v xs.length (xs.flatMap enc)) (hn : xs.length ≤ 9223372036854775807) :
  ∃ A c, v = .slice A xs.length c ∧ xs.length ≤ c ∧ Kd.C d w A xs.length xs := by
 rcases h.2 with ⟨rfl, h0⟩ | ⟨g, cap, cur, rfl, hb, hg, hcap, hm, hs, ht⟩
 ·
  have : xs = [] := List.eq_nil_of_length_eq_zero h0
  subst this
  exact ⟨none, 0, rfl, Nat.le_refl _, rfl, by simp, fun h => absurd h (by simp)⟩
 ·
  refine ⟨_, cap, rfl, hcap, rfl, hn, fun _ => ⟨_, rfl, fun j p hj => ⟨enc p, hl p, hM w p, fun i u hu => ?_⟩⟩⟩
  have hadd : (⟨g, 0, none⟩ : Addr).add (j * d.sz + i) = ⟨g, j * d.sz + i, none⟩ := by unfold Addr.add; split <;> simp_all
  rw [hadd, cell_of_row w g _ cur e (0, 0) hg]
  have hjl := (List.getElem?_eq_some_iff.1 hj).1
  have hil : i < d.sz := by rw [← hl p]; exact (List.getElem?_eq_some_iff.1 hu).1
  have key : ∀ (xs : List α) (j : Nat), xs[j]? = some p → (xs.flatMap enc)[j * d.sz + i]? = some u := by
   intro xs
   induction xs with
   | nil => intro j hj; simp at hj
   | cons x xs ih =>
    intro j hj
    rw [List.flatMap_cons]
    cases j with
    | zero =>
     simp at hj
     subst hj
     rw [Nat.zero_mul, Nat.zero_add, List.getElem?_append_left (by rw [hl]; exact hil)]
     exact hu
    | succ j =>
     rw [List.getElem?_append_right (by rw [hl, Nat.succ_mul]; omega), hl, Nat.succ_mul]
     have := ih j (by simpa using hj)
     rw [← this]; congr 1; omega
  have hk := key xs j hj
  have hlt : j * d.sz + i < xs.length * d.sz := by
   have : (j + 1) * d.sz ≤ xs.length * d.sz := Nat.mul_le_mul_right _ hjl
   rw [Nat.succ_mul] at this; omega
  rw [← ht, List.getElem?_take_of_lt hlt] at hk
  rw [← Array.getElem?_toList]; exact hk
theorem append_none {w : World} {t ty e : TypeId} {i : TypeInfo} {z : Value} (ht : P.underlying t = some (.slice e)) (hi : P.info? e = some i) (g m c c' : Nat) (h : m ≤ c) :
  (Builtin.append_ #[t, t] ty #[.slice (some ⟨g, 0, none⟩) m c, .slice none 0 c']).run P w = .ok (.slice (some ⟨g, 0, none⟩) m c) w := by
 simp [Builtin.append_, run_underlying ht, sizeOf, typeInfo, hi, Builtin.lenOf, Builtin.firstCells, loadCells, loadCellsFrom, h, storeCells]

theorem list_run {ops : Array Oper} {rest : List Oper} {o : Oper} {a : Act} {w : World} {Q : Exit → Act → World → Prop} (hgd : o.guard = none) (s x : Operand) (t : TypeId)
  (ho : o.op = .call { callee := .builtin .append, args := #[s, x], argTypes := #[t, t] }) {v u : Value} (hs : a.eval s = v) (hx : a.eval x = u) {v' : Value} {w' : World}
  (hr : (Builtin.append_ #[t, t] o.type #[v, u]).run P w = .ok v' w') (h : wpList P ops Q rest (a.put o.dst v') w') : wpList P ops Q (o :: rest) a w := by
 refine wpList_plain hgd fun K hK => ?_
 unfold Oper.wp execOp
 simp only [ho, resolve, invoke, builtin, Sem.run_bind, Sem.run_pure, Result.andThen_ok, List.map_toArray, List.map_cons, List.map_nil, hs, hx, hr]
 exact hK _ _ h
theorem own_new0 {w : World} {base e sz : Nat} (hb : base ≤ w.heap.size) : (w.alloc (.cells #[] e)).ownsRow base e sz (.slice (some ⟨w.heap.size, 0, none⟩) 0 0) 0 [] :=
 World.ownsRow_lit w #[] 0 hb (by decide) (by simp)
theorem own_far {w : World} {base e sz n : Nat} {v : Value} {xs : List Value} (h : w.ownsRow base e sz v n xs) {p : Addr} (hp : p.block < base) (u : Value) : (w.setCell p u).ownsRow base e sz v n xs := by
 refine ⟨h.1, ?_⟩
 rcases h.2 with hn | ⟨g, cap, cur, rfl, hb, hg, rest⟩
 ·
  exact .inl hn
 ·
  exact .inr ⟨g, cap, cur, rfl, hb, (Below.heap_setCell w p u g (by omega)).trans hg, rest⟩
end Go.Proofs.YtgoidclnccjdeaaK
end
section
/- General lemmas of this session's own: an element of three cells written into a row of its own. -/
namespace Go.Proofs.YtgoidclnccjdeaaK
open Go Go.RowKit Go.Proofs.YtgoidclnccjdeaaW.PrintWords Go.Proofs.YtgoidclnccjdeaaW.PrintLast Go.Proofs.YtgoidclnccjdeaaW.PrintMore
set_option linter.unusedVariables false
set_option linter.unusedSimpArgs false

theorem flat_set3 {α : Type} {enc : α → List Value} (hl : ∀ x, (enc x).length = 3) {x : α} {c0 c1 c2 : Value} (hx : enc x = [c0, c1, c2]) : ∀ (xs : List α) (k : Nat), k < xs.length →
  (((xs.flatMap enc).set (k * 3) c0).set (k * 3 + 1) c1).set (k * 3 + 2) c2 = (xs.set k x).flatMap enc
 | [], k, h => by simp at h
 | y :: ys, 0, _ => by
  obtain ⟨a, b, c, e⟩ : ∃ a b c, enc y = [a, b, c] := by
   have := hl y
   match h : enc y, this with
   | [a, b, c], _ => exact ⟨a, b, c, rfl⟩
  simp [List.flatMap_cons, e, hx]
 | y :: ys, k + 1, h => by
  have ih := flat_set3 hl hx ys k (by simpa using h)
  rw [List.flatMap_cons, List.set_cons_succ, List.flatMap_cons, ← ih]
  have h3 := hl y
  rw [List.set_append_right _ _ (by omega), List.set_append_right _ _ (by omega), List.set_append_right _ _ (by omega)]
  rw [h3, show (k + 1) * 3 - 3 = k * 3 by omega, show (k + 1) * 3 + 1 - 3 = k * 3 + 1 by omega, show (k + 1) * 3 + 2 - 3 = k * 3 + 2 by omega]
theorem own_put3 {α : Type} {enc : α → List Value} (hl : ∀ x, (enc x).length = 3) {w : World} {base e m cap g : Nat} {xs : List α} (hm : xs.length = m) (h : w.ownsRow base e 3 (.slice (some ⟨g, 0, none⟩) m cap) m (xs.flatMap enc)) {k : Nat} (hk : k < m)
  {x : α} {c0 c1 c2 : Value} (hx : enc x = [c0, c1, c2]) :
  (((w.setCell ⟨g, k * 3, none⟩ c0).setCell ⟨g, k * 3 + 1, none⟩ c1).setCell ⟨g, k * 3 + 2, none⟩ c2).ownsRow base e 3 (.slice (some ⟨g, 0, none⟩) m cap) m ((xs.set k x).flatMap enc) := by
 subst hm
 refine ⟨by rw [(flat_at enc hl _).1, List.length_set], ?_⟩
 rcases h.2 with ⟨h1, _⟩ | ⟨g', cap', cur, h1, hb, hg, hcap, hm, hs, ht⟩
 ·
  cases h1
 ·
  cases h1
  refine .inr ⟨g, cap, _, rfl, hb, blk_set (blk_set (blk_set hg _ c0) _ c1) _ c2, hcap, hm, by simpa using hs, ?_⟩
  simp only [Array.toList_setIfInBounds, List.take_set, ht]
  exact flat_set3 hl hx xs k hk
theorem own_at {w : World} {base e sz n cap m : Nat} {A : Option Addr} {cs : List Value} (h : w.ownsRow base e sz (.slice A n cap) m cs) (h0 : 0 < m) : ∃ g, A = some ⟨g, 0, none⟩ ∧ base ≤ g ∧ n = m ∧ n ≤ cap ∧ g < w.heap.size ∧ ∃ cur, w.heap[g]? = some (.cells cur e (0, 0)) ∧ cur.toList.take (m * sz) = cs ∧ m * sz ≤ cur.size := by
 rcases h.2 with ⟨h1, h2⟩ | ⟨g', cap', cur, h1, hb, hg, hcap, hm, hs, ht⟩
 ·
  omega
 ·
  cases h1
  refine ⟨_, rfl, hb, rfl, hcap, blk_lt hg, cur, hg, ht, ?_⟩
  have := h.1
  have h2 := congrArg List.length ht
  rw [List.length_take, Array.length_toList] at h2
  omega
theorem add0 (g n : Nat) : (⟨g, 0, none⟩ : Addr).add n = ⟨g, n, none⟩ := by unfold Addr.add; split <;> simp_all
theorem far3 {w : World} {b g : Nat} {t : TypeId} {cs : Array Value} (h : w.heap[b]? = some (.cells cs t (0, 0))) (hne : b ≠ g) (j : Nat) (c0 c1 c2 : Value) : (((w.setCell ⟨g, j, none⟩ c0).setCell ⟨g, j + 1, none⟩ c1).setCell ⟨g, j + 2, none⟩ c2).heap[b]? = some (.cells cs t (0, 0)) :=
 blk_far (p := ⟨g, j + 2, none⟩) (blk_far (p := ⟨g, j + 1, none⟩) (blk_far (p := ⟨g, j, none⟩) h hne c0) hne c1) hne c2
theorem agree_set {w w0 : World} {a z g j : Nat} {v : Value} (h : ∀ k, a ≤ k → k < z → w.heap[k]? = w0.heap[k]?) (hg : g < a ∨ z ≤ g) : ∀ k, a ≤ k → k < z → (w.setCell ⟨g, j, none⟩ v).heap[k]? = w0.heap[k]? :=
 fun k h1 h2 => (Below.heap_setCell w ⟨g, j, none⟩ v k (by show k ≠ g; omega)).trans (h k h1 h2)
theorem agree_below {w w' w0 : World} {a z : Nat} (h : ∀ k, a ≤ k → k < z → w.heap[k]? = w0.heap[k]?) (hb : Below w.heap.size w w') (hz : z ≤ w.heap.size) : ∀ k, a ≤ k → k < z → w'.heap[k]? = w0.heap[k]? :=
 fun k h1 h2 => (hb.block k (Nat.lt_of_lt_of_le h2 hz)).trans (h k h1 h2)
end Go.Proofs.YtgoidclnccjdeaaK
end
section
/- Package glass: a row that a call has made, kept through stores into other blocks. -/
namespace Go.Proofs.Ytgoidclnccjdeaa.D
open Go Go.RowKit Go.Proofs.YtgoidclnccjdeaaK Go.Proofs.YtgoidclnccjdeaaW.PrintWords Go.Proofs.YtgoidclnccjdeaaW.PrintLast Go.Proofs.YtgoidclnccjdeaaW.PrintMore Go.Proofs.Ytgoidclnccjdeaa.PR Go.Proofs.Ytgoidclnccjdeaa.M
set_option linter.unusedVariables false
set_option linter.unusedSimpArgs false

structure Keep (n0 : Nat) (w0 w : World) : Prop where
 size : w0.heap.size ≤ w.heap.size
 same : ∀ k, n0 ≤ k → k < w0.heap.size → w.heap[k]? = w0.heap[k]?
theorem Keep.refl (n0 : Nat) (w : World) : Keep n0 w w := ⟨Nat.le_refl _, fun _ _ _ => rfl⟩
theorem Keep.below {n0 : Nat} {w0 w w' : World} (h : Keep n0 w0 w) (hb : Below w.heap.size w w') : Keep n0 w0 w' := ⟨Nat.le_trans h.size hb.size, agree_below h.same hb h.size⟩
theorem Keep.set {n0 g j : Nat} {w0 w : World} (h : Keep n0 w0 w) (hg : g < n0 ∨ w0.heap.size ≤ g) (v : Value) : Keep n0 w0 (w.setCell ⟨g, j, none⟩ v) :=
 ⟨by simpa [World.setCell] using h.size, agree_set h.same hg⟩
theorem NewRow.keep {n0 : Nat} {w0 w : World} {v : Value} {l : List Nat} (h : NewRow w0 n0 v l) (hk : Keep n0 w0 w) : NewRow w n0 v l := by
 rcases h with h | ⟨g, L, n, h1, h2, h3, h4⟩
 ·
  exact .inl h
 ·
  exact .inr ⟨g, L, n, h1, h2, (hk.same g h2 h3.lt).trans h3, h4⟩
theorem NewRow.read {w : World} {n0 n c : Nat} {A : Option Addr} {l : List Nat} (h : NewRow w n0 (.slice A n c) l) : Kd.C (Kd.int .i64) w A (ints l).length (ints l) := by
 obtain ⟨A', c', e, _, _, hC⟩ := h.rowI
 cases e
 exact hC
theorem one_int {w : World} {g : Nat} {t : TypeId} (x : Int) (h : w.heap[g]? = some (.cells #[.int .i64 x] t (0, 0))) : Kd.C (Kd.int .i64) w (some ⟨g, 0, none⟩) 1 [x] := C_lit (t := t) h (by simp)
end Go.Proofs.Ytgoidclnccjdeaa.D
end
section
/- Package glass: a shelf with fewer truths (one more drawing), and what that does to the program's answers. -/
namespace Go.Proofs.Ytgoidclnccjdeaa.D
open Go Go.RowKit Go.Proofs.YtgoidclnccjdeaaK Go.Proofs.YtgoidclnccjdeaaW.PrintWords Go.Proofs.YtgoidclnccjdeaaW.PrintLast Go.Proofs.YtgoidclnccjdeaaW.PrintMore Go.Proofs.Ytgoidclnccjdeaa.PR Go.Proofs.Ytgoidclnccjdeaa.M
set_option linter.unusedVariables false
set_option linter.unusedSimpArgs false

theorem ask_used {D : Dat} {k : Nat} (h : k < D.dr.length) : askE (askUsed D (k : Int)) = 0 := by unfold askUsed; exact ask_size h
end Go.Proofs.Ytgoidclnccjdeaa.D
end
section
/- Package glass: a shelf with other drawings; of which a drawing is said to be made through one glass. -/
namespace Go.Proofs.Ytgoidclnccjdeaa.D
open Go Go.RowKit Go.Proofs.YtgoidclnccjdeaaK Go.Proofs.YtgoidclnccjdeaaW.PrintWords Go.Proofs.YtgoidclnccjdeaaW.PrintLast Go.Proofs.YtgoidclnccjdeaaW.PrintMore Go.Proofs.Ytgoidclnccjdeaa.PR Go.Proofs.Ytgoidclnccjdeaa.M
set_option linter.unusedVariables false
set_option linter.unusedSimpArgs false

def wdr (D : Dat) (l : List Dr) : Dat := ⟨D.gl, D.lo, D.hi, D.sp, l⟩
theorem firstE_ok {α : Type} (E : Nat → α → Int) : ∀ (l : List α) (k : Nat), (∀ i (h : i < l.length), E (k + i) l[i] = 0) → firstE E l k = (0, 0)
 | [], k, _ => rfl
 | x :: l, k, h => by
  have h0 := h 0 (by simp)
  simp only [Nat.add_zero, List.getElem_cons_zero] at h0
  unfold firstE
  rw [if_pos h0]
  refine firstE_ok E l (k + 1) (fun i hi => ?_)
  have := h (i + 1) (by simp; omega)
  rw [show k + 1 + i = k + (i + 1) by omega]
  simpa using this
theorem wdr_check {D : Dat} (hc : (checkF D).2.2 = 0) {l : List Dr} (hl : l.length ≤ 4) (h : ∀ i (hi : i < l.length), errD D.gl.length D.sp.length i l[i] = 0) : (checkF (wdr D l)).2.2 = 0 := by
 have h4 : (firstL l 0 4 (errD D.gl.length D.sp.length)).2 = 0 := by
  unfold firstL
  rw [if_neg (by simp [outB]; omega), firstE_ok _ _ _ (fun i hi => by rw [Nat.zero_add]; exact h i hi)]
 unfold checkF at hc ⊢
 split at hc
 ·
  next h1 => exact absurd hc h1
 ·
  next h1 =>
  split at hc
  ·
   next h2 => exact absurd hc h2
  ·
   next h2 =>
   split at hc
   ·
    next h3 => exact absurd hc h3
   ·
    next h3 =>
    show (if (firstL D.gl 1 3 (errG D.gl)).2 ≠ 0 then _ else _ : Int × Int × Int).2.2 = 0
    rw [if_neg h1]
    show (if endsE D.lo D.hi 0 3 ≠ 0 then _ else _ : Int × Int × Int).2.2 = 0
    rw [if_neg h2]
    show (if (firstL D.sp 0 4 errP).2 ≠ 0 then _ else _ : Int × Int × Int).2.2 = 0
    rw [if_neg h3]
    show (if (firstL l 0 4 (errD D.gl.length D.sp.length)).2 ≠ 0 then _ else _ : Int × Int × Int).2.2 = 0
    rw [if_neg (fun x => x h4)]
theorem err_dr {D : Dat} (hc : (checkF D).2.2 = 0) (i : Nat) (hi : i < D.dr.length) : errD D.gl.length D.sp.length i D.dr[i] = 0 := by
 unfold checkF at hc
 split at hc
 ·
  next h1 => exact absurd hc h1
 ·
  split at hc
  ·
   next h2 => exact absurd hc h2
  ·
   split at hc
   ·
    next h3 => exact absurd hc h3
   ·
    split at hc
    ·
     next h4 => exact absurd hc h4
    ·
     next h4 => exact (firstL_zero (Decidable.of_not_not h4)).2 i hi
theorem errD_mk {n m i : Nat} {d : Dr} (h0 : -1 ≤ d.f0 ∧ d.f0 ≤ (n : Int) - 1) (h1 : 0 ≤ d.f1 ∧ d.f1 ≤ 9) (h2 : 0 ≤ d.f2 ∧ d.f2 ≤ ((2 ^ m : Nat) : Int) - 1) : errD n m i d = 0 := by
 unfold errD
 rw [if_neg (by rw [outB_one]; exact fun x => x h0), if_neg (by rw [outB_one]; exact fun x => x h1), if_neg (by rw [outB_one]; exact fun x => x h2)]
theorem rd_set (l : List Dr) (i : Nat) (d : Dr) (hi : i < l.length) (j : Nat) : rd_T72 (l.set i d) (j : Int) = if j = i then d else rd_T72 l (j : Int) := by
 simp only [rd_T72, Int.toNat_natCast, List.getD_eq_getElem?_getD, List.getElem?_set]
 by_cases h : j = i
 ·
  subst h; rw [if_pos rfl, if_pos rfl, if_pos hi]; rfl
 ·
  rw [if_neg h, if_neg (fun e => h e.symm)]
def saidD (D : Dat) (i : Nat) (g : Nat) : Dat := wdr D (D.dr.set i ⟨(g : Int), (rd_T72 D.dr (i : Int)).f1, (rd_T72 D.dr (i : Int)).f2⟩)
section
variable {D : Dat} (hs : someB D = true) {i g : Nat} (hi : i < D.dr.length) (hg : g < D.gl.length)
include hs hi
theorem used_ne : usedF D (i : Int) ≠ [] := by
 obtain ⟨hc, hV, hne⟩ := some_yes hs
 have he := enter_yes hs (ask_used hi)
 rw [usedF_eq he]
 obtain ⟨x, hx⟩ := List.exists_mem_of_ne_nil _ hne
 have h2 := (List.mem_filter.1 hx).2
 unfold soB soTo at h2
 rw [List.all_eq_true] at h2
 have h3 := h2 i (List.mem_range.2 hi)
 rw [Nat.zero_testBit, Bool.false_or] at h3
 unfold soD at h3
 rw [List.any_eq_true] at h3
 obtain ⟨g', hg', ht⟩ := h3
 intro e
 have : g' ∈ (List.range D.gl.length).filter fun g => (truthsL D 0).any fun x => thrB D (fn x) (rd_T72 D.dr (i : Int)) g := List.mem_filter.2 ⟨hg', by rw [List.any_eq_true]; exact ⟨x, hx, ht⟩⟩
 rw [e] at this; simp at this
theorem used_known (h0 : (rd_T72 D.dr (i : Int)).f0 ≠ -1) : ints (usedF D (i : Int)) = [(rd_T72 D.dr (i : Int)).f0] := by
 obtain ⟨hc, hV, hne⟩ := some_yes hs
 have he := enter_yes hs (ask_used hi)
 have hb := hV.dr i hi
 obtain ⟨m, hm⟩ := Int.eq_ofNat_of_zero_le (show 0 ≤ (rd_T72 D.dr (i : Int)).f0 by omega)
 have hnn := used_ne hs hi
 rw [usedF_eq he] at hnn ⊢
 have hall : ∀ x ∈ (List.range D.gl.length).filter fun g => (truthsL D 0).any fun x => thrB D (fn x) (rd_T72 D.dr (i : Int)) g, x = m := by
  intro x hx
  have h2 := (List.mem_filter.1 hx).2
  rw [List.any_eq_true] at h2
  obtain ⟨z, _, ht⟩ := h2
  unfold thrB at ht
  rw [Bool.and_eq_true, Bool.or_eq_true, beq_iff_eq, beq_iff_eq] at ht
  rcases ht.1 with h | h
  ·
   exact absurd h h0
  ·
   omega
 have hnd : ((List.range D.gl.length).filter fun g => (truthsL D 0).any fun x => thrB D (fn x) (rd_T72 D.dr (i : Int)) g).Nodup := List.nodup_range.filter _
 rw [hm]
 generalize (List.range D.gl.length).filter (fun g => (truthsL D 0).any fun x => thrB D (fn x) (rd_T72 D.dr (i : Int)) g) = L at hnn hall hnd ⊢
 match L, hnn, hall, hnd with
 | [a], _, hall, _ => have := hall a (by simp); subst this; rfl
 | a :: b :: t, _, hall, hnd =>
  have h1 := hall a (by simp)
  have h2 := hall b (by simp)
  subst h1
  rw [h2] at hnd
  simp at hnd
include hg
theorem said_check : (checkF (saidD D i g)).2.2 = 0 := by
 obtain ⟨hc, hV, hne⟩ := some_yes hs
 have hd4 := hV.d4
 refine wdr_check hc (by rw [List.length_set]; exact hd4) (fun j hj => ?_)
 rw [List.length_set] at hj
 rw [List.getElem_set]
 by_cases e : i = j
 ·
  rw [if_pos e]
  have hb := hV.dr i hi
  exact errD_mk ⟨by show -1 ≤ (g : Int); omega, by show (g : Int) ≤ _; omega⟩ ⟨hb.2.2.1, hb.2.2.2.1⟩ ⟨hb.2.2.2.2.1, by have := hb.2.2.2.2.2; show (rd_T72 D.dr (i : Int)).f2 ≤ _; omega⟩
 ·
  rw [if_neg e]; exact err_dr hc j hj
theorem said_mem (h0 : (rd_T72 D.dr (i : Int)).f0 = -1) (x : List Int) : x ∈ truthsL (saidD D i g) 0 ↔ x ∈ truthsL D 0 ∧ thrB D (fn x) (rd_T72 D.dr (i : Int)) g = true := by
 have _h := hs
 have e0 : truthsL (saidD D i g) 0 = (prodL (spansL D)).filter fun l => soB (saidD D i g) 0 (fn l) := rfl
 rw [e0, List.mem_filter]
 have e1 : x ∈ truthsL D 0 ↔ x ∈ prodL (spansL D) ∧ soB D 0 (fn x) = true := List.mem_filter
 rw [e1, and_assoc]
 refine and_congr_right fun _ => ?_
 have hrd : ∀ j : Nat, rd_T72 (saidD D i g).dr (j : Int) = if j = i then ⟨(g : Int), (rd_T72 D.dr (i : Int)).f1, (rd_T72 D.dr (i : Int)).f2⟩ else rd_T72 D.dr (j : Int) := rd_set D.dr i _ hi
 have hlen : (saidD D i g).dr.length = D.dr.length := List.length_set ..
 have hone : soD (saidD D i g) (fn x) ⟨(g : Int), (rd_T72 D.dr (i : Int)).f1, (rd_T72 D.dr (i : Int)).f2⟩ D.gl.length = thrB D (fn x) (rd_T72 D.dr (i : Int)) g := by
  rw [Bool.eq_iff_iff]
  unfold soD
  rw [List.any_eq_true]
  unfold thrB
  simp only [Bool.and_eq_true, Bool.or_eq_true, beq_iff_eq]
  constructor
  ·
   rintro ⟨k, hk, h1, h2⟩
   have : k = g := by
    rcases h1 with h1 | h1
    ·
     have h9 : (g : Int) = -1 := h1; omega
    ·
     have h9 : (g : Int) = (k : Int) := h1; omega
   subst this
   exact ⟨.inl h0, h2⟩
  ·
   rintro ⟨_, h2⟩
   exact ⟨g, List.mem_range.2 hg, .inr rfl, h2⟩
 have himp : thrB D (fn x) (rd_T72 D.dr (i : Int)) g = true → soD D (fn x) (rd_T72 D.dr (i : Int)) D.gl.length = true := fun h => by
  unfold soD
  rw [List.any_eq_true]
  exact ⟨g, List.mem_range.2 hg, h⟩
 unfold soB soTo
 rw [List.all_eq_true, List.all_eq_true, hlen]
 constructor
 ·
  intro h
  have hi2 := h i (List.mem_range.2 hi)
  rw [hrd, if_pos rfl, Nat.zero_testBit, Bool.false_or] at hi2
  have hth : thrB D (fn x) (rd_T72 D.dr (i : Int)) g = true := hone ▸ hi2
  refine ⟨fun j hj => ?_, hth⟩
  by_cases e : j = i
  ·
   subst e; rw [Nat.zero_testBit, Bool.false_or]; exact himp hth
  ·
   have := h j hj
   rw [hrd, if_neg e] at this
   exact this
 ·
  rintro ⟨h, hth⟩ j hj
  rw [hrd]
  by_cases e : j = i
  ·
   rw [if_pos e, Nat.zero_testBit, Bool.false_or]; exact hone.trans hth
  ·
   rw [if_neg e]; exact h j hj
theorem said_used (h0 : (rd_T72 D.dr (i : Int)).f0 = -1) : (hasB (ints (usedF D (i : Int))) g = false → enterE (saidD D i g) (askUsed (saidD D i g) (i : Int)) = 8 ∧ usedF (saidD D i g) (i : Int) = []) ∧
  (hasB (ints (usedF D (i : Int))) g = true → enterE (saidD D i g) (askUsed (saidD D i g) (i : Int)) = 0 ∧ ints (usedF (saidD D i g) (i : Int)) = [(g : Int)]) := by
 have he := enter_yes hs (ask_used hi)
 have hck := said_check hs hi hg
 have hlen : (saidD D i g).dr.length = D.dr.length := List.length_set ..
 have hask : askE (askUsed (saidD D i g) (i : Int)) = 0 := ask_used (by rw [hlen]; exact hi)
 have hhas : hasB (ints (usedF D (i : Int))) g = (truthsL D 0).any fun x => thrB D (fn x) (rd_T72 D.dr (i : Int)) g := by
  rw [usedF_eq he]; exact has_filter hg
 rw [hhas]
 constructor
 ·
  intro h
  have hnil : truthsL (saidD D i g) 0 = [] := by
   rw [List.eq_nil_iff_forall_not_mem]
   intro x hx
   have := (said_mem hs hi hg h0 x).1 hx
   rw [List.any_eq_false] at h
   exact h x this.1 this.2
  have he2 : enterE (saidD D i g) (askUsed (saidD D i g) (i : Int)) = 8 := by
   unfold enterE
   rw [if_neg (fun x => x hck), if_neg (fun x => x hask), hnil]; rfl
  exact ⟨he2, by unfold usedF; rw [if_neg (by rw [he2]; decide)]⟩
 ·
  intro h
  rw [List.any_eq_true] at h
  obtain ⟨x, hx, ht⟩ := h
  have hx2 := (said_mem hs hi hg h0 x).2 ⟨hx, ht⟩
  have hs2 : someB (saidD D i g) = true := by
   unfold someB someT
   rw [hck]
   cases hT : truthsL (saidD D i g) 0 with
   | nil => rw [hT] at hx2; simp at hx2
   | cons a l => rfl
  have he2 : enterE (saidD D i g) (askUsed (saidD D i g) (i : Int)) = 0 := enter_yes hs2 hask
  refine ⟨he2, ?_⟩
  have hrd : rd_T72 (saidD D i g).dr (i : Int) = ⟨(g : Int), (rd_T72 D.dr (i : Int)).f1, (rd_T72 D.dr (i : Int)).f2⟩ := by
   have := rd_set D.dr i ⟨(g : Int), (rd_T72 D.dr (i : Int)).f1, (rd_T72 D.dr (i : Int)).f2⟩ hi i
   rw [if_pos rfl] at this; exact this
  have := used_known hs2 (i := i) (by rw [hlen]; exact hi) (by rw [hrd]; show (g : Int) ≠ -1; omega)
  rw [this, hrd]
end
end Go.Proofs.Ytgoidclnccjdeaa.D
end
section
/- Package glass: rows of drawings and of spans, copied by append. -/
namespace Go.Proofs.Ytgoidclnccjdeaa.D
open Go Go.RowKit Go.Proofs.YtgoidclnccjdeaaK Go.Proofs.YtgoidclnccjdeaaW.PrintWords Go.Proofs.YtgoidclnccjdeaaW.PrintLast Go.Proofs.YtgoidclnccjdeaaW.PrintMore Go.Proofs.Ytgoidclnccjdeaa.PR Go.Proofs.Ytgoidclnccjdeaa.M
set_option linter.unusedVariables false
set_option linter.unusedSimpArgs false
def encR (x : Dr) : List Value := [.int .i64 x.f0, .int .i64 x.f1, .int .i64 x.f2]
theorem infoDr : ∃ i, Try.prog.info? 72 = some i ∧ i.zero = some (.agg #[(.int .i64 0), (.int .i64 0), (.int .i64 0)]) ∧ i.size = 3 ∧ i.bytes = 24 := by
 have h : (Try.prog.info? 72).map (fun i => (i.zero, i.size, i.bytes)) = some (some (.agg #[(.int .i64 0), (.int .i64 0), (.int .i64 0)]), 3, 24) := by kernel_rfl
 cases hi : Try.prog.info? 72 with
 | none => rw [hi] at h; cases h
 | some i => rw [hi] at h; simp at h; exact ⟨i, rfl, h.1, h.2.1, h.2.2⟩
theorem encR_one (x : Dr) : ∀ u ∈ encR x, u.oneCell' = true := by simp [encR, Value.oneCell']
theorem own_form {w : World} {base e sz n k : Nat} {v : Value} {cs : List Value} (h : w.ownsRow base e sz v n cs) (hk : v.ownBlock = some k) : ∃ c, v = .slice (some ⟨k, 0, none⟩) n c := by
 rcases h.2 with ⟨rfl, _⟩ | ⟨g, cap, cur, rfl, _⟩
 ·
  simp [Value.ownBlock] at hk
 ·
  simp [Value.ownBlock] at hk
  subst hk
  exact ⟨_, rfl⟩
theorem append_drs {w : World} {base ty g m c0 k0 : Nat} {ys : List Dr} (hm : m = ys.length) (hown : w.ownsRow base 72 3 (.slice (some ⟨g, 0, none⟩) m c0) ys.length (ys.flatMap encR)) {A : Option Addr} {c n : Nat} {xs : List Dr} (hx : n = xs.length)
  (h : Kd.C k72 w A xs.length xs) (hk0 : k0 = ys.length + xs.length) (hn : (ys.length + xs.length) * 24 ≤ 140737488355328) (hbase : base ≤ w.heap.size) :
  ∃ g' c' w', (Builtin.append_ #[26, 26] ty #[.slice (some ⟨g, 0, none⟩) m c0, .slice A n c]).run Try.prog w = .ok (.slice (some ⟨g', 0, none⟩) k0 c') w' ∧ base ≤ g' ∧ w'.ownsRow base 72 3 (.slice (some ⟨g', 0, none⟩) k0 c') (ys ++ xs).length ((ys ++ xs).flatMap encR) ∧ Below base w w' ∧ w.grownBy w' (some g) := by
 subst hm hx hk0
 obtain ⟨i, hi, hz, hs, hb⟩ := infoDr
 obtain ⟨v', w', hr, ho, hg, hb'⟩ := append_row (ty := ty) (d := k72) (enc := encR) (fun w x cs hK => k72_open hK) (fun _ => rfl) encR_one Try.underlying26 hi hz hs hb rfl (by decide) (by decide) hown h hn hbase (fun hA => by
  have hx0 := C_some h hA
  have hle := own_le hown
  rw [hx0]
  exact append_none (z := .int .i64 0) Try.underlying26 hi g _ c0 c hle)
 obtain ⟨k, hk⟩ : ∃ k, v'.ownBlock = some k := by rcases hb' with e | e <;> exact ⟨_, e⟩
 obtain ⟨c', rfl⟩ := own_form ho hk
 rw [List.length_append] at hr ho
 refine ⟨k, c', w', hr, own_base ho k rfl, by rw [List.length_append]; exact ho, (Below.refl base w).grown hg hbase (fun k' e => own_base hown k' e), hg⟩
theorem drs_read {w : World} {base : Nat} {v : Value} {xs : List Dr} (h : w.ownsRow base 72 3 v xs.length (xs.flatMap encR)) (hn : xs.length ≤ 9223372036854775807) : ∃ A c, v = .slice A xs.length c ∧ xs.length ≤ c ∧ Kd.C k72 w A xs.length xs :=
 row_read (d := k72) (enc := encR) (fun w x => k72_mk w x) (fun _ => rfl) h hn
theorem drs_C {w : World} {base n c : Nat} {A : Option Addr} {xs : List Dr} (h : w.ownsRow base 72 3 (.slice A n c) xs.length (xs.flatMap encR)) (hn : xs.length ≤ 9223372036854775807) : Kd.C k72 w A xs.length xs := by
 obtain ⟨A1, c1, e, _, h2⟩ := drs_read h hn; cases e; exact h2
theorem list_drs {ops : Array Oper} {rest : List Oper} {o : Oper} {a : Act} {W : World} {Q : Exit → Act → World → Prop} {base g m c0 c n k0 : Nat} {A : Option Addr} {ys xs : List Dr} (hgd : o.guard = none) (s x : Operand)
  (ho : o.op = .call { callee := .builtin .append, args := #[s, x], argTypes := #[26, 26] }) (hs : a.eval s = .slice (some ⟨g, 0, none⟩) m c0) (hx : a.eval x = .slice A n c) (hm : m = ys.length) (hn : n = xs.length) (hk0 : k0 = ys.length + xs.length)
  (hown : W.ownsRow base 72 3 (.slice (some ⟨g, 0, none⟩) m c0) ys.length (ys.flatMap encR)) (hC : Kd.C k72 W A xs.length xs) (hl : (ys.length + xs.length) * 24 ≤ 140737488355328) (hb : base ≤ W.heap.size)
  (hk : ∀ g' c' w', base ≤ g' → w'.ownsRow base 72 3 (.slice (some ⟨g', 0, none⟩) k0 c') (ys ++ xs).length ((ys ++ xs).flatMap encR) → Below base W w' → W.grownBy w' (some g) → wpList Try.prog ops Q rest (a.put o.dst (.slice (some ⟨g', 0, none⟩) k0 c')) w') :
  wpList Try.prog ops Q (o :: rest) a W := by
 obtain ⟨g', c', w', hr, h1, h2, h3, h4⟩ := append_drs (ty := o.type) hm hown hn hC hk0 hl hb
 exact list_run hgd s x 26 ho hs hx hr (hk g' c' w' h1 h2 h3 h4)
end Go.Proofs.Ytgoidclnccjdeaa.D
end
section
/- Package glass: GlassWhose. -/
namespace Go.Proofs.Ytgoidclnccjdeaa.D
open Go Go.RowKit Go.Proofs.YtgoidclnccjdeaaK Go.Proofs.YtgoidclnccjdeaaW.PrintWords Go.Proofs.YtgoidclnccjdeaaW.PrintLast Go.Proofs.YtgoidclnccjdeaaW.PrintMore Go.Proofs.Ytgoidclnccjdeaa.PR Go.Proofs.Ytgoidclnccjdeaa.M
set_option linter.unusedVariables false
set_option linter.unusedSimpArgs false

set_option maxRecDepth 100000 in
set_option maxHeartbeats 4000000 in
theorem GlassWhose_calls (D : Dat) (A0 : Option Addr) (c0 : Nat) (A3 : Option Addr) (c3 : Nat) (A4 : Option Addr) (c4 : Nat) (x0 x1 : Int) (w : World) (h : Arg w D A0 c0 A3 c3 A4 c4) (hx0 : 0 ≤ x0 ∧ x0 ≤ 255) (hx1 : 0 ≤ x1 ∧ x1 ≤ 255) :
  Calls Try.prog 14 #[.agg (D.cells A0 c0 A3 c3 A4 c4), .agg #[.int .u8 x0, .int .u8 x1]] w
   fun e w' => e = .returned (.bool true) ∧ Below w.heap.size w w' := by
 have HS := Aside0.mk (blk_alloc (blk_new w (.cells (D.cells A0 c0 A3 c3 A4 c4) 28)) (.cells #[.int .u8 x0, .int .u8 x1] 65))
 have HX := Aside0.mk (new_at (W := (w.alloc (.cells (D.cells A0 c0 A3 c3 A4 c4) 28))) (n := w.heap.size + 1) (by simp) (.cells #[.int .u8 x0, .int .u8 x1] 65))
 have HB := Aside0.mk (below_alloc (below_alloc (Below.refl w.heap.size w) (.cells (D.cells A0 c0 A3 c3 A4 c4) 28)) (.cells #[.int .u8 x0, .int .u8 x1] 65))
 have HA := Aside0.mk h
 have HBD := Aside0.mk (And.intro hx0 hx1)
 clear hx0 hx1
 have HLS := Aside0.mk h.fits.d
 obtain ⟨K1, hK1⟩ := (rSome h.fits).rounds
 clear h
 obtain ⟨q, hq⟩ : ∃ q, w.heap.size = q := ⟨_, rfl⟩
 obtain ⟨sb, hsb⟩ : ∃ z, someB D = z := ⟨_, rfl⟩
 try rw [hsb] at hK1
 have Esb := Aside0.mk hsb
 have HK1 := Aside0.mk hK1
 clear hsb hK1
 go_enter Try.func14, Try.ntmps14
 go_upto_region 1 with (fail)
 generalize (w.alloc (.cells (D.cells A0 c0 A3 c3 A4 c4) 28)).alloc (.cells #[.int .u8 x0, .int .u8 x1] 65) = w1 at HS HX HB ⊢
 rw [hq] at HS HX
 try rw [hq]
 have HQQ := Aside0.mk hq
 have k0 := (blk_cell HS.out 0).trans rfl
 have k1 := (blk_cell HS.out 1).trans rfl
 have k2 := (blk_cell HS.out 2).trans rfl
 have k3 := (blk_cell HS.out 3).trans rfl
 have k4 := (blk_cell HS.out 4).trans rfl
 have kl := blk_lt HS.out
 have y0 := (blk_cell HX.out 0).trans rfl
 have y1 := (blk_cell HX.out 1).trans rfl
 have yl := blk_lt HX.out
 go_wp2_with fail
 clear k0 k1 k2 k3 k4 kl y0 y1 yl
 have hA := HA.out.below HB.out
 refine (helioscopelaw07_some.calls K1 A0 c0 D.gl D.lo D.hi A3 c3 D.sp A4 c4 D.dr _ w1 hA.g hA.gc hA.s hA.sc hA.d hA.dc HK1.out).mono ?_
 clear hA
 rintro e w2 ⟨rfl, hb⟩
 replace HB := Aside0.mk (HB.out.trans (hb.mono HB.out.size))
 replace HS := Aside0.mk (blk_below HS.out hb)
 replace HX := Aside0.mk (blk_below HX.out hb)
 clear hb HK1
 have hls := HLS.out
 by_cases hfew : sb = false ∨ D.dr.length = 0
 ·
  have he : enterE D (askUsed D 0) ≠ 0 := by
   rcases hfew with h | h
   ·
    exact some_no (Esb.out.trans h) _
   ·
    intro x
    have h2 := (enterE_ok x).2.2.1
    unfold askUsed at h2
    rw [h] at h2
    simp [askE, amongB, outB] at h2
  obtain ⟨en, hen⟩ : ∃ en, enterE D (askUsed D 0) = en := ⟨_, rfl⟩
  rw [hen] at he
  obtain ⟨s, hs⟩ : ∃ s, usedF D 0 = s := ⟨_, rfl⟩
  have Een := Aside0.mk hen
  have Es := Aside0.mk hs
  clear hen hs
  have hz : (en != 0) = true := by simpa using he
  have hz2 : (en == 0) = false := by simpa using he
  clear he
  have hsb : sb = false ∨ (sb = true ∧ ((D.dr.length : Int) == 0) = true ∧ (D.dr.length == 0) = true) := by cases sb; exact .inl rfl; exact .inr ⟨rfl, by rcases hfew with h | h; cases h; simp [h], by rcases hfew with h | h; cases h; simp [h]⟩
  clear hfew
  rcases hsb with rfl | ⟨rfl, h2, h3⟩
  ·
   skip
   have k0 := (blk_cell HS.out 0).trans rfl
   have k1 := (blk_cell HS.out 1).trans rfl
   have k2 := (blk_cell HS.out 2).trans rfl
   have k3 := (blk_cell HS.out 3).trans rfl
   have k4 := (blk_cell HS.out 4).trans rfl
   have kl := blk_lt HS.out
   have y0 := (blk_cell HX.out 0).trans rfl
   have y1 := (blk_cell HX.out 1).trans rfl
   have yl := blk_lt HX.out
   go_wp2_with fail
   clear k0 k1 k2 k3 k4 kl y0 y1 yl
   have hA := HA.out.below HB.out
   refine (Used_calls D A0 c0 A3 c3 A4 c4 0 w2 hA).mono ?_
   clear hA
   rw [Een.out, Es.out]
   rintro e w3 ⟨⟨v, rfl, hn⟩, hb⟩
   obtain ⟨Au, cu, rfl, _⟩ := hn.rowI
   clear hn
   replace HB := Aside0.mk (HB.out.trans (hb.mono HB.out.size))
   replace HS := Aside0.mk (blk_below HS.out hb)
   replace HX := Aside0.mk (blk_below HX.out hb)
   clear hb
   go_wp2_with fail
   refine (Awake_calls _).mono ?_
   rintro e wA ⟨rfl, hb⟩
   replace HB := Aside0.mk (HB.out.trans (hb.mono HB.out.size))
   clear hb
   go_wp2
   go_ret
   exact ⟨rfl, by first | exact HB.out | (rw [← hq]; exact HB.out)⟩
  ·
   skip
   have k0 := (blk_cell HS.out 0).trans rfl
   have k1 := (blk_cell HS.out 1).trans rfl
   have k2 := (blk_cell HS.out 2).trans rfl
   have k3 := (blk_cell HS.out 3).trans rfl
   have k4 := (blk_cell HS.out 4).trans rfl
   have kl := blk_lt HS.out
   have y0 := (blk_cell HX.out 0).trans rfl
   have y1 := (blk_cell HX.out 1).trans rfl
   have yl := blk_lt HX.out
   go_wp2_with fail
   clear k0 k1 k2 k3 k4 kl y0 y1 yl
   have hA := HA.out.below HB.out
   refine (Used_calls D A0 c0 A3 c3 A4 c4 0 w2 hA).mono ?_
   clear hA
   rw [Een.out, Es.out]
   rintro e w3 ⟨⟨v, rfl, hn⟩, hb⟩
   obtain ⟨Au, cu, rfl, _⟩ := hn.rowI
   clear hn
   replace HB := Aside0.mk (HB.out.trans (hb.mono HB.out.size))
   replace HS := Aside0.mk (blk_below HS.out hb)
   replace HX := Aside0.mk (blk_below HX.out hb)
   clear hb
   go_wp2_with fail
   refine (Awake_calls _).mono ?_
   rintro e wA ⟨rfl, hb⟩
   replace HB := Aside0.mk (HB.out.trans (hb.mono HB.out.size))
   clear hb
   go_wp2
   go_ret
   exact ⟨rfl, by first | exact HB.out | (rw [← hq]; exact HB.out)⟩
 ·
  have hsb : sb = true := by cases sb; exact absurd (.inl rfl) hfew; rfl
  subst hsb
  have h2 : 0 < D.dr.length := by omega
  have h2b : ((D.dr.length : Int) == 0) = false := beq_eq_false_iff_ne.2 (by omega)
  have h2c : (D.dr.length == 0) = false := beq_eq_false_iff_ne.2 (by omega)
  clear hfew
  have HSB := Aside0.mk Esb.out
  have HV := Aside0.mk (some_yes Esb.out).2.1
  have hg1 := HV.out.g1
  have hg3 := HV.out.g3
  have hd4 := HV.out.d4
  clear hls
  have k0 := (blk_cell HS.out 0).trans rfl
  have k1 := (blk_cell HS.out 1).trans rfl
  have k2 := (blk_cell HS.out 2).trans rfl
  have k3 := (blk_cell HS.out 3).trans rfl
  have k4 := (blk_cell HS.out 4).trans rfl
  have kl := blk_lt HS.out
  have y0' : w2.drew.cell? ⟨q + 1, 0, none⟩ = some (.int .u8 x0) := (blk_cell HX.out 0).trans rfl
  have y1' : w2.drew.cell? ⟨q + 1, 1, none⟩ = some (.int .u8 x1) := (blk_cell HX.out 1).trans rfl
  have yl := blk_lt HX.out
  have hw0 : IntKind.i64.wrap x0 = x0 := wrapI (by have := HBD.out; omega) (by have := HBD.out; omega)
  have hw1 : IntKind.i64.wrap x1 = x1 := wrapI (by have := HBD.out; omega) (by have := HBD.out; omega)
  have hnz : ¬ ((D.dr.length : Int) = 0) := by omega
  have hnz2 : ¬ (D.dr.length = 0) := by omega
  have hny : ¬ ((D.gl.length : Int) = 0) := by omega
  have hny1 : ((D.gl.length : Int) == 0) = false := beq_eq_false_iff_ne.2 hny
  have hny2 : ¬ (D.gl.length = 0) := by omega
  go_upto_region 4 with (fail)
  go_region_held3 (fun w' => w'.cell? ⟨q + 1, 0, none⟩ = some (.int .u8 x0) ∧ w'.cell? ⟨q + 1, 1, none⟩ = some (.int .u8 x1) ∧ w'.cell? ⟨q, 4, none⟩ = some (.slice A4 D.dr.length c4) ∧ w'.cell? ⟨q, 0, none⟩ = some (.slice A0 D.gl.length c0)) (refine ⟨?_, ?_, ?_, ?_⟩ <;> assumption) (fail)
  obtain ⟨i, hi', ei⟩ := tmodN x0 (D.dr.length : Int) HBD.out.1.1 (by omega)
  obtain ⟨g, hg', eg⟩ := tmodN x1 (D.gl.length : Int) HBD.out.2.1 (by omega)
  rw [ei, eg]
  clear k0 k1 k2 k3 k4 kl ei eg y0' y1' yl hw0 hw1 hnz hnz2 hny hny1 hny2 h2b h2c HX
  have hi : i < D.dr.length := by omega
  have hg : g < D.gl.length := by omega
  clear hi' hg'
  have hb : Below w2.heap.size w2 w2.drew := below_drew1 (Below.refl _ _)
  replace HB := Aside0.mk (HB.out.trans (hb.mono HB.out.size))
  replace HS := Aside0.mk (blk_below HS.out hb)
  clear hb
  generalize w2.drew = w3 at HB HS ⊢
  obtain ⟨a4, hA4, e0, e1, e2⟩ := at_T72 HA.out.d (i : Int) (by omega) (by omega)
  rw [Int.toNat_natCast] at e0 e1 e2
  subst hA4
  have HEU := Aside0.mk (enter_yes HSB.out (ask_used hi))
  have HUN := Aside0.mk (used_ne HSB.out hi)
  have HUK : Aside0 (_ → _) := ⟨used_known HSB.out hi⟩
  have HSU : Aside0 (_ → _) := ⟨said_used HSB.out hi hg⟩
  have HSK := Aside0.mk (said_check HSB.out hi hg)
  have hsd : saidD D i g = wdr D (D.dr.set i ⟨(g : Int), (rd_T72 D.dr (i : Int)).f1, (rd_T72 D.dr (i : Int)).f2⟩) := rfl
  obtain ⟨Z, hZ⟩ : ∃ z, rd_T72 D.dr (i : Int) = z := ⟨_, rfl⟩
  rw [hZ] at e0 e1 e2 HUK HSU hsd
  have HZC := Aside0.mk (And.intro e0 (And.intro e1 e2))
  have HZD := Aside0.mk hZ
  clear e0 e1 e2 hZ
  obtain ⟨S2, hS2⟩ : ∃ S, saidD D i g = S := ⟨_, rfl⟩
  rw [hS2] at HSU HSK hsd
  have HSD := Aside0.mk hsd
  clear hsd hS2
  have e0 := cell_below HZC.out.1 HB.out
  have e1 := cell_below HZC.out.2.1 HB.out
  have e2 := cell_below HZC.out.2.2 HB.out
  have q1 : (0 ≤ (i : Int)) = True := eq_true (by omega)
  have q2 : ((i : Int) < (D.dr.length : Int)) = True := eq_true (by omega)
  have k0 := (blk_cell HS.out 0).trans rfl
  have k1 := (blk_cell HS.out 1).trans rfl
  have k2 := (blk_cell HS.out 2).trans rfl
  have k3 := (blk_cell HS.out 3).trans rfl
  have k4 := (blk_cell HS.out 4).trans rfl
  have kl := blk_lt HS.out
  go_upto_region 6 with (fail)
  have hb : Below w3.heap.size w3 (w3.alloc (.cells #[.int .i64 Z.f0, .int .i64 Z.f1, .int .i64 Z.f2] 72)) := below_alloc (Below.refl _ _) _
  have n1 := Aside0.mk (blk_new w3 (.cells #[.int .i64 Z.f0, .int .i64 Z.f1, .int .i64 Z.f2] 72))
  have hnP : Aside0 (q ≤ w3.heap.size) := ⟨by have := HB.out.size; have := HQQ.out; omega⟩
  have hlHSP := Aside0.mk (blk_lt HS.out)
  replace HB := Aside0.mk (HB.out.trans (hb.mono HB.out.size))
  replace HS := Aside0.mk (blk_below HS.out hb)
  clear hb
  obtain ⟨P, hP⟩ : ∃ b, w3.heap.size = b := ⟨_, rfl⟩
  rw [hP] at n1 hnP hlHSP ⊢
  generalize (w3.alloc (.cells #[.int .i64 Z.f0, .int .i64 Z.f1, .int .i64 Z.f2] 72)) = w4 at HB n1 HS ⊢
  clear hP
  have HP := n1
  clear n1 k0 k1 k2 k3 k4 kl e0 e1 e2 q1 q2
  obtain ⟨us, hus⟩ : ∃ z, usedF D (i : Int) = z := ⟨_, rfl⟩
  rw [hus] at HUN HUK HSU
  have HUS := Aside0.mk hus
  clear hus
  have k0 := (blk_cell HS.out 0).trans rfl
  have k1 := (blk_cell HS.out 1).trans rfl
  have k2 := (blk_cell HS.out 2).trans rfl
  have k3 := (blk_cell HS.out 3).trans rfl
  have k4 := (blk_cell HS.out 4).trans rfl
  have kl := blk_lt HS.out
  go_wp2_with fail
  clear k0 k1 k2 k3 k4 kl
  have hA := HA.out.below HB.out
  refine (Used_calls D A0 c0 A3 c3 (some a4) c4 (i : Int) w4 hA).mono ?_
  clear hA
  rw [HEU.out, HUS.out]
  rintro e w5 ⟨⟨v, rfl, hn⟩, hb⟩
  obtain ⟨A1, c1', rfl, hc1, hl50, hC1⟩ := NewRow.rowI (l := us) hn
  obtain ⟨L1, hL1⟩ : ∃ L, ints us = L := ⟨_, rfl⟩
  have hlen1 : L1.length ≠ 0 := by rw [← hL1, List.length_map]; exact fun e => HUN.out (List.eq_nil_of_length_eq_zero e)
  rw [hL1] at hC1 hc1 HUK HSU hl50 ⊢
  have HC1 := Aside0.mk hC1
  have HN1 := Aside0.mk hc1
  have EL1 := Aside0.mk hL1
  clear hC1 hc1 hL1
  obtain ⟨n0, hn0⟩ : ∃ n, w4.heap.size = n := ⟨_, rfl⟩
  rw [hn0] at hn
  have HPN : Aside0 (P < n0) := ⟨by rw [← hn0]; exact blk_lt HP.out⟩
  have HNR := Aside0.mk hn
  obtain ⟨wL, hwL⟩ : ∃ z, w5 = z := ⟨_, rfl⟩
  have HKP : Aside0 (Keep n0 wL w5) := ⟨by rw [← hwL]; exact Keep.refl _ _⟩
  rw [hwL] at HNR
  clear hn hn0 hwL
  replace HB := Aside0.mk (HB.out.trans (hb.mono HB.out.size))
  replace HS := Aside0.mk (blk_below HS.out hb)
  replace HP := Aside0.mk (blk_below HP.out hb)
  clear hb
  go_upto_region 7 with (fail)
  have hn0 : ((L1.length : Int) == 0) = false := beq_eq_false_iff_ne.2 (by omega)
  have hn1 : (L1.length == 0) = false := beq_eq_false_iff_ne.2 (by omega)
  have hup : upB D.gl.length L1 = true := by rw [← EL1.out, ← HUS.out, usedF_eq HEU.out]; exact up_filter _ _
  have hl3 : L1.length ≤ 4 := by rw [← EL1.out, List.length_map, ← HUS.out, usedF_eq HEU.out]; exact Nat.le_trans (filter_len _ _) (by omega)
  have k0 := (blk_cell HS.out 0).trans rfl
  have k1 := (blk_cell HS.out 1).trans rfl
  have k2 := (blk_cell HS.out 2).trans rfl
  have k3 := (blk_cell HS.out 3).trans rfl
  have k4 := (blk_cell HS.out 4).trans rfl
  have kl := blk_lt HS.out
  go_wp2_with fail
  clear k0 k1 k2 k3 k4 kl
  refine (Rising_calls L1 A1 c1' D.gl.length w5 (by omega) hl3 HC1.out hup).mono ?_
  rintro e w6 ⟨rfl, hb⟩
  replace HB := Aside0.mk (HB.out.trans (hb.mono HB.out.size))
  replace HS := Aside0.mk (blk_below HS.out hb)
  replace HP := Aside0.mk (blk_below HP.out hb)
  replace HKP := Aside0.mk (HKP.out.below hb)
  replace HC1 := Aside0.mk (Kd.C_below HC1.out hb)
  clear hb hup hl50
  by_cases hz0 : Z.f0 = -1
  ·
   have hb0 : (Z.f0 != -1) = false := by simp [hz0]
   have HZ0 := Aside0.mk hz0
   clear hz0
   have p0 := (blk_cell HP.out 0).trans rfl
   have p1 := (blk_cell HP.out 1).trans rfl
   have p2 := (blk_cell HP.out 2).trans rfl
   have pl := blk_lt HP.out
   have k0 := (blk_cell HS.out 0).trans rfl
   have k1 := (blk_cell HS.out 1).trans rfl
   have k2 := (blk_cell HS.out 2).trans rfl
   have k3 := (blk_cell HS.out 3).trans rfl
   have k4 := (blk_cell HS.out 4).trans rfl
   have kl := blk_lt HS.out
   go_upto_region 9 with (fail)
   clear p0 p1 p2 pl hn0 hn1 hb0 HC1
   go_upto_region 10 with (fail)
   have hb : Below w6.heap.size w6 (w6.alloc (.cells (D.cells A0 c0 A3 c3 (some a4) c4) 28)) := below_alloc (Below.refl _ _) _
   have n1 := Aside0.mk (blk_new w6 (.cells (D.cells A0 c0 A3 c3 (some a4) c4) 28))
   have hzM : Aside0 (wL.heap.size ≤ w6.heap.size) := ⟨HKP.out.size⟩
   have hnM : Aside0 (q ≤ w6.heap.size) := ⟨by have := HB.out.size; have := HQQ.out; omega⟩
   have hlHSM := Aside0.mk (blk_lt HS.out)
   have hlHPM := Aside0.mk (blk_lt HP.out)
   replace HB := Aside0.mk (HB.out.trans (hb.mono HB.out.size))
   replace HS := Aside0.mk (blk_below HS.out hb)
   replace HP := Aside0.mk (blk_below HP.out hb)
   replace HKP := Aside0.mk (HKP.out.below hb)
   clear hb
   obtain ⟨M, hM⟩ : ∃ b, w6.heap.size = b := ⟨_, rfl⟩
   rw [hM] at n1 hnM hzM hlHSM hlHPM ⊢
   generalize (w6.alloc (.cells (D.cells A0 c0 A3 c3 (some a4) c4) 28)) = w7 at HB n1 HS HP HKP ⊢
   clear hM
   have HM := n1
   clear n1 k0 k1 k2 k3 k4 kl
   have HAd := Aside0.mk (HA.out.below HB.out)
   have k0 := (blk_cell HS.out 0).trans rfl
   have k1 := (blk_cell HS.out 1).trans rfl
   have k2 := (blk_cell HS.out 2).trans rfl
   have k3 := (blk_cell HS.out 3).trans rfl
   have k4 := (blk_cell HS.out 4).trans rfl
   have kl := blk_lt HS.out
   go_upto_region 11 with ((at_builtin; go_loud (refine list_drs (base := w7.heap.size) (ys := []) (xs := D.dr) (n := D.dr.length) (k0 := D.dr.length) rfl (.tmp 88) (.tmp 90) rfl rfl rfl rfl rfl (by simp) (own_new0 (Nat.le_refl _)) (Kd.C_below HAd.out.d (below_alloc (Below.refl _ _) _)) (by simp; omega) (by simp) ?_); intro g39 c39 wq hgg ho hz hr; have hz2 := (below_alloc (Below.refl w7.heap.size w7) (.cells #[] 72)).trans hz; have HR2 := Aside0.mk (blk_below HM.out hz2); have m4 := (blk_cell HR2.out 4).trans rfl; have f4 := blk_frozen HR2.out 4; have ml := blk_lt HR2.out))
   clear k0 k1 k2 k3 k4 kl
   have hMB := blk_lt HM.out
   have hPB := blk_lt HP.out
   have hqB := blk_lt HS.out
   have n1 := blk_far (p := ⟨M, 4, none⟩) (blk_below HS.out hz2) (show q ≠ M from Nat.ne_of_lt hlHSM.out) (.slice (some ⟨g39, 0, none⟩) D.dr.length c39)
   have n2 := blk_set HR2.out 4 (.slice (some ⟨g39, 0, none⟩) D.dr.length c39)
   have n3 := own_far ho (p := ⟨M, 4, none⟩) (show M < w7.heap.size from hMB) (.slice (some ⟨g39, 0, none⟩) D.dr.length c39)
   have n5 := blk_far (p := ⟨M, 4, none⟩) (blk_below HP.out hz2) (show P ≠ M from Nat.ne_of_lt hlHPM.out) (.slice (some ⟨g39, 0, none⟩) D.dr.length c39)
   have n6 : Keep n0 wL (wq.setCell ⟨M, 4, none⟩ (.slice (some ⟨g39, 0, none⟩) D.dr.length c39)) := (HKP.out.below hz2).set (.inr hzM.out) _
   have n4 : Below w.heap.size w (wq.setCell ⟨M, 4, none⟩ (.slice (some ⟨g39, 0, none⟩) D.dr.length c39)) := below_set (HB.out.trans (hz2.mono HB.out.size)) (by have := hnM.out; have := HQQ.out; omega)
   have hBz : wL.heap.size ≤ w7.heap.size := HKP.out.size
   obtain ⟨B, hB⟩ : ∃ b, w7.heap.size = b := ⟨_, rfl⟩
   rw [hB] at n3 hgg hMB hPB hqB hBz ⊢
   generalize wq.setCell ⟨M, 4, none⟩ (.slice (some ⟨g39, 0, none⟩) D.dr.length c39) = w9 at n1 n2 n3 n4 n5 n6 ⊢
   clear m4 f4 ml HR2 ho hz hr hz2 HS HM HB HP hB HAd HKP
   have HS := Aside0.mk n1
   have HM : Aside0 (w9.heap[M]? = some (.cells #[.slice A0 D.gl.length c0, .int .i64 D.lo, .int .i64 D.hi, .slice A3 D.sp.length c3, (.slice (some ⟨g39, 0, none⟩) D.dr.length c39)] 28 (0, 0))) := ⟨n2⟩
   have HO : Aside0 (w9.ownsRow B 72 3 (.slice (some ⟨g39, 0, none⟩) D.dr.length c39) D.dr.length (D.dr.flatMap encR)) := ⟨n3⟩
   have HB := Aside0.mk n4
   have HP := Aside0.mk n5
   have HKP := Aside0.mk n6
   have HGB := Aside0.mk (And.intro hgg (And.intro hMB (And.intro hPB (And.intro hqB hBz))))
   clear n1 n2 n3 n4 n5 n6 hgg hMB hPB hqB hBz
   have p0 := (blk_cell HP.out 0).trans rfl
   have p1 := (blk_cell HP.out 1).trans rfl
   have p2 := (blk_cell HP.out 2).trans rfl
   have pl := blk_lt HP.out
   have pf0 := blk_frozen HP.out 0
   go_upto_region 12 with (fail)
   clear p0 p1 p2 pl pf0
   have hgb := HGB.out
   have n1 := Aside0.mk (blk_far (p := ⟨P, 0, none⟩) HS.out (show q ≠ P from Nat.ne_of_lt hlHSP.out) (.int .i64 (g : Int)))
   have n2 := Aside0.mk (blk_far (p := ⟨P, 0, none⟩) HM.out (show M ≠ P from Nat.ne_of_gt hlHPM.out) (.int .i64 (g : Int)))
   have n3 := Aside0.mk (blk_set HP.out 0 (.int .i64 (g : Int)))
   have n4 := Aside0.mk (own_far HO.out (p := ⟨P, 0, none⟩) (show P < B from hgb.2.2.1) (.int .i64 (g : Int)))
   have n5 : Aside0 (Below w.heap.size w (w9.setCell ⟨P, 0, none⟩ (.int .i64 (g : Int)))) := ⟨below_set HB.out (by have := hnP.out; have := HQQ.out; omega)⟩
   have n6 : Aside0 (Keep n0 wL (w9.setCell ⟨P, 0, none⟩ (.int .i64 (g : Int)))) := ⟨HKP.out.set (.inl HPN.out) _⟩
   clear HS HM HP HO HB HKP
   generalize w9.setCell ⟨P, 0, none⟩ (.int .i64 (g : Int)) = w10 at n1 n2 n3 n4 n5 n6 ⊢
   have HS := n1
   have HM := n2
   have HP : Aside0 (w10.heap[P]? = some (.cells #[.int .i64 (g : Int), .int .i64 Z.f1, .int .i64 Z.f2] 72 (0, 0))) := n3
   have HO := n4
   have HB := n5
   have HKP := n6
   clear n1 n2 n3 n4 n5 n6
   obtain ⟨g', hg39, hgB, _, _, hg9, cur, hcur, _, _⟩ := own_at HO.out (show 0 < D.dr.length by omega)
   cases hg39
   have hC9 := drs_C HO.out (by omega)
   obtain ⟨ad9, he9, y0, y1, y2⟩ := at_T72 hC9 (i : Int) (by omega) (by omega)
   cases he9
   rw [Int.toNat_natCast, add0, HZD.out] at y0
   rw [Int.toNat_natCast, add0, HZD.out] at y1 y2
   dsimp only at y1 y2
   have yf0 := blk_frozen hcur (i * 3)
   have yf1 := blk_frozen hcur (i * 3 + 1)
   have yf2 := blk_frozen hcur (i * 3 + 2)
   have q1 : (0 ≤ (i : Int)) = True := eq_true (by omega)
   have q2 : ((i : Int) < (D.dr.length : Int)) = True := eq_true (by omega)
   have HGG := Aside0.mk (And.intro hgB hg9)
   clear hC9
   have HCUR := Aside0.mk hcur
   clear hcur
   have hg9' := HGG.out.2
   have p0 := (blk_cell HP.out 0).trans rfl
   have p1 := (blk_cell HP.out 1).trans rfl
   have p2 := (blk_cell HP.out 2).trans rfl
   have pl := blk_lt HP.out
   have m0 := (blk_cell HM.out 0).trans rfl
   have m1 := (blk_cell HM.out 1).trans rfl
   have m2 := (blk_cell HM.out 2).trans rfl
   have m3 := (blk_cell HM.out 3).trans rfl
   have m4 := (blk_cell HM.out 4).trans rfl
   have ml := blk_lt HM.out
   go_upto_region 13 with (fail)
   clear p0 p1 p2 pl m0 m1 m2 m3 m4 ml y0 y1 y2 yf0 yf1 yf2 q1 q2 hg9' hgb
   have hgb := HGB.out
   have hgg := HGG.out
   have n1 := Aside0.mk (far3 HS.out (show q ≠ g39 by omega) (i * 3) (.int .i64 (g : Int)) (.int .i64 Z.f1) (.int .i64 Z.f2))
   have n2 := Aside0.mk (far3 HM.out (show M ≠ g39 by omega) (i * 3) (.int .i64 (g : Int)) (.int .i64 Z.f1) (.int .i64 Z.f2))
   have n4 := Aside0.mk (own_put3 (enc := encR) (fun _ => rfl) rfl HO.out hi (x := (⟨(g : Int), Z.f1, Z.f2⟩ : Dr)) (c0 := (.int .i64 (g : Int))) (c1 := (.int .i64 Z.f1)) (c2 := (.int .i64 Z.f2)) rfl)
   have n5 : Aside0 (Below w.heap.size w (((w10.setCell ⟨g39, i * 3, none⟩ (.int .i64 (g : Int))).setCell ⟨g39, i * 3 + 1, none⟩ (.int .i64 Z.f1)).setCell ⟨g39, i * 3 + 2, none⟩ (.int .i64 Z.f2))) := ⟨below_set (below_set (below_set HB.out (by have := HQQ.out; omega)) (by have := HQQ.out; omega)) (by have := HQQ.out; omega)⟩
   have n6 : Aside0 (Keep n0 wL (((w10.setCell ⟨g39, i * 3, none⟩ (.int .i64 (g : Int))).setCell ⟨g39, i * 3 + 1, none⟩ (.int .i64 Z.f1)).setCell ⟨g39, i * 3 + 2, none⟩ (.int .i64 Z.f2))) := ⟨((HKP.out.set (.inr (by omega)) _).set (.inr (by omega)) _).set (.inr (by omega)) _⟩
   clear HS HM HP HO HB HKP HCUR
   generalize ((w10.setCell ⟨g39, i * 3, none⟩ (.int .i64 (g : Int))).setCell ⟨g39, i * 3 + 1, none⟩ (.int .i64 Z.f1)).setCell ⟨g39, i * 3 + 2, none⟩ (.int .i64 Z.f2) = w11 at n1 n2 n4 n5 n6 ⊢
   have HS := n1
   have HM := n2
   have HO := n4
   have HB := n5
   have HKP := n6
   clear n1 n2 n4 n5 n6 hgb hgg
   have e0 := cell_below HZC.out.1 HB.out
   have q1 : (0 ≤ (i : Int)) = True := eq_true (by omega)
   have q2 : ((i : Int) < (D.dr.length : Int)) = True := eq_true (by omega)
   have k0 := (blk_cell HS.out 0).trans rfl
   have k1 := (blk_cell HS.out 1).trans rfl
   have k2 := (blk_cell HS.out 2).trans rfl
   have k3 := (blk_cell HS.out 3).trans rfl
   have k4 := (blk_cell HS.out 4).trans rfl
   have kl := blk_lt HS.out
   have hb0 : (Z.f0 != -1) = false := by have := HZ0.out; simp [this]
   have m0 := (blk_cell HM.out 0).trans rfl
   have m1 := (blk_cell HM.out 1).trans rfl
   have m2 := (blk_cell HM.out 2).trans rfl
   have m3 := (blk_cell HM.out 3).trans rfl
   have m4 := (blk_cell HM.out 4).trans rfl
   have ml := blk_lt HM.out
   go_wp2_with fail
   clear m0 m1 m2 m3 m4 ml k0 k1 k2 k3 k4 kl e0 q1 q2 hb0
   obtain ⟨hs1, hs2⟩ := HSU.out HZ0.out
   have hl2 : S2.dr.length = D.dr.length := by rw [HSD.out]; simp [wdr]
   have hA2 : Arg w11 S2 A0 c0 A3 c3 (some ⟨g39, 0, none⟩) c39 := by
    have hA := HA.out.below HB.out
    have hc9 := drs_C (xs := D.dr.set i ⟨(g : Int), Z.f1, Z.f2⟩) (by rw [List.length_set]; exact HO.out) (by rw [List.length_set]; omega)
    obtain ⟨_, _, _, _, hcap⟩ := own_at HO.out (show 0 < D.dr.length by omega)
    rw [HSD.out]
    exact ⟨hA.g, hA.gc, hA.gn, hA.s, hA.sc, hc9, by show (D.dr.set i _).length ≤ c39; rw [List.length_set]; omega⟩
   obtain ⟨hb3, hhb3⟩ : ∃ z, hasB L1 g = z := ⟨_, rfl⟩
   obtain ⟨K3, hK3⟩ := (rHas L1 (by rw [← EL1.out, List.length_map, ← HUS.out, usedF_eq HEU.out]; exact Nat.le_trans (filter_len _ _) (by omega)) g).rounds
   rw [hhb3] at hK3 hs1 hs2
   have HK3 := Aside0.mk hK3
   clear hK3 hhb3
   obtain ⟨en2, hen2⟩ : ∃ z, enterE S2 (askUsed S2 (i : Int)) = z := ⟨_, rfl⟩
   obtain ⟨us2, hus2⟩ : ∃ z, usedF S2 (i : Int) = z := ⟨_, rfl⟩
   rw [hen2, hus2] at hs1 hs2
   have HE2 := Aside0.mk hen2
   have HU2 := Aside0.mk hus2
   have HS1 := Aside0.mk hs1
   have HS2 := Aside0.mk hs2
   clear hs1 hs2 hen2 hus2
   have hU := Used_calls S2 A0 c0 A3 c3 (some ⟨g39, 0, none⟩) c39 (i : Int) w11 hA2
   rw [show Dat.cells S2 A0 c0 A3 c3 (some ⟨g39, 0, none⟩) c39 = #[.slice A0 D.gl.length c0, .int .i64 D.lo, .int .i64 D.hi, .slice A3 D.sp.length c3, .slice (some ⟨g39, 0, none⟩) D.dr.length c39] from by rw [HSD.out]; simp [wdr]] at hU
   refine hU.mono ?_
   clear hU hA2 hl2
   rw [HE2.out, HU2.out]
   rintro e w12 ⟨⟨v, rfl, hn⟩, hb⟩
   obtain ⟨A2, c2', rfl, hc2, _, hC2⟩ := NewRow.rowI (l := us2) hn
   obtain ⟨L2, hL2⟩ : ∃ L, ints us2 = L := ⟨_, rfl⟩
   rw [hL2] at hC2 hc2 ⊢
   have HC2 := Aside0.mk hC2
   have HN2 := Aside0.mk hc2
   have EL2 := Aside0.mk hL2
   clear hn hC2 hc2 hL2 HM
   replace HB := Aside0.mk (HB.out.trans (hb.mono HB.out.size))
   replace HS := Aside0.mk (blk_below HS.out hb)
   replace HKP := Aside0.mk (HKP.out.below hb)
   clear hb
   go_upto_region 16 with (fail)
   have hc1 := (HNR.out.keep HKP.out).read
   rw [EL1.out] at hc1
   go_wp2_with fail
   refine (r1_Has.calls K3 A1 c1' L1 (g : Int) hb3 w12 hc1 HN1.out HK3.out).mono ?_
   clear hc1
   rintro e wq ⟨rfl, nd, rfl⟩
   have hb : Below w12.heap.size w12 (w12.drewN nd) := pw_below_drewN (Below.refl _ _) nd
   replace HB := Aside0.mk (HB.out.trans (hb.mono HB.out.size))
   replace HS := Aside0.mk (blk_below HS.out hb)
   replace HKP := Aside0.mk (HKP.out.below hb)
   replace HC2 := Aside0.mk (Kd.C_below HC2.out hb)
   clear hb
   generalize w12.drewN nd = w13 at HB HS HKP HC2 ⊢
   cases hb3
   ·
    obtain ⟨h8, hnil⟩ := HS1.out rfl
    subst h8
    have hl0 : L2.length = 0 := by rw [← EL2.out, hnil]; rfl
    have hl1 : ((L2.length : Int) == 0) = true := by simp [hl0]
    have hl2 : (L2.length == 0) = true := by simp [hl0]
    clear hl0
    go_wp2_with fail
    refine (Awake_calls _).mono ?_
    rintro e wA ⟨rfl, hb⟩
    replace HB := Aside0.mk (HB.out.trans (hb.mono HB.out.size))
    clear hb
    go_wp2
    go_ret
    exact ⟨rfl, by first | exact HB.out | (rw [← hq]; exact HB.out)⟩
   ·
    obtain ⟨h8, hone⟩ := HS2.out rfl
    subst h8
    rw [EL2.out] at hone
    have HONE := Aside0.mk hone
    clear hone
    go_wp2_with fail
    have hone := HONE.out
    have hlt1 := blk_new w13 (.cells #[.int .i64 (g : Int)] 3)
    have hI := Ints_calls L2 [(g : Int)] A2 (some ⟨w13.heap.size, 0, none⟩) L2.length 1 c2' 1 (w13.alloc (.cells #[.int .i64 (g : Int)] 3)) rfl rfl (Kd.C_below HC2.out (below_alloc (Below.refl _ _) _)) (one_int (g : Int) hlt1)
    rw [show (L2 == [(g : Int)]) = true from by rw [hone]; exact beq_self_eq_true _] at hI
    refine hI.mono ?_
    clear hI hlt1 hone
    rintro e w14 ⟨rfl, hc⟩
    have hb : Below w13.heap.size w13 w14 := (below_alloc (Below.refl _ _) _).trans ((hc.below (fun _ _ x => x.elim) (Nat.le_refl _)).mono (by simp))
    clear hc
    replace HB := Aside0.mk (HB.out.trans (hb.mono HB.out.size))
    clear hb
    go_wp2_with fail
    refine (Awake_calls _).mono ?_
    rintro e wA ⟨rfl, hb⟩
    replace HB := Aside0.mk (HB.out.trans (hb.mono HB.out.size))
    clear hb
    go_wp2
    go_ret
    exact ⟨rfl, by first | exact HB.out | (rw [← hq]; exact HB.out)⟩
  ·
   have hb0 : (Z.f0 != -1) = true := by simpa using hz0
   have HK1 := Aside0.mk (HUK.out hz0)
   have HZ0 := Aside0.mk hz0
   clear hz0
   have p0 := (blk_cell HP.out 0).trans rfl
   have p1 := (blk_cell HP.out 1).trans rfl
   have p2 := (blk_cell HP.out 2).trans rfl
   have pl := blk_lt HP.out
   go_wp2_with fail
   have hk1 := HK1.out
   have hlt1 := blk_new w6 (.cells #[.int .i64 Z.f0] 3)
   have hI := Ints_calls L1 [Z.f0] A1 (some ⟨w6.heap.size, 0, none⟩) L1.length 1 c1' 1 (w6.alloc (.cells #[.int .i64 Z.f0] 3)) rfl rfl (Kd.C_below HC1.out (below_alloc (Below.refl _ _) _)) (one_int Z.f0 hlt1)
   rw [show (L1 == [Z.f0]) = true from by rw [hk1]; exact beq_self_eq_true _] at hI
   refine hI.mono ?_
   clear hI hlt1 hk1
   rintro e w7 ⟨rfl, hc⟩
   have hb : Below w6.heap.size w6 w7 := (below_alloc (Below.refl _ _) _).trans ((hc.below (fun _ _ x => x.elim) (Nat.le_refl _)).mono (by simp))
   clear p0 p1 p2 pl hc
   replace HB := Aside0.mk (HB.out.trans (hb.mono HB.out.size))
   replace HS := Aside0.mk (blk_below HS.out hb)
   replace HP := Aside0.mk (blk_below HP.out hb)
   replace HKP := Aside0.mk (HKP.out.below hb)
   replace HC1 := Aside0.mk (Kd.C_below HC1.out hb)
   clear hb
   have p0 := (blk_cell HP.out 0).trans rfl
   have p1 := (blk_cell HP.out 1).trans rfl
   have p2 := (blk_cell HP.out 2).trans rfl
   have pl := blk_lt HP.out
   have k0 := (blk_cell HS.out 0).trans rfl
   have k1 := (blk_cell HS.out 1).trans rfl
   have k2 := (blk_cell HS.out 2).trans rfl
   have k3 := (blk_cell HS.out 3).trans rfl
   have k4 := (blk_cell HS.out 4).trans rfl
   have kl := blk_lt HS.out
   go_upto_region 9 with (fail)
   clear p0 p1 p2 pl hn0 hn1 hb0 HC1
   go_upto_region 10 with (fail)
   have hb : Below w7.heap.size w7 (w7.alloc (.cells (D.cells A0 c0 A3 c3 (some a4) c4) 28)) := below_alloc (Below.refl _ _) _
   have n1 := Aside0.mk (blk_new w7 (.cells (D.cells A0 c0 A3 c3 (some a4) c4) 28))
   have hzM : Aside0 (wL.heap.size ≤ w7.heap.size) := ⟨HKP.out.size⟩
   have hnM : Aside0 (q ≤ w7.heap.size) := ⟨by have := HB.out.size; have := HQQ.out; omega⟩
   have hlHSM := Aside0.mk (blk_lt HS.out)
   have hlHPM := Aside0.mk (blk_lt HP.out)
   replace HB := Aside0.mk (HB.out.trans (hb.mono HB.out.size))
   replace HS := Aside0.mk (blk_below HS.out hb)
   replace HP := Aside0.mk (blk_below HP.out hb)
   replace HKP := Aside0.mk (HKP.out.below hb)
   clear hb
   obtain ⟨M, hM⟩ : ∃ b, w7.heap.size = b := ⟨_, rfl⟩
   rw [hM] at n1 hnM hzM hlHSM hlHPM ⊢
   generalize (w7.alloc (.cells (D.cells A0 c0 A3 c3 (some a4) c4) 28)) = w8 at HB n1 HS HP HKP ⊢
   clear hM
   have HM := n1
   clear n1 k0 k1 k2 k3 k4 kl
   have HAd := Aside0.mk (HA.out.below HB.out)
   have k0 := (blk_cell HS.out 0).trans rfl
   have k1 := (blk_cell HS.out 1).trans rfl
   have k2 := (blk_cell HS.out 2).trans rfl
   have k3 := (blk_cell HS.out 3).trans rfl
   have k4 := (blk_cell HS.out 4).trans rfl
   have kl := blk_lt HS.out
   go_upto_region 11 with ((at_builtin; go_loud (refine list_drs (base := w8.heap.size) (ys := []) (xs := D.dr) (n := D.dr.length) (k0 := D.dr.length) rfl (.tmp 88) (.tmp 90) rfl rfl rfl rfl rfl (by simp) (own_new0 (Nat.le_refl _)) (Kd.C_below HAd.out.d (below_alloc (Below.refl _ _) _)) (by simp; omega) (by simp) ?_); intro g39 c39 wq hgg ho hz hr; have hz2 := (below_alloc (Below.refl w8.heap.size w8) (.cells #[] 72)).trans hz; have HR2 := Aside0.mk (blk_below HM.out hz2); have m4 := (blk_cell HR2.out 4).trans rfl; have f4 := blk_frozen HR2.out 4; have ml := blk_lt HR2.out))
   clear k0 k1 k2 k3 k4 kl
   have hMB := blk_lt HM.out
   have hPB := blk_lt HP.out
   have hqB := blk_lt HS.out
   have n1 := blk_far (p := ⟨M, 4, none⟩) (blk_below HS.out hz2) (show q ≠ M from Nat.ne_of_lt hlHSM.out) (.slice (some ⟨g39, 0, none⟩) D.dr.length c39)
   have n2 := blk_set HR2.out 4 (.slice (some ⟨g39, 0, none⟩) D.dr.length c39)
   have n3 := own_far ho (p := ⟨M, 4, none⟩) (show M < w8.heap.size from hMB) (.slice (some ⟨g39, 0, none⟩) D.dr.length c39)
   have n5 := blk_far (p := ⟨M, 4, none⟩) (blk_below HP.out hz2) (show P ≠ M from Nat.ne_of_lt hlHPM.out) (.slice (some ⟨g39, 0, none⟩) D.dr.length c39)
   have n6 : Keep n0 wL (wq.setCell ⟨M, 4, none⟩ (.slice (some ⟨g39, 0, none⟩) D.dr.length c39)) := (HKP.out.below hz2).set (.inr hzM.out) _
   have n4 : Below w.heap.size w (wq.setCell ⟨M, 4, none⟩ (.slice (some ⟨g39, 0, none⟩) D.dr.length c39)) := below_set (HB.out.trans (hz2.mono HB.out.size)) (by have := hnM.out; have := HQQ.out; omega)
   have hBz : wL.heap.size ≤ w8.heap.size := HKP.out.size
   obtain ⟨B, hB⟩ : ∃ b, w8.heap.size = b := ⟨_, rfl⟩
   rw [hB] at n3 hgg hMB hPB hqB hBz ⊢
   generalize wq.setCell ⟨M, 4, none⟩ (.slice (some ⟨g39, 0, none⟩) D.dr.length c39) = w9 at n1 n2 n3 n4 n5 n6 ⊢
   clear m4 f4 ml HR2 ho hz hr hz2 HS HM HB HP hB HAd HKP
   have HS := Aside0.mk n1
   have HM : Aside0 (w9.heap[M]? = some (.cells #[.slice A0 D.gl.length c0, .int .i64 D.lo, .int .i64 D.hi, .slice A3 D.sp.length c3, (.slice (some ⟨g39, 0, none⟩) D.dr.length c39)] 28 (0, 0))) := ⟨n2⟩
   have HO : Aside0 (w9.ownsRow B 72 3 (.slice (some ⟨g39, 0, none⟩) D.dr.length c39) D.dr.length (D.dr.flatMap encR)) := ⟨n3⟩
   have HB := Aside0.mk n4
   have HP := Aside0.mk n5
   have HKP := Aside0.mk n6
   have HGB := Aside0.mk (And.intro hgg (And.intro hMB (And.intro hPB (And.intro hqB hBz))))
   clear n1 n2 n3 n4 n5 n6 hgg hMB hPB hqB hBz
   have p0 := (blk_cell HP.out 0).trans rfl
   have p1 := (blk_cell HP.out 1).trans rfl
   have p2 := (blk_cell HP.out 2).trans rfl
   have pl := blk_lt HP.out
   have pf0 := blk_frozen HP.out 0
   go_upto_region 12 with (fail)
   clear p0 p1 p2 pl pf0
   have hgb := HGB.out
   have n1 := Aside0.mk (blk_far (p := ⟨P, 0, none⟩) HS.out (show q ≠ P from Nat.ne_of_lt hlHSP.out) (.int .i64 (g : Int)))
   have n2 := Aside0.mk (blk_far (p := ⟨P, 0, none⟩) HM.out (show M ≠ P from Nat.ne_of_gt hlHPM.out) (.int .i64 (g : Int)))
   have n3 := Aside0.mk (blk_set HP.out 0 (.int .i64 (g : Int)))
   have n4 := Aside0.mk (own_far HO.out (p := ⟨P, 0, none⟩) (show P < B from hgb.2.2.1) (.int .i64 (g : Int)))
   have n5 : Aside0 (Below w.heap.size w (w9.setCell ⟨P, 0, none⟩ (.int .i64 (g : Int)))) := ⟨below_set HB.out (by have := hnP.out; have := HQQ.out; omega)⟩
   have n6 : Aside0 (Keep n0 wL (w9.setCell ⟨P, 0, none⟩ (.int .i64 (g : Int)))) := ⟨HKP.out.set (.inl HPN.out) _⟩
   clear HS HM HP HO HB HKP
   generalize w9.setCell ⟨P, 0, none⟩ (.int .i64 (g : Int)) = w10 at n1 n2 n3 n4 n5 n6 ⊢
   have HS := n1
   have HM := n2
   have HP : Aside0 (w10.heap[P]? = some (.cells #[.int .i64 (g : Int), .int .i64 Z.f1, .int .i64 Z.f2] 72 (0, 0))) := n3
   have HO := n4
   have HB := n5
   have HKP := n6
   clear n1 n2 n3 n4 n5 n6
   obtain ⟨g', hg39, hgB, _, _, hg9, cur, hcur, _, _⟩ := own_at HO.out (show 0 < D.dr.length by omega)
   cases hg39
   have hC9 := drs_C HO.out (by omega)
   obtain ⟨ad9, he9, y0, y1, y2⟩ := at_T72 hC9 (i : Int) (by omega) (by omega)
   cases he9
   rw [Int.toNat_natCast, add0, HZD.out] at y0
   rw [Int.toNat_natCast, add0, HZD.out] at y1 y2
   dsimp only at y1 y2
   have yf0 := blk_frozen hcur (i * 3)
   have yf1 := blk_frozen hcur (i * 3 + 1)
   have yf2 := blk_frozen hcur (i * 3 + 2)
   have q1 : (0 ≤ (i : Int)) = True := eq_true (by omega)
   have q2 : ((i : Int) < (D.dr.length : Int)) = True := eq_true (by omega)
   have HGG := Aside0.mk (And.intro hgB hg9)
   clear hC9
   have HCUR := Aside0.mk hcur
   clear hcur
   have hg9' := HGG.out.2
   have p0 := (blk_cell HP.out 0).trans rfl
   have p1 := (blk_cell HP.out 1).trans rfl
   have p2 := (blk_cell HP.out 2).trans rfl
   have pl := blk_lt HP.out
   have m0 := (blk_cell HM.out 0).trans rfl
   have m1 := (blk_cell HM.out 1).trans rfl
   have m2 := (blk_cell HM.out 2).trans rfl
   have m3 := (blk_cell HM.out 3).trans rfl
   have m4 := (blk_cell HM.out 4).trans rfl
   have ml := blk_lt HM.out
   go_upto_region 13 with (fail)
   clear p0 p1 p2 pl m0 m1 m2 m3 m4 ml y0 y1 y2 yf0 yf1 yf2 q1 q2 hg9' hgb
   have hgb := HGB.out
   have hgg := HGG.out
   have n1 := Aside0.mk (far3 HS.out (show q ≠ g39 by omega) (i * 3) (.int .i64 (g : Int)) (.int .i64 Z.f1) (.int .i64 Z.f2))
   have n2 := Aside0.mk (far3 HM.out (show M ≠ g39 by omega) (i * 3) (.int .i64 (g : Int)) (.int .i64 Z.f1) (.int .i64 Z.f2))
   have n4 := Aside0.mk (own_put3 (enc := encR) (fun _ => rfl) rfl HO.out hi (x := (⟨(g : Int), Z.f1, Z.f2⟩ : Dr)) (c0 := (.int .i64 (g : Int))) (c1 := (.int .i64 Z.f1)) (c2 := (.int .i64 Z.f2)) rfl)
   have n5 : Aside0 (Below w.heap.size w (((w10.setCell ⟨g39, i * 3, none⟩ (.int .i64 (g : Int))).setCell ⟨g39, i * 3 + 1, none⟩ (.int .i64 Z.f1)).setCell ⟨g39, i * 3 + 2, none⟩ (.int .i64 Z.f2))) := ⟨below_set (below_set (below_set HB.out (by have := HQQ.out; omega)) (by have := HQQ.out; omega)) (by have := HQQ.out; omega)⟩
   have n6 : Aside0 (Keep n0 wL (((w10.setCell ⟨g39, i * 3, none⟩ (.int .i64 (g : Int))).setCell ⟨g39, i * 3 + 1, none⟩ (.int .i64 Z.f1)).setCell ⟨g39, i * 3 + 2, none⟩ (.int .i64 Z.f2))) := ⟨((HKP.out.set (.inr (by omega)) _).set (.inr (by omega)) _).set (.inr (by omega)) _⟩
   clear HS HM HP HO HB HKP HCUR
   generalize ((w10.setCell ⟨g39, i * 3, none⟩ (.int .i64 (g : Int))).setCell ⟨g39, i * 3 + 1, none⟩ (.int .i64 Z.f1)).setCell ⟨g39, i * 3 + 2, none⟩ (.int .i64 Z.f2) = w11 at n1 n2 n4 n5 n6 ⊢
   have HS := n1
   have HM := n2
   have HO := n4
   have HB := n5
   have HKP := n6
   clear n1 n2 n4 n5 n6 hgb hgg
   have e0 := cell_below HZC.out.1 HB.out
   have q1 : (0 ≤ (i : Int)) = True := eq_true (by omega)
   have q2 : ((i : Int) < (D.dr.length : Int)) = True := eq_true (by omega)
   have k0 := (blk_cell HS.out 0).trans rfl
   have k1 := (blk_cell HS.out 1).trans rfl
   have k2 := (blk_cell HS.out 2).trans rfl
   have k3 := (blk_cell HS.out 3).trans rfl
   have k4 := (blk_cell HS.out 4).trans rfl
   have kl := blk_lt HS.out
   have hb0 : (Z.f0 != -1) = true := by have := HZ0.out; simpa using this
   go_wp2_with fail
   refine (Awake_calls _).mono ?_
   rintro e wA ⟨rfl, hb⟩
   replace HB := Aside0.mk (HB.out.trans (hb.mono HB.out.size))
   clear hb
   go_wp2
   go_ret
   exact ⟨rfl, by first | exact HB.out | (rw [← hq]; exact HB.out)⟩
end Go.Proofs.Ytgoidclnccjdeaa.D
end
section
/- Package glass: small arrays of ints that came in as_ arguments, opened. -/
namespace Go.Proofs.Ytgoidclnccjdeaa.D
open Go Go.RowKit Go.ChangeShapes Go.WideShapes Go.Deep
set_option linter.unusedVariables false
set_option linter.unusedSectionVars false
section
variable {H : Type} {enc : TypeId × Value → H} {w : World} {base : Nat} {spare : Nat → Bool} {held : Bool} {P : Program}
theorem okWide_array {n : Nat} {e t : TypeId} {r : Reach} {b0 : Nat} {v : Value} (ht : P.underlying t = some (.array n e)) (h : Value.okWide P w r b0 t v) : ∃ cs, v = .agg cs ∧ cs.size = P.cellsOf t := by
 simp only [Value.okWide, ht] at h
 obtain ⟨cs, h1, h2, _⟩ := h
 exact ⟨cs, h1, h2⟩
theorem open_arr2b' {e t : TypeId} {r : Reach} {b0 : Nat} {v : Value} {d : DataW H} {p : List MemPlace} (ht : P.underlying t = some (.array 2 e)) (hc : P.cellsOf t = 2) (he : P.underlying e = some (.int .u8)) (hc1 : P.cellsOf e = 1)
  (hv : Value.okWide P w r b0 t v) (h : DataW.Trod enc P w base spare held t v d p) : ∃ x0 x1 : Int, v = .agg #[.int .u8 x0, .int .u8 x1] ∧ (Lit.int .u8 x0).wf = true ∧ (Lit.int .u8 x1).wf = true := by
 obtain ⟨cs, rfl, hsz⟩ := okWide_array ht hv
 obtain ⟨fuel, hf⟩ := h
 obtain ⟨xs, m, _, _, _, hl, hi⟩ := DataW.trod_array ht hf
 obtain ⟨L⟩ := cs
 rw [hc] at hsz
 match L, hsz with
 | [c0, c1], _ =>
  have g0 := hi 0 (by decide)
  rw [hc1, List.getElem?_eq_getElem (by omega)] at g0
  obtain ⟨x0, e0, _, w0⟩ := DataW.trod_int he g0
  simp [Value.cells] at e0
  have g1 := hi 1 (by decide)
  rw [hc1, List.getElem?_eq_getElem (by omega)] at g1
  obtain ⟨x1, e1, _, w1⟩ := DataW.trod_int he g1
  simp [Value.cells] at e1
  subst e0 e1
  exact ⟨x0, x1, rfl, w0, w1⟩
end
section
variable {H : Type} {enc : TypeId × Value → H} {w : World} {base : Nat} {spare : Nat → Bool} {held : Bool}
set_option maxRecDepth 100000 in
theorem open_arr2b {t : TypeId} {r : Reach} {b0 : Nat} {v : Value} {d : DataW H} {p : List MemPlace} (ht : Try.prog.underlying t = some (.array 2 5)) (hc : Try.prog.cellsOf t = 2)
  (hv : Value.okWide Try.prog w r b0 t v) (h : DataW.Trod enc Try.prog w base spare held t v d p) : ∃ x0 x1 : Int, v = .agg #[.int .u8 x0, .int .u8 x1] ∧ (Lit.int .u8 x0).wf = true ∧ (Lit.int .u8 x1).wf = true :=
 open_arr2b' ht hc Try.underlying5 (by kernel_rfl) hv h
end
end Go.Proofs.Ytgoidclnccjdeaa.D
end
