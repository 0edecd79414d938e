/- Contracts of the functions that this claim reaches, with the words for them: pruned and packed by wip/tools/prune.py. -/
import Derived.Test.YtgoidclnccjdeaaCf
import Derived.Deep.QuietTactic
import Derived.BigQuiet
import Derived.Deep.RegionHeld3
import Derived.Deep.AppendLies
section
namespace Go.Proofs.Ytgoidclnccjdeaa.PR
open Go.RowKit Go.Proofs.YtgoidclnccjdeaaW.PrintWords Go.Proofs.YtgoidclnccjdeaaW.PrintLast Go.Proofs.YtgoidclnccjdeaaW.PrintMore
attribute [local go_sem] max2_int min2_int max_two min_two max_three min_three max_four min_four   -- for this text's walks alone
set_option linter.unusedVariables false
set_option linter.unusedSimpArgs false

mutual
def helioscopelaw07_Truly.l0 : Nat → List Int → Int → List (S95) → Int → Int → List (S24) → List (S72) → List Int → Int → Option (List Int × Int × List Int × (List (List Int)))
 | 0, _, _, _, _, _, _, _, _, _ => none
 | k + 1, x1, x6, x369000, x369001, x369002, x369003, x369004, x373000, x373001 => if x6 < (x369000.length : Int) then ((some (([] : List Int) : List Int)).bind fun y373 => (if y373.length + x373000.length < 17592186044416 then ((some (y373 ++ x373000 : List Int)).bind fun y376 => (if 0 ≤ x6 then ((helioscopelaw07_turn.f x1 (wrap64 (1 + x6))).bind fun t380 => ((helioscopelaw07_one.f ((rd_T95 x369000 x6).f1.f0) ((rd_T95 x369000 x6).f1.f1) t380).bind fun t381 => (if y376.length < 17592186044416 then (helioscopelaw07_Truly.l0 k x1 (wrap64 (x6 + 1)) x369000 x369001 x369002 x369003 x369004 (y376 ++ [t381]) x373001) else (none)))) else (none))) else (none))) else (helioscopelaw07_Truly.l1 k x1 0 x369000 x369001 x369002 x369003 x369004 x373000 x373001 ([] : List Int))
def helioscopelaw07_Truly.l1 : Nat → List Int → Int → List (S95) → Int → Int → List (S24) → List (S72) → List Int → Int → List Int → Option (List Int × Int × List Int × (List (List Int)))
 | 0, _, _, _, _, _, _, _, _, _, _ => none
 | k + 1, x1, x7, x369000, x369001, x369002, x369003, x369004, x373000, x373001, x373002 => if x7 < (x369003.length : Int) then ((some (([] : List Int) : List Int)).bind fun y385 => (if y385.length + x373002.length < 17592186044416 then ((some (y385 ++ x373002 : List Int)).bind fun y388 => (if 0 ≤ x7 then ((helioscopelaw07_turn.f x1 (wrap64 (4 + x7))).bind fun t392 => ((helioscopelaw07_one.f ((rd_T24 x369003 x7).f0) ((rd_T24 x369003 x7).f1) t392).bind fun t393 => (if y388.length < 17592186044416 then (helioscopelaw07_Truly.l1 k x1 (wrap64 (x7 + 1)) x369000 x369001 x369002 x369003 x369004 x373000 x373001 (y388 ++ [t393])) else (none)))) else (none))) else (none))) else (some (x373000, x373001, x373002, ([] : List (List Int))))
end
def helioscopelaw07_Truly.f (k : Nat) (l0_0 : List (S95)) (a0_1 : Int) (a0_2 : Int) (l0_3 : List (S24)) (l0_4 : List (S72)) (l1 : List Int) : Option (List Int × Int × List Int × (List (List Int))) := (helioscopelaw07_turn.f l1 0).bind fun t370 => ((helioscopelaw07_one.f a0_1 a0_2 t370).bind fun t371 => (helioscopelaw07_Truly.l0 k l1 0 l0_0 a0_1 a0_2 l0_3 l0_4 ([] : List Int) t371))
def helioscopelaw07_Truly.T1 : Bool × List (List Nat × List Nat) := (true, [([], []), ([0], [0]), ([], []), ([2], [2]), ([1, 3, 3], [1, 3]), ([4], [4]), ([], []), ([6, 5, 4, 0, 1, 2, 3, 4, 5, 6], [5, 6])])
def helioscopelaw07_Truly.B1 : List Nat := [0, 1, 0, 4, 15, 31, 0, 127]
theorem helioscopelaw07_Truly.tab1 : rtab .any (opsOf Try.f111 1) = helioscopelaw07_Truly.T1 := by kernel_rfl
theorem helioscopelaw07_Truly.bits1 : waitsOk helioscopelaw07_Truly.T1.2 helioscopelaw07_Truly.B1 = true := by kernel_rfl
def helioscopelaw07_Truly.T5 : Bool × List (List Nat × List Nat) := (true, [([], []), ([], []), ([1], [1]), ([0, 2], [0, 2]), ([], []), ([4], [4]), ([], []), ([5, 6], [5, 6]), ([7], [7]), ([8], [8]), ([], []), ([], []), ([11], [11]), ([10, 12, 3], [10, 12]), ([9, 13, 13], [9, 13]), ([14], [14]), ([3, 15, 14], [3, 15]), ([0, 1, 2, 3, 4, 5, 6, 7, 8, 9, 10, 11, 12, 13, 14, 15, 16], []), ([17, 16, 16, 0, 1, 2, 3, 4, 5, 6, 7, 8, 9, 10, 11, 12, 13, 14, 15, 16], [16, 17])])
def helioscopelaw07_Truly.B5 : List Nat := [0, 0, 2, 7, 0, 16, 0, 112, 240, 496, 0, 0, 2048, 7183, 16383, 32767, 65535, 131071, 262143]
theorem helioscopelaw07_Truly.tab5 : rtab .any (opsOf Try.f111 5) = helioscopelaw07_Truly.T5 := by kernel_rfl
theorem helioscopelaw07_Truly.bits5 : waitsOk helioscopelaw07_Truly.T5.2 helioscopelaw07_Truly.B5 = true := by kernel_rfl
def helioscopelaw07_Truly.T9 : Bool × List (List Nat × List Nat) := (true, [([], []), ([], []), ([1], [1]), ([0, 2], [0, 2]), ([], []), ([4], [4]), ([], []), ([5, 6], [5, 6]), ([7], [7]), ([], []), ([], []), ([10], [10]), ([9, 11, 3], [9, 11]), ([8, 12, 12], [8, 12]), ([13], [13]), ([3, 14, 13], [3, 14]), ([0, 1, 2, 3, 4, 5, 6, 7, 8, 9, 10, 11, 12, 13, 14, 15], []), ([16, 15, 15, 0, 1, 2, 3, 4, 5, 6, 7, 8, 9, 10, 11, 12, 13, 14, 15], [15, 16])])
def helioscopelaw07_Truly.B9 : List Nat := [0, 0, 2, 7, 0, 16, 0, 112, 240, 0, 0, 1024, 3599, 8191, 16383, 32767, 65535, 131071]
theorem helioscopelaw07_Truly.tab9 : rtab .any (opsOf Try.f111 9) = helioscopelaw07_Truly.T9 := by kernel_rfl
theorem helioscopelaw07_Truly.bits9 : waitsOk helioscopelaw07_Truly.T9.2 helioscopelaw07_Truly.B9 = true := by kernel_rfl
set_option maxHeartbeats 8000000 in
set_option maxRecDepth 100000 in
theorem helioscopelaw07_Truly.calls (k : Nat) (A0_0 : Option Addr) (c0_0 : Nat) (l0_0 : List (S95)) (a0_1 : Int) (a0_2 : Int) (A0_3 : Option Addr) (c0_3 : Nat) (l0_3 : List (S24)) (A0_4 : Option Addr) (c0_4 : Nat) (l0_4 : List (S72)) (A1 : Option Addr) (c1 : Nat) (l1 : List Int) (r1 : List Int) (r2 : Int) (r3 : List Int) (r4 : List (List Int)) (w : World) (hr0_0 : Kd.C k95 w A0_0 l0_0.length l0_0) (hc0_0 : l0_0.length ≤ c0_0) (hr0_3 : Kd.C k24 w A0_3 l0_3.length l0_3) (hc0_3 : l0_3.length ≤ c0_3) (hr0_4 : Kd.C k72 w A0_4 l0_4.length l0_4) (hc0_4 : l0_4.length ≤ c0_4) (hr1 : Kd.C (Kd.int .u8) w A1 l1.length l1) (hc1 : l1.length ≤ c1) (h : helioscopelaw07_Truly.f k l0_0 a0_1 a0_2 l0_3 l0_4 l1 = some (r1, r2, r3, r4)) :
  Calls Try.prog 111 #[.agg #[.slice A0_0 l0_0.length c0_0, .int .i64 a0_1, .int .i64 a0_2, .slice A0_3 l0_3.length c0_3, .slice A0_4 l0_4.length c0_4], .slice A1 l1.length c1] w fun e w' => ∃ v0_ v2_ v3_ : Value, e = .returned (.agg #[v0_, .int .i64 r2, v2_, v3_]) ∧ Kd.R (Kd.int .i64) 3 w' w.heap.size (fun k_ => some k_ ≠ (v2_ : Value).ownBlock) v0_ r1 ∧ Kd.R (Kd.int .i64) 3 w' w.heap.size (fun k_ => some k_ ≠ (v0_ : Value).ownBlock) v2_ r3 ∧ Kd.S (Kd.slice 3 (Kd.int .i64)) 39 w' w.heap.size (fun k_ => some k_ ≠ (v0_ : Value).ownBlock ∧ some k_ ≠ (v2_ : Value).ownBlock) v3_ r4 ∧ Below w.heap.size w w' := by
 have hu28 := Try.underlying28
 have hu56 := Try.underlying56
 have hu24 := Try.underlying24
 have HR0_0 := Aside0.mk hr0_0
 have HC0_0 := Aside0.mk hc0_0
 clear hr0_0 hc0_0
 have HR0_3 := Aside0.mk hr0_3
 have HC0_3 := Aside0.mk hc0_3
 clear hr0_3 hc0_3
 have HR0_4 := Aside0.mk hr0_4
 have HC0_4 := Aside0.mk hc0_4
 clear hr0_4 hc0_4
 have HR1 := Aside0.mk hr1
 have HC1 := Aside0.mk hc1
 clear hr1 hc1
 have HB := Aside0.mk (Below.refl w.heap.size w)
 have H : ((helioscopelaw07_turn.f l1 0).bind fun t370 => ((helioscopelaw07_one.f a0_1 a0_2 t370).bind fun t371 => (helioscopelaw07_Truly.l0 k l1 0 l0_0 a0_1 a0_2 l0_3 l0_4 ([] : List Int) t371))) = some (r1, r2, r3, r4) := h
 clear h
 replace H := Option.bind_eq_some_iff.mp H
 obtain ⟨t370, A30, H⟩ := H
 replace H : ((helioscopelaw07_one.f a0_1 a0_2 t370).bind fun t371 => (helioscopelaw07_Truly.l0 k l1 0 l0_0 a0_1 a0_2 l0_3 l0_4 ([] : List Int) t371)) = some (r1, r2, r3, r4) := H
 have A3 := Aside0.mk A30
 clear A30
 replace H := Option.bind_eq_some_iff.mp H
 obtain ⟨t371, A40, H⟩ := H
 replace H : (helioscopelaw07_Truly.l0 k l1 0 l0_0 a0_1 a0_2 l0_3 l0_4 ([] : List Int) t371) = some (r1, r2, r3, r4) := H
 have A4 := Aside0.mk A40
 clear A40
 have H' := Aside0.mk H
 clear H
 go_enter Try.func111, Try.ntmps111
 try go_wp2_with (first | ((with_reducible refine gate_dst (N := 2) rfl ?_); refine box_event ?hg (N := 2) ?hd (cs := #[.slice A0_0 l0_0.length c0_0, .int .i64 a0_1, .int .i64 a0_2, .slice A0_3 l0_3.length c0_3, .slice A0_4 l0_4.length c0_4]) (t := 28) ?hr ?_; (case hd => rfl); (case hg => rfl); (case hr => first | (go_simp; done) | (go_simp; rfl)); intro gb368 hg w5 hbox hb; have n0_ := Aside0.mk (below_step (by repeat (first | (with_reducible first | exact HB.out | apply below_alloc | apply pw_below_drewN | apply below_drew1) | exact HB.out)) hb); have n1_ := Aside0.mk (hbox); have n2_ := Aside0.mk ((by rw [hg]; exact (below_size (by repeat (first | (with_reducible first | exact HB.out | apply below_alloc | apply pw_below_drewN | apply below_drew1) | exact HB.out))) : w.heap.size ≤ gb368)); have n3_ := Aside0.mk ((by rw [hg]; exact (below_size (by repeat (first | (with_reducible first | exact HB.out | apply below_alloc | apply pw_below_drewN | apply below_drew1) | exact HB.out))) : w.heap.size ≤ gb368)); clear HB; have HB := n0_; have BK368 := n1_; have GW368 := n2_; have GE368 := n3_; clear n0_ n1_ n2_ n3_; clear hb hbox hg) | ((with_reducible refine gate_dst (N := 4) rfl ?_); refine box_event ?hg (N := 4) ?hd (cs := #[.slice none 0 0, .int .i64 0, .slice none 0 0, .slice none 0 0]) (t := 56) ?hr ?_; (case hd => rfl); (case hg => rfl); (case hr => first | (go_simp; done) | (go_simp; rfl)); intro gb369 hg w6 hbox hb; have n0_ := Aside0.mk (blk_below (g := gb368) (o := .cells #[.slice A0_0 l0_0.length c0_0, .int .i64 a0_1, .int .i64 a0_2, .slice A0_3 l0_3.length c0_3, .slice A0_4 l0_4.length c0_4] 28 (0, 0)) (by (with_reducible repeat (first | refine blk_drewN ?_ _ | refine blk_drew ?_ | refine blk_alloc ?_ _)); exact BK368.out) hb); have n1_ := Aside0.mk (below_step (by repeat (first | (with_reducible first | exact HB.out | apply below_alloc | apply pw_below_drewN | apply below_drew1 | refine below_set ?_ GE368.out) | exact HB.out)) hb); have n2_ := Aside0.mk (hbox); have n3_ := Aside0.mk ((by rw [hg]; exact (below_size (by repeat (first | (with_reducible first | exact HB.out | apply below_alloc | apply pw_below_drewN | apply below_drew1 | refine below_set ?_ GE368.out) | exact HB.out))) : w.heap.size ≤ gb369)); have n4_ := Aside0.mk ((by rw [hg]; exact (below_size (by repeat (first | (with_reducible first | exact HB.out | apply below_alloc | apply pw_below_drewN | apply below_drew1 | refine below_set ?_ GE368.out) | exact HB.out))) : w.heap.size ≤ gb369)); have n5_ := Aside0.mk ((by rw [hg]; exact Nat.ne_of_lt (blk_lt (g := gb368) (o := .cells #[.slice A0_0 l0_0.length c0_0, .int .i64 a0_1, .int .i64 a0_2, .slice A0_3 l0_3.length c0_3, .slice A0_4 l0_4.length c0_4] 28 (0, 0)) (by (with_reducible repeat (first | refine blk_drewN ?_ _ | refine blk_drew ?_ | refine blk_alloc ?_ _)); exact BK368.out)) : gb368 ≠ gb369)); have n6_ := Aside0.mk ((by rw [hg]; exact Nat.ne_of_gt (blk_lt (g := gb368) (o := .cells #[.slice A0_0 l0_0.length c0_0, .int .i64 a0_1, .int .i64 a0_2, .slice A0_3 l0_3.length c0_3, .slice A0_4 l0_4.length c0_4] 28 (0, 0)) (by (with_reducible repeat (first | refine blk_drewN ?_ _ | refine blk_drew ?_ | refine blk_alloc ?_ _)); exact BK368.out)) : gb369 ≠ gb368)); clear BK368; clear HB; have BK368 := n0_; have HB := n1_; have BK369 := n2_; have GW369 := n3_; have GE369 := n4_; have NB368_369 := n5_; have NB369_368 := n6_; clear n0_ n1_ n2_ n3_ n4_ n5_ n6_; clear hb hbox hg))
 have n0_ := Aside0.mk (blk_drew BK368.out)
 have n1_ := Aside0.mk (blk_drew BK369.out)
 have n2_ := Aside0.mk (below_drew1 HB.out)
 clear BK368 BK369 HB
 have BK368 := n0_
 have BK369 := n1_
 have HB := n2_
 clear n0_ n1_ n2_
 refine start_ (n := 8) (S := fun w' => w'.cell? ⟨gb368, 0, none⟩ = some (.slice A0_0 l0_0.length c0_0) ∧ w'.cell? ⟨gb368, 1, none⟩ = some (.int .i64 a0_1) ∧ w'.cell? ⟨gb368, 2, none⟩ = some (.int .i64 a0_2) ∧ w'.cell? ⟨gb368, 3, none⟩ = some (.slice A0_3 l0_3.length c0_3) ∧ w'.cell? ⟨gb368, 4, none⟩ = some (.slice A0_4 l0_4.length c0_4)) (ds := []) #[false, false, false, false, false, false, false, false] (by kernel_rfl) rfl rfl ⟨(blk_cell BK368.out 0).trans rfl, (blk_cell BK368.out 1).trans rfl, (blk_cell BK368.out 2).trans rfl, (blk_cell BK368.out 3).trans rfl, (blk_cell BK368.out 4).trans rfl⟩ (fun hHeld => ?_); refine with_tabW helioscopelaw07_Truly.tab1 helioscopelaw07_Truly.bits1 (fun HT_ HW_ => ?_)
 generalize w6.drew = w7 at BK368 BK369 HB hHeld ⊢
 refine pureQ 0 8 HT_.out ?_
 refine pureQ 2 10 HT_.out ?_
 refine takeQ 1 9 HT_.out HW_.out hHeld ?_
 refine join_ (σ := Nat) 1 #[true, true, true, true, true, true, true, false] (fun s_ => [(11, .int .i64 t370), (12, .int .i64 t371), (5, .pointer (some ⟨s_, 0, none⟩)), (13, .agg #[.slice none 0 0, .int .i64 t371, .slice none 0 0, .slice none 0 0])]) (fun s_ w' => (w'.cell? ⟨gb368, 0, none⟩ = some (.slice A0_0 l0_0.length c0_0) ∧ w'.cell? ⟨gb368, 1, none⟩ = some (.int .i64 a0_1) ∧ w'.cell? ⟨gb368, 2, none⟩ = some (.int .i64 a0_2) ∧ w'.cell? ⟨gb368, 3, none⟩ = some (.slice A0_3 l0_3.length c0_3) ∧ w'.cell? ⟨gb368, 4, none⟩ = some (.slice A0_4 l0_4.length c0_4)) ∧ (w'.heap[gb368]? = some (.cells #[.slice A0_0 l0_0.length c0_0, .int .i64 a0_1, .int .i64 a0_2, .slice A0_3 l0_3.length c0_3, .slice A0_4 l0_4.length c0_4] 28 (0, 0))) ∧ (w'.heap[gb369]? = some (.cells #[.slice none 0 0, .int .i64 0, .slice none 0 0, .slice none 0 0] 56 (0, 0))) ∧ (w'.heap[s_]? = some (.cells #[.slice none 0 0, .int .i64 0, .slice none 0 0, .slice none 0 0] 56 (0, 0))) ∧ (w.heap.size ≤ s_) ∧ (w.heap.size ≤ s_) ∧ (gb368 ≠ s_) ∧ (s_ ≠ gb368) ∧ (gb369 ≠ s_) ∧ (s_ ≠ gb369) ∧ (Below w.heap.size w w')) ?_ ?_
 rotate_left
 ·
  intro hCont
  refine two_ (i := 3) (j := 6) (Ni := some 11) (Nj := some 5) #[true, true, true, true, false, false, false, false] #[true, true, true, false, false, false, true, false] rfl rfl rfl rfl (two_of HT_.out (by kernel_rfl)) (by decide) (by decide) (fun K hK => ?_) (fun K hK => ?_)
  ·
   skip
   refine goes_ Try.func112 (by kernel_rfl) rfl #[.slice A1 l1.length c1, .int .i64 0] (by rfl) rfl rfl (by (try simp only [List.map_toArray, List.map_cons, List.map_nil]); first | done | rfl | (simp only [List.length_drop, List.length_take]; rfl)) ?_
   with_reducible refine (helioscopelaw07_turn.calls _ _ l1 0 t370 _ ?side1 ?side2 A3.out).mono ?_
   (case side1 => repeat (first | exact (Kd.C_below HR1.out HB.out) | (with_reducible refine Kd.C_alloc ?_ _) | (with_reducible refine Kd.C_drewN ?_ _) | (with_reducible refine Kd.C_drew ?_)))
   (case side2 => exact HC1.out)
   rintro e w' ⟨rfl, ⟨nd, rfl⟩⟩
   refine ⟨_, rfl, ?_⟩
   refine hK.out _ _ ⟨(blk_cell BK368.out 0).trans rfl, (blk_cell BK368.out 1).trans rfl, (blk_cell BK368.out 2).trans rfl, (blk_cell BK368.out 3).trans rfl, (blk_cell BK368.out 4).trans rfl⟩ (fun hHeld => ?_)
   clear hK K
   refine norm_ (a' := ?_) ?_ ?_
   rotate_left
   ·
    show Act.put _ (some 11) _ = _
    simp only [Act.put, List.setIfInBounds_toArray, List.set_cons_zero, List.set_cons_succ, i64_w, i32_w]
    rfl
   refine two_ (i := 4) (j := 6) (Ni := some 12) (Nj := some 5) #[true, true, true, true, true, false, false, false] #[true, true, true, true, false, false, true, false] rfl rfl rfl rfl (two_of HT_.out (by kernel_rfl)) (by decide) (by decide) (fun K hK => ?_) (fun K hK => ?_)
   ·
    skip
    refine goes_ Try.func134 (by kernel_rfl) rfl #[.agg #[.int .i64 a0_1, .int .i64 a0_2], .int .i64 t370] (by rfl) rfl rfl (by (try simp only [List.map_toArray, List.map_cons, List.map_nil]); first | done | rfl | (simp only [List.length_drop, List.length_take]; rfl)) ?_
    with_reducible refine (helioscopelaw07_one.calls a0_1 a0_2 t370 t371 _ A4.out).mono ?_
    rintro e w8 ⟨rfl, hb⟩
    refine ⟨_, rfl, ?_⟩
    have n0_ := Aside0.mk (blk_below (g := gb368) (o := .cells #[.slice A0_0 l0_0.length c0_0, .int .i64 a0_1, .int .i64 a0_2, .slice A0_3 l0_3.length c0_3, .slice A0_4 l0_4.length c0_4] 28 (0, 0)) (by (with_reducible repeat (first | refine blk_drewN ?_ _ | refine blk_drew ?_ | refine blk_alloc ?_ _)); exact BK368.out) hb)
    have n1_ := Aside0.mk (blk_below (g := gb369) (o := .cells #[.slice none 0 0, .int .i64 0, .slice none 0 0, .slice none 0 0] 56 (0, 0)) (by (with_reducible repeat (first | refine blk_drewN ?_ _ | refine blk_drew ?_ | refine blk_alloc ?_ _)); exact BK369.out) hb)
    have n2_ := Aside0.mk (below_step (by repeat (first | (with_reducible first | exact HB.out | apply below_alloc | apply pw_below_drewN | apply below_drew1 | refine below_set ?_ GE368.out | refine below_set ?_ GE369.out) | exact HB.out)) hb)
    clear BK368 BK369 HB
    have BK368 := n0_
    have BK369 := n1_
    have HB := n2_
    clear n0_ n1_ n2_
    (try clear hb)
    (try clear hb2)
    (try clear hk)
    (try clear hi)
    refine hK.out _ _ ⟨(blk_cell BK368.out 0).trans rfl, (blk_cell BK368.out 1).trans rfl, (blk_cell BK368.out 2).trans rfl, (blk_cell BK368.out 3).trans rfl, (blk_cell BK368.out 4).trans rfl⟩ (fun hHeld => ?_)
    clear hK K
    refine norm_ (a' := ?_) ?_ ?_
    rotate_left
    ·
     show Act.put _ (some 12) _ = _
     simp only [Act.put, List.setIfInBounds_toArray, List.set_cons_zero, List.set_cons_succ, i64_w, i32_w]
     rfl
    refine pureQ 5 13 HT_.out ?_
    refine one_ (i := 6) (N := some 5) #[true, true, true, true, true, true, true, false] rfl rfl (one_of HT_.out (by kernel_rfl)) (by decide) (fun K hK => ?_)
    refine box_step ?hg (N := 5) ?hd (cs := #[.slice none 0 0, .int .i64 0, .slice none 0 0, .slice none 0 0]) (t := 56) ?hr ?_; (case hd => rfl); (case hg => rfl); (case hr => first | (go_simp; done) | (go_simp; rfl))
    intro gb372 hg w9 hbox hb
    have n0_ := Aside0.mk (blk_below (g := gb368) (o := .cells #[.slice A0_0 l0_0.length c0_0, .int .i64 a0_1, .int .i64 a0_2, .slice A0_3 l0_3.length c0_3, .slice A0_4 l0_4.length c0_4] 28 (0, 0)) (by (with_reducible repeat (first | refine blk_drewN ?_ _ | refine blk_drew ?_ | refine blk_alloc ?_ _)); exact BK368.out) hb)
    have n1_ := Aside0.mk (blk_below (g := gb369) (o := .cells #[.slice none 0 0, .int .i64 0, .slice none 0 0, .slice none 0 0] 56 (0, 0)) (by (with_reducible repeat (first | refine blk_drewN ?_ _ | refine blk_drew ?_ | refine blk_alloc ?_ _)); exact BK369.out) hb)
    have n2_ := Aside0.mk (below_step (by repeat (first | (with_reducible first | exact HB.out | apply below_alloc | apply pw_below_drewN | apply below_drew1 | refine below_set ?_ GE368.out | refine below_set ?_ GE369.out) | exact HB.out)) hb)
    have n3_ := Aside0.mk (hbox)
    have n4_ := Aside0.mk ((by rw [hg]; exact (below_size (by repeat (first | (with_reducible first | exact HB.out | apply below_alloc | apply pw_below_drewN | apply below_drew1 | refine below_set ?_ GE368.out | refine below_set ?_ GE369.out) | exact HB.out))) : w.heap.size ≤ gb372))
    have n5_ := Aside0.mk ((by rw [hg]; exact (below_size (by repeat (first | (with_reducible first | exact HB.out | apply below_alloc | apply pw_below_drewN | apply below_drew1 | refine below_set ?_ GE368.out | refine below_set ?_ GE369.out) | exact HB.out))) : w.heap.size ≤ gb372))
    have n6_ := Aside0.mk ((by rw [hg]; exact Nat.ne_of_lt (blk_lt (g := gb368) (o := .cells #[.slice A0_0 l0_0.length c0_0, .int .i64 a0_1, .int .i64 a0_2, .slice A0_3 l0_3.length c0_3, .slice A0_4 l0_4.length c0_4] 28 (0, 0)) (by (with_reducible repeat (first | refine blk_drewN ?_ _ | refine blk_drew ?_ | refine blk_alloc ?_ _)); exact BK368.out)) : gb368 ≠ gb372))
    have n7_ := Aside0.mk ((by rw [hg]; exact Nat.ne_of_gt (blk_lt (g := gb368) (o := .cells #[.slice A0_0 l0_0.length c0_0, .int .i64 a0_1, .int .i64 a0_2, .slice A0_3 l0_3.length c0_3, .slice A0_4 l0_4.length c0_4] 28 (0, 0)) (by (with_reducible repeat (first | refine blk_drewN ?_ _ | refine blk_drew ?_ | refine blk_alloc ?_ _)); exact BK368.out)) : gb372 ≠ gb368))
    have n8_ := Aside0.mk ((by rw [hg]; exact Nat.ne_of_lt (blk_lt (g := gb369) (o := .cells #[.slice none 0 0, .int .i64 0, .slice none 0 0, .slice none 0 0] 56 (0, 0)) (by (with_reducible repeat (first | refine blk_drewN ?_ _ | refine blk_drew ?_ | refine blk_alloc ?_ _)); exact BK369.out)) : gb369 ≠ gb372))
    have n9_ := Aside0.mk ((by rw [hg]; exact Nat.ne_of_gt (blk_lt (g := gb369) (o := .cells #[.slice none 0 0, .int .i64 0, .slice none 0 0, .slice none 0 0] 56 (0, 0)) (by (with_reducible repeat (first | refine blk_drewN ?_ _ | refine blk_drew ?_ | refine blk_alloc ?_ _)); exact BK369.out)) : gb372 ≠ gb369))
    clear BK368 BK369 HB
    have BK368 := n0_
    have BK369 := n1_
    have HB := n2_
    have BK372 := n3_
    have GW372 := n4_
    have GE372 := n5_
    have NB368_372 := n6_
    have NB372_368 := n7_
    have NB369_372 := n8_
    have NB372_369 := n9_
    clear n0_ n1_ n2_ n3_ n4_ n5_ n6_ n7_ n8_ n9_ hb hbox hg
    refine hK.out _ _ ⟨(blk_cell BK368.out 0).trans rfl, (blk_cell BK368.out 1).trans rfl, (blk_cell BK368.out 2).trans rfl, (blk_cell BK368.out 3).trans rfl, (blk_cell BK368.out 4).trans rfl⟩ (fun hHeld => ?_)
    clear hK K
    refine norm_ (a' := ?_) ?_ ?_
    rotate_left
    ·
     show Act.put _ (some 5) _ = _
     simp only [Act.put, List.setIfInBounds_toArray, List.set_cons_zero, List.set_cons_succ, i64_w, i32_w]
     rfl
    exact norm_ (by simp only [putAll, Act.put, List.setIfInBounds_toArray, List.set_cons_zero, List.set_cons_succ]) (hCont (gb372) _ ⟨hHeld, (by (with_reducible repeat (first | refine blk_drewN ?_ _ | refine blk_drew ?_ | refine blk_alloc ?_ _)); exact BK368.out), (by (with_reducible repeat (first | refine blk_drewN ?_ _ | refine blk_drew ?_ | refine blk_alloc ?_ _)); exact BK369.out), (by (with_reducible repeat (first | refine blk_drewN ?_ _ | refine blk_drew ?_ | refine blk_alloc ?_ _)); exact BK372.out), GW372.out, GE372.out, NB368_372.out, NB372_368.out, NB369_372.out, NB372_369.out, (by repeat (first | (with_reducible first | exact HB.out | apply below_alloc | apply pw_below_drewN | apply below_drew1 | refine below_set ?_ GE368.out | refine below_set ?_ GE369.out | refine below_set ?_ GE372.out) | exact HB.out))⟩)
   ·
    skip
    refine box_step ?hg (N := 5) ?hd (cs := #[.slice none 0 0, .int .i64 0, .slice none 0 0, .slice none 0 0]) (t := 56) ?hr ?_; (case hd => rfl); (case hg => rfl); (case hr => first | (go_simp; done) | (go_simp; rfl))
    intro gb372 hg w8 hbox hb
    have n0_ := Aside0.mk (blk_below (g := gb368) (o := .cells #[.slice A0_0 l0_0.length c0_0, .int .i64 a0_1, .int .i64 a0_2, .slice A0_3 l0_3.length c0_3, .slice A0_4 l0_4.length c0_4] 28 (0, 0)) (by (with_reducible repeat (first | refine blk_drewN ?_ _ | refine blk_drew ?_ | refine blk_alloc ?_ _)); exact BK368.out) hb)
    have n1_ := Aside0.mk (blk_below (g := gb369) (o := .cells #[.slice none 0 0, .int .i64 0, .slice none 0 0, .slice none 0 0] 56 (0, 0)) (by (with_reducible repeat (first | refine blk_drewN ?_ _ | refine blk_drew ?_ | refine blk_alloc ?_ _)); exact BK369.out) hb)
    have n2_ := Aside0.mk (below_step (by repeat (first | (with_reducible first | exact HB.out | apply below_alloc | apply pw_below_drewN | apply below_drew1 | refine below_set ?_ GE368.out | refine below_set ?_ GE369.out) | exact HB.out)) hb)
    have n3_ := Aside0.mk (hbox)
    have n4_ := Aside0.mk ((by rw [hg]; exact (below_size (by repeat (first | (with_reducible first | exact HB.out | apply below_alloc | apply pw_below_drewN | apply below_drew1 | refine below_set ?_ GE368.out | refine below_set ?_ GE369.out) | exact HB.out))) : w.heap.size ≤ gb372))
    have n5_ := Aside0.mk ((by rw [hg]; exact (below_size (by repeat (first | (with_reducible first | exact HB.out | apply below_alloc | apply pw_below_drewN | apply below_drew1 | refine below_set ?_ GE368.out | refine below_set ?_ GE369.out) | exact HB.out))) : w.heap.size ≤ gb372))
    have n6_ := Aside0.mk ((by rw [hg]; exact Nat.ne_of_lt (blk_lt (g := gb368) (o := .cells #[.slice A0_0 l0_0.length c0_0, .int .i64 a0_1, .int .i64 a0_2, .slice A0_3 l0_3.length c0_3, .slice A0_4 l0_4.length c0_4] 28 (0, 0)) (by (with_reducible repeat (first | refine blk_drewN ?_ _ | refine blk_drew ?_ | refine blk_alloc ?_ _)); exact BK368.out)) : gb368 ≠ gb372))
    have n7_ := Aside0.mk ((by rw [hg]; exact Nat.ne_of_gt (blk_lt (g := gb368) (o := .cells #[.slice A0_0 l0_0.length c0_0, .int .i64 a0_1, .int .i64 a0_2, .slice A0_3 l0_3.length c0_3, .slice A0_4 l0_4.length c0_4] 28 (0, 0)) (by (with_reducible repeat (first | refine blk_drewN ?_ _ | refine blk_drew ?_ | refine blk_alloc ?_ _)); exact BK368.out)) : gb372 ≠ gb368))
    have n8_ := Aside0.mk ((by rw [hg]; exact Nat.ne_of_lt (blk_lt (g := gb369) (o := .cells #[.slice none 0 0, .int .i64 0, .slice none 0 0, .slice none 0 0] 56 (0, 0)) (by (with_reducible repeat (first | refine blk_drewN ?_ _ | refine blk_drew ?_ | refine blk_alloc ?_ _)); exact BK369.out)) : gb369 ≠ gb372))
    have n9_ := Aside0.mk ((by rw [hg]; exact Nat.ne_of_gt (blk_lt (g := gb369) (o := .cells #[.slice none 0 0, .int .i64 0, .slice none 0 0, .slice none 0 0] 56 (0, 0)) (by (with_reducible repeat (first | refine blk_drewN ?_ _ | refine blk_drew ?_ | refine blk_alloc ?_ _)); exact BK369.out)) : gb372 ≠ gb369))
    clear BK368 BK369 HB
    have BK368 := n0_
    have BK369 := n1_
    have HB := n2_
    have BK372 := n3_
    have GW372 := n4_
    have GE372 := n5_
    have NB368_372 := n6_
    have NB372_368 := n7_
    have NB369_372 := n8_
    have NB372_369 := n9_
    clear n0_ n1_ n2_ n3_ n4_ n5_ n6_ n7_ n8_ n9_ hb hbox hg
    refine hK.out _ _ ⟨(blk_cell BK368.out 0).trans rfl, (blk_cell BK368.out 1).trans rfl, (blk_cell BK368.out 2).trans rfl, (blk_cell BK368.out 3).trans rfl, (blk_cell BK368.out 4).trans rfl⟩ (fun hHeld => ?_)
    clear hK K
    refine norm_ (a' := ?_) ?_ ?_
    rotate_left
    ·
     show Act.put _ (some 5) _ = _
     simp only [Act.put, List.setIfInBounds_toArray, List.set_cons_zero, List.set_cons_succ, i64_w, i32_w]
     rfl
    refine one_ (i := 4) (N := some 12) #[true, true, true, true, true, false, true, false] rfl rfl (one_of HT_.out (by kernel_rfl)) (by decide) (fun K hK => ?_)
    refine goes_ Try.func134 (by kernel_rfl) rfl #[.agg #[.int .i64 a0_1, .int .i64 a0_2], .int .i64 t370] (by rfl) rfl rfl (by (try simp only [List.map_toArray, List.map_cons, List.map_nil]); first | done | rfl | (simp only [List.length_drop, List.length_take]; rfl)) ?_
    with_reducible refine (helioscopelaw07_one.calls a0_1 a0_2 t370 t371 _ A4.out).mono ?_
    rintro e w9 ⟨rfl, hb⟩
    refine ⟨_, rfl, ?_⟩
    have n0_ := Aside0.mk (blk_below (g := gb368) (o := .cells #[.slice A0_0 l0_0.length c0_0, .int .i64 a0_1, .int .i64 a0_2, .slice A0_3 l0_3.length c0_3, .slice A0_4 l0_4.length c0_4] 28 (0, 0)) (by (with_reducible repeat (first | refine blk_drewN ?_ _ | refine blk_drew ?_ | refine blk_alloc ?_ _)); exact BK368.out) hb)
    have n1_ := Aside0.mk (blk_below (g := gb369) (o := .cells #[.slice none 0 0, .int .i64 0, .slice none 0 0, .slice none 0 0] 56 (0, 0)) (by (with_reducible repeat (first | refine blk_drewN ?_ _ | refine blk_drew ?_ | refine blk_alloc ?_ _)); exact BK369.out) hb)
    have n2_ := Aside0.mk (blk_below (g := gb372) (o := .cells #[.slice none 0 0, .int .i64 0, .slice none 0 0, .slice none 0 0] 56 (0, 0)) (by (with_reducible repeat (first | refine blk_drewN ?_ _ | refine blk_drew ?_ | refine blk_alloc ?_ _)); exact BK372.out) hb)
    have n3_ := Aside0.mk (below_step (by repeat (first | (with_reducible first | exact HB.out | apply below_alloc | apply pw_below_drewN | apply below_drew1 | refine below_set ?_ GE368.out | refine below_set ?_ GE369.out | refine below_set ?_ GE372.out) | exact HB.out)) hb)
    clear BK368 BK369 BK372 HB
    have BK368 := n0_
    have BK369 := n1_
    have BK372 := n2_
    have HB := n3_
    clear n0_ n1_ n2_ n3_
    (try clear hb)
    (try clear hb2)
    (try clear hk)
    (try clear hi)
    refine hK.out _ _ ⟨(blk_cell BK368.out 0).trans rfl, (blk_cell BK368.out 1).trans rfl, (blk_cell BK368.out 2).trans rfl, (blk_cell BK368.out 3).trans rfl, (blk_cell BK368.out 4).trans rfl⟩ (fun hHeld => ?_)
    clear hK K
    refine norm_ (a' := ?_) ?_ ?_
    rotate_left
    ·
     show Act.put _ (some 12) _ = _
     simp only [Act.put, List.setIfInBounds_toArray, List.set_cons_zero, List.set_cons_succ, i64_w, i32_w]
     rfl
    refine pureQ 5 13 HT_.out ?_
    exact norm_ (by simp only [putAll, Act.put, List.setIfInBounds_toArray, List.set_cons_zero, List.set_cons_succ]) (hCont (gb372) _ ⟨hHeld, (by (with_reducible repeat (first | refine blk_drewN ?_ _ | refine blk_drew ?_ | refine blk_alloc ?_ _)); exact BK368.out), (by (with_reducible repeat (first | refine blk_drewN ?_ _ | refine blk_drew ?_ | refine blk_alloc ?_ _)); exact BK369.out), (by (with_reducible repeat (first | refine blk_drewN ?_ _ | refine blk_drew ?_ | refine blk_alloc ?_ _)); exact BK372.out), GW372.out, GE372.out, NB368_372.out, NB372_368.out, NB369_372.out, NB372_369.out, (by repeat (first | (with_reducible first | exact HB.out | apply below_alloc | apply pw_below_drewN | apply below_drew1 | refine below_set ?_ GE368.out | refine below_set ?_ GE369.out | refine below_set ?_ GE372.out) | exact HB.out))⟩)
  ·
   skip
   refine box_step ?hg (N := 5) ?hd (cs := #[.slice none 0 0, .int .i64 0, .slice none 0 0, .slice none 0 0]) (t := 56) ?hr ?_; (case hd => rfl); (case hg => rfl); (case hr => first | (go_simp; done) | (go_simp; rfl))
   intro gb372 hg w8 hbox hb
   have n0_ := Aside0.mk (blk_below (g := gb368) (o := .cells #[.slice A0_0 l0_0.length c0_0, .int .i64 a0_1, .int .i64 a0_2, .slice A0_3 l0_3.length c0_3, .slice A0_4 l0_4.length c0_4] 28 (0, 0)) (by (with_reducible repeat (first | refine blk_drewN ?_ _ | refine blk_drew ?_ | refine blk_alloc ?_ _)); exact BK368.out) hb)
   have n1_ := Aside0.mk (blk_below (g := gb369) (o := .cells #[.slice none 0 0, .int .i64 0, .slice none 0 0, .slice none 0 0] 56 (0, 0)) (by (with_reducible repeat (first | refine blk_drewN ?_ _ | refine blk_drew ?_ | refine blk_alloc ?_ _)); exact BK369.out) hb)
   have n2_ := Aside0.mk (below_step (by repeat (first | (with_reducible first | exact HB.out | apply below_alloc | apply pw_below_drewN | apply below_drew1 | refine below_set ?_ GE368.out | refine below_set ?_ GE369.out) | exact HB.out)) hb)
   have n3_ := Aside0.mk (hbox)
   have n4_ := Aside0.mk ((by rw [hg]; exact (below_size (by repeat (first | (with_reducible first | exact HB.out | apply below_alloc | apply pw_below_drewN | apply below_drew1 | refine below_set ?_ GE368.out | refine below_set ?_ GE369.out) | exact HB.out))) : w.heap.size ≤ gb372))
   have n5_ := Aside0.mk ((by rw [hg]; exact (below_size (by repeat (first | (with_reducible first | exact HB.out | apply below_alloc | apply pw_below_drewN | apply below_drew1 | refine below_set ?_ GE368.out | refine below_set ?_ GE369.out) | exact HB.out))) : w.heap.size ≤ gb372))
   have n6_ := Aside0.mk ((by rw [hg]; exact Nat.ne_of_lt (blk_lt (g := gb368) (o := .cells #[.slice A0_0 l0_0.length c0_0, .int .i64 a0_1, .int .i64 a0_2, .slice A0_3 l0_3.length c0_3, .slice A0_4 l0_4.length c0_4] 28 (0, 0)) (by (with_reducible repeat (first | refine blk_drewN ?_ _ | refine blk_drew ?_ | refine blk_alloc ?_ _)); exact BK368.out)) : gb368 ≠ gb372))
   have n7_ := Aside0.mk ((by rw [hg]; exact Nat.ne_of_gt (blk_lt (g := gb368) (o := .cells #[.slice A0_0 l0_0.length c0_0, .int .i64 a0_1, .int .i64 a0_2, .slice A0_3 l0_3.length c0_3, .slice A0_4 l0_4.length c0_4] 28 (0, 0)) (by (with_reducible repeat (first | refine blk_drewN ?_ _ | refine blk_drew ?_ | refine blk_alloc ?_ _)); exact BK368.out)) : gb372 ≠ gb368))
   have n8_ := Aside0.mk ((by rw [hg]; exact Nat.ne_of_lt (blk_lt (g := gb369) (o := .cells #[.slice none 0 0, .int .i64 0, .slice none 0 0, .slice none 0 0] 56 (0, 0)) (by (with_reducible repeat (first | refine blk_drewN ?_ _ | refine blk_drew ?_ | refine blk_alloc ?_ _)); exact BK369.out)) : gb369 ≠ gb372))
   have n9_ := Aside0.mk ((by rw [hg]; exact Nat.ne_of_gt (blk_lt (g := gb369) (o := .cells #[.slice none 0 0, .int .i64 0, .slice none 0 0, .slice none 0 0] 56 (0, 0)) (by (with_reducible repeat (first | refine blk_drewN ?_ _ | refine blk_drew ?_ | refine blk_alloc ?_ _)); exact BK369.out)) : gb372 ≠ gb369))
   clear BK368 BK369 HB
   have BK368 := n0_
   have BK369 := n1_
   have HB := n2_
   have BK372 := n3_
   have GW372 := n4_
   have GE372 := n5_
   have NB368_372 := n6_
   have NB372_368 := n7_
   have NB369_372 := n8_
   have NB372_369 := n9_
   clear n0_ n1_ n2_ n3_ n4_ n5_ n6_ n7_ n8_ n9_ hb hbox hg
   refine hK.out _ _ ⟨(blk_cell BK368.out 0).trans rfl, (blk_cell BK368.out 1).trans rfl, (blk_cell BK368.out 2).trans rfl, (blk_cell BK368.out 3).trans rfl, (blk_cell BK368.out 4).trans rfl⟩ (fun hHeld => ?_)
   clear hK K
   refine norm_ (a' := ?_) ?_ ?_
   rotate_left
   ·
    show Act.put _ (some 5) _ = _
    simp only [Act.put, List.setIfInBounds_toArray, List.set_cons_zero, List.set_cons_succ, i64_w, i32_w]
    rfl
   refine one_ (i := 3) (N := some 11) #[true, true, true, true, false, false, true, false] rfl rfl (one_of HT_.out (by kernel_rfl)) (by decide) (fun K hK => ?_)
   refine goes_ Try.func112 (by kernel_rfl) rfl #[.slice A1 l1.length c1, .int .i64 0] (by rfl) rfl rfl (by (try simp only [List.map_toArray, List.map_cons, List.map_nil]); first | done | rfl | (simp only [List.length_drop, List.length_take]; rfl)) ?_
   with_reducible refine (helioscopelaw07_turn.calls _ _ l1 0 t370 _ ?side1 ?side2 A3.out).mono ?_
   (case side1 => repeat (first | exact (Kd.C_below HR1.out HB.out) | (with_reducible refine Kd.C_alloc ?_ _) | (with_reducible refine Kd.C_drewN ?_ _) | (with_reducible refine Kd.C_drew ?_)))
   (case side2 => exact HC1.out)
   rintro e w' ⟨rfl, ⟨nd, rfl⟩⟩
   refine ⟨_, rfl, ?_⟩
   refine hK.out _ _ ⟨(blk_cell BK368.out 0).trans rfl, (blk_cell BK368.out 1).trans rfl, (blk_cell BK368.out 2).trans rfl, (blk_cell BK368.out 3).trans rfl, (blk_cell BK368.out 4).trans rfl⟩ (fun hHeld => ?_)
   clear hK K
   refine norm_ (a' := ?_) ?_ ?_
   rotate_left
   ·
    show Act.put _ (some 11) _ = _
    simp only [Act.put, List.setIfInBounds_toArray, List.set_cons_zero, List.set_cons_succ, i64_w, i32_w]
    rfl
   refine one_ (i := 4) (N := some 12) #[true, true, true, true, true, false, true, false] rfl rfl (one_of HT_.out (by kernel_rfl)) (by decide) (fun K hK => ?_)
   refine goes_ Try.func134 (by kernel_rfl) rfl #[.agg #[.int .i64 a0_1, .int .i64 a0_2], .int .i64 t370] (by rfl) rfl rfl (by (try simp only [List.map_toArray, List.map_cons, List.map_nil]); first | done | rfl | (simp only [List.length_drop, List.length_take]; rfl)) ?_
   with_reducible refine (helioscopelaw07_one.calls a0_1 a0_2 t370 t371 _ A4.out).mono ?_
   rintro e w9 ⟨rfl, hb⟩
   refine ⟨_, rfl, ?_⟩
   have n0_ := Aside0.mk (blk_below (g := gb368) (o := .cells #[.slice A0_0 l0_0.length c0_0, .int .i64 a0_1, .int .i64 a0_2, .slice A0_3 l0_3.length c0_3, .slice A0_4 l0_4.length c0_4] 28 (0, 0)) (by (with_reducible repeat (first | refine blk_drewN ?_ _ | refine blk_drew ?_ | refine blk_alloc ?_ _)); exact BK368.out) hb)
   have n1_ := Aside0.mk (blk_below (g := gb369) (o := .cells #[.slice none 0 0, .int .i64 0, .slice none 0 0, .slice none 0 0] 56 (0, 0)) (by (with_reducible repeat (first | refine blk_drewN ?_ _ | refine blk_drew ?_ | refine blk_alloc ?_ _)); exact BK369.out) hb)
   have n2_ := Aside0.mk (blk_below (g := gb372) (o := .cells #[.slice none 0 0, .int .i64 0, .slice none 0 0, .slice none 0 0] 56 (0, 0)) (by (with_reducible repeat (first | refine blk_drewN ?_ _ | refine blk_drew ?_ | refine blk_alloc ?_ _)); exact BK372.out) hb)
   have n3_ := Aside0.mk (below_step (by repeat (first | (with_reducible first | exact HB.out | apply below_alloc | apply pw_below_drewN | apply below_drew1 | refine below_set ?_ GE368.out | refine below_set ?_ GE369.out | refine below_set ?_ GE372.out) | exact HB.out)) hb)
   clear BK368 BK369 BK372 HB
   have BK368 := n0_
   have BK369 := n1_
   have BK372 := n2_
   have HB := n3_
   clear n0_ n1_ n2_ n3_
   (try clear hb)
   (try clear hb2)
   (try clear hk)
   (try clear hi)
   refine hK.out _ _ ⟨(blk_cell BK368.out 0).trans rfl, (blk_cell BK368.out 1).trans rfl, (blk_cell BK368.out 2).trans rfl, (blk_cell BK368.out 3).trans rfl, (blk_cell BK368.out 4).trans rfl⟩ (fun hHeld => ?_)
   clear hK K
   refine norm_ (a' := ?_) ?_ ?_
   rotate_left
   ·
    show Act.put _ (some 12) _ = _
    simp only [Act.put, List.setIfInBounds_toArray, List.set_cons_zero, List.set_cons_succ, i64_w, i32_w]
    rfl
   refine pureQ 5 13 HT_.out ?_
   exact norm_ (by simp only [putAll, Act.put, List.setIfInBounds_toArray, List.set_cons_zero, List.set_cons_succ]) (hCont (gb372) _ ⟨hHeld, (by (with_reducible repeat (first | refine blk_drewN ?_ _ | refine blk_drew ?_ | refine blk_alloc ?_ _)); exact BK368.out), (by (with_reducible repeat (first | refine blk_drewN ?_ _ | refine blk_drew ?_ | refine blk_alloc ?_ _)); exact BK369.out), (by (with_reducible repeat (first | refine blk_drewN ?_ _ | refine blk_drew ?_ | refine blk_alloc ?_ _)); exact BK372.out), GW372.out, GE372.out, NB368_372.out, NB372_368.out, NB369_372.out, NB372_369.out, (by repeat (first | (with_reducible first | exact HB.out | apply below_alloc | apply pw_below_drewN | apply below_drew1 | refine below_set ?_ GE368.out | refine below_set ?_ GE369.out | refine below_set ?_ GE372.out) | exact HB.out))⟩)
 rintro gb372 w10 ⟨hS_, h0_, h1_, h2_, h3_, h4_, h5_, h6_, h7_, h8_, h9_⟩
 have n0_ : Aside0 (w10.heap[gb368]? = some (.cells #[.slice A0_0 l0_0.length c0_0, .int .i64 a0_1, .int .i64 a0_2, .slice A0_3 l0_3.length c0_3, .slice A0_4 l0_4.length c0_4] 28 (0, 0))) := ⟨h0_⟩
 have n1_ : Aside0 (w10.heap[gb369]? = some (.cells #[.slice none 0 0, .int .i64 0, .slice none 0 0, .slice none 0 0] 56 (0, 0))) := ⟨h1_⟩
 have n2_ : Aside0 (w10.heap[gb372]? = some (.cells #[.slice none 0 0, .int .i64 0, .slice none 0 0, .slice none 0 0] 56 (0, 0))) := ⟨h2_⟩
 have n3_ : Aside0 (w.heap.size ≤ gb372) := ⟨h3_⟩
 have n4_ : Aside0 (w.heap.size ≤ gb372) := ⟨h4_⟩
 have n5_ : Aside0 (gb368 ≠ gb372) := ⟨h5_⟩
 have n6_ : Aside0 (gb372 ≠ gb368) := ⟨h6_⟩
 have n7_ : Aside0 (gb369 ≠ gb372) := ⟨h7_⟩
 have n8_ : Aside0 (gb372 ≠ gb369) := ⟨h8_⟩
 have n9_ : Aside0 (Below w.heap.size w w10) := ⟨h9_⟩
 clear BK368 BK369 HB h0_ h1_ h2_ h3_ h4_ h5_ h6_ h7_ h8_ h9_
 have BK368 := n0_
 have BK369 := n1_
 have BK372 := n2_
 have GW372 := n3_
 have GE372 := n4_
 have NB368_372 := n5_
 have NB372_368 := n6_
 have NB369_372 := n7_
 have NB372_369 := n8_
 have HB := n9_
 clear n0_ n1_ n2_ n3_ n4_ n5_ n6_ n7_ n8_ n9_
 have hHeld : w10.cell? ⟨gb368, 0, none⟩ = some (.slice A0_0 l0_0.length c0_0) ∧ w10.cell? ⟨gb368, 1, none⟩ = some (.int .i64 a0_1) ∧ w10.cell? ⟨gb368, 2, none⟩ = some (.int .i64 a0_2) ∧ w10.cell? ⟨gb368, 3, none⟩ = some (.slice A0_3 l0_3.length c0_3) ∧ w10.cell? ⟨gb368, 4, none⟩ = some (.slice A0_4 l0_4.length c0_4) := hS_
 refine norm_ (a' := ?_) ?_ ?_
 rotate_left
 ·
  simp only [putAll, Act.put, List.setIfInBounds_toArray, List.set_cons_zero, List.set_cons_succ]
  rfl
 refine one_ (i := 7) (N := none) #[true, true, true, true, true, true, true, true] rfl rfl (one_of HT_.out (by kernel_rfl)) (by decide) (fun K hK => ?_)
 have hs11 := (blk_cell BK372.out 0).trans rfl
 have hfs11 := blk_frozen BK372.out 0
 have hns11_0 := NB368_372.out
 have hns11_1 := NB369_372.out
 have hms11_0 := NB372_368.out
 have hms11_1 := NB372_369.out
 have hs12 := (blk_cell BK372.out 1).trans rfl
 have hfs12 := blk_frozen BK372.out 1
 have hns12_0 := NB368_372.out
 have hns12_1 := NB369_372.out
 have hms12_0 := NB372_368.out
 have hms12_1 := NB372_369.out
 have hs13 := (blk_cell BK372.out 2).trans rfl
 have hfs13 := blk_frozen BK372.out 2
 have hns13_0 := NB368_372.out
 have hns13_1 := NB369_372.out
 have hms13_0 := NB372_368.out
 have hms13_1 := NB372_369.out
 have hs14 := (blk_cell BK372.out 3).trans rfl
 have hfs14 := blk_frozen BK372.out 3
 have hns14_0 := NB368_372.out
 have hns14_1 := NB369_372.out
 have hms14_0 := NB372_368.out
 have hms14_1 := NB372_369.out
 refine skip_ (w1 := ?_) (by rfl) rfl ?_ ?_
 rotate_left
 ·
  go_simp
  rfl
 refine hK.out _ _ ⟨((cell_far (p := ⟨gb372, _, none⟩) NB368_372.out _).trans (((cell_far (p := ⟨gb372, _, none⟩) NB368_372.out _).trans (((cell_far (p := ⟨gb372, _, none⟩) NB368_372.out _).trans (((cell_far (p := ⟨gb372, _, none⟩) NB368_372.out _).trans (hHeld.1)))))))), ((cell_far (p := ⟨gb372, _, none⟩) NB368_372.out _).trans (((cell_far (p := ⟨gb372, _, none⟩) NB368_372.out _).trans (((cell_far (p := ⟨gb372, _, none⟩) NB368_372.out _).trans (((cell_far (p := ⟨gb372, _, none⟩) NB368_372.out _).trans (hHeld.2.1)))))))), ((cell_far (p := ⟨gb372, _, none⟩) NB368_372.out _).trans (((cell_far (p := ⟨gb372, _, none⟩) NB368_372.out _).trans (((cell_far (p := ⟨gb372, _, none⟩) NB368_372.out _).trans (((cell_far (p := ⟨gb372, _, none⟩) NB368_372.out _).trans (hHeld.2.2.1)))))))), ((cell_far (p := ⟨gb372, _, none⟩) NB368_372.out _).trans (((cell_far (p := ⟨gb372, _, none⟩) NB368_372.out _).trans (((cell_far (p := ⟨gb372, _, none⟩) NB368_372.out _).trans (((cell_far (p := ⟨gb372, _, none⟩) NB368_372.out _).trans (hHeld.2.2.2.1)))))))), ((cell_far (p := ⟨gb372, _, none⟩) NB368_372.out _).trans (((cell_far (p := ⟨gb372, _, none⟩) NB368_372.out _).trans (((cell_far (p := ⟨gb372, _, none⟩) NB368_372.out _).trans (((cell_far (p := ⟨gb372, _, none⟩) NB368_372.out _).trans (hHeld.2.2.2.2))))))))⟩ (fun hHeld => ?_)
 clear hK K
 refine done_ (done_of HT_.out (by kernel_rfl)) ?_
 try go_wp2
 go_loopg [6] k (fun kq v6 w' => ∃ (x6_1 : Int) (x373000_1 : List Int) (u373000 : Value), v6 = .int .i64 x6_1 ∧ Aside0 (helioscopelaw07_Truly.l0 kq l1 x6_1 l0_0 a0_1 a0_2 l0_3 l0_4 x373000_1 t371 = some (r1, r2, r3, r4)) ∧ Aside0 (kq ≤ k) ∧ Aside0 (Kd.R (Kd.int .i64) 3 w' w.heap.size (fun _ => True) u373000 x373000_1) ∧ Aside0 (w'.heap[gb368]? = some (.cells #[(.slice A0_0 l0_0.length c0_0), .int .i64 a0_1, .int .i64 a0_2, (.slice A0_3 l0_3.length c0_3), (.slice A0_4 l0_4.length c0_4)] 28 (0, 0))) ∧ Aside0 (w'.heap[gb369]? = some (.cells #[(.slice none 0 0), .int .i64 0, (.slice none 0 0), (.slice none 0 0)] 56 (0, 0))) ∧ Aside0 (w'.heap[gb372]? = some (.cells #[u373000, .int .i64 t371, (.slice none 0 0), (.slice none 0 0)] 56 (0, 0))) ∧ Aside0 (Below w.heap.size w w'))
 case atStart => exact ⟨(0), (([] : List Int)), (.slice none 0 0), (by first | rfl | (simp; done) | (simp [*]; done)), H', ⟨Nat.le_refl _⟩, ⟨by first | exact Kd.R_nil _ _ _ _ _ | exact Kd.N_nil _ _ _ _ _ | exact Kd.V_nil _ _ _ _ _ | exact Kd.Q_nil _ _ _ _ _ | exact Kd.S_nil _ _ _ _ _⟩, ⟨by (with_reducible repeat (first | refine blk_drewN ?_ _ | refine blk_drew ?_ | refine blk_alloc ?_ _)); refine blk_far ?_ NB368_372.out _; (with_reducible repeat (first | refine blk_drewN ?_ _ | refine blk_drew ?_ | refine blk_alloc ?_ _)); refine blk_far ?_ NB368_372.out _; (with_reducible repeat (first | refine blk_drewN ?_ _ | refine blk_drew ?_ | refine blk_alloc ?_ _)); refine blk_far ?_ NB368_372.out _; (with_reducible repeat (first | refine blk_drewN ?_ _ | refine blk_drew ?_ | refine blk_alloc ?_ _)); refine blk_far ?_ NB368_372.out _; (with_reducible repeat (first | refine blk_drewN ?_ _ | refine blk_drew ?_ | refine blk_alloc ?_ _)); exact BK368.out⟩, ⟨by (with_reducible repeat (first | refine blk_drewN ?_ _ | refine blk_drew ?_ | refine blk_alloc ?_ _)); refine blk_far ?_ NB369_372.out _; (with_reducible repeat (first | refine blk_drewN ?_ _ | refine blk_drew ?_ | refine blk_alloc ?_ _)); refine blk_far ?_ NB369_372.out _; (with_reducible repeat (first | refine blk_drewN ?_ _ | refine blk_drew ?_ | refine blk_alloc ?_ _)); refine blk_far ?_ NB369_372.out _; (with_reducible repeat (first | refine blk_drewN ?_ _ | refine blk_drew ?_ | refine blk_alloc ?_ _)); refine blk_far ?_ NB369_372.out _; (with_reducible repeat (first | refine blk_drewN ?_ _ | refine blk_drew ?_ | refine blk_alloc ?_ _)); exact BK369.out⟩, ⟨by (with_reducible repeat (first | refine blk_drewN ?_ _ | refine blk_drew ?_ | refine blk_alloc ?_ _)); refine blk_put (cs := #[.slice none 0 0, .int .i64 t371, .slice none 0 0, .slice none 0 0]) ?_ 3 _ rfl; (with_reducible repeat (first | refine blk_drewN ?_ _ | refine blk_drew ?_ | refine blk_alloc ?_ _)); refine blk_put (cs := #[.slice none 0 0, .int .i64 t371, .slice none 0 0, .slice none 0 0]) ?_ 2 _ rfl; (with_reducible repeat (first | refine blk_drewN ?_ _ | refine blk_drew ?_ | refine blk_alloc ?_ _)); refine blk_put (cs := #[.slice none 0 0, .int .i64 0, .slice none 0 0, .slice none 0 0]) ?_ 1 _ rfl; (with_reducible repeat (first | refine blk_drewN ?_ _ | refine blk_drew ?_ | refine blk_alloc ?_ _)); refine blk_put (cs := #[.slice none 0 0, .int .i64 0, .slice none 0 0, .slice none 0 0]) ?_ 0 _ rfl; (with_reducible repeat (first | refine blk_drewN ?_ _ | refine blk_drew ?_ | refine blk_alloc ?_ _)); exact BK372.out⟩, ⟨by repeat (first | (with_reducible first | exact HB.out | apply below_alloc | apply pw_below_drewN | apply below_drew1 | refine below_set ?_ GE368.out | refine below_set ?_ GE369.out | refine below_set ?_ GE372.out) | exact HB.out)⟩⟩
 case round =>
  clear H'
  try clear c1
  try clear p2
  try clear c11
  try clear c13
  obtain ⟨x6_1, x373000_1, u373000, rfl, HA, HK1, HO_373000, BK368, BK369, BK372, HB⟩ := hrel
  cases gk with
  | zero => exact absurd HA.out (by simp [helioscopelaw07_Truly.l0])
  | succ k1 =>
   have H := HA.out
   clear HA
   simp only [helioscopelaw07_Truly.l0] at H
   by_cases c15 : x6_1 < (l0_0.length : Int)
   ·
    rw [if_pos c15] at H
    have c15b0 : decide (x6_1 < (l0_0.length : Int)) = true := decide_eq_true c15
    clear c15
    obtain ⟨y373, hy373⟩ : ∃ y_ : List Int, y_ = (([] : List Int)) := ⟨_, rfl⟩
    replace H : (if y373.length + x373000_1.length < 17592186044416 then ((some (y373 ++ x373000_1 : List Int)).bind fun y376 => (if 0 ≤ x6_1 then ((helioscopelaw07_turn.f l1 (wrap64 (1 + x6_1))).bind fun t380 => ((helioscopelaw07_one.f ((rd_T95 l0_0 x6_1).f1.f0) ((rd_T95 l0_0 x6_1).f1.f1) t380).bind fun t381 => (if y376.length < 17592186044416 then (helioscopelaw07_Truly.l0 k1 l1 (wrap64 (x6_1 + 1)) l0_0 a0_1 a0_2 l0_3 l0_4 (y376 ++ [t381]) t371) else (none)))) else (none))) else (none)) = some (r1, r2, r3, r4) := by first | (rw [hy373]; with_reducible exact H) | (have H2_ := (Option.bind_some _ _).symm.trans H; rw [hy373]; with_reducible exact H2_) | (have H2_ := (Option.bind_some _ _).symm.trans H; with_reducible exact H2_) | with_reducible exact H | (rw [hy373]; exact H) | exact H
    have Ny373 := Aside0.mk hy373
    clear hy373
    by_cases c16 : y373.length + x373000_1.length < 17592186044416
    ·
     rw [if_pos c16] at H
     have LMc16 := Aside0.mk c16
     clear c16
     obtain ⟨y376, hy376⟩ : ∃ y_ : List Int, y_ = (y373 ++ x373000_1) := ⟨_, rfl⟩
     replace H : (if 0 ≤ x6_1 then ((helioscopelaw07_turn.f l1 (wrap64 (1 + x6_1))).bind fun t380 => ((helioscopelaw07_one.f ((rd_T95 l0_0 x6_1).f1.f0) ((rd_T95 l0_0 x6_1).f1.f1) t380).bind fun t381 => (if y376.length < 17592186044416 then (helioscopelaw07_Truly.l0 k1 l1 (wrap64 (x6_1 + 1)) l0_0 a0_1 a0_2 l0_3 l0_4 (y376 ++ [t381]) t371) else (none)))) else (none)) = some (r1, r2, r3, r4) := by first | (rw [hy376]; with_reducible exact H) | (have H2_ := (Option.bind_some _ _).symm.trans H; rw [hy376]; with_reducible exact H2_) | (have H2_ := (Option.bind_some _ _).symm.trans H; with_reducible exact H2_) | with_reducible exact H | (rw [hy376]; exact H) | exact H
     have Ny376 := Aside0.mk hy376
     clear hy376
     by_cases c17 : 0 ≤ x6_1
     ·
      rw [if_pos c17] at H
      have c17b0 : decide (0 ≤ x6_1) = true := decide_eq_true c17
      clear c17
      replace H := Option.bind_eq_some_iff.mp H
      obtain ⟨t380, A180, H⟩ := H
      replace H : ((helioscopelaw07_one.f ((rd_T95 l0_0 x6_1).f1.f0) ((rd_T95 l0_0 x6_1).f1.f1) t380).bind fun t381 => (if y376.length < 17592186044416 then (helioscopelaw07_Truly.l0 k1 l1 (wrap64 (x6_1 + 1)) l0_0 a0_1 a0_2 l0_3 l0_4 (y376 ++ [t381]) t371) else (none))) = some (r1, r2, r3, r4) := H
      have A18 := Aside0.mk A180
      clear A180
      replace H := Option.bind_eq_some_iff.mp H
      obtain ⟨t381, A190, H⟩ := H
      replace H : (if y376.length < 17592186044416 then (helioscopelaw07_Truly.l0 k1 l1 (wrap64 (x6_1 + 1)) l0_0 a0_1 a0_2 l0_3 l0_4 (y376 ++ [t381]) t371) else (none)) = some (r1, r2, r3, r4) := H
      have A19 := Aside0.mk A190
      clear A190
      by_cases c20 : y376.length < 17592186044416
      ·
       rw [if_pos c20] at H
       have LMc20 := Aside0.mk c20
       clear c20
       obtain ⟨y382, hy382⟩ : ∃ y_ : List Int, y_ = (y376 ++ [t381]) := ⟨_, rfl⟩
       replace H : (helioscopelaw07_Truly.l0 k1 l1 (wrap64 (x6_1 + 1)) l0_0 a0_1 a0_2 l0_3 l0_4 y382 t371) = some (r1, r2, r3, r4) := by first | (rw [hy382]; with_reducible exact H) | (have H2_ := (Option.bind_some _ _).symm.trans H; rw [hy382]; with_reducible exact H2_) | (have H2_ := (Option.bind_some _ _).symm.trans H; with_reducible exact H2_) | with_reducible exact H | (rw [hy382]; exact H) | exact H
       have Ny382 := Aside0.mk hy382
       clear hy382
       have H' := Aside0.mk H
       clear H
       have hnb21 := NB368_369.out
       have hnc21 := NB369_368.out
       have hnb22 := NB368_372.out
       have hnc22 := NB372_368.out
       have hcz23_0 := (blk_cell BK368.out 0).trans rfl
       have hcz23_1 := (blk_cell BK368.out 1).trans rfl
       have hcz23_2 := (blk_cell BK368.out 2).trans rfl
       have hcz23_3 := (blk_cell BK368.out 3).trans rfl
       have hcz23_4 := (blk_cell BK368.out 4).trans rfl
       have hfz23_0 := blk_frozen BK368.out 0
       have hfz23_1 := blk_frozen BK368.out 1
       have hfz23_2 := blk_frozen BK368.out 2
       have hfz23_3 := blk_frozen BK368.out 3
       have hfz23_4 := blk_frozen BK368.out 4
       try go_wp2
       have n0_ := Aside0.mk (Kd.R_drew HO_373000.out)
       have n1_ := Aside0.mk (blk_drew BK368.out)
       have n2_ := Aside0.mk (blk_drew BK369.out)
       have n3_ := Aside0.mk (blk_drew BK372.out)
       have n4_ := Aside0.mk (below_drew1 HB.out)
       clear HO_373000 BK368 BK369 BK372 HB
       have HO_373000 := n0_
       have BK368 := n1_
       have BK369 := n2_
       have BK372 := n3_
       have HB := n4_
       clear n0_ n1_ n2_ n3_ n4_
       have p379 : 0 ≤ (x6_1 : Int) := of_decide_eq_true (by first | (with_reducible assumption) | assumption)
       have q379 : x6_1 < (l0_0.length : Int) := of_decide_eq_true (by first | (with_reducible assumption) | assumption)
       obtain ⟨ad379, e379, hx379_0, hx379_1, hx379_2⟩ := at_T95 HR0_0.out x6_1 p379 q379
       have hw379_2 := hx379_2
       have hw379_1 := hx379_1
       have hw379_0 := hx379_0
       cases e379
       replace hx379_0 := (HB.out.cell (World.block_lt_of_cell? w _ hx379_0)).trans hx379_0
       replace hx379_1 := (HB.out.cell (World.block_lt_of_cell? w _ hx379_1)).trans hx379_1
       replace hx379_2 := (HB.out.cell (World.block_lt_of_cell? w _ hx379_2)).trans hx379_2
       replace p379 := eq_true p379
       replace q379 := eq_true q379
       refine start_ (n := 19) (S := fun w' => w'.cell? ⟨gb372, 0, none⟩ = some (u373000) ∧ w'.cell? ⟨gb372, 1, none⟩ = some (.int .i64 t371) ∧ w'.cell? ⟨gb372, 2, none⟩ = some (.slice none 0 0) ∧ w'.cell? ⟨gb372, 3, none⟩ = some (.slice none 0 0) ∧ w'.cell? ⟨gb368, 0, none⟩ = some (.slice (some ad379) l0_0.length c0_0) ∧ w'.cell? ⟨gb368, 1, none⟩ = some (.int .i64 a0_1) ∧ w'.cell? ⟨gb368, 2, none⟩ = some (.int .i64 a0_2) ∧ w'.cell? ⟨gb368, 3, none⟩ = some (.slice A0_3 l0_3.length c0_3) ∧ w'.cell? ⟨gb368, 4, none⟩ = some (.slice A0_4 l0_4.length c0_4) ∧ w'.cell? (ad379.add ((x6_1).toNat * 3)) = some (.string ((rd_T95 l0_0 x6_1).f0)) ∧ w'.cell? ⟨(ad379.add ((x6_1).toNat * 3)).block, (ad379.add ((x6_1).toNat * 3)).off + 1, none⟩ = some (.int .i64 ((rd_T95 l0_0 x6_1).f1.f0)) ∧ w'.cell? ⟨(ad379.add ((x6_1).toNat * 3)).block, (ad379.add ((x6_1).toNat * 3)).off + 2, none⟩ = some (.int .i64 ((rd_T95 l0_0 x6_1).f1.f1))) (ds := [18]) #[false, false, false, false, false, false, false, false, false, false, false, false, false, false, false, false, false, false, false] (by kernel_rfl) rfl rfl ⟨(blk_cell BK372.out 0).trans rfl, (blk_cell BK372.out 1).trans rfl, (blk_cell BK372.out 2).trans rfl, (blk_cell BK372.out 3).trans rfl, (blk_cell BK368.out 0).trans rfl, (blk_cell BK368.out 1).trans rfl, (blk_cell BK368.out 2).trans rfl, (blk_cell BK368.out 3).trans rfl, (blk_cell BK368.out 4).trans rfl, ((HB.out.cell (World.block_lt_of_cell? w _ hw379_0)).trans hw379_0), ((HB.out.cell (World.block_lt_of_cell? w _ hw379_1)).trans hw379_1), ((HB.out.cell (World.block_lt_of_cell? w _ hw379_2)).trans hw379_2)⟩ (fun hHeld => ?_); refine with_tabW helioscopelaw07_Truly.tab5 helioscopelaw07_Truly.bits5 (fun HT_ HW_ => ?_)
       generalize wr.drew = w24 at HO_373000 BK368 BK369 BK372 HB hx379_0 hx379_1 hx379_2 hHeld ⊢
       refine pureQ 1 22 HT_.out ?_
       refine pureQ 4 25 HT_.out ?_
       refine pureQ 6 27 HT_.out ?_
       refine pureQ 10 31 HT_.out ?_
       refine pureQ 11 32 HT_.out ?_
       refine pureQ 12 33 HT_.out ?_
       refine takeQ 2 23 HT_.out HW_.out hHeld ?_
       refine takeQ 5 26 HT_.out HW_.out hHeld ?_
       refine pureQ 7 28 HT_.out ?_
       refine pureQ 8 29 HT_.out ?_
       refine takeQ 9 30 HT_.out HW_.out hHeld ?_
       refine one_ (i := 0) (N := some 21) #[true, true, true, false, true, true, true, true, true, true, true, true, true, false, false, false, false, false, false] rfl rfl (one_of HT_.out (by kernel_rfl)) (by decide) (fun K hK => ?_)
       refine Kd.R_lit_step (Kd.int .i64) _ 3 ?hg (N := 21) ?hd (xs := ([] : List Int)) (inner := []) (ok := fun _ => True) (okp := fun _ => True) ?hr ?hp (fun _ hk => hk) trivial (Below.refl _ _) (Nat.le_refl _) (by simp) ?_; (case hd => rfl); (case hg => rfl); (case hr => first | (go_simp; done) | (go_simp; rfl)); (case hp => exact (Reps.none _ _))
       intro v374 w25 ho26 hb hg_ hnew_
       clear hg_ hnew_
       (first | rw [← Ny373.out] at ho26 | (simp only [Int.reduceToNat] at ho26; rw [← Ny373.out] at ho26))
       have n0_ := Aside0.mk (Kd.R_elder' (by (with_reducible repeat (first | apply Kd.R_alloc | apply Kd.R_drewN | apply Kd.R_drew)); exact HO_373000.out) (Kd.R_base ho26) hb)
       have n1_ := Aside0.mk (Kd.R_lower (Kd.R_new' ho26 (Kd.R_lt (by (with_reducible repeat (first | apply Kd.R_alloc | apply Kd.R_drewN | apply Kd.R_drew)); exact HO_373000.out))) (below_size (by repeat (first | (with_reducible first | exact HB.out | apply below_alloc | apply pw_below_drewN | apply below_drew1 | refine below_set ?_ GE368.out | refine below_set ?_ GE369.out | refine below_set ?_ GE372.out) | exact HB.out))))
       have n2_ := Aside0.mk (blk_below (g := gb368) (o := .cells #[.slice (some ad379) l0_0.length c0_0, .int .i64 a0_1, .int .i64 a0_2, .slice A0_3 l0_3.length c0_3, .slice A0_4 l0_4.length c0_4] 28 (0, 0)) (by (with_reducible repeat (first | refine blk_drewN ?_ _ | refine blk_drew ?_ | refine blk_alloc ?_ _)); exact BK368.out) hb)
       have n3_ := Aside0.mk (blk_below (g := gb369) (o := .cells #[.slice none 0 0, .int .i64 0, .slice none 0 0, .slice none 0 0] 56 (0, 0)) (by (with_reducible repeat (first | refine blk_drewN ?_ _ | refine blk_drew ?_ | refine blk_alloc ?_ _)); exact BK369.out) hb)
       have n4_ := Aside0.mk (blk_below (g := gb372) (o := .cells #[u373000, .int .i64 t371, .slice none 0 0, .slice none 0 0] 56 (0, 0)) (by (with_reducible repeat (first | refine blk_drewN ?_ _ | refine blk_drew ?_ | refine blk_alloc ?_ _)); exact BK372.out) hb)
       have n5_ := Aside0.mk (below_step (by repeat (first | (with_reducible first | exact HB.out | apply below_alloc | apply pw_below_drewN | apply below_drew1 | refine below_set ?_ GE368.out | refine below_set ?_ GE369.out | refine below_set ?_ GE372.out) | exact HB.out)) hb)
       clear HO_373000 BK368 BK369 BK372 HB
       have HO_373000 := n0_
       have HO375 := n1_
       have BK368 := n2_
       have BK369 := n3_
       have BK372 := n4_
       have HB := n5_
       clear n0_ n1_ n2_ n3_ n4_ n5_ hb ho26
       obtain ⟨Ao28, co28, eo28⟩ := Kd.R_slice HO_373000.out
       (first | subst eo28 | (injection eo28 with f1_ f2_ f3_; have f4_ := f1_.symm; have f5_ := f3_.symm; clear f1_ f2_ f3_; subst f4_; subst f5_))
       refine hK.out _ _ ⟨(blk_cell BK372.out 0).trans rfl, (blk_cell BK372.out 1).trans rfl, (blk_cell BK372.out 2).trans rfl, (blk_cell BK372.out 3).trans rfl, (blk_cell BK368.out 0).trans rfl, (blk_cell BK368.out 1).trans rfl, (blk_cell BK368.out 2).trans rfl, (blk_cell BK368.out 3).trans rfl, (blk_cell BK368.out 4).trans rfl, ((HB.out.cell (World.block_lt_of_cell? w _ hw379_0)).trans hw379_0), ((HB.out.cell (World.block_lt_of_cell? w _ hw379_1)).trans hw379_1), ((HB.out.cell (World.block_lt_of_cell? w _ hw379_2)).trans hw379_2)⟩ (fun hHeld => ?_)
       clear hK K
       refine norm_ (a' := ?_) ?_ ?_
       rotate_left
       ·
        show Act.put _ (some 21) _ = _
        simp only [Act.put, List.setIfInBounds_toArray, List.set_cons_zero, List.set_cons_succ, i64_w, i32_w]
        rfl
       refine one_ (i := 3) (N := some 24) #[true, true, true, true, true, true, true, true, true, true, true, true, true, false, false, false, false, false, false] rfl rfl (one_of HT_.out (by kernel_rfl)) (by decide) (fun K hK => ?_)
       refine Kd.R_append_rows_step (Kd.int .i64) (w0 := w) w.heap.size (by rfl) (.tmp 21) (.tmp 23) 39 3 (.int .i64 0) 8 rfl Try.underlying39 info3 rfl (by decide) (by omega) v374 y373 x373000_1 _ _ _ (fun k_ => some k_ ≠ (.slice Ao28 x373000_1.length co28 : Value).ownBlock) (fun _ => False) rfl rfl ?aO ?aR (fun _ _ h => h) (fun _ h => h.elim) ?aF ?aB ?aS ?aL ?_
       (case aR => repeat (first | exact (Kd.R_reads' HO_373000.out).2.2 | (with_reducible refine Kd.C_alloc ?_ _) | (with_reducible refine Kd.C_drewN ?_ _) | (with_reducible refine Kd.C_drew ?_)))
       (case aB => exact (by repeat (first | (with_reducible first | exact HB.out | apply below_alloc | apply pw_below_drewN | apply below_drew1 | refine below_set ?_ GE368.out | refine below_set ?_ GE369.out | refine below_set ?_ GE372.out) | exact HB.out)))
       (case aF => exact (fun k_ hk => Kd.fresh' (Kd.R_lt (by (with_reducible repeat (first | apply Kd.R_alloc | apply Kd.R_drewN | apply Kd.R_drew)); exact HO_373000.out)) k_ hk))
       (case aO => exact (by (with_reducible repeat (first | apply Kd.R_alloc | apply Kd.R_drewN | apply Kd.R_drew)); exact Kd.R_mono HO375.out (fun _ hk => hk.2)))
       (case aS => exact (below_size (by repeat (first | (with_reducible first | exact HB.out | apply below_alloc | apply pw_below_drewN | apply below_drew1 | refine below_set ?_ GE368.out | refine below_set ?_ GE369.out | refine below_set ?_ GE372.out) | exact HB.out))))
       (case aL => have := LMc16.out; omega)
       intro v377 w27 ho hb hg hat
       rw [← Ny376.out] at ho
       have n0_ := Aside0.mk (Kd.R_after (ok := (fun _ => True)) (by (with_reducible repeat (first | apply Kd.R_alloc | apply Kd.R_drewN | apply Kd.R_drew)); exact HO_373000.out) hg hat)
       have n1_ := Aside0.mk (blk_grown (g := gb368) (o := .cells #[.slice (some ad379) l0_0.length c0_0, .int .i64 a0_1, .int .i64 a0_2, .slice A0_3 l0_3.length c0_3, .slice A0_4 l0_4.length c0_4] 28 (0, 0)) (by (with_reducible repeat (first | refine blk_drewN ?_ _ | refine blk_drew ?_ | refine blk_alloc ?_ _)); exact BK368.out) hg (Kd.R_ne HO375.out BK368.out (by decide)))
       have n2_ := Aside0.mk (blk_grown (g := gb369) (o := .cells #[.slice none 0 0, .int .i64 0, .slice none 0 0, .slice none 0 0] 56 (0, 0)) (by (with_reducible repeat (first | refine blk_drewN ?_ _ | refine blk_drew ?_ | refine blk_alloc ?_ _)); exact BK369.out) hg (Kd.R_ne HO375.out BK369.out (by decide)))
       have n3_ := Aside0.mk (blk_grown (g := gb372) (o := .cells #[.slice Ao28 x373000_1.length co28, .int .i64 t371, .slice none 0 0, .slice none 0 0] 56 (0, 0)) (by (with_reducible repeat (first | refine blk_drewN ?_ _ | refine blk_drew ?_ | refine blk_alloc ?_ _)); exact BK372.out) hg (Kd.R_ne HO375.out BK372.out (by decide)))
       have n4_ := Aside0.mk (hb)
       have n5_ := Aside0.mk (ho)
       clear HO_373000 BK368 BK369 BK372 HB HO375
       have HO_373000 := n0_
       have BK368 := n1_
       have BK369 := n2_
       have BK372 := n3_
       have HB := n4_
       have HO378 := n5_
       clear n0_ n1_ n2_ n3_ n4_ n5_ ho hb hg hat
       refine hK.out _ _ ⟨(blk_cell BK372.out 0).trans rfl, (blk_cell BK372.out 1).trans rfl, (blk_cell BK372.out 2).trans rfl, (blk_cell BK372.out 3).trans rfl, (blk_cell BK368.out 0).trans rfl, (blk_cell BK368.out 1).trans rfl, (blk_cell BK368.out 2).trans rfl, (blk_cell BK368.out 3).trans rfl, (blk_cell BK368.out 4).trans rfl, ((HB.out.cell (World.block_lt_of_cell? w _ hw379_0)).trans hw379_0), ((HB.out.cell (World.block_lt_of_cell? w _ hw379_1)).trans hw379_1), ((HB.out.cell (World.block_lt_of_cell? w _ hw379_2)).trans hw379_2)⟩ (fun hHeld => ?_)
       clear hK K
       refine norm_ (a' := ?_) ?_ ?_
       rotate_left
       ·
        show Act.put _ (some 24) _ = _
        simp only [Act.put, List.setIfInBounds_toArray, List.set_cons_zero, List.set_cons_succ, i64_w, i32_w]
        rfl
       refine one_ (i := 13) (N := some 34) #[true, true, true, true, true, true, true, true, true, true, true, true, true, true, false, false, false, false, false] rfl rfl (one_of HT_.out (by kernel_rfl)) (by decide) (fun K hK => ?_)
       refine goes_ Try.func112 (by kernel_rfl) rfl #[.slice A1 l1.length c1, .int .i64 (wrap64 (1 + x6_1))] (by rfl) rfl rfl (by (try simp only [List.map_toArray, List.map_cons, List.map_nil]); first | done | rfl | (simp only [List.length_drop, List.length_take]; rfl)) ?_
       with_reducible refine (helioscopelaw07_turn.calls _ _ l1 (wrap64 (1 + x6_1)) t380 _ ?side1 ?side2 A18.out).mono ?_
       (case side1 => repeat (first | exact (Kd.C_below HR1.out HB.out) | (with_reducible refine Kd.C_alloc ?_ _) | (with_reducible refine Kd.C_drewN ?_ _) | (with_reducible refine Kd.C_drew ?_)))
       (case side2 => exact HC1.out)
       rintro e w' ⟨rfl, ⟨nd, rfl⟩⟩
       refine ⟨_, rfl, ?_⟩
       refine hK.out _ _ ⟨(blk_cell BK372.out 0).trans rfl, (blk_cell BK372.out 1).trans rfl, (blk_cell BK372.out 2).trans rfl, (blk_cell BK372.out 3).trans rfl, (blk_cell BK368.out 0).trans rfl, (blk_cell BK368.out 1).trans rfl, (blk_cell BK368.out 2).trans rfl, (blk_cell BK368.out 3).trans rfl, (blk_cell BK368.out 4).trans rfl, ((HB.out.cell (World.block_lt_of_cell? w _ hw379_0)).trans hw379_0), ((HB.out.cell (World.block_lt_of_cell? w _ hw379_1)).trans hw379_1), ((HB.out.cell (World.block_lt_of_cell? w _ hw379_2)).trans hw379_2)⟩ (fun hHeld => ?_)
       clear hK K
       refine norm_ (a' := ?_) ?_ ?_
       rotate_left
       ·
        show Act.put _ (some 34) _ = _
        simp only [Act.put, List.setIfInBounds_toArray, List.set_cons_zero, List.set_cons_succ, i64_w, i32_w]
        rfl
       refine one_ (i := 14) (N := some 35) #[true, true, true, true, true, true, true, true, true, true, true, true, true, true, true, false, false, false, false] rfl rfl (one_of HT_.out (by kernel_rfl)) (by decide) (fun K hK => ?_)
       refine goes_ Try.func134 (by kernel_rfl) rfl #[.agg #[.int .i64 ((rd_T95 l0_0 x6_1).f1.f0), .int .i64 ((rd_T95 l0_0 x6_1).f1.f1)], .int .i64 t380] (by rfl) rfl rfl (by (try simp only [List.map_toArray, List.map_cons, List.map_nil]); first | done | rfl | (simp only [List.length_drop, List.length_take]; rfl)) ?_
       with_reducible refine (helioscopelaw07_one.calls ((rd_T95 l0_0 x6_1).f1.f0) ((rd_T95 l0_0 x6_1).f1.f1) t380 t381 _ A19.out).mono ?_
       rintro e w29 ⟨rfl, hb⟩
       refine ⟨_, rfl, ?_⟩
       have n0_ := Aside0.mk (Kd.R_below (by (with_reducible repeat (first | apply Kd.R_alloc | apply Kd.R_drewN | apply Kd.R_drew)); exact HO_373000.out) hb)
       have n1_ := Aside0.mk (Kd.R_below (by (with_reducible repeat (first | apply Kd.R_alloc | apply Kd.R_drewN | apply Kd.R_drew)); exact HO378.out) hb)
       have n2_ := Aside0.mk (blk_below (g := gb368) (o := .cells #[.slice (some ad379) l0_0.length c0_0, .int .i64 a0_1, .int .i64 a0_2, .slice A0_3 l0_3.length c0_3, .slice A0_4 l0_4.length c0_4] 28 (0, 0)) (by (with_reducible repeat (first | refine blk_drewN ?_ _ | refine blk_drew ?_ | refine blk_alloc ?_ _)); exact BK368.out) hb)
       have n3_ := Aside0.mk (blk_below (g := gb369) (o := .cells #[.slice none 0 0, .int .i64 0, .slice none 0 0, .slice none 0 0] 56 (0, 0)) (by (with_reducible repeat (first | refine blk_drewN ?_ _ | refine blk_drew ?_ | refine blk_alloc ?_ _)); exact BK369.out) hb)
       have n4_ := Aside0.mk (blk_below (g := gb372) (o := .cells #[.slice Ao28 x373000_1.length co28, .int .i64 t371, .slice none 0 0, .slice none 0 0] 56 (0, 0)) (by (with_reducible repeat (first | refine blk_drewN ?_ _ | refine blk_drew ?_ | refine blk_alloc ?_ _)); exact BK372.out) hb)
       have n5_ := Aside0.mk (below_step (by repeat (first | (with_reducible first | exact HB.out | apply below_alloc | apply pw_below_drewN | apply below_drew1 | refine below_set ?_ GE368.out | refine below_set ?_ GE369.out | refine below_set ?_ GE372.out) | exact HB.out)) hb)
       clear HO_373000 HO378 BK368 BK369 BK372 HB
       have HO_373000 := n0_
       have HO378 := n1_
       have BK368 := n2_
       have BK369 := n3_
       have BK372 := n4_
       have HB := n5_
       clear n0_ n1_ n2_ n3_ n4_ n5_
       (try clear hb)
       (try clear hb2)
       (try clear hk)
       (try clear hi)
       refine hK.out _ _ ⟨(blk_cell BK372.out 0).trans rfl, (blk_cell BK372.out 1).trans rfl, (blk_cell BK372.out 2).trans rfl, (blk_cell BK372.out 3).trans rfl, (blk_cell BK368.out 0).trans rfl, (blk_cell BK368.out 1).trans rfl, (blk_cell BK368.out 2).trans rfl, (blk_cell BK368.out 3).trans rfl, (blk_cell BK368.out 4).trans rfl, ((HB.out.cell (World.block_lt_of_cell? w _ hw379_0)).trans hw379_0), ((HB.out.cell (World.block_lt_of_cell? w _ hw379_1)).trans hw379_1), ((HB.out.cell (World.block_lt_of_cell? w _ hw379_2)).trans hw379_2)⟩ (fun hHeld => ?_)
       clear hK K
       refine norm_ (a' := ?_) ?_ ?_
       rotate_left
       ·
        show Act.put _ (some 35) _ = _
        simp only [Act.put, List.setIfInBounds_toArray, List.set_cons_zero, List.set_cons_succ, i64_w, i32_w]
        rfl
       refine one_ (i := 15) (N := some 36) #[true, true, true, true, true, true, true, true, true, true, true, true, true, true, true, true, false, false, false] rfl rfl (one_of HT_.out (by kernel_rfl)) (by decide) (fun K hK => ?_)
       refine value_ (w1 := ?_) (v := ?_) (by rfl) rfl ?_ ?_
       rotate_left 2
       ·
        go_simp
        constructor
        ·
         rfl
        ·
         rfl
       refine hK.out _ _ ⟨(blk_cell (blk_alloc BK372.out _) 0).trans rfl, (blk_cell (blk_alloc BK372.out _) 1).trans rfl, (blk_cell (blk_alloc BK372.out _) 2).trans rfl, (blk_cell (blk_alloc BK372.out _) 3).trans rfl, (blk_cell (blk_alloc BK368.out _) 0).trans rfl, (blk_cell (blk_alloc BK368.out _) 1).trans rfl, (blk_cell (blk_alloc BK368.out _) 2).trans rfl, (blk_cell (blk_alloc BK368.out _) 3).trans rfl, (blk_cell (blk_alloc BK368.out _) 4).trans rfl, (World.cell?_alloc_lt _ _ _ (World.block_lt_of_cell? _ _ (((HB.out.cell (World.block_lt_of_cell? w _ hw379_0)).trans hw379_0)))).trans (((HB.out.cell (World.block_lt_of_cell? w _ hw379_0)).trans hw379_0)), (World.cell?_alloc_lt _ _ _ (World.block_lt_of_cell? _ _ (((HB.out.cell (World.block_lt_of_cell? w _ hw379_1)).trans hw379_1)))).trans (((HB.out.cell (World.block_lt_of_cell? w _ hw379_1)).trans hw379_1)), (World.cell?_alloc_lt _ _ _ (World.block_lt_of_cell? _ _ (((HB.out.cell (World.block_lt_of_cell? w _ hw379_2)).trans hw379_2)))).trans (((HB.out.cell (World.block_lt_of_cell? w _ hw379_2)).trans hw379_2))⟩ (fun hHeld => ?_)
       clear hK K
       refine norm_ (a' := ?_) ?_ ?_
       rotate_left
       ·
        show Act.put _ (some 36) _ = _
        simp only [Act.put, List.setIfInBounds_toArray, List.set_cons_zero, List.set_cons_succ, i64_w, i32_w]
        rfl
       refine one_ (i := 16) (N := some 37) #[true, true, true, true, true, true, true, true, true, true, true, true, true, true, true, true, true, false, false] rfl rfl (one_of HT_.out (by kernel_rfl)) (by decide) (fun K hK => ?_)
       refine Kd.R_append_step (Kd.int .i64) (w0 := w) w.heap.size (by rfl) (.tmp 24) (.tmp 36) 39 3 (.int .i64 0) 8 rfl Try.underlying39 info3 rfl (by decide) (by omega) v377 y376 t381 [.int .i64 t381] (fun k_ => some k_ ≠ (.slice Ao28 x373000_1.length co28 : Value).ownBlock) (fun _ => False) rfl rfl ?aP (fun _ hk => hk.elim) ?aF ?aO ?aB ?aS ?aL ?_
       (case aP => exact rfl)
       (case aB => exact (by repeat (first | (with_reducible first | exact HB.out | apply below_alloc | apply pw_below_drewN | apply below_drew1 | refine below_set ?_ GE368.out | refine below_set ?_ GE369.out | refine below_set ?_ GE372.out) | exact HB.out)))
       (case aF => exact (fun k_ hk => Kd.fresh' (Kd.R_lt (by (with_reducible repeat (first | apply Kd.R_alloc | apply Kd.R_drewN | apply Kd.R_drew)); exact HO_373000.out)) k_ hk))
       (case aO => exact (by (with_reducible repeat (first | apply Kd.R_alloc | apply Kd.R_drewN | apply Kd.R_drew)); exact HO378.out))
       (case aS => exact (below_size (by repeat (first | (with_reducible first | exact HB.out | apply below_alloc | apply pw_below_drewN | apply below_drew1 | refine below_set ?_ GE368.out | refine below_set ?_ GE369.out | refine below_set ?_ GE372.out) | exact HB.out))))
       (case aL => have := LMc20.out; omega)
       intro v383 w30 ho hb hg hat
       rw [← Ny382.out] at ho
       have n0_ := Aside0.mk (Kd.R_after (ok := (fun _ => True)) (by (with_reducible repeat (first | apply Kd.R_alloc | apply Kd.R_drewN | apply Kd.R_drew)); exact HO_373000.out) hg hat)
       have n1_ := Aside0.mk (blk_grown (g := gb368) (o := .cells #[.slice (some ad379) l0_0.length c0_0, .int .i64 a0_1, .int .i64 a0_2, .slice A0_3 l0_3.length c0_3, .slice A0_4 l0_4.length c0_4] 28 (0, 0)) (by (with_reducible repeat (first | refine blk_drewN ?_ _ | refine blk_drew ?_ | refine blk_alloc ?_ _)); exact BK368.out) hg (Kd.R_ne HO378.out BK368.out (by decide)))
       have n2_ := Aside0.mk (blk_grown (g := gb369) (o := .cells #[.slice none 0 0, .int .i64 0, .slice none 0 0, .slice none 0 0] 56 (0, 0)) (by (with_reducible repeat (first | refine blk_drewN ?_ _ | refine blk_drew ?_ | refine blk_alloc ?_ _)); exact BK369.out) hg (Kd.R_ne HO378.out BK369.out (by decide)))
       have n3_ := Aside0.mk (blk_grown (g := gb372) (o := .cells #[.slice Ao28 x373000_1.length co28, .int .i64 t371, .slice none 0 0, .slice none 0 0] 56 (0, 0)) (by (with_reducible repeat (first | refine blk_drewN ?_ _ | refine blk_drew ?_ | refine blk_alloc ?_ _)); exact BK372.out) hg (Kd.R_ne HO378.out BK372.out (by decide)))
       have n4_ := Aside0.mk (hb)
       have n5_ := Aside0.mk (ho)
       clear HO_373000 BK368 BK369 BK372 HB HO378
       have HO_373000 := n0_
       have BK368 := n1_
       have BK369 := n2_
       have BK372 := n3_
       have HB := n4_
       have HO384 := n5_
       clear n0_ n1_ n2_ n3_ n4_ n5_ ho hb hg hat
       obtain ⟨Ao31, co31, eo31⟩ := Kd.R_slice HO384.out
       (first | subst eo31 | (injection eo31 with f1_ f2_ f3_; have f4_ := f1_.symm; have f5_ := f3_.symm; clear f1_ f2_ f3_; subst f4_; subst f5_))
       refine hK.out _ _ ⟨(blk_cell BK372.out 0).trans rfl, (blk_cell BK372.out 1).trans rfl, (blk_cell BK372.out 2).trans rfl, (blk_cell BK372.out 3).trans rfl, (blk_cell BK368.out 0).trans rfl, (blk_cell BK368.out 1).trans rfl, (blk_cell BK368.out 2).trans rfl, (blk_cell BK368.out 3).trans rfl, (blk_cell BK368.out 4).trans rfl, ((HB.out.cell (World.block_lt_of_cell? w _ hw379_0)).trans hw379_0), ((HB.out.cell (World.block_lt_of_cell? w _ hw379_1)).trans hw379_1), ((HB.out.cell (World.block_lt_of_cell? w _ hw379_2)).trans hw379_2)⟩ (fun hHeld => ?_)
       clear hK K
       refine norm_ (a' := ?_) ?_ ?_
       rotate_left
       ·
        show Act.put _ (some 37) _ = _
        simp only [Act.put, List.setIfInBounds_toArray, List.set_cons_zero, List.set_cons_succ, i64_w, i32_w]
        rfl
       refine pureQ 17 38 HT_.out ?_
       refine last_ (i := 18) (N := none) #[true, true, true, true, true, true, true, true, true, true, true, true, true, true, true, true, true, true, true] rfl rfl (one_of HT_.out (by kernel_rfl)) (by decide) (fun K hK => ?_)
       have hs32 := (blk_cell BK372.out 0).trans rfl
       have hfs32 := blk_frozen BK372.out 0
       have hns32_0 := NB368_372.out
       have hns32_1 := NB369_372.out
       have hms32_0 := NB372_368.out
       have hms32_1 := NB372_369.out
       refine skip_ (w1 := ?_) (by rfl) rfl ?_ ?_
       rotate_left
       ·
        go_simp
        rfl
       refine hK.out _ _ ?_
       clear hK K
       refine done_ (done_of HT_.out (by kernel_rfl)) ?_
       try go_wp2
       go_roundg k1
       case measure => have := HK1.out; omega
       case rel => exact ⟨(wrap64 (x6_1 + 1)), (y382), (.slice Ao31 y382.length co31), (by first | rfl | (simp; done) | (simp [*]; done)), H', ⟨by have := HK1.out; omega⟩, ⟨by (with_reducible repeat (first | apply Kd.R_alloc | apply Kd.R_drewN | apply Kd.R_drew)); exact Kd.R_mono (Kd.R_far (p := ⟨gb372, 0, none⟩) (Kd.R_types HO384.out BK372.out (by decide)) (fun _ hk => hk.2) (.slice Ao31 y382.length co31)) (fun _ hk => trivial)⟩, ⟨by (with_reducible repeat (first | refine blk_drewN ?_ _ | refine blk_drew ?_ | refine blk_alloc ?_ _)); refine blk_far ?_ NB368_372.out _; (with_reducible repeat (first | refine blk_drewN ?_ _ | refine blk_drew ?_ | refine blk_alloc ?_ _)); exact BK368.out⟩, ⟨by (with_reducible repeat (first | refine blk_drewN ?_ _ | refine blk_drew ?_ | refine blk_alloc ?_ _)); refine blk_far ?_ NB369_372.out _; (with_reducible repeat (first | refine blk_drewN ?_ _ | refine blk_drew ?_ | refine blk_alloc ?_ _)); exact BK369.out⟩, ⟨by (with_reducible repeat (first | refine blk_drewN ?_ _ | refine blk_drew ?_ | refine blk_alloc ?_ _)); refine blk_put (cs := #[.slice Ao28 x373000_1.length co28, .int .i64 t371, .slice none 0 0, .slice none 0 0]) ?_ 0 _ rfl; (with_reducible repeat (first | refine blk_drewN ?_ _ | refine blk_drew ?_ | refine blk_alloc ?_ _)); exact BK372.out⟩, ⟨by repeat (first | (with_reducible first | exact HB.out | apply below_alloc | apply pw_below_drewN | apply below_drew1 | refine below_set ?_ GE368.out | refine below_set ?_ GE369.out | refine below_set ?_ GE372.out) | exact HB.out)⟩⟩
      ·
       rw [if_neg c20] at H
       exact absurd H (by simp)
     ·
      rw [if_neg c17] at H
      exact absurd H (by simp)
    ·
     rw [if_neg c16] at H
     exact absurd H (by simp)
   ·
    rw [if_neg c15] at H
    have c15b0 : decide (x6_1 < (l0_0.length : Int)) = false := decide_eq_false c15
    clear c15
    have H' := Aside0.mk H
    clear H
    have hnb33 := NB368_369.out
    have hnc33 := NB369_368.out
    have hnb34 := NB368_372.out
    have hnc34 := NB372_368.out
    have hcz35_0 := (blk_cell BK368.out 0).trans rfl
    have hcz35_1 := (blk_cell BK368.out 1).trans rfl
    have hcz35_2 := (blk_cell BK368.out 2).trans rfl
    have hcz35_3 := (blk_cell BK368.out 3).trans rfl
    have hcz35_4 := (blk_cell BK368.out 4).trans rfl
    have hfz35_0 := blk_frozen BK368.out 0
    have hfz35_1 := blk_frozen BK368.out 1
    have hfz35_2 := blk_frozen BK368.out 2
    have hfz35_3 := blk_frozen BK368.out 3
    have hfz35_4 := blk_frozen BK368.out 4
    go_wp2
    go_loopg [7] k1 (fun kq v7 w' => ∃ (x7_2 : Int) (x373002_2 : List Int) (u373002 : Value), v7 = .int .i64 x7_2 ∧ Aside0 (helioscopelaw07_Truly.l1 kq l1 x7_2 l0_0 a0_1 a0_2 l0_3 l0_4 x373000_1 t371 x373002_2 = some (r1, r2, r3, r4)) ∧ Aside0 (kq ≤ k1) ∧ Aside0 (Kd.R (Kd.int .i64) 3 w' w.heap.size (fun k_ => some k_ ≠ (u373002 : Value).ownBlock) u373000 x373000_1) ∧ Aside0 (Kd.R (Kd.int .i64) 3 w' w.heap.size (fun k_ => some k_ ≠ (u373000 : Value).ownBlock) u373002 x373002_2) ∧ Aside0 (w'.heap[gb368]? = some (.cells #[(.slice A0_0 l0_0.length c0_0), .int .i64 a0_1, .int .i64 a0_2, (.slice A0_3 l0_3.length c0_3), (.slice A0_4 l0_4.length c0_4)] 28 (0, 0))) ∧ Aside0 (w'.heap[gb369]? = some (.cells #[(.slice none 0 0), .int .i64 0, (.slice none 0 0), (.slice none 0 0)] 56 (0, 0))) ∧ Aside0 (w'.heap[gb372]? = some (.cells #[u373000, .int .i64 t371, u373002, (.slice none 0 0)] 56 (0, 0))) ∧ Aside0 (Below w.heap.size w w'))
    case atStart => exact ⟨(0), (([] : List Int)), (.slice none 0 0), (by first | rfl | (simp; done) | (simp [*]; done)), H', ⟨Nat.le_refl _⟩, ⟨by (with_reducible repeat (first | apply Kd.R_alloc | apply Kd.R_drewN | apply Kd.R_drew)); exact Kd.R_mono HO_373000.out (fun _ hk => (by simp [Value.ownBlock]))⟩, ⟨by first | exact Kd.R_nil _ _ _ _ _ | exact Kd.N_nil _ _ _ _ _ | exact Kd.V_nil _ _ _ _ _ | exact Kd.Q_nil _ _ _ _ _ | exact Kd.S_nil _ _ _ _ _⟩, ⟨by (with_reducible repeat (first | refine blk_drewN ?_ _ | refine blk_drew ?_ | refine blk_alloc ?_ _)); exact BK368.out⟩, ⟨by (with_reducible repeat (first | refine blk_drewN ?_ _ | refine blk_drew ?_ | refine blk_alloc ?_ _)); exact BK369.out⟩, ⟨by (with_reducible repeat (first | refine blk_drewN ?_ _ | refine blk_drew ?_ | refine blk_alloc ?_ _)); exact BK372.out⟩, ⟨by repeat (first | (with_reducible first | exact HB.out | apply below_alloc | apply pw_below_drewN | apply below_drew1 | refine below_set ?_ GE368.out | refine below_set ?_ GE369.out | refine below_set ?_ GE372.out) | exact HB.out)⟩⟩
    case round =>
     clear H'
     try clear c1
     try clear c2
     try clear p2
     try clear c3
     try clear p3
     try clear q3
     try clear hx3
     try clear p6
     try clear c11
     try clear c13
     try clear c15
     try clear c15b0
     try clear c16
     try clear c17
     try clear c17b0
     try clear c20
     try clear c21
     try clear c22
     try clear c33
     try clear c34
     try clear hcz23_0
     try clear hcz23_1
     try clear hcz23_2
     try clear hcz23_3
     try clear hcz23_4
     try clear hcz35_0
     try clear hcz35_1
     try clear hcz35_2
     try clear hcz35_3
     try clear hcz35_4
     try clear hfz23_0
     try clear hfz23_1
     try clear hfz23_2
     try clear hfz23_3
     try clear hfz23_4
     try clear hfz35_0
     try clear hfz35_1
     try clear hfz35_2
     try clear hfz35_3
     try clear hfz35_4
     try clear hx379_0
     try clear hx379_1
     try clear hx379_2
     try clear p2
     try clear p379
     try clear q379
     obtain ⟨x7_2, x373002_2, u373002, rfl, HA, HK2, HO_373000, HO_373002, BK368, BK369, BK372, HB⟩ := hrel
     cases gk with
     | zero => exact absurd HA.out (by simp [helioscopelaw07_Truly.l1])
     | succ k2 =>
      have H := HA.out
      clear HA
      simp only [helioscopelaw07_Truly.l1] at H
      by_cases c36 : x7_2 < (l0_3.length : Int)
      ·
       rw [if_pos c36] at H
       have c36b0 : decide (x7_2 < (l0_3.length : Int)) = true := decide_eq_true c36
       clear c36
       obtain ⟨y385, hy385⟩ : ∃ y_ : List Int, y_ = (([] : List Int)) := ⟨_, rfl⟩
       replace H : (if y385.length + x373002_2.length < 17592186044416 then ((some (y385 ++ x373002_2 : List Int)).bind fun y388 => (if 0 ≤ x7_2 then ((helioscopelaw07_turn.f l1 (wrap64 (4 + x7_2))).bind fun t392 => ((helioscopelaw07_one.f ((rd_T24 l0_3 x7_2).f0) ((rd_T24 l0_3 x7_2).f1) t392).bind fun t393 => (if y388.length < 17592186044416 then (helioscopelaw07_Truly.l1 k2 l1 (wrap64 (x7_2 + 1)) l0_0 a0_1 a0_2 l0_3 l0_4 x373000_1 t371 (y388 ++ [t393])) else (none)))) else (none))) else (none)) = some (r1, r2, r3, r4) := by first | (rw [hy385]; with_reducible exact H) | (have H2_ := (Option.bind_some _ _).symm.trans H; rw [hy385]; with_reducible exact H2_) | (have H2_ := (Option.bind_some _ _).symm.trans H; with_reducible exact H2_) | with_reducible exact H | (rw [hy385]; exact H) | exact H
       have Ny385 := Aside0.mk hy385
       clear hy385
       by_cases c37 : y385.length + x373002_2.length < 17592186044416
       ·
        rw [if_pos c37] at H
        have LMc37 := Aside0.mk c37
        clear c37
        obtain ⟨y388, hy388⟩ : ∃ y_ : List Int, y_ = (y385 ++ x373002_2) := ⟨_, rfl⟩
        replace H : (if 0 ≤ x7_2 then ((helioscopelaw07_turn.f l1 (wrap64 (4 + x7_2))).bind fun t392 => ((helioscopelaw07_one.f ((rd_T24 l0_3 x7_2).f0) ((rd_T24 l0_3 x7_2).f1) t392).bind fun t393 => (if y388.length < 17592186044416 then (helioscopelaw07_Truly.l1 k2 l1 (wrap64 (x7_2 + 1)) l0_0 a0_1 a0_2 l0_3 l0_4 x373000_1 t371 (y388 ++ [t393])) else (none)))) else (none)) = some (r1, r2, r3, r4) := by first | (rw [hy388]; with_reducible exact H) | (have H2_ := (Option.bind_some _ _).symm.trans H; rw [hy388]; with_reducible exact H2_) | (have H2_ := (Option.bind_some _ _).symm.trans H; with_reducible exact H2_) | with_reducible exact H | (rw [hy388]; exact H) | exact H
        have Ny388 := Aside0.mk hy388
        clear hy388
        by_cases c38 : 0 ≤ x7_2
        ·
         rw [if_pos c38] at H
         have c38b0 : decide (0 ≤ x7_2) = true := decide_eq_true c38
         clear c38
         replace H := Option.bind_eq_some_iff.mp H
         obtain ⟨t392, A390, H⟩ := H
         replace H : ((helioscopelaw07_one.f ((rd_T24 l0_3 x7_2).f0) ((rd_T24 l0_3 x7_2).f1) t392).bind fun t393 => (if y388.length < 17592186044416 then (helioscopelaw07_Truly.l1 k2 l1 (wrap64 (x7_2 + 1)) l0_0 a0_1 a0_2 l0_3 l0_4 x373000_1 t371 (y388 ++ [t393])) else (none))) = some (r1, r2, r3, r4) := H
         have A39 := Aside0.mk A390
         clear A390
         replace H := Option.bind_eq_some_iff.mp H
         obtain ⟨t393, A400, H⟩ := H
         replace H : (if y388.length < 17592186044416 then (helioscopelaw07_Truly.l1 k2 l1 (wrap64 (x7_2 + 1)) l0_0 a0_1 a0_2 l0_3 l0_4 x373000_1 t371 (y388 ++ [t393])) else (none)) = some (r1, r2, r3, r4) := H
         have A40 := Aside0.mk A400
         clear A400
         by_cases c41 : y388.length < 17592186044416
         ·
          rw [if_pos c41] at H
          have LMc41 := Aside0.mk c41
          clear c41
          obtain ⟨y394, hy394⟩ : ∃ y_ : List Int, y_ = (y388 ++ [t393]) := ⟨_, rfl⟩
          replace H : (helioscopelaw07_Truly.l1 k2 l1 (wrap64 (x7_2 + 1)) l0_0 a0_1 a0_2 l0_3 l0_4 x373000_1 t371 y394) = some (r1, r2, r3, r4) := by first | (rw [hy394]; with_reducible exact H) | (have H2_ := (Option.bind_some _ _).symm.trans H; rw [hy394]; with_reducible exact H2_) | (have H2_ := (Option.bind_some _ _).symm.trans H; with_reducible exact H2_) | with_reducible exact H | (rw [hy394]; exact H) | exact H
          have Ny394 := Aside0.mk hy394
          clear hy394
          have H' := Aside0.mk H
          clear H
          have hnb42 := NB368_369.out
          have hnc42 := NB369_368.out
          have hnb43 := NB368_372.out
          have hnc43 := NB372_368.out
          have hcz44_0 := (blk_cell BK368.out 0).trans rfl
          have hcz44_1 := (blk_cell BK368.out 1).trans rfl
          have hcz44_2 := (blk_cell BK368.out 2).trans rfl
          have hcz44_3 := (blk_cell BK368.out 3).trans rfl
          have hcz44_4 := (blk_cell BK368.out 4).trans rfl
          have hfz44_0 := blk_frozen BK368.out 0
          have hfz44_1 := blk_frozen BK368.out 1
          have hfz44_2 := blk_frozen BK368.out 2
          have hfz44_3 := blk_frozen BK368.out 3
          have hfz44_4 := blk_frozen BK368.out 4
          try go_wp2
          have n0_ := Aside0.mk (Kd.R_drew HO_373000.out)
          have n1_ := Aside0.mk (Kd.R_drew HO_373002.out)
          have n2_ := Aside0.mk (blk_drew BK368.out)
          have n3_ := Aside0.mk (blk_drew BK369.out)
          have n4_ := Aside0.mk (blk_drew BK372.out)
          have n5_ := Aside0.mk (below_drew1 HB.out)
          clear HO_373000 HO_373002 BK368 BK369 BK372 HB
          have HO_373000 := n0_
          have HO_373002 := n1_
          have BK368 := n2_
          have BK369 := n3_
          have BK372 := n4_
          have HB := n5_
          clear n0_ n1_ n2_ n3_ n4_ n5_
          have p391 : 0 ≤ (x7_2 : Int) := of_decide_eq_true (by first | (with_reducible assumption) | assumption)
          have q391 : x7_2 < (l0_3.length : Int) := of_decide_eq_true (by first | (with_reducible assumption) | assumption)
          obtain ⟨ad391, e391, hx391_0, hx391_1⟩ := at_T24 HR0_3.out x7_2 p391 q391
          have hw391_1 := hx391_1
          have hw391_0 := hx391_0
          cases e391
          replace hx391_0 := (HB.out.cell (World.block_lt_of_cell? w _ hx391_0)).trans hx391_0
          replace hx391_1 := (HB.out.cell (World.block_lt_of_cell? w _ hx391_1)).trans hx391_1
          replace p391 := eq_true p391
          replace q391 := eq_true q391
          refine start_ (n := 18) (S := fun w' => w'.cell? ⟨gb372, 0, none⟩ = some (u373000) ∧ w'.cell? ⟨gb372, 1, none⟩ = some (.int .i64 t371) ∧ w'.cell? ⟨gb372, 2, none⟩ = some (u373002) ∧ w'.cell? ⟨gb372, 3, none⟩ = some (.slice none 0 0) ∧ w'.cell? ⟨gb368, 0, none⟩ = some (.slice A0_0 l0_0.length c0_0) ∧ w'.cell? ⟨gb368, 1, none⟩ = some (.int .i64 a0_1) ∧ w'.cell? ⟨gb368, 2, none⟩ = some (.int .i64 a0_2) ∧ w'.cell? ⟨gb368, 3, none⟩ = some (.slice (some ad391) l0_3.length c0_3) ∧ w'.cell? ⟨gb368, 4, none⟩ = some (.slice A0_4 l0_4.length c0_4) ∧ w'.cell? (ad391.add ((x7_2).toNat * 2)) = some (.int .i64 ((rd_T24 l0_3 x7_2).f0)) ∧ w'.cell? ⟨(ad391.add ((x7_2).toNat * 2)).block, (ad391.add ((x7_2).toNat * 2)).off + 1, none⟩ = some (.int .i64 ((rd_T24 l0_3 x7_2).f1))) (ds := [17]) #[false, false, false, false, false, false, false, false, false, false, false, false, false, false, false, false, false, false] (by kernel_rfl) rfl rfl ⟨(blk_cell BK372.out 0).trans rfl, (blk_cell BK372.out 1).trans rfl, (blk_cell BK372.out 2).trans rfl, (blk_cell BK372.out 3).trans rfl, (blk_cell BK368.out 0).trans rfl, (blk_cell BK368.out 1).trans rfl, (blk_cell BK368.out 2).trans rfl, (blk_cell BK368.out 3).trans rfl, (blk_cell BK368.out 4).trans rfl, ((HB.out.cell (World.block_lt_of_cell? w _ hw391_0)).trans hw391_0), ((HB.out.cell (World.block_lt_of_cell? w _ hw391_1)).trans hw391_1)⟩ (fun hHeld => ?_); refine with_tabW helioscopelaw07_Truly.tab9 helioscopelaw07_Truly.bits9 (fun HT_ HW_ => ?_)
          generalize wr.drew = w45 at HO_373000 HO_373002 BK368 BK369 BK372 HB hx391_0 hx391_1 hHeld ⊢
          refine pureQ 1 47 HT_.out ?_
          refine pureQ 4 50 HT_.out ?_
          refine pureQ 6 52 HT_.out ?_
          refine pureQ 9 55 HT_.out ?_
          refine pureQ 10 56 HT_.out ?_
          refine pureQ 11 57 HT_.out ?_
          refine takeQ 2 48 HT_.out HW_.out hHeld ?_
          refine takeQ 5 51 HT_.out HW_.out hHeld ?_
          refine pureQ 7 53 HT_.out ?_
          refine takeQ 8 54 HT_.out HW_.out hHeld ?_
          refine one_ (i := 0) (N := some 46) #[true, true, true, false, true, true, true, true, true, true, true, true, false, false, false, false, false, false] rfl rfl (one_of HT_.out (by kernel_rfl)) (by decide) (fun K hK => ?_)
          refine Kd.R_lit_step (Kd.int .i64) _ 3 ?hg (N := 46) ?hd (xs := ([] : List Int)) (inner := []) (ok := fun _ => True) (okp := fun _ => True) ?hr ?hp (fun _ hk => hk) trivial (Below.refl _ _) (Nat.le_refl _) (by simp) ?_; (case hd => rfl); (case hg => rfl); (case hr => first | (go_simp; done) | (go_simp; rfl)); (case hp => exact (Reps.none _ _))
          intro v386 w46 ho47 hb hg_ hnew_
          clear hg_ hnew_
          (first | rw [← Ny385.out] at ho47 | (simp only [Int.reduceToNat] at ho47; rw [← Ny385.out] at ho47))
          have n0_ := Aside0.mk (Kd.R_elder' (by (with_reducible repeat (first | apply Kd.R_alloc | apply Kd.R_drewN | apply Kd.R_drew)); exact HO_373000.out) (Kd.R_base ho47) hb)
          have n1_ := Aside0.mk (Kd.R_elder' (by (with_reducible repeat (first | apply Kd.R_alloc | apply Kd.R_drewN | apply Kd.R_drew)); exact HO_373002.out) (Kd.R_base ho47) hb)
          have n2_ := Aside0.mk (Kd.R_lower (Kd.R_new' (Kd.R_new' ho47 (Kd.R_lt (by (with_reducible repeat (first | apply Kd.R_alloc | apply Kd.R_drewN | apply Kd.R_drew)); exact HO_373000.out))) (Kd.R_lt (by (with_reducible repeat (first | apply Kd.R_alloc | apply Kd.R_drewN | apply Kd.R_drew)); exact HO_373002.out))) (below_size (by repeat (first | (with_reducible first | exact HB.out | apply below_alloc | apply pw_below_drewN | apply below_drew1 | refine below_set ?_ GE368.out | refine below_set ?_ GE369.out | refine below_set ?_ GE372.out) | exact HB.out))))
          have n3_ := Aside0.mk (blk_below (g := gb368) (o := .cells #[.slice A0_0 l0_0.length c0_0, .int .i64 a0_1, .int .i64 a0_2, .slice (some ad391) l0_3.length c0_3, .slice A0_4 l0_4.length c0_4] 28 (0, 0)) (by (with_reducible repeat (first | refine blk_drewN ?_ _ | refine blk_drew ?_ | refine blk_alloc ?_ _)); exact BK368.out) hb)
          have n4_ := Aside0.mk (blk_below (g := gb369) (o := .cells #[.slice none 0 0, .int .i64 0, .slice none 0 0, .slice none 0 0] 56 (0, 0)) (by (with_reducible repeat (first | refine blk_drewN ?_ _ | refine blk_drew ?_ | refine blk_alloc ?_ _)); exact BK369.out) hb)
          have n5_ := Aside0.mk (blk_below (g := gb372) (o := .cells #[u373000, .int .i64 t371, u373002, .slice none 0 0] 56 (0, 0)) (by (with_reducible repeat (first | refine blk_drewN ?_ _ | refine blk_drew ?_ | refine blk_alloc ?_ _)); exact BK372.out) hb)
          have n6_ := Aside0.mk (below_step (by repeat (first | (with_reducible first | exact HB.out | apply below_alloc | apply pw_below_drewN | apply below_drew1 | refine below_set ?_ GE368.out | refine below_set ?_ GE369.out | refine below_set ?_ GE372.out) | exact HB.out)) hb)
          clear HO_373000 HO_373002 BK368 BK369 BK372 HB
          have HO_373000 := n0_
          have HO_373002 := n1_
          have HO387 := n2_
          have BK368 := n3_
          have BK369 := n4_
          have BK372 := n5_
          have HB := n6_
          clear n0_ n1_ n2_ n3_ n4_ n5_ n6_ hb ho47
          obtain ⟨Ao49, co49, eo49⟩ := Kd.R_slice HO_373002.out
          (first | subst eo49 | (injection eo49 with f1_ f2_ f3_; have f4_ := f1_.symm; have f5_ := f3_.symm; clear f1_ f2_ f3_; subst f4_; subst f5_))
          refine hK.out _ _ ⟨(blk_cell BK372.out 0).trans rfl, (blk_cell BK372.out 1).trans rfl, (blk_cell BK372.out 2).trans rfl, (blk_cell BK372.out 3).trans rfl, (blk_cell BK368.out 0).trans rfl, (blk_cell BK368.out 1).trans rfl, (blk_cell BK368.out 2).trans rfl, (blk_cell BK368.out 3).trans rfl, (blk_cell BK368.out 4).trans rfl, ((HB.out.cell (World.block_lt_of_cell? w _ hw391_0)).trans hw391_0), ((HB.out.cell (World.block_lt_of_cell? w _ hw391_1)).trans hw391_1)⟩ (fun hHeld => ?_)
          clear hK K
          refine norm_ (a' := ?_) ?_ ?_
          rotate_left
          ·
           show Act.put _ (some 46) _ = _
           simp only [Act.put, List.setIfInBounds_toArray, List.set_cons_zero, List.set_cons_succ, i64_w, i32_w]
           rfl
          refine one_ (i := 3) (N := some 49) #[true, true, true, true, true, true, true, true, true, true, true, true, false, false, false, false, false, false] rfl rfl (one_of HT_.out (by kernel_rfl)) (by decide) (fun K hK => ?_)
          refine Kd.R_append_rows_step (Kd.int .i64) (w0 := w) w.heap.size (by rfl) (.tmp 46) (.tmp 48) 39 3 (.int .i64 0) 8 rfl Try.underlying39 info3 rfl (by decide) (by omega) v386 y385 x373002_2 _ _ _ (fun k_ => some k_ ≠ (u373000 : Value).ownBlock ∧ some k_ ≠ (.slice Ao49 x373002_2.length co49 : Value).ownBlock) (fun _ => False) rfl rfl ?aO ?aR (fun _ _ h => h) (fun _ h => h.elim) ?aF ?aB ?aS ?aL ?_
          (case aR => repeat (first | exact (Kd.R_reads' HO_373002.out).2.2 | (with_reducible refine Kd.C_alloc ?_ _) | (with_reducible refine Kd.C_drewN ?_ _) | (with_reducible refine Kd.C_drew ?_)))
          (case aB => exact (by repeat (first | (with_reducible first | exact HB.out | apply below_alloc | apply pw_below_drewN | apply below_drew1 | refine below_set ?_ GE368.out | refine below_set ?_ GE369.out | refine below_set ?_ GE372.out) | exact HB.out)))
          (case aF => exact (fun k_ hk => ⟨Kd.fresh' (Kd.R_lt (by (with_reducible repeat (first | apply Kd.R_alloc | apply Kd.R_drewN | apply Kd.R_drew)); exact HO_373000.out)) k_ hk, Kd.fresh' (Kd.R_lt (by (with_reducible repeat (first | apply Kd.R_alloc | apply Kd.R_drewN | apply Kd.R_drew)); exact HO_373002.out)) k_ hk⟩))
          (case aO => exact (by (with_reducible repeat (first | apply Kd.R_alloc | apply Kd.R_drewN | apply Kd.R_drew)); exact Kd.R_mono HO387.out (fun _ hk => ⟨hk.1.2, hk.2⟩)))
          (case aS => exact (below_size (by repeat (first | (with_reducible first | exact HB.out | apply below_alloc | apply pw_below_drewN | apply below_drew1 | refine below_set ?_ GE368.out | refine below_set ?_ GE369.out | refine below_set ?_ GE372.out) | exact HB.out))))
          (case aL => have := LMc37.out; omega)
          intro v389 w48 ho hb hg hat
          rw [← Ny388.out] at ho
          have n0_ := Aside0.mk (Kd.R_after (ok := (fun k_ => some k_ ≠ (.slice Ao49 x373002_2.length co49 : Value).ownBlock)) (by (with_reducible repeat (first | apply Kd.R_alloc | apply Kd.R_drewN | apply Kd.R_drew)); exact HO_373000.out) hg hat)
          have n1_ := Aside0.mk (Kd.R_after (ok := (fun k_ => some k_ ≠ (u373000 : Value).ownBlock)) (by (with_reducible repeat (first | apply Kd.R_alloc | apply Kd.R_drewN | apply Kd.R_drew)); exact HO_373002.out) hg hat)
          have n2_ := Aside0.mk (blk_grown (g := gb368) (o := .cells #[.slice A0_0 l0_0.length c0_0, .int .i64 a0_1, .int .i64 a0_2, .slice (some ad391) l0_3.length c0_3, .slice A0_4 l0_4.length c0_4] 28 (0, 0)) (by (with_reducible repeat (first | refine blk_drewN ?_ _ | refine blk_drew ?_ | refine blk_alloc ?_ _)); exact BK368.out) hg (Kd.R_ne HO387.out BK368.out (by decide)))
          have n3_ := Aside0.mk (blk_grown (g := gb369) (o := .cells #[.slice none 0 0, .int .i64 0, .slice none 0 0, .slice none 0 0] 56 (0, 0)) (by (with_reducible repeat (first | refine blk_drewN ?_ _ | refine blk_drew ?_ | refine blk_alloc ?_ _)); exact BK369.out) hg (Kd.R_ne HO387.out BK369.out (by decide)))
          have n4_ := Aside0.mk (blk_grown (g := gb372) (o := .cells #[u373000, .int .i64 t371, .slice Ao49 x373002_2.length co49, .slice none 0 0] 56 (0, 0)) (by (with_reducible repeat (first | refine blk_drewN ?_ _ | refine blk_drew ?_ | refine blk_alloc ?_ _)); exact BK372.out) hg (Kd.R_ne HO387.out BK372.out (by decide)))
          have n5_ := Aside0.mk (hb)
          have n6_ := Aside0.mk (ho)
          clear HO_373000 HO_373002 BK368 BK369 BK372 HB HO387
          have HO_373000 := n0_
          have HO_373002 := n1_
          have BK368 := n2_
          have BK369 := n3_
          have BK372 := n4_
          have HB := n5_
          have HO390 := n6_
          clear n0_ n1_ n2_ n3_ n4_ n5_ n6_ ho hb hg hat
          refine hK.out _ _ ⟨(blk_cell BK372.out 0).trans rfl, (blk_cell BK372.out 1).trans rfl, (blk_cell BK372.out 2).trans rfl, (blk_cell BK372.out 3).trans rfl, (blk_cell BK368.out 0).trans rfl, (blk_cell BK368.out 1).trans rfl, (blk_cell BK368.out 2).trans rfl, (blk_cell BK368.out 3).trans rfl, (blk_cell BK368.out 4).trans rfl, ((HB.out.cell (World.block_lt_of_cell? w _ hw391_0)).trans hw391_0), ((HB.out.cell (World.block_lt_of_cell? w _ hw391_1)).trans hw391_1)⟩ (fun hHeld => ?_)
          clear hK K
          refine norm_ (a' := ?_) ?_ ?_
          rotate_left
          ·
           show Act.put _ (some 49) _ = _
           simp only [Act.put, List.setIfInBounds_toArray, List.set_cons_zero, List.set_cons_succ, i64_w, i32_w]
           rfl
          refine one_ (i := 12) (N := some 58) #[true, true, true, true, true, true, true, true, true, true, true, true, true, false, false, false, false, false] rfl rfl (one_of HT_.out (by kernel_rfl)) (by decide) (fun K hK => ?_)
          refine goes_ Try.func112 (by kernel_rfl) rfl #[.slice A1 l1.length c1, .int .i64 (wrap64 (4 + x7_2))] (by rfl) rfl rfl (by (try simp only [List.map_toArray, List.map_cons, List.map_nil]); first | done | rfl | (simp only [List.length_drop, List.length_take]; rfl)) ?_
          with_reducible refine (helioscopelaw07_turn.calls _ _ l1 (wrap64 (4 + x7_2)) t392 _ ?side1 ?side2 A39.out).mono ?_
          (case side1 => repeat (first | exact (Kd.C_below HR1.out HB.out) | (with_reducible refine Kd.C_alloc ?_ _) | (with_reducible refine Kd.C_drewN ?_ _) | (with_reducible refine Kd.C_drew ?_)))
          (case side2 => exact HC1.out)
          rintro e w' ⟨rfl, ⟨nd, rfl⟩⟩
          refine ⟨_, rfl, ?_⟩
          refine hK.out _ _ ⟨(blk_cell BK372.out 0).trans rfl, (blk_cell BK372.out 1).trans rfl, (blk_cell BK372.out 2).trans rfl, (blk_cell BK372.out 3).trans rfl, (blk_cell BK368.out 0).trans rfl, (blk_cell BK368.out 1).trans rfl, (blk_cell BK368.out 2).trans rfl, (blk_cell BK368.out 3).trans rfl, (blk_cell BK368.out 4).trans rfl, ((HB.out.cell (World.block_lt_of_cell? w _ hw391_0)).trans hw391_0), ((HB.out.cell (World.block_lt_of_cell? w _ hw391_1)).trans hw391_1)⟩ (fun hHeld => ?_)
          clear hK K
          refine norm_ (a' := ?_) ?_ ?_
          rotate_left
          ·
           show Act.put _ (some 58) _ = _
           simp only [Act.put, List.setIfInBounds_toArray, List.set_cons_zero, List.set_cons_succ, i64_w, i32_w]
           rfl
          refine one_ (i := 13) (N := some 59) #[true, true, true, true, true, true, true, true, true, true, true, true, true, true, false, false, false, false] rfl rfl (one_of HT_.out (by kernel_rfl)) (by decide) (fun K hK => ?_)
          refine goes_ Try.func134 (by kernel_rfl) rfl #[.agg #[.int .i64 ((rd_T24 l0_3 x7_2).f0), .int .i64 ((rd_T24 l0_3 x7_2).f1)], .int .i64 t392] (by rfl) rfl rfl (by (try simp only [List.map_toArray, List.map_cons, List.map_nil]); first | done | rfl | (simp only [List.length_drop, List.length_take]; rfl)) ?_
          with_reducible refine (helioscopelaw07_one.calls ((rd_T24 l0_3 x7_2).f0) ((rd_T24 l0_3 x7_2).f1) t392 t393 _ A40.out).mono ?_
          rintro e w50 ⟨rfl, hb⟩
          refine ⟨_, rfl, ?_⟩
          have n0_ := Aside0.mk (Kd.R_below (by (with_reducible repeat (first | apply Kd.R_alloc | apply Kd.R_drewN | apply Kd.R_drew)); exact HO_373000.out) hb)
          have n1_ := Aside0.mk (Kd.R_below (by (with_reducible repeat (first | apply Kd.R_alloc | apply Kd.R_drewN | apply Kd.R_drew)); exact HO_373002.out) hb)
          have n2_ := Aside0.mk (Kd.R_below (by (with_reducible repeat (first | apply Kd.R_alloc | apply Kd.R_drewN | apply Kd.R_drew)); exact HO390.out) hb)
          have n3_ := Aside0.mk (blk_below (g := gb368) (o := .cells #[.slice A0_0 l0_0.length c0_0, .int .i64 a0_1, .int .i64 a0_2, .slice (some ad391) l0_3.length c0_3, .slice A0_4 l0_4.length c0_4] 28 (0, 0)) (by (with_reducible repeat (first | refine blk_drewN ?_ _ | refine blk_drew ?_ | refine blk_alloc ?_ _)); exact BK368.out) hb)
          have n4_ := Aside0.mk (blk_below (g := gb369) (o := .cells #[.slice none 0 0, .int .i64 0, .slice none 0 0, .slice none 0 0] 56 (0, 0)) (by (with_reducible repeat (first | refine blk_drewN ?_ _ | refine blk_drew ?_ | refine blk_alloc ?_ _)); exact BK369.out) hb)
          have n5_ := Aside0.mk (blk_below (g := gb372) (o := .cells #[u373000, .int .i64 t371, .slice Ao49 x373002_2.length co49, .slice none 0 0] 56 (0, 0)) (by (with_reducible repeat (first | refine blk_drewN ?_ _ | refine blk_drew ?_ | refine blk_alloc ?_ _)); exact BK372.out) hb)
          have n6_ := Aside0.mk (below_step (by repeat (first | (with_reducible first | exact HB.out | apply below_alloc | apply pw_below_drewN | apply below_drew1 | refine below_set ?_ GE368.out | refine below_set ?_ GE369.out | refine below_set ?_ GE372.out) | exact HB.out)) hb)
          clear HO_373000 HO_373002 HO390 BK368 BK369 BK372 HB
          have HO_373000 := n0_
          have HO_373002 := n1_
          have HO390 := n2_
          have BK368 := n3_
          have BK369 := n4_
          have BK372 := n5_
          have HB := n6_
          clear n0_ n1_ n2_ n3_ n4_ n5_ n6_
          (try clear hb)
          (try clear hb2)
          (try clear hk)
          (try clear hi)
          refine hK.out _ _ ⟨(blk_cell BK372.out 0).trans rfl, (blk_cell BK372.out 1).trans rfl, (blk_cell BK372.out 2).trans rfl, (blk_cell BK372.out 3).trans rfl, (blk_cell BK368.out 0).trans rfl, (blk_cell BK368.out 1).trans rfl, (blk_cell BK368.out 2).trans rfl, (blk_cell BK368.out 3).trans rfl, (blk_cell BK368.out 4).trans rfl, ((HB.out.cell (World.block_lt_of_cell? w _ hw391_0)).trans hw391_0), ((HB.out.cell (World.block_lt_of_cell? w _ hw391_1)).trans hw391_1)⟩ (fun hHeld => ?_)
          clear hK K
          refine norm_ (a' := ?_) ?_ ?_
          rotate_left
          ·
           show Act.put _ (some 59) _ = _
           simp only [Act.put, List.setIfInBounds_toArray, List.set_cons_zero, List.set_cons_succ, i64_w, i32_w]
           rfl
          refine one_ (i := 14) (N := some 60) #[true, true, true, true, true, true, true, true, true, true, true, true, true, true, true, false, false, false] rfl rfl (one_of HT_.out (by kernel_rfl)) (by decide) (fun K hK => ?_)
          refine value_ (w1 := ?_) (v := ?_) (by rfl) rfl ?_ ?_
          rotate_left 2
          ·
           go_simp
           constructor
           ·
            rfl
           ·
            rfl
          refine hK.out _ _ ⟨(blk_cell (blk_alloc BK372.out _) 0).trans rfl, (blk_cell (blk_alloc BK372.out _) 1).trans rfl, (blk_cell (blk_alloc BK372.out _) 2).trans rfl, (blk_cell (blk_alloc BK372.out _) 3).trans rfl, (blk_cell (blk_alloc BK368.out _) 0).trans rfl, (blk_cell (blk_alloc BK368.out _) 1).trans rfl, (blk_cell (blk_alloc BK368.out _) 2).trans rfl, (blk_cell (blk_alloc BK368.out _) 3).trans rfl, (blk_cell (blk_alloc BK368.out _) 4).trans rfl, (World.cell?_alloc_lt _ _ _ (World.block_lt_of_cell? _ _ (((HB.out.cell (World.block_lt_of_cell? w _ hw391_0)).trans hw391_0)))).trans (((HB.out.cell (World.block_lt_of_cell? w _ hw391_0)).trans hw391_0)), (World.cell?_alloc_lt _ _ _ (World.block_lt_of_cell? _ _ (((HB.out.cell (World.block_lt_of_cell? w _ hw391_1)).trans hw391_1)))).trans (((HB.out.cell (World.block_lt_of_cell? w _ hw391_1)).trans hw391_1))⟩ (fun hHeld => ?_)
          clear hK K
          refine norm_ (a' := ?_) ?_ ?_
          rotate_left
          ·
           show Act.put _ (some 60) _ = _
           simp only [Act.put, List.setIfInBounds_toArray, List.set_cons_zero, List.set_cons_succ, i64_w, i32_w]
           rfl
          refine one_ (i := 15) (N := some 61) #[true, true, true, true, true, true, true, true, true, true, true, true, true, true, true, true, false, false] rfl rfl (one_of HT_.out (by kernel_rfl)) (by decide) (fun K hK => ?_)
          refine Kd.R_append_step (Kd.int .i64) (w0 := w) w.heap.size (by rfl) (.tmp 49) (.tmp 60) 39 3 (.int .i64 0) 8 rfl Try.underlying39 info3 rfl (by decide) (by omega) v389 y388 t393 [.int .i64 t393] (fun k_ => some k_ ≠ (u373000 : Value).ownBlock ∧ some k_ ≠ (.slice Ao49 x373002_2.length co49 : Value).ownBlock) (fun _ => False) rfl rfl ?aP (fun _ hk => hk.elim) ?aF ?aO ?aB ?aS ?aL ?_
          (case aP => exact rfl)
          (case aB => exact (by repeat (first | (with_reducible first | exact HB.out | apply below_alloc | apply pw_below_drewN | apply below_drew1 | refine below_set ?_ GE368.out | refine below_set ?_ GE369.out | refine below_set ?_ GE372.out) | exact HB.out)))
          (case aF => exact (fun k_ hk => ⟨Kd.fresh' (Kd.R_lt (by (with_reducible repeat (first | apply Kd.R_alloc | apply Kd.R_drewN | apply Kd.R_drew)); exact HO_373000.out)) k_ hk, Kd.fresh' (Kd.R_lt (by (with_reducible repeat (first | apply Kd.R_alloc | apply Kd.R_drewN | apply Kd.R_drew)); exact HO_373002.out)) k_ hk⟩))
          (case aO => exact (by (with_reducible repeat (first | apply Kd.R_alloc | apply Kd.R_drewN | apply Kd.R_drew)); exact HO390.out))
          (case aS => exact (below_size (by repeat (first | (with_reducible first | exact HB.out | apply below_alloc | apply pw_below_drewN | apply below_drew1 | refine below_set ?_ GE368.out | refine below_set ?_ GE369.out | refine below_set ?_ GE372.out) | exact HB.out))))
          (case aL => have := LMc41.out; omega)
          intro v395 w51 ho hb hg hat
          rw [← Ny394.out] at ho
          have n0_ := Aside0.mk (Kd.R_after (ok := (fun k_ => some k_ ≠ (.slice Ao49 x373002_2.length co49 : Value).ownBlock)) (by (with_reducible repeat (first | apply Kd.R_alloc | apply Kd.R_drewN | apply Kd.R_drew)); exact HO_373000.out) hg hat)
          have n1_ := Aside0.mk (Kd.R_after (ok := (fun k_ => some k_ ≠ (u373000 : Value).ownBlock)) (by (with_reducible repeat (first | apply Kd.R_alloc | apply Kd.R_drewN | apply Kd.R_drew)); exact HO_373002.out) hg hat)
          have n2_ := Aside0.mk (blk_grown (g := gb368) (o := .cells #[.slice A0_0 l0_0.length c0_0, .int .i64 a0_1, .int .i64 a0_2, .slice (some ad391) l0_3.length c0_3, .slice A0_4 l0_4.length c0_4] 28 (0, 0)) (by (with_reducible repeat (first | refine blk_drewN ?_ _ | refine blk_drew ?_ | refine blk_alloc ?_ _)); exact BK368.out) hg (Kd.R_ne HO390.out BK368.out (by decide)))
          have n3_ := Aside0.mk (blk_grown (g := gb369) (o := .cells #[.slice none 0 0, .int .i64 0, .slice none 0 0, .slice none 0 0] 56 (0, 0)) (by (with_reducible repeat (first | refine blk_drewN ?_ _ | refine blk_drew ?_ | refine blk_alloc ?_ _)); exact BK369.out) hg (Kd.R_ne HO390.out BK369.out (by decide)))
          have n4_ := Aside0.mk (blk_grown (g := gb372) (o := .cells #[u373000, .int .i64 t371, .slice Ao49 x373002_2.length co49, .slice none 0 0] 56 (0, 0)) (by (with_reducible repeat (first | refine blk_drewN ?_ _ | refine blk_drew ?_ | refine blk_alloc ?_ _)); exact BK372.out) hg (Kd.R_ne HO390.out BK372.out (by decide)))
          have n5_ := Aside0.mk (hb)
          have n6_ := Aside0.mk (ho)
          clear HO_373000 HO_373002 BK368 BK369 BK372 HB HO390
          have HO_373000 := n0_
          have HO_373002 := n1_
          have BK368 := n2_
          have BK369 := n3_
          have BK372 := n4_
          have HB := n5_
          have HO396 := n6_
          clear n0_ n1_ n2_ n3_ n4_ n5_ n6_ ho hb hg hat
          obtain ⟨Ao52, co52, eo52⟩ := Kd.R_slice HO396.out
          (first | subst eo52 | (injection eo52 with f1_ f2_ f3_; have f4_ := f1_.symm; have f5_ := f3_.symm; clear f1_ f2_ f3_; subst f4_; subst f5_))
          refine hK.out _ _ ⟨(blk_cell BK372.out 0).trans rfl, (blk_cell BK372.out 1).trans rfl, (blk_cell BK372.out 2).trans rfl, (blk_cell BK372.out 3).trans rfl, (blk_cell BK368.out 0).trans rfl, (blk_cell BK368.out 1).trans rfl, (blk_cell BK368.out 2).trans rfl, (blk_cell BK368.out 3).trans rfl, (blk_cell BK368.out 4).trans rfl, ((HB.out.cell (World.block_lt_of_cell? w _ hw391_0)).trans hw391_0), ((HB.out.cell (World.block_lt_of_cell? w _ hw391_1)).trans hw391_1)⟩ (fun hHeld => ?_)
          clear hK K
          refine norm_ (a' := ?_) ?_ ?_
          rotate_left
          ·
           show Act.put _ (some 61) _ = _
           simp only [Act.put, List.setIfInBounds_toArray, List.set_cons_zero, List.set_cons_succ, i64_w, i32_w]
           rfl
          refine pureQ 16 62 HT_.out ?_
          refine last_ (i := 17) (N := none) #[true, true, true, true, true, true, true, true, true, true, true, true, true, true, true, true, true, true] rfl rfl (one_of HT_.out (by kernel_rfl)) (by decide) (fun K hK => ?_)
          have hs53 := (blk_cell BK372.out 2).trans rfl
          have hfs53 := blk_frozen BK372.out 2
          have hns53_0 := NB368_372.out
          have hns53_1 := NB369_372.out
          have hms53_0 := NB372_368.out
          have hms53_1 := NB372_369.out
          refine skip_ (w1 := ?_) (by rfl) rfl ?_ ?_
          rotate_left
          ·
           go_simp
           rfl
          refine hK.out _ _ ?_
          clear hK K
          refine done_ (done_of HT_.out (by kernel_rfl)) ?_
          try go_wp2
          go_roundg k2
          case measure => have := HK1.out; have := HK2.out; omega
          case rel => exact ⟨(wrap64 (x7_2 + 1)), (y394), (.slice Ao52 y394.length co52), (by first | rfl | (simp; done) | (simp [*]; done)), H', ⟨by have := HK1.out; have := HK2.out; omega⟩, ⟨by (with_reducible repeat (first | apply Kd.R_alloc | apply Kd.R_drewN | apply Kd.R_drew)); exact Kd.R_mono (Kd.R_far (p := ⟨gb372, 2, none⟩) (Kd.R_types HO_373000.out BK372.out (by decide)) (fun _ hk => hk.2) (.slice Ao52 y394.length co52)) (fun _ hk => hk.1.2)⟩, ⟨by (with_reducible repeat (first | apply Kd.R_alloc | apply Kd.R_drewN | apply Kd.R_drew)); exact Kd.R_mono (Kd.R_far (p := ⟨gb372, 2, none⟩) (Kd.R_types HO396.out BK372.out (by decide)) (fun _ hk => hk.2) (.slice Ao52 y394.length co52)) (fun _ hk => hk.1.1)⟩, ⟨by (with_reducible repeat (first | refine blk_drewN ?_ _ | refine blk_drew ?_ | refine blk_alloc ?_ _)); refine blk_far ?_ NB368_372.out _; (with_reducible repeat (first | refine blk_drewN ?_ _ | refine blk_drew ?_ | refine blk_alloc ?_ _)); exact BK368.out⟩, ⟨by (with_reducible repeat (first | refine blk_drewN ?_ _ | refine blk_drew ?_ | refine blk_alloc ?_ _)); refine blk_far ?_ NB369_372.out _; (with_reducible repeat (first | refine blk_drewN ?_ _ | refine blk_drew ?_ | refine blk_alloc ?_ _)); exact BK369.out⟩, ⟨by (with_reducible repeat (first | refine blk_drewN ?_ _ | refine blk_drew ?_ | refine blk_alloc ?_ _)); refine blk_put (cs := #[u373000, .int .i64 t371, .slice Ao49 x373002_2.length co49, .slice none 0 0]) ?_ 2 _ rfl; (with_reducible repeat (first | refine blk_drewN ?_ _ | refine blk_drew ?_ | refine blk_alloc ?_ _)); exact BK372.out⟩, ⟨by repeat (first | (with_reducible first | exact HB.out | apply below_alloc | apply pw_below_drewN | apply below_drew1 | refine below_set ?_ GE368.out | refine below_set ?_ GE369.out | refine below_set ?_ GE372.out) | exact HB.out)⟩⟩
         ·
          rw [if_neg c41] at H
          exact absurd H (by simp)
        ·
         rw [if_neg c38] at H
         exact absurd H (by simp)
       ·
        rw [if_neg c37] at H
        exact absurd H (by simp)
      ·
       rw [if_neg c36] at H
       have c36b0 : decide (x7_2 < (l0_3.length : Int)) = false := decide_eq_false c36
       clear c36
       simp only [Option.some.injEq, Prod.mk.injEq] at H
       obtain ⟨rfl, rfl, rfl, rfl⟩ := H
       have hnb54 := NB368_369.out
       have hnc54 := NB369_368.out
       have hnb55 := NB368_372.out
       have hnc55 := NB372_368.out
       have hcz56_0 := (blk_cell BK368.out 0).trans rfl
       have hcz56_1 := (blk_cell BK368.out 1).trans rfl
       have hcz56_2 := (blk_cell BK368.out 2).trans rfl
       have hcz56_3 := (blk_cell BK368.out 3).trans rfl
       have hcz56_4 := (blk_cell BK368.out 4).trans rfl
       have hfz56_0 := blk_frozen BK368.out 0
       have hfz56_1 := blk_frozen BK368.out 1
       have hfz56_2 := blk_frozen BK368.out 2
       have hfz56_3 := blk_frozen BK368.out 3
       have hfz56_4 := blk_frozen BK368.out 4
       have hnb57 := NB372_369.out
       have hnc57 := NB369_372.out
       have hcz58_0 := (blk_cell BK372.out 0).trans rfl
       have hcz58_1 := (blk_cell BK372.out 1).trans rfl
       have hcz58_2 := (blk_cell BK372.out 2).trans rfl
       have hcz58_3 := (blk_cell BK372.out 3).trans rfl
       have hfz58_0 := blk_frozen BK372.out 0
       have hfz58_1 := blk_frozen BK372.out 1
       have hfz58_2 := blk_frozen BK372.out 2
       have hfz58_3 := blk_frozen BK372.out 3
       obtain ⟨Ao59, co59, eo59⟩ := Kd.R_slice HO_373000.out
       subst eo59
       have hcz60_0 := (blk_cell BK369.out 0).trans rfl
       have hcz60_1 := (blk_cell BK369.out 1).trans rfl
       have hcz60_2 := (blk_cell BK369.out 2).trans rfl
       have hcz60_3 := (blk_cell BK369.out 3).trans rfl
       have hfz60_0 := blk_frozen BK369.out 0
       have hfz60_1 := blk_frozen BK369.out 1
       have hfz60_2 := blk_frozen BK369.out 2
       have hfz60_3 := blk_frozen BK369.out 3
       obtain ⟨Ao61, co61, eo61⟩ := Kd.R_slice HO_373002.out
       subst eo61
       go_wp2
       refine bodyPost_ret (results_cell_row rfl _ _ gb369 56 #[.slice Ao59 x373000_1.length co59, .int .i64 t371, .slice Ao61 x373002_2.length co61, .slice none 0 0] (0, 0) _ rfl (by (with_reducible repeat (first | refine blk_drewN ?_ _ | refine blk_drew ?_ | refine blk_alloc ?_ _)); refine blk_put (cs := #[.slice Ao59 x373000_1.length co59, .int .i64 t371, .slice Ao61 x373002_2.length co61, .slice none 0 0]) ?_ 3 _ rfl; (with_reducible repeat (first | refine blk_drewN ?_ _ | refine blk_drew ?_ | refine blk_alloc ?_ _)); refine blk_put (cs := #[.slice Ao59 x373000_1.length co59, .int .i64 t371, .slice none 0 0, .slice none 0 0]) ?_ 2 _ rfl; (with_reducible repeat (first | refine blk_drewN ?_ _ | refine blk_drew ?_ | refine blk_alloc ?_ _)); refine blk_put (cs := #[.slice Ao59 x373000_1.length co59, .int .i64 0, .slice none 0 0, .slice none 0 0]) ?_ 1 _ rfl; (with_reducible repeat (first | refine blk_drewN ?_ _ | refine blk_drew ?_ | refine blk_alloc ?_ _)); refine blk_put (cs := #[.slice none 0 0, .int .i64 0, .slice none 0 0, .slice none 0 0]) ?_ 0 _ rfl; (with_reducible repeat (first | refine blk_drewN ?_ _ | refine blk_drew ?_ | refine blk_alloc ?_ _)); exact BK369.out) Try.underlying56 rfl (by kernel_rfl)) rfl ?_
       exact ⟨_, _, _, by first | rfl | (simp [errW_none, errW_some] <;> rfl) | (simp [*, errW_none, errW_some] <;> rfl), by (with_reducible repeat (first | apply Kd.R_alloc | apply Kd.R_drewN | apply Kd.R_drew)); exact Kd.R_mono (Kd.R_far (p := ⟨gb369, 3, none⟩) (Kd.R_far (p := ⟨gb369, 2, none⟩) (Kd.R_far (p := ⟨gb369, 1, none⟩) (Kd.R_far (p := ⟨gb369, 0, none⟩) (Kd.R_types HO_373000.out BK369.out (by decide)) (fun _ hk => hk.2) (.slice Ao59 x373000_1.length co59)) (fun _ hk => hk.2) (.int .i64 t371)) (fun _ hk => hk.2) (.slice Ao61 x373002_2.length co61)) (fun _ hk => hk.2) (.slice none 0 0)) (fun _ hk => hk.1), by (with_reducible repeat (first | apply Kd.R_alloc | apply Kd.R_drewN | apply Kd.R_drew)); exact Kd.R_mono (Kd.R_far (p := ⟨gb369, 3, none⟩) (Kd.R_far (p := ⟨gb369, 2, none⟩) (Kd.R_far (p := ⟨gb369, 1, none⟩) (Kd.R_far (p := ⟨gb369, 0, none⟩) (Kd.R_types HO_373002.out BK369.out (by decide)) (fun _ hk => hk.2) (.slice Ao59 x373000_1.length co59)) (fun _ hk => hk.2) (.int .i64 t371)) (fun _ hk => hk.2) (.slice Ao61 x373002_2.length co61)) (fun _ hk => hk.2) (.slice none 0 0)) (fun _ hk => hk.1), by first | exact Kd.S_nil _ _ _ _ _ | exact Kd.N_nil _ _ _ _ _ | exact Kd.V_nil _ _ _ _ _ | exact Kd.Q_nil _ _ _ _ _ | exact Kd.R_nil _ _ _ _ _, by repeat (first | (with_reducible first | exact HB.out | apply below_alloc | apply pw_below_drewN | apply below_drew1 | refine below_set ?_ GE368.out | refine below_set ?_ GE369.out | refine below_set ?_ GE372.out) | exact HB.out)⟩

end Go.Proofs.Ytgoidclnccjdeaa.PR
end
section
/- Package glass: ANY truth, by turns, and a shelf whose drawings show what is seen in it. -/
namespace Go.Proofs.Ytgoidclnccjdeaa.D
open Go Go.RowKit Go.Proofs.YtgoidclnccjdeaaK Go.Proofs.YtgoidclnccjdeaaW.PrintWords Go.Proofs.YtgoidclnccjdeaaW.PrintLast Go.Proofs.YtgoidclnccjdeaaW.PrintMore Go.Proofs.Ytgoidclnccjdeaa.PR Go.Proofs.Ytgoidclnccjdeaa.M
set_option linter.unusedVariables false
set_option linter.unusedSimpArgs false

def U8 (l : List Int) : Prop := ∀ x ∈ l, 0 ≤ x ∧ x ≤ 255
def turnV (l : List Int) (n : Nat) : Int := if l.length = 0 then 0 else l.getD (n % l.length) 0
def oneV (lo hi n : Int) : Int := lo + n % (hi - lo + 1)
theorem turnV_in {l : List Int} (h : U8 l) (n : Nat) : 0 ≤ turnV l n ∧ turnV l n ≤ 255 := by
 unfold turnV
 split
 ·
  omega
 ·
  next h0 =>
  have hlt : n % l.length < l.length := Nat.mod_lt _ (by omega)
  rw [List.getD_eq_getElem?_getD, List.getElem?_eq_getElem hlt, Option.getD_some]
  exact h _ (List.getElem_mem hlt)
theorem oneV_in {lo hi n : Int} (h : lo ≤ hi) : lo ≤ oneV lo hi n ∧ oneV lo hi n ≤ hi := by
 have h1 := Int.emod_nonneg n (show hi - lo + 1 ≠ 0 by omega)
 have h2 := Int.emod_lt_of_pos n (show 0 < hi - lo + 1 by omega)
 unfold oneV; omega
theorem rTurn {l : List Int} (h : U8 l) (n : Nat) : helioscopelaw07_turn.f l (n : Int) = some (turnV l n) := by
 have hin := turnV_in h n
 unfold helioscopelaw07_turn.f
 unfold turnV at hin ⊢
 by_cases h0 : l.length = 0
 ·
  rw [if_pos (by omega), if_pos h0]
 ·
  have hlt : n % l.length < l.length := Nat.mod_lt _ (by omega)
  have e : Int.tmod (n : Int) (l.length : Int) = ((n % l.length : Nat) : Int) := (Int.ofNat_tmod _ _).symm
  rw [if_neg h0] at hin
  rw [if_neg (by omega), if_neg h0, e, if_pos (by omega), if_pos (by omega)]
  have e2 : rd l ((n % l.length : Nat) : Int) = l.getD (n % l.length) 0 := by show l.getD (((n % l.length : Nat) : Int).toNat) 0 = _; rw [Int.toNat_natCast]
  rw [e2, w64 (by omega) (by omega)]
theorem rOneV {lo hi n : Int} (hl : 0 ≤ lo) (h : lo ≤ hi) (hh : hi ≤ 60) (hn : 0 ≤ n ∧ n ≤ 255) : helioscopelaw07_one.f lo hi n = some (oneV lo hi n) := by
 have hin := oneV_in (n := n) h
 unfold oneV at hin
 unfold helioscopelaw07_one.f oneV
 rw [w64 (x := hi - lo) (by omega) (by omega), w64 (x := hi - lo + 1) (by omega) (by omega), if_neg (by omega), Int.tmod_eq_emod_of_nonneg hn.1, w64 (by omega) (by omega)]
def leastT (D : Dat) (l : List Int) : List Int := (List.range D.gl.length).map fun (i : Nat) => oneV (rd_T95 D.gl (i : Int)).f1.f0 (rd_T95 D.gl (i : Int)).f1.f1 (turnV l (1 + i))
def sizesT (D : Dat) (l : List Int) : List Int := (List.range D.sp.length).map fun (i : Nat) => oneV (rd_T24 D.sp (i : Int)).f0 (rd_T24 D.sp (i : Int)).f1 (turnV l (4 + i))
def dullT (D : Dat) (l : List Int) : Int := oneV D.lo D.hi (turnV l 0)
def trT (D : Dat) (l : List Int) : Tr := (leastT D l, dullT D l, sizesT D l)
section
variable {D : Dat} (h : Valid D) {l : List Int} (hl : U8 l)
include h hl
theorem rTruly1 (le : List Int) (du : Int) : ∀ n i, i + n = D.sp.length →
  Ev (fun k => helioscopelaw07_Truly.l1 k l (i : Int) D.gl D.lo D.hi D.sp D.dr le du ((List.range i).map fun (i : Nat) => oneV (rd_T24 D.sp (i : Int)).f0 (rd_T24 D.sp (i : Int)).f1 (turnV l (4 + i)))) (le, du, sizesT D l, ([] : List (List Int)))
 | 0, i, hi => by
  obtain rfl : i = D.sp.length := by omega
  exact Ev.step (f := fun _ => some _) (fun k => by simp only [helioscopelaw07_Truly.l1]; rw [if_neg (by omega)]; rfl) (Ev.now _)
 | n + 1, i, hi => by
  have hs4 := h.s4
  have ih := rTruly1 le du n (i + 1) (by omega)
  rw [List.range_succ, List.map_append, List.map_singleton] at ih
  have hb := h.sp i (by omega)
  have hll : ((List.range i).map fun (i : Nat) => oneV (rd_T24 D.sp (i : Int)).f0 (rd_T24 D.sp (i : Int)).f1 (turnV l (4 + i))).length = i := by simp
  have ht := rTurn hl (4 + i)
  have ho := rOneV (n := turnV l (4 + i)) (by omega) hb.2.1 (by omega) (turnV_in hl _)
  generalize (List.range i).map (fun (i : Nat) => oneV (rd_T24 D.sp (i : Int)).f0 (rd_T24 D.sp (i : Int)).f1 (turnV l (4 + i))) = A at *
  refine Ev.step (fun k => ?_) ih
  simp only [helioscopelaw07_Truly.l1, Option.bind_some]
  rw [if_pos (by omega), if_pos (by simp; omega), if_pos (by omega), w64 (by omega) (by omega), show (4 : Int) + (i : Int) = ((4 + i : Nat) : Int) by omega, ht, Option.bind_some, ho, Option.bind_some, if_pos (by simp; omega), List.nil_append, wrapN (by omega)]
theorem rTruly0 (du : Int) : ∀ n i, i + n = D.gl.length →
  Ev (fun k => helioscopelaw07_Truly.l0 k l (i : Int) D.gl D.lo D.hi D.sp D.dr ((List.range i).map fun (i : Nat) => oneV (rd_T95 D.gl (i : Int)).f1.f0 (rd_T95 D.gl (i : Int)).f1.f1 (turnV l (1 + i))) du) (leastT D l, du, sizesT D l, ([] : List (List Int)))
 | 0, i, hi => by
  obtain rfl : i = D.gl.length := by omega
  have := rTruly1 h hl (leastT D l) du D.sp.length 0 (by omega)
  exact Ev.step (fun k => by simp only [helioscopelaw07_Truly.l0]; rw [if_neg (by omega)]; rfl) this
 | n + 1, i, hi => by
  have hg3 := h.g3
  have ih := rTruly0 du n (i + 1) (by omega)
  rw [List.range_succ, List.map_append, List.map_singleton] at ih
  have hb := h.gl i (by omega)
  have hll : ((List.range i).map fun (i : Nat) => oneV (rd_T95 D.gl (i : Int)).f1.f0 (rd_T95 D.gl (i : Int)).f1.f1 (turnV l (1 + i))).length = i := by simp
  have ht := rTurn hl (1 + i)
  have ho := rOneV (n := turnV l (1 + i)) (by omega) hb.2.1 (by omega) (turnV_in hl _)
  generalize (List.range i).map (fun (i : Nat) => oneV (rd_T95 D.gl (i : Int)).f1.f0 (rd_T95 D.gl (i : Int)).f1.f1 (turnV l (1 + i))) = A at *
  refine Ev.step (fun k => ?_) ih
  simp only [helioscopelaw07_Truly.l0, Option.bind_some]
  rw [if_pos (by omega), if_pos (by simp; omega), if_pos (by omega), w64 (by omega) (by omega), show (1 : Int) + (i : Int) = ((1 + i : Nat) : Int) by omega, ht, Option.bind_some, ho, Option.bind_some, if_pos (by simp; omega), List.nil_append, wrapN (by omega)]
theorem rTruly : Ev (fun k => helioscopelaw07_Truly.f k D.gl D.lo D.hi D.sp D.dr l) (leastT D l, dullT D l, sizesT D l, ([] : List (List Int))) := by
 unfold helioscopelaw07_Truly.f
 have ht := rTurn hl 0
 have ho := rOneV (n := turnV l 0) h.lo h.le (by have := h.hi; omega) (turnV_in hl _)
 have h0 := rTruly0 h hl (dullT D l) D.gl.length 0 (by omega)
 refine Ev.congr (fun k => ?_) h0
 rw [show (0 : Int) = ((0 : Nat) : Int) from rfl, ht, Option.bind_some, ho, Option.bind_some]
 rfl
theorem trT_all : trT D l ∈ allD D := by
 have _h := hl
 have hle : leastT D l ∈ prodL (glS D) := prodL_mem (by simp [leastT]) (fun i hi => by
  have hi' : i < D.gl.length := by simpa using hi
  have hb := oneV_in (n := turnV l (1 + i)) (h.gl i hi').2.1
  have e1 : (glS D).getD i (0, 0) = ((rd_T95 D.gl (i : Int)).f1.f0, (rd_T95 D.gl (i : Int)).f1.f1) := by
   rw [gl_at _ _ hi']
   simp [glS, List.getD_eq_getElem?_getD, List.getElem?_eq_getElem hi']
  have e2 : (leastT D l).getD i 0 = oneV (rd_T95 D.gl (i : Int)).f1.f0 (rd_T95 D.gl (i : Int)).f1.f1 (turnV l (1 + i)) := by
   unfold leastT
   rw [List.getD_eq_getElem?_getD, List.getElem?_map, List.getElem?_range hi']; rfl
  rw [e1, e2]; exact hb)
 have hsz : sizesT D l ∈ prodL (spS D) := prodL_mem (by simp [sizesT]) (fun i hi => by
  have hi' : i < D.sp.length := by simpa using hi
  have hb := oneV_in (n := turnV l (4 + i)) (h.sp i hi').2.1
  have e1 : (spS D).getD i (0, 0) = ((rd_T24 D.sp (i : Int)).f0, (rd_T24 D.sp (i : Int)).f1) := by
   rw [sp_at _ _ hi']
   simp [spS, List.getD_eq_getElem?_getD, List.getElem?_eq_getElem hi', pr]
  have e2 : (sizesT D l).getD i 0 = oneV (rd_T24 D.sp (i : Int)).f0 (rd_T24 D.sp (i : Int)).f1 (turnV l (4 + i)) := by
   unfold sizesT
   rw [List.getD_eq_getElem?_getD, List.getElem?_map, List.getElem?_range hi']; rfl
  rw [e1, e2]; exact hb)
 have hdu : dullT D l ∈ rng D.lo D.hi := mem_rng.2 (oneV_in h.le)
 have e : allD D = allL (glS D) (D.lo, D.hi) (spS D) := rfl
 rw [e]
 unfold allL
 simp only [List.mem_flatMap, List.mem_map]
 exact ⟨_, hle, _, hdu, _, hsz, rfl⟩
end
def gI (D : Dat) (l : List Int) (i : Nat) : Nat := if (rd_T72 D.dr (i : Int)).f0 = -1 then (turnV l (8 + i)).toNat % D.gl.length else ((rd_T72 D.dr (i : Int)).f0).toNat
def drT (D : Dat) (l : List Int) (i : Nat) : Dr := ⟨(rd_T72 D.dr (i : Int)).f0, (rd_T72 D.dr (i : Int)).f1, (seenTo (fn (V8 (trT D l))) (gI D l i) (rd_T72 D.dr (i : Int)).f1 D.sp.length : Nat)⟩
def toldD (D : Dat) (l : List Int) : Dat := wdr D ((List.range D.dr.length).map (drT D l))
section
variable {D : Dat} (hc : (checkF D).2.2 = 0) (l : List Int)
include hc
theorem gI_lt {i : Nat} (hi : i < D.dr.length) : gI D l i < D.gl.length := by
 have hV := (check_valid hc).1
 have hb := hV.dr i hi
 have hg1 := hV.g1
 unfold gI
 split
 ·
  exact Nat.mod_lt _ (by omega)
 ·
  omega
theorem told_check : (checkF (toldD D l)).2.2 = 0 := by
 have hV := (check_valid hc).1
 refine wdr_check hc (by simp; exact hV.d4) (fun i hi => ?_)
 have hi' : i < D.dr.length := by simpa using hi
 rw [List.getElem_map, List.getElem_range]
 have hb := hV.dr i hi'
 have hs := seenTo_lt (fn (V8 (trT D l))) (gI D l i) (rd_T72 D.dr (i : Int)).f1 D.sp.length
 refine errD_mk ⟨hb.1, ?_⟩ ⟨hb.2.2.1, hb.2.2.2.1⟩ ⟨?_, ?_⟩
 ·
  show (rd_T72 D.dr (i : Int)).f0 ≤ _; omega
 ·
  show (0 : Int) ≤ ((seenTo _ _ _ _ : Nat) : Int); omega
 ·
  show ((seenTo _ _ _ _ : Nat) : Int) ≤ _; omega
theorem told_rd {i : Nat} (hi : i < D.dr.length) : rd_T72 (toldD D l).dr (i : Int) = drT D l i := by
 have _h := hc
 show rd_T72 ((List.range D.dr.length).map (drT D l)) (i : Int) = _
 simp only [rd_T72, Int.toNat_natCast, List.getD_eq_getElem?_getD, List.getElem?_map, List.getElem?_range hi, Option.map_some, Option.getD_some]
theorem told_thr {i : Nat} (hi : i < D.dr.length) : thrB (toldD D l) (fn (V8 (trT D l))) (drT D l i) (gI D l i) = true := by
 have hV := (check_valid hc).1
 have hb := hV.dr i hi
 unfold thrB drT
 rw [Bool.and_eq_true]
 refine ⟨?_, by simp only [beq_iff_eq]; rfl⟩
 rw [Bool.or_eq_true, beq_iff_eq, beq_iff_eq]
 by_cases h : (rd_T72 D.dr (i : Int)).f0 = -1
 ·
  exact .inl h
 ·
  right
  show (rd_T72 D.dr (i : Int)).f0 = (gI D l i : Int)
  unfold gI
  rw [if_neg h]; omega
theorem told_mem (hl : U8 l) (but : Nat) : V8 (trT D l) ∈ truthsL (toldD D l) but := by
 have hV := (check_valid hc).1
 have hall := trT_all hV hl
 have h1 : V8 (trT D l) ∈ prodL (spansL D) := by
  rw [spans8_eq hV, prod_vec]
  exact List.mem_map.2 ⟨_, hall, rfl⟩
 refine List.mem_filter.2 ⟨h1, ?_⟩
 unfold soB soTo
 rw [List.all_eq_true]
 intro i hi
 have hlen : (toldD D l).dr.length = D.dr.length := by simp [toldD, wdr]
 rw [hlen] at hi
 have hlt := List.mem_range.1 hi
 rw [told_rd hc l hlt, Bool.or_eq_true]
 right
 unfold soD
 rw [List.any_eq_true]
 exact ⟨gI D l i, List.mem_range.2 (gI_lt hc l hlt), told_thr hc l hlt⟩
theorem told_some (hl : U8 l) : someB (toldD D l) = true := by
 unfold someB someT
 rw [told_check hc l]
 have := told_mem hc l hl 0
 cases h : truthsL (toldD D l) 0 with
 | nil => rw [h] at this; simp at this
 | cons a t => rfl
theorem told_wrong (hl : U8 l) : wrongF (toldD D l) = ([], 0) := by
 have hck := told_check hc l
 have hV := (check_valid hck).1
 unfold wrongF
 rw [if_pos hck, wrongTo_eq]
 have h0 : someT (toldD D l) 0 = true := by
  have := told_some hc l hl
  unfold someB at this
  rw [Bool.and_eq_true] at this
  exact this.2
 have hfl : ∀ m, m ≤ 4 → ∃ r, flatN m = [] ++ 0 :: r
  | 0, _ => ⟨_, rfl⟩
  | 1, _ => ⟨_, rfl⟩
  | 2, _ => ⟨_, rfl⟩
  | 3, _ => ⟨_, rfl⟩
  | 4, _ => ⟨_, rfl⟩
  | m + 5, h => by omega
 obtain ⟨r, hr⟩ := hfl _ hV.d4
 rw [w_eq hV.d4 hr (fun b hb => by simp at hb) h0]
 have e : bitsL 0 (toldD D l).dr.length = [] := by unfold bitsL; simp
 rw [e]; rfl
end
end Go.Proofs.Ytgoidclnccjdeaa.D
end
section
/- Package glass: nothing that is so in ANY truth is denied by what is told of a shelf that shows it. -/
namespace Go.Proofs.Ytgoidclnccjdeaa.D
open Go Go.RowKit Go.Proofs.YtgoidclnccjdeaaK Go.Proofs.YtgoidclnccjdeaaW.PrintWords Go.Proofs.YtgoidclnccjdeaaW.PrintLast Go.Proofs.YtgoidclnccjdeaaW.PrintMore Go.Proofs.Ytgoidclnccjdeaa.PR Go.Proofs.Ytgoidclnccjdeaa.M
set_option linter.unusedVariables false
set_option linter.unusedSimpArgs false

structure Has1 (D : Dat) (x : List Int) : Prop where
 ok : (checkF D).2.2 = 0
 mem : x ∈ truthsL D 0
section
variable {D : Dat} {x : List Int} (h : Has1 D x)
include h
theorem Has1.ne : truthsL D 0 ≠ [] := List.ne_nil_of_mem h.mem
theorem Has1.yes : someB D = true := by
 have hm := h.mem
 unfold someB someT
 rw [h.ok]
 cases ht : truthsL D 0 with
 | nil => rw [ht] at hm; simp at hm
 | cons a t => rfl
theorem Has1.inside {l : List (Bool × Int)} (ha : askE l = 0) (k : Nat) : r1_Inside.f (fn x k) (hullF D l k).1 (hullF D l k).2 = some true := by
 rw [rInside]
 unfold hullF
 rw [if_pos (enter_yes h.yes ha)]
 have h1 := minF_le (k := k) h.mem
 have h2 := maxF_ge (k := k) h.mem
 rw [decide_eq_true ⟨h1, h2⟩]
theorem Has1.may {g a : Nat} {y : Int} (hs : seenB (fn x) g y a = true) : mayP D g y a = true := by
 unfold mayP
 rw [List.any_eq_true]
 exact ⟨x, h.mem, hs⟩
theorem Has1.sure {g a : Nat} {y : Int} (hs : seenB (fn x) g y a = false) : sureP D g y a = false := by
 unfold sureP
 rw [List.all_eq_false]
 exact ⟨x, h.mem, by rw [hs]; decide⟩
theorem Has1.larger {a b : Nat} (he : enterE D (askTwo D (a : Int) (b : Int)) = 0) : (largerF D (a : Int) (b : Int) = 1 → fn x (4 + b) < fn x (4 + a)) ∧ (largerF D (a : Int) (b : Int) = 2 → ¬ fn x (4 + b) < fn x (4 + a)) := by
 unfold largerF
 rw [if_pos he, Int.toNat_natCast, Int.toNat_natCast]
 have ht := told_all (Q := largerQ a b) h.ne
 refine ⟨fun e => ?_, fun e => ?_⟩
 ·
  have h1 := List.all_eq_true.1 (ht.1.1 e) x h.mem
  unfold largerQ at h1
  exact of_decide_eq_true h1
 ·
  have h1 := List.any_eq_false.1 (ht.2.1 e) x h.mem
  unfold largerQ at h1
  intro h2
  exact h1 (decide_eq_true h2)
theorem Has1.denies {a b : Nat} (he : enterE D (askTwo D (a : Int) (b : Int)) = 0) : helioscopelaw07_denies.f (largerF D (a : Int) (b : Int)) (decide (fn x (4 + b) < fn x (4 + a))) = some false := by
 have h1 := h.larger he
 unfold helioscopelaw07_denies.f
 generalize largerF D (a : Int) (b : Int) = m at *
 by_cases hm1 : m = 1
 ·
  subst hm1
  rw [decide_eq_true (h1.1 rfl)]; rfl
 ·
  by_cases hm2 : m = 2
  ·
   subst hm2
   rw [decide_eq_false (h1.2 rfl)]; rfl
  ·
   generalize decide (fn x (4 + b) < fn x (4 + a)) = d
   cases d <;> simp [hm1, hm2]
theorem Has1.part {a b g : Nat} {y : Int} (hg : g < D.gl.length) (hp : hasB (ints (partL D a b y)) g = true) : seenB (fn x) g y a = true ∧ seenB (fn x) g y b = false := by
 unfold partL at hp
 rw [has_filter hg, ← tell_all, List.all_eq_true] at hp
 have h2 := hp x h.mem
 unfold tellP at h2
 simpa using h2
theorem Has1.used {i g : Nat} (hi : i < D.dr.length) (hg : g < D.gl.length) (ht : thrB D (fn x) (rd_T72 D.dr (i : Int)) g = true) : hasB (ints (usedF D (i : Int))) g = true := by
 rw [usedF_eq (enter_yes h.yes (ask_used hi)), has_filter hg, List.any_eq_true]
 exact ⟨x, h.mem, ht⟩
end
theorem told_has {D : Dat} (hc : (checkF D).2.2 = 0) {l : List Int} (hl : U8 l) : Has1 (toldD D l) (V8 (trT D l)) := ⟨told_check hc l, told_mem hc l hl 0⟩
theorem told_used {D : Dat} (hc : (checkF D).2.2 = 0) {l : List Int} (hl : U8 l) {i : Nat} (hi : i < D.dr.length) : hasB (ints (usedF (toldD D l) (i : Int))) (gI D l i) = true := by
 have hlen : (toldD D l).dr.length = D.dr.length := by simp [toldD, wdr]
 refine (told_has hc hl).used (by rw [hlen]; exact hi) (gI_lt hc l hi) ?_
 rw [told_rd hc l hi]
 exact told_thr hc l hi
def mixT (D : Dat) (l : List Int) (k : Nat) : List Dr := (List.range D.dr.length).map fun j => if j < k then drT D l j else rd_T72 D.dr (j : Int)
theorem mixT_len (D : Dat) (l : List Int) (k : Nat) : (mixT D l k).length = D.dr.length := by simp [mixT]
theorem mixT_get (D : Dat) (l : List Int) (k j : Nat) (hj : j < D.dr.length) (h' : j < (mixT D l k).length) : (mixT D l k)[j] = if j < k then drT D l j else rd_T72 D.dr (j : Int) := by simp [mixT]
theorem mixT_0 (D : Dat) (l : List Int) : mixT D l 0 = D.dr := by
 refine List.ext_getElem (mixT_len D l 0) fun i h1 h2 => ?_
 rw [mixT_get D l 0 i h2 h1, if_neg (by omega), dr_at _ _ h2]
theorem mixT_all (D : Dat) (l : List Int) : mixT D l D.dr.length = (List.range D.dr.length).map (drT D l) := by
 refine List.ext_getElem (by simp [mixT]) fun i h1 h2 => ?_
 have h3 : i < D.dr.length := by simpa using h2
 rw [mixT_get D l _ i h3 h1, if_pos h3]; simp
theorem mixT_set (D : Dat) (l : List Int) {k : Nat} (hk : k < D.dr.length) : (mixT D l k).set k (drT D l k) = mixT D l (k + 1) := by
 refine List.ext_getElem (by simp [mixT]) fun i h1 h2 => ?_
 have h3 : i < D.dr.length := by simpa [mixT] using h2
 rw [List.getElem_set, mixT_get D l (k + 1) i h3 h2]
 by_cases e : k = i
 ·
  subst e; rw [if_pos rfl, if_pos (by omega)]
 ·
  rw [if_neg e, mixT_get D l k i h3 (by simpa [mixT] using h3)]
  by_cases h4 : i < k
  ·
   rw [if_pos h4, if_pos (by omega)]
  ·
   rw [if_neg h4, if_neg (by omega)]
theorem mixT_rd (D : Dat) (l : List Int) {k : Nat} (hk : k < D.dr.length) : rd_T72 (mixT D l k) (k : Int) = rd_T72 D.dr (k : Int) := by
 have h' : k < (mixT D l k).length := by rw [mixT_len]; exact hk
 rw [dr_at _ _ h', mixT_get D l k k hk h', if_neg (by omega)]
def glsT (D : Dat) (l : List Int) (k : Nat) : List Int := (List.range k).map fun j => (gI D l j : Int)
theorem glsT_len (D : Dat) (l : List Int) (k : Nat) : (glsT D l k).length = k := by simp [glsT]
theorem glsT_succ (D : Dat) (l : List Int) (k : Nat) : glsT D l (k + 1) = glsT D l k ++ [(gI D l k : Int)] := by simp [glsT, List.range_succ]
theorem glsT_rd (D : Dat) (l : List Int) {k i : Nat} (h : i < k) : rd (glsT D l k) (i : Int) = (gI D l i : Int) := by
 simp [rd, glsT, List.getD_eq_getElem?_getD, List.getElem?_map, List.getElem?_range h]
theorem gI_unknown {D : Dat} {l : List Int} (hl : U8 l) {i : Nat} (h : (rd_T72 D.dr (i : Int)).f0 = -1) : Int.tmod (turnV l (8 + i)) (D.gl.length : Int) = (gI D l i : Int) := by
 have h0 := (turnV_in hl (8 + i)).1
 unfold gI
 rw [if_pos h]
 obtain ⟨m, hm⟩ : ∃ m : Nat, turnV l (8 + i) = (m : Int) := ⟨(turnV l (8 + i)).toNat, by omega⟩
 rw [hm, Int.toNat_natCast]; exact (Int.ofNat_tmod _ _).symm
theorem gI_known {D : Dat} (hV : Valid D) {l : List Int} {i : Nat} (hi : i < D.dr.length) (h : (rd_T72 D.dr (i : Int)).f0 ≠ -1) : (rd_T72 D.dr (i : Int)).f0 = (gI D l i : Int) := by
 have hb := hV.dr i hi
 unfold gI
 rw [if_neg h]; omega
structure TP (N : Dat) (x LE : List Int) (du : Int) (SI GL : List Int) : Prop where
 has : Has1 N x
 ll : LE.length = N.gl.length
 ls : SI.length = N.sp.length
 lg : GL.length = N.dr.length
 least : ∀ g, g < N.gl.length → rd LE (g : Int) = fn x g
 dull : du = fn x 3
 size : ∀ a, a < N.sp.length → rd SI (a : Int) = fn x (4 + a)
 seen : ∀ a g (y : Int), a < N.sp.length → g < N.gl.length → 0 ≤ y ∧ y ≤ 9 → r7_Seen.f LE du SI [] (a : Int) (g : Int) y = some (seenB (fn x) g y a)
 used : ∀ i, i < N.dr.length → ∃ g : Nat, g < N.gl.length ∧ rd GL (i : Int) = (g : Int) ∧ hasB (ints (usedF N (i : Int))) g = true
 wrong : wrongF N = ([], 0)
theorem told_tp {D : Dat} (hc : (checkF D).2.2 = 0) {l : List Int} (hl : U8 l) : TP (toldD D l) (V8 (trT D l)) (leastT D l) (dullT D l) (sizesT D l) (glsT D l D.dr.length) := by
 have hV := (check_valid hc).1
 have hall := trT_all hV hl
 have hdr : (toldD D l).dr.length = D.dr.length := by simp [toldD, wdr]
 exact {
  has := told_has hc hl
  ll := by simp [leastT, toldD, wdr]
  ls := by simp [sizesT, toldD, wdr]
  lg := by rw [glsT_len, hdr]
  least := fun g hg => V_least hV hall hg
  dull := V_dull hV hall
  size := fun a ha => V_size hV hall ha
  seen := fun a g y ha hg hy => rSeen hV hall [] ha hg hy
  used := fun i hi => ⟨gI D l i, gI_lt hc l (by rw [← hdr]; exact hi), glsT_rd D l (by rw [← hdr]; exact hi), told_used hc hl (by rw [← hdr]; exact hi)⟩
  wrong := told_wrong hc l hl }
end Go.Proofs.Ytgoidclnccjdeaa.D
end
section
/- Package glass: rows of drawings and of spans, copied by append. -/
namespace Go.Proofs.Ytgoidclnccjdeaa.D
open Go Go.RowKit Go.Proofs.YtgoidclnccjdeaaK Go.Proofs.YtgoidclnccjdeaaW.PrintWords Go.Proofs.YtgoidclnccjdeaaW.PrintLast Go.Proofs.YtgoidclnccjdeaaW.PrintMore Go.Proofs.Ytgoidclnccjdeaa.PR Go.Proofs.Ytgoidclnccjdeaa.M
set_option linter.unusedVariables false
set_option linter.unusedSimpArgs false
def encR (x : Dr) : List Value := [.int .i64 x.f0, .int .i64 x.f1, .int .i64 x.f2]
theorem infoDr : ∃ i, Try.prog.info? 72 = some i ∧ i.zero = some (.agg #[(.int .i64 0), (.int .i64 0), (.int .i64 0)]) ∧ i.size = 3 ∧ i.bytes = 24 := by
 have h : (Try.prog.info? 72).map (fun i => (i.zero, i.size, i.bytes)) = some (some (.agg #[(.int .i64 0), (.int .i64 0), (.int .i64 0)]), 3, 24) := by kernel_rfl
 cases hi : Try.prog.info? 72 with
 | none => rw [hi] at h; cases h
 | some i => rw [hi] at h; simp at h; exact ⟨i, rfl, h.1, h.2.1, h.2.2⟩
theorem encR_one (x : Dr) : ∀ u ∈ encR x, u.oneCell' = true := by simp [encR, Value.oneCell']
theorem own_form {w : World} {base e sz n k : Nat} {v : Value} {cs : List Value} (h : w.ownsRow base e sz v n cs) (hk : v.ownBlock = some k) : ∃ c, v = .slice (some ⟨k, 0, none⟩) n c := by
 rcases h.2 with ⟨rfl, _⟩ | ⟨g, cap, cur, rfl, _⟩
 ·
  simp [Value.ownBlock] at hk
 ·
  simp [Value.ownBlock] at hk
  subst hk
  exact ⟨_, rfl⟩
theorem append_drs {w : World} {base ty g m c0 k0 : Nat} {ys : List Dr} (hm : m = ys.length) (hown : w.ownsRow base 72 3 (.slice (some ⟨g, 0, none⟩) m c0) ys.length (ys.flatMap encR)) {A : Option Addr} {c n : Nat} {xs : List Dr} (hx : n = xs.length)
  (h : Kd.C k72 w A xs.length xs) (hk0 : k0 = ys.length + xs.length) (hn : (ys.length + xs.length) * 24 ≤ 140737488355328) (hbase : base ≤ w.heap.size) :
  ∃ g' c' w', (Builtin.append_ #[26, 26] ty #[.slice (some ⟨g, 0, none⟩) m c0, .slice A n c]).run Try.prog w = .ok (.slice (some ⟨g', 0, none⟩) k0 c') w' ∧ base ≤ g' ∧ w'.ownsRow base 72 3 (.slice (some ⟨g', 0, none⟩) k0 c') (ys ++ xs).length ((ys ++ xs).flatMap encR) ∧ Below base w w' ∧ w.grownBy w' (some g) := by
 subst hm hx hk0
 obtain ⟨i, hi, hz, hs, hb⟩ := infoDr
 obtain ⟨v', w', hr, ho, hg, hb'⟩ := append_row (ty := ty) (d := k72) (enc := encR) (fun w x cs hK => k72_open hK) (fun _ => rfl) encR_one Try.underlying26 hi hz hs hb rfl (by decide) (by decide) hown h hn hbase (fun hA => by
  have hx0 := C_some h hA
  have hle := own_le hown
  rw [hx0]
  exact append_none (z := .int .i64 0) Try.underlying26 hi g _ c0 c hle)
 obtain ⟨k, hk⟩ : ∃ k, v'.ownBlock = some k := by rcases hb' with e | e <;> exact ⟨_, e⟩
 obtain ⟨c', rfl⟩ := own_form ho hk
 rw [List.length_append] at hr ho
 refine ⟨k, c', w', hr, own_base ho k rfl, by rw [List.length_append]; exact ho, (Below.refl base w).grown hg hbase (fun k' e => own_base hown k' e), hg⟩
theorem drs_read {w : World} {base : Nat} {v : Value} {xs : List Dr} (h : w.ownsRow base 72 3 v xs.length (xs.flatMap encR)) (hn : xs.length ≤ 9223372036854775807) : ∃ A c, v = .slice A xs.length c ∧ xs.length ≤ c ∧ Kd.C k72 w A xs.length xs :=
 row_read (d := k72) (enc := encR) (fun w x => k72_mk w x) (fun _ => rfl) h hn
theorem drs_C {w : World} {base n c : Nat} {A : Option Addr} {xs : List Dr} (h : w.ownsRow base 72 3 (.slice A n c) xs.length (xs.flatMap encR)) (hn : xs.length ≤ 9223372036854775807) : Kd.C k72 w A xs.length xs := by
 obtain ⟨A1, c1, e, _, h2⟩ := drs_read h hn; cases e; exact h2
theorem list_drs {ops : Array Oper} {rest : List Oper} {o : Oper} {a : Act} {W : World} {Q : Exit → Act → World → Prop} {base g m c0 c n k0 : Nat} {A : Option Addr} {ys xs : List Dr} (hgd : o.guard = none) (s x : Operand)
  (ho : o.op = .call { callee := .builtin .append, args := #[s, x], argTypes := #[26, 26] }) (hs : a.eval s = .slice (some ⟨g, 0, none⟩) m c0) (hx : a.eval x = .slice A n c) (hm : m = ys.length) (hn : n = xs.length) (hk0 : k0 = ys.length + xs.length)
  (hown : W.ownsRow base 72 3 (.slice (some ⟨g, 0, none⟩) m c0) ys.length (ys.flatMap encR)) (hC : Kd.C k72 W A xs.length xs) (hl : (ys.length + xs.length) * 24 ≤ 140737488355328) (hb : base ≤ W.heap.size)
  (hk : ∀ g' c' w', base ≤ g' → w'.ownsRow base 72 3 (.slice (some ⟨g', 0, none⟩) k0 c') (ys ++ xs).length ((ys ++ xs).flatMap encR) → Below base W w' → W.grownBy w' (some g) → wpList Try.prog ops Q rest (a.put o.dst (.slice (some ⟨g', 0, none⟩) k0 c')) w') :
  wpList Try.prog ops Q (o :: rest) a W := by
 obtain ⟨g', c', w', hr, h1, h2, h3, h4⟩ := append_drs (ty := o.type) hm hown hn hC hk0 hl hb
 exact list_run hgd s x 26 ho hs hx hr (hk g' c' w' h1 h2 h3 h4)
end Go.Proofs.Ytgoidclnccjdeaa.D
end
section
/- Package glass: the law's Told. -/
namespace Go.Proofs.Ytgoidclnccjdeaa.D
open Go Go.RowKit Go.Proofs.YtgoidclnccjdeaaK Go.Proofs.YtgoidclnccjdeaaW.PrintWords Go.Proofs.YtgoidclnccjdeaaW.PrintLast Go.Proofs.YtgoidclnccjdeaaW.PrintMore Go.Proofs.Ytgoidclnccjdeaa.PR Go.Proofs.Ytgoidclnccjdeaa.M
set_option linter.unusedVariables false
set_option linter.unusedSimpArgs false
def ToldPost (D : Dat) (A0 : Option Addr) (c0 : Nat) (A3 : Option Addr) (c3 : Nat) (l : List Int) (w : World) (e : Ending) (w' : World) : Prop :=
 ∃ (A4' : Option Addr) (c4' : Nat) (AL : Option Addr) (cL : Nat) (AS : Option Addr) (cS : Nat) (A9 : Option Addr) (c9 : Nat) (AG : Option Addr) (cG : Nat),
  e = .returned (.tuple #[.agg ((toldD D l).cells A0 c0 A3 c3 A4' c4'), .agg #[.slice AL (leastT D l).length cL, .int .i64 (dullT D l), .slice AS (sizesT D l).length cS, .slice A9 0 c9], .slice AG (glsT D l D.dr.length).length cG]) ∧
  Arg w' (toldD D l) A0 c0 A3 c3 A4' c4' ∧ (Kd.C (Kd.int .i64) w' AL (leastT D l).length (leastT D l) ∧ (leastT D l).length ≤ cL) ∧ (Kd.C (Kd.int .i64) w' AS (sizesT D l).length (sizesT D l) ∧ (sizesT D l).length ≤ cS) ∧
  (Kd.C (Kd.int .i64) w' AG (glsT D l D.dr.length).length (glsT D l D.dr.length) ∧ (glsT D l D.dr.length).length ≤ cG) ∧ Below w.heap.size w w'
theorem own_same {w w' : World} {b e sz g n c m : Nat} {xs : List Value} (h : w.ownsRow b e sz (.slice (some ⟨g, 0, none⟩) n c) m xs) (hs : w'.heap[g]? = w.heap[g]?) : w'.ownsRow b e sz (.slice (some ⟨g, 0, none⟩) n c) m xs := by
 refine ⟨h.1, ?_⟩
 rcases h.2 with ⟨h1, _⟩ | ⟨g', cap, cur, e1, e2, e3, r⟩
 ·
  cases h1
 ·
  cases e1; exact .inr ⟨_, _, _, rfl, e2, hs.trans e3, r⟩
theorem Keep.chg {n0 : Nat} {w0 w w' : World} {S : Nat → Prop} (h : Keep n0 w0 w) (hc : Chg S w w') (hs : ∀ k, n0 ≤ k → k < w0.heap.size → ¬ S k) : Keep n0 w0 w' :=
 ⟨Nat.le_trans h.size hc.size, fun k h1 h2 => (hc.block k (Nat.lt_of_lt_of_le h2 h.size) (hs k h1 h2)).trans (h.same k h1 h2)⟩
theorem R_kept {α : Type} {d : Kd α} {e n0 : Nat} {ok : Nat → Prop} {w w' : World} {v : Value} {xs : List α} (h : Kd.R d e w n0 ok v xs) (hk : Keep n0 w w') : Kd.R d e w' n0 ok v xs :=
 Kd.R_mono (Kd.R_step (Kd.R_bound h) (fun k hk1 hlt => hk.same k hk1.2.1 hlt)) (fun _ x => x.1)
theorem C_none {α : Type} (d : Kd α) (w : World) (A : Option Addr) : Kd.C d w A 0 ([] : List α) := ⟨rfl, by simp, fun h => absurd h (by simp)⟩
theorem results_two_tmp {P : Program} {fn : Func} {p p' q : Tmp} {ty ty' : TypeId} (h : fn.results = #[.cell p ty, .cell p' ty', .tmp q]) (tmps : Array Value) (w : World) (g g' : Nat) (t t' : TypeId) (cs cs' : Array Value) (fr fr' : Nat × Nat) (d d' : TypeDesc) (v : Value)
  (hp : tmps.getD p undef = .pointer (some ⟨g, 0, none⟩)) (hp' : tmps.getD p' undef = .pointer (some ⟨g', 0, none⟩)) (hv : tmps.getD q undef = v) (hg : w.heap[g]? = some (.cells cs t fr)) (hg' : w.heap[g']? = some (.cells cs' t' fr'))
  (hu : P.underlying ty = some d) (hd : (match d with | .struct _ | .array _ _ => true | _ => false) = true) (hu' : P.underlying ty' = some d') (hd' : (match d' with | .struct _ | .array _ _ => true | _ => false) = true) (hi : (P.info? ty).map (·.size) = some cs.size) (hi' : (P.info? ty').map (·.size) = some cs'.size) :
  (results fn tmps).run P w = .ok (.tuple #[.agg cs, .agg cs', v]) w := by
 have h1 : tmps[p]?.getD undef = .pointer (some ⟨g, 0, none⟩) := by simpa using hp
 have h1' : tmps[p']?.getD undef = .pointer (some ⟨g', 0, none⟩) := by simpa using hp'
 have hv' : tmps[q]?.getD undef = v := by simpa using hv
 simp [results, h, h1, h1', hv', asAddr, run_loadVar_row w g t ty cs fr d hg hu hd hi, run_loadVar_row w g' t' ty' cs' fr' d' hg' hu' hd' hi']
theorem infoShelf5 : (Try.prog.info? 28).map (·.size) = some 5 := by kernel_rfl
theorem infoTruth4 : (Try.prog.info? 56).map (·.size) = some 4 := by kernel_rfl
theorem i3t : ∃ i, Try.prog.info? 3 = some i ∧ i.zero = some (.int .i64 0) ∧ i.size = 1 ∧ i.bytes = 8 := by
 have h : (Try.prog.info? 3).map (fun i => (i.zero, i.size, i.bytes)) = some (some (.int .i64 0), 1, 8) := by kernel_rfl
 cases hi : Try.prog.info? 3 with
 | none => rw [hi] at h; cases h
 | some i => rw [hi] at h; simp at h; exact ⟨i, rfl, h.1, h.2.1, h.2.2⟩

set_option maxRecDepth 100000 in
set_option maxHeartbeats 4000000 in
theorem Told_calls (D : Dat) (A0 : Option Addr) (c0 : Nat) (A3 : Option Addr) (c3 : Nat) (A4 : Option Addr) (c4 : Nat) (A5 : Option Addr) (c5 : Nat) (l : List Int) (w : World) (h : Arg w D A0 c0 A3 c3 A4 c4) (hc5 : l.length ≤ c5) (hC5 : Kd.C (Kd.int .u8) w A5 l.length l) (hu : U8 l) (hck : (checkF D).2.2 = 0) :
  Calls Try.prog 40 #[.agg (D.cells A0 c0 A3 c3 A4 c4), .slice A5 l.length c5] w (ToldPost D A0 c0 A3 c3 l w) := by
 have HS := Aside0.mk (blk_alloc (blk_alloc (blk_new w (.cells (D.cells A0 c0 A3 c3 A4 c4) 28)) (.cells #[.slice none 0 0, .int .i64 0, .int .i64 0, .slice none 0 0, .slice none 0 0] 28)) (.cells #[.slice none 0 0, .int .i64 0, .slice none 0 0, .slice none 0 0] 56))
 have HZA := Aside0.mk (blk_alloc (new_at (W := (w.alloc (.cells (D.cells A0 c0 A3 c3 A4 c4) 28))) (n := w.heap.size + 1) (by simp) (.cells #[.slice none 0 0, .int .i64 0, .int .i64 0, .slice none 0 0, .slice none 0 0] 28)) (.cells #[.slice none 0 0, .int .i64 0, .slice none 0 0, .slice none 0 0] 56))
 have HZB := Aside0.mk (new_at (W := ((w.alloc (.cells (D.cells A0 c0 A3 c3 A4 c4) 28)).alloc (.cells #[.slice none 0 0, .int .i64 0, .int .i64 0, .slice none 0 0, .slice none 0 0] 28))) (n := w.heap.size + 1 + 1) (by simp) (.cells #[.slice none 0 0, .int .i64 0, .slice none 0 0, .slice none 0 0] 56))
 have HB := Aside0.mk (below_alloc (below_alloc (below_alloc (Below.refl w.heap.size w) (.cells (D.cells A0 c0 A3 c3 A4 c4) 28)) (.cells #[.slice none 0 0, .int .i64 0, .int .i64 0, .slice none 0 0, .slice none 0 0] 28)) (.cells #[.slice none 0 0, .int .i64 0, .slice none 0 0, .slice none 0 0] 56))
 have HA := Aside0.mk h
 have HL5 := Aside0.mk hc5
 have HC5 := Aside0.mk hC5
 have HU := Aside0.mk hu
 have HCK := Aside0.mk hck
 have HV := Aside0.mk (check_valid hck).1
 clear hc5 hC5 hu hck
 have hd4 := HV.out.d4
 have hg1 := HV.out.g1
 have hg3 := HV.out.g3
 obtain ⟨KT, hKT⟩ := (rTruly HV.out HU.out).rounds
 clear h
 obtain ⟨q, hq⟩ : ∃ q, w.heap.size = q := ⟨_, rfl⟩
 have HKT := Aside0.mk hKT
 go_enter Try.func40, Try.ntmps40
 go_upto_region 1 with (fail)
 generalize ((w.alloc (.cells (D.cells A0 c0 A3 c3 A4 c4) 28)).alloc (.cells #[.slice none 0 0, .int .i64 0, .int .i64 0, .slice none 0 0, .slice none 0 0] 28)).alloc (.cells #[.slice none 0 0, .int .i64 0, .slice none 0 0, .slice none 0 0] 56) = w1 at HS HZA HZB HB ⊢
 rw [hq] at HS HZA HZB
 try rw [hq]
 have HQQ := Aside0.mk hq
 have HQN := Aside0.mk (blk_lt HZB.out)
 have k0 := (blk_cell HS.out 0).trans rfl
 have k1 := (blk_cell HS.out 1).trans rfl
 have k2 := (blk_cell HS.out 2).trans rfl
 have k3 := (blk_cell HS.out 3).trans rfl
 have k4 := (blk_cell HS.out 4).trans rfl
 have kl := blk_lt HS.out
 have z0 := (blk_cell HZA.out 0).trans rfl
 have z1 := (blk_cell HZA.out 1).trans rfl
 have z2 := (blk_cell HZA.out 2).trans rfl
 have z3 := (blk_cell HZA.out 3).trans rfl
 have z4 := (blk_cell HZA.out 4).trans rfl
 have zl := blk_lt HZA.out
 have u0 := (blk_cell HZB.out 0).trans rfl
 have u1 := (blk_cell HZB.out 1).trans rfl
 have u2 := (blk_cell HZB.out 2).trans rfl
 have u3 := (blk_cell HZB.out 3).trans rfl
 have ul := blk_lt HZB.out
 go_wp2_with fail
 clear k0 k1 k2 k3 k4 kl z0 z1 z2 z3 z4 zl u0 u1 u2 u3 ul
 have hA := HA.out.below HB.out
 obtain ⟨n0, hn0⟩ : ∃ n, w1.heap.size = n := ⟨_, rfl⟩
 rw [hn0] at HQN
 refine (helioscopelaw07_Truly.calls KT A0 c0 D.gl D.lo D.hi A3 c3 D.sp A4 c4 D.dr A5 c5 l (leastT D l) (dullT D l) (sizesT D l) [] w1 hA.g hA.gc hA.s hA.sc hA.d hA.dc (Kd.C_below HC5.out HB.out) HL5.out HKT.out).mono ?_
 clear hA
 rintro e w2 ⟨v0, v2, v3, rfl, hr0, hr2, hr3, hb⟩
 obtain ⟨AL, cL, rfl⟩ := Kd.R_slice hr0
 obtain ⟨AS, cS, rfl⟩ := Kd.R_slice hr2
 obtain ⟨A9, c9, h9⟩ := Kd.S_slice hr3
 rw [List.length_nil] at h9
 subst h9
 rw [hn0] at hr0 hr2
 obtain ⟨wT, hwT⟩ : ∃ z, w2 = z := ⟨_, rfl⟩
 have HKP : Aside0 (Keep n0 wT w2) := ⟨by rw [← hwT]; exact Keep.refl _ _⟩
 have hnT : n0 ≤ wT.heap.size := by rw [← hwT, ← hn0]; exact hb.size
 rw [hwT] at hr0 hr2
 have HR0 := Aside0.mk hr0
 have HR2 := Aside0.mk hr2
 have HNT := Aside0.mk hnT
 clear hr0 hr2 hr3 hn0 hwT hnT HKT
 replace HB := Aside0.mk (HB.out.trans (hb.mono HB.out.size))
 replace HS := Aside0.mk (blk_below HS.out hb)
 replace HZA := Aside0.mk (blk_below HZA.out hb)
 replace HZB := Aside0.mk (blk_below HZB.out hb)
 clear hb
 go_upto_region 2 with (fail)
 have hb : Below w2.heap.size w2 (w2.alloc (.cells #[.slice AL (leastT D l).length cL, .int .i64 (dullT D l), .slice AS (sizesT D l).length cS, .slice A9 0 c9] 56)) := below_alloc (Below.refl _ _) _
 have n1 := Aside0.mk (blk_new w2 (.cells #[.slice AL (leastT D l).length cL, .int .i64 (dullT D l), .slice AS (sizesT D l).length cS, .slice A9 0 c9] 56))
 have hlT : Aside0 (q + 1 + 1 < w2.heap.size) := ⟨blk_lt HZB.out⟩
 replace HB := Aside0.mk (HB.out.trans (hb.mono HB.out.size))
 replace HS := Aside0.mk (blk_below HS.out hb)
 replace HZA := Aside0.mk (blk_below HZA.out hb)
 replace HZB := Aside0.mk (blk_below HZB.out hb)
 replace HKP := Aside0.mk (HKP.out.below hb)
 clear hb
 obtain ⟨T, hT⟩ : ∃ b, w2.heap.size = b := ⟨_, rfl⟩
 rw [hT] at n1 hlT ⊢
 generalize (w2.alloc (.cells #[.slice AL (leastT D l).length cL, .int .i64 (dullT D l), .slice AS (sizesT D l).length cS, .slice A9 0 c9] 56)) = w3 at HB HS HZA HZB HKP n1 ⊢
 clear hT
 have HT := n1
 clear n1
 have HAd := Aside0.mk (HA.out.below HB.out)
 have k0 := (blk_cell HS.out 0).trans rfl
 have k1 := (blk_cell HS.out 1).trans rfl
 have k2 := (blk_cell HS.out 2).trans rfl
 have k3 := (blk_cell HS.out 3).trans rfl
 have k4 := (blk_cell HS.out 4).trans rfl
 have kl := blk_lt HS.out
 have kf4 := blk_frozen HS.out 4
 go_upto_region 3 with ((at_builtin; go_loud (refine list_drs (base := w3.heap.size) (ys := []) (xs := D.dr) (n := D.dr.length) (k0 := D.dr.length) rfl (.tmp 15) (.tmp 17) rfl rfl rfl rfl rfl (by simp) (own_new0 (Nat.le_refl _)) (Kd.C_below HAd.out.d (below_alloc (Below.refl _ _) _)) (by simp; omega) (by simp) ?_); intro g39 c39 wq hgg ho hz hr; have hz2 := (below_alloc (Below.refl w3.heap.size w3) (.cells #[] 72)).trans hz; have HR2_ := Aside0.mk (blk_below HS.out hz2); have m4 := (blk_cell HR2_.out 4).trans rfl; have f4 := blk_frozen HR2_.out 4; have ml := blk_lt HR2_.out))
 clear k0 k1 k2 k3 k4 kl kf4
 have hTB := blk_lt HT.out
 have hqT := hlT.out
 have hqn := HQN.out
 have n1 := blk_set HR2_.out 4 (.slice (some ⟨g39, 0, none⟩) D.dr.length c39)
 have n2 := blk_far (p := ⟨q, 4, none⟩) (blk_below HZA.out hz2) (show q + 1 ≠ q by omega) (.slice (some ⟨g39, 0, none⟩) D.dr.length c39)
 have n3 := blk_far (p := ⟨q, 4, none⟩) (blk_below HZB.out hz2) (show q + 1 + 1 ≠ q by omega) (.slice (some ⟨g39, 0, none⟩) D.dr.length c39)
 have n4 := blk_far (p := ⟨q, 4, none⟩) (blk_below HT.out hz2) (show T ≠ q by omega) (.slice (some ⟨g39, 0, none⟩) D.dr.length c39)
 have n5 := own_far ho (p := ⟨q, 4, none⟩) (show q < w3.heap.size by omega) (.slice (some ⟨g39, 0, none⟩) D.dr.length c39)
 have n6 : Keep n0 wT (wq.setCell ⟨q, 4, none⟩ (.slice (some ⟨g39, 0, none⟩) D.dr.length c39)) := (HKP.out.below hz2).set (.inl (show q < n0 by omega)) _
 have n7 : Below w.heap.size w (wq.setCell ⟨q, 4, none⟩ (.slice (some ⟨g39, 0, none⟩) D.dr.length c39)) := below_set (HB.out.trans (hz2.mono HB.out.size)) (Nat.le_of_eq HQQ.out)
 have n8 : wT.heap.size ≤ w3.heap.size := HKP.out.size
 have n9 : g39 < (wq.setCell ⟨q, 4, none⟩ (.slice (some ⟨g39, 0, none⟩) D.dr.length c39)).heap.size := by simp only [World.setCell, Array.size_modify]; obtain ⟨_, hr2⟩ := ho; rcases hr2 with ⟨h1, _⟩ | ⟨g', cap, cur, e1, e2, e3, r⟩; cases h1; cases e1; exact blk_lt e3
 have n10 : T < (wq.setCell ⟨q, 4, none⟩ (.slice (some ⟨g39, 0, none⟩) D.dr.length c39)).heap.size := by have := hz2.size; simp only [World.setCell, Array.size_modify]; omega
 have ho2 : D.dr.length ≤ c39 := by obtain ⟨_, hr2⟩ := ho; rcases hr2 with ⟨h1, _⟩ | ⟨g', cap, cur, e1, e2, e3, e4, r⟩; cases h1; cases e1; exact e4
 obtain ⟨B, hB⟩ : ∃ b, w3.heap.size = b := ⟨_, rfl⟩
 rw [hB] at n5 hgg hTB n8
 generalize (wq.setCell ⟨q, 4, none⟩ (.slice (some ⟨g39, 0, none⟩) D.dr.length c39)) = wA at n1 n2 n3 n4 n5 n6 n7 n9 n10 ⊢
 clear m4 f4 ml HR2_ ho hz hr hz2 HS HZA HZB HT HB HKP hB HAd
 have HS : Aside0 (wA.heap[q]? = some (.cells #[.slice A0 D.gl.length c0, .int .i64 D.lo, .int .i64 D.hi, .slice A3 D.sp.length c3, (.slice (some ⟨g39, 0, none⟩) D.dr.length c39)] 28 (0, 0))) := ⟨n1⟩
 have HZA := Aside0.mk n2
 have HZB := Aside0.mk n3
 have HT := Aside0.mk n4
 skip
 have HO : Aside0 (wA.ownsRow B 72 3 (.slice (some ⟨g39, 0, none⟩) D.dr.length c39) D.dr.length ((mixT D l 0).flatMap encR)) := ⟨by rw [mixT_0]; exact n5⟩
 have HKP := Aside0.mk n6
 have HB := Aside0.mk n7
 have HGB := Aside0.mk (And.intro hgg (And.intro hTB (And.intro hqT (And.intro n8 (And.intro n9 n10)))))
 have HC39 := Aside0.mk ho2
 clear n1 n2 n3 n4 n5 n6 n7 n8 n9 n10 hgg hTB hqT hqn hlT ho2
 obtain ⟨nL, hnL⟩ : ∃ n, wA.heap.size = n := ⟨_, rfl⟩
 have HNL : Aside0 (nL ≤ wA.heap.size) := ⟨Nat.le_of_eq hnL.symm⟩
 rw [hnL] at HGB
 clear hnL
 obtain ⟨i, hi, hz, hsz, hby⟩ := i3t
 have HI := Aside0.mk hi
 clear hi
 have k0 := (blk_cell HS.out 0).trans rfl
 have k1 := (blk_cell HS.out 1).trans rfl
 have k2 := (blk_cell HS.out 2).trans rfl
 have k3 := (blk_cell HS.out 3).trans rfl
 have k4 := (blk_cell HS.out 4).trans rfl
 have kl := blk_lt HS.out
 go_wp2_with fail
 clear k0 k1 k2 k3 k4 kl
 go_loopw [8, 9] (fun v8 j wr => ∃ (k : Nat) (gv : Value), k ≤ D.dr.length ∧ gv = v8 ∧ j = .int .i64 k ∧ Aside0 (Row wr nL 3 gv (glsT D l k)) ∧ Aside0 (wr.heap[q]? = some (.cells #[.slice A0 D.gl.length c0, .int .i64 D.lo, .int .i64 D.hi, .slice A3 D.sp.length c3, (.slice (some ⟨g39, 0, none⟩) D.dr.length c39)] 28 (0, 0))) ∧ Aside0 (wr.ownsRow B 72 3 (.slice (some ⟨g39, 0, none⟩) D.dr.length c39) D.dr.length ((mixT D l k).flatMap encR)) ∧ Aside0 (wr.heap[T]? = some (.cells #[.slice AL (leastT D l).length cL, .int .i64 (dullT D l), .slice AS (sizesT D l).length cS, .slice A9 0 c9] 56 (0, 0))) ∧ Aside0 (wr.heap[q + 1]? = some (.cells #[.slice none 0 0, .int .i64 0, .int .i64 0, .slice none 0 0, .slice none 0 0] 28 (0, 0))) ∧ Aside0 (wr.heap[q + 1 + 1]? = some (.cells #[.slice none 0 0, .int .i64 0, .slice none 0 0, .slice none 0 0] 56 (0, 0))) ∧ Aside0 (Below w.heap.size w wr) ∧ Aside0 (Keep n0 wT wr) ∧ Aside0 (nL ≤ wr.heap.size)) (fun _ j _ => D.dr.length - (intOf j).toNat)
 case atStart => exact ⟨0, _, Nat.zero_le _, rfl, rfl, ⟨Row.nil _ _ _⟩, HS, HO, HT, HZA, HZB, HB, HKP, HNL⟩
 case round =>
  clear HS HO HT HZA HZB HB HKP HNL
  obtain ⟨k, gv, hk, rfl, rfl, HO8, HS, HO, HT, HZA, HZB, HB, HKP, HNL⟩ := hrel
  by_cases hlt : k < D.dr.length
  ·
   obtain ⟨wb, hwb⟩ : ∃ z, wr = z := ⟨_, rfl⟩
   have HBr : Aside0 (Below wb.heap.size wb wr) := ⟨by rw [← hwb]; exact Below.refl _ _⟩
   have HS0 := HS
   have HT0 := HT
   have HO0 := HO
   have HB0 := HB
   have HK0 := HKP
   rw [hwb] at HS0 HT0 HO0 HB0 HK0 HO8 HZA HZB HNL
   clear HKP hwb
   have hC9 := drs_C (xs := mixT D l k) (by rw [mixT_len]; exact HO.out) (by rw [mixT_len]; omega)
   obtain ⟨ad9, he9, y0, y1, y2⟩ := at_T72 hC9 (k : Int) (by omega) (by rw [mixT_len]; omega)
   cases he9
   rw [Int.toNat_natCast, add0, mixT_rd D l hlt] at y0
   rw [Int.toNat_natCast, add0, mixT_rd D l hlt] at y1 y2
   dsimp only at y1 y2
   clear hC9
   obtain ⟨Z, hZ⟩ : ∃ z, rd_T72 D.dr (k : Int) = z := ⟨_, rfl⟩
   rw [hZ] at y0 y1 y2
   have HZD := Aside0.mk hZ
   have hzb := HV.out.dr k hlt
   rw [hZ] at hzb
   have HZI := Aside0.mk hzb
   clear hZ hzb
   have q1 : (0 ≤ (k : Int)) = True := eq_true (by omega)
   have q2 : ((k : Int) < (D.dr.length : Int)) = True := eq_true (by omega)
   have k0 := (blk_cell HS.out 0).trans rfl
   have k1 := (blk_cell HS.out 1).trans rfl
   have k2 := (blk_cell HS.out 2).trans rfl
   have k3 := (blk_cell HS.out 3).trans rfl
   have k4 := (blk_cell HS.out 4).trans rfl
   have kl := blk_lt HS.out
   go_upto_region 8 with (fail)
   clear k0 k1 k2 k3 k4 kl y0 y1 y2 q1 q2
   have hb : Below wr.heap.size wr (wr.alloc (.cells #[.int .i64 Z.f0, .int .i64 Z.f1, .int .i64 Z.f2] 72)) := below_alloc (Below.refl _ _) _
   have n1 := Aside0.mk (blk_new wr (.cells #[.int .i64 Z.f0, .int .i64 Z.f1, .int .i64 Z.f2] 72))
   have hnP : Aside0 (wb.heap.size ≤ wr.heap.size) := ⟨HBr.out.size⟩
   replace HO := Aside0.mk (pw_own_below HO.out hb)
   replace HB := Aside0.mk (HB.out.trans (hb.mono HB.out.size))
   replace HS := Aside0.mk (blk_below HS.out hb)
   replace HT := Aside0.mk (blk_below HT.out hb)
   replace HBr := Aside0.mk (HBr.out.trans (hb.mono HBr.out.size))
   clear hb
   obtain ⟨P, hP⟩ : ∃ b, wr.heap.size = b := ⟨_, rfl⟩
   rw [hP] at n1 hnP ⊢
   generalize (wr.alloc (.cells #[.int .i64 Z.f0, .int .i64 Z.f1, .int .i64 Z.f2] 72)) = w100 at HB HS HT HBr HO n1 ⊢
   clear hP
   have HP := n1
   clear n1
   have hw8 : IntKind.i64.wrap (8 + (k : Int)) = 8 + (k : Int) := wrapI (by omega) (by omega)
   have hnz : ((D.gl.length : Int) == 0) = false := beq_eq_false_iff_ne.2 (by omega)
   have hnz1 : ¬ ((D.gl.length : Int) = 0) := by omega
   have hnz2 : ¬ (D.gl.length = 0) := by omega
   have HGI := Aside0.mk (gI_lt HCK.out l hlt)
   by_cases hz0 : Z.f0 = -1
   ·
    have hgi := gI_unknown HU.out (D := D) (i := k) (by rw [HZD.out]; exact hz0)
    have hb0 : (Z.f0 == -1) = true := by simp [hz0]
    have HGE := Aside0.mk hgi
    clear hgi hz0
    have ht8 := rTurn HU.out (8 + k)
    rw [show ((8 + k : Nat) : Int) = 8 + (k : Int) by omega] at ht8
    have HT8 := Aside0.mk ht8
    clear ht8
    obtain ⟨tv, htv⟩ : ∃ z, turnV l (8 + k) = z := ⟨_, rfl⟩
    rw [htv] at HGE HT8
    have HTV : Aside0 (0 ≤ tv ∧ tv ≤ 255) := ⟨by rw [← htv]; exact turnV_in HU.out _⟩
    clear htv
    have k0 := (blk_cell HS.out 0).trans rfl
    have k1 := (blk_cell HS.out 1).trans rfl
    have k2 := (blk_cell HS.out 2).trans rfl
    have k3 := (blk_cell HS.out 3).trans rfl
    have k4 := (blk_cell HS.out 4).trans rfl
    have kl := blk_lt HS.out
    have p0 := (blk_cell HP.out 0).trans rfl
    have p1 := (blk_cell HP.out 1).trans rfl
    have p2 := (blk_cell HP.out 2).trans rfl
    have pl := blk_lt HP.out
    go_upto_region 10 with (fail)
    have hC5 := Kd.C_below (Kd.C_below HC5.out (show Below w.heap.size w w100 from HB.out)) (Below.refl w100.heap.size w100)
    have QA : Aside0 (∀ n, Calls Try.prog 112 #[.slice A5 l.length c5, .int .i64 (8 + (k : Int))] (w100.drewN n) fun e w'' => e = .returned (.int .i64 tv) ∧ ∃ m, w'' = w100.drewN m) := ⟨fun n => Calls.quiet_of ((helioscopelaw07_turn.calls A5 c5 l (8 + (k : Int)) tv (w100.drewN n) (Kd.C_drewN hC5 n) HL5.out HT8.out).mono fun e w' h => by obtain ⟨h1, m, h2⟩ := h; exact ⟨h1, m, by first | exact h2 | exact h2.symm⟩)⟩
    clear hC5
    go_quiet ((go_at_call 112; with_reducible exact QA.out _))
    clear k0 k1 k2 k3 k4 kl p0 p1 p2 pl QA
    have hb : Below w100.heap.size w100 (w100.drewN nq) := pw_below_drewN (Below.refl _ _) _
    replace HO := Aside0.mk (pw_own_below HO.out hb)
    replace HB := Aside0.mk (HB.out.trans (hb.mono HB.out.size))
    replace HS := Aside0.mk (blk_below HS.out hb)
    replace HT := Aside0.mk (blk_below HT.out hb)
    replace HBr := Aside0.mk (HBr.out.trans (hb.mono HBr.out.size))
    replace HP := Aside0.mk (blk_below HP.out hb)
    clear hb
    generalize w100.drewN nq = w101 at HB HO HS HT HBr HP ⊢
    rw [HGE.out]
    clear hb0 hw8 hnz hnz1 hnz2
    obtain ⟨KB, hKB⟩ := (rBits HV.out (trT_all HV.out HU.out) [] HGI.out (y := Z.f1) ⟨HZI.out.2.2.1, HZI.out.2.2.2.1⟩).rounds
    obtain ⟨sb, hsb⟩ : ∃ s, seenTo (fn (V8 (trT D l))) (gI D l k) Z.f1 D.sp.length = s := ⟨_, rfl⟩
    rw [hsb] at hKB
    have HSB := Aside0.mk hsb
    have HKB := Aside0.mk hKB
    clear hsb hKB
    have hk2 := HK0.out.below HBr.out
    obtain ⟨_, hl0, hc0⟩ := Kd.R_reads' (R_kept HR0.out hk2)
    obtain ⟨_, hl2, hc2⟩ := Kd.R_reads' (R_kept HR2.out hk2)
    have HCL := Aside0.mk (And.intro hc0 hl0)
    have HCS := Aside0.mk (And.intro hc2 hl2)
    clear hk2 hl0 hl2 hc0 hc2
    have t0 := (blk_cell HT.out 0).trans rfl
    have t1 := (blk_cell HT.out 1).trans rfl
    have t2 := (blk_cell HT.out 2).trans rfl
    have t3 := (blk_cell HT.out 3).trans rfl
    have tl := blk_lt HT.out
    have p0 := (blk_cell HP.out 0).trans rfl
    have p1 := (blk_cell HP.out 1).trans rfl
    have p2 := (blk_cell HP.out 2).trans rfl
    have pl := blk_lt HP.out
    go_wp2_with fail
    clear t0 t1 t2 t3 tl p0 p1 p2 pl
    refine (r7_Bits.calls KB AL cL (leastT D l) (dullT D l) AS cS (sizesT D l) A9 c9 [] (gI D l k : Int) Z.f1 (sb : Int) w101 HCL.out.1 HCL.out.2 HCS.out.1 HCS.out.2 (C_none _ _ _) (Nat.zero_le _) HKB.out).mono ?_
    rintro e w102 ⟨rfl, hb⟩
    clear HCL HCS HKB
    replace HO := Aside0.mk (pw_own_below HO.out hb)
    replace HB := Aside0.mk (HB.out.trans (hb.mono HB.out.size))
    replace HS := Aside0.mk (blk_below HS.out hb)
    replace HT := Aside0.mk (blk_below HT.out hb)
    replace HBr := Aside0.mk (HBr.out.trans (hb.mono HBr.out.size))
    replace HP := Aside0.mk (blk_below HP.out hb)
    clear hb
    have p0 := (blk_cell HP.out 0).trans rfl
    have p1 := (blk_cell HP.out 1).trans rfl
    have p2 := (blk_cell HP.out 2).trans rfl
    have pl := blk_lt HP.out
    have pf2 := blk_frozen HP.out 2
    go_upto_region 12 with (fail)
    clear p0 p1 p2 pl pf2
    have hqP : q < P ∧ T < P ∧ g39 < P := by have := HGB.out; have := HNL.out; have := hnP.out; omega
    have n1 := Aside0.mk (blk_far (p := ⟨P, 2, none⟩) HS.out (show q ≠ P by omega) (.int .i64 (sb : Int)))
    have n2 := Aside0.mk (blk_far (p := ⟨P, 2, none⟩) HT.out (show T ≠ P by omega) (.int .i64 (sb : Int)))
    have n3 := Aside0.mk (blk_set HP.out 2 (.int .i64 (sb : Int)))
    have n4 : Aside0 (Below wb.heap.size wb (w102.setCell ⟨P, 2, none⟩ (.int .i64 (sb : Int)))) := ⟨below_set HBr.out hnP.out⟩
    have n5 : Aside0 ((w102.setCell ⟨P, 2, none⟩ (.int .i64 (sb : Int))).ownsRow B 72 3 (.slice (some ⟨g39, 0, none⟩) D.dr.length c39) D.dr.length ((mixT D l k).flatMap encR)) := ⟨own_same HO.out (Below.heap_setCell w102 ⟨P, 2, none⟩ (.int .i64 (sb : Int)) g39 (show g39 ≠ P by omega))⟩
    clear HS HT HP HB HBr HO
    generalize (w102.setCell ⟨P, 2, none⟩ (.int .i64 (sb : Int))) = w103 at n1 n2 n3 n4 n5 ⊢
    have HS := n1
    have HT := n2
    have HP : Aside0 (w103.heap[P]? = some (.cells #[.int .i64 Z.f0, .int .i64 Z.f1, (.int .i64 (sb : Int))] 72 (0, 0))) := n3
    have HBr := n4
    have HO := n5
    clear n1 n2 n3 n4 n5
    obtain ⟨g', hg39, hgB, _, _, hg9, cur, hcur, _, _⟩ := own_at HO.out (show 0 < D.dr.length by omega)
    cases hg39
    have hC9 := drs_C (xs := mixT D l k) (by rw [mixT_len]; exact HO.out) (by rw [mixT_len]; omega)
    obtain ⟨ad9, he9, y0, y1, y2⟩ := at_T72 hC9 (k : Int) (by omega) (by rw [mixT_len]; omega)
    cases he9
    rw [Int.toNat_natCast, add0] at y0
    rw [Int.toNat_natCast, add0] at y1 y2
    dsimp only at y1 y2
    have yf0 := blk_frozen hcur (k * 3)
    have yf1 := blk_frozen hcur (k * 3 + 1)
    have yf2 := blk_frozen hcur (k * 3 + 2)
    have q1 : (0 ≤ (k : Int)) = True := eq_true (by omega)
    have q2 : ((k : Int) < (D.dr.length : Int)) = True := eq_true (by omega)
    clear hC9 hcur
    have k0 := (blk_cell HS.out 0).trans rfl
    have k1 := (blk_cell HS.out 1).trans rfl
    have k2 := (blk_cell HS.out 2).trans rfl
    have k3 := (blk_cell HS.out 3).trans rfl
    have k4 := (blk_cell HS.out 4).trans rfl
    have kl := blk_lt HS.out
    have p0 := (blk_cell HP.out 0).trans rfl
    have p1 := (blk_cell HP.out 1).trans rfl
    have p2 := (blk_cell HP.out 2).trans rfl
    have pl := blk_lt HP.out
    go_upto_region 13 with (fail)
    clear p0 p1 p2 pl k0 k1 k2 k3 k4 kl y0 y1 y2 yf0 yf1 yf2 q1 q2 hgB
    have n1 := Aside0.mk (own_put3 (enc := encR) (fun _ => rfl) (mixT_len D l k) HO.out hlt (x := drT D l k) (c0 := .int .i64 Z.f0) (c1 := .int .i64 Z.f1) (c2 := .int .i64 (sb : Int)) (by unfold drT; rw [HZD.out, HSB.out]; rfl))
    rw [mixT_set D l hlt] at n1
    have n2 : Aside0 (Chg (fun x => x = g39) wb (((w103.setCell ⟨g39, k * 3, none⟩ (.int .i64 Z.f0)).setCell ⟨g39, k * 3 + 1, none⟩ (.int .i64 Z.f1)).setCell ⟨g39, k * 3 + 2, none⟩ (.int .i64 (sb : Int)))) := ⟨(((Chg.of_new HBr.out (fun x => x = g39)).setCell (p := ⟨g39, k * 3, none⟩) (fun _ => rfl) _).setCell (p := ⟨g39, k * 3 + 1, none⟩) (fun _ => rfl) _).setCell (p := ⟨g39, k * 3 + 2, none⟩) (fun _ => rfl) _⟩
    clear HS HT HP HBr HO hg9
    generalize ((w103.setCell ⟨g39, k * 3, none⟩ (.int .i64 Z.f0)).setCell ⟨g39, k * 3 + 1, none⟩ (.int .i64 Z.f1)).setCell ⟨g39, k * 3 + 2, none⟩ (.int .i64 (sb : Int)) = w104 at n1 n2 ⊢
    have HO := n1
    have HCG := n2
    clear n1 n2
    have hgL := HGB.out
    have hnl := HNL.out
    have HO9 : Aside0 (Row w104 nL 3 gv (glsT D l k)) := ⟨own_chg HO8.out HCG.out (fun x hx e => by have := (World.ownsRow.lt HO8.out x hx).1; omega)⟩
    clear HO8
    go_wp2_with (at_builtin; go_loud (refine wpList_append_own_at _ rfl (.tmp 55) (.tmp 57) 39 rfl nL 3 i (.int .i64 0) 1 8 Try.underlying39 HI.out hz hsz hby rfl (by decide) _ _ _ rfl (pw_own_below HO9.out (below_alloc (Below.refl _ _) _)) ⟨w104.heap.size, 0, none⟩ 1 1 [.int .i64 (gI D l k : Int)] rfl rfl (World.news_of_block (blk_new w104 (.cells #[.int .i64 (gI D l k : Int)] 3))) (by simp [Value.oneCell']) (by simp only [glsT_len, maxLen]; omega) (by simp only [glsT_len]; omega) (by have := HCG.out.size; simp; omega) ?_); intro v' w' ho hg _ hb')
    have hrow := own_base HO9.out
    have hc1 : Chg (fun x => nL ≤ x) w104 w' := ((Chg.refl _ w104).alloc (.cells #[.int .i64 (gI D l k : Int)] 3)).trans ((Chg.grown hg).mono (fun x _ hx => hrow x hx.symm))
    have hc2 := (HCG.out.mono (S' := fun x => x = g39 ∨ nL ≤ x) (fun x _ e => .inl e)).then_ hc1 (fun x _ hx => .inr hx)
    have ho2 : Aside0 (Row w' nL 3 v' (glsT D l (k + 1))) := ⟨by rw [glsT_succ]; unfold Row; rw [List.length_append, List.map_append]; exact ho⟩
    have e1 := Aside0.mk (hc2.heap HS0.out (by omega))
    have e2 := Aside0.mk (hc2.heap HT0.out (by omega))
    have e3 := Aside0.mk (hc2.heap HZA.out (by omega))
    have e4 := Aside0.mk (hc2.heap HZB.out (by omega))
    have e5 : Aside0 (w'.ownsRow B 72 3 (.slice (some ⟨g39, 0, none⟩) D.dr.length c39) D.dr.length ((mixT D l (k + 1)).flatMap encR)) := ⟨own_same HO.out (hc1.block g39 (Nat.lt_of_lt_of_le (Nat.lt_of_lt_of_le hgL.2.2.2.2.1 hnl) HCG.out.size) (by omega))⟩
    have hbw := HB0.out.size
    have hqq := HQQ.out
    have hkn := HK0.out.size
    have e6 : Aside0 (Below w.heap.size w w') := ⟨HB0.out.trans (hc2.below (fun x _ hx => by rcases hx with rfl | hx <;> omega) hbw)⟩
    have e7 : Aside0 (Keep n0 wT w') := ⟨HK0.out.chg hc2 (fun x h1 h2 hx => by rcases hx with rfl | hx <;> omega)⟩
    have e8 : Aside0 (nL ≤ w'.heap.size) := ⟨Nat.le_trans hnl hc2.size⟩
    clear hc1 hc2 ho hg hb' hrow HO9 HO HCG HO0 HS0 HT0 HZA HZB HB0 HK0 HNL hbw hqq hkn hgL hnl
    go_wp2_with fail
    go_roundw
    case rel => exact ⟨k + 1, _, by omega, rfl, by go_num, ho2, e1, e5, e2, e3, e4, e6, e7, e8⟩
    case measure => simp [intOf]; omega
   ·
    have hgi := gI_known HV.out (l := l) hlt (by rw [HZD.out]; exact hz0)
    rw [HZD.out] at hgi
    have hb0 : (Z.f0 == -1) = false := beq_eq_false_iff_ne.2 hz0
    have HGE := Aside0.mk hgi
    clear hgi hz0
    have k0 := (blk_cell HS.out 0).trans rfl
    have k1 := (blk_cell HS.out 1).trans rfl
    have k2 := (blk_cell HS.out 2).trans rfl
    have k3 := (blk_cell HS.out 3).trans rfl
    have k4 := (blk_cell HS.out 4).trans rfl
    have kl := blk_lt HS.out
    have p0 := (blk_cell HP.out 0).trans rfl
    have p1 := (blk_cell HP.out 1).trans rfl
    have p2 := (blk_cell HP.out 2).trans rfl
    have pl := blk_lt HP.out
    go_upto_region 11 with (fail)
    clear k0 k1 k2 k3 k4 kl p0 p1 p2 pl
    skip
    clear hb0
    obtain ⟨w101, hw101⟩ : ∃ z, w100 = z := ⟨_, rfl⟩
    rw [hw101] at HB HO HS HT HBr HP ⊢
    clear hw101 hw8 hnz hnz1 hnz2
    obtain ⟨KB, hKB⟩ := (rBits HV.out (trT_all HV.out HU.out) [] HGI.out (y := Z.f1) ⟨HZI.out.2.2.1, HZI.out.2.2.2.1⟩).rounds
    obtain ⟨sb, hsb⟩ : ∃ s, seenTo (fn (V8 (trT D l))) (gI D l k) Z.f1 D.sp.length = s := ⟨_, rfl⟩
    rw [hsb] at hKB
    have HSB := Aside0.mk hsb
    have HKB := Aside0.mk hKB
    clear hsb hKB
    have hk2 := HK0.out.below HBr.out
    obtain ⟨_, hl0, hc0⟩ := Kd.R_reads' (R_kept HR0.out hk2)
    obtain ⟨_, hl2, hc2⟩ := Kd.R_reads' (R_kept HR2.out hk2)
    have HCL := Aside0.mk (And.intro hc0 hl0)
    have HCS := Aside0.mk (And.intro hc2 hl2)
    clear hk2 hl0 hl2 hc0 hc2
    have t0 := (blk_cell HT.out 0).trans rfl
    have t1 := (blk_cell HT.out 1).trans rfl
    have t2 := (blk_cell HT.out 2).trans rfl
    have t3 := (blk_cell HT.out 3).trans rfl
    have tl := blk_lt HT.out
    have p0 := (blk_cell HP.out 0).trans rfl
    have p1 := (blk_cell HP.out 1).trans rfl
    have p2 := (blk_cell HP.out 2).trans rfl
    have pl := blk_lt HP.out
    go_wp2_with fail
    clear t0 t1 t2 t3 tl p0 p1 p2 pl
    refine (r7_Bits.calls KB AL cL (leastT D l) (dullT D l) AS cS (sizesT D l) A9 c9 [] Z.f0 Z.f1 (sb : Int) w101 HCL.out.1 HCL.out.2 HCS.out.1 HCS.out.2 (C_none _ _ _) (Nat.zero_le _) (by rw [HGE.out]; exact HKB.out)).mono ?_
    rintro e w102 ⟨rfl, hb⟩
    clear HCL HCS HKB
    replace HO := Aside0.mk (pw_own_below HO.out hb)
    replace HB := Aside0.mk (HB.out.trans (hb.mono HB.out.size))
    replace HS := Aside0.mk (blk_below HS.out hb)
    replace HT := Aside0.mk (blk_below HT.out hb)
    replace HBr := Aside0.mk (HBr.out.trans (hb.mono HBr.out.size))
    replace HP := Aside0.mk (blk_below HP.out hb)
    clear hb
    have p0 := (blk_cell HP.out 0).trans rfl
    have p1 := (blk_cell HP.out 1).trans rfl
    have p2 := (blk_cell HP.out 2).trans rfl
    have pl := blk_lt HP.out
    have pf2 := blk_frozen HP.out 2
    go_upto_region 12 with (fail)
    clear p0 p1 p2 pl pf2
    have hqP : q < P ∧ T < P ∧ g39 < P := by have := HGB.out; have := HNL.out; have := hnP.out; omega
    have n1 := Aside0.mk (blk_far (p := ⟨P, 2, none⟩) HS.out (show q ≠ P by omega) (.int .i64 (sb : Int)))
    have n2 := Aside0.mk (blk_far (p := ⟨P, 2, none⟩) HT.out (show T ≠ P by omega) (.int .i64 (sb : Int)))
    have n3 := Aside0.mk (blk_set HP.out 2 (.int .i64 (sb : Int)))
    have n4 : Aside0 (Below wb.heap.size wb (w102.setCell ⟨P, 2, none⟩ (.int .i64 (sb : Int)))) := ⟨below_set HBr.out hnP.out⟩
    have n5 : Aside0 ((w102.setCell ⟨P, 2, none⟩ (.int .i64 (sb : Int))).ownsRow B 72 3 (.slice (some ⟨g39, 0, none⟩) D.dr.length c39) D.dr.length ((mixT D l k).flatMap encR)) := ⟨own_same HO.out (Below.heap_setCell w102 ⟨P, 2, none⟩ (.int .i64 (sb : Int)) g39 (show g39 ≠ P by omega))⟩
    clear HS HT HP HB HBr HO
    generalize (w102.setCell ⟨P, 2, none⟩ (.int .i64 (sb : Int))) = w103 at n1 n2 n3 n4 n5 ⊢
    have HS := n1
    have HT := n2
    have HP : Aside0 (w103.heap[P]? = some (.cells #[.int .i64 Z.f0, .int .i64 Z.f1, (.int .i64 (sb : Int))] 72 (0, 0))) := n3
    have HBr := n4
    have HO := n5
    clear n1 n2 n3 n4 n5
    obtain ⟨g', hg39, hgB, _, _, hg9, cur, hcur, _, _⟩ := own_at HO.out (show 0 < D.dr.length by omega)
    cases hg39
    have hC9 := drs_C (xs := mixT D l k) (by rw [mixT_len]; exact HO.out) (by rw [mixT_len]; omega)
    obtain ⟨ad9, he9, y0, y1, y2⟩ := at_T72 hC9 (k : Int) (by omega) (by rw [mixT_len]; omega)
    cases he9
    rw [Int.toNat_natCast, add0] at y0
    rw [Int.toNat_natCast, add0] at y1 y2
    dsimp only at y1 y2
    have yf0 := blk_frozen hcur (k * 3)
    have yf1 := blk_frozen hcur (k * 3 + 1)
    have yf2 := blk_frozen hcur (k * 3 + 2)
    have q1 : (0 ≤ (k : Int)) = True := eq_true (by omega)
    have q2 : ((k : Int) < (D.dr.length : Int)) = True := eq_true (by omega)
    clear hC9 hcur
    have k0 := (blk_cell HS.out 0).trans rfl
    have k1 := (blk_cell HS.out 1).trans rfl
    have k2 := (blk_cell HS.out 2).trans rfl
    have k3 := (blk_cell HS.out 3).trans rfl
    have k4 := (blk_cell HS.out 4).trans rfl
    have kl := blk_lt HS.out
    have p0 := (blk_cell HP.out 0).trans rfl
    have p1 := (blk_cell HP.out 1).trans rfl
    have p2 := (blk_cell HP.out 2).trans rfl
    have pl := blk_lt HP.out
    go_upto_region 13 with (fail)
    clear p0 p1 p2 pl k0 k1 k2 k3 k4 kl y0 y1 y2 yf0 yf1 yf2 q1 q2 hgB
    have n1 := Aside0.mk (own_put3 (enc := encR) (fun _ => rfl) (mixT_len D l k) HO.out hlt (x := drT D l k) (c0 := .int .i64 Z.f0) (c1 := .int .i64 Z.f1) (c2 := .int .i64 (sb : Int)) (by unfold drT; rw [HZD.out, HSB.out]; rfl))
    rw [mixT_set D l hlt] at n1
    have n2 : Aside0 (Chg (fun x => x = g39) wb (((w103.setCell ⟨g39, k * 3, none⟩ (.int .i64 Z.f0)).setCell ⟨g39, k * 3 + 1, none⟩ (.int .i64 Z.f1)).setCell ⟨g39, k * 3 + 2, none⟩ (.int .i64 (sb : Int)))) := ⟨(((Chg.of_new HBr.out (fun x => x = g39)).setCell (p := ⟨g39, k * 3, none⟩) (fun _ => rfl) _).setCell (p := ⟨g39, k * 3 + 1, none⟩) (fun _ => rfl) _).setCell (p := ⟨g39, k * 3 + 2, none⟩) (fun _ => rfl) _⟩
    clear HS HT HP HBr HO hg9
    generalize ((w103.setCell ⟨g39, k * 3, none⟩ (.int .i64 Z.f0)).setCell ⟨g39, k * 3 + 1, none⟩ (.int .i64 Z.f1)).setCell ⟨g39, k * 3 + 2, none⟩ (.int .i64 (sb : Int)) = w104 at n1 n2 ⊢
    have HO := n1
    have HCG := n2
    clear n1 n2
    have hgL := HGB.out
    have hnl := HNL.out
    have HO9 : Aside0 (Row w104 nL 3 gv (glsT D l k)) := ⟨own_chg HO8.out HCG.out (fun x hx e => by have := (World.ownsRow.lt HO8.out x hx).1; omega)⟩
    clear HO8
    go_wp2_with (at_builtin; go_loud (refine wpList_append_own_at _ rfl (.tmp 55) (.tmp 57) 39 rfl nL 3 i (.int .i64 0) 1 8 Try.underlying39 HI.out hz hsz hby rfl (by decide) _ _ _ rfl (pw_own_below HO9.out (below_alloc (Below.refl _ _) _)) ⟨w104.heap.size, 0, none⟩ 1 1 [.int .i64 Z.f0] rfl rfl (World.news_of_block (blk_new w104 (.cells #[.int .i64 Z.f0] 3))) (by simp [Value.oneCell']) (by simp only [glsT_len, maxLen]; omega) (by simp only [glsT_len]; omega) (by have := HCG.out.size; simp; omega) ?_); intro v' w' ho hg _ hb')
    have hrow := own_base HO9.out
    have hc1 : Chg (fun x => nL ≤ x) w104 w' := ((Chg.refl _ w104).alloc (.cells #[.int .i64 Z.f0] 3)).trans ((Chg.grown hg).mono (fun x _ hx => hrow x hx.symm))
    have hc2 := (HCG.out.mono (S' := fun x => x = g39 ∨ nL ≤ x) (fun x _ e => .inl e)).then_ hc1 (fun x _ hx => .inr hx)
    have ho2 : Aside0 (Row w' nL 3 v' (glsT D l (k + 1))) := ⟨by rw [glsT_succ, ← HGE.out]; unfold Row; rw [List.length_append, List.map_append]; exact ho⟩
    have e1 := Aside0.mk (hc2.heap HS0.out (by omega))
    have e2 := Aside0.mk (hc2.heap HT0.out (by omega))
    have e3 := Aside0.mk (hc2.heap HZA.out (by omega))
    have e4 := Aside0.mk (hc2.heap HZB.out (by omega))
    have e5 : Aside0 (w'.ownsRow B 72 3 (.slice (some ⟨g39, 0, none⟩) D.dr.length c39) D.dr.length ((mixT D l (k + 1)).flatMap encR)) := ⟨own_same HO.out (hc1.block g39 (Nat.lt_of_lt_of_le (Nat.lt_of_lt_of_le hgL.2.2.2.2.1 hnl) HCG.out.size) (by omega))⟩
    have hbw := HB0.out.size
    have hqq := HQQ.out
    have hkn := HK0.out.size
    have e6 : Aside0 (Below w.heap.size w w') := ⟨HB0.out.trans (hc2.below (fun x _ hx => by rcases hx with rfl | hx <;> omega) hbw)⟩
    have e7 : Aside0 (Keep n0 wT w') := ⟨HK0.out.chg hc2 (fun x h1 h2 hx => by rcases hx with rfl | hx <;> omega)⟩
    have e8 : Aside0 (nL ≤ w'.heap.size) := ⟨Nat.le_trans hnl hc2.size⟩
    clear hc1 hc2 ho hg hb' hrow HO9 HO HCG HO0 HS0 HT0 HZA HZB HB0 HK0 HNL hbw hqq hkn hgL hnl
    go_wp2_with fail
    go_roundw
    case rel => exact ⟨k + 1, _, by omega, rfl, by go_num, ho2, e1, e5, e2, e3, e4, e6, e7, e8⟩
    case measure => simp [intOf]; omega
  ·
   obtain rfl : k = D.dr.length := by omega
   obtain ⟨AG, cG, hvG, hleG⟩ := Row.shape HO8.out
   have HCG := Aside0.mk (And.intro (Row.read HO8.out hvG (by rw [glsT_len]; omega)) hleG)
   rw [glsT_len] at hvG
   subst hvG
   clear hleG
   have k0 := (blk_cell HS.out 0).trans rfl
   have k1 := (blk_cell HS.out 1).trans rfl
   have k2 := (blk_cell HS.out 2).trans rfl
   have k3 := (blk_cell HS.out 3).trans rfl
   have k4 := (blk_cell HS.out 4).trans rfl
   have kl := blk_lt HS.out
   go_upto_region 14 with (fail)
   clear k0 k1 k2 k3 k4 kl
   refine region_puts' (X := Unit) (fun _ => [(59, (.agg #[.slice A0 D.gl.length c0, .int .i64 D.lo, .int .i64 D.hi, .slice A3 D.sp.length c3, (.slice (some ⟨g39, 0, none⟩) D.dr.length c39)])), (60, (.agg #[.slice AL (leastT D l).length cL, .int .i64 (dullT D l), .slice AS (sizesT D l).length cS, .slice A9 0 c9])), (61, (.slice AG D.dr.length cG)), (6, (.slice AG D.dr.length cG))]) (fun _ w' => w'.heap[q + 1]? = some (.cells #[.slice A0 D.gl.length c0, .int .i64 D.lo, .int .i64 D.hi, .slice A3 D.sp.length c3, (.slice (some ⟨g39, 0, none⟩) D.dr.length c39)] 28 (0, 0)) ∧ w'.heap[q + 1 + 1]? = some (.cells #[.slice AL (leastT D l).length cL, .int .i64 (dullT D l), .slice AS (sizesT D l).length cS, .slice A9 0 c9] 56 (0, 0)) ∧ Chg (fun x => x = q + 1 ∨ x = q + 1 + 1) wr w') ?_ ?_
   ·
    have hb0 : Below wr.heap.size wr wr.drew := below_drew1 (Below.refl _ _)
    have hgb := HGB.out
    have HS1 := Aside0.mk (blk_below HS.out hb0)
    have HT1 := Aside0.mk (blk_below HT.out hb0)
    have HA1 := Aside0.mk (blk_below HZA.out hb0)
    have HB1 := Aside0.mk (blk_below HZB.out hb0)
    have C1 : Aside0 (Chg (fun x => x = q + 1 ∨ x = q + 1 + 1) wr wr.drew) := ⟨(Chg.refl _ wr).drew⟩
    clear hb0
    refine wp_region_G (List.range 6) (S := fun w' : World => w'.cell? ⟨q, 0, none⟩ = some (.slice A0 D.gl.length c0) ∧ w'.cell? ⟨q, 1, none⟩ = some (.int .i64 D.lo) ∧ w'.cell? ⟨q, 2, none⟩ = some (.int .i64 D.hi) ∧ w'.cell? ⟨q, 3, none⟩ = some (.slice A3 D.sp.length c3) ∧ w'.cell? ⟨q, 4, none⟩ = some ((.slice (some ⟨g39, 0, none⟩) D.dr.length c39)) ∧ w'.cell? ⟨T, 0, none⟩ = some (.slice AL (leastT D l).length cL) ∧ w'.cell? ⟨T, 1, none⟩ = some (.int .i64 (dullT D l)) ∧ w'.cell? ⟨T, 2, none⟩ = some (.slice AS (sizesT D l).length cS) ∧ w'.cell? ⟨T, 3, none⟩ = some (.slice A9 0 c9)) (by kernel_rfl) ⟨(blk_cell HS1.out 0).trans rfl, (blk_cell HS1.out 1).trans rfl, (blk_cell HS1.out 2).trans rfl, (blk_cell HS1.out 3).trans rfl, (blk_cell HS1.out 4).trans rfl, (blk_cell HT1.out 0).trans rfl, (blk_cell HT1.out 1).trans rfl, (blk_cell HT1.out 2).trans rfl, (blk_cell HT1.out 3).trans rfl⟩ (fun hHeld => ?_)
    generalize wr.drew = v0 at HS1 HT1 HA1 HB1 C1 hHeld ⊢
    refine takeG 0 ?_
    refine takeG 1 ?_
    refine takeG 2 ?_
    refine wpAnyG_only (i := 3) (by kernel_rfl) rfl (fun K hK => ?_)
    clear hHeld
    have z0 := (blk_cell HA1.out 0).trans rfl
    have z1 := (blk_cell HA1.out 1).trans rfl
    have z2 := (blk_cell HA1.out 2).trans rfl
    have z3 := (blk_cell HA1.out 3).trans rfl
    have z4 := (blk_cell HA1.out 4).trans rfl
    have zl := blk_lt HA1.out
    have zf0 := blk_frozen HA1.out 0
    have zf1 := blk_frozen HA1.out 1
    have zf2 := blk_frozen HA1.out 2
    have zf3 := blk_frozen HA1.out 3
    have zf4 := blk_frozen HA1.out 4
    go_simp
    clear z0 z1 z2 z3 z4 zl zf0 zf1 zf2 zf3 zf4
    have n1 := Aside0.mk (blk_set (blk_set (blk_set (blk_set (blk_set HA1.out 0 (.slice A0 D.gl.length c0)) 1 (.int .i64 D.lo)) 2 (.int .i64 D.hi)) 3 (.slice A3 D.sp.length c3)) 4 ((.slice (some ⟨g39, 0, none⟩) D.dr.length c39)))
    have n2 := Aside0.mk (blk_far (p := ⟨q + 1, 4, none⟩) (blk_far (p := ⟨q + 1, 3, none⟩) (blk_far (p := ⟨q + 1, 2, none⟩) (blk_far (p := ⟨q + 1, 1, none⟩) (blk_far (p := ⟨q + 1, 0, none⟩) HB1.out (show q + 1 + 1 ≠ q + 1 by omega) (.slice A0 D.gl.length c0)) (show q + 1 + 1 ≠ q + 1 by omega) (.int .i64 D.lo)) (show q + 1 + 1 ≠ q + 1 by omega) (.int .i64 D.hi)) (show q + 1 + 1 ≠ q + 1 by omega) (.slice A3 D.sp.length c3)) (show q + 1 + 1 ≠ q + 1 by omega) ((.slice (some ⟨g39, 0, none⟩) D.dr.length c39)))
    have n3 := Aside0.mk (blk_far (p := ⟨q + 1, 4, none⟩) (blk_far (p := ⟨q + 1, 3, none⟩) (blk_far (p := ⟨q + 1, 2, none⟩) (blk_far (p := ⟨q + 1, 1, none⟩) (blk_far (p := ⟨q + 1, 0, none⟩) HS1.out (show q ≠ q + 1 by omega) (.slice A0 D.gl.length c0)) (show q ≠ q + 1 by omega) (.int .i64 D.lo)) (show q ≠ q + 1 by omega) (.int .i64 D.hi)) (show q ≠ q + 1 by omega) (.slice A3 D.sp.length c3)) (show q ≠ q + 1 by omega) ((.slice (some ⟨g39, 0, none⟩) D.dr.length c39)))
    have n4 := Aside0.mk (blk_far (p := ⟨q + 1, 4, none⟩) (blk_far (p := ⟨q + 1, 3, none⟩) (blk_far (p := ⟨q + 1, 2, none⟩) (blk_far (p := ⟨q + 1, 1, none⟩) (blk_far (p := ⟨q + 1, 0, none⟩) HT1.out (show T ≠ q + 1 by omega) (.slice A0 D.gl.length c0)) (show T ≠ q + 1 by omega) (.int .i64 D.lo)) (show T ≠ q + 1 by omega) (.int .i64 D.hi)) (show T ≠ q + 1 by omega) (.slice A3 D.sp.length c3)) (show T ≠ q + 1 by omega) ((.slice (some ⟨g39, 0, none⟩) D.dr.length c39)))
    have n5 := Aside0.mk (Chg.setCell (Chg.setCell (Chg.setCell (Chg.setCell (Chg.setCell C1.out (p := ⟨q + 1, 0, none⟩) (fun _ => .inl rfl) (.slice A0 D.gl.length c0)) (p := ⟨q + 1, 1, none⟩) (fun _ => .inl rfl) (.int .i64 D.lo)) (p := ⟨q + 1, 2, none⟩) (fun _ => .inl rfl) (.int .i64 D.hi)) (p := ⟨q + 1, 3, none⟩) (fun _ => .inl rfl) (.slice A3 D.sp.length c3)) (p := ⟨q + 1, 4, none⟩) (fun _ => .inl rfl) ((.slice (some ⟨g39, 0, none⟩) D.dr.length c39)))
    generalize ((((v0.setCell ⟨q + 1, 0, none⟩ (.slice A0 D.gl.length c0)).setCell ⟨q + 1, 1, none⟩ (.int .i64 D.lo)).setCell ⟨q + 1, 2, none⟩ (.int .i64 D.hi)).setCell ⟨q + 1, 3, none⟩ (.slice A3 D.sp.length c3)).setCell ⟨q + 1, 4, none⟩ ((.slice (some ⟨g39, 0, none⟩) D.dr.length c39)) = v1 at n1 n2 n3 n4 n5 ⊢
    clear HA1 HB1 HS1 HT1 C1
    refine hK.out _ _ ⟨(blk_cell n3.out 0).trans rfl, (blk_cell n3.out 1).trans rfl, (blk_cell n3.out 2).trans rfl, (blk_cell n3.out 3).trans rfl, (blk_cell n3.out 4).trans rfl, (blk_cell n4.out 0).trans rfl, (blk_cell n4.out 1).trans rfl, (blk_cell n4.out 2).trans rfl, (blk_cell n4.out 3).trans rfl⟩ (by trivial) (fun hHeld _ => ?_)
    clear hK K hHeld
    refine putG ?_
    refine wpAnyG_only (i := 4) (by kernel_rfl) rfl (fun K hK => ?_)
    have u0 := (blk_cell n2.out 0).trans rfl
    have u1 := (blk_cell n2.out 1).trans rfl
    have u2 := (blk_cell n2.out 2).trans rfl
    have u3 := (blk_cell n2.out 3).trans rfl
    have ul := blk_lt n2.out
    have uf0 := blk_frozen n2.out 0
    have uf1 := blk_frozen n2.out 1
    have uf2 := blk_frozen n2.out 2
    have uf3 := blk_frozen n2.out 3
    go_simp
    clear u0 u1 u2 u3 ul uf0 uf1 uf2 uf3
    have m1 := Aside0.mk (blk_far (p := ⟨q + 1 + 1, 3, none⟩) (blk_far (p := ⟨q + 1 + 1, 2, none⟩) (blk_far (p := ⟨q + 1 + 1, 1, none⟩) (blk_far (p := ⟨q + 1 + 1, 0, none⟩) n1.out (show q + 1 ≠ q + 1 + 1 by omega) (.slice AL (leastT D l).length cL)) (show q + 1 ≠ q + 1 + 1 by omega) (.int .i64 (dullT D l))) (show q + 1 ≠ q + 1 + 1 by omega) (.slice AS (sizesT D l).length cS)) (show q + 1 ≠ q + 1 + 1 by omega) (.slice A9 0 c9))
    have m2 := Aside0.mk (blk_set (blk_set (blk_set (blk_set n2.out 0 (.slice AL (leastT D l).length cL)) 1 (.int .i64 (dullT D l))) 2 (.slice AS (sizesT D l).length cS)) 3 (.slice A9 0 c9))
    have m3 := Aside0.mk (blk_far (p := ⟨q + 1 + 1, 3, none⟩) (blk_far (p := ⟨q + 1 + 1, 2, none⟩) (blk_far (p := ⟨q + 1 + 1, 1, none⟩) (blk_far (p := ⟨q + 1 + 1, 0, none⟩) n3.out (show q ≠ q + 1 + 1 by omega) (.slice AL (leastT D l).length cL)) (show q ≠ q + 1 + 1 by omega) (.int .i64 (dullT D l))) (show q ≠ q + 1 + 1 by omega) (.slice AS (sizesT D l).length cS)) (show q ≠ q + 1 + 1 by omega) (.slice A9 0 c9))
    have m4 := Aside0.mk (blk_far (p := ⟨q + 1 + 1, 3, none⟩) (blk_far (p := ⟨q + 1 + 1, 2, none⟩) (blk_far (p := ⟨q + 1 + 1, 1, none⟩) (blk_far (p := ⟨q + 1 + 1, 0, none⟩) n4.out (show T ≠ q + 1 + 1 by omega) (.slice AL (leastT D l).length cL)) (show T ≠ q + 1 + 1 by omega) (.int .i64 (dullT D l))) (show T ≠ q + 1 + 1 by omega) (.slice AS (sizesT D l).length cS)) (show T ≠ q + 1 + 1 by omega) (.slice A9 0 c9))
    have m5 := Aside0.mk (Chg.setCell (Chg.setCell (Chg.setCell (Chg.setCell n5.out (p := ⟨q + 1 + 1, 0, none⟩) (fun _ => .inr rfl) (.slice AL (leastT D l).length cL)) (p := ⟨q + 1 + 1, 1, none⟩) (fun _ => .inr rfl) (.int .i64 (dullT D l))) (p := ⟨q + 1 + 1, 2, none⟩) (fun _ => .inr rfl) (.slice AS (sizesT D l).length cS)) (p := ⟨q + 1 + 1, 3, none⟩) (fun _ => .inr rfl) (.slice A9 0 c9))
    generalize (((v1.setCell ⟨q + 1 + 1, 0, none⟩ (.slice AL (leastT D l).length cL)).setCell ⟨q + 1 + 1, 1, none⟩ (.int .i64 (dullT D l))).setCell ⟨q + 1 + 1, 2, none⟩ (.slice AS (sizesT D l).length cS)).setCell ⟨q + 1 + 1, 3, none⟩ (.slice A9 0 c9) = v2 at m1 m2 m3 m4 m5 ⊢
    clear n1 n2 n3 n4 n5
    refine hK.out _ _ ⟨(blk_cell m3.out 0).trans rfl, (blk_cell m3.out 1).trans rfl, (blk_cell m3.out 2).trans rfl, (blk_cell m3.out 3).trans rfl, (blk_cell m3.out 4).trans rfl, (blk_cell m4.out 0).trans rfl, (blk_cell m4.out 1).trans rfl, (blk_cell m4.out 2).trans rfl, (blk_cell m4.out 3).trans rfl⟩ (by trivial) (fun hHeld _ => ?_)
    clear hK K hHeld
    refine putG ?_
    refine wpAnyG_last (i := 5) (by kernel_rfl) rfl (by kernel_rfl) (by kernel_rfl) (fun K hK => ?_)
    go_simp
    refine hK.out _ _ ?_
    clear hK K
    refine doneG ?_
    refine ⟨(), ?_, m1.out, m2.out, m5.out⟩
    simp only [putL, List.foldl, Act.put, List.getElem_toArray, List.getElem_cons_zero, List.getElem_cons_succ, List.setIfInBounds_toArray, List.set_cons_zero, List.set_cons_succ]
   ·
    rintro _ w' ⟨h1, h2, hc⟩
    simp only [putL, List.foldl, Act.put, List.getElem_toArray, List.getElem_cons_zero, List.getElem_cons_succ, List.setIfInBounds_toArray, List.set_cons_zero, List.set_cons_succ]
    have H1 := Aside0.mk h1
    have H2 := Aside0.mk h2
    have HC := Aside0.mk hc
    clear h1 h2 hc
    go_wp2
    refine bodyPost_ret (v := .tuple #[(.agg #[.slice A0 D.gl.length c0, .int .i64 D.lo, .int .i64 D.hi, .slice A3 D.sp.length c3, (.slice (some ⟨g39, 0, none⟩) D.dr.length c39)]), (.agg #[.slice AL (leastT D l).length cL, .int .i64 (dullT D l), .slice AS (sizesT D l).length cS, .slice A9 0 c9]), (.slice AG D.dr.length cG)]) (results_two_tmp rfl _ _ (q + 1) (q + 1 + 1) 28 56 _ _ (0, 0) (0, 0) _ _ _ rfl rfl rfl H1.out H2.out Try.underlying28 rfl Try.underlying56 rfl infoShelf5 infoTruth4) rfl ?_
    have hgb := HGB.out
    have hqn := HQN.out
    have hnt := HNT.out
    have hnl := HNL.out
    have hqq := HQQ.out
    have hbw := HB.out.size
    have hB2 : Below w.heap.size w w' := HB.out.trans (HC.out.below (fun x _ hx => by rcases hx with rfl | rfl <;> omega) hbw)
    have hA := HA.out.below hB2
    have hk2 := HKP.out.chg HC.out (fun x h1 h2 hx => by rcases hx with rfl | rfl <;> omega)
    obtain ⟨_, hl0, hc0⟩ := Kd.R_reads' (R_kept HR0.out hk2)
    obtain ⟨_, hl2, hc2⟩ := Kd.R_reads' (R_kept HR2.out hk2)
    have ho := own_same HO.out (HC.out.block g39 (Nat.lt_of_lt_of_le hgb.2.2.2.2.1 hnl) (by omega))
    rw [mixT_all] at ho
    have hdl : ((List.range D.dr.length).map (drT D l)).length = D.dr.length := by simp
    have hcd := drs_C (xs := (List.range D.dr.length).map (drT D l)) (by rw [hdl]; exact ho) (by rw [hdl]; omega)
    refine ⟨some ⟨g39, 0, none⟩, c39, AL, cL, AS, cS, A9, c9, AG, cG, ?_, ⟨hA.g, hA.gc, hA.gn, hA.s, hA.sc, hcd, by show ((List.range D.dr.length).map (drT D l)).length ≤ c39; rw [hdl]; exact HC39.out⟩, ⟨hc0, hl0⟩, ⟨hc2, hl2⟩, ⟨?_, HCG.out.2⟩, hB2⟩
    ·
     show _ = Ending.returned (.tuple #[.agg #[_, _, _, _, .slice _ ((List.range D.dr.length).map (drT D l)).length _], _, _])
     rw [hdl, glsT_len]; rfl
    ·
     exact Row.read (own_chg HO8.out HC.out (fun x hx e => by have := (World.ownsRow.lt HO8.out x hx).1; omega)) rfl (by rw [glsT_len]; omega)
end Go.Proofs.Ytgoidclnccjdeaa.D
end
section
/- Package glass: the reference's Size, Least, Dull. -/
namespace Go.Proofs.Ytgoidclnccjdeaa.D
open Go Go.RowKit Go.Proofs.YtgoidclnccjdeaaK Go.Proofs.YtgoidclnccjdeaaW.PrintWords Go.Proofs.YtgoidclnccjdeaaW.PrintLast Go.Proofs.YtgoidclnccjdeaaW.PrintMore Go.Proofs.Ytgoidclnccjdeaa.PR Go.Proofs.Ytgoidclnccjdeaa.M
set_option linter.unusedVariables false
set_option linter.unusedSimpArgs false
attribute [local go_sem] Oper.semAt_some

theorem cell_bl {w w' : World} {a : Addr} {v : Value} (h : w.cell? a = some v) (hb : Below w.heap.size w w') : w'.cell? a = some v := (Chg.of_below hb).cell h (fun hx => Nat.lt_irrefl _ (Nat.lt_of_lt_of_le (World.block_lt_of_cell? _ _ h) hx))
end Go.Proofs.Ytgoidclnccjdeaa.D
end
section
/- Package glass: GlassTrue. -/
namespace Go.Proofs.Ytgoidclnccjdeaa.D
open Go Go.RowKit Go.Proofs.YtgoidclnccjdeaaK Go.Proofs.YtgoidclnccjdeaaW.PrintWords Go.Proofs.YtgoidclnccjdeaaW.PrintLast Go.Proofs.YtgoidclnccjdeaaW.PrintMore Go.Proofs.Ytgoidclnccjdeaa.PR Go.Proofs.Ytgoidclnccjdeaa.M
set_option linter.unusedVariables false
set_option linter.unusedSimpArgs false

set_option maxRecDepth 100000 in
set_option maxHeartbeats 8000000 in
theorem GlassTrue_calls (D : Dat) (A0 : Option Addr) (c0 : Nat) (A3 : Option Addr) (c3 : Nat) (A4 : Option Addr) (c4 : Nat) (A5 : Option Addr) (c5 : Nat) (l : List Int) (y : Int) (w : World) (h : Arg w D A0 c0 A3 c3 A4 c4) (hc5 : l.length ≤ c5) (hC5 : Kd.C (Kd.int .u8) w A5 l.length l) (hu : U8 l) (hy : 0 ≤ y ∧ y ≤ 255) :
  Calls Try.prog 8 #[.agg (D.cells A0 c0 A3 c3 A4 c4), .slice A5 l.length c5, .int .u8 y] w
   fun e w' => e = .returned (.bool true) ∧ Below w.heap.size w w' := by
 have HS := Aside0.mk (blk_new w (.cells (D.cells A0 c0 A3 c3 A4 c4) 28))
 have HB := Aside0.mk (below_alloc (Below.refl w.heap.size w) (.cells (D.cells A0 c0 A3 c3 A4 c4) 28))
 have HA := Aside0.mk h
 have HL5 := Aside0.mk hc5
 have HC5 := Aside0.mk hC5
 have HU := Aside0.mk hu
 have HY := Aside0.mk hy
 clear hc5 hC5 hu hy
 have hy0 := HY.out.1
 obtain ⟨K1, hK1⟩ := (rValid h.fits).rounds
 clear h
 obtain ⟨q, hq⟩ : ∃ q, w.heap.size = q := ⟨_, rfl⟩
 obtain ⟨cv, hcv⟩ : ∃ z, ((checkF D).2.2 == 0) = z := ⟨_, rfl⟩
 try rw [hcv] at hK1
 have Ecv := Aside0.mk hcv
 have HK1 := Aside0.mk hK1
 clear hcv hK1
 go_enter Try.func8, Try.ntmps8
 go_upto_region 1 with (fail)
 generalize w.alloc (.cells (D.cells A0 c0 A3 c3 A4 c4) 28) = w1 at HS HB ⊢
 rw [hq] at HS
 try rw [hq]
 have HQQ := Aside0.mk hq
 have k0 := (blk_cell HS.out 0).trans rfl
 have k1 := (blk_cell HS.out 1).trans rfl
 have k2 := (blk_cell HS.out 2).trans rfl
 have k3 := (blk_cell HS.out 3).trans rfl
 have k4 := (blk_cell HS.out 4).trans rfl
 have kl := blk_lt HS.out
 go_wp2_with fail
 clear k0 k1 k2 k3 k4 kl
 have hA := HA.out.below HB.out
 refine (helioscopelaw07_valid.calls K1 A0 c0 D.gl D.lo D.hi A3 c3 D.sp A4 c4 D.dr _ w1 hA.g hA.gc hA.s hA.sc hA.d hA.dc HK1.out).mono ?_
 clear hA
 rintro e w2 ⟨rfl, hb⟩
 replace HB := Aside0.mk (HB.out.trans (hb.mono HB.out.size))
 replace HS := Aside0.mk (blk_below HS.out hb)
 clear hb HK1
 cases cv
 ·
  have hcn : (checkF D).2.2 ≠ 0 := by have := Ecv.out; simpa using this
  obtain ⟨⟨wl, en⟩, hwf⟩ : ∃ z, wrongF D = z := ⟨_, rfl⟩
  have hen : en ≠ 0 := by have h1 := hwf; unfold wrongF at h1; rw [if_neg hcn] at h1; have h2 := congrArg Prod.snd h1; dsimp only at h2; rw [← h2]; exact hcn
  have HWF := Aside0.mk hwf
  have hz : (en != 0) = true := by simpa using hen
  have hz2 : (en == 0) = false := by simpa using hen
  clear hcn hwf hen
  have k0 := (blk_cell HS.out 0).trans rfl
  have k1 := (blk_cell HS.out 1).trans rfl
  have k2 := (blk_cell HS.out 2).trans rfl
  have k3 := (blk_cell HS.out 3).trans rfl
  have k4 := (blk_cell HS.out 4).trans rfl
  have kl := blk_lt HS.out
  go_wp2_with fail
  clear k0 k1 k2 k3 k4 kl
  have hA := HA.out.below HB.out
  refine (Wrong_calls D A0 c0 A3 c3 A4 c4 w2 hA).mono ?_
  clear hA
  rw [HWF.out]
  rintro e w3 ⟨⟨v, rfl, hn⟩, hb⟩
  obtain ⟨Au, cu, rfl, _⟩ := hn.rowI
  clear hn
  replace HB := Aside0.mk (HB.out.trans (hb.mono HB.out.size))
  replace HS := Aside0.mk (blk_below HS.out hb)
  clear hb
  go_wp2_with fail
  refine (Awake_calls _).mono ?_
  rintro e wA ⟨rfl, hb⟩
  replace HB := Aside0.mk (HB.out.trans (hb.mono HB.out.size))
  clear hb
  go_wp2
  go_ret
  exact ⟨rfl, by first | exact HB.out | (rw [← hq]; exact HB.out)⟩
 ·
  have hc : (checkF D).2.2 = 0 := by have := Ecv.out; simpa using this
  have hV := (check_valid hc).1
  have hlim := And.intro hV.g1 (And.intro hV.g3 (And.intro hV.s4 hV.d4))
  have htp := told_tp hc HU.out
  have hl1 : (toldD D l).gl.length = D.gl.length := rfl
  have hl2 : (toldD D l).sp.length = D.sp.length := rfl
  have hl3 : (toldD D l).dr.length = D.dr.length := by simp [toldD, wdr]
  rw [← hl1, ← hl2, ← hl3] at hlim
  clear hl1 hl2 hl3
  have HCK := Aside0.mk hc
  clear hV hc
  have k0 := (blk_cell HS.out 0).trans rfl
  have k1 := (blk_cell HS.out 1).trans rfl
  have k2 := (blk_cell HS.out 2).trans rfl
  have k3 := (blk_cell HS.out 3).trans rfl
  have k4 := (blk_cell HS.out 4).trans rfl
  have kl := blk_lt HS.out
  go_wp2_with fail
  clear k0 k1 k2 k3 k4 kl
  have hA := HA.out.below HB.out
  refine (Told_calls D A0 c0 A3 c3 A4 c4 A5 c5 l w2 hA HL5.out (Kd.C_below HC5.out HB.out) HU.out HCK.out).mono ?_
  clear hA
  rintro e w3 ⟨A4', c4', AL, cL, AS, cS, A9, c9, AG, cG, rfl, hA2, hCL, hCS, hCG, hb⟩
  replace HB := Aside0.mk (HB.out.trans (hb.mono HB.out.size))
  replace HS := Aside0.mk (blk_below HS.out hb)
  clear hb
  obtain ⟨N, hN⟩ : ∃ z, toldD D l = z := ⟨_, rfl⟩
  obtain ⟨x, hx⟩ : ∃ z, V8 (trT D l) = z := ⟨_, rfl⟩
  obtain ⟨LE, hLE⟩ : ∃ z, leastT D l = z := ⟨_, rfl⟩
  obtain ⟨du, hdu⟩ : ∃ z, dullT D l = z := ⟨_, rfl⟩
  obtain ⟨SI, hSI⟩ : ∃ z, sizesT D l = z := ⟨_, rfl⟩
  obtain ⟨GL, hGL⟩ : ∃ z, glsT D l D.dr.length = z := ⟨_, rfl⟩
  rw [hN, hx, hLE, hdu, hSI, hGL] at htp
  rw [hN] at hA2 hlim ⊢
  rw [hLE] at hCL ⊢
  rw [hSI] at hCS ⊢
  rw [hGL] at hCG ⊢
  rw [hdu]
  clear hN hx hLE hdu hSI hGL
  have HT := Aside0.mk htp
  have HLM := Aside0.mk hlim
  clear htp hlim HC5 HL5 HU HCK Ecv
  have HB0 := HB
  clear HB HA
  have HA := Aside0.mk hA2
  have HLL := Aside0.mk (And.intro hCL.2 (And.intro hCS.2 hCG.2))
  have HCL := Aside0.mk hCL.1
  have HCS := Aside0.mk hCS.1
  have HCG := Aside0.mk hCG.1
  clear hA2 hCL hCS hCG
  have k0 := (blk_cell HS.out 0).trans rfl
  have k1 := (blk_cell HS.out 1).trans rfl
  have k2 := (blk_cell HS.out 2).trans rfl
  have k3 := (blk_cell HS.out 3).trans rfl
  have k4 := (blk_cell HS.out 4).trans rfl
  have kl := blk_lt HS.out
  go_upto_region 5 with (fail)
  clear k0 k1 k2 k3 k4 kl HS
  have HB := Aside0.mk (below_alloc (below_alloc (Below.refl w3.heap.size w3) (.cells (N.cells A0 c0 A3 c3 A4' c4') 28)) (.cells #[.slice AL LE.length cL, .int .i64 du, .slice AS SI.length cS, .slice A9 0 c9] 56))
  have n1 := Aside0.mk (blk_alloc (blk_new w3 (.cells (N.cells A0 c0 A3 c3 A4' c4') 28)) (.cells #[.slice AL LE.length cL, .int .i64 du, .slice AS SI.length cS, .slice A9 0 c9] 56))
  have n2 := Aside0.mk (new_at (W := w3.alloc (.cells (N.cells A0 c0 A3 c3 A4' c4') 28)) (n := w3.heap.size + 1) (by simp) (.cells #[.slice AL LE.length cL, .int .i64 du, .slice AS SI.length cS, .slice A9 0 c9] 56))
  replace HCL := Aside0.mk (Kd.C_below HCL.out HB.out)
  replace HCS := Aside0.mk (Kd.C_below HCS.out HB.out)
  replace HCG := Aside0.mk (Kd.C_below HCG.out HB.out)
  obtain ⟨B, hB⟩ : ∃ b, w3.heap.size = b := ⟨_, rfl⟩
  generalize ((w3.alloc (.cells (N.cells A0 c0 A3 c3 A4' c4') 28)).alloc (.cells #[.slice AL LE.length cL, .int .i64 du, .slice AS SI.length cS, .slice A9 0 c9] 56)) = w4 at HB HCL HCS HCG n1 n2 ⊢
  rw [hB] at n1 n2
  try rw [hB]
  clear hB
  have HS := n1
  have HTR := n2
  clear n1 n2
  have hwy : IntKind.i64.wrap y = y := wrapI (by have := HY.out; omega) (by have := HY.out; omega)
  obtain ⟨yr, hyr, ey⟩ := emodN y 10 (by omega)
  have EY := Aside0.mk ey
  clear ey
  have k0 := (blk_cell HS.out 0).trans rfl
  have k1 := (blk_cell HS.out 1).trans rfl
  have k2 := (blk_cell HS.out 2).trans rfl
  have k3 := (blk_cell HS.out 3).trans rfl
  have k4 := (blk_cell HS.out 4).trans rfl
  have kl := blk_lt HS.out
  have t0 := (blk_cell HTR.out 0).trans rfl
  have t1 := (blk_cell HTR.out 1).trans rfl
  have t2 := (blk_cell HTR.out 2).trans rfl
  have t3 := (blk_cell HTR.out 3).trans rfl
  have tl := blk_lt HTR.out
  go_upto_region 6 with (fail)
  clear k0 k1 k2 k3 k4 kl t0 t1 t2 t3 tl
  rw [EY.out]
  have HY9 := Aside0.mk hyr
  clear hwy hyr EY hy0
  have k0 := (blk_cell HS.out 0).trans rfl
  have k1 := (blk_cell HS.out 1).trans rfl
  have k2 := (blk_cell HS.out 2).trans rfl
  have k3 := (blk_cell HS.out 3).trans rfl
  have k4 := (blk_cell HS.out 4).trans rfl
  have kl := blk_lt HS.out
  have t0 := (blk_cell HTR.out 0).trans rfl
  have t1 := (blk_cell HTR.out 1).trans rfl
  have t2 := (blk_cell HTR.out 2).trans rfl
  have t3 := (blk_cell HTR.out 3).trans rfl
  have tl := blk_lt HTR.out
  go_wp2_with fail
  clear k0 k1 k2 k3 k4 kl t0 t1 t2 t3 tl
  have hA := HA.out.below HB.out
  refine (Wrong_calls N A0 c0 A3 c3 A4' c4' w4 hA).mono ?_
  clear hA
  rw [HT.out.wrong]
  rintro e w5 ⟨⟨v, rfl, hn⟩, hb⟩
  obtain ⟨A1, c1, rfl, _⟩ := hn.rowI
  clear hn
  replace HB := Aside0.mk (HB.out.trans (hb.mono HB.out.size))
  replace HS := Aside0.mk (blk_below HS.out hb)
  replace HTR := Aside0.mk (blk_below HTR.out hb)
  replace HCL := Aside0.mk (Kd.C_below HCL.out hb)
  replace HCS := Aside0.mk (Kd.C_below HCS.out hb)
  replace HCG := Aside0.mk (Kd.C_below HCG.out hb)
  clear hb
  go_upto_region 7 with (fail)
  obtain ⟨⟨v1, v2⟩, hv⟩ : ∃ z, hullF N [] 3 = z := ⟨_, rfl⟩
  have Hv := Aside0.mk hv
  have Ev := Aside0.mk (enter_yes HT.out.has.yes (l := []) rfl)
  have hin := HT.out.has.inside (l := []) rfl 3
  rw [hv] at hin
  clear hv
  rw [← HT.out.dull] at hin
  have IV := Aside0.mk hin
  clear hin
  have k0 := (blk_cell HS.out 0).trans rfl
  have k1 := (blk_cell HS.out 1).trans rfl
  have k2 := (blk_cell HS.out 2).trans rfl
  have k3 := (blk_cell HS.out 3).trans rfl
  have k4 := (blk_cell HS.out 4).trans rfl
  have kl := blk_lt HS.out
  have t0 := (blk_cell HTR.out 0).trans rfl
  have t1 := (blk_cell HTR.out 1).trans rfl
  have t2 := (blk_cell HTR.out 2).trans rfl
  have t3 := (blk_cell HTR.out 3).trans rfl
  have tl := blk_lt HTR.out
  go_wp2_with fail
  clear k0 k1 k2 k3 k4 kl t0 t1 t2 t3 tl
  have hA := HA.out.below HB.out
  refine (Dull_calls N A0 c0 A3 c3 A4' c4' w5 hA).mono ?_
  clear hA
  rw [Ev.out, Hv.out]
  rintro e w6 ⟨rfl, hb⟩
  replace HB := Aside0.mk (HB.out.trans (hb.mono HB.out.size))
  replace HS := Aside0.mk (blk_below HS.out hb)
  replace HTR := Aside0.mk (blk_below HTR.out hb)
  replace HCL := Aside0.mk (Kd.C_below HCL.out hb)
  replace HCS := Aside0.mk (Kd.C_below HCS.out hb)
  replace HCG := Aside0.mk (Kd.C_below HCG.out hb)
  clear hb
  go_upto_region 8 with (fail)
  have hb : Below w6.heap.size w6 (w6.alloc (.cells #[.int .i64 v1, .int .i64 v2] 24)) := below_alloc (Below.refl _ _) _
  have n1 := Aside0.mk (blk_new w6 (.cells #[.int .i64 v1, .int .i64 v2] 24))
  replace HB := Aside0.mk (HB.out.trans (hb.mono HB.out.size))
  replace HS := Aside0.mk (blk_below HS.out hb)
  replace HTR := Aside0.mk (blk_below HTR.out hb)
  replace HCL := Aside0.mk (Kd.C_below HCL.out hb)
  replace HCS := Aside0.mk (Kd.C_below HCS.out hb)
  replace HCG := Aside0.mk (Kd.C_below HCG.out hb)
  clear hb
  obtain ⟨P, hP⟩ : ∃ b, w6.heap.size = b := ⟨_, rfl⟩
  rw [hP] at n1 ⊢
  generalize (w6.alloc (.cells #[.int .i64 v1, .int .i64 v2] 24)) = w7 at HB n1 HS HTR HCL HCS HCG ⊢
  clear hP
  have HP := n1
  clear n1 Hv Ev
  have p0 := (blk_cell HP.out 0).trans rfl
  have p1 := (blk_cell HP.out 1).trans rfl
  have pl := blk_lt HP.out
  have k0 := (blk_cell HS.out 0).trans rfl
  have k1 := (blk_cell HS.out 1).trans rfl
  have k2 := (blk_cell HS.out 2).trans rfl
  have k3 := (blk_cell HS.out 3).trans rfl
  have k4 := (blk_cell HS.out 4).trans rfl
  have kl := blk_lt HS.out
  have t0 := (blk_cell HTR.out 0).trans rfl
  have t1 := (blk_cell HTR.out 1).trans rfl
  have t2 := (blk_cell HTR.out 2).trans rfl
  have t3 := (blk_cell HTR.out 3).trans rfl
  have tl := blk_lt HTR.out
  go_wp2_with fail
  clear k0 k1 k2 k3 k4 kl t0 t1 t2 t3 tl p0 p1 pl HP
  refine (r1_Inside.calls du v1 v2 true w7 IV.out).mono ?_
  rintro e w8 ⟨rfl, hb⟩
  clear IV
  replace HB := Aside0.mk (HB.out.trans (hb.mono HB.out.size))
  replace HS := Aside0.mk (blk_below HS.out hb)
  replace HTR := Aside0.mk (blk_below HTR.out hb)
  replace HCL := Aside0.mk (Kd.C_below HCL.out hb)
  replace HCS := Aside0.mk (Kd.C_below HCS.out hb)
  replace HCG := Aside0.mk (Kd.C_below HCG.out hb)
  clear hb
  have k0 := (blk_cell HS.out 0).trans rfl
  have k1 := (blk_cell HS.out 1).trans rfl
  have k2 := (blk_cell HS.out 2).trans rfl
  have k3 := (blk_cell HS.out 3).trans rfl
  have k4 := (blk_cell HS.out 4).trans rfl
  have kl := blk_lt HS.out
  have t0 := (blk_cell HTR.out 0).trans rfl
  have t1 := (blk_cell HTR.out 1).trans rfl
  have t2 := (blk_cell HTR.out 2).trans rfl
  have t3 := (blk_cell HTR.out 3).trans rfl
  have tl := blk_lt HTR.out
  go_wp2_with fail
  clear k0 k1 k2 k3 k4 kl t0 t1 t2 t3 tl
  go_loopw [17] (fun j wr => ∃ k : Nat, k ≤ N.gl.length ∧ j = .int .i64 k ∧ Aside0 (Below w8.heap.size w8 wr)) (fun j _ => N.gl.length - (intOf j).toNat)
  case atStart => exact ⟨0, Nat.zero_le _, rfl, ⟨Below.refl _ _⟩⟩
  case round =>
   obtain ⟨k, hk_, rfl, HBr⟩ := hrel
   have hb := HBr.out
   replace HB := Aside0.mk (HB.out.trans (hb.mono HB.out.size))
   replace HS := Aside0.mk (blk_below HS.out hb)
   replace HTR := Aside0.mk (blk_below HTR.out hb)
   replace HCL := Aside0.mk (Kd.C_below HCL.out hb)
   replace HCS := Aside0.mk (Kd.C_below HCS.out hb)
   replace HCG := Aside0.mk (Kd.C_below HCG.out hb)
   clear hb
   generalize wr = w100 at HBr HB HS HTR HCL HCS HCG ⊢
   by_cases hltk : k < N.gl.length
   ·
    have hlm := HLM.out
    have hkL : k < LE.length := by rw [HT.out.ll]; exact hltk
    obtain ⟨⟨u1, u2⟩, hv⟩ : ∃ z, hullF N [(amongB N.gl.length [(k : Int)], 4)] k = z := ⟨_, rfl⟩
    have Hu := Aside0.mk hv
    have Eu := Aside0.mk (enter_yes HT.out.has.yes (l := [(amongB N.gl.length [(k : Int)], 4)]) (ask_size hltk))
    have hin := HT.out.has.inside (l := [(amongB N.gl.length [(k : Int)], 4)]) (ask_size hltk) k
    rw [hv] at hin
    clear hv
    rw [← HT.out.least k hltk] at hin
    have IU := Aside0.mk hin
    clear hin
    have k0 := (blk_cell HS.out 0).trans rfl
    have k1 := (blk_cell HS.out 1).trans rfl
    have k2 := (blk_cell HS.out 2).trans rfl
    have k3 := (blk_cell HS.out 3).trans rfl
    have k4 := (blk_cell HS.out 4).trans rfl
    have kl := blk_lt HS.out
    have t0 := (blk_cell HTR.out 0).trans rfl
    have t1 := (blk_cell HTR.out 1).trans rfl
    have t2 := (blk_cell HTR.out 2).trans rfl
    have t3 := (blk_cell HTR.out 3).trans rfl
    have tl := blk_lt HTR.out
    go_wp2_with fail
    clear k0 k1 k2 k3 k4 kl t0 t1 t2 t3 tl
    have hA := HA.out.below HB.out
    refine (Least_calls N A0 c0 A3 c3 A4' c4' (k : Int) w100 hA).mono ?_
    clear hA
    rw [Int.toNat_natCast, Eu.out, Hu.out]
    rintro e w101 ⟨rfl, hb⟩
    replace HB := Aside0.mk (HB.out.trans (hb.mono HB.out.size))
    replace HS := Aside0.mk (blk_below HS.out hb)
    replace HTR := Aside0.mk (blk_below HTR.out hb)
    replace HBr := Aside0.mk (HBr.out.trans (hb.mono HBr.out.size))
    replace HCL := Aside0.mk (Kd.C_below HCL.out hb)
    replace HCS := Aside0.mk (Kd.C_below HCS.out hb)
    replace HCG := Aside0.mk (Kd.C_below HCG.out hb)
    clear hb
    go_upto_region 14 with (fail)
    have hb : Below w101.heap.size w101 (w101.alloc (.cells #[.int .i64 u1, .int .i64 u2] 24)) := below_alloc (Below.refl _ _) _
    have n1 := Aside0.mk (blk_new w101 (.cells #[.int .i64 u1, .int .i64 u2] 24))
    replace HB := Aside0.mk (HB.out.trans (hb.mono HB.out.size))
    replace HS := Aside0.mk (blk_below HS.out hb)
    replace HTR := Aside0.mk (blk_below HTR.out hb)
    replace HBr := Aside0.mk (HBr.out.trans (hb.mono HBr.out.size))
    replace HCL := Aside0.mk (Kd.C_below HCL.out hb)
    replace HCS := Aside0.mk (Kd.C_below HCS.out hb)
    replace HCG := Aside0.mk (Kd.C_below HCG.out hb)
    clear hb
    obtain ⟨U, hU⟩ : ∃ b, w101.heap.size = b := ⟨_, rfl⟩
    rw [hU] at n1 ⊢
    generalize (w101.alloc (.cells #[.int .i64 u1, .int .i64 u2] 24)) = w102 at HB n1 HS HTR HBr HCL HCS HCG ⊢
    clear hU
    have HU := n1
    clear n1 Hu Eu
    have HES := Aside0.mk (enter_yes HT.out.has.yes (ask_sees (D := N) (y := yr) hltk (by have := HY9.out; omega)))
    have HQ := Aside0.mk (seesF_eq HES.out)
    have k0 := (blk_cell HS.out 0).trans rfl
    have k1 := (blk_cell HS.out 1).trans rfl
    have k2 := (blk_cell HS.out 2).trans rfl
    have k3 := (blk_cell HS.out 3).trans rfl
    have k4 := (blk_cell HS.out 4).trans rfl
    have kl := blk_lt HS.out
    have t0 := (blk_cell HTR.out 0).trans rfl
    have t1 := (blk_cell HTR.out 1).trans rfl
    have t2 := (blk_cell HTR.out 2).trans rfl
    have t3 := (blk_cell HTR.out 3).trans rfl
    have tl := blk_lt HTR.out
    go_wp2_with fail
    clear k0 k1 k2 k3 k4 kl t0 t1 t2 t3 tl
    have hA := HA.out.below HB.out
    refine (Sees_calls N A0 c0 A3 c3 A4' c4' (k : Int) (yr : Int) w102 hA).mono ?_
    clear hA
    rw [HES.out, HQ.out]
    rintro e w103 ⟨⟨u, v, rfl, hn, m', _, _, hn2⟩, hb⟩
    obtain ⟨A2, c2', rfl, hc2, _, hC2⟩ := NewRow.rowI (l := sureL N k (yr : Int)) hn
    obtain ⟨A3', d2, rfl, hd2, _, hD2⟩ := NewRow.rowI (l := mayL N k (yr : Int)) hn2
    obtain ⟨L2, hL2⟩ : ∃ L, ints (sureL N k (yr : Int)) = L := ⟨_, rfl⟩
    obtain ⟨L3, hL3⟩ : ∃ L, ints (mayL N k (yr : Int)) = L := ⟨_, rfl⟩
    rw [hL2] at hC2 hc2 ⊢
    rw [hL3] at hD2 hd2 ⊢
    have HC2 := Aside0.mk hC2
    have HD2 := Aside0.mk hD2
    have HN2 := Aside0.mk (And.intro hc2 hd2)
    have EL2 := Aside0.mk hL2
    have EL3 := Aside0.mk hL3
    clear hn hn2 hC2 hD2 hc2 hd2 hL2 hL3 HES HQ
    replace HB := Aside0.mk (HB.out.trans (hb.mono HB.out.size))
    replace HS := Aside0.mk (blk_below HS.out hb)
    replace HTR := Aside0.mk (blk_below HTR.out hb)
    replace HBr := Aside0.mk (HBr.out.trans (hb.mono HBr.out.size))
    replace HU := Aside0.mk (blk_below HU.out hb)
    replace HCL := Aside0.mk (Kd.C_below HCL.out hb)
    replace HCS := Aside0.mk (Kd.C_below HCS.out hb)
    replace HCG := Aside0.mk (Kd.C_below HCG.out hb)
    clear hb
    go_upto_region 15 with (fail)
    have x0 := (blk_cell HTR.out 0).trans rfl
    have x2 := (blk_cell HU.out 0).trans rfl
    have x3 := (blk_cell HU.out 1).trans rfl
    obtain ⟨ad, hAD, x1⟩ := Kd.at_int HCL.out (k : Int) (by omega) (by omega)
    subst hAD
    rw [Int.toNat_natCast] at x1
    have q1 : (0 ≤ (k : Int)) = True := eq_true (by omega)
    have q2 : ((k : Int) < (LE.length : Int)) = True := eq_true (by omega)
    have q3 : (k : Int).toNat = k := Int.toNat_natCast k
    have hb0 : Below w103.heap.size w103 w103.drew := below_drew1 (Below.refl _ _)
    refine wp_region_G (List.range 16) (S := fun w' : World => w'.cell? ⟨B + 1, 0, none⟩ = some (.slice (some ad) LE.length cL) ∧ w'.cell? (ad.add k) = some (.int .i64 (rd LE (k : Int))) ∧ w'.cell? ⟨U, 0, none⟩ = some (.int .i64 u1) ∧ w'.cell? ⟨U, 1, none⟩ = some (.int .i64 u2) ∧ Aside0 (Below w103.heap.size w103 w')) (by kernel_rfl) ⟨x0, x1, x2, x3, ⟨hb0⟩⟩ (fun hHeld => ?_)
    clear hb0 x0 x1 x2 x3
    refine takeG 0 ?_
    refine takeG 1 ?_
    refine takeG 2 ?_
    refine takeG 3 ?_
    refine takeG 4 ?_
    refine takeG 5 ?_
    refine takeG 6 ?_
    refine takeG 7 ?_
    refine takeG 8 ?_
    refine takeG 9 ?_
    refine takeG 10 ?_
    refine takeG 11 ?_
    refine takeG 12 ?_
    have hB1 := hHeld.2.2.2.2.out
    have hH1 := hHeld
    refine wpAnyG_only (i := 13) (by kernel_rfl) rfl (fun K hK => ?_)
    go_simp
    refine (r1_Inside.calls _ u1 u2 true _ IU.out).mono ?_
    rintro e wi ⟨rfl, hb⟩
    clear hHeld
    refine hK.out _ _ ?_ (by trivial) (fun hHeld _ => ?_)
    ·
     exact ⟨cell_bl hH1.1 hb, cell_bl hH1.2.1 hb, cell_bl hH1.2.2.1 hb, cell_bl hH1.2.2.2.1 hb, ⟨hB1.trans (hb.mono hB1.size)⟩⟩
    clear hK K
    refine putG ?_
    clear hB1 hb hH1
    refine takeG 14 ?_
    refine takeG 15 ?_
    refine doneG ?_
    have hb := hHeld.2.2.2.2.out
    clear hHeld q1 q2 q3
    replace HB := Aside0.mk (HB.out.trans (hb.mono HB.out.size))
    replace HS := Aside0.mk (blk_below HS.out hb)
    replace HTR := Aside0.mk (blk_below HTR.out hb)
    replace HBr := Aside0.mk (HBr.out.trans (hb.mono HBr.out.size))
    replace HU := Aside0.mk (blk_below HU.out hb)
    replace HCL := Aside0.mk (Kd.C_below HCL.out hb)
    replace HCS := Aside0.mk (Kd.C_below HCS.out hb)
    replace HCG := Aside0.mk (Kd.C_below HCG.out hb)
    replace HC2 := Aside0.mk (Kd.C_below HC2.out hb)
    replace HD2 := Aside0.mk (Kd.C_below HD2.out hb)
    clear hb
    generalize wi = w104 at HB HS HTR HBr HU HCL HCS HCG HC2 HD2 ⊢
    clear IU HU hkL
    have k0 := (blk_cell HS.out 0).trans rfl
    have k1 := (blk_cell HS.out 1).trans rfl
    have k2 := (blk_cell HS.out 2).trans rfl
    have k3 := (blk_cell HS.out 3).trans rfl
    have k4 := (blk_cell HS.out 4).trans rfl
    have kl := blk_lt HS.out
    have t0 := (blk_cell HTR.out 0).trans rfl
    have t1 := (blk_cell HTR.out 1).trans rfl
    have t2 := (blk_cell HTR.out 2).trans rfl
    have t3 := (blk_cell HTR.out 3).trans rfl
    have tl := blk_lt HTR.out
    go_wp2_with fail
    clear k0 k1 k2 k3 k4 kl t0 t1 t2 t3 tl
    go_loopw [23] (fun j wr => ∃ a : Nat, a ≤ N.sp.length ∧ j = .int .i64 a ∧ Aside0 (Below w104.heap.size w104 wr)) (fun j _ => N.sp.length - (intOf j).toNat)
    case atStart => exact ⟨0, Nat.zero_le _, rfl, ⟨Below.refl _ _⟩⟩
    case round =>
     obtain ⟨a, hk_, rfl, HBi⟩ := hrel
     have hb := HBi.out
     replace HB := Aside0.mk (HB.out.trans (hb.mono HB.out.size))
     replace HS := Aside0.mk (blk_below HS.out hb)
     replace HTR := Aside0.mk (blk_below HTR.out hb)
     replace HBr := Aside0.mk (HBr.out.trans (hb.mono HBr.out.size))
     replace HCL := Aside0.mk (Kd.C_below HCL.out hb)
     replace HCS := Aside0.mk (Kd.C_below HCS.out hb)
     replace HCG := Aside0.mk (Kd.C_below HCG.out hb)
     replace HC2 := Aside0.mk (Kd.C_below HC2.out hb)
     replace HD2 := Aside0.mk (Kd.C_below HD2.out hb)
     clear hb
     generalize wr = w200 at HBi HB HS HTR HBr HCL HCS HCG HC2 HD2 ⊢
     by_cases hlta : a < N.sp.length
     ·
      have hsn := HT.out.seen a k (yr : Int) hlta hltk ⟨by omega, by have := HY9.out; omega⟩
      obtain ⟨p, hp⟩ : ∃ z, seenB (fn x) k (yr : Int) a = z := ⟨_, rfl⟩
      rw [hp] at hsn
      have HSN := Aside0.mk hsn
      have HPP := Aside0.mk hp
      clear hsn hp
      have k0 := (blk_cell HS.out 0).trans rfl
      have k1 := (blk_cell HS.out 1).trans rfl
      have k2 := (blk_cell HS.out 2).trans rfl
      have k3 := (blk_cell HS.out 3).trans rfl
      have k4 := (blk_cell HS.out 4).trans rfl
      have kl := blk_lt HS.out
      have t0 := (blk_cell HTR.out 0).trans rfl
      have t1 := (blk_cell HTR.out 1).trans rfl
      have t2 := (blk_cell HTR.out 2).trans rfl
      have t3 := (blk_cell HTR.out 3).trans rfl
      have tl := blk_lt HTR.out
      go_wp2_with fail
      clear k0 k1 k2 k3 k4 kl t0 t1 t2 t3 tl
      refine (r7_Seen.calls _ cL LE du _ cS SI A9 c9 [] (a : Int) (k : Int) (yr : Int) p w200 HCL.out HLL.out.1 HCS.out HLL.out.2.1 (C_none _ _ _) (Nat.zero_le _) HSN.out).mono ?_
      rintro e w201 ⟨rfl, hb⟩
      replace HB := Aside0.mk (HB.out.trans (hb.mono HB.out.size))
      replace HS := Aside0.mk (blk_below HS.out hb)
      replace HTR := Aside0.mk (blk_below HTR.out hb)
      replace HBr := Aside0.mk (HBr.out.trans (hb.mono HBr.out.size))
      replace HBi := Aside0.mk (HBi.out.trans (hb.mono HBi.out.size))
      replace HCL := Aside0.mk (Kd.C_below HCL.out hb)
      replace HCS := Aside0.mk (Kd.C_below HCS.out hb)
      replace HCG := Aside0.mk (Kd.C_below HCG.out hb)
      replace HC2 := Aside0.mk (Kd.C_below HC2.out hb)
      replace HD2 := Aside0.mk (Kd.C_below HD2.out hb)
      clear hb HSN
      cases p
      ·
       obtain ⟨Ks, hKs⟩ : ∃ K, r1_Has.f K L2 (a : Int) = some false := by
        have hr := (rHas L2 (by rw [← EL2.out, List.length_map]; exact Nat.le_trans (filter_len _ _) (by omega)) a).rounds
        rw [← EL2.out] at hr ⊢
        rw [show hasB (ints (sureL N k (yr : Int))) a = false from (has_filter hlta).trans (HT.out.has.sure HPP.out)] at hr
        exact hr
       have HKs := Aside0.mk hKs
       clear hKs HPP
       go_wp2_with fail
       have hcl := r1_Has.calls Ks A2 c2' L2 (a : Int) false w201 HC2.out HN2.out.1 HKs.out
       refine hcl.mono ?_
       clear hcl
       rintro e wq ⟨rfl, nd, rfl⟩
       have hb : Below w201.heap.size w201 (w201.drewN nd) := pw_below_drewN (Below.refl _ _) nd
       replace HB := Aside0.mk (HB.out.trans (hb.mono HB.out.size))
       replace HS := Aside0.mk (blk_below HS.out hb)
       replace HTR := Aside0.mk (blk_below HTR.out hb)
       replace HBr := Aside0.mk (HBr.out.trans (hb.mono HBr.out.size))
       replace HBi := Aside0.mk (HBi.out.trans (hb.mono HBi.out.size))
       replace HCL := Aside0.mk (Kd.C_below HCL.out hb)
       replace HCS := Aside0.mk (Kd.C_below HCS.out hb)
       replace HCG := Aside0.mk (Kd.C_below HCG.out hb)
       replace HC2 := Aside0.mk (Kd.C_below HC2.out hb)
       replace HD2 := Aside0.mk (Kd.C_below HD2.out hb)
       clear hb
       generalize w201.drewN nd = w202 at HB HS HTR HBr HBi HCL HCS HCG HC2 HD2 ⊢
       go_wp2_with fail
       go_roundw
       case rel => exact ⟨a + 1, by omega, by go_num, HBi⟩
       case measure => simp [intOf]; omega
      ·
       obtain ⟨Ks, hKs⟩ : ∃ K, r1_Has.f K L3 (a : Int) = some true := by
        have hr := (rHas L3 (by rw [← EL3.out, List.length_map]; exact Nat.le_trans (filter_len _ _) (by omega)) a).rounds
        rw [← EL3.out] at hr ⊢
        rw [show hasB (ints (mayL N k (yr : Int))) a = true from (has_filter hlta).trans (HT.out.has.may HPP.out)] at hr
        exact hr
       have HKs := Aside0.mk hKs
       clear hKs HPP
       go_wp2_with fail
       have hcl := r1_Has.calls Ks A3' d2 L3 (a : Int) true w201 HD2.out HN2.out.2 HKs.out
       refine hcl.mono ?_
       clear hcl
       rintro e wq ⟨rfl, nd, rfl⟩
       have hb : Below w201.heap.size w201 (w201.drewN nd) := pw_below_drewN (Below.refl _ _) nd
       replace HB := Aside0.mk (HB.out.trans (hb.mono HB.out.size))
       replace HS := Aside0.mk (blk_below HS.out hb)
       replace HTR := Aside0.mk (blk_below HTR.out hb)
       replace HBr := Aside0.mk (HBr.out.trans (hb.mono HBr.out.size))
       replace HBi := Aside0.mk (HBi.out.trans (hb.mono HBi.out.size))
       replace HCL := Aside0.mk (Kd.C_below HCL.out hb)
       replace HCS := Aside0.mk (Kd.C_below HCS.out hb)
       replace HCG := Aside0.mk (Kd.C_below HCG.out hb)
       replace HC2 := Aside0.mk (Kd.C_below HC2.out hb)
       replace HD2 := Aside0.mk (Kd.C_below HD2.out hb)
       clear hb
       generalize w201.drewN nd = w202 at HB HS HTR HBr HBi HCL HCS HCG HC2 HD2 ⊢
       go_wp2_with fail
       go_roundw
       case rel => exact ⟨a + 1, by omega, by go_num, HBi⟩
       case measure => simp [intOf]; omega
     ·
      obtain rfl : a = N.sp.length := by omega
      have k0 := (blk_cell HS.out 0).trans rfl
      have k1 := (blk_cell HS.out 1).trans rfl
      have k2 := (blk_cell HS.out 2).trans rfl
      have k3 := (blk_cell HS.out 3).trans rfl
      have k4 := (blk_cell HS.out 4).trans rfl
      have kl := blk_lt HS.out
      have t0 := (blk_cell HTR.out 0).trans rfl
      have t1 := (blk_cell HTR.out 1).trans rfl
      have t2 := (blk_cell HTR.out 2).trans rfl
      have t3 := (blk_cell HTR.out 3).trans rfl
      have tl := blk_lt HTR.out
      go_wp2_with fail
      clear k0 k1 k2 k3 k4 kl t0 t1 t2 t3 tl
      go_roundw
      case rel => exact ⟨k + 1, by omega, by go_num, HBr⟩
      case measure => simp [intOf]; omega
   ·
    obtain rfl : k = N.gl.length := by omega
    clear HBr
    have k0 := (blk_cell HS.out 0).trans rfl
    have k1 := (blk_cell HS.out 1).trans rfl
    have k2 := (blk_cell HS.out 2).trans rfl
    have k3 := (blk_cell HS.out 3).trans rfl
    have k4 := (blk_cell HS.out 4).trans rfl
    have kl := blk_lt HS.out
    have t0 := (blk_cell HTR.out 0).trans rfl
    have t1 := (blk_cell HTR.out 1).trans rfl
    have t2 := (blk_cell HTR.out 2).trans rfl
    have t3 := (blk_cell HTR.out 3).trans rfl
    have tl := blk_lt HTR.out
    go_wp2_with fail
    clear k0 k1 k2 k3 k4 kl t0 t1 t2 t3 tl
    go_loopw [25] (fun j wr => ∃ a : Nat, a ≤ N.sp.length ∧ j = .int .i64 a ∧ Aside0 (Below w100.heap.size w100 wr)) (fun j _ => N.sp.length - (intOf j).toNat)
    case atStart => exact ⟨0, Nat.zero_le _, rfl, ⟨Below.refl _ _⟩⟩
    case round =>
     obtain ⟨a, hk_, rfl, HBr⟩ := hrel
     have hb := HBr.out
     replace HB := Aside0.mk (HB.out.trans (hb.mono HB.out.size))
     replace HS := Aside0.mk (blk_below HS.out hb)
     replace HTR := Aside0.mk (blk_below HTR.out hb)
     replace HCL := Aside0.mk (Kd.C_below HCL.out hb)
     replace HCS := Aside0.mk (Kd.C_below HCS.out hb)
     replace HCG := Aside0.mk (Kd.C_below HCG.out hb)
     clear hb
     generalize wr = w100 at HBr HB HS HTR HCL HCS HCG ⊢
     by_cases hlta : a < N.sp.length
     ·
      have hlm := HLM.out
      have haL : a < SI.length := by rw [HT.out.ls]; exact hlta
      obtain ⟨⟨u1, u2⟩, hv⟩ : ∃ z, hullF N [(amongB N.sp.length [(a : Int)], 4)] (4 + a) = z := ⟨_, rfl⟩
      have Hu := Aside0.mk hv
      have Eu := Aside0.mk (enter_yes HT.out.has.yes (l := [(amongB N.sp.length [(a : Int)], 4)]) (ask_size hlta))
      have hin := HT.out.has.inside (l := [(amongB N.sp.length [(a : Int)], 4)]) (ask_size hlta) (4 + a)
      rw [hv] at hin
      clear hv
      rw [← HT.out.size a hlta] at hin
      have IU := Aside0.mk hin
      clear hin
      have k0 := (blk_cell HS.out 0).trans rfl
      have k1 := (blk_cell HS.out 1).trans rfl
      have k2 := (blk_cell HS.out 2).trans rfl
      have k3 := (blk_cell HS.out 3).trans rfl
      have k4 := (blk_cell HS.out 4).trans rfl
      have kl := blk_lt HS.out
      have t0 := (blk_cell HTR.out 0).trans rfl
      have t1 := (blk_cell HTR.out 1).trans rfl
      have t2 := (blk_cell HTR.out 2).trans rfl
      have t3 := (blk_cell HTR.out 3).trans rfl
      have tl := blk_lt HTR.out
      go_wp2_with fail
      clear k0 k1 k2 k3 k4 kl t0 t1 t2 t3 tl
      have hA := HA.out.below HB.out
      refine (Size_calls N A0 c0 A3 c3 A4' c4' (a : Int) w100 hA).mono ?_
      clear hA
      rw [Int.toNat_natCast, Eu.out, Hu.out]
      rintro e w101 ⟨rfl, hb⟩
      replace HB := Aside0.mk (HB.out.trans (hb.mono HB.out.size))
      replace HS := Aside0.mk (blk_below HS.out hb)
      replace HTR := Aside0.mk (blk_below HTR.out hb)
      replace HBr := Aside0.mk (HBr.out.trans (hb.mono HBr.out.size))
      replace HCL := Aside0.mk (Kd.C_below HCL.out hb)
      replace HCS := Aside0.mk (Kd.C_below HCS.out hb)
      replace HCG := Aside0.mk (Kd.C_below HCG.out hb)
      clear hb
      go_upto_region 27 with (fail)
      have hb : Below w101.heap.size w101 (w101.alloc (.cells #[.int .i64 u1, .int .i64 u2] 24)) := below_alloc (Below.refl _ _) _
      have n1 := Aside0.mk (blk_new w101 (.cells #[.int .i64 u1, .int .i64 u2] 24))
      replace HB := Aside0.mk (HB.out.trans (hb.mono HB.out.size))
      replace HS := Aside0.mk (blk_below HS.out hb)
      replace HTR := Aside0.mk (blk_below HTR.out hb)
      replace HBr := Aside0.mk (HBr.out.trans (hb.mono HBr.out.size))
      replace HCL := Aside0.mk (Kd.C_below HCL.out hb)
      replace HCS := Aside0.mk (Kd.C_below HCS.out hb)
      replace HCG := Aside0.mk (Kd.C_below HCG.out hb)
      clear hb
      obtain ⟨U, hU⟩ : ∃ b, w101.heap.size = b := ⟨_, rfl⟩
      rw [hU] at n1 ⊢
      generalize (w101.alloc (.cells #[.int .i64 u1, .int .i64 u2] 24)) = w102 at HB n1 HS HTR HBr HCL HCS HCG ⊢
      clear hU
      have HU := n1
      clear n1 Hu Eu
      have x0 := (blk_cell HTR.out 2).trans rfl
      have x2 := (blk_cell HU.out 0).trans rfl
      have x3 := (blk_cell HU.out 1).trans rfl
      obtain ⟨ad, hAD, x1⟩ := Kd.at_int HCS.out (a : Int) (by omega) (by omega)
      subst hAD
      rw [Int.toNat_natCast] at x1
      have q1 : (0 ≤ (a : Int)) = True := eq_true (by omega)
      have q2 : ((a : Int) < (SI.length : Int)) = True := eq_true (by omega)
      have q3 : (a : Int).toNat = a := Int.toNat_natCast a
      have hb0 : Below w102.heap.size w102 w102.drew := below_drew1 (Below.refl _ _)
      refine wp_region_G (List.range 12) (S := fun w' : World => w'.cell? ⟨B + 1, 2, none⟩ = some (.slice (some ad) SI.length cS) ∧ w'.cell? (ad.add a) = some (.int .i64 (rd SI (a : Int))) ∧ w'.cell? ⟨U, 0, none⟩ = some (.int .i64 u1) ∧ w'.cell? ⟨U, 1, none⟩ = some (.int .i64 u2) ∧ Aside0 (Below w102.heap.size w102 w')) (by kernel_rfl) ⟨x0, x1, x2, x3, ⟨hb0⟩⟩ (fun hHeld => ?_)
      clear hb0 x0 x1 x2 x3
      refine takeG 0 ?_
      refine takeG 1 ?_
      refine takeG 2 ?_
      refine takeG 3 ?_
      refine takeG 4 ?_
      refine takeG 5 ?_
      refine takeG 6 ?_
      refine takeG 7 ?_
      refine takeG 8 ?_
      have hB1 := hHeld.2.2.2.2.out
      have hH1 := hHeld
      refine wpAnyG_only (i := 9) (by kernel_rfl) rfl (fun K hK => ?_)
      go_simp
      refine (r1_Inside.calls _ u1 u2 true _ IU.out).mono ?_
      rintro e wi ⟨rfl, hb⟩
      clear hHeld
      refine hK.out _ _ ?_ (by trivial) (fun hHeld _ => ?_)
      ·
       exact ⟨cell_bl hH1.1 hb, cell_bl hH1.2.1 hb, cell_bl hH1.2.2.1 hb, cell_bl hH1.2.2.2.1 hb, ⟨hB1.trans (hb.mono hB1.size)⟩⟩
      clear hK K
      refine putG ?_
      clear hB1 hb hH1
      refine takeG 10 ?_
      refine takeG 11 ?_
      refine doneG ?_
      have hb := hHeld.2.2.2.2.out
      clear hHeld q1 q2 q3
      replace HB := Aside0.mk (HB.out.trans (hb.mono HB.out.size))
      replace HS := Aside0.mk (blk_below HS.out hb)
      replace HTR := Aside0.mk (blk_below HTR.out hb)
      replace HBr := Aside0.mk (HBr.out.trans (hb.mono HBr.out.size))
      replace HU := Aside0.mk (blk_below HU.out hb)
      replace HCL := Aside0.mk (Kd.C_below HCL.out hb)
      replace HCS := Aside0.mk (Kd.C_below HCS.out hb)
      replace HCG := Aside0.mk (Kd.C_below HCG.out hb)
      clear hb
      generalize wi = w103 at HB HS HTR HBr HU HCL HCS HCG ⊢
      clear IU HU
      obtain ⟨b, hbl', eb⟩ := emodN ((a : Int) + 1) (N.sp.length : Int) (by omega)
      have EB := Aside0.mk eb
      have hbl : b < N.sp.length := by omega
      have hbL : b < SI.length := by rw [HT.out.ls]; exact hbl
      clear eb hbl'
      have hw1 : IntKind.i64.wrap ((a : Int) + 1) = (a : Int) + 1 := wrapI (by omega) (by omega)
      have hnz : ¬ ((N.sp.length : Int) = 0) := by omega
      have hnz1 : ((N.sp.length : Int) == 0) = false := beq_eq_false_iff_ne.2 hnz
      have hnz2 : ¬ (N.sp.length = 0) := by omega
      have k0 := (blk_cell HS.out 0).trans rfl
      have k1 := (blk_cell HS.out 1).trans rfl
      have k2 := (blk_cell HS.out 2).trans rfl
      have k3 := (blk_cell HS.out 3).trans rfl
      have k4 := (blk_cell HS.out 4).trans rfl
      have kl := blk_lt HS.out
      have t0 := (blk_cell HTR.out 0).trans rfl
      have t1 := (blk_cell HTR.out 1).trans rfl
      have t2 := (blk_cell HTR.out 2).trans rfl
      have t3 := (blk_cell HTR.out 3).trans rfl
      have tl := blk_lt HTR.out
      go_upto_region 30 with (fail)
      clear k0 k1 k2 k3 k4 kl t0 t1 t2 t3 tl
      rw [EB.out]
      clear hw1 hnz hnz1 hnz2
      by_cases hab : a = b
      ·
       subst hab
       have hbb : ((a : Int) == (a : Int)) = true := beq_self_eq_true _
       go_wp2_with fail
       go_roundw
       case rel => exact ⟨a + 1, by omega, by go_num, HBr⟩
       case measure => simp [intOf]; omega
      ·
       have hbb : ((a : Int) == (b : Int)) = false := beq_eq_false_iff_ne.2 (by omega)
       have hbb2 : (a == b) = false := beq_eq_false_iff_ne.2 hab
       have HE2 := Aside0.mk (enter_yes HT.out.has.yes (ask_two (D := N) (a := a) (b := b) hlta hbl hab))
       have hdn := HT.out.has.denies HE2.out
       rw [← HT.out.size a hlta, ← HT.out.size b hbl] at hdn
       obtain ⟨how, hhow⟩ : ∃ h, largerF N (a : Int) (b : Int) = h := ⟨_, rfl⟩
       rw [hhow] at hdn
       have HH := Aside0.mk hhow
       have HDN := Aside0.mk hdn
       clear hhow hdn
       have HEP := Aside0.mk (enter_yes HT.out.has.yes (ask_part (D := N) (a := a) (b := b) (y := yr) hlta hbl hab (by have := HY9.out; omega)))
       have HPE := Aside0.mk (partF_eq HEP.out hlta hbl)
       have k0 := (blk_cell HS.out 0).trans rfl
       have k1 := (blk_cell HS.out 1).trans rfl
       have k2 := (blk_cell HS.out 2).trans rfl
       have k3 := (blk_cell HS.out 3).trans rfl
       have k4 := (blk_cell HS.out 4).trans rfl
       have kl := blk_lt HS.out
       have t0 := (blk_cell HTR.out 0).trans rfl
       have t1 := (blk_cell HTR.out 1).trans rfl
       have t2 := (blk_cell HTR.out 2).trans rfl
       have t3 := (blk_cell HTR.out 3).trans rfl
       have tl := blk_lt HTR.out
       go_wp2_with fail
       clear k0 k1 k2 k3 k4 kl t0 t1 t2 t3 tl
       have hA := HA.out.below HB.out
       refine (Larger_calls N A0 c0 A3 c3 A4' c4' (a : Int) (b : Int) w103 hA).mono ?_
       clear hA
       rw [HE2.out, HH.out]
       rintro e w104 ⟨rfl, hb⟩
       replace HB := Aside0.mk (HB.out.trans (hb.mono HB.out.size))
       replace HS := Aside0.mk (blk_below HS.out hb)
       replace HTR := Aside0.mk (blk_below HTR.out hb)
       replace HBr := Aside0.mk (HBr.out.trans (hb.mono HBr.out.size))
       replace HCL := Aside0.mk (Kd.C_below HCL.out hb)
       replace HCS := Aside0.mk (Kd.C_below HCS.out hb)
       replace HCG := Aside0.mk (Kd.C_below HCG.out hb)
       clear hb
       go_upto_region 32 with (fail)
       clear HE2 HH hbb hbb2
       have k0 := (blk_cell HS.out 0).trans rfl
       have k1 := (blk_cell HS.out 1).trans rfl
       have k2 := (blk_cell HS.out 2).trans rfl
       have k3 := (blk_cell HS.out 3).trans rfl
       have k4 := (blk_cell HS.out 4).trans rfl
       have kl := blk_lt HS.out
       have t0 := (blk_cell HTR.out 0).trans rfl
       have t1 := (blk_cell HTR.out 1).trans rfl
       have t2 := (blk_cell HTR.out 2).trans rfl
       have t3 := (blk_cell HTR.out 3).trans rfl
       have tl := blk_lt HTR.out
       go_wp2_with fail
       clear k0 k1 k2 k3 k4 kl t0 t1 t2 t3 tl
       have hA := HA.out.below HB.out
       refine (Part_calls N A0 c0 A3 c3 A4' c4' (a : Int) (b : Int) (yr : Int) w104 hA).mono ?_
       clear hA
       rw [HEP.out, HPE.out]
       rintro e w105 ⟨⟨v, rfl, hn, hl3⟩, hb⟩
       obtain ⟨A1', c1', rfl, hc1⟩ := Row.shape hn
       have hC1 := Row.read hn rfl (by have := filter_len N.gl.length (fun g => sureP N g (yr : Int) a && !mayP N g (yr : Int) b); simp only [partL, List.length_map] at *; omega)
       obtain ⟨L1, hL1⟩ : ∃ L, ints (partL N a b (yr : Int)) = L := ⟨_, rfl⟩
       rw [hL1] at hC1 hc1 ⊢
       have HC1 := Aside0.mk hC1
       have HN1 := Aside0.mk hc1
       have EL1 := Aside0.mk hL1
       clear hn hl3 hC1 hc1 hL1 HEP HPE
       replace HB := Aside0.mk (HB.out.trans (hb.mono HB.out.size))
       replace HS := Aside0.mk (blk_below HS.out hb)
       replace HTR := Aside0.mk (blk_below HTR.out hb)
       replace HBr := Aside0.mk (HBr.out.trans (hb.mono HBr.out.size))
       replace HCL := Aside0.mk (Kd.C_below HCL.out hb)
       replace HCS := Aside0.mk (Kd.C_below HCS.out hb)
       replace HCG := Aside0.mk (Kd.C_below HCG.out hb)
       clear hb
       go_upto_region 33 with (fail)
       obtain ⟨ad, hAD, x1⟩ := Kd.at_int HCS.out (a : Int) (by omega) (by omega)
       obtain ⟨ad2, hAD2, x2⟩ := Kd.at_int HCS.out (b : Int) (by omega) (by omega)
       cases hAD
       cases hAD2
       rw [Int.toNat_natCast] at x1 x2
       have qa1 : (0 ≤ (a : Int)) = True := eq_true (by omega)
       have qb1 : (0 ≤ (b : Int)) = True := eq_true (by omega)
       have qa2 : ((a : Int) < (SI.length : Int)) = True := eq_true (by omega)
       have qb2 : ((b : Int) < (SI.length : Int)) = True := eq_true (by omega)
       have qa3 : (a : Int).toNat = a := Int.toNat_natCast a
       have qb3 : (b : Int).toNat = b := Int.toNat_natCast b
       have qa4 : decide (0 ≤ (a : Int)) = true := decide_eq_true (by omega)
       have qb4 : decide (0 ≤ (b : Int)) = true := decide_eq_true (by omega)
       have qa5 : decide ((a : Int) < (SI.length : Int)) = true := decide_eq_true (by omega)
       have qb5 : decide ((b : Int) < (SI.length : Int)) = true := decide_eq_true (by omega)
       obtain ⟨dd, hdd⟩ : ∃ z, decide (rd SI (b : Int) < rd SI (a : Int)) = z := ⟨_, rfl⟩
       rw [hdd] at HDN
       have QA : Aside0 (∀ n, Calls Try.prog 44 #[.int .i64 how, .bool dd] (w105.drewN n) fun e w'' => e = .returned (.bool false) ∧ ∃ m, w'' = w105.drewN m) := ⟨fun n => Calls.quiet_of ((helioscopelaw07_denies.calls how dd false (w105.drewN n) HDN.out).mono fun e w' h => by obtain ⟨h1, m, h2⟩ := h; exact ⟨h1, m, by first | exact h2 | exact h2.symm⟩)⟩
       have k0 := (blk_cell HS.out 0).trans rfl
       have k1 := (blk_cell HS.out 1).trans rfl
       have k2 := (blk_cell HS.out 2).trans rfl
       have k3 := (blk_cell HS.out 3).trans rfl
       have k4 := (blk_cell HS.out 4).trans rfl
       have kl := blk_lt HS.out
       have t0 := (blk_cell HTR.out 0).trans rfl
       have t1 := (blk_cell HTR.out 1).trans rfl
       have t2 := (blk_cell HTR.out 2).trans rfl
       have t3 := (blk_cell HTR.out 3).trans rfl
       have tl := blk_lt HTR.out
       go_quiet ((go_at_call 44; with_reducible exact QA.out _))
       clear k0 k1 k2 k3 k4 kl t0 t1 t2 t3 tl
       have hb : Below w105.heap.size w105 (w105.drewN nq) := pw_below_drewN (Below.refl _ _) _
       replace HB := Aside0.mk (HB.out.trans (hb.mono HB.out.size))
       replace HS := Aside0.mk (blk_below HS.out hb)
       replace HTR := Aside0.mk (blk_below HTR.out hb)
       replace HBr := Aside0.mk (HBr.out.trans (hb.mono HBr.out.size))
       replace HCL := Aside0.mk (Kd.C_below HCL.out hb)
       replace HCS := Aside0.mk (Kd.C_below HCS.out hb)
       replace HCG := Aside0.mk (Kd.C_below HCG.out hb)
       replace HC1 := Aside0.mk (Kd.C_below HC1.out hb)
       clear hb
       generalize w105.drewN nq = w106 at HB HS HTR HBr HCL HCS HCG HC1 ⊢
       clear QA x1 x2 hdd HDN qa1 qa2 qa3 qa4 qa5 qb1 qb2 qb3 qb4 qb5
       have k0 := (blk_cell HS.out 0).trans rfl
       have k1 := (blk_cell HS.out 1).trans rfl
       have k2 := (blk_cell HS.out 2).trans rfl
       have k3 := (blk_cell HS.out 3).trans rfl
       have k4 := (blk_cell HS.out 4).trans rfl
       have kl := blk_lt HS.out
       have t0 := (blk_cell HTR.out 0).trans rfl
       have t1 := (blk_cell HTR.out 1).trans rfl
       have t2 := (blk_cell HTR.out 2).trans rfl
       have t3 := (blk_cell HTR.out 3).trans rfl
       have tl := blk_lt HTR.out
       go_wp2_with fail
       clear k0 k1 k2 k3 k4 kl t0 t1 t2 t3 tl
       go_loopw [33] (fun j wr => ∃ g : Nat, g ≤ N.gl.length ∧ j = .int .i64 g ∧ Aside0 (Below w106.heap.size w106 wr)) (fun j _ => N.gl.length - (intOf j).toNat)
       case atStart => exact ⟨0, Nat.zero_le _, rfl, ⟨Below.refl _ _⟩⟩
       case round =>
        obtain ⟨g, hk_, rfl, HBi⟩ := hrel
        have hb := HBi.out
        replace HB := Aside0.mk (HB.out.trans (hb.mono HB.out.size))
        replace HS := Aside0.mk (blk_below HS.out hb)
        replace HTR := Aside0.mk (blk_below HTR.out hb)
        replace HBr := Aside0.mk (HBr.out.trans (hb.mono HBr.out.size))
        replace HCL := Aside0.mk (Kd.C_below HCL.out hb)
        replace HCS := Aside0.mk (Kd.C_below HCS.out hb)
        replace HCG := Aside0.mk (Kd.C_below HCG.out hb)
        replace HC1 := Aside0.mk (Kd.C_below HC1.out hb)
        clear hb
        generalize wr = w200 at HBi HB HS HTR HBr HCL HCS HCG HC1 ⊢
        by_cases hltg : g < N.gl.length
        ·
         obtain ⟨hp, hhp⟩ : ∃ z, hasB (ints (partL N a b (yr : Int))) g = z := ⟨_, rfl⟩
         have HHP := Aside0.mk hhp
         obtain ⟨Ks, hKs⟩ : ∃ K, r1_Has.f K L1 (g : Int) = some hp := by
          have hr := (rHas L1 (by rw [← EL1.out, List.length_map]; exact Nat.le_trans (filter_len _ _) (by omega)) g).rounds
          rw [← EL1.out] at hr ⊢
          rw [hhp] at hr
          exact hr
         have HKs := Aside0.mk hKs
         clear hKs hhp
         have k0 := (blk_cell HS.out 0).trans rfl
         have k1 := (blk_cell HS.out 1).trans rfl
         have k2 := (blk_cell HS.out 2).trans rfl
         have k3 := (blk_cell HS.out 3).trans rfl
         have k4 := (blk_cell HS.out 4).trans rfl
         have kl := blk_lt HS.out
         have t0 := (blk_cell HTR.out 0).trans rfl
         have t1 := (blk_cell HTR.out 1).trans rfl
         have t2 := (blk_cell HTR.out 2).trans rfl
         have t3 := (blk_cell HTR.out 3).trans rfl
         have tl := blk_lt HTR.out
         go_wp2_with fail
         have hcl := r1_Has.calls Ks A1' c1' L1 (g : Int) hp w200 HC1.out HN1.out HKs.out
         refine hcl.mono ?_
         clear hcl
         rintro e wq ⟨rfl, nd, rfl⟩
         have hb : Below w200.heap.size w200 (w200.drewN nd) := pw_below_drewN (Below.refl _ _) nd
         replace HB := Aside0.mk (HB.out.trans (hb.mono HB.out.size))
         replace HS := Aside0.mk (blk_below HS.out hb)
         replace HTR := Aside0.mk (blk_below HTR.out hb)
         replace HBr := Aside0.mk (HBr.out.trans (hb.mono HBr.out.size))
         replace HBi := Aside0.mk (HBi.out.trans (hb.mono HBi.out.size))
         replace HCL := Aside0.mk (Kd.C_below HCL.out hb)
         replace HCS := Aside0.mk (Kd.C_below HCS.out hb)
         replace HCG := Aside0.mk (Kd.C_below HCG.out hb)
         replace HC1 := Aside0.mk (Kd.C_below HC1.out hb)
         clear hb
         generalize w200.drewN nd = w201 at HB HS HTR HBr HBi HCL HCS HCG HC1 ⊢
         clear k0 k1 k2 k3 k4 kl t0 t1 t2 t3 tl
         cases hp
         ·
          go_wp2_with fail
          go_roundw
          case rel => exact ⟨g + 1, by omega, by go_num, HBi⟩
          case measure => simp [intOf]; omega
         ·
          have hpt := HT.out.has.part hltg HHP.out
          have hs1 := HT.out.seen a g (yr : Int) hlta hltg ⟨by omega, by have := HY9.out; omega⟩
          have hs2 := HT.out.seen b g (yr : Int) hbl hltg ⟨by omega, by have := HY9.out; omega⟩
          rw [hpt.1] at hs1
          rw [hpt.2] at hs2
          have HS1 := Aside0.mk hs1
          have HS2 := Aside0.mk hs2
          clear hpt hs1 hs2
          have k0 := (blk_cell HS.out 0).trans rfl
          have k1 := (blk_cell HS.out 1).trans rfl
          have k2 := (blk_cell HS.out 2).trans rfl
          have k3 := (blk_cell HS.out 3).trans rfl
          have k4 := (blk_cell HS.out 4).trans rfl
          have kl := blk_lt HS.out
          have t0 := (blk_cell HTR.out 0).trans rfl
          have t1 := (blk_cell HTR.out 1).trans rfl
          have t2 := (blk_cell HTR.out 2).trans rfl
          have t3 := (blk_cell HTR.out 3).trans rfl
          have tl := blk_lt HTR.out
          go_wp2_with fail
          clear k0 k1 k2 k3 k4 kl t0 t1 t2 t3 tl
          refine (r7_Seen.calls _ cL LE du _ cS SI A9 c9 [] (a : Int) (g : Int) (yr : Int) true w201 HCL.out HLL.out.1 HCS.out HLL.out.2.1 (C_none _ _ _) (Nat.zero_le _) HS1.out).mono ?_
          rintro e w202 ⟨rfl, hb⟩
          replace HB := Aside0.mk (HB.out.trans (hb.mono HB.out.size))
          replace HS := Aside0.mk (blk_below HS.out hb)
          replace HTR := Aside0.mk (blk_below HTR.out hb)
          replace HBr := Aside0.mk (HBr.out.trans (hb.mono HBr.out.size))
          replace HBi := Aside0.mk (HBi.out.trans (hb.mono HBi.out.size))
          replace HCL := Aside0.mk (Kd.C_below HCL.out hb)
          replace HCS := Aside0.mk (Kd.C_below HCS.out hb)
          replace HCG := Aside0.mk (Kd.C_below HCG.out hb)
          replace HC1 := Aside0.mk (Kd.C_below HC1.out hb)
          clear hb
          have k0 := (blk_cell HS.out 0).trans rfl
          have k1 := (blk_cell HS.out 1).trans rfl
          have k2 := (blk_cell HS.out 2).trans rfl
          have k3 := (blk_cell HS.out 3).trans rfl
          have k4 := (blk_cell HS.out 4).trans rfl
          have kl := blk_lt HS.out
          have t0 := (blk_cell HTR.out 0).trans rfl
          have t1 := (blk_cell HTR.out 1).trans rfl
          have t2 := (blk_cell HTR.out 2).trans rfl
          have t3 := (blk_cell HTR.out 3).trans rfl
          have tl := blk_lt HTR.out
          go_wp2_with fail
          clear k0 k1 k2 k3 k4 kl t0 t1 t2 t3 tl
          refine (r7_Seen.calls _ cL LE du _ cS SI A9 c9 [] (b : Int) (g : Int) (yr : Int) false w202 HCL.out HLL.out.1 HCS.out HLL.out.2.1 (C_none _ _ _) (Nat.zero_le _) HS2.out).mono ?_
          rintro e w203 ⟨rfl, hb⟩
          replace HB := Aside0.mk (HB.out.trans (hb.mono HB.out.size))
          replace HS := Aside0.mk (blk_below HS.out hb)
          replace HTR := Aside0.mk (blk_below HTR.out hb)
          replace HBr := Aside0.mk (HBr.out.trans (hb.mono HBr.out.size))
          replace HBi := Aside0.mk (HBi.out.trans (hb.mono HBi.out.size))
          replace HCL := Aside0.mk (Kd.C_below HCL.out hb)
          replace HCS := Aside0.mk (Kd.C_below HCS.out hb)
          replace HCG := Aside0.mk (Kd.C_below HCG.out hb)
          replace HC1 := Aside0.mk (Kd.C_below HC1.out hb)
          clear hb
          go_wp2_with fail
          go_roundw
          case rel => exact ⟨g + 1, by omega, by go_num, HBi⟩
          case measure => simp [intOf]; omega
        ·
         obtain rfl : g = N.gl.length := by omega
         have k0 := (blk_cell HS.out 0).trans rfl
         have k1 := (blk_cell HS.out 1).trans rfl
         have k2 := (blk_cell HS.out 2).trans rfl
         have k3 := (blk_cell HS.out 3).trans rfl
         have k4 := (blk_cell HS.out 4).trans rfl
         have kl := blk_lt HS.out
         have t0 := (blk_cell HTR.out 0).trans rfl
         have t1 := (blk_cell HTR.out 1).trans rfl
         have t2 := (blk_cell HTR.out 2).trans rfl
         have t3 := (blk_cell HTR.out 3).trans rfl
         have tl := blk_lt HTR.out
         go_wp2_with fail
         clear k0 k1 k2 k3 k4 kl t0 t1 t2 t3 tl
         go_roundw
         case rel => exact ⟨a + 1, by omega, by go_num, HBr⟩
         case measure => simp [intOf]; omega
     ·
      obtain rfl : a = N.sp.length := by omega
      clear HBr
      have k0 := (blk_cell HS.out 0).trans rfl
      have k1 := (blk_cell HS.out 1).trans rfl
      have k2 := (blk_cell HS.out 2).trans rfl
      have k3 := (blk_cell HS.out 3).trans rfl
      have k4 := (blk_cell HS.out 4).trans rfl
      have kl := blk_lt HS.out
      have t0 := (blk_cell HTR.out 0).trans rfl
      have t1 := (blk_cell HTR.out 1).trans rfl
      have t2 := (blk_cell HTR.out 2).trans rfl
      have t3 := (blk_cell HTR.out 3).trans rfl
      have tl := blk_lt HTR.out
      go_wp2_with fail
      clear k0 k1 k2 k3 k4 kl t0 t1 t2 t3 tl
      go_loopw [34] (fun j wr => ∃ i : Nat, i ≤ GL.length ∧ j = .int .i64 i ∧ Aside0 (Below w100.heap.size w100 wr)) (fun j _ => GL.length - (intOf j).toNat)
      case atStart => exact ⟨0, Nat.zero_le _, rfl, ⟨Below.refl _ _⟩⟩
      case round =>
       obtain ⟨i, hk_, rfl, HBr⟩ := hrel
       have hb := HBr.out
       replace HB := Aside0.mk (HB.out.trans (hb.mono HB.out.size))
       replace HS := Aside0.mk (blk_below HS.out hb)
       replace HTR := Aside0.mk (blk_below HTR.out hb)
       replace HCL := Aside0.mk (Kd.C_below HCL.out hb)
       replace HCS := Aside0.mk (Kd.C_below HCS.out hb)
       replace HCG := Aside0.mk (Kd.C_below HCG.out hb)
       clear hb
       generalize wr = w100 at HBr HB HS HTR HCL HCS HCG ⊢
       by_cases hlti : i < GL.length
       ·
        have hid : i < N.dr.length := by rw [← HT.out.lg]; exact hlti
        have hlm := HLM.out
        have hi50 : i < 5 := by omega
        obtain ⟨g, hg, hgr, hgu⟩ := HT.out.used i hid
        have HE := Aside0.mk (enter_yes HT.out.has.yes (ask_used (D := N) (k := i) hid))
        have hul := Nat.le_trans (Nat.le_of_eq (congrArg List.length (usedF_eq HE.out))) (filter_len _ _)
        obtain ⟨us, hus⟩ : ∃ z, usedF N (i : Int) = z := ⟨_, rfl⟩
        rw [hus] at hgu hul
        have HUS := Aside0.mk hus
        have HGR := Aside0.mk hgr
        obtain ⟨Ks, hKs⟩ := (rHas (ints us) (by simp only [List.length_map]; omega) g).rounds
        rw [hgu] at hKs
        have HKs := Aside0.mk hKs
        clear hKs hgu hus hgr hul
        have k0 := (blk_cell HS.out 0).trans rfl
        have k1 := (blk_cell HS.out 1).trans rfl
        have k2 := (blk_cell HS.out 2).trans rfl
        have k3 := (blk_cell HS.out 3).trans rfl
        have k4 := (blk_cell HS.out 4).trans rfl
        have kl := blk_lt HS.out
        have t0 := (blk_cell HTR.out 0).trans rfl
        have t1 := (blk_cell HTR.out 1).trans rfl
        have t2 := (blk_cell HTR.out 2).trans rfl
        have t3 := (blk_cell HTR.out 3).trans rfl
        have tl := blk_lt HTR.out
        go_wp2_with fail
        clear k0 k1 k2 k3 k4 kl t0 t1 t2 t3 tl
        have hA := HA.out.below HB.out
        refine (Used_calls N A0 c0 A3 c3 A4' c4' (i : Int) w100 hA).mono ?_
        clear hA
        rw [HE.out, HUS.out]
        rintro e w101 ⟨⟨v, rfl, hn⟩, hb⟩
        obtain ⟨A1', c1', rfl, hc1, _, hC1⟩ := NewRow.rowI (l := us) hn
        have hcl := fun w1 hC => r1_Has.calls Ks A1' c1' (ints us) (g : Int) true w1 hC hc1 HKs.out
        have HC1 := Aside0.mk hC1
        have HCL2 := Aside0.mk hcl
        clear hn hC1 hc1 hcl HE HUS HKs
        replace HB := Aside0.mk (HB.out.trans (hb.mono HB.out.size))
        replace HS := Aside0.mk (blk_below HS.out hb)
        replace HTR := Aside0.mk (blk_below HTR.out hb)
        replace HBr := Aside0.mk (HBr.out.trans (hb.mono HBr.out.size))
        replace HCL := Aside0.mk (Kd.C_below HCL.out hb)
        replace HCS := Aside0.mk (Kd.C_below HCS.out hb)
        replace HCG := Aside0.mk (Kd.C_below HCG.out hb)
        clear hb
        go_upto_region 44 with (fail)
        obtain ⟨ad, hAD, x1⟩ := Kd.at_int HCG.out (i : Int) (by omega) (by omega)
        subst hAD
        rw [Int.toNat_natCast, HGR.out] at x1
        have q1 : (0 ≤ (i : Int)) = True := eq_true (by omega)
        have q2 : ((i : Int) < (GL.length : Int)) = True := eq_true (by omega)
        go_wp2_with fail
        clear x1 q1 q2
        have hcl := HCL2.out w101 HC1.out
        try rw [show (ints us).length = us.length from by simp] at hcl
        refine hcl.mono ?_
        clear hcl
        rintro e wq ⟨rfl, nd, rfl⟩
        have hb : Below w101.heap.size w101 (w101.drewN nd) := pw_below_drewN (Below.refl _ _) nd
        replace HB := Aside0.mk (HB.out.trans (hb.mono HB.out.size))
        replace HS := Aside0.mk (blk_below HS.out hb)
        replace HTR := Aside0.mk (blk_below HTR.out hb)
        replace HBr := Aside0.mk (HBr.out.trans (hb.mono HBr.out.size))
        replace HCL := Aside0.mk (Kd.C_below HCL.out hb)
        replace HCS := Aside0.mk (Kd.C_below HCS.out hb)
        replace HCG := Aside0.mk (Kd.C_below HCG.out hb)
        replace HC1 := Aside0.mk (Kd.C_below HC1.out hb)
        clear hb
        generalize w101.drewN nd = w102 at HB HS HTR HBr HCL HCS HCG HC1 ⊢
        go_wp2_with fail
        go_roundw
        case rel => exact ⟨i + 1, by omega, by go_num, HBr⟩
        case measure => simp [intOf]; omega
       ·
        obtain rfl : i = GL.length := by omega
        go_wp2_with fail
        refine (Awake_calls _).mono ?_
        rintro e wA ⟨rfl, hb⟩
        replace HB := Aside0.mk (HB.out.trans (hb.mono HB.out.size))
        clear hb
        go_wp2
        go_ret
        exact ⟨rfl, HB0.out.trans (HB.out.mono HB0.out.size)⟩
end Go.Proofs.Ytgoidclnccjdeaa.D
end
