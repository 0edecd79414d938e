/- Contracts of the functions that this claim reaches, with the words for them: pruned and packed by wip/tools/prune.py. -/
import Derived.Test.YtemeapfnfegkiaaUb
section
namespace Go.Proofs.Ytemeapfnfegkiaa.PR
open Go.RowKit Go.Proofs.YtemeapfnfegkiaaW.PrintWords Go.Proofs.YtemeapfnfegkiaaW.PrintLast Go.Proofs.YtemeapfnfegkiaaW.PrintMore
attribute [local go_sem] max2_int min2_int max_two min_two max_three min_three max_four min_four   -- for this text's walks alone
set_option linter.unusedVariables false
set_option linter.unusedSimpArgs false

mutual
def helioscoperef01_Check.j0 : Nat → Int → Bool → ByteArray → Int → Int → Int → List (S80) → List (S52) → Option (Int × Int × Int)
 | 0, _, _, _, _, _, _, _, _ => none
 | k + 1, x5, x25, x111000, x111001, x111002, x111003, x111004, x111005 => if x25 = true then (some (1, 0, 7)) else (if x5 = 0 then (if (x111004.length : Int) > 7 then (some (2, 0, 3)) else (helioscoperef01_Check.l0 k 0 x111000 x111001 x111002 x111003 x111004 x111005)) else (some (1, 0, x5)))
def helioscoperef01_Check.l0 : Nat → Int → ByteArray → Int → Int → Int → List (S80) → List (S52) → Option (Int × Int × Int)
 | 0, _, _, _, _, _, _, _ => none
 | k + 1, x6, x111000, x111001, x111002, x111003, x111004, x111005 => if x6 < (x111004.length : Int) then (if 0 ≤ x6 then ((helioscoperef01_In.f ((rd_T80 x111004 x6).f0) (-12) 12).bind fun t116 => (if t116 = true then ((helioscoperef01_In.f ((rd_T80 x111004 x6).f1) (-12) 12).bind fun t117 => (helioscoperef01_Check.j2 k x6 (!t117) x111000 x111001 x111002 x111003 x111004 x111005 ((rd_T80 x111004 x6).f0) ((rd_T80 x111004 x6).f1) ((rd_T80 x111004 x6).f2))) else (helioscoperef01_Check.j2 k x6 true x111000 x111001 x111002 x111003 x111004 x111005 ((rd_T80 x111004 x6).f0) ((rd_T80 x111004 x6).f1) ((rd_T80 x111004 x6).f2)))) else (none)) else (if (x111005.length : Int) > 4 then (some (3, 0, 3)) else (helioscoperef01_Check.l2 k 0 x111000 x111001 x111002 x111003 x111004 x111005))
def helioscoperef01_Check.j2 : Nat → Int → Bool → ByteArray → Int → Int → Int → List (S80) → List (S52) → Int → Int → Bool → Option (Int × Int × Int)
 | 0, _, _, _, _, _, _, _, _, _, _, _ => none
 | k + 1, x6, x54, x111000, x111001, x111002, x111003, x111004, x111005, x116000, x116001, x116002 => if x54 = true then (some (2, x6, 7)) else (helioscoperef01_Check.l1 k x6 0 x111000 x111001 x111002 x111003 x111004 x111005 x116000 x116001 x116002)
def helioscoperef01_Check.l1 : Nat → Int → Int → ByteArray → Int → Int → Int → List (S80) → List (S52) → Int → Int → Bool → Option (Int × Int × Int)
 | 0, _, _, _, _, _, _, _, _, _, _, _ => none
 | k + 1, x6, x8, x111000, x111001, x111002, x111003, x111004, x111005, x116000, x116001, x116002 => if x8 < x6 then (if 0 ≤ x8 then (if x8 < (x111004.length : Int) then (if ((rd_T80 x111004 x8).f0) = x116000 then (if ((rd_T80 x111004 x8).f1) = x116001 then (some (2, x6, 5)) else (helioscoperef01_Check.l1 k x6 (wrap64 (x8 + 1)) x111000 x111001 x111002 x111003 x111004 x111005 x116000 x116001 x116002)) else (helioscoperef01_Check.l1 k x6 (wrap64 (x8 + 1)) x111000 x111001 x111002 x111003 x111004 x111005 x116000 x116001 x116002)) else (none)) else (none)) else (helioscoperef01_Check.l0 k (wrap64 (x6 + 1)) x111000 x111001 x111002 x111003 x111004 x111005)
def helioscoperef01_Check.l2 : Nat → Int → ByteArray → Int → Int → Int → List (S80) → List (S52) → Option (Int × Int × Int)
 | 0, _, _, _, _, _, _, _ => none
 | k + 1, x9, x111000, x111001, x111002, x111003, x111004, x111005 => if x9 < (x111005.length : Int) then (if 0 ≤ x9 then ((helioscoperef01_index.f x111000 x111001 x111002 x111003 x111004 x111005 ((rd_T52 x111005 x9).f0)).bind fun t122 => (if t122 = true then ((helioscoperef01_index.f x111000 x111001 x111002 x111003 x111004 x111005 ((rd_T52 x111005 x9).f1)).bind fun t123 => (helioscoperef01_Check.j5 k x9 (!t123) x111000 x111001 x111002 x111003 x111004 x111005 ((rd_T52 x111005 x9).f0) ((rd_T52 x111005 x9).f1) ((rd_T52 x111005 x9).f2))) else (helioscoperef01_Check.j5 k x9 true x111000 x111001 x111002 x111003 x111004 x111005 ((rd_T52 x111005 x9).f0) ((rd_T52 x111005 x9).f1) ((rd_T52 x111005 x9).f2)))) else (none)) else (some (0, 0, 0))
def helioscoperef01_Check.j5 : Nat → Int → Bool → ByteArray → Int → Int → Int → List (S80) → List (S52) → Int → Int → Bool → Option (Int × Int × Int)
 | 0, _, _, _, _, _, _, _, _, _, _, _ => none
 | k + 1, x9, x109, x111000, x111001, x111002, x111003, x111004, x111005, x122000, x122001, x122002 => if x109 = true then (some (3, x9, 4)) else (if x122000 = x122001 then (some (3, x9, 2)) else (helioscoperef01_Check.l2 k (wrap64 (x9 + 1)) x111000 x111001 x111002 x111003 x111004 x111005))
end
def helioscoperef01_Check.f (k : Nat) (a0_0 : ByteArray) (a0_1 : Int) (a0_2 : Int) (a0_3 : Int) (l0_4 : List (S80)) (l0_5 : List (S52)) : Option (Int × Int × Int) := (helioscoperef01_Name.f k a0_0).bind fun t111 => (if t111 = true then ((helioscoperef01_Ends.f k a0_2 a0_3 0 12).bind fun t112 => ((helioscoperef01_In.f a0_1 1 12).bind fun t113 => (if t113 = true then (helioscoperef01_Check.j0 k t112 (t112 == 7) a0_0 a0_1 a0_2 a0_3 l0_4 l0_5) else (helioscoperef01_Check.j0 k t112 true a0_0 a0_1 a0_2 a0_3 l0_4 l0_5)))) else (some (1, 0, 6)))
set_option maxHeartbeats 8000000 in
set_option maxRecDepth 100000 in
theorem helioscoperef01_Check.calls (k : Nat) (a0_0 : ByteArray) (a0_1 : Int) (a0_2 : Int) (a0_3 : Int) (A0_4 : Option Addr) (c0_4 : Nat) (l0_4 : List (S80)) (A0_5 : Option Addr) (c0_5 : Nat) (l0_5 : List (S52)) (r1 : Int) (r2 : Int) (r3 : Int) (w : World) (hr0_4 : Kd.C k80 w A0_4 l0_4.length l0_4) (hc0_4 : l0_4.length ≤ c0_4) (hr0_5 : Kd.C k52 w A0_5 l0_5.length l0_5) (hc0_5 : l0_5.length ≤ c0_5) (h : helioscoperef01_Check.f k a0_0 a0_1 a0_2 a0_3 l0_4 l0_5 = some (r1, r2, r3)) :
  Calls Try.prog 19 #[.agg #[.string a0_0, .int .i64 a0_1, .int .i64 a0_2, .int .i64 a0_3, .slice A0_4 l0_4.length c0_4, .slice A0_5 l0_5.length c0_5]] w fun e w' => e = .returned (.tuple #[.int .i64 r1, .int .i64 r2, .int .i64 r3]) ∧ Below w.heap.size w w' := by
 have hu27 := Try.underlying27
 have hu23 := Try.underlying23
 have hu80 := Try.underlying80
 have hu52 := Try.underlying52
 have HR0_4 := Aside0.mk hr0_4
 have HC0_4 := Aside0.mk hc0_4
 clear hr0_4 hc0_4
 have HR0_5 := Aside0.mk hr0_5
 have HC0_5 := Aside0.mk hc0_5
 clear hr0_5 hc0_5
 have HB := Aside0.mk (Below.refl w.heap.size w)
 have H : ((helioscoperef01_Name.f k a0_0).bind fun t111 => (if t111 = true then ((helioscoperef01_Ends.f k a0_2 a0_3 0 12).bind fun t112 => ((helioscoperef01_In.f a0_1 1 12).bind fun t113 => (if t113 = true then (helioscoperef01_Check.j0 k t112 (t112 == 7) a0_0 a0_1 a0_2 a0_3 l0_4 l0_5) else (helioscoperef01_Check.j0 k t112 true a0_0 a0_1 a0_2 a0_3 l0_4 l0_5)))) else (some (1, 0, 6)))) = some (r1, r2, r3) := h
 clear h
 replace H := Option.bind_eq_some_iff.mp H
 obtain ⟨t111, A20, H⟩ := H
 replace H : (if t111 = true then ((helioscoperef01_Ends.f k a0_2 a0_3 0 12).bind fun t112 => ((helioscoperef01_In.f a0_1 1 12).bind fun t113 => (if t113 = true then (helioscoperef01_Check.j0 k t112 (t112 == 7) a0_0 a0_1 a0_2 a0_3 l0_4 l0_5) else (helioscoperef01_Check.j0 k t112 true a0_0 a0_1 a0_2 a0_3 l0_4 l0_5)))) else (some (1, 0, 6))) = some (r1, r2, r3) := H
 have A2 := Aside0.mk A20
 clear A20
 by_cases c3 : t111 = true
 ·
  subst c3
  have H1 : ((helioscoperef01_Ends.f k a0_2 a0_3 0 12).bind fun t112 => ((helioscoperef01_In.f a0_1 1 12).bind fun t113 => (if t113 = true then (helioscoperef01_Check.j0 k t112 (t112 == 7) a0_0 a0_1 a0_2 a0_3 l0_4 l0_5) else (helioscoperef01_Check.j0 k t112 true a0_0 a0_1 a0_2 a0_3 l0_4 l0_5)))) = some (r1, r2, r3) := by rw [if_pos rfl] at H; exact H
  clear H
  have H := H1
  clear H1
  replace H := Option.bind_eq_some_iff.mp H
  obtain ⟨t112, A40, H⟩ := H
  replace H : ((helioscoperef01_In.f a0_1 1 12).bind fun t113 => (if t113 = true then (helioscoperef01_Check.j0 k t112 (t112 == 7) a0_0 a0_1 a0_2 a0_3 l0_4 l0_5) else (helioscoperef01_Check.j0 k t112 true a0_0 a0_1 a0_2 a0_3 l0_4 l0_5))) = some (r1, r2, r3) := H
  have A4 := Aside0.mk A40
  clear A40
  have HC5 := Aside0.mk H
  clear H
  go_enter Try.func19, Try.ntmps19
  go_upto_region 4 with (first | ((with_reducible refine gate_dst (N := 1) rfl ?_); refine box_event ?hg (N := 1) ?hd (cs := #[.string a0_0, .int .i64 a0_1, .int .i64 a0_2, .int .i64 a0_3, .slice A0_4 l0_4.length c0_4, .slice A0_5 l0_5.length c0_5]) (t := 27) ?hr ?_; (case hd => rfl); (case hg => rfl); (case hr => first | (go_simp; done) | (go_simp; rfl)); intro gb110 hg w6 hbox hb; have n0_ := Aside0.mk (below_step (by repeat (first | (with_reducible first | exact HB.out | apply below_alloc | apply pw_below_drewN | apply below_drew1) | exact HB.out)) hb); have n1_ := Aside0.mk (hbox); have n2_ := Aside0.mk ((by rw [hg]; exact (below_size (by repeat (first | (with_reducible first | exact HB.out | apply below_alloc | apply pw_below_drewN | apply below_drew1) | exact HB.out))) : w.heap.size ≤ gb110)); have n3_ := Aside0.mk ((by rw [hg]; exact (below_size (by repeat (first | (with_reducible first | exact HB.out | apply below_alloc | apply pw_below_drewN | apply below_drew1) | exact HB.out))) : w.heap.size ≤ gb110)); clear HB; have HB := n0_; have BK110 := n1_; have GW110 := n2_; have GE110 := n3_; clear n0_ n1_ n2_ n3_; clear hb hbox hg; have hcz7_0 : w6.cell? ⟨gb110, 0, none⟩ = some (.string a0_0) := (blk_cell BK110.out 0).trans rfl; have hcz7_1 : w6.cell? ⟨gb110, 1, none⟩ = some (.int .i64 a0_1) := (blk_cell BK110.out 1).trans rfl; have hcz7_2 : w6.cell? ⟨gb110, 2, none⟩ = some (.int .i64 a0_2) := (blk_cell BK110.out 2).trans rfl; have hcz7_3 : w6.cell? ⟨gb110, 3, none⟩ = some (.int .i64 a0_3) := (blk_cell BK110.out 3).trans rfl; have hcz7_4 : w6.cell? ⟨gb110, 4, none⟩ = some (.slice A0_4 l0_4.length c0_4) := (blk_cell BK110.out 4).trans rfl; have hcz7_5 : w6.cell? ⟨gb110, 5, none⟩ = some (.slice A0_5 l0_5.length c0_5) := (blk_cell BK110.out 5).trans rfl; have hfz7_0 := blk_frozen BK110.out 0; have hfz7_1 := blk_frozen BK110.out 1; have hfz7_2 := blk_frozen BK110.out 2; have hfz7_3 := blk_frozen BK110.out 3; have hfz7_4 := blk_frozen BK110.out 4; have hfz7_5 := blk_frozen BK110.out 5) | (go_at_call 21; (with_reducible refine (helioscoperef01_Name.calls k a0_0 true _ A2.out).mono ?_); rintro e w' ⟨rfl, ⟨nd, rfl⟩⟩; (try first | exact ⟨rfl, _, World.drewN_drewN _ _ _⟩ | exact ⟨rfl, _, Eq.trans (World.drewN_drewN _ _ _) (congrArg (World.drewN _) (Nat.add_assoc _ _ _))⟩)) | (go_at_call 85; (with_reducible refine (helioscoperef01_Ends.calls k a0_2 a0_3 0 12 t112 _ A4.out).mono ?_); rintro e w8 ⟨rfl, hb⟩; have n0_ := Aside0.mk (blk_below (g := gb110) (o := .cells #[.string a0_0, .int .i64 a0_1, .int .i64 a0_2, .int .i64 a0_3, .slice A0_4 l0_4.length c0_4, .slice A0_5 l0_5.length c0_5] 27 (0, 0)) (by (with_reducible repeat (first | refine blk_drewN ?_ _ | refine blk_drew ?_ | refine blk_alloc ?_ _)); exact BK110.out) hb); have n1_ := Aside0.mk (below_step (by repeat (first | (with_reducible first | exact HB.out | apply below_alloc | apply pw_below_drewN | apply below_drew1 | refine below_set ?_ GE110.out) | exact HB.out)) hb); clear BK110; clear HB; have BK110 := n0_; have HB := n1_; clear n0_ n1_; (try clear hb); (try clear hb2); (try clear hk); (try clear hi)))
  repeat (go_quiet (first | ((with_reducible refine gate_dst (N := 1) rfl ?_); refine box_event ?hg (N := 1) ?hd (cs := #[.string a0_0, .int .i64 a0_1, .int .i64 a0_2, .int .i64 a0_3, .slice A0_4 l0_4.length c0_4, .slice A0_5 l0_5.length c0_5]) (t := 27) ?hr ?_; (case hd => rfl); (case hg => rfl); (case hr => first | (go_simp; done) | (go_simp; rfl)); intro gb110 hg w6 hbox hb; have n0_ := Aside0.mk (below_step (by repeat (first | (with_reducible first | exact HB.out | apply below_alloc | apply pw_below_drewN | apply below_drew1) | exact HB.out)) hb); have n1_ := Aside0.mk (hbox); have n2_ := Aside0.mk ((by rw [hg]; exact (below_size (by repeat (first | (with_reducible first | exact HB.out | apply below_alloc | apply pw_below_drewN | apply below_drew1) | exact HB.out))) : w.heap.size ≤ gb110)); have n3_ := Aside0.mk ((by rw [hg]; exact (below_size (by repeat (first | (with_reducible first | exact HB.out | apply below_alloc | apply pw_below_drewN | apply below_drew1) | exact HB.out))) : w.heap.size ≤ gb110)); clear HB; have HB := n0_; have BK110 := n1_; have GW110 := n2_; have GE110 := n3_; clear n0_ n1_ n2_ n3_; clear hb hbox hg; have hcz7_0 : w6.cell? ⟨gb110, 0, none⟩ = some (.string a0_0) := (blk_cell BK110.out 0).trans rfl; have hcz7_1 : w6.cell? ⟨gb110, 1, none⟩ = some (.int .i64 a0_1) := (blk_cell BK110.out 1).trans rfl; have hcz7_2 : w6.cell? ⟨gb110, 2, none⟩ = some (.int .i64 a0_2) := (blk_cell BK110.out 2).trans rfl; have hcz7_3 : w6.cell? ⟨gb110, 3, none⟩ = some (.int .i64 a0_3) := (blk_cell BK110.out 3).trans rfl; have hcz7_4 : w6.cell? ⟨gb110, 4, none⟩ = some (.slice A0_4 l0_4.length c0_4) := (blk_cell BK110.out 4).trans rfl; have hcz7_5 : w6.cell? ⟨gb110, 5, none⟩ = some (.slice A0_5 l0_5.length c0_5) := (blk_cell BK110.out 5).trans rfl; have hfz7_0 := blk_frozen BK110.out 0; have hfz7_1 := blk_frozen BK110.out 1; have hfz7_2 := blk_frozen BK110.out 2; have hfz7_3 := blk_frozen BK110.out 3; have hfz7_4 := blk_frozen BK110.out 4; have hfz7_5 := blk_frozen BK110.out 5) | (go_at_call 21; (with_reducible refine (helioscoperef01_Name.calls k a0_0 true _ A2.out).mono ?_); rintro e w' ⟨rfl, ⟨nd, rfl⟩⟩; (try first | exact ⟨rfl, _, World.drewN_drewN _ _ _⟩ | exact ⟨rfl, _, Eq.trans (World.drewN_drewN _ _ _) (congrArg (World.drewN _) (Nat.add_assoc _ _ _))⟩)) | (go_at_call 85; (with_reducible refine (helioscoperef01_Ends.calls k a0_2 a0_3 0 12 t112 _ A4.out).mono ?_); rintro e w8 ⟨rfl, hb⟩; have n0_ := Aside0.mk (blk_below (g := gb110) (o := .cells #[.string a0_0, .int .i64 a0_1, .int .i64 a0_2, .int .i64 a0_3, .slice A0_4 l0_4.length c0_4, .slice A0_5 l0_5.length c0_5] 27 (0, 0)) (by (with_reducible repeat (first | refine blk_drewN ?_ _ | refine blk_drew ?_ | refine blk_alloc ?_ _)); exact BK110.out) hb); have n1_ := Aside0.mk (below_step (by repeat (first | (with_reducible first | exact HB.out | apply below_alloc | apply pw_below_drewN | apply below_drew1 | refine below_set ?_ GE110.out) | exact HB.out)) hb); clear BK110; clear HB; have BK110 := n0_; have HB := n1_; clear n0_ n1_; (try clear hb); (try clear hb2); (try clear hk); (try clear hi))); go_upto_region 4 with (first | ((with_reducible refine gate_dst (N := 1) rfl ?_); refine box_event ?hg (N := 1) ?hd (cs := #[.string a0_0, .int .i64 a0_1, .int .i64 a0_2, .int .i64 a0_3, .slice A0_4 l0_4.length c0_4, .slice A0_5 l0_5.length c0_5]) (t := 27) ?hr ?_; (case hd => rfl); (case hg => rfl); (case hr => first | (go_simp; done) | (go_simp; rfl)); intro gb110 hg w6 hbox hb; have n0_ := Aside0.mk (below_step (by repeat (first | (with_reducible first | exact HB.out | apply below_alloc | apply pw_below_drewN | apply below_drew1) | exact HB.out)) hb); have n1_ := Aside0.mk (hbox); have n2_ := Aside0.mk ((by rw [hg]; exact (below_size (by repeat (first | (with_reducible first | exact HB.out | apply below_alloc | apply pw_below_drewN | apply below_drew1) | exact HB.out))) : w.heap.size ≤ gb110)); have n3_ := Aside0.mk ((by rw [hg]; exact (below_size (by repeat (first | (with_reducible first | exact HB.out | apply below_alloc | apply pw_below_drewN | apply below_drew1) | exact HB.out))) : w.heap.size ≤ gb110)); clear HB; have HB := n0_; have BK110 := n1_; have GW110 := n2_; have GE110 := n3_; clear n0_ n1_ n2_ n3_; clear hb hbox hg; have hcz7_0 : w6.cell? ⟨gb110, 0, none⟩ = some (.string a0_0) := (blk_cell BK110.out 0).trans rfl; have hcz7_1 : w6.cell? ⟨gb110, 1, none⟩ = some (.int .i64 a0_1) := (blk_cell BK110.out 1).trans rfl; have hcz7_2 : w6.cell? ⟨gb110, 2, none⟩ = some (.int .i64 a0_2) := (blk_cell BK110.out 2).trans rfl; have hcz7_3 : w6.cell? ⟨gb110, 3, none⟩ = some (.int .i64 a0_3) := (blk_cell BK110.out 3).trans rfl; have hcz7_4 : w6.cell? ⟨gb110, 4, none⟩ = some (.slice A0_4 l0_4.length c0_4) := (blk_cell BK110.out 4).trans rfl; have hcz7_5 : w6.cell? ⟨gb110, 5, none⟩ = some (.slice A0_5 l0_5.length c0_5) := (blk_cell BK110.out 5).trans rfl; have hfz7_0 := blk_frozen BK110.out 0; have hfz7_1 := blk_frozen BK110.out 1; have hfz7_2 := blk_frozen BK110.out 2; have hfz7_3 := blk_frozen BK110.out 3; have hfz7_4 := blk_frozen BK110.out 4; have hfz7_5 := blk_frozen BK110.out 5) | (go_at_call 21; (with_reducible refine (helioscoperef01_Name.calls k a0_0 true _ A2.out).mono ?_); rintro e w' ⟨rfl, ⟨nd, rfl⟩⟩; (try first | exact ⟨rfl, _, World.drewN_drewN _ _ _⟩ | exact ⟨rfl, _, Eq.trans (World.drewN_drewN _ _ _) (congrArg (World.drewN _) (Nat.add_assoc _ _ _))⟩)) | (go_at_call 85; (with_reducible refine (helioscoperef01_Ends.calls k a0_2 a0_3 0 12 t112 _ A4.out).mono ?_); rintro e w8 ⟨rfl, hb⟩; have n0_ := Aside0.mk (blk_below (g := gb110) (o := .cells #[.string a0_0, .int .i64 a0_1, .int .i64 a0_2, .int .i64 a0_3, .slice A0_4 l0_4.length c0_4, .slice A0_5 l0_5.length c0_5] 27 (0, 0)) (by (with_reducible repeat (first | refine blk_drewN ?_ _ | refine blk_drew ?_ | refine blk_alloc ?_ _)); exact BK110.out) hb); have n1_ := Aside0.mk (below_step (by repeat (first | (with_reducible first | exact HB.out | apply below_alloc | apply pw_below_drewN | apply below_drew1 | refine below_set ?_ GE110.out) | exact HB.out)) hb); clear BK110; clear HB; have BK110 := n0_; have HB := n1_; clear n0_ n1_; (try clear hb); (try clear hb2); (try clear hk); (try clear hi))))
  (try simp only [Act.put, List.setIfInBounds_toArray, List.set_cons_zero, List.set_cons_succ])
  go_cut [25] (fun v25 wc => ∃ (kq : Nat) (x25_4 : Bool), v25 = .bool x25_4 ∧ Aside0 (helioscoperef01_Check.j0 kq t112 x25_4 a0_0 a0_1 a0_2 a0_3 l0_4 l0_5 = some (r1, r2, r3)) ∧ Aside0 (kq ≤ k) ∧ Aside0 (wc.heap[gb110]? = some (.cells #[.string a0_0, .int .i64 a0_1, .int .i64 a0_2, .int .i64 a0_3, (.slice A0_4 l0_4.length c0_4), (.slice A0_5 l0_5.length c0_5)] 27 (0, 0))) ∧ Aside0 (Below w.heap.size w wc))
  case first =>
   have H := HC5.out
   clear HC5
   replace H := Option.bind_eq_some_iff.mp H
   obtain ⟨t113, A90, H⟩ := H
   replace H : (if t113 = true then (helioscoperef01_Check.j0 k t112 (t112 == 7) a0_0 a0_1 a0_2 a0_3 l0_4 l0_5) else (helioscoperef01_Check.j0 k t112 true a0_0 a0_1 a0_2 a0_3 l0_4 l0_5)) = some (r1, r2, r3) := H
   have A9 := Aside0.mk A90
   clear A90
   by_cases c10 : t113 = true
   ·
    subst c10
    have H1 : (helioscoperef01_Check.j0 k t112 (t112 == 7) a0_0 a0_1 a0_2 a0_3 l0_4 l0_5) = some (r1, r2, r3) := by rw [if_pos rfl] at H; exact H
    clear H
    have H := H1
    clear H1
    have H' := Aside0.mk H
    clear H
    have hcz11_0 : w8.cell? ⟨gb110, 0, none⟩ = some (.string a0_0) := (blk_cell BK110.out 0).trans rfl
    have hcz11_1 : w8.cell? ⟨gb110, 1, none⟩ = some (.int .i64 a0_1) := (blk_cell BK110.out 1).trans rfl
    have hcz11_2 : w8.cell? ⟨gb110, 2, none⟩ = some (.int .i64 a0_2) := (blk_cell BK110.out 2).trans rfl
    have hcz11_3 : w8.cell? ⟨gb110, 3, none⟩ = some (.int .i64 a0_3) := (blk_cell BK110.out 3).trans rfl
    have hcz11_4 : w8.cell? ⟨gb110, 4, none⟩ = some (.slice A0_4 l0_4.length c0_4) := (blk_cell BK110.out 4).trans rfl
    have hcz11_5 : w8.cell? ⟨gb110, 5, none⟩ = some (.slice A0_5 l0_5.length c0_5) := (blk_cell BK110.out 5).trans rfl
    have hfz11_0 := blk_frozen BK110.out 0
    have hfz11_1 := blk_frozen BK110.out 1
    have hfz11_2 := blk_frozen BK110.out 2
    have hfz11_3 := blk_frozen BK110.out 3
    have hfz11_4 := blk_frozen BK110.out 4
    have hfz11_5 := blk_frozen BK110.out 5
    go_wp2_with (first | (go_at_call 54; (with_reducible refine (helioscoperef01_In.calls a0_1 1 12 true _ A9.out).mono ?_); rintro e w' ⟨rfl, ⟨nd, rfl⟩⟩; (try first | exact ⟨rfl, _, World.drewN_drewN _ _ _⟩ | exact ⟨rfl, _, Eq.trans (World.drewN_drewN _ _ _) (congrArg (World.drewN _) (Nat.add_assoc _ _ _))⟩)))
    repeat (go_quiet (first | (go_at_call 54; (with_reducible refine (helioscoperef01_In.calls a0_1 1 12 true _ A9.out).mono ?_); rintro e w' ⟨rfl, ⟨nd, rfl⟩⟩; (try first | exact ⟨rfl, _, World.drewN_drewN _ _ _⟩ | exact ⟨rfl, _, Eq.trans (World.drewN_drewN _ _ _) (congrArg (World.drewN _) (Nat.add_assoc _ _ _))⟩))); try go_wp2_with (first | (go_at_call 54; (with_reducible refine (helioscoperef01_In.calls a0_1 1 12 true _ A9.out).mono ?_); rintro e w' ⟨rfl, ⟨nd, rfl⟩⟩; (try first | exact ⟨rfl, _, World.drewN_drewN _ _ _⟩ | exact ⟨rfl, _, Eq.trans (World.drewN_drewN _ _ _) (congrArg (World.drewN _) (Nat.add_assoc _ _ _))⟩))))
    go_meet
    case rel => exact ⟨_, ((t112 == 7)), (by first | rfl | (simp; done) | (simp [*]; done)), H', ⟨by first | omega | exact Nat.le_refl _⟩, ⟨by (with_reducible repeat (first | refine blk_drewN ?_ _ | refine blk_drew ?_ | refine blk_alloc ?_ _)); exact BK110.out⟩, ⟨by repeat (first | (with_reducible first | exact HB.out | apply below_alloc | apply pw_below_drewN | apply below_drew1 | refine below_set ?_ GE110.out) | exact HB.out)⟩⟩
   ·
    replace c10 := Bool.eq_false_iff.mpr c10
    subst c10
    have H1 : (helioscoperef01_Check.j0 k t112 true a0_0 a0_1 a0_2 a0_3 l0_4 l0_5) = some (r1, r2, r3) := by rw [if_neg (show ¬ (false = true) by decide)] at H; exact H
    clear H
    have H := H1
    clear H1
    have H' := Aside0.mk H
    clear H
    have hcz12_0 : w8.cell? ⟨gb110, 0, none⟩ = some (.string a0_0) := (blk_cell BK110.out 0).trans rfl
    have hcz12_1 : w8.cell? ⟨gb110, 1, none⟩ = some (.int .i64 a0_1) := (blk_cell BK110.out 1).trans rfl
    have hcz12_2 : w8.cell? ⟨gb110, 2, none⟩ = some (.int .i64 a0_2) := (blk_cell BK110.out 2).trans rfl
    have hcz12_3 : w8.cell? ⟨gb110, 3, none⟩ = some (.int .i64 a0_3) := (blk_cell BK110.out 3).trans rfl
    have hcz12_4 : w8.cell? ⟨gb110, 4, none⟩ = some (.slice A0_4 l0_4.length c0_4) := (blk_cell BK110.out 4).trans rfl
    have hcz12_5 : w8.cell? ⟨gb110, 5, none⟩ = some (.slice A0_5 l0_5.length c0_5) := (blk_cell BK110.out 5).trans rfl
    have hfz12_0 := blk_frozen BK110.out 0
    have hfz12_1 := blk_frozen BK110.out 1
    have hfz12_2 := blk_frozen BK110.out 2
    have hfz12_3 := blk_frozen BK110.out 3
    have hfz12_4 := blk_frozen BK110.out 4
    have hfz12_5 := blk_frozen BK110.out 5
    go_wp2_with (first | (go_at_call 54; (with_reducible refine (helioscoperef01_In.calls a0_1 1 12 false _ A9.out).mono ?_); rintro e w' ⟨rfl, ⟨nd, rfl⟩⟩; (try first | exact ⟨rfl, _, World.drewN_drewN _ _ _⟩ | exact ⟨rfl, _, Eq.trans (World.drewN_drewN _ _ _) (congrArg (World.drewN _) (Nat.add_assoc _ _ _))⟩)))
    repeat (go_quiet (first | (go_at_call 54; (with_reducible refine (helioscoperef01_In.calls a0_1 1 12 false _ A9.out).mono ?_); rintro e w' ⟨rfl, ⟨nd, rfl⟩⟩; (try first | exact ⟨rfl, _, World.drewN_drewN _ _ _⟩ | exact ⟨rfl, _, Eq.trans (World.drewN_drewN _ _ _) (congrArg (World.drewN _) (Nat.add_assoc _ _ _))⟩))); try go_wp2_with (first | (go_at_call 54; (with_reducible refine (helioscoperef01_In.calls a0_1 1 12 false _ A9.out).mono ?_); rintro e w' ⟨rfl, ⟨nd, rfl⟩⟩; (try first | exact ⟨rfl, _, World.drewN_drewN _ _ _⟩ | exact ⟨rfl, _, Eq.trans (World.drewN_drewN _ _ _) (congrArg (World.drewN _) (Nat.add_assoc _ _ _))⟩))))
    go_meet
    case rel => exact ⟨_, (true), (by first | rfl | (simp; done) | (simp [*]; done)), H', ⟨by first | omega | exact Nat.le_refl _⟩, ⟨by (with_reducible repeat (first | refine blk_drewN ?_ _ | refine blk_drew ?_ | refine blk_alloc ?_ _)); exact BK110.out⟩, ⟨by repeat (first | (with_reducible first | exact HB.out | apply below_alloc | apply pw_below_drewN | apply below_drew1 | refine below_set ?_ GE110.out) | exact HB.out)⟩⟩
  case rest =>
   clear HC5
   try clear c1
   try clear p2
   try clear c3
   try clear c10
   try clear hcz11_0
   try clear hcz11_1
   try clear hcz11_2
   try clear hcz11_3
   try clear hcz11_4
   try clear hcz11_5
   try clear hcz12_0
   try clear hcz12_1
   try clear hcz12_2
   try clear hcz12_3
   try clear hcz12_4
   try clear hcz12_5
   try clear hcz7_0
   try clear hcz7_1
   try clear hcz7_2
   try clear hcz7_3
   try clear hcz7_4
   try clear hcz7_5
   try clear hfz11_0
   try clear hfz11_1
   try clear hfz11_2
   try clear hfz11_3
   try clear hfz11_4
   try clear hfz11_5
   try clear hfz12_0
   try clear hfz12_1
   try clear hfz12_2
   try clear hfz12_3
   try clear hfz12_4
   try clear hfz12_5
   try clear hfz7_0
   try clear hfz7_1
   try clear hfz7_2
   try clear hfz7_3
   try clear hfz7_4
   try clear hfz7_5
   obtain ⟨kq, x25_4, rfl, HA, HJ4, BK110, HB⟩ := hcut
   cases kq with
   | zero => exact absurd HA.out (by simp [helioscoperef01_Check.j0])
   | succ kj4 =>
    have H := HA.out
    clear HA
    simp only [helioscoperef01_Check.j0] at H
    by_cases c13 : x25_4 = true
    ·
     subst c13
     have H1 : (some (1, 0, 7)) = some (r1, r2, r3) := by rw [if_pos rfl] at H; exact H
     clear H
     have H := H1
     clear H1
     simp only [Option.some.injEq, Prod.mk.injEq] at H
     obtain ⟨rfl, rfl, rfl⟩ := H
     go_wp2
     repeat (go_quiet (fail); try go_wp2)
     go_ret3
     exact ⟨by first | rfl | (simp [errW_none, errW_some] <;> rfl) | (simp [*, errW_none, errW_some] <;> rfl), by repeat (first | (with_reducible first | exact HB.out | apply below_alloc | apply pw_below_drewN | apply below_drew1 | refine below_set ?_ GE110.out) | exact HB.out)⟩
    ·
     replace c13 := Bool.eq_false_iff.mpr c13
     subst c13
     have H1 : (if t112 = 0 then (if (l0_4.length : Int) > 7 then (some (2, 0, 3)) else (helioscoperef01_Check.l0 kj4 0 a0_0 a0_1 a0_2 a0_3 l0_4 l0_5)) else (some (1, 0, t112))) = some (r1, r2, r3) := by rw [if_neg (show ¬ (false = true) by decide)] at H; exact H
     clear H
     have H := H1
     clear H1
     by_cases c14 : t112 = 0
     ·
      rw [if_pos c14] at H
      have c14b0 : (t112 == 0) = true := beq_iff_eq.mpr c14
      have c14b1 : (t112 != 0) = false := bne_eq_false_iff_eq.mpr c14
      clear c14
      by_cases c15 : (l0_4.length : Int) > 7
      ·
       rw [if_pos c15] at H
       have c15b0 : decide (7 < (l0_4.length : Int)) = true := decide_eq_true c15
       have c15b1 : decide (7 < l0_4.length) = true := decide_eq_true (by omega)
       clear c15
       simp only [Option.some.injEq, Prod.mk.injEq] at H
       obtain ⟨rfl, rfl, rfl⟩ := H
       have hcz16_0 : wc.cell? ⟨gb110, 0, none⟩ = some (.string a0_0) := (blk_cell BK110.out 0).trans rfl
       have hcz16_1 : wc.cell? ⟨gb110, 1, none⟩ = some (.int .i64 a0_1) := (blk_cell BK110.out 1).trans rfl
       have hcz16_2 : wc.cell? ⟨gb110, 2, none⟩ = some (.int .i64 a0_2) := (blk_cell BK110.out 2).trans rfl
       have hcz16_3 : wc.cell? ⟨gb110, 3, none⟩ = some (.int .i64 a0_3) := (blk_cell BK110.out 3).trans rfl
       have hcz16_4 : wc.cell? ⟨gb110, 4, none⟩ = some (.slice A0_4 l0_4.length c0_4) := (blk_cell BK110.out 4).trans rfl
       have hcz16_5 : wc.cell? ⟨gb110, 5, none⟩ = some (.slice A0_5 l0_5.length c0_5) := (blk_cell BK110.out 5).trans rfl
       have hfz16_0 := blk_frozen BK110.out 0
       have hfz16_1 := blk_frozen BK110.out 1
       have hfz16_2 := blk_frozen BK110.out 2
       have hfz16_3 := blk_frozen BK110.out 3
       have hfz16_4 := blk_frozen BK110.out 4
       have hfz16_5 := blk_frozen BK110.out 5
       go_wp2
       repeat (go_quiet (fail); try go_wp2)
       go_ret3
       exact ⟨by first | rfl | (simp [errW_none, errW_some] <;> rfl) | (simp [*, errW_none, errW_some] <;> rfl), by repeat (first | (with_reducible first | exact HB.out | apply below_alloc | apply pw_below_drewN | apply below_drew1 | refine below_set ?_ GE110.out) | exact HB.out)⟩
      ·
       rw [if_neg c15] at H
       have c15b0 : decide (7 < (l0_4.length : Int)) = false := decide_eq_false c15
       have c15b1 : decide (7 < l0_4.length) = false := decide_eq_false (by omega)
       clear c15
       have H' := Aside0.mk H
       clear H
       have hcz17_0 : wc.cell? ⟨gb110, 0, none⟩ = some (.string a0_0) := (blk_cell BK110.out 0).trans rfl
       have hcz17_1 : wc.cell? ⟨gb110, 1, none⟩ = some (.int .i64 a0_1) := (blk_cell BK110.out 1).trans rfl
       have hcz17_2 : wc.cell? ⟨gb110, 2, none⟩ = some (.int .i64 a0_2) := (blk_cell BK110.out 2).trans rfl
       have hcz17_3 : wc.cell? ⟨gb110, 3, none⟩ = some (.int .i64 a0_3) := (blk_cell BK110.out 3).trans rfl
       have hcz17_4 : wc.cell? ⟨gb110, 4, none⟩ = some (.slice A0_4 l0_4.length c0_4) := (blk_cell BK110.out 4).trans rfl
       have hcz17_5 : wc.cell? ⟨gb110, 5, none⟩ = some (.slice A0_5 l0_5.length c0_5) := (blk_cell BK110.out 5).trans rfl
       have hfz17_0 := blk_frozen BK110.out 0
       have hfz17_1 := blk_frozen BK110.out 1
       have hfz17_2 := blk_frozen BK110.out 2
       have hfz17_3 := blk_frozen BK110.out 3
       have hfz17_4 := blk_frozen BK110.out 4
       have hfz17_5 := blk_frozen BK110.out 5
       go_wp2
       repeat (go_quiet (fail); try go_wp2)
       go_loopg [6] kj4 (fun kq v6 w' => ∃ (x6_2 : Int), v6 = .int .i64 x6_2 ∧ Aside0 (helioscoperef01_Check.l0 kq x6_2 a0_0 a0_1 a0_2 a0_3 l0_4 l0_5 = some (r1, r2, r3)) ∧ Aside0 (kq ≤ kj4) ∧ Aside0 (w'.heap[gb110]? = some (.cells #[.string a0_0, .int .i64 a0_1, .int .i64 a0_2, .int .i64 a0_3, (.slice A0_4 l0_4.length c0_4), (.slice A0_5 l0_5.length c0_5)] 27 (0, 0))) ∧ Aside0 (Below w.heap.size w w'))
       case atStart => exact ⟨(0), (by first | rfl | (simp; done) | (simp [*]; done)), H', ⟨Nat.le_refl _⟩, ⟨by (with_reducible repeat (first | refine blk_drewN ?_ _ | refine blk_drew ?_ | refine blk_alloc ?_ _)); exact BK110.out⟩, ⟨by repeat (first | (with_reducible first | exact HB.out | apply below_alloc | apply pw_below_drewN | apply below_drew1 | refine below_set ?_ GE110.out) | exact HB.out)⟩⟩
       case round =>
        clear H'
        try clear c1
        try clear p2
        try clear c3
        try clear c10
        try clear c13
        try clear c14
        try clear c14b0
        try clear c14b1
        try clear c15
        try clear c15b0
        try clear c15b1
        try clear hcz11_0
        try clear hcz11_1
        try clear hcz11_2
        try clear hcz11_3
        try clear hcz11_4
        try clear hcz11_5
        try clear hcz12_0
        try clear hcz12_1
        try clear hcz12_2
        try clear hcz12_3
        try clear hcz12_4
        try clear hcz12_5
        try clear hcz16_0
        try clear hcz16_1
        try clear hcz16_2
        try clear hcz16_3
        try clear hcz16_4
        try clear hcz16_5
        try clear hcz17_0
        try clear hcz17_1
        try clear hcz17_2
        try clear hcz17_3
        try clear hcz17_4
        try clear hcz17_5
        try clear hcz7_0
        try clear hcz7_1
        try clear hcz7_2
        try clear hcz7_3
        try clear hcz7_4
        try clear hcz7_5
        try clear hfz11_0
        try clear hfz11_1
        try clear hfz11_2
        try clear hfz11_3
        try clear hfz11_4
        try clear hfz11_5
        try clear hfz12_0
        try clear hfz12_1
        try clear hfz12_2
        try clear hfz12_3
        try clear hfz12_4
        try clear hfz12_5
        try clear hfz16_0
        try clear hfz16_1
        try clear hfz16_2
        try clear hfz16_3
        try clear hfz16_4
        try clear hfz16_5
        try clear hfz17_0
        try clear hfz17_1
        try clear hfz17_2
        try clear hfz17_3
        try clear hfz17_4
        try clear hfz17_5
        try clear hfz7_0
        try clear hfz7_1
        try clear hfz7_2
        try clear hfz7_3
        try clear hfz7_4
        try clear hfz7_5
        try clear p2
        obtain ⟨x6_2, rfl, HA, HK2, BK110, HB⟩ := hrel
        cases gk with
        | zero => exact absurd HA.out (by simp [helioscoperef01_Check.l0])
        | succ k2 =>
         have H := HA.out
         clear HA
         simp only [helioscoperef01_Check.l0] at H
         by_cases c18 : x6_2 < (l0_4.length : Int)
         ·
          rw [if_pos c18] at H
          have c18b0 : decide (x6_2 < (l0_4.length : Int)) = true := decide_eq_true c18
          clear c18
          by_cases c19 : 0 ≤ x6_2
          ·
           rw [if_pos c19] at H
           have c19b0 : decide (0 ≤ x6_2) = true := decide_eq_true c19
           clear c19
           have HC20 := Aside0.mk H
           clear H
           have hcz21_0 : wr.cell? ⟨gb110, 0, none⟩ = some (.string a0_0) := (blk_cell BK110.out 0).trans rfl
           have hcz21_1 : wr.cell? ⟨gb110, 1, none⟩ = some (.int .i64 a0_1) := (blk_cell BK110.out 1).trans rfl
           have hcz21_2 : wr.cell? ⟨gb110, 2, none⟩ = some (.int .i64 a0_2) := (blk_cell BK110.out 2).trans rfl
           have hcz21_3 : wr.cell? ⟨gb110, 3, none⟩ = some (.int .i64 a0_3) := (blk_cell BK110.out 3).trans rfl
           have hcz21_4 : wr.cell? ⟨gb110, 4, none⟩ = some (.slice A0_4 l0_4.length c0_4) := (blk_cell BK110.out 4).trans rfl
           have hcz21_5 : wr.cell? ⟨gb110, 5, none⟩ = some (.slice A0_5 l0_5.length c0_5) := (blk_cell BK110.out 5).trans rfl
           have hfz21_0 := blk_frozen BK110.out 0
           have hfz21_1 := blk_frozen BK110.out 1
           have hfz21_2 := blk_frozen BK110.out 2
           have hfz21_3 := blk_frozen BK110.out 3
           have hfz21_4 := blk_frozen BK110.out 4
           have hfz21_5 := blk_frozen BK110.out 5
           have p114 : 0 ≤ (x6_2 : Int) := of_decide_eq_true (by first | (with_reducible assumption) | assumption)
           have q114 : x6_2 < (l0_4.length : Int) := of_decide_eq_true (by first | (with_reducible assumption) | assumption)
           obtain ⟨ad114, e114, hx114_0, hx114_1, hx114_2⟩ := at_T80 HR0_4.out x6_2 p114 q114
           cases e114
           replace hx114_0 := (HB.out.cell (World.block_lt_of_cell? w _ hx114_0)).trans hx114_0
           replace hx114_1 := (HB.out.cell (World.block_lt_of_cell? w _ hx114_1)).trans hx114_1
           replace hx114_2 := (HB.out.cell (World.block_lt_of_cell? w _ hx114_2)).trans hx114_2
           replace p114 := eq_true p114
           replace q114 := eq_true q114
           go_upto_region 14 with (first | ((with_reducible refine gate_dst (N := 7) rfl ?_); refine box_event ?hg (N := 7) ?hd (cs := #[.int .i64 0, .int .i64 0, .bool false]) (t := 80) ?hr ?_; (case hd => rfl); (case hg => rfl); (case hr => first | (go_simp; done) | (go_simp; rfl)); intro gb115 hg w22 hbox hb; have n0_ := Aside0.mk (blk_below (g := gb110) (o := .cells #[.string a0_0, .int .i64 a0_1, .int .i64 a0_2, .int .i64 a0_3, .slice (some ad114) l0_4.length c0_4, .slice A0_5 l0_5.length c0_5] 27 (0, 0)) (by (with_reducible repeat (first | refine blk_drewN ?_ _ | refine blk_drew ?_ | refine blk_alloc ?_ _)); exact BK110.out) hb); have n1_ := Aside0.mk (below_step (by repeat (first | (with_reducible first | exact HB.out | apply below_alloc | apply pw_below_drewN | apply below_drew1 | refine below_set ?_ GE110.out) | exact HB.out)) hb); have n2_ := Aside0.mk (hbox); have n3_ := Aside0.mk ((by rw [hg]; exact (below_size (by repeat (first | (with_reducible first | exact HB.out | apply below_alloc | apply pw_below_drewN | apply below_drew1 | refine below_set ?_ GE110.out) | exact HB.out))) : w.heap.size ≤ gb115)); have n4_ := Aside0.mk ((by rw [hg]; exact (below_size (by repeat (first | (with_reducible first | exact HB.out | apply below_alloc | apply pw_below_drewN | apply below_drew1 | refine below_set ?_ GE110.out) | exact HB.out))) : w.heap.size ≤ gb115)); have n5_ := Aside0.mk ((by rw [hg]; exact Nat.ne_of_lt (blk_lt (g := gb110) (o := .cells #[.string a0_0, .int .i64 a0_1, .int .i64 a0_2, .int .i64 a0_3, .slice (some ad114) l0_4.length c0_4, .slice A0_5 l0_5.length c0_5] 27 (0, 0)) (by (with_reducible repeat (first | refine blk_drewN ?_ _ | refine blk_drew ?_ | refine blk_alloc ?_ _)); exact BK110.out)) : gb110 ≠ gb115)); have n6_ := Aside0.mk ((by rw [hg]; exact Nat.ne_of_gt (blk_lt (g := gb110) (o := .cells #[.string a0_0, .int .i64 a0_1, .int .i64 a0_2, .int .i64 a0_3, .slice (some ad114) l0_4.length c0_4, .slice A0_5 l0_5.length c0_5] 27 (0, 0)) (by (with_reducible repeat (first | refine blk_drewN ?_ _ | refine blk_drew ?_ | refine blk_alloc ?_ _)); exact BK110.out)) : gb115 ≠ gb110)); clear BK110; clear HB; have BK110 := n0_; have HB := n1_; have BK115 := n2_; have GW115 := n3_; have GE115 := n4_; have NB110_115 := n5_; have NB115_110 := n6_; clear n0_ n1_ n2_ n3_ n4_ n5_ n6_; clear hb hbox hg; have hnb23 := NB115_110.out; have hnc23 := NB110_115.out; have hcz24_0 : w22.cell? ⟨gb115, 0, none⟩ = some (.int .i64 0) := (blk_cell BK115.out 0).trans rfl; have hcz24_1 : w22.cell? ⟨gb115, 1, none⟩ = some (.int .i64 0) := (blk_cell BK115.out 1).trans rfl; have hcz24_2 : w22.cell? ⟨gb115, 2, none⟩ = some (.bool false) := (blk_cell BK115.out 2).trans rfl; have hfz24_0 := blk_frozen BK115.out 0; have hfz24_1 := blk_frozen BK115.out 1; have hfz24_2 := blk_frozen BK115.out 2))
           repeat (go_quiet (first | ((with_reducible refine gate_dst (N := 7) rfl ?_); refine box_event ?hg (N := 7) ?hd (cs := #[.int .i64 0, .int .i64 0, .bool false]) (t := 80) ?hr ?_; (case hd => rfl); (case hg => rfl); (case hr => first | (go_simp; done) | (go_simp; rfl)); intro gb115 hg w22 hbox hb; have n0_ := Aside0.mk (blk_below (g := gb110) (o := .cells #[.string a0_0, .int .i64 a0_1, .int .i64 a0_2, .int .i64 a0_3, .slice (some ad114) l0_4.length c0_4, .slice A0_5 l0_5.length c0_5] 27 (0, 0)) (by (with_reducible repeat (first | refine blk_drewN ?_ _ | refine blk_drew ?_ | refine blk_alloc ?_ _)); exact BK110.out) hb); have n1_ := Aside0.mk (below_step (by repeat (first | (with_reducible first | exact HB.out | apply below_alloc | apply pw_below_drewN | apply below_drew1 | refine below_set ?_ GE110.out) | exact HB.out)) hb); have n2_ := Aside0.mk (hbox); have n3_ := Aside0.mk ((by rw [hg]; exact (below_size (by repeat (first | (with_reducible first | exact HB.out | apply below_alloc | apply pw_below_drewN | apply below_drew1 | refine below_set ?_ GE110.out) | exact HB.out))) : w.heap.size ≤ gb115)); have n4_ := Aside0.mk ((by rw [hg]; exact (below_size (by repeat (first | (with_reducible first | exact HB.out | apply below_alloc | apply pw_below_drewN | apply below_drew1 | refine below_set ?_ GE110.out) | exact HB.out))) : w.heap.size ≤ gb115)); have n5_ := Aside0.mk ((by rw [hg]; exact Nat.ne_of_lt (blk_lt (g := gb110) (o := .cells #[.string a0_0, .int .i64 a0_1, .int .i64 a0_2, .int .i64 a0_3, .slice (some ad114) l0_4.length c0_4, .slice A0_5 l0_5.length c0_5] 27 (0, 0)) (by (with_reducible repeat (first | refine blk_drewN ?_ _ | refine blk_drew ?_ | refine blk_alloc ?_ _)); exact BK110.out)) : gb110 ≠ gb115)); have n6_ := Aside0.mk ((by rw [hg]; exact Nat.ne_of_gt (blk_lt (g := gb110) (o := .cells #[.string a0_0, .int .i64 a0_1, .int .i64 a0_2, .int .i64 a0_3, .slice (some ad114) l0_4.length c0_4, .slice A0_5 l0_5.length c0_5] 27 (0, 0)) (by (with_reducible repeat (first | refine blk_drewN ?_ _ | refine blk_drew ?_ | refine blk_alloc ?_ _)); exact BK110.out)) : gb115 ≠ gb110)); clear BK110; clear HB; have BK110 := n0_; have HB := n1_; have BK115 := n2_; have GW115 := n3_; have GE115 := n4_; have NB110_115 := n5_; have NB115_110 := n6_; clear n0_ n1_ n2_ n3_ n4_ n5_ n6_; clear hb hbox hg; have hnb23 := NB115_110.out; have hnc23 := NB110_115.out; have hcz24_0 : w22.cell? ⟨gb115, 0, none⟩ = some (.int .i64 0) := (blk_cell BK115.out 0).trans rfl; have hcz24_1 : w22.cell? ⟨gb115, 1, none⟩ = some (.int .i64 0) := (blk_cell BK115.out 1).trans rfl; have hcz24_2 : w22.cell? ⟨gb115, 2, none⟩ = some (.bool false) := (blk_cell BK115.out 2).trans rfl; have hfz24_0 := blk_frozen BK115.out 0; have hfz24_1 := blk_frozen BK115.out 1; have hfz24_2 := blk_frozen BK115.out 2)); go_upto_region 14 with (first | ((with_reducible refine gate_dst (N := 7) rfl ?_); refine box_event ?hg (N := 7) ?hd (cs := #[.int .i64 0, .int .i64 0, .bool false]) (t := 80) ?hr ?_; (case hd => rfl); (case hg => rfl); (case hr => first | (go_simp; done) | (go_simp; rfl)); intro gb115 hg w22 hbox hb; have n0_ := Aside0.mk (blk_below (g := gb110) (o := .cells #[.string a0_0, .int .i64 a0_1, .int .i64 a0_2, .int .i64 a0_3, .slice (some ad114) l0_4.length c0_4, .slice A0_5 l0_5.length c0_5] 27 (0, 0)) (by (with_reducible repeat (first | refine blk_drewN ?_ _ | refine blk_drew ?_ | refine blk_alloc ?_ _)); exact BK110.out) hb); have n1_ := Aside0.mk (below_step (by repeat (first | (with_reducible first | exact HB.out | apply below_alloc | apply pw_below_drewN | apply below_drew1 | refine below_set ?_ GE110.out) | exact HB.out)) hb); have n2_ := Aside0.mk (hbox); have n3_ := Aside0.mk ((by rw [hg]; exact (below_size (by repeat (first | (with_reducible first | exact HB.out | apply below_alloc | apply pw_below_drewN | apply below_drew1 | refine below_set ?_ GE110.out) | exact HB.out))) : w.heap.size ≤ gb115)); have n4_ := Aside0.mk ((by rw [hg]; exact (below_size (by repeat (first | (with_reducible first | exact HB.out | apply below_alloc | apply pw_below_drewN | apply below_drew1 | refine below_set ?_ GE110.out) | exact HB.out))) : w.heap.size ≤ gb115)); have n5_ := Aside0.mk ((by rw [hg]; exact Nat.ne_of_lt (blk_lt (g := gb110) (o := .cells #[.string a0_0, .int .i64 a0_1, .int .i64 a0_2, .int .i64 a0_3, .slice (some ad114) l0_4.length c0_4, .slice A0_5 l0_5.length c0_5] 27 (0, 0)) (by (with_reducible repeat (first | refine blk_drewN ?_ _ | refine blk_drew ?_ | refine blk_alloc ?_ _)); exact BK110.out)) : gb110 ≠ gb115)); have n6_ := Aside0.mk ((by rw [hg]; exact Nat.ne_of_gt (blk_lt (g := gb110) (o := .cells #[.string a0_0, .int .i64 a0_1, .int .i64 a0_2, .int .i64 a0_3, .slice (some ad114) l0_4.length c0_4, .slice A0_5 l0_5.length c0_5] 27 (0, 0)) (by (with_reducible repeat (first | refine blk_drewN ?_ _ | refine blk_drew ?_ | refine blk_alloc ?_ _)); exact BK110.out)) : gb115 ≠ gb110)); clear BK110; clear HB; have BK110 := n0_; have HB := n1_; have BK115 := n2_; have GW115 := n3_; have GE115 := n4_; have NB110_115 := n5_; have NB115_110 := n6_; clear n0_ n1_ n2_ n3_ n4_ n5_ n6_; clear hb hbox hg; have hnb23 := NB115_110.out; have hnc23 := NB110_115.out; have hcz24_0 : w22.cell? ⟨gb115, 0, none⟩ = some (.int .i64 0) := (blk_cell BK115.out 0).trans rfl; have hcz24_1 : w22.cell? ⟨gb115, 1, none⟩ = some (.int .i64 0) := (blk_cell BK115.out 1).trans rfl; have hcz24_2 : w22.cell? ⟨gb115, 2, none⟩ = some (.bool false) := (blk_cell BK115.out 2).trans rfl; have hfz24_0 := blk_frozen BK115.out 0; have hfz24_1 := blk_frozen BK115.out 1; have hfz24_2 := blk_frozen BK115.out 2)))
           (try simp only [Act.put, List.setIfInBounds_toArray, List.set_cons_zero, List.set_cons_succ])
           go_cut [54] (fun v54 wc => ∃ (kq : Nat) (x54_19 : Bool), v54 = .bool x54_19 ∧ Aside0 (helioscoperef01_Check.j2 kq x6_2 x54_19 a0_0 a0_1 a0_2 a0_3 l0_4 l0_5 ((rd_T80 l0_4 x6_2).f0) ((rd_T80 l0_4 x6_2).f1) ((rd_T80 l0_4 x6_2).f2) = some (r1, r2, r3)) ∧ Aside0 (kq ≤ k2) ∧ Aside0 (wc.heap[gb110]? = some (.cells #[.string a0_0, .int .i64 a0_1, .int .i64 a0_2, .int .i64 a0_3, (.slice (some ad114) l0_4.length c0_4), (.slice A0_5 l0_5.length c0_5)] 27 (0, 0))) ∧ Aside0 (wc.heap[gb115]? = some (.cells #[.int .i64 ((rd_T80 l0_4 x6_2).f0), .int .i64 ((rd_T80 l0_4 x6_2).f1), .bool ((rd_T80 l0_4 x6_2).f2)] 80 (0, 0))) ∧ Aside0 (Below w.heap.size w wc))
           case first =>
            have H := HC20.out
            clear HC20
            replace H := Option.bind_eq_some_iff.mp H
            obtain ⟨t116, A250, H⟩ := H
            replace H : (if t116 = true then ((helioscoperef01_In.f ((rd_T80 l0_4 x6_2).f1) (-12) 12).bind fun t117 => (helioscoperef01_Check.j2 k2 x6_2 (!t117) a0_0 a0_1 a0_2 a0_3 l0_4 l0_5 ((rd_T80 l0_4 x6_2).f0) ((rd_T80 l0_4 x6_2).f1) ((rd_T80 l0_4 x6_2).f2))) else (helioscoperef01_Check.j2 k2 x6_2 true a0_0 a0_1 a0_2 a0_3 l0_4 l0_5 ((rd_T80 l0_4 x6_2).f0) ((rd_T80 l0_4 x6_2).f1) ((rd_T80 l0_4 x6_2).f2))) = some (r1, r2, r3) := H
            have A25 := Aside0.mk A250
            clear A250
            by_cases c26 : t116 = true
            ·
             subst c26
             have H1 : ((helioscoperef01_In.f ((rd_T80 l0_4 x6_2).f1) (-12) 12).bind fun t117 => (helioscoperef01_Check.j2 k2 x6_2 (!t117) a0_0 a0_1 a0_2 a0_3 l0_4 l0_5 ((rd_T80 l0_4 x6_2).f0) ((rd_T80 l0_4 x6_2).f1) ((rd_T80 l0_4 x6_2).f2))) = some (r1, r2, r3) := by rw [if_pos rfl] at H; exact H
             clear H
             have H := H1
             clear H1
             replace H := Option.bind_eq_some_iff.mp H
             obtain ⟨t117, A270, H⟩ := H
             replace H : (helioscoperef01_Check.j2 k2 x6_2 (!t117) a0_0 a0_1 a0_2 a0_3 l0_4 l0_5 ((rd_T80 l0_4 x6_2).f0) ((rd_T80 l0_4 x6_2).f1) ((rd_T80 l0_4 x6_2).f2)) = some (r1, r2, r3) := H
             have A27 := Aside0.mk A270
             clear A270
             have H' := Aside0.mk H
             clear H
             have hnb28 := NB115_110.out
             have hnc28 := NB110_115.out
             have hcz29_0 : w22.cell? ⟨gb115, 0, none⟩ = some (.int .i64 0) := (blk_cell BK115.out 0).trans rfl
             have hcz29_1 : w22.cell? ⟨gb115, 1, none⟩ = some (.int .i64 0) := (blk_cell BK115.out 1).trans rfl
             have hcz29_2 : w22.cell? ⟨gb115, 2, none⟩ = some (.bool false) := (blk_cell BK115.out 2).trans rfl
             have hfz29_0 := blk_frozen BK115.out 0
             have hfz29_1 := blk_frozen BK115.out 1
             have hfz29_2 := blk_frozen BK115.out 2
             go_wp2_with (first | (go_at_call 54; (with_reducible refine (helioscoperef01_In.calls ((rd_T80 l0_4 x6_2).f0) (-12) 12 true _ A25.out).mono ?_); rintro e w' ⟨rfl, ⟨nd, rfl⟩⟩; (try first | exact ⟨rfl, _, World.drewN_drewN _ _ _⟩ | exact ⟨rfl, _, Eq.trans (World.drewN_drewN _ _ _) (congrArg (World.drewN _) (Nat.add_assoc _ _ _))⟩)) | (go_at_call 54; (with_reducible refine (helioscoperef01_In.calls ((rd_T80 l0_4 x6_2).f1) (-12) 12 t117 _ A27.out).mono ?_); rintro e w' ⟨rfl, ⟨nd, rfl⟩⟩; (try first | exact ⟨rfl, _, World.drewN_drewN _ _ _⟩ | exact ⟨rfl, _, Eq.trans (World.drewN_drewN _ _ _) (congrArg (World.drewN _) (Nat.add_assoc _ _ _))⟩)))
             repeat (go_quiet (first | (go_at_call 54; (with_reducible refine (helioscoperef01_In.calls ((rd_T80 l0_4 x6_2).f0) (-12) 12 true _ A25.out).mono ?_); rintro e w' ⟨rfl, ⟨nd, rfl⟩⟩; (try first | exact ⟨rfl, _, World.drewN_drewN _ _ _⟩ | exact ⟨rfl, _, Eq.trans (World.drewN_drewN _ _ _) (congrArg (World.drewN _) (Nat.add_assoc _ _ _))⟩)) | (go_at_call 54; (with_reducible refine (helioscoperef01_In.calls ((rd_T80 l0_4 x6_2).f1) (-12) 12 t117 _ A27.out).mono ?_); rintro e w' ⟨rfl, ⟨nd, rfl⟩⟩; (try first | exact ⟨rfl, _, World.drewN_drewN _ _ _⟩ | exact ⟨rfl, _, Eq.trans (World.drewN_drewN _ _ _) (congrArg (World.drewN _) (Nat.add_assoc _ _ _))⟩))); try go_wp2_with (first | (go_at_call 54; (with_reducible refine (helioscoperef01_In.calls ((rd_T80 l0_4 x6_2).f0) (-12) 12 true _ A25.out).mono ?_); rintro e w' ⟨rfl, ⟨nd, rfl⟩⟩; (try first | exact ⟨rfl, _, World.drewN_drewN _ _ _⟩ | exact ⟨rfl, _, Eq.trans (World.drewN_drewN _ _ _) (congrArg (World.drewN _) (Nat.add_assoc _ _ _))⟩)) | (go_at_call 54; (with_reducible refine (helioscoperef01_In.calls ((rd_T80 l0_4 x6_2).f1) (-12) 12 t117 _ A27.out).mono ?_); rintro e w' ⟨rfl, ⟨nd, rfl⟩⟩; (try first | exact ⟨rfl, _, World.drewN_drewN _ _ _⟩ | exact ⟨rfl, _, Eq.trans (World.drewN_drewN _ _ _) (congrArg (World.drewN _) (Nat.add_assoc _ _ _))⟩))))
             go_meet
             case rel => exact ⟨_, (!t117), (by first | rfl | (simp; done) | (simp [*]; done)), H', ⟨by have := HJ4.out; have := HK2.out; first | omega | exact Nat.le_refl _⟩, ⟨by (with_reducible repeat (first | refine blk_drewN ?_ _ | refine blk_drew ?_ | refine blk_alloc ?_ _)); refine blk_far ?_ NB110_115.out _; (with_reducible repeat (first | refine blk_drewN ?_ _ | refine blk_drew ?_ | refine blk_alloc ?_ _)); refine blk_far ?_ NB110_115.out _; (with_reducible repeat (first | refine blk_drewN ?_ _ | refine blk_drew ?_ | refine blk_alloc ?_ _)); refine blk_far ?_ NB110_115.out _; (with_reducible repeat (first | refine blk_drewN ?_ _ | refine blk_drew ?_ | refine blk_alloc ?_ _)); exact BK110.out⟩, ⟨by (with_reducible repeat (first | refine blk_drewN ?_ _ | refine blk_drew ?_ | refine blk_alloc ?_ _)); refine blk_put (cs := #[.int .i64 ((rd_T80 l0_4 x6_2).f0), .int .i64 ((rd_T80 l0_4 x6_2).f1), .bool false]) ?_ 2 _ rfl; (with_reducible repeat (first | refine blk_drewN ?_ _ | refine blk_drew ?_ | refine blk_alloc ?_ _)); refine blk_put (cs := #[.int .i64 ((rd_T80 l0_4 x6_2).f0), .int .i64 0, .bool false]) ?_ 1 _ rfl; (with_reducible repeat (first | refine blk_drewN ?_ _ | refine blk_drew ?_ | refine blk_alloc ?_ _)); refine blk_put (cs := #[.int .i64 0, .int .i64 0, .bool false]) ?_ 0 _ rfl; (with_reducible repeat (first | refine blk_drewN ?_ _ | refine blk_drew ?_ | refine blk_alloc ?_ _)); exact BK115.out⟩, ⟨by repeat (first | (with_reducible first | exact HB.out | apply below_alloc | apply pw_below_drewN | apply below_drew1 | refine below_set ?_ GE110.out | refine below_set ?_ GE115.out) | exact HB.out)⟩⟩
            ·
             replace c26 := Bool.eq_false_iff.mpr c26
             subst c26
             have H1 : (helioscoperef01_Check.j2 k2 x6_2 true a0_0 a0_1 a0_2 a0_3 l0_4 l0_5 ((rd_T80 l0_4 x6_2).f0) ((rd_T80 l0_4 x6_2).f1) ((rd_T80 l0_4 x6_2).f2)) = some (r1, r2, r3) := by rw [if_neg (show ¬ (false = true) by decide)] at H; exact H
             clear H
             have H := H1
             clear H1
             have H' := Aside0.mk H
             clear H
             have hnb30 := NB115_110.out
             have hnc30 := NB110_115.out
             have hcz31_0 : w22.cell? ⟨gb115, 0, none⟩ = some (.int .i64 0) := (blk_cell BK115.out 0).trans rfl
             have hcz31_1 : w22.cell? ⟨gb115, 1, none⟩ = some (.int .i64 0) := (blk_cell BK115.out 1).trans rfl
             have hcz31_2 : w22.cell? ⟨gb115, 2, none⟩ = some (.bool false) := (blk_cell BK115.out 2).trans rfl
             have hfz31_0 := blk_frozen BK115.out 0
             have hfz31_1 := blk_frozen BK115.out 1
             have hfz31_2 := blk_frozen BK115.out 2
             go_wp2_with (first | (go_at_call 54; (with_reducible refine (helioscoperef01_In.calls ((rd_T80 l0_4 x6_2).f0) (-12) 12 false _ A25.out).mono ?_); rintro e w' ⟨rfl, ⟨nd, rfl⟩⟩; (try first | exact ⟨rfl, _, World.drewN_drewN _ _ _⟩ | exact ⟨rfl, _, Eq.trans (World.drewN_drewN _ _ _) (congrArg (World.drewN _) (Nat.add_assoc _ _ _))⟩)))
             repeat (go_quiet (first | (go_at_call 54; (with_reducible refine (helioscoperef01_In.calls ((rd_T80 l0_4 x6_2).f0) (-12) 12 false _ A25.out).mono ?_); rintro e w' ⟨rfl, ⟨nd, rfl⟩⟩; (try first | exact ⟨rfl, _, World.drewN_drewN _ _ _⟩ | exact ⟨rfl, _, Eq.trans (World.drewN_drewN _ _ _) (congrArg (World.drewN _) (Nat.add_assoc _ _ _))⟩))); try go_wp2_with (first | (go_at_call 54; (with_reducible refine (helioscoperef01_In.calls ((rd_T80 l0_4 x6_2).f0) (-12) 12 false _ A25.out).mono ?_); rintro e w' ⟨rfl, ⟨nd, rfl⟩⟩; (try first | exact ⟨rfl, _, World.drewN_drewN _ _ _⟩ | exact ⟨rfl, _, Eq.trans (World.drewN_drewN _ _ _) (congrArg (World.drewN _) (Nat.add_assoc _ _ _))⟩))))
             go_meet
             case rel => exact ⟨_, (true), (by first | rfl | (simp; done) | (simp [*]; done)), H', ⟨by have := HJ4.out; have := HK2.out; first | omega | exact Nat.le_refl _⟩, ⟨by (with_reducible repeat (first | refine blk_drewN ?_ _ | refine blk_drew ?_ | refine blk_alloc ?_ _)); refine blk_far ?_ NB110_115.out _; (with_reducible repeat (first | refine blk_drewN ?_ _ | refine blk_drew ?_ | refine blk_alloc ?_ _)); refine blk_far ?_ NB110_115.out _; (with_reducible repeat (first | refine blk_drewN ?_ _ | refine blk_drew ?_ | refine blk_alloc ?_ _)); refine blk_far ?_ NB110_115.out _; (with_reducible repeat (first | refine blk_drewN ?_ _ | refine blk_drew ?_ | refine blk_alloc ?_ _)); exact BK110.out⟩, ⟨by (with_reducible repeat (first | refine blk_drewN ?_ _ | refine blk_drew ?_ | refine blk_alloc ?_ _)); refine blk_put (cs := #[.int .i64 ((rd_T80 l0_4 x6_2).f0), .int .i64 ((rd_T80 l0_4 x6_2).f1), .bool false]) ?_ 2 _ rfl; (with_reducible repeat (first | refine blk_drewN ?_ _ | refine blk_drew ?_ | refine blk_alloc ?_ _)); refine blk_put (cs := #[.int .i64 ((rd_T80 l0_4 x6_2).f0), .int .i64 0, .bool false]) ?_ 1 _ rfl; (with_reducible repeat (first | refine blk_drewN ?_ _ | refine blk_drew ?_ | refine blk_alloc ?_ _)); refine blk_put (cs := #[.int .i64 0, .int .i64 0, .bool false]) ?_ 0 _ rfl; (with_reducible repeat (first | refine blk_drewN ?_ _ | refine blk_drew ?_ | refine blk_alloc ?_ _)); exact BK115.out⟩, ⟨by repeat (first | (with_reducible first | exact HB.out | apply below_alloc | apply pw_below_drewN | apply below_drew1 | refine below_set ?_ GE110.out | refine below_set ?_ GE115.out) | exact HB.out)⟩⟩
           case rest =>
            clear HC20
            try clear c1
            try clear p1
            try clear q1
            try clear hx1
            try clear c2
            try clear p2
            try clear c3
            try clear c10
            try clear p11
            try clear q11
            try clear hx11
            try clear c13
            try clear c14
            try clear c14b0
            try clear c14b1
            try clear c15
            try clear c15b0
            try clear c15b1
            try clear c18
            try clear c18b0
            try clear c19
            try clear c19b0
            try clear c23
            try clear c26
            try clear c28
            try clear c30
            try clear hcz11_0
            try clear hcz11_1
            try clear hcz11_2
            try clear hcz11_3
            try clear hcz11_4
            try clear hcz11_5
            try clear hcz12_0
            try clear hcz12_1
            try clear hcz12_2
            try clear hcz12_3
            try clear hcz12_4
            try clear hcz12_5
            try clear hcz16_0
            try clear hcz16_1
            try clear hcz16_2
            try clear hcz16_3
            try clear hcz16_4
            try clear hcz16_5
            try clear hcz17_0
            try clear hcz17_1
            try clear hcz17_2
            try clear hcz17_3
            try clear hcz17_4
            try clear hcz17_5
            try clear hcz21_0
            try clear hcz21_1
            try clear hcz21_2
            try clear hcz21_3
            try clear hcz21_4
            try clear hcz21_5
            try clear hcz24_0
            try clear hcz24_1
            try clear hcz24_2
            try clear hcz29_0
            try clear hcz29_1
            try clear hcz29_2
            try clear hcz31_0
            try clear hcz31_1
            try clear hcz31_2
            try clear hcz7_0
            try clear hcz7_1
            try clear hcz7_2
            try clear hcz7_3
            try clear hcz7_4
            try clear hcz7_5
            try clear hfz11_0
            try clear hfz11_1
            try clear hfz11_2
            try clear hfz11_3
            try clear hfz11_4
            try clear hfz11_5
            try clear hfz12_0
            try clear hfz12_1
            try clear hfz12_2
            try clear hfz12_3
            try clear hfz12_4
            try clear hfz12_5
            try clear hfz16_0
            try clear hfz16_1
            try clear hfz16_2
            try clear hfz16_3
            try clear hfz16_4
            try clear hfz16_5
            try clear hfz17_0
            try clear hfz17_1
            try clear hfz17_2
            try clear hfz17_3
            try clear hfz17_4
            try clear hfz17_5
            try clear hfz21_0
            try clear hfz21_1
            try clear hfz21_2
            try clear hfz21_3
            try clear hfz21_4
            try clear hfz21_5
            try clear hfz24_0
            try clear hfz24_1
            try clear hfz24_2
            try clear hfz29_0
            try clear hfz29_1
            try clear hfz29_2
            try clear hfz31_0
            try clear hfz31_1
            try clear hfz31_2
            try clear hfz7_0
            try clear hfz7_1
            try clear hfz7_2
            try clear hfz7_3
            try clear hfz7_4
            try clear hfz7_5
            try clear hx114_0
            try clear hx114_1
            try clear hx114_2
            try clear p114
            try clear p2
            try clear q114
            obtain ⟨kq, x54_19, rfl, HA, HJ19, BK110, BK115, HB⟩ := hcut
            cases kq with
            | zero => exact absurd HA.out (by simp [helioscoperef01_Check.j2])
            | succ kj19 =>
             have H := HA.out
             clear HA
             simp only [helioscoperef01_Check.j2] at H
             by_cases c32 : x54_19 = true
             ·
              subst c32
              have H1 : (some (2, x6_2, 7)) = some (r1, r2, r3) := by rw [if_pos rfl] at H; exact H
              clear H
              have H := H1
              clear H1
              simp only [Option.some.injEq, Prod.mk.injEq] at H
              obtain ⟨rfl, rfl, rfl⟩ := H
              go_wp2
              repeat (go_quiet (fail); try go_wp2)
              go_ret3
              exact ⟨by first | rfl | (simp [errW_none, errW_some] <;> rfl) | (simp [*, errW_none, errW_some] <;> rfl), by repeat (first | (with_reducible first | exact HB.out | apply below_alloc | apply pw_below_drewN | apply below_drew1 | refine below_set ?_ GE110.out | refine below_set ?_ GE115.out) | exact HB.out)⟩
             ·
              replace c32 := Bool.eq_false_iff.mpr c32
              subst c32
              have H1 : (helioscoperef01_Check.l1 kj19 x6_2 0 a0_0 a0_1 a0_2 a0_3 l0_4 l0_5 ((rd_T80 l0_4 x6_2).f0) ((rd_T80 l0_4 x6_2).f1) ((rd_T80 l0_4 x6_2).f2)) = some (r1, r2, r3) := by rw [if_neg (show ¬ (false = true) by decide)] at H; exact H
              clear H
              have H := H1
              clear H1
              have H' := Aside0.mk H
              clear H
              go_wp2
              repeat (go_quiet (fail); try go_wp2)
              go_loopg [8] kj19 (fun kq v8 w' => ∃ (x8_4 : Int), v8 = .int .i64 x8_4 ∧ Aside0 (helioscoperef01_Check.l1 kq x6_2 x8_4 a0_0 a0_1 a0_2 a0_3 l0_4 l0_5 ((rd_T80 l0_4 x6_2).f0) ((rd_T80 l0_4 x6_2).f1) ((rd_T80 l0_4 x6_2).f2) = some (r1, r2, r3)) ∧ Aside0 (kq ≤ kj19) ∧ Aside0 (w'.heap[gb110]? = some (.cells #[.string a0_0, .int .i64 a0_1, .int .i64 a0_2, .int .i64 a0_3, (.slice (some ad114) l0_4.length c0_4), (.slice A0_5 l0_5.length c0_5)] 27 (0, 0))) ∧ Aside0 (w'.heap[gb115]? = some (.cells #[.int .i64 ((rd_T80 l0_4 x6_2).f0), .int .i64 ((rd_T80 l0_4 x6_2).f1), .bool ((rd_T80 l0_4 x6_2).f2)] 80 (0, 0))) ∧ Aside0 (Below w.heap.size w w'))
              case atStart => exact ⟨(0), (by first | rfl | (simp; done) | (simp [*]; done)), H', ⟨Nat.le_refl _⟩, ⟨by (with_reducible repeat (first | refine blk_drewN ?_ _ | refine blk_drew ?_ | refine blk_alloc ?_ _)); exact BK110.out⟩, ⟨by (with_reducible repeat (first | refine blk_drewN ?_ _ | refine blk_drew ?_ | refine blk_alloc ?_ _)); exact BK115.out⟩, ⟨by repeat (first | (with_reducible first | exact HB.out | apply below_alloc | apply pw_below_drewN | apply below_drew1 | refine below_set ?_ GE110.out | refine below_set ?_ GE115.out) | exact HB.out)⟩⟩
              case round =>
               clear H'
               try clear c1
               try clear p1
               try clear q1
               try clear hx1
               try clear c2
               try clear p2
               try clear c3
               try clear c10
               try clear p11
               try clear q11
               try clear hx11
               try clear c13
               try clear c14
               try clear c14b0
               try clear c14b1
               try clear c15
               try clear c15b0
               try clear c15b1
               try clear c18
               try clear c18b0
               try clear c19
               try clear c19b0
               try clear c23
               try clear c26
               try clear c28
               try clear c30
               try clear c32
               try clear hcz11_0
               try clear hcz11_1
               try clear hcz11_2
               try clear hcz11_3
               try clear hcz11_4
               try clear hcz11_5
               try clear hcz12_0
               try clear hcz12_1
               try clear hcz12_2
               try clear hcz12_3
               try clear hcz12_4
               try clear hcz12_5
               try clear hcz16_0
               try clear hcz16_1
               try clear hcz16_2
               try clear hcz16_3
               try clear hcz16_4
               try clear hcz16_5
               try clear hcz17_0
               try clear hcz17_1
               try clear hcz17_2
               try clear hcz17_3
               try clear hcz17_4
               try clear hcz17_5
               try clear hcz21_0
               try clear hcz21_1
               try clear hcz21_2
               try clear hcz21_3
               try clear hcz21_4
               try clear hcz21_5
               try clear hcz24_0
               try clear hcz24_1
               try clear hcz24_2
               try clear hcz29_0
               try clear hcz29_1
               try clear hcz29_2
               try clear hcz31_0
               try clear hcz31_1
               try clear hcz31_2
               try clear hcz7_0
               try clear hcz7_1
               try clear hcz7_2
               try clear hcz7_3
               try clear hcz7_4
               try clear hcz7_5
               try clear hfz11_0
               try clear hfz11_1
               try clear hfz11_2
               try clear hfz11_3
               try clear hfz11_4
               try clear hfz11_5
               try clear hfz12_0
               try clear hfz12_1
               try clear hfz12_2
               try clear hfz12_3
               try clear hfz12_4
               try clear hfz12_5
               try clear hfz16_0
               try clear hfz16_1
               try clear hfz16_2
               try clear hfz16_3
               try clear hfz16_4
               try clear hfz16_5
               try clear hfz17_0
               try clear hfz17_1
               try clear hfz17_2
               try clear hfz17_3
               try clear hfz17_4
               try clear hfz17_5
               try clear hfz21_0
               try clear hfz21_1
               try clear hfz21_2
               try clear hfz21_3
               try clear hfz21_4
               try clear hfz21_5
               try clear hfz24_0
               try clear hfz24_1
               try clear hfz24_2
               try clear hfz29_0
               try clear hfz29_1
               try clear hfz29_2
               try clear hfz31_0
               try clear hfz31_1
               try clear hfz31_2
               try clear hfz7_0
               try clear hfz7_1
               try clear hfz7_2
               try clear hfz7_3
               try clear hfz7_4
               try clear hfz7_5
               try clear hx114_0
               try clear hx114_1
               try clear hx114_2
               try clear p1
               try clear p11
               try clear p114
               try clear p2
               try clear q1
               try clear q11
               try clear q114
               obtain ⟨x8_4, rfl, HA, HK4, BK110, BK115, HB⟩ := hrel
               cases gk with
               | zero => exact absurd HA.out (by simp [helioscoperef01_Check.l1])
               | succ k4 =>
                have H := HA.out
                clear HA
                simp only [helioscoperef01_Check.l1] at H
                by_cases c33 : x8_4 < x6_2
                ·
                 rw [if_pos c33] at H
                 have c33b0 : decide (x8_4 < x6_2) = true := decide_eq_true c33
                 clear c33
                 by_cases c34 : 0 ≤ x8_4
                 ·
                  rw [if_pos c34] at H
                  have c34b0 : decide (0 ≤ x8_4) = true := decide_eq_true c34
                  clear c34
                  by_cases c35 : x8_4 < (l0_4.length : Int)
                  ·
                   rw [if_pos c35] at H
                   have c35b0 : decide (x8_4 < (l0_4.length : Int)) = true := decide_eq_true c35
                   clear c35
                   by_cases c36 : ((rd_T80 l0_4 x8_4).f0) = ((rd_T80 l0_4 x6_2).f0)
                   ·
                    rw [if_pos c36] at H
                    have c36b0 : (((rd_T80 l0_4 x8_4).f0) == ((rd_T80 l0_4 x6_2).f0)) = true := beq_iff_eq.mpr c36
                    have c36b1 : (((rd_T80 l0_4 x8_4).f0) != ((rd_T80 l0_4 x6_2).f0)) = false := bne_eq_false_iff_eq.mpr c36
                    clear c36
                    by_cases c37 : ((rd_T80 l0_4 x8_4).f1) = ((rd_T80 l0_4 x6_2).f1)
                    ·
                     rw [if_pos c37] at H
                     have c37b0 : (((rd_T80 l0_4 x8_4).f1) == ((rd_T80 l0_4 x6_2).f1)) = true := beq_iff_eq.mpr c37
                     have c37b1 : (((rd_T80 l0_4 x8_4).f1) != ((rd_T80 l0_4 x6_2).f1)) = false := bne_eq_false_iff_eq.mpr c37
                     clear c37
                     simp only [Option.some.injEq, Prod.mk.injEq] at H
                     obtain ⟨rfl, rfl, rfl⟩ := H
                     have hnb38 := NB110_115.out
                     have hnc38 := NB115_110.out
                     have hcz39_0 : wr.cell? ⟨gb110, 0, none⟩ = some (.string a0_0) := (blk_cell BK110.out 0).trans rfl
                     have hcz39_1 : wr.cell? ⟨gb110, 1, none⟩ = some (.int .i64 a0_1) := (blk_cell BK110.out 1).trans rfl
                     have hcz39_2 : wr.cell? ⟨gb110, 2, none⟩ = some (.int .i64 a0_2) := (blk_cell BK110.out 2).trans rfl
                     have hcz39_3 : wr.cell? ⟨gb110, 3, none⟩ = some (.int .i64 a0_3) := (blk_cell BK110.out 3).trans rfl
                     have hcz39_4 : wr.cell? ⟨gb110, 4, none⟩ = some (.slice (some ad114) l0_4.length c0_4) := (blk_cell BK110.out 4).trans rfl
                     have hcz39_5 : wr.cell? ⟨gb110, 5, none⟩ = some (.slice A0_5 l0_5.length c0_5) := (blk_cell BK110.out 5).trans rfl
                     have hfz39_0 := blk_frozen BK110.out 0
                     have hfz39_1 := blk_frozen BK110.out 1
                     have hfz39_2 := blk_frozen BK110.out 2
                     have hfz39_3 := blk_frozen BK110.out 3
                     have hfz39_4 := blk_frozen BK110.out 4
                     have hfz39_5 := blk_frozen BK110.out 5
                     have p118 : 0 ≤ (x8_4 : Int) := of_decide_eq_true (by first | (with_reducible assumption) | assumption)
                     have q118 : x8_4 < (l0_4.length : Int) := of_decide_eq_true (by first | (with_reducible assumption) | assumption)
                     obtain ⟨ad118, e118, hx118_0, hx118_1, hx118_2⟩ := at_T80 HR0_4.out x8_4 p118 q118
                     obtain rfl : ad114 = ad118 := (by injection e118)
                     replace hx118_0 := (HB.out.cell (World.block_lt_of_cell? w _ hx118_0)).trans hx118_0
                     replace hx118_1 := (HB.out.cell (World.block_lt_of_cell? w _ hx118_1)).trans hx118_1
                     replace hx118_2 := (HB.out.cell (World.block_lt_of_cell? w _ hx118_2)).trans hx118_2
                     replace p118 := eq_true p118
                     replace q118 := eq_true q118
                     have hcz40_0 : wr.cell? ⟨gb115, 0, none⟩ = some (.int .i64 ((rd_T80 l0_4 x6_2).f0)) := (blk_cell BK115.out 0).trans rfl
                     have hcz40_1 : wr.cell? ⟨gb115, 1, none⟩ = some (.int .i64 ((rd_T80 l0_4 x6_2).f1)) := (blk_cell BK115.out 1).trans rfl
                     have hcz40_2 : wr.cell? ⟨gb115, 2, none⟩ = some (.bool ((rd_T80 l0_4 x6_2).f2)) := (blk_cell BK115.out 2).trans rfl
                     have hfz40_0 := blk_frozen BK115.out 0
                     have hfz40_1 := blk_frozen BK115.out 1
                     have hfz40_2 := blk_frozen BK115.out 2
                     have p119 : 0 ≤ (x8_4 : Int) := of_decide_eq_true (by first | (with_reducible assumption) | assumption)
                     have q119 : x8_4 < (l0_4.length : Int) := of_decide_eq_true (by first | (with_reducible assumption) | assumption)
                     obtain ⟨ad119, e119, hx119_0, hx119_1, hx119_2⟩ := at_T80 HR0_4.out x8_4 p119 q119
                     obtain rfl : ad114 = ad119 := (by injection e119)
                     replace hx119_0 := (HB.out.cell (World.block_lt_of_cell? w _ hx119_0)).trans hx119_0
                     replace hx119_1 := (HB.out.cell (World.block_lt_of_cell? w _ hx119_1)).trans hx119_1
                     replace hx119_2 := (HB.out.cell (World.block_lt_of_cell? w _ hx119_2)).trans hx119_2
                     replace p119 := eq_true p119
                     replace q119 := eq_true q119
                     go_wp2
                     repeat (go_quiet (fail); try go_wp2)
                     go_ret3
                     exact ⟨by first | rfl | (simp [errW_none, errW_some] <;> rfl) | (simp [*, errW_none, errW_some] <;> rfl), by repeat (first | (with_reducible first | exact HB.out | apply below_alloc | apply pw_below_drewN | apply below_drew1 | refine below_set ?_ GE110.out | refine below_set ?_ GE115.out) | exact HB.out)⟩
                    ·
                     rw [if_neg c37] at H
                     have c37b0 : (((rd_T80 l0_4 x8_4).f1) == ((rd_T80 l0_4 x6_2).f1)) = false := beq_eq_false_iff_ne.mpr c37
                     have c37b1 : (((rd_T80 l0_4 x8_4).f1) != ((rd_T80 l0_4 x6_2).f1)) = true := bne_iff_ne.mpr c37
                     have H' := Aside0.mk H
                     clear H
                     have hnb41 := NB110_115.out
                     have hnc41 := NB115_110.out
                     have hcz42_0 : wr.cell? ⟨gb110, 0, none⟩ = some (.string a0_0) := (blk_cell BK110.out 0).trans rfl
                     have hcz42_1 : wr.cell? ⟨gb110, 1, none⟩ = some (.int .i64 a0_1) := (blk_cell BK110.out 1).trans rfl
                     have hcz42_2 : wr.cell? ⟨gb110, 2, none⟩ = some (.int .i64 a0_2) := (blk_cell BK110.out 2).trans rfl
                     have hcz42_3 : wr.cell? ⟨gb110, 3, none⟩ = some (.int .i64 a0_3) := (blk_cell BK110.out 3).trans rfl
                     have hcz42_4 : wr.cell? ⟨gb110, 4, none⟩ = some (.slice (some ad114) l0_4.length c0_4) := (blk_cell BK110.out 4).trans rfl
                     have hcz42_5 : wr.cell? ⟨gb110, 5, none⟩ = some (.slice A0_5 l0_5.length c0_5) := (blk_cell BK110.out 5).trans rfl
                     have hfz42_0 := blk_frozen BK110.out 0
                     have hfz42_1 := blk_frozen BK110.out 1
                     have hfz42_2 := blk_frozen BK110.out 2
                     have hfz42_3 := blk_frozen BK110.out 3
                     have hfz42_4 := blk_frozen BK110.out 4
                     have hfz42_5 := blk_frozen BK110.out 5
                     have p118 : 0 ≤ (x8_4 : Int) := of_decide_eq_true (by first | (with_reducible assumption) | assumption)
                     have q118 : x8_4 < (l0_4.length : Int) := of_decide_eq_true (by first | (with_reducible assumption) | assumption)
                     obtain ⟨ad118, e118, hx118_0, hx118_1, hx118_2⟩ := at_T80 HR0_4.out x8_4 p118 q118
                     obtain rfl : ad114 = ad118 := (by injection e118)
                     replace hx118_0 := (HB.out.cell (World.block_lt_of_cell? w _ hx118_0)).trans hx118_0
                     replace hx118_1 := (HB.out.cell (World.block_lt_of_cell? w _ hx118_1)).trans hx118_1
                     replace hx118_2 := (HB.out.cell (World.block_lt_of_cell? w _ hx118_2)).trans hx118_2
                     replace p118 := eq_true p118
                     replace q118 := eq_true q118
                     have hcz43_0 : wr.cell? ⟨gb115, 0, none⟩ = some (.int .i64 ((rd_T80 l0_4 x6_2).f0)) := (blk_cell BK115.out 0).trans rfl
                     have hcz43_1 : wr.cell? ⟨gb115, 1, none⟩ = some (.int .i64 ((rd_T80 l0_4 x6_2).f1)) := (blk_cell BK115.out 1).trans rfl
                     have hcz43_2 : wr.cell? ⟨gb115, 2, none⟩ = some (.bool ((rd_T80 l0_4 x6_2).f2)) := (blk_cell BK115.out 2).trans rfl
                     have hfz43_0 := blk_frozen BK115.out 0
                     have hfz43_1 := blk_frozen BK115.out 1
                     have hfz43_2 := blk_frozen BK115.out 2
                     have p119 : 0 ≤ (x8_4 : Int) := of_decide_eq_true (by first | (with_reducible assumption) | assumption)
                     have q119 : x8_4 < (l0_4.length : Int) := of_decide_eq_true (by first | (with_reducible assumption) | assumption)
                     obtain ⟨ad119, e119, hx119_0, hx119_1, hx119_2⟩ := at_T80 HR0_4.out x8_4 p119 q119
                     obtain rfl : ad114 = ad119 := (by injection e119)
                     replace hx119_0 := (HB.out.cell (World.block_lt_of_cell? w _ hx119_0)).trans hx119_0
                     replace hx119_1 := (HB.out.cell (World.block_lt_of_cell? w _ hx119_1)).trans hx119_1
                     replace hx119_2 := (HB.out.cell (World.block_lt_of_cell? w _ hx119_2)).trans hx119_2
                     replace p119 := eq_true p119
                     replace q119 := eq_true q119
                     go_wp2
                     repeat (go_quiet (fail); try go_wp2)
                     go_roundg k4
                     case measure => have := HJ4.out; have := HK2.out; have := HJ19.out; have := HK4.out; omega
                     case rel => exact ⟨(wrap64 (x8_4 + 1)), (by first | rfl | (simp; done) | (simp [*]; done)), H', ⟨by have := HJ4.out; have := HK2.out; have := HJ19.out; have := HK4.out; omega⟩, ⟨by (with_reducible repeat (first | refine blk_drewN ?_ _ | refine blk_drew ?_ | refine blk_alloc ?_ _)); exact BK110.out⟩, ⟨by (with_reducible repeat (first | refine blk_drewN ?_ _ | refine blk_drew ?_ | refine blk_alloc ?_ _)); exact BK115.out⟩, ⟨by repeat (first | (with_reducible first | exact HB.out | apply below_alloc | apply pw_below_drewN | apply below_drew1 | refine below_set ?_ GE110.out | refine below_set ?_ GE115.out) | exact HB.out)⟩⟩
                   ·
                    rw [if_neg c36] at H
                    have c36b0 : (((rd_T80 l0_4 x8_4).f0) == ((rd_T80 l0_4 x6_2).f0)) = false := beq_eq_false_iff_ne.mpr c36
                    have c36b1 : (((rd_T80 l0_4 x8_4).f0) != ((rd_T80 l0_4 x6_2).f0)) = true := bne_iff_ne.mpr c36
                    have H' := Aside0.mk H
                    clear H
                    have hnb44 := NB110_115.out
                    have hnc44 := NB115_110.out
                    have hcz45_0 : wr.cell? ⟨gb110, 0, none⟩ = some (.string a0_0) := (blk_cell BK110.out 0).trans rfl
                    have hcz45_1 : wr.cell? ⟨gb110, 1, none⟩ = some (.int .i64 a0_1) := (blk_cell BK110.out 1).trans rfl
                    have hcz45_2 : wr.cell? ⟨gb110, 2, none⟩ = some (.int .i64 a0_2) := (blk_cell BK110.out 2).trans rfl
                    have hcz45_3 : wr.cell? ⟨gb110, 3, none⟩ = some (.int .i64 a0_3) := (blk_cell BK110.out 3).trans rfl
                    have hcz45_4 : wr.cell? ⟨gb110, 4, none⟩ = some (.slice (some ad114) l0_4.length c0_4) := (blk_cell BK110.out 4).trans rfl
                    have hcz45_5 : wr.cell? ⟨gb110, 5, none⟩ = some (.slice A0_5 l0_5.length c0_5) := (blk_cell BK110.out 5).trans rfl
                    have hfz45_0 := blk_frozen BK110.out 0
                    have hfz45_1 := blk_frozen BK110.out 1
                    have hfz45_2 := blk_frozen BK110.out 2
                    have hfz45_3 := blk_frozen BK110.out 3
                    have hfz45_4 := blk_frozen BK110.out 4
                    have hfz45_5 := blk_frozen BK110.out 5
                    have p118 : 0 ≤ (x8_4 : Int) := of_decide_eq_true (by first | (with_reducible assumption) | assumption)
                    have q118 : x8_4 < (l0_4.length : Int) := of_decide_eq_true (by first | (with_reducible assumption) | assumption)
                    obtain ⟨ad118, e118, hx118_0, hx118_1, hx118_2⟩ := at_T80 HR0_4.out x8_4 p118 q118
                    obtain rfl : ad114 = ad118 := (by injection e118)
                    replace hx118_0 := (HB.out.cell (World.block_lt_of_cell? w _ hx118_0)).trans hx118_0
                    replace hx118_1 := (HB.out.cell (World.block_lt_of_cell? w _ hx118_1)).trans hx118_1
                    replace hx118_2 := (HB.out.cell (World.block_lt_of_cell? w _ hx118_2)).trans hx118_2
                    replace p118 := eq_true p118
                    replace q118 := eq_true q118
                    have hcz46_0 : wr.cell? ⟨gb115, 0, none⟩ = some (.int .i64 ((rd_T80 l0_4 x6_2).f0)) := (blk_cell BK115.out 0).trans rfl
                    have hcz46_1 : wr.cell? ⟨gb115, 1, none⟩ = some (.int .i64 ((rd_T80 l0_4 x6_2).f1)) := (blk_cell BK115.out 1).trans rfl
                    have hcz46_2 : wr.cell? ⟨gb115, 2, none⟩ = some (.bool ((rd_T80 l0_4 x6_2).f2)) := (blk_cell BK115.out 2).trans rfl
                    have hfz46_0 := blk_frozen BK115.out 0
                    have hfz46_1 := blk_frozen BK115.out 1
                    have hfz46_2 := blk_frozen BK115.out 2
                    go_wp2
                    repeat (go_quiet (fail); try go_wp2)
                    go_roundg k4
                    case measure => have := HJ4.out; have := HK2.out; have := HJ19.out; have := HK4.out; omega
                    case rel => exact ⟨(wrap64 (x8_4 + 1)), (by first | rfl | (simp; done) | (simp [*]; done)), H', ⟨by have := HJ4.out; have := HK2.out; have := HJ19.out; have := HK4.out; omega⟩, ⟨by (with_reducible repeat (first | refine blk_drewN ?_ _ | refine blk_drew ?_ | refine blk_alloc ?_ _)); exact BK110.out⟩, ⟨by (with_reducible repeat (first | refine blk_drewN ?_ _ | refine blk_drew ?_ | refine blk_alloc ?_ _)); exact BK115.out⟩, ⟨by repeat (first | (with_reducible first | exact HB.out | apply below_alloc | apply pw_below_drewN | apply below_drew1 | refine below_set ?_ GE110.out | refine below_set ?_ GE115.out) | exact HB.out)⟩⟩
                  ·
                   rw [if_neg c35] at H
                   exact absurd H (by simp)
                 ·
                  rw [if_neg c34] at H
                  exact absurd H (by simp)
                ·
                 rw [if_neg c33] at H
                 have c33b0 : decide (x8_4 < x6_2) = false := decide_eq_false c33
                 clear c33
                 have H' := Aside0.mk H
                 clear H
                 go_wp2
                 repeat (go_quiet (fail); try go_wp2)
                 go_roundg k4
                 case measure => have := HJ4.out; have := HK2.out; have := HJ19.out; have := HK4.out; omega
                 case rel => exact ⟨(wrap64 (x6_2 + 1)), (by first | rfl | (simp; done) | (simp [*]; done)), H', ⟨by have := HJ4.out; have := HK2.out; have := HJ19.out; have := HK4.out; omega⟩, ⟨by (with_reducible repeat (first | refine blk_drewN ?_ _ | refine blk_drew ?_ | refine blk_alloc ?_ _)); exact BK110.out⟩, ⟨by repeat (first | (with_reducible first | exact HB.out | apply below_alloc | apply pw_below_drewN | apply below_drew1 | refine below_set ?_ GE110.out | refine below_set ?_ GE115.out) | exact HB.out)⟩⟩
          ·
           rw [if_neg c19] at H
           exact absurd H (by simp)
         ·
          rw [if_neg c18] at H
          have c18b0 : decide (x6_2 < (l0_4.length : Int)) = false := decide_eq_false c18
          clear c18
          by_cases c47 : (l0_5.length : Int) > 4
          ·
           rw [if_pos c47] at H
           have c47b0 : decide (4 < (l0_5.length : Int)) = true := decide_eq_true c47
           have c47b1 : decide (4 < l0_5.length) = true := decide_eq_true (by omega)
           clear c47
           simp only [Option.some.injEq, Prod.mk.injEq] at H
           obtain ⟨rfl, rfl, rfl⟩ := H
           have hcz48_0 : wr.cell? ⟨gb110, 0, none⟩ = some (.string a0_0) := (blk_cell BK110.out 0).trans rfl
           have hcz48_1 : wr.cell? ⟨gb110, 1, none⟩ = some (.int .i64 a0_1) := (blk_cell BK110.out 1).trans rfl
           have hcz48_2 : wr.cell? ⟨gb110, 2, none⟩ = some (.int .i64 a0_2) := (blk_cell BK110.out 2).trans rfl
           have hcz48_3 : wr.cell? ⟨gb110, 3, none⟩ = some (.int .i64 a0_3) := (blk_cell BK110.out 3).trans rfl
           have hcz48_4 : wr.cell? ⟨gb110, 4, none⟩ = some (.slice A0_4 l0_4.length c0_4) := (blk_cell BK110.out 4).trans rfl
           have hcz48_5 : wr.cell? ⟨gb110, 5, none⟩ = some (.slice A0_5 l0_5.length c0_5) := (blk_cell BK110.out 5).trans rfl
           have hfz48_0 := blk_frozen BK110.out 0
           have hfz48_1 := blk_frozen BK110.out 1
           have hfz48_2 := blk_frozen BK110.out 2
           have hfz48_3 := blk_frozen BK110.out 3
           have hfz48_4 := blk_frozen BK110.out 4
           have hfz48_5 := blk_frozen BK110.out 5
           go_wp2
           repeat (go_quiet (fail); try go_wp2)
           go_ret3
           exact ⟨by first | rfl | (simp [errW_none, errW_some] <;> rfl) | (simp [*, errW_none, errW_some] <;> rfl), by repeat (first | (with_reducible first | exact HB.out | apply below_alloc | apply pw_below_drewN | apply below_drew1 | refine below_set ?_ GE110.out) | exact HB.out)⟩
          ·
           rw [if_neg c47] at H
           have c47b0 : decide (4 < (l0_5.length : Int)) = false := decide_eq_false c47
           have c47b1 : decide (4 < l0_5.length) = false := decide_eq_false (by omega)
           clear c47
           have H' := Aside0.mk H
           clear H
           have hcz49_0 : wr.cell? ⟨gb110, 0, none⟩ = some (.string a0_0) := (blk_cell BK110.out 0).trans rfl
           have hcz49_1 : wr.cell? ⟨gb110, 1, none⟩ = some (.int .i64 a0_1) := (blk_cell BK110.out 1).trans rfl
           have hcz49_2 : wr.cell? ⟨gb110, 2, none⟩ = some (.int .i64 a0_2) := (blk_cell BK110.out 2).trans rfl
           have hcz49_3 : wr.cell? ⟨gb110, 3, none⟩ = some (.int .i64 a0_3) := (blk_cell BK110.out 3).trans rfl
           have hcz49_4 : wr.cell? ⟨gb110, 4, none⟩ = some (.slice A0_4 l0_4.length c0_4) := (blk_cell BK110.out 4).trans rfl
           have hcz49_5 : wr.cell? ⟨gb110, 5, none⟩ = some (.slice A0_5 l0_5.length c0_5) := (blk_cell BK110.out 5).trans rfl
           have hfz49_0 := blk_frozen BK110.out 0
           have hfz49_1 := blk_frozen BK110.out 1
           have hfz49_2 := blk_frozen BK110.out 2
           have hfz49_3 := blk_frozen BK110.out 3
           have hfz49_4 := blk_frozen BK110.out 4
           have hfz49_5 := blk_frozen BK110.out 5
           go_wp2
           repeat (go_quiet (fail); try go_wp2)
           go_loopg [9] k2 (fun kq v9 w' => ∃ (x9_3 : Int), v9 = .int .i64 x9_3 ∧ Aside0 (helioscoperef01_Check.l2 kq x9_3 a0_0 a0_1 a0_2 a0_3 l0_4 l0_5 = some (r1, r2, r3)) ∧ Aside0 (kq ≤ k2) ∧ Aside0 (w'.heap[gb110]? = some (.cells #[.string a0_0, .int .i64 a0_1, .int .i64 a0_2, .int .i64 a0_3, (.slice A0_4 l0_4.length c0_4), (.slice A0_5 l0_5.length c0_5)] 27 (0, 0))) ∧ Aside0 (Below w.heap.size w w'))
           case atStart => exact ⟨(0), (by first | rfl | (simp; done) | (simp [*]; done)), H', ⟨Nat.le_refl _⟩, ⟨by (with_reducible repeat (first | refine blk_drewN ?_ _ | refine blk_drew ?_ | refine blk_alloc ?_ _)); exact BK110.out⟩, ⟨by repeat (first | (with_reducible first | exact HB.out | apply below_alloc | apply pw_below_drewN | apply below_drew1 | refine below_set ?_ GE110.out) | exact HB.out)⟩⟩
           case round =>
            clear H'
            try clear c1
            try clear p1
            try clear q1
            try clear hx1
            try clear c2
            try clear p2
            try clear c3
            try clear c4
            try clear p6
            try clear c10
            try clear p11
            try clear q11
            try clear hx11
            try clear c13
            try clear c14
            try clear c14b0
            try clear c14b1
            try clear c15
            try clear c15b0
            try clear c15b1
            try clear c18
            try clear c18b0
            try clear c19
            try clear c19b0
            try clear c23
            try clear c26
            try clear c28
            try clear c30
            try clear c32
            try clear c33
            try clear c33b0
            try clear c34
            try clear c34b0
            try clear c35
            try clear c35b0
            try clear c36
            try clear c36b0
            try clear c36b1
            try clear c37
            try clear c37b0
            try clear c37b1
            try clear c38
            try clear c41
            try clear c44
            try clear c47
            try clear c47b0
            try clear c47b1
            try clear hcz11_0
            try clear hcz11_1
            try clear hcz11_2
            try clear hcz11_3
            try clear hcz11_4
            try clear hcz11_5
            try clear hcz12_0
            try clear hcz12_1
            try clear hcz12_2
            try clear hcz12_3
            try clear hcz12_4
            try clear hcz12_5
            try clear hcz16_0
            try clear hcz16_1
            try clear hcz16_2
            try clear hcz16_3
            try clear hcz16_4
            try clear hcz16_5
            try clear hcz17_0
            try clear hcz17_1
            try clear hcz17_2
            try clear hcz17_3
            try clear hcz17_4
            try clear hcz17_5
            try clear hcz21_0
            try clear hcz21_1
            try clear hcz21_2
            try clear hcz21_3
            try clear hcz21_4
            try clear hcz21_5
            try clear hcz24_0
            try clear hcz24_1
            try clear hcz24_2
            try clear hcz29_0
            try clear hcz29_1
            try clear hcz29_2
            try clear hcz31_0
            try clear hcz31_1
            try clear hcz31_2
            try clear hcz39_0
            try clear hcz39_1
            try clear hcz39_2
            try clear hcz39_3
            try clear hcz39_4
            try clear hcz39_5
            try clear hcz40_0
            try clear hcz40_1
            try clear hcz40_2
            try clear hcz42_0
            try clear hcz42_1
            try clear hcz42_2
            try clear hcz42_3
            try clear hcz42_4
            try clear hcz42_5
            try clear hcz43_0
            try clear hcz43_1
            try clear hcz43_2
            try clear hcz45_0
            try clear hcz45_1
            try clear hcz45_2
            try clear hcz45_3
            try clear hcz45_4
            try clear hcz45_5
            try clear hcz46_0
            try clear hcz46_1
            try clear hcz46_2
            try clear hcz48_0
            try clear hcz48_1
            try clear hcz48_2
            try clear hcz48_3
            try clear hcz48_4
            try clear hcz48_5
            try clear hcz49_0
            try clear hcz49_1
            try clear hcz49_2
            try clear hcz49_3
            try clear hcz49_4
            try clear hcz49_5
            try clear hcz7_0
            try clear hcz7_1
            try clear hcz7_2
            try clear hcz7_3
            try clear hcz7_4
            try clear hcz7_5
            try clear hfz11_0
            try clear hfz11_1
            try clear hfz11_2
            try clear hfz11_3
            try clear hfz11_4
            try clear hfz11_5
            try clear hfz12_0
            try clear hfz12_1
            try clear hfz12_2
            try clear hfz12_3
            try clear hfz12_4
            try clear hfz12_5
            try clear hfz16_0
            try clear hfz16_1
            try clear hfz16_2
            try clear hfz16_3
            try clear hfz16_4
            try clear hfz16_5
            try clear hfz17_0
            try clear hfz17_1
            try clear hfz17_2
            try clear hfz17_3
            try clear hfz17_4
            try clear hfz17_5
            try clear hfz21_0
            try clear hfz21_1
            try clear hfz21_2
            try clear hfz21_3
            try clear hfz21_4
            try clear hfz21_5
            try clear hfz24_0
            try clear hfz24_1
            try clear hfz24_2
            try clear hfz29_0
            try clear hfz29_1
            try clear hfz29_2
            try clear hfz31_0
            try clear hfz31_1
            try clear hfz31_2
            try clear hfz39_0
            try clear hfz39_1
            try clear hfz39_2
            try clear hfz39_3
            try clear hfz39_4
            try clear hfz39_5
            try clear hfz40_0
            try clear hfz40_1
            try clear hfz40_2
            try clear hfz42_0
            try clear hfz42_1
            try clear hfz42_2
            try clear hfz42_3
            try clear hfz42_4
            try clear hfz42_5
            try clear hfz43_0
            try clear hfz43_1
            try clear hfz43_2
            try clear hfz45_0
            try clear hfz45_1
            try clear hfz45_2
            try clear hfz45_3
            try clear hfz45_4
            try clear hfz45_5
            try clear hfz46_0
            try clear hfz46_1
            try clear hfz46_2
            try clear hfz48_0
            try clear hfz48_1
            try clear hfz48_2
            try clear hfz48_3
            try clear hfz48_4
            try clear hfz48_5
            try clear hfz49_0
            try clear hfz49_1
            try clear hfz49_2
            try clear hfz49_3
            try clear hfz49_4
            try clear hfz49_5
            try clear hfz7_0
            try clear hfz7_1
            try clear hfz7_2
            try clear hfz7_3
            try clear hfz7_4
            try clear hfz7_5
            try clear hx114_0
            try clear hx114_1
            try clear hx114_2
            try clear hx118_0
            try clear hx118_1
            try clear hx118_2
            try clear hx119_0
            try clear hx119_1
            try clear hx119_2
            try clear p1
            try clear p11
            try clear p114
            try clear p118
            try clear p119
            try clear p2
            try clear q1
            try clear q11
            try clear q114
            try clear q118
            try clear q119
            obtain ⟨x9_3, rfl, HA, HK3, BK110, HB⟩ := hrel
            cases gk with
            | zero => exact absurd HA.out (by simp [helioscoperef01_Check.l2])
            | succ k3 =>
             have H := HA.out
             clear HA
             simp only [helioscoperef01_Check.l2] at H
             by_cases c50 : x9_3 < (l0_5.length : Int)
             ·
              rw [if_pos c50] at H
              have c50b0 : decide (x9_3 < (l0_5.length : Int)) = true := decide_eq_true c50
              clear c50
              by_cases c51 : 0 ≤ x9_3
              ·
               rw [if_pos c51] at H
               have c51b0 : decide (0 ≤ x9_3) = true := decide_eq_true c51
               clear c51
               have HC52 := Aside0.mk H
               clear H
               have hcz53_0 : wr.cell? ⟨gb110, 0, none⟩ = some (.string a0_0) := (blk_cell BK110.out 0).trans rfl
               have hcz53_1 : wr.cell? ⟨gb110, 1, none⟩ = some (.int .i64 a0_1) := (blk_cell BK110.out 1).trans rfl
               have hcz53_2 : wr.cell? ⟨gb110, 2, none⟩ = some (.int .i64 a0_2) := (blk_cell BK110.out 2).trans rfl
               have hcz53_3 : wr.cell? ⟨gb110, 3, none⟩ = some (.int .i64 a0_3) := (blk_cell BK110.out 3).trans rfl
               have hcz53_4 : wr.cell? ⟨gb110, 4, none⟩ = some (.slice A0_4 l0_4.length c0_4) := (blk_cell BK110.out 4).trans rfl
               have hcz53_5 : wr.cell? ⟨gb110, 5, none⟩ = some (.slice A0_5 l0_5.length c0_5) := (blk_cell BK110.out 5).trans rfl
               have hfz53_0 := blk_frozen BK110.out 0
               have hfz53_1 := blk_frozen BK110.out 1
               have hfz53_2 := blk_frozen BK110.out 2
               have hfz53_3 := blk_frozen BK110.out 3
               have hfz53_4 := blk_frozen BK110.out 4
               have hfz53_5 := blk_frozen BK110.out 5
               have p120 : 0 ≤ (x9_3 : Int) := of_decide_eq_true (by first | (with_reducible assumption) | assumption)
               have q120 : x9_3 < (l0_5.length : Int) := of_decide_eq_true (by first | (with_reducible assumption) | assumption)
               obtain ⟨ad120, e120, hx120_0, hx120_1, hx120_2⟩ := at_T52 HR0_5.out x9_3 p120 q120
               cases e120
               replace hx120_0 := (HB.out.cell (World.block_lt_of_cell? w _ hx120_0)).trans hx120_0
               replace hx120_1 := (HB.out.cell (World.block_lt_of_cell? w _ hx120_1)).trans hx120_1
               replace hx120_2 := (HB.out.cell (World.block_lt_of_cell? w _ hx120_2)).trans hx120_2
               replace p120 := eq_true p120
               replace q120 := eq_true q120
               go_upto_region 27 with (first | ((with_reducible refine gate_dst (N := 10) rfl ?_); refine box_event ?hg (N := 10) ?hd (cs := #[.int .i64 0, .int .i64 0, .bool false]) (t := 52) ?hr ?_; (case hd => rfl); (case hg => rfl); (case hr => first | (go_simp; done) | (go_simp; rfl)); intro gb121 hg w54 hbox hb; have n0_ := Aside0.mk (blk_below (g := gb110) (o := .cells #[.string a0_0, .int .i64 a0_1, .int .i64 a0_2, .int .i64 a0_3, .slice A0_4 l0_4.length c0_4, .slice (some ad120) l0_5.length c0_5] 27 (0, 0)) (by (with_reducible repeat (first | refine blk_drewN ?_ _ | refine blk_drew ?_ | refine blk_alloc ?_ _)); exact BK110.out) hb); have n1_ := Aside0.mk (below_step (by repeat (first | (with_reducible first | exact HB.out | apply below_alloc | apply pw_below_drewN | apply below_drew1 | refine below_set ?_ GE110.out) | exact HB.out)) hb); have n2_ := Aside0.mk (hbox); have n3_ := Aside0.mk ((by rw [hg]; exact (below_size (by repeat (first | (with_reducible first | exact HB.out | apply below_alloc | apply pw_below_drewN | apply below_drew1 | refine below_set ?_ GE110.out) | exact HB.out))) : w.heap.size ≤ gb121)); have n4_ := Aside0.mk ((by rw [hg]; exact (below_size (by repeat (first | (with_reducible first | exact HB.out | apply below_alloc | apply pw_below_drewN | apply below_drew1 | refine below_set ?_ GE110.out) | exact HB.out))) : w.heap.size ≤ gb121)); have n5_ := Aside0.mk ((by rw [hg]; exact Nat.ne_of_lt (blk_lt (g := gb110) (o := .cells #[.string a0_0, .int .i64 a0_1, .int .i64 a0_2, .int .i64 a0_3, .slice A0_4 l0_4.length c0_4, .slice (some ad120) l0_5.length c0_5] 27 (0, 0)) (by (with_reducible repeat (first | refine blk_drewN ?_ _ | refine blk_drew ?_ | refine blk_alloc ?_ _)); exact BK110.out)) : gb110 ≠ gb121)); have n6_ := Aside0.mk ((by rw [hg]; exact Nat.ne_of_gt (blk_lt (g := gb110) (o := .cells #[.string a0_0, .int .i64 a0_1, .int .i64 a0_2, .int .i64 a0_3, .slice A0_4 l0_4.length c0_4, .slice (some ad120) l0_5.length c0_5] 27 (0, 0)) (by (with_reducible repeat (first | refine blk_drewN ?_ _ | refine blk_drew ?_ | refine blk_alloc ?_ _)); exact BK110.out)) : gb121 ≠ gb110)); clear BK110; clear HB; have BK110 := n0_; have HB := n1_; have BK121 := n2_; have GW121 := n3_; have GE121 := n4_; have NB110_121 := n5_; have NB121_110 := n6_; clear n0_ n1_ n2_ n3_ n4_ n5_ n6_; clear hb hbox hg; have hnb55 := NB121_110.out; have hnc55 := NB110_121.out; have hcz56_0 : w54.cell? ⟨gb121, 0, none⟩ = some (.int .i64 0) := (blk_cell BK121.out 0).trans rfl; have hcz56_1 : w54.cell? ⟨gb121, 1, none⟩ = some (.int .i64 0) := (blk_cell BK121.out 1).trans rfl; have hcz56_2 : w54.cell? ⟨gb121, 2, none⟩ = some (.bool false) := (blk_cell BK121.out 2).trans rfl; have hfz56_0 := blk_frozen BK121.out 0; have hfz56_1 := blk_frozen BK121.out 1; have hfz56_2 := blk_frozen BK121.out 2))
               repeat (go_quiet (first | ((with_reducible refine gate_dst (N := 10) rfl ?_); refine box_event ?hg (N := 10) ?hd (cs := #[.int .i64 0, .int .i64 0, .bool false]) (t := 52) ?hr ?_; (case hd => rfl); (case hg => rfl); (case hr => first | (go_simp; done) | (go_simp; rfl)); intro gb121 hg w54 hbox hb; have n0_ := Aside0.mk (blk_below (g := gb110) (o := .cells #[.string a0_0, .int .i64 a0_1, .int .i64 a0_2, .int .i64 a0_3, .slice A0_4 l0_4.length c0_4, .slice (some ad120) l0_5.length c0_5] 27 (0, 0)) (by (with_reducible repeat (first | refine blk_drewN ?_ _ | refine blk_drew ?_ | refine blk_alloc ?_ _)); exact BK110.out) hb); have n1_ := Aside0.mk (below_step (by repeat (first | (with_reducible first | exact HB.out | apply below_alloc | apply pw_below_drewN | apply below_drew1 | refine below_set ?_ GE110.out) | exact HB.out)) hb); have n2_ := Aside0.mk (hbox); have n3_ := Aside0.mk ((by rw [hg]; exact (below_size (by repeat (first | (with_reducible first | exact HB.out | apply below_alloc | apply pw_below_drewN | apply below_drew1 | refine below_set ?_ GE110.out) | exact HB.out))) : w.heap.size ≤ gb121)); have n4_ := Aside0.mk ((by rw [hg]; exact (below_size (by repeat (first | (with_reducible first | exact HB.out | apply below_alloc | apply pw_below_drewN | apply below_drew1 | refine below_set ?_ GE110.out) | exact HB.out))) : w.heap.size ≤ gb121)); have n5_ := Aside0.mk ((by rw [hg]; exact Nat.ne_of_lt (blk_lt (g := gb110) (o := .cells #[.string a0_0, .int .i64 a0_1, .int .i64 a0_2, .int .i64 a0_3, .slice A0_4 l0_4.length c0_4, .slice (some ad120) l0_5.length c0_5] 27 (0, 0)) (by (with_reducible repeat (first | refine blk_drewN ?_ _ | refine blk_drew ?_ | refine blk_alloc ?_ _)); exact BK110.out)) : gb110 ≠ gb121)); have n6_ := Aside0.mk ((by rw [hg]; exact Nat.ne_of_gt (blk_lt (g := gb110) (o := .cells #[.string a0_0, .int .i64 a0_1, .int .i64 a0_2, .int .i64 a0_3, .slice A0_4 l0_4.length c0_4, .slice (some ad120) l0_5.length c0_5] 27 (0, 0)) (by (with_reducible repeat (first | refine blk_drewN ?_ _ | refine blk_drew ?_ | refine blk_alloc ?_ _)); exact BK110.out)) : gb121 ≠ gb110)); clear BK110; clear HB; have BK110 := n0_; have HB := n1_; have BK121 := n2_; have GW121 := n3_; have GE121 := n4_; have NB110_121 := n5_; have NB121_110 := n6_; clear n0_ n1_ n2_ n3_ n4_ n5_ n6_; clear hb hbox hg; have hnb55 := NB121_110.out; have hnc55 := NB110_121.out; have hcz56_0 : w54.cell? ⟨gb121, 0, none⟩ = some (.int .i64 0) := (blk_cell BK121.out 0).trans rfl; have hcz56_1 : w54.cell? ⟨gb121, 1, none⟩ = some (.int .i64 0) := (blk_cell BK121.out 1).trans rfl; have hcz56_2 : w54.cell? ⟨gb121, 2, none⟩ = some (.bool false) := (blk_cell BK121.out 2).trans rfl; have hfz56_0 := blk_frozen BK121.out 0; have hfz56_1 := blk_frozen BK121.out 1; have hfz56_2 := blk_frozen BK121.out 2)); go_upto_region 27 with (first | ((with_reducible refine gate_dst (N := 10) rfl ?_); refine box_event ?hg (N := 10) ?hd (cs := #[.int .i64 0, .int .i64 0, .bool false]) (t := 52) ?hr ?_; (case hd => rfl); (case hg => rfl); (case hr => first | (go_simp; done) | (go_simp; rfl)); intro gb121 hg w54 hbox hb; have n0_ := Aside0.mk (blk_below (g := gb110) (o := .cells #[.string a0_0, .int .i64 a0_1, .int .i64 a0_2, .int .i64 a0_3, .slice A0_4 l0_4.length c0_4, .slice (some ad120) l0_5.length c0_5] 27 (0, 0)) (by (with_reducible repeat (first | refine blk_drewN ?_ _ | refine blk_drew ?_ | refine blk_alloc ?_ _)); exact BK110.out) hb); have n1_ := Aside0.mk (below_step (by repeat (first | (with_reducible first | exact HB.out | apply below_alloc | apply pw_below_drewN | apply below_drew1 | refine below_set ?_ GE110.out) | exact HB.out)) hb); have n2_ := Aside0.mk (hbox); have n3_ := Aside0.mk ((by rw [hg]; exact (below_size (by repeat (first | (with_reducible first | exact HB.out | apply below_alloc | apply pw_below_drewN | apply below_drew1 | refine below_set ?_ GE110.out) | exact HB.out))) : w.heap.size ≤ gb121)); have n4_ := Aside0.mk ((by rw [hg]; exact (below_size (by repeat (first | (with_reducible first | exact HB.out | apply below_alloc | apply pw_below_drewN | apply below_drew1 | refine below_set ?_ GE110.out) | exact HB.out))) : w.heap.size ≤ gb121)); have n5_ := Aside0.mk ((by rw [hg]; exact Nat.ne_of_lt (blk_lt (g := gb110) (o := .cells #[.string a0_0, .int .i64 a0_1, .int .i64 a0_2, .int .i64 a0_3, .slice A0_4 l0_4.length c0_4, .slice (some ad120) l0_5.length c0_5] 27 (0, 0)) (by (with_reducible repeat (first | refine blk_drewN ?_ _ | refine blk_drew ?_ | refine blk_alloc ?_ _)); exact BK110.out)) : gb110 ≠ gb121)); have n6_ := Aside0.mk ((by rw [hg]; exact Nat.ne_of_gt (blk_lt (g := gb110) (o := .cells #[.string a0_0, .int .i64 a0_1, .int .i64 a0_2, .int .i64 a0_3, .slice A0_4 l0_4.length c0_4, .slice (some ad120) l0_5.length c0_5] 27 (0, 0)) (by (with_reducible repeat (first | refine blk_drewN ?_ _ | refine blk_drew ?_ | refine blk_alloc ?_ _)); exact BK110.out)) : gb121 ≠ gb110)); clear BK110; clear HB; have BK110 := n0_; have HB := n1_; have BK121 := n2_; have GW121 := n3_; have GE121 := n4_; have NB110_121 := n5_; have NB121_110 := n6_; clear n0_ n1_ n2_ n3_ n4_ n5_ n6_; clear hb hbox hg; have hnb55 := NB121_110.out; have hnc55 := NB110_121.out; have hcz56_0 : w54.cell? ⟨gb121, 0, none⟩ = some (.int .i64 0) := (blk_cell BK121.out 0).trans rfl; have hcz56_1 : w54.cell? ⟨gb121, 1, none⟩ = some (.int .i64 0) := (blk_cell BK121.out 1).trans rfl; have hcz56_2 : w54.cell? ⟨gb121, 2, none⟩ = some (.bool false) := (blk_cell BK121.out 2).trans rfl; have hfz56_0 := blk_frozen BK121.out 0; have hfz56_1 := blk_frozen BK121.out 1; have hfz56_2 := blk_frozen BK121.out 2)))
               (try simp only [Act.put, List.setIfInBounds_toArray, List.set_cons_zero, List.set_cons_succ])
               go_cut [109] (fun v109 wc => ∃ (kq : Nat) (x109_51 : Bool), v109 = .bool x109_51 ∧ Aside0 (helioscoperef01_Check.j5 kq x9_3 x109_51 a0_0 a0_1 a0_2 a0_3 l0_4 l0_5 ((rd_T52 l0_5 x9_3).f0) ((rd_T52 l0_5 x9_3).f1) ((rd_T52 l0_5 x9_3).f2) = some (r1, r2, r3)) ∧ Aside0 (kq ≤ k3) ∧ Aside0 (wc.heap[gb110]? = some (.cells #[.string a0_0, .int .i64 a0_1, .int .i64 a0_2, .int .i64 a0_3, (.slice A0_4 l0_4.length c0_4), (.slice (some ad120) l0_5.length c0_5)] 27 (0, 0))) ∧ Aside0 (wc.heap[gb121]? = some (.cells #[.int .i64 ((rd_T52 l0_5 x9_3).f0), .int .i64 ((rd_T52 l0_5 x9_3).f1), .bool ((rd_T52 l0_5 x9_3).f2)] 52 (0, 0))) ∧ Aside0 (Below w.heap.size w wc))
               case first =>
                have H := HC52.out
                clear HC52
                replace H := Option.bind_eq_some_iff.mp H
                obtain ⟨t122, A570, H⟩ := H
                replace H : (if t122 = true then ((helioscoperef01_index.f a0_0 a0_1 a0_2 a0_3 l0_4 l0_5 ((rd_T52 l0_5 x9_3).f1)).bind fun t123 => (helioscoperef01_Check.j5 k3 x9_3 (!t123) a0_0 a0_1 a0_2 a0_3 l0_4 l0_5 ((rd_T52 l0_5 x9_3).f0) ((rd_T52 l0_5 x9_3).f1) ((rd_T52 l0_5 x9_3).f2))) else (helioscoperef01_Check.j5 k3 x9_3 true a0_0 a0_1 a0_2 a0_3 l0_4 l0_5 ((rd_T52 l0_5 x9_3).f0) ((rd_T52 l0_5 x9_3).f1) ((rd_T52 l0_5 x9_3).f2))) = some (r1, r2, r3) := H
                have A57 := Aside0.mk A570
                clear A570
                by_cases c58 : t122 = true
                ·
                 subst c58
                 have H1 : ((helioscoperef01_index.f a0_0 a0_1 a0_2 a0_3 l0_4 l0_5 ((rd_T52 l0_5 x9_3).f1)).bind fun t123 => (helioscoperef01_Check.j5 k3 x9_3 (!t123) a0_0 a0_1 a0_2 a0_3 l0_4 l0_5 ((rd_T52 l0_5 x9_3).f0) ((rd_T52 l0_5 x9_3).f1) ((rd_T52 l0_5 x9_3).f2))) = some (r1, r2, r3) := by rw [if_pos rfl] at H; exact H
                 clear H
                 have H := H1
                 clear H1
                 replace H := Option.bind_eq_some_iff.mp H
                 obtain ⟨t123, A590, H⟩ := H
                 replace H : (helioscoperef01_Check.j5 k3 x9_3 (!t123) a0_0 a0_1 a0_2 a0_3 l0_4 l0_5 ((rd_T52 l0_5 x9_3).f0) ((rd_T52 l0_5 x9_3).f1) ((rd_T52 l0_5 x9_3).f2)) = some (r1, r2, r3) := H
                 have A59 := Aside0.mk A590
                 clear A590
                 have H' := Aside0.mk H
                 clear H
                 have hnb60 := NB110_121.out
                 have hnc60 := NB121_110.out
                 have hcz61_0 : w54.cell? ⟨gb110, 0, none⟩ = some (.string a0_0) := (blk_cell BK110.out 0).trans rfl
                 have hcz61_1 : w54.cell? ⟨gb110, 1, none⟩ = some (.int .i64 a0_1) := (blk_cell BK110.out 1).trans rfl
                 have hcz61_2 : w54.cell? ⟨gb110, 2, none⟩ = some (.int .i64 a0_2) := (blk_cell BK110.out 2).trans rfl
                 have hcz61_3 : w54.cell? ⟨gb110, 3, none⟩ = some (.int .i64 a0_3) := (blk_cell BK110.out 3).trans rfl
                 have hcz61_4 : w54.cell? ⟨gb110, 4, none⟩ = some (.slice A0_4 l0_4.length c0_4) := (blk_cell BK110.out 4).trans rfl
                 have hcz61_5 : w54.cell? ⟨gb110, 5, none⟩ = some (.slice (some ad120) l0_5.length c0_5) := (blk_cell BK110.out 5).trans rfl
                 have hfz61_0 := blk_frozen BK110.out 0
                 have hfz61_1 := blk_frozen BK110.out 1
                 have hfz61_2 := blk_frozen BK110.out 2
                 have hfz61_3 := blk_frozen BK110.out 3
                 have hfz61_4 := blk_frozen BK110.out 4
                 have hfz61_5 := blk_frozen BK110.out 5
                 have hcz62_0 : w54.cell? ⟨gb121, 0, none⟩ = some (.int .i64 0) := (blk_cell BK121.out 0).trans rfl
                 have hcz62_1 : w54.cell? ⟨gb121, 1, none⟩ = some (.int .i64 0) := (blk_cell BK121.out 1).trans rfl
                 have hcz62_2 : w54.cell? ⟨gb121, 2, none⟩ = some (.bool false) := (blk_cell BK121.out 2).trans rfl
                 have hfz62_0 := blk_frozen BK121.out 0
                 have hfz62_1 := blk_frozen BK121.out 1
                 have hfz62_2 := blk_frozen BK121.out 2
                 go_wp2_with (first | (go_at_call 86; (with_reducible refine (helioscoperef01_index.calls a0_0 a0_1 a0_2 a0_3 _ _ l0_4 _ _ l0_5 ((rd_T52 l0_5 x9_3).f0) true _ ?side1 ?side2 ?side3 ?side4 A57.out).mono ?_); (case side1 => exact Kd.C_below HR0_4.out (by repeat (first | (with_reducible first | exact HB.out | apply below_alloc | apply pw_below_drewN | apply below_drew1 | refine below_set ?_ GE110.out | refine below_set ?_ GE121.out) | exact HB.out))); (case side2 => exact HC0_4.out); (case side3 => exact Kd.C_below HR0_5.out (by repeat (first | (with_reducible first | exact HB.out | apply below_alloc | apply pw_below_drewN | apply below_drew1 | refine below_set ?_ GE110.out | refine below_set ?_ GE121.out) | exact HB.out))); (case side4 => exact HC0_5.out); rintro e w63 ⟨rfl, hb⟩; have n0_ := Aside0.mk (blk_below (g := gb110) (o := .cells #[.string a0_0, .int .i64 a0_1, .int .i64 a0_2, .int .i64 a0_3, .slice A0_4 l0_4.length c0_4, .slice (some ad120) l0_5.length c0_5] 27 (0, 0)) (by (with_reducible repeat (first | refine blk_drewN ?_ _ | refine blk_drew ?_ | refine blk_alloc ?_ _)); refine blk_far ?_ NB110_121.out _; (with_reducible repeat (first | refine blk_drewN ?_ _ | refine blk_drew ?_ | refine blk_alloc ?_ _)); refine blk_far ?_ NB110_121.out _; (with_reducible repeat (first | refine blk_drewN ?_ _ | refine blk_drew ?_ | refine blk_alloc ?_ _)); refine blk_far ?_ NB110_121.out _; (with_reducible repeat (first | refine blk_drewN ?_ _ | refine blk_drew ?_ | refine blk_alloc ?_ _)); exact BK110.out) hb); have n1_ := Aside0.mk (blk_below (g := gb121) (o := .cells #[.int .i64 ((rd_T52 l0_5 x9_3).f0), .int .i64 ((rd_T52 l0_5 x9_3).f1), .bool ((rd_T52 l0_5 x9_3).f2)] 52 (0, 0)) (by (with_reducible repeat (first | refine blk_drewN ?_ _ | refine blk_drew ?_ | refine blk_alloc ?_ _)); refine blk_put (cs := #[.int .i64 ((rd_T52 l0_5 x9_3).f0), .int .i64 ((rd_T52 l0_5 x9_3).f1), .bool false]) ?_ 2 _ rfl; (with_reducible repeat (first | refine blk_drewN ?_ _ | refine blk_drew ?_ | refine blk_alloc ?_ _)); refine blk_put (cs := #[.int .i64 ((rd_T52 l0_5 x9_3).f0), .int .i64 0, .bool false]) ?_ 1 _ rfl; (with_reducible repeat (first | refine blk_drewN ?_ _ | refine blk_drew ?_ | refine blk_alloc ?_ _)); refine blk_put (cs := #[.int .i64 0, .int .i64 0, .bool false]) ?_ 0 _ rfl; (with_reducible repeat (first | refine blk_drewN ?_ _ | refine blk_drew ?_ | refine blk_alloc ?_ _)); exact BK121.out) hb); have n2_ := Aside0.mk (below_step (by repeat (first | (with_reducible first | exact HB.out | apply below_alloc | apply pw_below_drewN | apply below_drew1 | refine below_set ?_ GE110.out | refine below_set ?_ GE121.out) | exact HB.out)) hb); clear BK110; clear BK121; clear HB; have BK110 := n0_; have BK121 := n1_; have HB := n2_; clear n0_ n1_ n2_; (try clear hb); (try clear hb2); (try clear hk); (try clear hi); have hcz64_0 : w63.cell? ⟨gb110, 0, none⟩ = some (.string a0_0) := (blk_cell BK110.out 0).trans rfl; have hcz64_1 : w63.cell? ⟨gb110, 1, none⟩ = some (.int .i64 a0_1) := (blk_cell BK110.out 1).trans rfl; have hcz64_2 : w63.cell? ⟨gb110, 2, none⟩ = some (.int .i64 a0_2) := (blk_cell BK110.out 2).trans rfl; have hcz64_3 : w63.cell? ⟨gb110, 3, none⟩ = some (.int .i64 a0_3) := (blk_cell BK110.out 3).trans rfl; have hcz64_4 : w63.cell? ⟨gb110, 4, none⟩ = some (.slice A0_4 l0_4.length c0_4) := (blk_cell BK110.out 4).trans rfl; have hcz64_5 : w63.cell? ⟨gb110, 5, none⟩ = some (.slice (some ad120) l0_5.length c0_5) := (blk_cell BK110.out 5).trans rfl; have hfz64_0 := blk_frozen BK110.out 0; have hfz64_1 := blk_frozen BK110.out 1; have hfz64_2 := blk_frozen BK110.out 2; have hfz64_3 := blk_frozen BK110.out 3; have hfz64_4 := blk_frozen BK110.out 4; have hfz64_5 := blk_frozen BK110.out 5; have hcz65_0 : w63.cell? ⟨gb121, 0, none⟩ = some (.int .i64 ((rd_T52 l0_5 x9_3).f0)) := (blk_cell BK121.out 0).trans rfl; have hcz65_1 : w63.cell? ⟨gb121, 1, none⟩ = some (.int .i64 ((rd_T52 l0_5 x9_3).f1)) := (blk_cell BK121.out 1).trans rfl; have hcz65_2 : w63.cell? ⟨gb121, 2, none⟩ = some (.bool ((rd_T52 l0_5 x9_3).f2)) := (blk_cell BK121.out 2).trans rfl; have hfz65_0 := blk_frozen BK121.out 0; have hfz65_1 := blk_frozen BK121.out 1; have hfz65_2 := blk_frozen BK121.out 2) | (go_at_call 86; (with_reducible refine (helioscoperef01_index.calls a0_0 a0_1 a0_2 a0_3 _ _ l0_4 _ _ l0_5 ((rd_T52 l0_5 x9_3).f1) t123 _ ?side1 ?side2 ?side3 ?side4 A59.out).mono ?_); (case side1 => repeat (first | exact (Kd.C_below HR0_4.out HB.out) | (with_reducible refine Kd.C_alloc ?_ _) | (with_reducible refine Kd.C_drewN ?_ _) | (with_reducible refine Kd.C_drew ?_))); (case side2 => exact HC0_4.out); (case side3 => repeat (first | exact (Kd.C_below HR0_5.out HB.out) | (with_reducible refine Kd.C_alloc ?_ _) | (with_reducible refine Kd.C_drewN ?_ _) | (with_reducible refine Kd.C_drew ?_))); (case side4 => exact HC0_5.out); rintro e w66 ⟨rfl, hb⟩; have n0_ := Aside0.mk (blk_below (g := gb110) (o := .cells #[.string a0_0, .int .i64 a0_1, .int .i64 a0_2, .int .i64 a0_3, .slice A0_4 l0_4.length c0_4, .slice (some ad120) l0_5.length c0_5] 27 (0, 0)) (by (with_reducible repeat (first | refine blk_drewN ?_ _ | refine blk_drew ?_ | refine blk_alloc ?_ _)); exact BK110.out) hb); have n1_ := Aside0.mk (blk_below (g := gb121) (o := .cells #[.int .i64 ((rd_T52 l0_5 x9_3).f0), .int .i64 ((rd_T52 l0_5 x9_3).f1), .bool ((rd_T52 l0_5 x9_3).f2)] 52 (0, 0)) (by (with_reducible repeat (first | refine blk_drewN ?_ _ | refine blk_drew ?_ | refine blk_alloc ?_ _)); exact BK121.out) hb); have n2_ := Aside0.mk (below_step (by repeat (first | (with_reducible first | exact HB.out | apply below_alloc | apply pw_below_drewN | apply below_drew1 | refine below_set ?_ GE110.out | refine below_set ?_ GE121.out) | exact HB.out)) hb); clear BK110; clear BK121; clear HB; have BK110 := n0_; have BK121 := n1_; have HB := n2_; clear n0_ n1_ n2_; (try clear hb); (try clear hb2); (try clear hk); (try clear hi)))
                 repeat (go_quiet (first | (go_at_call 86; (with_reducible refine (helioscoperef01_index.calls a0_0 a0_1 a0_2 a0_3 _ _ l0_4 _ _ l0_5 ((rd_T52 l0_5 x9_3).f0) true _ ?side1 ?side2 ?side3 ?side4 A57.out).mono ?_); (case side1 => exact Kd.C_below HR0_4.out (by repeat (first | (with_reducible first | exact HB.out | apply below_alloc | apply pw_below_drewN | apply below_drew1 | refine below_set ?_ GE110.out | refine below_set ?_ GE121.out) | exact HB.out))); (case side2 => exact HC0_4.out); (case side3 => exact Kd.C_below HR0_5.out (by repeat (first | (with_reducible first | exact HB.out | apply below_alloc | apply pw_below_drewN | apply below_drew1 | refine below_set ?_ GE110.out | refine below_set ?_ GE121.out) | exact HB.out))); (case side4 => exact HC0_5.out); rintro e w63 ⟨rfl, hb⟩; have n0_ := Aside0.mk (blk_below (g := gb110) (o := .cells #[.string a0_0, .int .i64 a0_1, .int .i64 a0_2, .int .i64 a0_3, .slice A0_4 l0_4.length c0_4, .slice (some ad120) l0_5.length c0_5] 27 (0, 0)) (by (with_reducible repeat (first | refine blk_drewN ?_ _ | refine blk_drew ?_ | refine blk_alloc ?_ _)); refine blk_far ?_ NB110_121.out _; (with_reducible repeat (first | refine blk_drewN ?_ _ | refine blk_drew ?_ | refine blk_alloc ?_ _)); refine blk_far ?_ NB110_121.out _; (with_reducible repeat (first | refine blk_drewN ?_ _ | refine blk_drew ?_ | refine blk_alloc ?_ _)); refine blk_far ?_ NB110_121.out _; (with_reducible repeat (first | refine blk_drewN ?_ _ | refine blk_drew ?_ | refine blk_alloc ?_ _)); exact BK110.out) hb); have n1_ := Aside0.mk (blk_below (g := gb121) (o := .cells #[.int .i64 ((rd_T52 l0_5 x9_3).f0), .int .i64 ((rd_T52 l0_5 x9_3).f1), .bool ((rd_T52 l0_5 x9_3).f2)] 52 (0, 0)) (by (with_reducible repeat (first | refine blk_drewN ?_ _ | refine blk_drew ?_ | refine blk_alloc ?_ _)); refine blk_put (cs := #[.int .i64 ((rd_T52 l0_5 x9_3).f0), .int .i64 ((rd_T52 l0_5 x9_3).f1), .bool false]) ?_ 2 _ rfl; (with_reducible repeat (first | refine blk_drewN ?_ _ | refine blk_drew ?_ | refine blk_alloc ?_ _)); refine blk_put (cs := #[.int .i64 ((rd_T52 l0_5 x9_3).f0), .int .i64 0, .bool false]) ?_ 1 _ rfl; (with_reducible repeat (first | refine blk_drewN ?_ _ | refine blk_drew ?_ | refine blk_alloc ?_ _)); refine blk_put (cs := #[.int .i64 0, .int .i64 0, .bool false]) ?_ 0 _ rfl; (with_reducible repeat (first | refine blk_drewN ?_ _ | refine blk_drew ?_ | refine blk_alloc ?_ _)); exact BK121.out) hb); have n2_ := Aside0.mk (below_step (by repeat (first | (with_reducible first | exact HB.out | apply below_alloc | apply pw_below_drewN | apply below_drew1 | refine below_set ?_ GE110.out | refine below_set ?_ GE121.out) | exact HB.out)) hb); clear BK110; clear BK121; clear HB; have BK110 := n0_; have BK121 := n1_; have HB := n2_; clear n0_ n1_ n2_; (try clear hb); (try clear hb2); (try clear hk); (try clear hi); have hcz64_0 : w63.cell? ⟨gb110, 0, none⟩ = some (.string a0_0) := (blk_cell BK110.out 0).trans rfl; have hcz64_1 : w63.cell? ⟨gb110, 1, none⟩ = some (.int .i64 a0_1) := (blk_cell BK110.out 1).trans rfl; have hcz64_2 : w63.cell? ⟨gb110, 2, none⟩ = some (.int .i64 a0_2) := (blk_cell BK110.out 2).trans rfl; have hcz64_3 : w63.cell? ⟨gb110, 3, none⟩ = some (.int .i64 a0_3) := (blk_cell BK110.out 3).trans rfl; have hcz64_4 : w63.cell? ⟨gb110, 4, none⟩ = some (.slice A0_4 l0_4.length c0_4) := (blk_cell BK110.out 4).trans rfl; have hcz64_5 : w63.cell? ⟨gb110, 5, none⟩ = some (.slice (some ad120) l0_5.length c0_5) := (blk_cell BK110.out 5).trans rfl; have hfz64_0 := blk_frozen BK110.out 0; have hfz64_1 := blk_frozen BK110.out 1; have hfz64_2 := blk_frozen BK110.out 2; have hfz64_3 := blk_frozen BK110.out 3; have hfz64_4 := blk_frozen BK110.out 4; have hfz64_5 := blk_frozen BK110.out 5; have hcz65_0 : w63.cell? ⟨gb121, 0, none⟩ = some (.int .i64 ((rd_T52 l0_5 x9_3).f0)) := (blk_cell BK121.out 0).trans rfl; have hcz65_1 : w63.cell? ⟨gb121, 1, none⟩ = some (.int .i64 ((rd_T52 l0_5 x9_3).f1)) := (blk_cell BK121.out 1).trans rfl; have hcz65_2 : w63.cell? ⟨gb121, 2, none⟩ = some (.bool ((rd_T52 l0_5 x9_3).f2)) := (blk_cell BK121.out 2).trans rfl; have hfz65_0 := blk_frozen BK121.out 0; have hfz65_1 := blk_frozen BK121.out 1; have hfz65_2 := blk_frozen BK121.out 2) | (go_at_call 86; (with_reducible refine (helioscoperef01_index.calls a0_0 a0_1 a0_2 a0_3 _ _ l0_4 _ _ l0_5 ((rd_T52 l0_5 x9_3).f1) t123 _ ?side1 ?side2 ?side3 ?side4 A59.out).mono ?_); (case side1 => repeat (first | exact (Kd.C_below HR0_4.out HB.out) | (with_reducible refine Kd.C_alloc ?_ _) | (with_reducible refine Kd.C_drewN ?_ _) | (with_reducible refine Kd.C_drew ?_))); (case side2 => exact HC0_4.out); (case side3 => repeat (first | exact (Kd.C_below HR0_5.out HB.out) | (with_reducible refine Kd.C_alloc ?_ _) | (with_reducible refine Kd.C_drewN ?_ _) | (with_reducible refine Kd.C_drew ?_))); (case side4 => exact HC0_5.out); rintro e w66 ⟨rfl, hb⟩; have n0_ := Aside0.mk (blk_below (g := gb110) (o := .cells #[.string a0_0, .int .i64 a0_1, .int .i64 a0_2, .int .i64 a0_3, .slice A0_4 l0_4.length c0_4, .slice (some ad120) l0_5.length c0_5] 27 (0, 0)) (by (with_reducible repeat (first | refine blk_drewN ?_ _ | refine blk_drew ?_ | refine blk_alloc ?_ _)); exact BK110.out) hb); have n1_ := Aside0.mk (blk_below (g := gb121) (o := .cells #[.int .i64 ((rd_T52 l0_5 x9_3).f0), .int .i64 ((rd_T52 l0_5 x9_3).f1), .bool ((rd_T52 l0_5 x9_3).f2)] 52 (0, 0)) (by (with_reducible repeat (first | refine blk_drewN ?_ _ | refine blk_drew ?_ | refine blk_alloc ?_ _)); exact BK121.out) hb); have n2_ := Aside0.mk (below_step (by repeat (first | (with_reducible first | exact HB.out | apply below_alloc | apply pw_below_drewN | apply below_drew1 | refine below_set ?_ GE110.out | refine below_set ?_ GE121.out) | exact HB.out)) hb); clear BK110; clear BK121; clear HB; have BK110 := n0_; have BK121 := n1_; have HB := n2_; clear n0_ n1_ n2_; (try clear hb); (try clear hb2); (try clear hk); (try clear hi))); try go_wp2_with (first | (go_at_call 86; (with_reducible refine (helioscoperef01_index.calls a0_0 a0_1 a0_2 a0_3 _ _ l0_4 _ _ l0_5 ((rd_T52 l0_5 x9_3).f0) true _ ?side1 ?side2 ?side3 ?side4 A57.out).mono ?_); (case side1 => exact Kd.C_below HR0_4.out (by repeat (first | (with_reducible first | exact HB.out | apply below_alloc | apply pw_below_drewN | apply below_drew1 | refine below_set ?_ GE110.out | refine below_set ?_ GE121.out) | exact HB.out))); (case side2 => exact HC0_4.out); (case side3 => exact Kd.C_below HR0_5.out (by repeat (first | (with_reducible first | exact HB.out | apply below_alloc | apply pw_below_drewN | apply below_drew1 | refine below_set ?_ GE110.out | refine below_set ?_ GE121.out) | exact HB.out))); (case side4 => exact HC0_5.out); rintro e w63 ⟨rfl, hb⟩; have n0_ := Aside0.mk (blk_below (g := gb110) (o := .cells #[.string a0_0, .int .i64 a0_1, .int .i64 a0_2, .int .i64 a0_3, .slice A0_4 l0_4.length c0_4, .slice (some ad120) l0_5.length c0_5] 27 (0, 0)) (by (with_reducible repeat (first | refine blk_drewN ?_ _ | refine blk_drew ?_ | refine blk_alloc ?_ _)); refine blk_far ?_ NB110_121.out _; (with_reducible repeat (first | refine blk_drewN ?_ _ | refine blk_drew ?_ | refine blk_alloc ?_ _)); refine blk_far ?_ NB110_121.out _; (with_reducible repeat (first | refine blk_drewN ?_ _ | refine blk_drew ?_ | refine blk_alloc ?_ _)); refine blk_far ?_ NB110_121.out _; (with_reducible repeat (first | refine blk_drewN ?_ _ | refine blk_drew ?_ | refine blk_alloc ?_ _)); exact BK110.out) hb); have n1_ := Aside0.mk (blk_below (g := gb121) (o := .cells #[.int .i64 ((rd_T52 l0_5 x9_3).f0), .int .i64 ((rd_T52 l0_5 x9_3).f1), .bool ((rd_T52 l0_5 x9_3).f2)] 52 (0, 0)) (by (with_reducible repeat (first | refine blk_drewN ?_ _ | refine blk_drew ?_ | refine blk_alloc ?_ _)); refine blk_put (cs := #[.int .i64 ((rd_T52 l0_5 x9_3).f0), .int .i64 ((rd_T52 l0_5 x9_3).f1), .bool false]) ?_ 2 _ rfl; (with_reducible repeat (first | refine blk_drewN ?_ _ | refine blk_drew ?_ | refine blk_alloc ?_ _)); refine blk_put (cs := #[.int .i64 ((rd_T52 l0_5 x9_3).f0), .int .i64 0, .bool false]) ?_ 1 _ rfl; (with_reducible repeat (first | refine blk_drewN ?_ _ | refine blk_drew ?_ | refine blk_alloc ?_ _)); refine blk_put (cs := #[.int .i64 0, .int .i64 0, .bool false]) ?_ 0 _ rfl; (with_reducible repeat (first | refine blk_drewN ?_ _ | refine blk_drew ?_ | refine blk_alloc ?_ _)); exact BK121.out) hb); have n2_ := Aside0.mk (below_step (by repeat (first | (with_reducible first | exact HB.out | apply below_alloc | apply pw_below_drewN | apply below_drew1 | refine below_set ?_ GE110.out | refine below_set ?_ GE121.out) | exact HB.out)) hb); clear BK110; clear BK121; clear HB; have BK110 := n0_; have BK121 := n1_; have HB := n2_; clear n0_ n1_ n2_; (try clear hb); (try clear hb2); (try clear hk); (try clear hi); have hcz64_0 : w63.cell? ⟨gb110, 0, none⟩ = some (.string a0_0) := (blk_cell BK110.out 0).trans rfl; have hcz64_1 : w63.cell? ⟨gb110, 1, none⟩ = some (.int .i64 a0_1) := (blk_cell BK110.out 1).trans rfl; have hcz64_2 : w63.cell? ⟨gb110, 2, none⟩ = some (.int .i64 a0_2) := (blk_cell BK110.out 2).trans rfl; have hcz64_3 : w63.cell? ⟨gb110, 3, none⟩ = some (.int .i64 a0_3) := (blk_cell BK110.out 3).trans rfl; have hcz64_4 : w63.cell? ⟨gb110, 4, none⟩ = some (.slice A0_4 l0_4.length c0_4) := (blk_cell BK110.out 4).trans rfl; have hcz64_5 : w63.cell? ⟨gb110, 5, none⟩ = some (.slice (some ad120) l0_5.length c0_5) := (blk_cell BK110.out 5).trans rfl; have hfz64_0 := blk_frozen BK110.out 0; have hfz64_1 := blk_frozen BK110.out 1; have hfz64_2 := blk_frozen BK110.out 2; have hfz64_3 := blk_frozen BK110.out 3; have hfz64_4 := blk_frozen BK110.out 4; have hfz64_5 := blk_frozen BK110.out 5; have hcz65_0 : w63.cell? ⟨gb121, 0, none⟩ = some (.int .i64 ((rd_T52 l0_5 x9_3).f0)) := (blk_cell BK121.out 0).trans rfl; have hcz65_1 : w63.cell? ⟨gb121, 1, none⟩ = some (.int .i64 ((rd_T52 l0_5 x9_3).f1)) := (blk_cell BK121.out 1).trans rfl; have hcz65_2 : w63.cell? ⟨gb121, 2, none⟩ = some (.bool ((rd_T52 l0_5 x9_3).f2)) := (blk_cell BK121.out 2).trans rfl; have hfz65_0 := blk_frozen BK121.out 0; have hfz65_1 := blk_frozen BK121.out 1; have hfz65_2 := blk_frozen BK121.out 2) | (go_at_call 86; (with_reducible refine (helioscoperef01_index.calls a0_0 a0_1 a0_2 a0_3 _ _ l0_4 _ _ l0_5 ((rd_T52 l0_5 x9_3).f1) t123 _ ?side1 ?side2 ?side3 ?side4 A59.out).mono ?_); (case side1 => repeat (first | exact (Kd.C_below HR0_4.out HB.out) | (with_reducible refine Kd.C_alloc ?_ _) | (with_reducible refine Kd.C_drewN ?_ _) | (with_reducible refine Kd.C_drew ?_))); (case side2 => exact HC0_4.out); (case side3 => repeat (first | exact (Kd.C_below HR0_5.out HB.out) | (with_reducible refine Kd.C_alloc ?_ _) | (with_reducible refine Kd.C_drewN ?_ _) | (with_reducible refine Kd.C_drew ?_))); (case side4 => exact HC0_5.out); rintro e w66 ⟨rfl, hb⟩; have n0_ := Aside0.mk (blk_below (g := gb110) (o := .cells #[.string a0_0, .int .i64 a0_1, .int .i64 a0_2, .int .i64 a0_3, .slice A0_4 l0_4.length c0_4, .slice (some ad120) l0_5.length c0_5] 27 (0, 0)) (by (with_reducible repeat (first | refine blk_drewN ?_ _ | refine blk_drew ?_ | refine blk_alloc ?_ _)); exact BK110.out) hb); have n1_ := Aside0.mk (blk_below (g := gb121) (o := .cells #[.int .i64 ((rd_T52 l0_5 x9_3).f0), .int .i64 ((rd_T52 l0_5 x9_3).f1), .bool ((rd_T52 l0_5 x9_3).f2)] 52 (0, 0)) (by (with_reducible repeat (first | refine blk_drewN ?_ _ | refine blk_drew ?_ | refine blk_alloc ?_ _)); exact BK121.out) hb); have n2_ := Aside0.mk (below_step (by repeat (first | (with_reducible first | exact HB.out | apply below_alloc | apply pw_below_drewN | apply below_drew1 | refine below_set ?_ GE110.out | refine below_set ?_ GE121.out) | exact HB.out)) hb); clear BK110; clear BK121; clear HB; have BK110 := n0_; have BK121 := n1_; have HB := n2_; clear n0_ n1_ n2_; (try clear hb); (try clear hb2); (try clear hk); (try clear hi))))
                 go_meet
                 case rel => exact ⟨_, (!t123), (by first | rfl | (simp; done) | (simp [*]; done)), H', ⟨by have := HJ4.out; have := HK2.out; have := HK3.out; first | omega | exact Nat.le_refl _⟩, ⟨by (with_reducible repeat (first | refine blk_drewN ?_ _ | refine blk_drew ?_ | refine blk_alloc ?_ _)); exact BK110.out⟩, ⟨by (with_reducible repeat (first | refine blk_drewN ?_ _ | refine blk_drew ?_ | refine blk_alloc ?_ _)); exact BK121.out⟩, ⟨by repeat (first | (with_reducible first | exact HB.out | apply below_alloc | apply pw_below_drewN | apply below_drew1 | refine below_set ?_ GE110.out | refine below_set ?_ GE121.out) | exact HB.out)⟩⟩
                ·
                 replace c58 := Bool.eq_false_iff.mpr c58
                 subst c58
                 have H1 : (helioscoperef01_Check.j5 k3 x9_3 true a0_0 a0_1 a0_2 a0_3 l0_4 l0_5 ((rd_T52 l0_5 x9_3).f0) ((rd_T52 l0_5 x9_3).f1) ((rd_T52 l0_5 x9_3).f2)) = some (r1, r2, r3) := by rw [if_neg (show ¬ (false = true) by decide)] at H; exact H
                 clear H
                 have H := H1
                 clear H1
                 have H' := Aside0.mk H
                 clear H
                 have hnb67 := NB110_121.out
                 have hnc67 := NB121_110.out
                 have hcz68_0 : w54.cell? ⟨gb110, 0, none⟩ = some (.string a0_0) := (blk_cell BK110.out 0).trans rfl
                 have hcz68_1 : w54.cell? ⟨gb110, 1, none⟩ = some (.int .i64 a0_1) := (blk_cell BK110.out 1).trans rfl
                 have hcz68_2 : w54.cell? ⟨gb110, 2, none⟩ = some (.int .i64 a0_2) := (blk_cell BK110.out 2).trans rfl
                 have hcz68_3 : w54.cell? ⟨gb110, 3, none⟩ = some (.int .i64 a0_3) := (blk_cell BK110.out 3).trans rfl
                 have hcz68_4 : w54.cell? ⟨gb110, 4, none⟩ = some (.slice A0_4 l0_4.length c0_4) := (blk_cell BK110.out 4).trans rfl
                 have hcz68_5 : w54.cell? ⟨gb110, 5, none⟩ = some (.slice (some ad120) l0_5.length c0_5) := (blk_cell BK110.out 5).trans rfl
                 have hfz68_0 := blk_frozen BK110.out 0
                 have hfz68_1 := blk_frozen BK110.out 1
                 have hfz68_2 := blk_frozen BK110.out 2
                 have hfz68_3 := blk_frozen BK110.out 3
                 have hfz68_4 := blk_frozen BK110.out 4
                 have hfz68_5 := blk_frozen BK110.out 5
                 have hcz69_0 : w54.cell? ⟨gb121, 0, none⟩ = some (.int .i64 0) := (blk_cell BK121.out 0).trans rfl
                 have hcz69_1 : w54.cell? ⟨gb121, 1, none⟩ = some (.int .i64 0) := (blk_cell BK121.out 1).trans rfl
                 have hcz69_2 : w54.cell? ⟨gb121, 2, none⟩ = some (.bool false) := (blk_cell BK121.out 2).trans rfl
                 have hfz69_0 := blk_frozen BK121.out 0
                 have hfz69_1 := blk_frozen BK121.out 1
                 have hfz69_2 := blk_frozen BK121.out 2
                 go_wp2_with (first | (go_at_call 86; (with_reducible refine (helioscoperef01_index.calls a0_0 a0_1 a0_2 a0_3 _ _ l0_4 _ _ l0_5 ((rd_T52 l0_5 x9_3).f0) false _ ?side1 ?side2 ?side3 ?side4 A57.out).mono ?_); (case side1 => exact Kd.C_below HR0_4.out (by repeat (first | (with_reducible first | exact HB.out | apply below_alloc | apply pw_below_drewN | apply below_drew1 | refine below_set ?_ GE110.out | refine below_set ?_ GE121.out) | exact HB.out))); (case side2 => exact HC0_4.out); (case side3 => exact Kd.C_below HR0_5.out (by repeat (first | (with_reducible first | exact HB.out | apply below_alloc | apply pw_below_drewN | apply below_drew1 | refine below_set ?_ GE110.out | refine below_set ?_ GE121.out) | exact HB.out))); (case side4 => exact HC0_5.out); rintro e w70 ⟨rfl, hb⟩; have n0_ := Aside0.mk (blk_below (g := gb110) (o := .cells #[.string a0_0, .int .i64 a0_1, .int .i64 a0_2, .int .i64 a0_3, .slice A0_4 l0_4.length c0_4, .slice (some ad120) l0_5.length c0_5] 27 (0, 0)) (by (with_reducible repeat (first | refine blk_drewN ?_ _ | refine blk_drew ?_ | refine blk_alloc ?_ _)); refine blk_far ?_ NB110_121.out _; (with_reducible repeat (first | refine blk_drewN ?_ _ | refine blk_drew ?_ | refine blk_alloc ?_ _)); refine blk_far ?_ NB110_121.out _; (with_reducible repeat (first | refine blk_drewN ?_ _ | refine blk_drew ?_ | refine blk_alloc ?_ _)); refine blk_far ?_ NB110_121.out _; (with_reducible repeat (first | refine blk_drewN ?_ _ | refine blk_drew ?_ | refine blk_alloc ?_ _)); exact BK110.out) hb); have n1_ := Aside0.mk (blk_below (g := gb121) (o := .cells #[.int .i64 ((rd_T52 l0_5 x9_3).f0), .int .i64 ((rd_T52 l0_5 x9_3).f1), .bool ((rd_T52 l0_5 x9_3).f2)] 52 (0, 0)) (by (with_reducible repeat (first | refine blk_drewN ?_ _ | refine blk_drew ?_ | refine blk_alloc ?_ _)); refine blk_put (cs := #[.int .i64 ((rd_T52 l0_5 x9_3).f0), .int .i64 ((rd_T52 l0_5 x9_3).f1), .bool false]) ?_ 2 _ rfl; (with_reducible repeat (first | refine blk_drewN ?_ _ | refine blk_drew ?_ | refine blk_alloc ?_ _)); refine blk_put (cs := #[.int .i64 ((rd_T52 l0_5 x9_3).f0), .int .i64 0, .bool false]) ?_ 1 _ rfl; (with_reducible repeat (first | refine blk_drewN ?_ _ | refine blk_drew ?_ | refine blk_alloc ?_ _)); refine blk_put (cs := #[.int .i64 0, .int .i64 0, .bool false]) ?_ 0 _ rfl; (with_reducible repeat (first | refine blk_drewN ?_ _ | refine blk_drew ?_ | refine blk_alloc ?_ _)); exact BK121.out) hb); have n2_ := Aside0.mk (below_step (by repeat (first | (with_reducible first | exact HB.out | apply below_alloc | apply pw_below_drewN | apply below_drew1 | refine below_set ?_ GE110.out | refine below_set ?_ GE121.out) | exact HB.out)) hb); clear BK110; clear BK121; clear HB; have BK110 := n0_; have BK121 := n1_; have HB := n2_; clear n0_ n1_ n2_; (try clear hb); (try clear hb2); (try clear hk); (try clear hi)))
                 repeat (go_quiet (first | (go_at_call 86; (with_reducible refine (helioscoperef01_index.calls a0_0 a0_1 a0_2 a0_3 _ _ l0_4 _ _ l0_5 ((rd_T52 l0_5 x9_3).f0) false _ ?side1 ?side2 ?side3 ?side4 A57.out).mono ?_); (case side1 => exact Kd.C_below HR0_4.out (by repeat (first | (with_reducible first | exact HB.out | apply below_alloc | apply pw_below_drewN | apply below_drew1 | refine below_set ?_ GE110.out | refine below_set ?_ GE121.out) | exact HB.out))); (case side2 => exact HC0_4.out); (case side3 => exact Kd.C_below HR0_5.out (by repeat (first | (with_reducible first | exact HB.out | apply below_alloc | apply pw_below_drewN | apply below_drew1 | refine below_set ?_ GE110.out | refine below_set ?_ GE121.out) | exact HB.out))); (case side4 => exact HC0_5.out); rintro e w70 ⟨rfl, hb⟩; have n0_ := Aside0.mk (blk_below (g := gb110) (o := .cells #[.string a0_0, .int .i64 a0_1, .int .i64 a0_2, .int .i64 a0_3, .slice A0_4 l0_4.length c0_4, .slice (some ad120) l0_5.length c0_5] 27 (0, 0)) (by (with_reducible repeat (first | refine blk_drewN ?_ _ | refine blk_drew ?_ | refine blk_alloc ?_ _)); refine blk_far ?_ NB110_121.out _; (with_reducible repeat (first | refine blk_drewN ?_ _ | refine blk_drew ?_ | refine blk_alloc ?_ _)); refine blk_far ?_ NB110_121.out _; (with_reducible repeat (first | refine blk_drewN ?_ _ | refine blk_drew ?_ | refine blk_alloc ?_ _)); refine blk_far ?_ NB110_121.out _; (with_reducible repeat (first | refine blk_drewN ?_ _ | refine blk_drew ?_ | refine blk_alloc ?_ _)); exact BK110.out) hb); have n1_ := Aside0.mk (blk_below (g := gb121) (o := .cells #[.int .i64 ((rd_T52 l0_5 x9_3).f0), .int .i64 ((rd_T52 l0_5 x9_3).f1), .bool ((rd_T52 l0_5 x9_3).f2)] 52 (0, 0)) (by (with_reducible repeat (first | refine blk_drewN ?_ _ | refine blk_drew ?_ | refine blk_alloc ?_ _)); refine blk_put (cs := #[.int .i64 ((rd_T52 l0_5 x9_3).f0), .int .i64 ((rd_T52 l0_5 x9_3).f1), .bool false]) ?_ 2 _ rfl; (with_reducible repeat (first | refine blk_drewN ?_ _ | refine blk_drew ?_ | refine blk_alloc ?_ _)); refine blk_put (cs := #[.int .i64 ((rd_T52 l0_5 x9_3).f0), .int .i64 0, .bool false]) ?_ 1 _ rfl; (with_reducible repeat (first | refine blk_drewN ?_ _ | refine blk_drew ?_ | refine blk_alloc ?_ _)); refine blk_put (cs := #[.int .i64 0, .int .i64 0, .bool false]) ?_ 0 _ rfl; (with_reducible repeat (first | refine blk_drewN ?_ _ | refine blk_drew ?_ | refine blk_alloc ?_ _)); exact BK121.out) hb); have n2_ := Aside0.mk (below_step (by repeat (first | (with_reducible first | exact HB.out | apply below_alloc | apply pw_below_drewN | apply below_drew1 | refine below_set ?_ GE110.out | refine below_set ?_ GE121.out) | exact HB.out)) hb); clear BK110; clear BK121; clear HB; have BK110 := n0_; have BK121 := n1_; have HB := n2_; clear n0_ n1_ n2_; (try clear hb); (try clear hb2); (try clear hk); (try clear hi))); try go_wp2_with (first | (go_at_call 86; (with_reducible refine (helioscoperef01_index.calls a0_0 a0_1 a0_2 a0_3 _ _ l0_4 _ _ l0_5 ((rd_T52 l0_5 x9_3).f0) false _ ?side1 ?side2 ?side3 ?side4 A57.out).mono ?_); (case side1 => exact Kd.C_below HR0_4.out (by repeat (first | (with_reducible first | exact HB.out | apply below_alloc | apply pw_below_drewN | apply below_drew1 | refine below_set ?_ GE110.out | refine below_set ?_ GE121.out) | exact HB.out))); (case side2 => exact HC0_4.out); (case side3 => exact Kd.C_below HR0_5.out (by repeat (first | (with_reducible first | exact HB.out | apply below_alloc | apply pw_below_drewN | apply below_drew1 | refine below_set ?_ GE110.out | refine below_set ?_ GE121.out) | exact HB.out))); (case side4 => exact HC0_5.out); rintro e w70 ⟨rfl, hb⟩; have n0_ := Aside0.mk (blk_below (g := gb110) (o := .cells #[.string a0_0, .int .i64 a0_1, .int .i64 a0_2, .int .i64 a0_3, .slice A0_4 l0_4.length c0_4, .slice (some ad120) l0_5.length c0_5] 27 (0, 0)) (by (with_reducible repeat (first | refine blk_drewN ?_ _ | refine blk_drew ?_ | refine blk_alloc ?_ _)); refine blk_far ?_ NB110_121.out _; (with_reducible repeat (first | refine blk_drewN ?_ _ | refine blk_drew ?_ | refine blk_alloc ?_ _)); refine blk_far ?_ NB110_121.out _; (with_reducible repeat (first | refine blk_drewN ?_ _ | refine blk_drew ?_ | refine blk_alloc ?_ _)); refine blk_far ?_ NB110_121.out _; (with_reducible repeat (first | refine blk_drewN ?_ _ | refine blk_drew ?_ | refine blk_alloc ?_ _)); exact BK110.out) hb); have n1_ := Aside0.mk (blk_below (g := gb121) (o := .cells #[.int .i64 ((rd_T52 l0_5 x9_3).f0), .int .i64 ((rd_T52 l0_5 x9_3).f1), .bool ((rd_T52 l0_5 x9_3).f2)] 52 (0, 0)) (by (with_reducible repeat (first | refine blk_drewN ?_ _ | refine blk_drew ?_ | refine blk_alloc ?_ _)); refine blk_put (cs := #[.int .i64 ((rd_T52 l0_5 x9_3).f0), .int .i64 ((rd_T52 l0_5 x9_3).f1), .bool false]) ?_ 2 _ rfl; (with_reducible repeat (first | refine blk_drewN ?_ _ | refine blk_drew ?_ | refine blk_alloc ?_ _)); refine blk_put (cs := #[.int .i64 ((rd_T52 l0_5 x9_3).f0), .int .i64 0, .bool false]) ?_ 1 _ rfl; (with_reducible repeat (first | refine blk_drewN ?_ _ | refine blk_drew ?_ | refine blk_alloc ?_ _)); refine blk_put (cs := #[.int .i64 0, .int .i64 0, .bool false]) ?_ 0 _ rfl; (with_reducible repeat (first | refine blk_drewN ?_ _ | refine blk_drew ?_ | refine blk_alloc ?_ _)); exact BK121.out) hb); have n2_ := Aside0.mk (below_step (by repeat (first | (with_reducible first | exact HB.out | apply below_alloc | apply pw_below_drewN | apply below_drew1 | refine below_set ?_ GE110.out | refine below_set ?_ GE121.out) | exact HB.out)) hb); clear BK110; clear BK121; clear HB; have BK110 := n0_; have BK121 := n1_; have HB := n2_; clear n0_ n1_ n2_; (try clear hb); (try clear hb2); (try clear hk); (try clear hi))))
                 go_meet
                 case rel => exact ⟨_, (true), (by first | rfl | (simp; done) | (simp [*]; done)), H', ⟨by have := HJ4.out; have := HK2.out; have := HK3.out; first | omega | exact Nat.le_refl _⟩, ⟨by (with_reducible repeat (first | refine blk_drewN ?_ _ | refine blk_drew ?_ | refine blk_alloc ?_ _)); exact BK110.out⟩, ⟨by (with_reducible repeat (first | refine blk_drewN ?_ _ | refine blk_drew ?_ | refine blk_alloc ?_ _)); exact BK121.out⟩, ⟨by repeat (first | (with_reducible first | exact HB.out | apply below_alloc | apply pw_below_drewN | apply below_drew1 | refine below_set ?_ GE110.out | refine below_set ?_ GE121.out) | exact HB.out)⟩⟩
               case rest =>
                clear HC52
                try clear c1
                try clear p1
                try clear q1
                try clear hx1
                try clear c2
                try clear p2
                try clear c3
                try clear c4
                try clear c5
                try clear c6
                try clear p6
                try clear c10
                try clear p11
                try clear q11
                try clear hx11
                try clear p12
                try clear q12
                try clear hx12
                try clear c13
                try clear c14
                try clear c14b0
                try clear c14b1
                try clear c15
                try clear c15b0
                try clear c15b1
                try clear c18
                try clear c18b0
                try clear c19
                try clear c19b0
                try clear c23
                try clear c26
                try clear c28
                try clear c30
                try clear c32
                try clear c33
                try clear c33b0
                try clear c34
                try clear c34b0
                try clear c35
                try clear c35b0
                try clear c36
                try clear c36b0
                try clear c36b1
                try clear c37
                try clear c37b0
                try clear c37b1
                try clear c38
                try clear c41
                try clear c44
                try clear c47
                try clear c47b0
                try clear c47b1
                try clear c50
                try clear c50b0
                try clear c51
                try clear c51b0
                try clear c55
                try clear c58
                try clear c60
                try clear p64
                try clear c67
                try clear hcz11_0
                try clear hcz11_1
                try clear hcz11_2
                try clear hcz11_3
                try clear hcz11_4
                try clear hcz11_5
                try clear hcz12_0
                try clear hcz12_1
                try clear hcz12_2
                try clear hcz12_3
                try clear hcz12_4
                try clear hcz12_5
                try clear hcz16_0
                try clear hcz16_1
                try clear hcz16_2
                try clear hcz16_3
                try clear hcz16_4
                try clear hcz16_5
                try clear hcz17_0
                try clear hcz17_1
                try clear hcz17_2
                try clear hcz17_3
                try clear hcz17_4
                try clear hcz17_5
                try clear hcz21_0
                try clear hcz21_1
                try clear hcz21_2
                try clear hcz21_3
                try clear hcz21_4
                try clear hcz21_5
                try clear hcz24_0
                try clear hcz24_1
                try clear hcz24_2
                try clear hcz29_0
                try clear hcz29_1
                try clear hcz29_2
                try clear hcz31_0
                try clear hcz31_1
                try clear hcz31_2
                try clear hcz39_0
                try clear hcz39_1
                try clear hcz39_2
                try clear hcz39_3
                try clear hcz39_4
                try clear hcz39_5
                try clear hcz40_0
                try clear hcz40_1
                try clear hcz40_2
                try clear hcz42_0
                try clear hcz42_1
                try clear hcz42_2
                try clear hcz42_3
                try clear hcz42_4
                try clear hcz42_5
                try clear hcz43_0
                try clear hcz43_1
                try clear hcz43_2
                try clear hcz45_0
                try clear hcz45_1
                try clear hcz45_2
                try clear hcz45_3
                try clear hcz45_4
                try clear hcz45_5
                try clear hcz46_0
                try clear hcz46_1
                try clear hcz46_2
                try clear hcz48_0
                try clear hcz48_1
                try clear hcz48_2
                try clear hcz48_3
                try clear hcz48_4
                try clear hcz48_5
                try clear hcz49_0
                try clear hcz49_1
                try clear hcz49_2
                try clear hcz49_3
                try clear hcz49_4
                try clear hcz49_5
                try clear hcz53_0
                try clear hcz53_1
                try clear hcz53_2
                try clear hcz53_3
                try clear hcz53_4
                try clear hcz53_5
                try clear hcz56_0
                try clear hcz56_1
                try clear hcz56_2
                try clear hcz61_0
                try clear hcz61_1
                try clear hcz61_2
                try clear hcz61_3
                try clear hcz61_4
                try clear hcz61_5
                try clear hcz62_0
                try clear hcz62_1
                try clear hcz62_2
                try clear hcz64_0
                try clear hcz64_1
                try clear hcz64_2
                try clear hcz64_3
                try clear hcz64_4
                try clear hcz64_5
                try clear hcz65_0
                try clear hcz65_1
                try clear hcz65_2
                try clear hcz68_0
                try clear hcz68_1
                try clear hcz68_2
                try clear hcz68_3
                try clear hcz68_4
                try clear hcz68_5
                try clear hcz69_0
                try clear hcz69_1
                try clear hcz69_2
                try clear hcz7_0
                try clear hcz7_1
                try clear hcz7_2
                try clear hcz7_3
                try clear hcz7_4
                try clear hcz7_5
                try clear hfz11_0
                try clear hfz11_1
                try clear hfz11_2
                try clear hfz11_3
                try clear hfz11_4
                try clear hfz11_5
                try clear hfz12_0
                try clear hfz12_1
                try clear hfz12_2
                try clear hfz12_3
                try clear hfz12_4
                try clear hfz12_5
                try clear hfz16_0
                try clear hfz16_1
                try clear hfz16_2
                try clear hfz16_3
                try clear hfz16_4
                try clear hfz16_5
                try clear hfz17_0
                try clear hfz17_1
                try clear hfz17_2
                try clear hfz17_3
                try clear hfz17_4
                try clear hfz17_5
                try clear hfz21_0
                try clear hfz21_1
                try clear hfz21_2
                try clear hfz21_3
                try clear hfz21_4
                try clear hfz21_5
                try clear hfz24_0
                try clear hfz24_1
                try clear hfz24_2
                try clear hfz29_0
                try clear hfz29_1
                try clear hfz29_2
                try clear hfz31_0
                try clear hfz31_1
                try clear hfz31_2
                try clear hfz39_0
                try clear hfz39_1
                try clear hfz39_2
                try clear hfz39_3
                try clear hfz39_4
                try clear hfz39_5
                try clear hfz40_0
                try clear hfz40_1
                try clear hfz40_2
                try clear hfz42_0
                try clear hfz42_1
                try clear hfz42_2
                try clear hfz42_3
                try clear hfz42_4
                try clear hfz42_5
                try clear hfz43_0
                try clear hfz43_1
                try clear hfz43_2
                try clear hfz45_0
                try clear hfz45_1
                try clear hfz45_2
                try clear hfz45_3
                try clear hfz45_4
                try clear hfz45_5
                try clear hfz46_0
                try clear hfz46_1
                try clear hfz46_2
                try clear hfz48_0
                try clear hfz48_1
                try clear hfz48_2
                try clear hfz48_3
                try clear hfz48_4
                try clear hfz48_5
                try clear hfz49_0
                try clear hfz49_1
                try clear hfz49_2
                try clear hfz49_3
                try clear hfz49_4
                try clear hfz49_5
                try clear hfz53_0
                try clear hfz53_1
                try clear hfz53_2
                try clear hfz53_3
                try clear hfz53_4
                try clear hfz53_5
                try clear hfz56_0
                try clear hfz56_1
                try clear hfz56_2
                try clear hfz61_0
                try clear hfz61_1
                try clear hfz61_2
                try clear hfz61_3
                try clear hfz61_4
                try clear hfz61_5
                try clear hfz62_0
                try clear hfz62_1
                try clear hfz62_2
                try clear hfz64_0
                try clear hfz64_1
                try clear hfz64_2
                try clear hfz64_3
                try clear hfz64_4
                try clear hfz64_5
                try clear hfz65_0
                try clear hfz65_1
                try clear hfz65_2
                try clear hfz68_0
                try clear hfz68_1
                try clear hfz68_2
                try clear hfz68_3
                try clear hfz68_4
                try clear hfz68_5
                try clear hfz69_0
                try clear hfz69_1
                try clear hfz69_2
                try clear hfz7_0
                try clear hfz7_1
                try clear hfz7_2
                try clear hfz7_3
                try clear hfz7_4
                try clear hfz7_5
                try clear hx114_0
                try clear hx114_1
                try clear hx114_2
                try clear hx118_0
                try clear hx118_1
                try clear hx118_2
                try clear hx119_0
                try clear hx119_1
                try clear hx119_2
                try clear hx120_0
                try clear hx120_1
                try clear hx120_2
                try clear p1
                try clear p11
                try clear p114
                try clear p118
                try clear p119
                try clear p120
                try clear p2
                try clear p6
                try clear q1
                try clear q11
                try clear q114
                try clear q118
                try clear q119
                try clear q120
                obtain ⟨kq, x109_51, rfl, HA, HJ51, BK110, BK121, HB⟩ := hcut
                cases kq with
                | zero => exact absurd HA.out (by simp [helioscoperef01_Check.j5])
                | succ kj51 =>
                 have H := HA.out
                 clear HA
                 simp only [helioscoperef01_Check.j5] at H
                 by_cases c71 : x109_51 = true
                 ·
                  subst c71
                  have H1 : (some (3, x9_3, 4)) = some (r1, r2, r3) := by rw [if_pos rfl] at H; exact H
                  clear H
                  have H := H1
                  clear H1
                  simp only [Option.some.injEq, Prod.mk.injEq] at H
                  obtain ⟨rfl, rfl, rfl⟩ := H
                  go_wp2
                  repeat (go_quiet (fail); try go_wp2)
                  go_ret3
                  exact ⟨by first | rfl | (simp [errW_none, errW_some] <;> rfl) | (simp [*, errW_none, errW_some] <;> rfl), by repeat (first | (with_reducible first | exact HB.out | apply below_alloc | apply pw_below_drewN | apply below_drew1 | refine below_set ?_ GE110.out | refine below_set ?_ GE121.out) | exact HB.out)⟩
                 ·
                  replace c71 := Bool.eq_false_iff.mpr c71
                  subst c71
                  have H1 : (if ((rd_T52 l0_5 x9_3).f0) = ((rd_T52 l0_5 x9_3).f1) then (some (3, x9_3, 2)) else (helioscoperef01_Check.l2 kj51 (wrap64 (x9_3 + 1)) a0_0 a0_1 a0_2 a0_3 l0_4 l0_5)) = some (r1, r2, r3) := by rw [if_neg (show ¬ (false = true) by decide)] at H; exact H
                  clear H
                  have H := H1
                  clear H1
                  by_cases c72 : ((rd_T52 l0_5 x9_3).f0) = ((rd_T52 l0_5 x9_3).f1)
                  ·
                   rw [if_pos c72] at H
                   have c72b0 : (((rd_T52 l0_5 x9_3).f0) == ((rd_T52 l0_5 x9_3).f1)) = true := beq_iff_eq.mpr c72
                   have c72b1 : (((rd_T52 l0_5 x9_3).f0) != ((rd_T52 l0_5 x9_3).f1)) = false := bne_eq_false_iff_eq.mpr c72
                   clear c72
                   simp only [Option.some.injEq, Prod.mk.injEq] at H
                   obtain ⟨rfl, rfl, rfl⟩ := H
                   have hnb73 := NB121_110.out
                   have hnc73 := NB110_121.out
                   have hcz74_0 : wc.cell? ⟨gb121, 0, none⟩ = some (.int .i64 ((rd_T52 l0_5 x9_3).f0)) := (blk_cell BK121.out 0).trans rfl
                   have hcz74_1 : wc.cell? ⟨gb121, 1, none⟩ = some (.int .i64 ((rd_T52 l0_5 x9_3).f1)) := (blk_cell BK121.out 1).trans rfl
                   have hcz74_2 : wc.cell? ⟨gb121, 2, none⟩ = some (.bool ((rd_T52 l0_5 x9_3).f2)) := (blk_cell BK121.out 2).trans rfl
                   have hfz74_0 := blk_frozen BK121.out 0
                   have hfz74_1 := blk_frozen BK121.out 1
                   have hfz74_2 := blk_frozen BK121.out 2
                   go_wp2
                   repeat (go_quiet (fail); try go_wp2)
                   go_ret3
                   exact ⟨by first | rfl | (simp [errW_none, errW_some] <;> rfl) | (simp [*, errW_none, errW_some] <;> rfl), by repeat (first | (with_reducible first | exact HB.out | apply below_alloc | apply pw_below_drewN | apply below_drew1 | refine below_set ?_ GE110.out | refine below_set ?_ GE121.out) | exact HB.out)⟩
                  ·
                   rw [if_neg c72] at H
                   have c72b0 : (((rd_T52 l0_5 x9_3).f0) == ((rd_T52 l0_5 x9_3).f1)) = false := beq_eq_false_iff_ne.mpr c72
                   have c72b1 : (((rd_T52 l0_5 x9_3).f0) != ((rd_T52 l0_5 x9_3).f1)) = true := bne_iff_ne.mpr c72
                   have H' := Aside0.mk H
                   clear H
                   have hnb75 := NB121_110.out
                   have hnc75 := NB110_121.out
                   have hcz76_0 : wc.cell? ⟨gb121, 0, none⟩ = some (.int .i64 ((rd_T52 l0_5 x9_3).f0)) := (blk_cell BK121.out 0).trans rfl
                   have hcz76_1 : wc.cell? ⟨gb121, 1, none⟩ = some (.int .i64 ((rd_T52 l0_5 x9_3).f1)) := (blk_cell BK121.out 1).trans rfl
                   have hcz76_2 : wc.cell? ⟨gb121, 2, none⟩ = some (.bool ((rd_T52 l0_5 x9_3).f2)) := (blk_cell BK121.out 2).trans rfl
                   have hfz76_0 := blk_frozen BK121.out 0
                   have hfz76_1 := blk_frozen BK121.out 1
                   have hfz76_2 := blk_frozen BK121.out 2
                   go_wp2
                   repeat (go_quiet (fail); try go_wp2)
                   go_roundg kj51
                   case measure => have := HJ4.out; have := HK2.out; have := HK3.out; have := HJ51.out; omega
                   case rel => exact ⟨(wrap64 (x9_3 + 1)), (by first | rfl | (simp; done) | (simp [*]; done)), H', ⟨by have := HJ4.out; have := HK2.out; have := HK3.out; have := HJ51.out; omega⟩, ⟨by (with_reducible repeat (first | refine blk_drewN ?_ _ | refine blk_drew ?_ | refine blk_alloc ?_ _)); exact BK110.out⟩, ⟨by repeat (first | (with_reducible first | exact HB.out | apply below_alloc | apply pw_below_drewN | apply below_drew1 | refine below_set ?_ GE110.out | refine below_set ?_ GE121.out) | exact HB.out)⟩⟩
              ·
               rw [if_neg c51] at H
               exact absurd H (by simp)
             ·
              rw [if_neg c50] at H
              have c50b0 : decide (x9_3 < (l0_5.length : Int)) = false := decide_eq_false c50
              clear c50
              simp only [Option.some.injEq, Prod.mk.injEq] at H
              obtain ⟨rfl, rfl, rfl⟩ := H
              have hcz77_0 : wr.cell? ⟨gb110, 0, none⟩ = some (.string a0_0) := (blk_cell BK110.out 0).trans rfl
              have hcz77_1 : wr.cell? ⟨gb110, 1, none⟩ = some (.int .i64 a0_1) := (blk_cell BK110.out 1).trans rfl
              have hcz77_2 : wr.cell? ⟨gb110, 2, none⟩ = some (.int .i64 a0_2) := (blk_cell BK110.out 2).trans rfl
              have hcz77_3 : wr.cell? ⟨gb110, 3, none⟩ = some (.int .i64 a0_3) := (blk_cell BK110.out 3).trans rfl
              have hcz77_4 : wr.cell? ⟨gb110, 4, none⟩ = some (.slice A0_4 l0_4.length c0_4) := (blk_cell BK110.out 4).trans rfl
              have hcz77_5 : wr.cell? ⟨gb110, 5, none⟩ = some (.slice A0_5 l0_5.length c0_5) := (blk_cell BK110.out 5).trans rfl
              have hfz77_0 := blk_frozen BK110.out 0
              have hfz77_1 := blk_frozen BK110.out 1
              have hfz77_2 := blk_frozen BK110.out 2
              have hfz77_3 := blk_frozen BK110.out 3
              have hfz77_4 := blk_frozen BK110.out 4
              have hfz77_5 := blk_frozen BK110.out 5
              go_wp2
              repeat (go_quiet (fail); try go_wp2)
              go_ret3
              exact ⟨by first | rfl | (simp [errW_none, errW_some] <;> rfl) | (simp [*, errW_none, errW_some] <;> rfl), by repeat (first | (with_reducible first | exact HB.out | apply below_alloc | apply pw_below_drewN | apply below_drew1 | refine below_set ?_ GE110.out) | exact HB.out)⟩
     ·
      rw [if_neg c14] at H
      have c14b0 : (t112 == 0) = false := beq_eq_false_iff_ne.mpr c14
      have c14b1 : (t112 != 0) = true := bne_iff_ne.mpr c14
      simp only [Option.some.injEq, Prod.mk.injEq] at H
      obtain ⟨rfl, rfl, rfl⟩ := H
      go_wp2
      repeat (go_quiet (fail); try go_wp2)
      go_ret3
      exact ⟨by first | rfl | (simp [errW_none, errW_some] <;> rfl) | (simp [*, errW_none, errW_some] <;> rfl), by repeat (first | (with_reducible first | exact HB.out | apply below_alloc | apply pw_below_drewN | apply below_drew1 | refine below_set ?_ GE110.out) | exact HB.out)⟩
 ·
  replace c3 := Bool.eq_false_iff.mpr c3
  subst c3
  have H1 : (some (1, 0, 6)) = some (r1, r2, r3) := by rw [if_neg (show ¬ (false = true) by decide)] at H; exact H
  clear H
  have H := H1
  clear H1
  simp only [Option.some.injEq, Prod.mk.injEq] at H
  obtain ⟨rfl, rfl, rfl⟩ := H
  go_enter Try.func19, Try.ntmps19
  go_wp2_with (first | ((with_reducible refine gate_dst (N := 1) rfl ?_); refine box_event ?hg (N := 1) ?hd (cs := #[.string a0_0, .int .i64 a0_1, .int .i64 a0_2, .int .i64 a0_3, .slice A0_4 l0_4.length c0_4, .slice A0_5 l0_5.length c0_5]) (t := 27) ?hr ?_; (case hd => rfl); (case hg => rfl); (case hr => first | (go_simp; done) | (go_simp; rfl)); intro gb110 hg w78 hbox hb; have n0_ := Aside0.mk (below_step (by repeat (first | (with_reducible first | exact HB.out | apply below_alloc | apply pw_below_drewN | apply below_drew1) | exact HB.out)) hb); have n1_ := Aside0.mk (hbox); have n2_ := Aside0.mk ((by rw [hg]; exact (below_size (by repeat (first | (with_reducible first | exact HB.out | apply below_alloc | apply pw_below_drewN | apply below_drew1) | exact HB.out))) : w.heap.size ≤ gb110)); have n3_ := Aside0.mk ((by rw [hg]; exact (below_size (by repeat (first | (with_reducible first | exact HB.out | apply below_alloc | apply pw_below_drewN | apply below_drew1) | exact HB.out))) : w.heap.size ≤ gb110)); clear HB; have HB := n0_; have BK110 := n1_; have GW110 := n2_; have GE110 := n3_; clear n0_ n1_ n2_ n3_; clear hb hbox hg; have hcz79_0 : w78.cell? ⟨gb110, 0, none⟩ = some (.string a0_0) := (blk_cell BK110.out 0).trans rfl; have hcz79_1 : w78.cell? ⟨gb110, 1, none⟩ = some (.int .i64 a0_1) := (blk_cell BK110.out 1).trans rfl; have hcz79_2 : w78.cell? ⟨gb110, 2, none⟩ = some (.int .i64 a0_2) := (blk_cell BK110.out 2).trans rfl; have hcz79_3 : w78.cell? ⟨gb110, 3, none⟩ = some (.int .i64 a0_3) := (blk_cell BK110.out 3).trans rfl; have hcz79_4 : w78.cell? ⟨gb110, 4, none⟩ = some (.slice A0_4 l0_4.length c0_4) := (blk_cell BK110.out 4).trans rfl; have hcz79_5 : w78.cell? ⟨gb110, 5, none⟩ = some (.slice A0_5 l0_5.length c0_5) := (blk_cell BK110.out 5).trans rfl; have hfz79_0 := blk_frozen BK110.out 0; have hfz79_1 := blk_frozen BK110.out 1; have hfz79_2 := blk_frozen BK110.out 2; have hfz79_3 := blk_frozen BK110.out 3; have hfz79_4 := blk_frozen BK110.out 4; have hfz79_5 := blk_frozen BK110.out 5) | (go_at_call 21; (with_reducible refine (helioscoperef01_Name.calls k a0_0 false _ A2.out).mono ?_); rintro e w' ⟨rfl, ⟨nd, rfl⟩⟩; (try first | exact ⟨rfl, _, World.drewN_drewN _ _ _⟩ | exact ⟨rfl, _, Eq.trans (World.drewN_drewN _ _ _) (congrArg (World.drewN _) (Nat.add_assoc _ _ _))⟩)))
  repeat (go_quiet (first | ((with_reducible refine gate_dst (N := 1) rfl ?_); refine box_event ?hg (N := 1) ?hd (cs := #[.string a0_0, .int .i64 a0_1, .int .i64 a0_2, .int .i64 a0_3, .slice A0_4 l0_4.length c0_4, .slice A0_5 l0_5.length c0_5]) (t := 27) ?hr ?_; (case hd => rfl); (case hg => rfl); (case hr => first | (go_simp; done) | (go_simp; rfl)); intro gb110 hg w78 hbox hb; have n0_ := Aside0.mk (below_step (by repeat (first | (with_reducible first | exact HB.out | apply below_alloc | apply pw_below_drewN | apply below_drew1) | exact HB.out)) hb); have n1_ := Aside0.mk (hbox); have n2_ := Aside0.mk ((by rw [hg]; exact (below_size (by repeat (first | (with_reducible first | exact HB.out | apply below_alloc | apply pw_below_drewN | apply below_drew1) | exact HB.out))) : w.heap.size ≤ gb110)); have n3_ := Aside0.mk ((by rw [hg]; exact (below_size (by repeat (first | (with_reducible first | exact HB.out | apply below_alloc | apply pw_below_drewN | apply below_drew1) | exact HB.out))) : w.heap.size ≤ gb110)); clear HB; have HB := n0_; have BK110 := n1_; have GW110 := n2_; have GE110 := n3_; clear n0_ n1_ n2_ n3_; clear hb hbox hg; have hcz79_0 : w78.cell? ⟨gb110, 0, none⟩ = some (.string a0_0) := (blk_cell BK110.out 0).trans rfl; have hcz79_1 : w78.cell? ⟨gb110, 1, none⟩ = some (.int .i64 a0_1) := (blk_cell BK110.out 1).trans rfl; have hcz79_2 : w78.cell? ⟨gb110, 2, none⟩ = some (.int .i64 a0_2) := (blk_cell BK110.out 2).trans rfl; have hcz79_3 : w78.cell? ⟨gb110, 3, none⟩ = some (.int .i64 a0_3) := (blk_cell BK110.out 3).trans rfl; have hcz79_4 : w78.cell? ⟨gb110, 4, none⟩ = some (.slice A0_4 l0_4.length c0_4) := (blk_cell BK110.out 4).trans rfl; have hcz79_5 : w78.cell? ⟨gb110, 5, none⟩ = some (.slice A0_5 l0_5.length c0_5) := (blk_cell BK110.out 5).trans rfl; have hfz79_0 := blk_frozen BK110.out 0; have hfz79_1 := blk_frozen BK110.out 1; have hfz79_2 := blk_frozen BK110.out 2; have hfz79_3 := blk_frozen BK110.out 3; have hfz79_4 := blk_frozen BK110.out 4; have hfz79_5 := blk_frozen BK110.out 5) | (go_at_call 21; (with_reducible refine (helioscoperef01_Name.calls k a0_0 false _ A2.out).mono ?_); rintro e w' ⟨rfl, ⟨nd, rfl⟩⟩; (try first | exact ⟨rfl, _, World.drewN_drewN _ _ _⟩ | exact ⟨rfl, _, Eq.trans (World.drewN_drewN _ _ _) (congrArg (World.drewN _) (Nat.add_assoc _ _ _))⟩))); try go_wp2_with (first | ((with_reducible refine gate_dst (N := 1) rfl ?_); refine box_event ?hg (N := 1) ?hd (cs := #[.string a0_0, .int .i64 a0_1, .int .i64 a0_2, .int .i64 a0_3, .slice A0_4 l0_4.length c0_4, .slice A0_5 l0_5.length c0_5]) (t := 27) ?hr ?_; (case hd => rfl); (case hg => rfl); (case hr => first | (go_simp; done) | (go_simp; rfl)); intro gb110 hg w78 hbox hb; have n0_ := Aside0.mk (below_step (by repeat (first | (with_reducible first | exact HB.out | apply below_alloc | apply pw_below_drewN | apply below_drew1) | exact HB.out)) hb); have n1_ := Aside0.mk (hbox); have n2_ := Aside0.mk ((by rw [hg]; exact (below_size (by repeat (first | (with_reducible first | exact HB.out | apply below_alloc | apply pw_below_drewN | apply below_drew1) | exact HB.out))) : w.heap.size ≤ gb110)); have n3_ := Aside0.mk ((by rw [hg]; exact (below_size (by repeat (first | (with_reducible first | exact HB.out | apply below_alloc | apply pw_below_drewN | apply below_drew1) | exact HB.out))) : w.heap.size ≤ gb110)); clear HB; have HB := n0_; have BK110 := n1_; have GW110 := n2_; have GE110 := n3_; clear n0_ n1_ n2_ n3_; clear hb hbox hg; have hcz79_0 : w78.cell? ⟨gb110, 0, none⟩ = some (.string a0_0) := (blk_cell BK110.out 0).trans rfl; have hcz79_1 : w78.cell? ⟨gb110, 1, none⟩ = some (.int .i64 a0_1) := (blk_cell BK110.out 1).trans rfl; have hcz79_2 : w78.cell? ⟨gb110, 2, none⟩ = some (.int .i64 a0_2) := (blk_cell BK110.out 2).trans rfl; have hcz79_3 : w78.cell? ⟨gb110, 3, none⟩ = some (.int .i64 a0_3) := (blk_cell BK110.out 3).trans rfl; have hcz79_4 : w78.cell? ⟨gb110, 4, none⟩ = some (.slice A0_4 l0_4.length c0_4) := (blk_cell BK110.out 4).trans rfl; have hcz79_5 : w78.cell? ⟨gb110, 5, none⟩ = some (.slice A0_5 l0_5.length c0_5) := (blk_cell BK110.out 5).trans rfl; have hfz79_0 := blk_frozen BK110.out 0; have hfz79_1 := blk_frozen BK110.out 1; have hfz79_2 := blk_frozen BK110.out 2; have hfz79_3 := blk_frozen BK110.out 3; have hfz79_4 := blk_frozen BK110.out 4; have hfz79_5 := blk_frozen BK110.out 5) | (go_at_call 21; (with_reducible refine (helioscoperef01_Name.calls k a0_0 false _ A2.out).mono ?_); rintro e w' ⟨rfl, ⟨nd, rfl⟩⟩; (try first | exact ⟨rfl, _, World.drewN_drewN _ _ _⟩ | exact ⟨rfl, _, Eq.trans (World.drewN_drewN _ _ _) (congrArg (World.drewN _) (Nat.add_assoc _ _ _))⟩))))
  go_ret3
  exact ⟨by first | rfl | (simp [errW_none, errW_some] <;> rfl) | (simp [*, errW_none, errW_some] <;> rfl), by repeat (first | (with_reducible first | exact HB.out | apply below_alloc | apply pw_below_drewN | apply below_drew1 | refine below_set ?_ GE110.out) | exact HB.out)⟩

end Go.Proofs.Ytemeapfnfegkiaa.PR
end
section
/- Package disk: what the reference's Name and Check answer is what the program's do. -/
namespace Go.Proofs.Ytemeapfnfegkiaa.D
open Go Go.RowKit Go.Proofs.YtemeapfnfegkiaaK Go.Proofs.YtemeapfnfegkiaaW.PrintWords Go.Proofs.YtemeapfnfegkiaaW.PrintLast Go.Proofs.YtemeapfnfegkiaaW.PrintMore Go.Proofs.Ytemeapfnfegkiaa.PR
set_option linter.unusedVariables false
set_option linter.unusedSimpArgs false

theorem rIn (a lo hi : Int) : helioscoperef01_In.f a lo hi = some (decide (lo ≤ a ∧ a ≤ hi)) := by
  unfold helioscoperef01_In.f; split <;> simp [*]
theorem rletter (b : Int) : helioscoperef01_letter.f b = some (decide (97 ≤ b ∧ b ≤ 122)) := by
  unfold helioscoperef01_letter.f; split <;> simp <;> omega
theorem rdigit (b : Int) : helioscoperef01_digit.f b = some (decide (48 ≤ b ∧ b ≤ 57)) := by
  unfold helioscoperef01_digit.f; split <;> simp <;> omega
theorem wrapN {n : Nat} (h : n < 9223372036854775807) : wrap64 ((n : Int) + 1) = ((n + 1 : Nat) : Int) := by
  unfold wrap64; omega

theorem rName_l0 (s : ByteArray) (hs : s.size ≤ 9223372036854775807) : ∀ (d i : Nat), i + d = s.size → 1 ≤ i → okTo s i = true → Ev (fun k => helioscoperef01_Name.l0 k s (i : Int)) (okTo s s.size)
  | 0, i, hd, _, h => by
    obtain rfl : i = s.size := by omega
    rw [h]
    exact Ev.step (f := fun _ => some true) (fun k => by simp only [helioscoperef01_Name.l0]; rw [if_neg (by omega)]) (Ev.now _)
  | d + 1, i, hd, hi, h => by
    by_cases hb : okByte (i == 0) (bt s (i : Int)) = true
    · have h1 : okTo s (i + 1) = true := by rw [okTo_succ, h, hb]; rfl
      have ih := rName_l0 s hs d (i + 1) (by omega) (by omega) h1
      refine Ev.step (f := fun k => helioscoperef01_Name.l0 k s ((i + 1 : Nat) : Int)) (fun k => ?_) ih
      have hb' := (okByte_iff i _).1 hb
      simp only [helioscoperef01_Name.l0, rletter, rdigit, Option.bind_some, decide_eq_true_eq]
      rw [if_pos (by omega), if_pos (by omega), wrapN (by omega)]
      split
      · rfl
      · split
        · rfl
        · rw [if_pos (by omega)]
    · have hf : okByte (i == 0) (bt s (i : Int)) = false := by simpa using hb
      have h1 : okTo s (i + 1) = false := by rw [okTo_succ, hf]; simp
      rw [okTo_le s (by omega) h1]
      refine Ev.step (f := fun _ => some false) (fun k => ?_) (Ev.now _)
      have hb' : ¬ ((97 ≤ bt s (i : Int) ∧ bt s (i : Int) ≤ 122) ∨ (0 < i ∧ (bt s (i : Int) = 46 ∨ (48 ≤ bt s (i : Int) ∧ bt s (i : Int) ≤ 57)))) := fun x => hb ((okByte_iff i _).2 x)
      simp only [helioscoperef01_Name.l0, rletter, rdigit, Option.bind_some, decide_eq_true_eq]
      rw [if_pos (by omega), if_pos (by omega), if_neg (by omega), if_neg (by omega), if_neg (by omega)]

theorem outB_one (lo hi a : Int) : outB lo hi [a] = true ↔ ¬ (lo ≤ a ∧ a ≤ hi) := by
  unfold outB; simp; omega
theorem outB_two (lo hi a b : Int) : outB lo hi [a, b] = true ↔ ¬ ((lo ≤ a ∧ a ≤ hi) ∧ (lo ≤ b ∧ b ≤ hi)) := by
  unfold outB; simp; omega

theorem rName (s : ByteArray) (hs : s.size ≤ 9223372036854775807) : Ev (fun k => helioscoperef01_Name.f k s) (nameB s) := by
  unfold helioscoperef01_Name.f
  simp only [rIn, rletter, Option.bind_some, decide_eq_true_eq]
  by_cases h : 1 ≤ (s.size : Int) ∧ (s.size : Int) ≤ 16
  · have e : nameB s = okTo s s.size := by
      have : outB 1 16 [(s.size : Int)] = false := by rw [Bool.eq_false_iff]; exact fun x => (outB_one _ _ _).1 x h
      unfold nameB; rw [this]; rfl
    rw [e]
    refine Ev.congr (f := fun k => helioscoperef01_Name.j0 k s (!decide (97 ≤ bt s 0 ∧ bt s 0 ≤ 122))) (fun k => by rw [if_pos h, if_pos (by omega)]) ?_
    by_cases hb : 97 ≤ bt s 0 ∧ bt s 0 ≤ 122
    · have h1 : okTo s 1 = true := by
        have := (okByte_iff 0 (bt s ((0 : Nat) : Int))).2 (.inl hb)
        simp only [okTo, List.range_succ, List.range_zero, List.nil_append, List.all_cons, List.all_nil, Bool.and_true]
        exact this
      refine Ev.step (f := fun k => helioscoperef01_Name.l0 k s ((1 : Nat) : Int)) (fun k => ?_) (rName_l0 s hs (s.size - 1) 1 (by omega) (by omega) h1)
      simp only [helioscoperef01_Name.j0, decide_eq_true hb]
      rfl
    · have h1 : okTo s 1 = false := by
        have := okByte_not 0 (bt s ((0 : Nat) : Int)) (fun x => by rcases x with x | x; exact hb x; omega)
        simp only [okTo, List.range_succ, List.range_zero, List.nil_append, List.all_cons, List.all_nil, Bool.and_true]
        exact this
      rw [okTo_le s (by omega) h1]
      refine Ev.step (f := fun _ => some false) (fun k => ?_) (Ev.now _)
      simp only [helioscoperef01_Name.j0, decide_eq_false hb]
      rfl
  · have e : nameB s = false := by
      have : outB 1 16 [(s.size : Int)] = true := (outB_one _ _ _).2 h
      unfold nameB; rw [this]; rfl
    rw [e]
    refine Ev.step (f := fun _ => some false) (fun k => ?_) (Ev.now _)
    rw [if_neg h]
    simp only [helioscoperef01_Name.j0, if_true]

theorem rEnds (lo hi a b : Int) : Ev (fun k => helioscoperef01_Ends.f k lo hi a b) (if outB a b [lo, hi] = true then 7 else if hi < lo then 2 else 0) := by
  unfold helioscoperef01_Ends.f
  simp only [rIn, Option.bind_some, decide_eq_true_eq]
  refine Ev.step (f := fun _ => some (if outB a b [lo, hi] = true then 7 else if hi < lo then 2 else 0)) (fun k => ?_) (Ev.now _)
  simp only [outB_two, helioscoperef01_Ends.j0]
  by_cases h1 : a ≤ lo ∧ lo ≤ b <;> by_cases h2 : a ≤ hi ∧ hi ≤ b <;> simp [h1, h2] <;> split <;> simp_all <;> omega

def toldE (D : Dat) : Int × Int × Int := if (firstL D.told 4 (errT D.spots.length)).2 ≠ 0 then (3, firstL D.told 4 (errT D.spots.length)) else (0, 0, 0)
def toldFrom (D : Dat) (i : Nat) : Int × Int × Int := if (firstE (errT D.spots.length) (D.told.drop i) i).2 ≠ 0 then (3, firstE (errT D.spots.length) (D.told.drop i) i) else (0, 0, 0)
def spotsFrom (D : Dat) (i : Nat) : Int × Int × Int := if (firstE (errS D.spots) (D.spots.drop i) i).2 ≠ 0 then (2, firstE (errS D.spots) (D.spots.drop i) i) else toldE D

theorem firstE_drop {α : Type} (E : Nat → α → Int) (l : List α) (i : Nat) (h : i < l.length) : firstE E (l.drop i) i = if E i l[i] = 0 then firstE E (l.drop (i + 1)) (i + 1) else (((i : Nat) : Int), E i l[i]) := by
  rw [List.drop_eq_getElem_cons h]; rfl
theorem toldFrom_at (D : Dat) (i : Nat) (h : i < D.told.length) : toldFrom D i = if errT D.spots.length i D.told[i] = 0 then toldFrom D (i + 1) else (3, (i : Int), errT D.spots.length i D.told[i]) := by
  unfold toldFrom
  rw [firstE_drop _ _ _ h]
  by_cases e : errT D.spots.length i D.told[i] = 0
  · simp only [if_pos e]
  · simp only [if_neg e, ne_eq]
    rw [if_pos e]
theorem spotsFrom_at (D : Dat) (i : Nat) (h : i < D.spots.length) : spotsFrom D i = if errS D.spots i D.spots[i] = 0 then spotsFrom D (i + 1) else (2, (i : Int), errS D.spots i D.spots[i]) := by
  unfold spotsFrom
  rw [firstE_drop _ _ _ h]
  by_cases e : errS D.spots i D.spots[i] = 0
  · simp only [if_pos e]
  · simp only [if_neg e, ne_eq]
    rw [if_pos e]

theorem rindex (nm : ByteArray) (rad lo hi : Int) (l : List Spot) (t : List Told) (a : Int) (hl : l.length ≤ 9223372036854775807) : helioscoperef01_index.f nm rad lo hi l t a = some (decide (0 ≤ a ∧ a ≤ (l.length : Int) - 1)) := by
  unfold helioscoperef01_index.f
  have e : wrap64 ((l.length : Int) - 1) = (l.length : Int) - 1 := by unfold wrap64; omega
  rw [e, rIn]; rfl

theorem rCheck_l2 (D : Dat) (hl : D.spots.length ≤ 9223372036854775807) (ht : D.told.length ≤ 9223372036854775807) : ∀ (d i : Nat), i + d = D.told.length →
    Ev (fun k => helioscoperef01_Check.l2 k (i : Int) D.nm D.rad D.lo D.hi D.spots D.told) (toldFrom D i)
  | 0, i, hd => by
    have e : toldFrom D i = (0, 0, 0) := by unfold toldFrom; rw [List.drop_eq_nil_of_le (by omega)]; rfl
    rw [e]
    exact Ev.step (f := fun _ => some (0, 0, 0)) (fun k => by simp only [helioscoperef01_Check.l2]; rw [if_neg (by omega)]) (Ev.now _)
  | d + 1, i, hd => by
    have ih := rCheck_l2 D hl ht d (i + 1) (by omega)
    have hi : i < D.told.length := by omega
    rw [toldFrom_at D i hi]
    rw [show errT D.spots.length i D.told[i] = if outB 0 ((D.spots.length : Int) - 1) [D.told[i].f0, D.told[i].f1] then 4 else if D.told[i].f0 = D.told[i].f1 then 2 else 0 from rfl]
    have hO := outB_two 0 ((D.spots.length : Int) - 1) D.told[i].f0 D.told[i].f1
    have s1 : ∀ k, helioscoperef01_Check.l2 (k + 1) (i : Int) D.nm D.rad D.lo D.hi D.spots D.told = helioscoperef01_Check.j5 k (i : Int) (outB 0 ((D.spots.length : Int) - 1) [D.told[i].f0, D.told[i].f1]) D.nm D.rad D.lo D.hi D.spots D.told D.told[i].f0 D.told[i].f1 D.told[i].f2 := by
      intro k
      simp only [helioscoperef01_Check.l2, rindex _ _ _ _ _ _ _ hl, Option.bind_some, decide_eq_true_eq]
      rw [if_pos (by omega), if_pos (by omega), told_at _ _ hi]
      generalize D.told[i] = t at *
      by_cases h0 : 0 ≤ t.f0 ∧ t.f0 ≤ (D.spots.length : Int) - 1
      · rw [if_pos h0]
        by_cases h1 : 0 ≤ t.f1 ∧ t.f1 ≤ (D.spots.length : Int) - 1
        · rw [decide_eq_true h1, Bool.eq_false_iff.2 (fun x => hO.1 x ⟨h0, h1⟩)]; rfl
        · rw [decide_eq_false h1, hO.2 (fun x => h1 x.2)]; rfl
      · rw [if_neg h0, hO.2 (fun x => h0 x.1)]
    refine Ev.step s1 ?_
    generalize outB 0 ((D.spots.length : Int) - 1) [D.told[i].f0, D.told[i].f1] = o
    cases o
    · by_cases he : D.told[i].f0 = D.told[i].f1
      · refine Ev.step (f := fun _ => some (3, (i : Int), 2)) (fun k => ?_) (by simp only [he]; exact Ev.now _)
        simp only [helioscoperef01_Check.j5, he]; rfl
      · refine Ev.step (f := fun k => helioscoperef01_Check.l2 k ((i + 1 : Nat) : Int) D.nm D.rad D.lo D.hi D.spots D.told) (fun k => ?_) (by simp only [he]; exact ih)
        simp only [helioscoperef01_Check.j5]
        rw [wrapN (by omega), if_neg he]; rfl
    · exact Ev.step (f := fun _ => some (3, (i : Int), 4)) (fun k => by simp only [helioscoperef01_Check.j5]; rfl) (Ev.now _)

theorem rCheck_l1 (D : Dat) (i : Nat) (hi : i < D.spots.length) (hl : D.spots.length ≤ 9223372036854775807) (b : Bool)
    (ih : Ev (fun k => helioscoperef01_Check.l0 k ((i + 1 : Nat) : Int) D.nm D.rad D.lo D.hi D.spots D.told) (spotsFrom D (i + 1))) : ∀ (d j : Nat), j + d = i → (D.spots.take j).any (sameAs D.spots[i]) = false →
    Ev (fun k => helioscoperef01_Check.l1 k (i : Int) (j : Int) D.nm D.rad D.lo D.hi D.spots D.told D.spots[i].f0 D.spots[i].f1 b) (if (D.spots.take i).any (sameAs D.spots[i]) = true then (2, (i : Int), 5) else spotsFrom D (i + 1))
  | 0, j, hd, h => by
    obtain rfl : j = i := by omega
    rw [h]
    refine Ev.step (f := fun k => helioscoperef01_Check.l0 k ((j + 1 : Nat) : Int) D.nm D.rad D.lo D.hi D.spots D.told) (fun k => ?_) ih
    simp only [helioscoperef01_Check.l1]
    rw [if_neg (by omega), wrapN (by omega)]
  | d + 1, j, hd, h => by
    have hj : j < D.spots.length := by omega
    have ht : (D.spots.take (j + 1)).any (sameAs D.spots[i]) = sameAs D.spots[i] D.spots[j] := by
      rw [List.take_add_one, List.getElem?_eq_getElem hj, List.any_append, h]; simp
    by_cases hs : D.spots[j].f0 = D.spots[i].f0 ∧ D.spots[j].f1 = D.spots[i].f1
    · have h1 : (D.spots.take i).any (sameAs D.spots[i]) = true := by
        have : (D.spots.take (j + 1)).any (sameAs D.spots[i]) = true := by rw [ht]; simp [sameAs, hs.1, hs.2]
        obtain ⟨x, hx, hp⟩ := List.any_eq_true.1 this
        refine List.any_eq_true.2 ⟨x, ?_, hp⟩
        have : D.spots.take (j + 1) = (D.spots.take i).take (j + 1) := by rw [List.take_take, Nat.min_eq_left (by omega)]
        rw [this] at hx
        exact List.mem_of_mem_take hx
      rw [h1]
      refine Ev.step (f := fun _ => some (2, (i : Int), 5)) (fun k => ?_) (Ev.now _)
      simp only [helioscoperef01_Check.l1]
      rw [if_pos (by omega), if_pos (by omega), if_pos (by omega), spot_at _ _ hj, if_pos hs.1, if_pos hs.2]
    · have h1 : (D.spots.take (j + 1)).any (sameAs D.spots[i]) = false := by
        rw [ht, Bool.eq_false_iff]; simp only [sameAs, ne_eq, Bool.and_eq_true, beq_iff_eq]; exact hs
      refine Ev.step (f := fun k => helioscoperef01_Check.l1 k (i : Int) ((j + 1 : Nat) : Int) D.nm D.rad D.lo D.hi D.spots D.told D.spots[i].f0 D.spots[i].f1 b) (fun k => ?_) (rCheck_l1 D i hi hl b ih d (j + 1) (by omega) h1)
      simp only [helioscoperef01_Check.l1]
      rw [if_pos (by omega), if_pos (by omega), if_pos (by omega), spot_at _ _ hj, wrapN (by omega)]
      by_cases e0 : D.spots[j].f0 = D.spots[i].f0
      · rw [if_pos e0, if_neg (fun e1 => hs ⟨e0, e1⟩)]
      · rw [if_neg e0]

theorem rCheck_l0 (D : Dat) (hl : D.spots.length ≤ 9223372036854775807) (ht : D.told.length ≤ 9223372036854775807) : ∀ (d i : Nat), i + d = D.spots.length →
    Ev (fun k => helioscoperef01_Check.l0 k (i : Int) D.nm D.rad D.lo D.hi D.spots D.told) (spotsFrom D i)
  | 0, i, hd => by
    have e : spotsFrom D i = toldE D := by unfold spotsFrom; rw [List.drop_eq_nil_of_le (by omega)]; rfl
    rw [e]
    by_cases h4 : (D.told.length : Int) > 4
    · have e : toldE D = (3, 0, 3) := by unfold toldE firstL; rw [if_pos h4]; rfl
      rw [e]
      exact Ev.step (f := fun _ => some (3, 0, 3)) (fun k => by simp only [helioscoperef01_Check.l0]; rw [if_neg (by omega), if_pos h4]) (Ev.now _)
    · have e : toldE D = toldFrom D 0 := by unfold toldE firstL; rw [if_neg h4]; rfl
      rw [e]
      exact Ev.step (f := fun k => helioscoperef01_Check.l2 k ((0 : Nat) : Int) D.nm D.rad D.lo D.hi D.spots D.told) (fun k => by simp only [helioscoperef01_Check.l0]; rw [if_neg (by omega), if_neg h4]; rfl) (rCheck_l2 D hl ht _ 0 (Nat.zero_add _))
  | d + 1, i, hd => by
    have ih := rCheck_l0 D hl ht d (i + 1) (by omega)
    have hi : i < D.spots.length := by omega
    rw [spotsFrom_at D i hi]
    rw [show errS D.spots i D.spots[i] = if outB (-12) 12 [D.spots[i].f0, D.spots[i].f1] then 7 else if (D.spots.take i).any (sameAs D.spots[i]) then 5 else 0 from rfl]
    have hO := outB_two (-12) 12 D.spots[i].f0 D.spots[i].f1
    have s1 : ∀ k, helioscoperef01_Check.l0 (k + 1) (i : Int) D.nm D.rad D.lo D.hi D.spots D.told = helioscoperef01_Check.j2 k (i : Int) (outB (-12) 12 [D.spots[i].f0, D.spots[i].f1]) D.nm D.rad D.lo D.hi D.spots D.told D.spots[i].f0 D.spots[i].f1 D.spots[i].f2 := by
      intro k
      simp only [helioscoperef01_Check.l0, rIn, Option.bind_some, decide_eq_true_eq]
      rw [if_pos (by omega), if_pos (by omega), spot_at _ _ hi]
      generalize D.spots[i] = t at *
      by_cases h0 : -12 ≤ t.f0 ∧ t.f0 ≤ 12
      · rw [if_pos h0]
        by_cases h1 : -12 ≤ t.f1 ∧ t.f1 ≤ 12
        · rw [decide_eq_true h1, Bool.eq_false_iff.2 (fun x => hO.1 x ⟨h0, h1⟩)]; rfl
        · rw [decide_eq_false h1, hO.2 (fun x => h1 x.2)]; rfl
      · rw [if_neg h0, hO.2 (fun x => h0 x.1)]
    refine Ev.step s1 ?_
    generalize outB (-12) 12 [D.spots[i].f0, D.spots[i].f1] = o
    cases o
    · have hh := rCheck_l1 D i hi hl D.spots[i].f2 ih i 0 (by omega) (by simp)
      refine Ev.step (f := fun k => helioscoperef01_Check.l1 k (i : Int) ((0 : Nat) : Int) D.nm D.rad D.lo D.hi D.spots D.told D.spots[i].f0 D.spots[i].f1 D.spots[i].f2) (fun k => by simp only [helioscoperef01_Check.j2]; rfl) ?_
      generalize (D.spots.take i).any (sameAs D.spots[i]) = b at hh ⊢
      cases b
      · exact hh
      · exact hh
    · exact Ev.step (f := fun _ => some (2, (i : Int), 7)) (fun k => by simp only [helioscoperef01_Check.j2]; rfl) (Ev.now _)

theorem rCheck (D : Dat) (hn : D.nm.size ≤ 9223372036854775807) (hl : D.spots.length ≤ 9223372036854775807) (ht : D.told.length ≤ 9223372036854775807) :
    Ev (fun k => helioscoperef01_Check.f k D.nm D.rad D.lo D.hi D.spots D.told) (checkF D) := by
  unfold helioscoperef01_Check.f checkF
  refine Ev.bind (rName D.nm hn) ?_
  by_cases h0 : nameB D.nm = true
  · simp only [h0, if_true, Bool.true_eq_false, if_false]
    refine Ev.bind (rEnds D.lo D.hi 0 12) ?_
    simp only [rIn, Option.bind_some, decide_eq_true_eq]
    have h1 := outB_one 1 12 D.rad
    generalize outB 1 12 [D.rad] = o1 at h1
    generalize outB 0 12 [D.lo, D.hi] = o2
    have hc : ∀ k, (if 1 ≤ D.rad ∧ D.rad ≤ 12 then helioscoperef01_Check.j0 k (if o2 = true then 7 else if D.hi < D.lo then 2 else 0) ((if o2 = true then (7 : Int) else if D.hi < D.lo then 2 else 0) == 7) D.nm D.rad D.lo D.hi D.spots D.told else helioscoperef01_Check.j0 k (if o2 = true then 7 else if D.hi < D.lo then 2 else 0) true D.nm D.rad D.lo D.hi D.spots D.told) =
        helioscoperef01_Check.j0 k (if o2 = true then 7 else if D.hi < D.lo then 2 else 0) (o1 || o2) D.nm D.rad D.lo D.hi D.spots D.told := by
      intro k
      by_cases hr : 1 ≤ D.rad ∧ D.rad ≤ 12
      · have e1 : o1 = false := Bool.eq_false_iff.2 (fun x => h1.1 x hr)
        rw [if_pos hr, e1]
        congr 1
        cases o2
        · by_cases h : D.hi < D.lo <;> simp [h]
        · rfl
      · rw [if_neg hr, h1.2 hr]; rfl
    refine Ev.congr hc ?_
    generalize hoo : (o1 || o2) = o
    cases o
    · have e2 : o2 = false := by cases o1 <;> simp_all
      subst e2
      by_cases h : D.hi < D.lo
      · refine Ev.step (f := fun _ => some (1, 0, 2)) (fun k => ?_) (by simp only [h]; exact Ev.now _)
        simp only [helioscoperef01_Check.j0, h]; rfl
      · simp only [h, Bool.false_eq_true, if_false]
        by_cases h7 : (D.spots.length : Int) > 7
        · refine Ev.step (f := fun _ => some (2, 0, 3)) (fun k => ?_) ?_
          · simp only [helioscoperef01_Check.j0, h7]; rfl
          · have e : firstL D.spots 7 (errS D.spots) = (0, 3) := by unfold firstL; rw [if_pos h7]
            rw [e]; exact Ev.now _
        · refine Ev.step (f := fun k => helioscoperef01_Check.l0 k ((0 : Nat) : Int) D.nm D.rad D.lo D.hi D.spots D.told) (fun k => ?_) ?_
          · simp only [helioscoperef01_Check.j0, h7]; rfl
          · have hh := rCheck_l0 D hl ht _ 0 (Nat.zero_add _)
            have e : spotsFrom D 0 = if (firstL D.spots 7 (errS D.spots)).2 ≠ 0 then (2, firstL D.spots 7 (errS D.spots)) else toldE D := by
              have : firstL D.spots 7 (errS D.spots) = firstE (errS D.spots) D.spots 0 := by unfold firstL; rw [if_neg h7]
              rw [this]; rfl
            rw [e] at hh
            exact hh
    · exact Ev.step (f := fun _ => some (1, 0, 7)) (fun k => by simp only [helioscoperef01_Check.j0]; rfl) (Ev.now _)
  · have e : nameB D.nm = false := by simpa using h0
    simp only [e, Bool.false_eq_true, if_false, if_true]
    exact Ev.now _
end Go.Proofs.Ytemeapfnfegkiaa.D
end
