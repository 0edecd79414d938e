/- Contracts of the functions that this claim reaches, with the words for them: pruned and packed by wip/tools/prune.py. -/
import Derived.Test.YtgoidclnccjdeaaUb
import Derived.Deep.QuietTactic
section
namespace Go.Proofs.Ytgoidclnccjdeaa.PR
open Go.RowKit Go.Proofs.YtgoidclnccjdeaaW.PrintWords Go.Proofs.YtgoidclnccjdeaaW.PrintLast Go.Proofs.YtgoidclnccjdeaaW.PrintMore
attribute [local go_sem] max2_int min2_int max_two min_two max_three min_three max_four min_four   -- for this text's walks alone
set_option linter.unusedVariables false
set_option linter.unusedSimpArgs false

end Go.Proofs.Ytgoidclnccjdeaa.PR
end
section
namespace Go.Proofs.Ytgoidclnccjdeaa.PR
open Go.RowKit Go.Proofs.YtgoidclnccjdeaaW.PrintWords Go.Proofs.YtgoidclnccjdeaaW.PrintLast Go.Proofs.YtgoidclnccjdeaaW.PrintMore
attribute [local go_sem] max2_int min2_int max_two min_two max_three min_three max_four min_four   -- for this text's walks alone
set_option linter.unusedVariables false
set_option linter.unusedSimpArgs false

end Go.Proofs.Ytgoidclnccjdeaa.PR
end
section
/- The reference's Truths (by hand). -/
namespace Go.Proofs.Ytgoidclnccjdeaa.PR
open Go Go.RowKit Go.Proofs.YtgoidclnccjdeaaK Go.Proofs.Ytgoidclnccjdeaa.D Go.Proofs.YtgoidclnccjdeaaW.PrintWords Go.Proofs.YtgoidclnccjdeaaW.PrintLast Go.Proofs.YtgoidclnccjdeaaW.PrintMore
set_option linter.unusedVariables false
set_option linter.unusedSimpArgs false

end Go.Proofs.Ytgoidclnccjdeaa.PR
end
section
namespace Go.Proofs.Ytgoidclnccjdeaa.PR
open Go.RowKit Go.Proofs.YtgoidclnccjdeaaW.PrintWords Go.Proofs.YtgoidclnccjdeaaW.PrintLast Go.Proofs.YtgoidclnccjdeaaW.PrintMore
attribute [local go_sem] max2_int min2_int max_two min_two max_three min_three max_four min_four   -- for this text's walks alone
set_option linter.unusedVariables false
set_option linter.unusedSimpArgs false

end Go.Proofs.Ytgoidclnccjdeaa.PR
end
section
namespace Go.Proofs.Ytgoidclnccjdeaa.PR
open Go.RowKit Go.Proofs.YtgoidclnccjdeaaW.PrintWords Go.Proofs.YtgoidclnccjdeaaW.PrintLast Go.Proofs.YtgoidclnccjdeaaW.PrintMore
attribute [local go_sem] max2_int min2_int max_two min_two max_three min_three max_four min_four   -- for this text's walks alone
set_option linter.unusedVariables false
set_option linter.unusedSimpArgs false

def helioscopelaw07_span.f (a0 : Int) (a1 : Int) : Option (Int × Int) := some (a0, a1)
set_option maxHeartbeats 8000000 in
set_option maxRecDepth 100000 in
theorem helioscopelaw07_span.calls (a0 : Int) (a1 : Int) (r1 : Int) (r2 : Int) (w : World) (h : helioscopelaw07_span.f a0 a1 = some (r1, r2)) :
  Calls Try.prog 38 #[.int .i64 a0, .int .i64 a1] w fun e w' => e = .returned (.agg #[.int .i64 r1, .int .i64 r2]) ∧ Below w.heap.size w w' := by
 have hu24 := Try.underlying24
 have HB := Aside0.mk (Below.refl w.heap.size w)
 have H : (some (a0, a1)) = some (r1, r2) := h
 clear h
 simp only [Option.some.injEq, Prod.mk.injEq] at H
 obtain ⟨rfl, rfl⟩ := H
 go_enter Try.func38, Try.ntmps38
 go_wp2_with (first | ((with_reducible refine gate_dst (N := 4) rfl ?_); refine box_event ?hg (N := 4) ?hd (cs := #[.int .i64 0, .int .i64 0]) (t := 24) ?hr ?_; (case hd => rfl); (case hg => rfl); (case hr => first | (go_simp; done) | (go_simp; rfl)); intro gb356 hg w3 hbox hb; have n0_ := Aside0.mk (below_step (by repeat (first | (with_reducible first | exact HB.out | apply below_alloc | apply pw_below_drewN | apply below_drew1) | exact HB.out)) hb); have n1_ := Aside0.mk (hbox); have n2_ := Aside0.mk ((by rw [hg]; exact (below_size (by repeat (first | (with_reducible first | exact HB.out | apply below_alloc | apply pw_below_drewN | apply below_drew1) | exact HB.out))) : w.heap.size ≤ gb356)); have n3_ := Aside0.mk ((by rw [hg]; exact (below_size (by repeat (first | (with_reducible first | exact HB.out | apply below_alloc | apply pw_below_drewN | apply below_drew1) | exact HB.out))) : w.heap.size ≤ gb356)); clear HB; have HB := n0_; have BK356 := n1_; have GW356 := n2_; have GE356 := n3_; clear n0_ n1_ n2_ n3_; clear hb hbox hg; have hcz4_0 : w3.cell? ⟨gb356, 0, none⟩ = some (.int .i64 0) := (blk_cell BK356.out 0).trans rfl; have hcz4_1 : w3.cell? ⟨gb356, 1, none⟩ = some (.int .i64 0) := (blk_cell BK356.out 1).trans rfl; have hfz4_0 := blk_frozen BK356.out 0; have hfz4_1 := blk_frozen BK356.out 1))
 refine bodyPost_ret (results_cell_row rfl _ _ gb356 24 #[.int .i64 a0, .int .i64 a1] (0, 0) _ rfl (by (with_reducible repeat (first | refine blk_drewN ?_ _ | refine blk_drew ?_ | refine blk_alloc ?_ _)); refine blk_put (cs := #[.int .i64 a0, .int .i64 0]) ?_ 1 _ rfl; (with_reducible repeat (first | refine blk_drewN ?_ _ | refine blk_drew ?_ | refine blk_alloc ?_ _)); refine blk_put (cs := #[.int .i64 0, .int .i64 0]) ?_ 0 _ rfl; (with_reducible repeat (first | refine blk_drewN ?_ _ | refine blk_drew ?_ | refine blk_alloc ?_ _)); exact BK356.out) Try.underlying24 rfl (by kernel_rfl)) rfl ?_
 exact ⟨by first | rfl | (simp [errW_none, errW_some] <;> rfl) | (simp [*, errW_none, errW_some] <;> rfl), by repeat (first | (with_reducible first | exact HB.out | apply below_alloc | apply pw_below_drewN | apply below_drew1 | refine below_set ?_ GE356.out) | exact HB.out)⟩

end Go.Proofs.Ytgoidclnccjdeaa.PR
end
section
namespace Go.Proofs.Ytgoidclnccjdeaa.PR
open Go.RowKit Go.Proofs.YtgoidclnccjdeaaW.PrintWords Go.Proofs.YtgoidclnccjdeaaW.PrintLast Go.Proofs.YtgoidclnccjdeaaW.PrintMore
attribute [local go_sem] max2_int min2_int max_two min_two max_three min_three max_four min_four   -- for this text's walks alone
set_option linter.unusedVariables false
set_option linter.unusedSimpArgs false

def helioscopelaw07_Shelf.f (l0 : List (S72)) : Option ((List (S95)) × Int × Int × (List (S24)) × (List (S72))) := (helioscopelaw07_span.f 8 10).bind fun bt435 => ((helioscopelaw07_span.f 3 5).bind fun bt437 => ((helioscopelaw07_span.f 0 1).bind fun bt442 => ((helioscopelaw07_span.f 4 6).bind fun bt444 => ((helioscopelaw07_span.f 9 11).bind fun bt446 => ((helioscopelaw07_span.f 12 12).bind fun bt448 => ((some (([(⟨0, 0, 6⟩ : S72), (⟨(-1), 2, 4⟩ : S72)] : List (S72)) : List (S72))).bind fun y453 => (if y453.length + l0.length < 5864062014805 then (some ((([(⟨(⟨#[111, 108, 100]⟩ : ByteArray), (⟨bt435.1, bt435.2⟩ : S24)⟩ : S95), (⟨(⟨#[110, 101, 119]⟩ : ByteArray), (⟨bt437.1, bt437.2⟩ : S24)⟩ : S95)] : List (S95))), bt442.1, bt442.2, (([(⟨bt444.1, bt444.2⟩ : S24), (⟨bt446.1, bt446.2⟩ : S24), (⟨bt448.1, bt448.2⟩ : S24)] : List (S24))), (y453 ++ l0))) else (none))))))))
set_option maxHeartbeats 8000000 in
set_option maxRecDepth 100000 in
theorem helioscopelaw07_Shelf.calls (A0 : Option Addr) (c0 : Nat) (l0 : List (S72)) (r1 : List (S95)) (r2 : Int) (r3 : Int) (r4 : List (S24)) (r5 : List (S72)) (w : World) (hr0 : Kd.C k72 w A0 l0.length l0) (hc0 : l0.length ≤ c0) (h : helioscopelaw07_Shelf.f l0 = some (r1, r2, r3, r4, r5)) :
  Calls Try.prog 37 #[.slice A0 l0.length c0] w fun e w' => ∃ v0_ v3_ v4_ : Value, e = .returned (.agg #[v0_, .int .i64 r2, .int .i64 r3, v3_, v4_]) ∧ Kd.R k95 95 w' w.heap.size (fun _ => True) v0_ r1 ∧ Kd.R k24 24 w' w.heap.size (fun _ => True) v3_ r4 ∧ Kd.R k72 72 w' w.heap.size (fun _ => True) v4_ r5 ∧ Below w.heap.size w w' := by
 have hu28 := Try.underlying28
 have hu95 := Try.underlying95
 have hu72 := Try.underlying72
 have HR0 := Aside0.mk hr0
 have HC0 := Aside0.mk hc0
 clear hr0 hc0
 have HB := Aside0.mk (Below.refl w.heap.size w)
 have H : ((helioscopelaw07_span.f 8 10).bind fun bt435 => ((helioscopelaw07_span.f 3 5).bind fun bt437 => ((helioscopelaw07_span.f 0 1).bind fun bt442 => ((helioscopelaw07_span.f 4 6).bind fun bt444 => ((helioscopelaw07_span.f 9 11).bind fun bt446 => ((helioscopelaw07_span.f 12 12).bind fun bt448 => ((some (([(⟨0, 0, 6⟩ : S72), (⟨(-1), 2, 4⟩ : S72)] : List (S72)) : List (S72))).bind fun y453 => (if y453.length + l0.length < 5864062014805 then (some ((([(⟨(⟨#[111, 108, 100]⟩ : ByteArray), (⟨bt435.1, bt435.2⟩ : S24)⟩ : S95), (⟨(⟨#[110, 101, 119]⟩ : ByteArray), (⟨bt437.1, bt437.2⟩ : S24)⟩ : S95)] : List (S95))), bt442.1, bt442.2, (([(⟨bt444.1, bt444.2⟩ : S24), (⟨bt446.1, bt446.2⟩ : S24), (⟨bt448.1, bt448.2⟩ : S24)] : List (S24))), (y453 ++ l0))) else (none))))))))) = some (r1, r2, r3, r4, r5) := h
 clear h
 replace H := Option.bind_eq_some_iff.mp H
 obtain ⟨⟨t435, t436⟩, A20, H⟩ := H
 replace H : ((helioscopelaw07_span.f 3 5).bind fun bt437 => ((helioscopelaw07_span.f 0 1).bind fun bt442 => ((helioscopelaw07_span.f 4 6).bind fun bt444 => ((helioscopelaw07_span.f 9 11).bind fun bt446 => ((helioscopelaw07_span.f 12 12).bind fun bt448 => ((some (([(⟨0, 0, 6⟩ : S72), (⟨(-1), 2, 4⟩ : S72)] : List (S72)) : List (S72))).bind fun y453 => (if y453.length + l0.length < 5864062014805 then (some ((([(⟨(⟨#[111, 108, 100]⟩ : ByteArray), (⟨t435, t436⟩ : S24)⟩ : S95), (⟨(⟨#[110, 101, 119]⟩ : ByteArray), (⟨bt437.1, bt437.2⟩ : S24)⟩ : S95)] : List (S95))), bt442.1, bt442.2, (([(⟨bt444.1, bt444.2⟩ : S24), (⟨bt446.1, bt446.2⟩ : S24), (⟨bt448.1, bt448.2⟩ : S24)] : List (S24))), (y453 ++ l0))) else (none)))))))) = some (r1, r2, r3, r4, r5) := H
 have A2 := Aside0.mk A20
 clear A20
 replace H := Option.bind_eq_some_iff.mp H
 obtain ⟨⟨t437, t438⟩, A30, H⟩ := H
 replace H : ((helioscopelaw07_span.f 0 1).bind fun bt442 => ((helioscopelaw07_span.f 4 6).bind fun bt444 => ((helioscopelaw07_span.f 9 11).bind fun bt446 => ((helioscopelaw07_span.f 12 12).bind fun bt448 => ((some (([(⟨0, 0, 6⟩ : S72), (⟨(-1), 2, 4⟩ : S72)] : List (S72)) : List (S72))).bind fun y453 => (if y453.length + l0.length < 5864062014805 then (some ((([(⟨(⟨#[111, 108, 100]⟩ : ByteArray), (⟨t435, t436⟩ : S24)⟩ : S95), (⟨(⟨#[110, 101, 119]⟩ : ByteArray), (⟨t437, t438⟩ : S24)⟩ : S95)] : List (S95))), bt442.1, bt442.2, (([(⟨bt444.1, bt444.2⟩ : S24), (⟨bt446.1, bt446.2⟩ : S24), (⟨bt448.1, bt448.2⟩ : S24)] : List (S24))), (y453 ++ l0))) else (none))))))) = some (r1, r2, r3, r4, r5) := H
 have A3 := Aside0.mk A30
 clear A30
 obtain ⟨y439, hy439⟩ : ∃ y_ : List (S95), y_ = (([(⟨(⟨#[111, 108, 100]⟩ : ByteArray), (⟨t435, t436⟩ : S24)⟩ : S95), (⟨(⟨#[110, 101, 119]⟩ : ByteArray), (⟨t437, t438⟩ : S24)⟩ : S95)] : List (S95))) := ⟨_, rfl⟩
 replace H : ((helioscopelaw07_span.f 0 1).bind fun bt442 => ((helioscopelaw07_span.f 4 6).bind fun bt444 => ((helioscopelaw07_span.f 9 11).bind fun bt446 => ((helioscopelaw07_span.f 12 12).bind fun bt448 => ((some (([(⟨0, 0, 6⟩ : S72), (⟨(-1), 2, 4⟩ : S72)] : List (S72)) : List (S72))).bind fun y453 => (if y453.length + l0.length < 5864062014805 then (some (y439, bt442.1, bt442.2, (([(⟨bt444.1, bt444.2⟩ : S24), (⟨bt446.1, bt446.2⟩ : S24), (⟨bt448.1, bt448.2⟩ : S24)] : List (S24))), (y453 ++ l0))) else (none))))))) = some (r1, r2, r3, r4, r5) := by first | (rw [hy439]; with_reducible exact H) | (have H2_ := (Option.bind_some _ _).symm.trans H; rw [hy439]; with_reducible exact H2_) | (have H2_ := (Option.bind_some _ _).symm.trans H; with_reducible exact H2_) | with_reducible exact H | (rw [hy439]; exact H) | exact H
 have Ny439 := Aside0.mk hy439
 clear hy439
 replace H := Option.bind_eq_some_iff.mp H
 obtain ⟨⟨t442, t443⟩, A40, H⟩ := H
 replace H : ((helioscopelaw07_span.f 4 6).bind fun bt444 => ((helioscopelaw07_span.f 9 11).bind fun bt446 => ((helioscopelaw07_span.f 12 12).bind fun bt448 => ((some (([(⟨0, 0, 6⟩ : S72), (⟨(-1), 2, 4⟩ : S72)] : List (S72)) : List (S72))).bind fun y453 => (if y453.length + l0.length < 5864062014805 then (some (y439, t442, t443, (([(⟨bt444.1, bt444.2⟩ : S24), (⟨bt446.1, bt446.2⟩ : S24), (⟨bt448.1, bt448.2⟩ : S24)] : List (S24))), (y453 ++ l0))) else (none)))))) = some (r1, r2, r3, r4, r5) := H
 have A4 := Aside0.mk A40
 clear A40
 replace H := Option.bind_eq_some_iff.mp H
 obtain ⟨⟨t444, t445⟩, A50, H⟩ := H
 replace H : ((helioscopelaw07_span.f 9 11).bind fun bt446 => ((helioscopelaw07_span.f 12 12).bind fun bt448 => ((some (([(⟨0, 0, 6⟩ : S72), (⟨(-1), 2, 4⟩ : S72)] : List (S72)) : List (S72))).bind fun y453 => (if y453.length + l0.length < 5864062014805 then (some (y439, t442, t443, (([(⟨t444, t445⟩ : S24), (⟨bt446.1, bt446.2⟩ : S24), (⟨bt448.1, bt448.2⟩ : S24)] : List (S24))), (y453 ++ l0))) else (none))))) = some (r1, r2, r3, r4, r5) := H
 have A5 := Aside0.mk A50
 clear A50
 replace H := Option.bind_eq_some_iff.mp H
 obtain ⟨⟨t446, t447⟩, A60, H⟩ := H
 replace H : ((helioscopelaw07_span.f 12 12).bind fun bt448 => ((some (([(⟨0, 0, 6⟩ : S72), (⟨(-1), 2, 4⟩ : S72)] : List (S72)) : List (S72))).bind fun y453 => (if y453.length + l0.length < 5864062014805 then (some (y439, t442, t443, (([(⟨t444, t445⟩ : S24), (⟨t446, t447⟩ : S24), (⟨bt448.1, bt448.2⟩ : S24)] : List (S24))), (y453 ++ l0))) else (none)))) = some (r1, r2, r3, r4, r5) := H
 have A6 := Aside0.mk A60
 clear A60
 replace H := Option.bind_eq_some_iff.mp H
 obtain ⟨⟨t448, t449⟩, A70, H⟩ := H
 replace H : ((some (([(⟨0, 0, 6⟩ : S72), (⟨(-1), 2, 4⟩ : S72)] : List (S72)) : List (S72))).bind fun y453 => (if y453.length + l0.length < 5864062014805 then (some (y439, t442, t443, (([(⟨t444, t445⟩ : S24), (⟨t446, t447⟩ : S24), (⟨t448, t449⟩ : S24)] : List (S24))), (y453 ++ l0))) else (none))) = some (r1, r2, r3, r4, r5) := H
 have A7 := Aside0.mk A70
 clear A70
 obtain ⟨y450, hy450⟩ : ∃ y_ : List (S24), y_ = (([(⟨t444, t445⟩ : S24), (⟨t446, t447⟩ : S24), (⟨t448, t449⟩ : S24)] : List (S24))) := ⟨_, rfl⟩
 replace H : ((some (([(⟨0, 0, 6⟩ : S72), (⟨(-1), 2, 4⟩ : S72)] : List (S72)) : List (S72))).bind fun y453 => (if y453.length + l0.length < 5864062014805 then (some (y439, t442, t443, y450, (y453 ++ l0))) else (none))) = some (r1, r2, r3, r4, r5) := by first | (rw [hy450]; with_reducible exact H) | (have H2_ := (Option.bind_some _ _).symm.trans H; rw [hy450]; with_reducible exact H2_) | (have H2_ := (Option.bind_some _ _).symm.trans H; with_reducible exact H2_) | with_reducible exact H | (rw [hy450]; exact H) | exact H
 have Ny450 := Aside0.mk hy450
 clear hy450
 obtain ⟨y453, hy453⟩ : ∃ y_ : List (S72), y_ = (([(⟨0, 0, 6⟩ : S72), (⟨(-1), 2, 4⟩ : S72)] : List (S72))) := ⟨_, rfl⟩
 replace H : (if y453.length + l0.length < 5864062014805 then (some (y439, t442, t443, y450, (y453 ++ l0))) else (none)) = some (r1, r2, r3, r4, r5) := by first | (rw [hy453]; with_reducible exact H) | (have H2_ := (Option.bind_some _ _).symm.trans H; rw [hy453]; with_reducible exact H2_) | (have H2_ := (Option.bind_some _ _).symm.trans H; with_reducible exact H2_) | with_reducible exact H | (rw [hy453]; exact H) | exact H
 have Ny453 := Aside0.mk hy453
 clear hy453
 by_cases c8 : y453.length + l0.length < 5864062014805
 ·
  rw [if_pos c8] at H
  have LMc8 := Aside0.mk c8
  clear c8
  obtain ⟨y456, hy456⟩ : ∃ y_ : List (S72), y_ = (y453 ++ l0) := ⟨_, rfl⟩
  replace H : (some (y439, t442, t443, y450, y456)) = some (r1, r2, r3, r4, r5) := by first | (rw [hy456]; with_reducible exact H) | (have H2_ := (Option.bind_some _ _).symm.trans H; rw [hy456]; with_reducible exact H2_) | (have H2_ := (Option.bind_some _ _).symm.trans H; with_reducible exact H2_) | with_reducible exact H | (rw [hy456]; exact H) | exact H
  have Ny456 := Aside0.mk hy456
  clear hy456
  simp only [Option.some.injEq, Prod.mk.injEq] at H
  obtain ⟨rfl, rfl, rfl, rfl, rfl⟩ := H
  go_enter Try.func37, Try.ntmps37
  go_wp2_with (first | ((with_reducible refine gate_dst (N := 2) rfl ?_); refine box_event ?hg (N := 2) ?hd (cs := #[.slice none 0 0, .int .i64 0, .int .i64 0, .slice none 0 0, .slice none 0 0]) (t := 28) ?hr ?_; (case hd => rfl); (case hg => rfl); (case hr => first | (go_simp; done) | (go_simp; rfl)); intro gb434 hg w9 hbox hb; have n0_ := Aside0.mk (below_step (by repeat (first | (with_reducible first | exact HB.out | apply below_alloc | apply pw_below_drewN | apply below_drew1) | exact HB.out)) hb); have n1_ := Aside0.mk (hbox); have n2_ := Aside0.mk ((by rw [hg]; exact (below_size (by repeat (first | (with_reducible first | exact HB.out | apply below_alloc | apply pw_below_drewN | apply below_drew1) | exact HB.out))) : w.heap.size ≤ gb434)); have n3_ := Aside0.mk ((by rw [hg]; exact (below_size (by repeat (first | (with_reducible first | exact HB.out | apply below_alloc | apply pw_below_drewN | apply below_drew1) | exact HB.out))) : w.heap.size ≤ gb434)); clear HB; have HB := n0_; have BK434 := n1_; have GW434 := n2_; have GE434 := n3_; clear n0_ n1_ n2_ n3_; clear hb hbox hg) | ((with_reducible refine gate_callee (f := 38) rfl ?_); refine goesL_ (some 3) rfl rfl Try.func38 (by kernel_rfl) rfl #[.int .i64 8, .int .i64 10] rfl (by (try simp only [List.map_toArray, List.map_cons, List.map_nil]); first | done | rfl | (simp only [List.length_drop, List.length_take]; rfl)) ?_; (with_reducible refine (helioscopelaw07_span.calls 8 10 t435 t436 _ A2.out).mono ?_); rintro e w10 ⟨rfl, hb⟩; refine ⟨_, rfl, ?_⟩; have n0_ := Aside0.mk (blk_below (g := gb434) (o := .cells #[.slice none 0 0, .int .i64 0, .int .i64 0, .slice none 0 0, .slice none 0 0] 28 (0, 0)) (by (with_reducible repeat (first | refine blk_drewN ?_ _ | refine blk_drew ?_ | refine blk_alloc ?_ _)); exact BK434.out) hb); have n1_ := Aside0.mk (below_step (by repeat (first | (with_reducible first | exact HB.out | apply below_alloc | apply pw_below_drewN | apply below_drew1 | refine below_set ?_ GE434.out) | exact HB.out)) hb); clear BK434; clear HB; have BK434 := n0_; have HB := n1_; clear n0_ n1_; (try clear hb); (try clear hb2); (try clear hk); (try clear hi)) | ((with_reducible refine gate_callee (f := 38) rfl ?_); refine goesL_ (some 5) rfl rfl Try.func38 (by kernel_rfl) rfl #[.int .i64 3, .int .i64 5] rfl (by (try simp only [List.map_toArray, List.map_cons, List.map_nil]); first | done | rfl | (simp only [List.length_drop, List.length_take]; rfl)) ?_; (with_reducible refine (helioscopelaw07_span.calls 3 5 t437 t438 _ A3.out).mono ?_); rintro e w11 ⟨rfl, hb⟩; refine ⟨_, rfl, ?_⟩; have n0_ := Aside0.mk (blk_below (g := gb434) (o := .cells #[.slice none 0 0, .int .i64 0, .int .i64 0, .slice none 0 0, .slice none 0 0] 28 (0, 0)) (by (with_reducible repeat (first | refine blk_drewN ?_ _ | refine blk_drew ?_ | refine blk_alloc ?_ _)); exact BK434.out) hb); have n1_ := Aside0.mk (below_step (by repeat (first | (with_reducible first | exact HB.out | apply below_alloc | apply pw_below_drewN | apply below_drew1 | refine below_set ?_ GE434.out) | exact HB.out)) hb); clear BK434; clear HB; have BK434 := n0_; have HB := n1_; clear n0_ n1_; (try clear hb); (try clear hb2); (try clear hk); (try clear hi)) | ((with_reducible refine gate_dst (N := 7) rfl ?_); refine Kd.R_lit k95 _ 95 ?hg (N := 7) ?hd (xs := ([(⟨(⟨#[111, 108, 100]⟩ : ByteArray), (⟨t435, t436⟩ : S24)⟩ : S95), (⟨(⟨#[110, 101, 119]⟩ : ByteArray), (⟨t437, t438⟩ : S24)⟩ : S95)] : List (S95))) (inner := [.string (⟨#[111, 108, 100]⟩ : ByteArray), .int .i64 t435, .int .i64 t436, .string (⟨#[110, 101, 119]⟩ : ByteArray), .int .i64 t437, .int .i64 t438]) (ok := fun _ => True) (okp := fun _ => True) ?hr ?hp (fun _ hk => hk) trivial (Below.refl _ _) (Nat.le_refl _) (by simp) ?_; (case hd => rfl); (case hg => rfl); (case hr => first | (go_simp; done) | (go_simp; rfl)); (case hp => exact (Reps.c3 (show Kd.M k95 _ _ _ (⟨(⟨#[111, 108, 100]⟩ : ByteArray), (⟨t435, t436⟩ : S24)⟩ : S95) [.string (⟨#[111, 108, 100]⟩ : ByteArray), .int .i64 t435, .int .i64 t436] from (k95_mkM _ _ _ (⟨(⟨#[111, 108, 100]⟩ : ByteArray), (⟨t435, t436⟩ : S24)⟩ : S95) )) (Reps.c3 (show Kd.M k95 _ _ _ (⟨(⟨#[110, 101, 119]⟩ : ByteArray), (⟨t437, t438⟩ : S24)⟩ : S95) [.string (⟨#[110, 101, 119]⟩ : ByteArray), .int .i64 t437, .int .i64 t438] from (k95_mkM _ _ _ (⟨(⟨#[110, 101, 119]⟩ : ByteArray), (⟨t437, t438⟩ : S24)⟩ : S95) )) (Reps.none _ _)))); intro v440 w12 ho13 hb hg_ hnew_; clear hg_ hnew_; (first | rw [← Ny439.out] at ho13 | (simp only [Int.reduceToNat] at ho13; rw [← Ny439.out] at ho13)); have n0_ := Aside0.mk (Kd.R_lower ho13 (below_size (by repeat (first | (with_reducible first | exact HB.out | apply below_alloc | apply pw_below_drewN | apply below_drew1 | refine below_set ?_ GE434.out) | exact HB.out)))); have n1_ := Aside0.mk (blk_below (g := gb434) (o := .cells #[.slice none 0 0, .int .i64 0, .int .i64 0, .slice none 0 0, .slice none 0 0] 28 (0, 0)) (by (with_reducible repeat (first | refine blk_drewN ?_ _ | refine blk_drew ?_ | refine blk_alloc ?_ _)); exact BK434.out) hb); have n2_ := Aside0.mk (below_step (by repeat (first | (with_reducible first | exact HB.out | apply below_alloc | apply pw_below_drewN | apply below_drew1 | refine below_set ?_ GE434.out) | exact HB.out)) hb); clear BK434; clear HB; have HO441 := n0_; have BK434 := n1_; have HB := n2_; clear n0_ n1_ n2_; clear hb ho13) | ((with_reducible refine gate_callee (f := 38) rfl ?_); refine goesL_ (some 8) rfl rfl Try.func38 (by kernel_rfl) rfl #[.int .i64 0, .int .i64 1] rfl (by (try simp only [List.map_toArray, List.map_cons, List.map_nil]); first | done | rfl | (simp only [List.length_drop, List.length_take]; rfl)) ?_; (with_reducible refine (helioscopelaw07_span.calls 0 1 t442 t443 _ A4.out).mono ?_); rintro e w14 ⟨rfl, hb⟩; refine ⟨_, rfl, ?_⟩; have n0_ := Aside0.mk (Kd.R_below (by (with_reducible repeat (first | apply Kd.R_alloc | apply Kd.R_drewN | apply Kd.R_drew)); exact HO441.out) hb); have n1_ := Aside0.mk (blk_below (g := gb434) (o := .cells #[.slice none 0 0, .int .i64 0, .int .i64 0, .slice none 0 0, .slice none 0 0] 28 (0, 0)) (by (with_reducible repeat (first | refine blk_drewN ?_ _ | refine blk_drew ?_ | refine blk_alloc ?_ _)); exact BK434.out) hb); have n2_ := Aside0.mk (below_step (by repeat (first | (with_reducible first | exact HB.out | apply below_alloc | apply pw_below_drewN | apply below_drew1 | refine below_set ?_ GE434.out) | exact HB.out)) hb); clear HO441; clear BK434; clear HB; have HO441 := n0_; have BK434 := n1_; have HB := n2_; clear n0_ n1_ n2_; (try clear hb); (try clear hb2); (try clear hk); (try clear hi)) | ((with_reducible refine gate_callee (f := 38) rfl ?_); refine goesL_ (some 9) rfl rfl Try.func38 (by kernel_rfl) rfl #[.int .i64 4, .int .i64 6] rfl (by (try simp only [List.map_toArray, List.map_cons, List.map_nil]); first | done | rfl | (simp only [List.length_drop, List.length_take]; rfl)) ?_; (with_reducible refine (helioscopelaw07_span.calls 4 6 t444 t445 _ A5.out).mono ?_); rintro e w15 ⟨rfl, hb⟩; refine ⟨_, rfl, ?_⟩; have n0_ := Aside0.mk (Kd.R_below (by (with_reducible repeat (first | apply Kd.R_alloc | apply Kd.R_drewN | apply Kd.R_drew)); exact HO441.out) hb); have n1_ := Aside0.mk (blk_below (g := gb434) (o := .cells #[.slice none 0 0, .int .i64 0, .int .i64 0, .slice none 0 0, .slice none 0 0] 28 (0, 0)) (by (with_reducible repeat (first | refine blk_drewN ?_ _ | refine blk_drew ?_ | refine blk_alloc ?_ _)); exact BK434.out) hb); have n2_ := Aside0.mk (below_step (by repeat (first | (with_reducible first | exact HB.out | apply below_alloc | apply pw_below_drewN | apply below_drew1 | refine below_set ?_ GE434.out) | exact HB.out)) hb); clear HO441; clear BK434; clear HB; have HO441 := n0_; have BK434 := n1_; have HB := n2_; clear n0_ n1_ n2_; (try clear hb); (try clear hb2); (try clear hk); (try clear hi)) | ((with_reducible refine gate_callee (f := 38) rfl ?_); refine goesL_ (some 10) rfl rfl Try.func38 (by kernel_rfl) rfl #[.int .i64 9, .int .i64 11] rfl (by (try simp only [List.map_toArray, List.map_cons, List.map_nil]); first | done | rfl | (simp only [List.length_drop, List.length_take]; rfl)) ?_; (with_reducible refine (helioscopelaw07_span.calls 9 11 t446 t447 _ A6.out).mono ?_); rintro e w16 ⟨rfl, hb⟩; refine ⟨_, rfl, ?_⟩; have n0_ := Aside0.mk (Kd.R_below (by (with_reducible repeat (first | apply Kd.R_alloc | apply Kd.R_drewN | apply Kd.R_drew)); exact HO441.out) hb); have n1_ := Aside0.mk (blk_below (g := gb434) (o := .cells #[.slice none 0 0, .int .i64 0, .int .i64 0, .slice none 0 0, .slice none 0 0] 28 (0, 0)) (by (with_reducible repeat (first | refine blk_drewN ?_ _ | refine blk_drew ?_ | refine blk_alloc ?_ _)); exact BK434.out) hb); have n2_ := Aside0.mk (below_step (by repeat (first | (with_reducible first | exact HB.out | apply below_alloc | apply pw_below_drewN | apply below_drew1 | refine below_set ?_ GE434.out) | exact HB.out)) hb); clear HO441; clear BK434; clear HB; have HO441 := n0_; have BK434 := n1_; have HB := n2_; clear n0_ n1_ n2_; (try clear hb); (try clear hb2); (try clear hk); (try clear hi)) | ((with_reducible refine gate_callee (f := 38) rfl ?_); refine goesL_ (some 11) rfl rfl Try.func38 (by kernel_rfl) rfl #[.int .i64 12, .int .i64 12] rfl (by (try simp only [List.map_toArray, List.map_cons, List.map_nil]); first | done | rfl | (simp only [List.length_drop, List.length_take]; rfl)) ?_; (with_reducible refine (helioscopelaw07_span.calls 12 12 t448 t449 _ A7.out).mono ?_); rintro e w17 ⟨rfl, hb⟩; refine ⟨_, rfl, ?_⟩; have n0_ := Aside0.mk (Kd.R_below (by (with_reducible repeat (first | apply Kd.R_alloc | apply Kd.R_drewN | apply Kd.R_drew)); exact HO441.out) hb); have n1_ := Aside0.mk (blk_below (g := gb434) (o := .cells #[.slice none 0 0, .int .i64 0, .int .i64 0, .slice none 0 0, .slice none 0 0] 28 (0, 0)) (by (with_reducible repeat (first | refine blk_drewN ?_ _ | refine blk_drew ?_ | refine blk_alloc ?_ _)); exact BK434.out) hb); have n2_ := Aside0.mk (below_step (by repeat (first | (with_reducible first | exact HB.out | apply below_alloc | apply pw_below_drewN | apply below_drew1 | refine below_set ?_ GE434.out) | exact HB.out)) hb); clear HO441; clear BK434; clear HB; have HO441 := n0_; have BK434 := n1_; have HB := n2_; clear n0_ n1_ n2_; (try clear hb); (try clear hb2); (try clear hk); (try clear hi)) | ((with_reducible refine gate_dst (N := 12) rfl ?_); refine Kd.R_lit k24 _ 24 ?hg (N := 12) ?hd (xs := ([(⟨t444, t445⟩ : S24), (⟨t446, t447⟩ : S24), (⟨t448, t449⟩ : S24)] : List (S24))) (inner := [.int .i64 t444, .int .i64 t445, .int .i64 t446, .int .i64 t447, .int .i64 t448, .int .i64 t449]) (ok := fun _ => True) (okp := fun _ => True) ?hr ?hp (fun _ hk => hk) trivial (Below.refl _ _) (Nat.le_refl _) (by simp) ?_; (case hd => rfl); (case hg => rfl); (case hr => first | (go_simp; done) | (go_simp; rfl)); (case hp => exact (Reps.c2 (show Kd.M k24 _ _ _ (⟨t444, t445⟩ : S24) [.int .i64 t444, .int .i64 t445] from (k24_mkM _ _ _ (⟨t444, t445⟩ : S24) )) (Reps.c2 (show Kd.M k24 _ _ _ (⟨t446, t447⟩ : S24) [.int .i64 t446, .int .i64 t447] from (k24_mkM _ _ _ (⟨t446, t447⟩ : S24) )) (Reps.c2 (show Kd.M k24 _ _ _ (⟨t448, t449⟩ : S24) [.int .i64 t448, .int .i64 t449] from (k24_mkM _ _ _ (⟨t448, t449⟩ : S24) )) (Reps.none _ _))))); intro v451 w18 ho19 hb hg_ hnew_; clear hg_ hnew_; (first | rw [← Ny450.out] at ho19 | (simp only [Int.reduceToNat] at ho19; rw [← Ny450.out] at ho19)); have n0_ := Aside0.mk (Kd.R_below (by (with_reducible repeat (first | apply Kd.R_alloc | apply Kd.R_drewN | apply Kd.R_drew)); exact HO441.out) hb); have n1_ := Aside0.mk (Kd.R_lower ho19 (below_size (by repeat (first | (with_reducible first | exact HB.out | apply below_alloc | apply pw_below_drewN | apply below_drew1 | refine below_set ?_ GE434.out) | exact HB.out)))); have n2_ := Aside0.mk (blk_below (g := gb434) (o := .cells #[.slice none 0 0, .int .i64 0, .int .i64 0, .slice none 0 0, .slice none 0 0] 28 (0, 0)) (by (with_reducible repeat (first | refine blk_drewN ?_ _ | refine blk_drew ?_ | refine blk_alloc ?_ _)); exact BK434.out) hb); have n3_ := Aside0.mk (below_step (by repeat (first | (with_reducible first | exact HB.out | apply below_alloc | apply pw_below_drewN | apply below_drew1 | refine below_set ?_ GE434.out) | exact HB.out)) hb); clear HO441; clear BK434; clear HB; have HO441 := n0_; have HO452 := n1_; have BK434 := n2_; have HB := n3_; clear n0_ n1_ n2_ n3_; clear hb ho19) | ((with_reducible refine gate_dst (N := 15) rfl ?_); refine Kd.R_lit k72 _ 72 ?hg (N := 15) ?hd (xs := ([(⟨0, 0, 6⟩ : S72), (⟨(-1), 2, 4⟩ : S72)] : List (S72))) (inner := [.int .i64 0, .int .i64 0, .int .i64 6, .int .i64 (-1), .int .i64 2, .int .i64 4]) (ok := fun _ => True) (okp := fun _ => True) ?hr ?hp (fun _ hk => hk) trivial (Below.refl _ _) (Nat.le_refl _) (by simp) ?_; (case hd => rfl); (case hg => rfl); (case hr => first | (go_simp; done) | (go_simp; rfl)); (case hp => exact (Reps.c3 (show Kd.M k72 _ _ _ (⟨0, 0, 6⟩ : S72) [.int .i64 0, .int .i64 0, .int .i64 6] from (k72_mkM _ _ _ (⟨0, 0, 6⟩ : S72) )) (Reps.c3 (show Kd.M k72 _ _ _ (⟨(-1), 2, 4⟩ : S72) [.int .i64 (-1), .int .i64 2, .int .i64 4] from (k72_mkM _ _ _ (⟨(-1), 2, 4⟩ : S72) )) (Reps.none _ _)))); intro v454 w20 ho21 hb hg_ hnew_; clear hg_ hnew_; (first | rw [← Ny453.out] at ho21 | (simp only [Int.reduceToNat] at ho21; rw [← Ny453.out] at ho21)); have n0_ := Aside0.mk (Kd.R_below (by (with_reducible repeat (first | apply Kd.R_alloc | apply Kd.R_drewN | apply Kd.R_drew)); exact HO441.out) hb); have n1_ := Aside0.mk (Kd.R_below (by (with_reducible repeat (first | apply Kd.R_alloc | apply Kd.R_drewN | apply Kd.R_drew)); exact HO452.out) hb); have n2_ := Aside0.mk (Kd.R_lower ho21 (below_size (by repeat (first | (with_reducible first | exact HB.out | apply below_alloc | apply pw_below_drewN | apply below_drew1 | refine below_set ?_ GE434.out) | exact HB.out)))); have n3_ := Aside0.mk (blk_below (g := gb434) (o := .cells #[.slice none 0 0, .int .i64 0, .int .i64 0, .slice none 0 0, .slice none 0 0] 28 (0, 0)) (by (with_reducible repeat (first | refine blk_drewN ?_ _ | refine blk_drew ?_ | refine blk_alloc ?_ _)); exact BK434.out) hb); have n4_ := Aside0.mk (below_step (by repeat (first | (with_reducible first | exact HB.out | apply below_alloc | apply pw_below_drewN | apply below_drew1 | refine below_set ?_ GE434.out) | exact HB.out)) hb); clear HO441; clear HO452; clear BK434; clear HB; have HO441 := n0_; have HO452 := n1_; have HO455 := n2_; have BK434 := n3_; have HB := n4_; clear n0_ n1_ n2_ n3_ n4_; clear hb ho21) | ((with_reducible refine gate_builtin (b := .append) (xs := #[.tmp 15, .tmp 16]) rfl ?_); at_builtin; refine Kd.R_append_rows k72 (w0 := w) w.heap.size rfl (.tmp 15) (.tmp 16) 26 72 (.agg #[(.int .i64 0), (.int .i64 0), (.int .i64 0)]) 24 rfl Try.underlying26 info72 rfl (by decide) (by omega) v454 y453 l0 _ _ _ (fun _ => True) (fun _ => False) rfl rfl ?aO ?aR (fun _ _ h => h) (fun _ h => h.elim) ?aF ?aB ?aS ?aL ?_; (case aR => repeat (first | exact (Kd.C_below HR0.out HB.out) | (with_reducible refine Kd.C_alloc ?_ _) | (with_reducible refine Kd.C_drewN ?_ _) | (with_reducible refine Kd.C_drew ?_))); (case aB => exact (by repeat (first | (with_reducible first | exact HB.out | apply below_alloc | apply pw_below_drewN | apply below_drew1 | refine below_set ?_ GE434.out) | exact HB.out))); (case aF => exact (fun _ _ => trivial)); (case aO => exact (by (with_reducible repeat (first | apply Kd.R_alloc | apply Kd.R_drewN | apply Kd.R_drew)); exact HO455.out)); (case aS => exact (below_size (by repeat (first | (with_reducible first | exact HB.out | apply below_alloc | apply pw_below_drewN | apply below_drew1 | refine below_set ?_ GE434.out) | exact HB.out)))); (case aL => have := LMc8.out; omega); intro v457 w22 ho hb hg hat; rw [← Ny456.out] at ho; have n0_ := Aside0.mk (blk_grown (g := gb434) (o := .cells #[.slice none 0 0, .int .i64 0, .int .i64 0, .slice none 0 0, .slice none 0 0] 28 (0, 0)) (by (with_reducible repeat (first | refine blk_drewN ?_ _ | refine blk_drew ?_ | refine blk_alloc ?_ _)); exact BK434.out) hg (Kd.R_ne HO455.out BK434.out (by decide))); have n1_ := Aside0.mk (Kd.R_over' (by (with_reducible repeat (first | apply Kd.R_alloc | apply Kd.R_drewN | apply Kd.R_drew)); exact HO441.out) (Kd.R_typed (by (with_reducible repeat (first | apply Kd.R_alloc | apply Kd.R_drewN | apply Kd.R_drew)); exact HO455.out)) (by decide) hg); have n2_ := Aside0.mk (Kd.R_over' (by (with_reducible repeat (first | apply Kd.R_alloc | apply Kd.R_drewN | apply Kd.R_drew)); exact HO452.out) (Kd.R_typed (by (with_reducible repeat (first | apply Kd.R_alloc | apply Kd.R_drewN | apply Kd.R_drew)); exact HO455.out)) (by decide) hg); have n3_ := Aside0.mk (hb); have n4_ := Aside0.mk (ho); clear BK434; clear HO441; clear HO452; clear HB; clear HO455; have BK434 := n0_; have HO441 := n1_; have HO452 := n2_; have HB := n3_; have HO458 := n4_; clear n0_ n1_ n2_ n3_ n4_; clear ho hb hg hat; obtain ⟨Ao23, co23, eo23⟩ := Kd.R_slice HO458.out; subst eo23; obtain ⟨Ao24, co24, eo24⟩ := Kd.R_slice HO452.out; subst eo24; obtain ⟨Ao25, co25, eo25⟩ := Kd.R_slice HO441.out; subst eo25; have hcz26_0 : w22.cell? ⟨gb434, 0, none⟩ = some (.slice none 0 0) := (blk_cell BK434.out 0).trans rfl; have hcz26_1 : w22.cell? ⟨gb434, 1, none⟩ = some (.int .i64 0) := (blk_cell BK434.out 1).trans rfl; have hcz26_2 : w22.cell? ⟨gb434, 2, none⟩ = some (.int .i64 0) := (blk_cell BK434.out 2).trans rfl; have hcz26_3 : w22.cell? ⟨gb434, 3, none⟩ = some (.slice none 0 0) := (blk_cell BK434.out 3).trans rfl; have hcz26_4 : w22.cell? ⟨gb434, 4, none⟩ = some (.slice none 0 0) := (blk_cell BK434.out 4).trans rfl; have hfz26_0 := blk_frozen BK434.out 0; have hfz26_1 := blk_frozen BK434.out 1; have hfz26_2 := blk_frozen BK434.out 2; have hfz26_3 := blk_frozen BK434.out 3; have hfz26_4 := blk_frozen BK434.out 4))
  refine bodyPost_ret (results_cell_row rfl _ _ gb434 28 #[.slice Ao25 y439.length co25, .int .i64 t442, .int .i64 t443, .slice Ao24 y450.length co24, .slice Ao23 y456.length co23] (0, 0) _ rfl (by (with_reducible repeat (first | refine blk_drewN ?_ _ | refine blk_drew ?_ | refine blk_alloc ?_ _)); refine blk_put (cs := #[.slice Ao25 y439.length co25, .int .i64 t442, .int .i64 t443, .slice Ao24 y450.length co24, .slice none 0 0]) ?_ 4 _ rfl; (with_reducible repeat (first | refine blk_drewN ?_ _ | refine blk_drew ?_ | refine blk_alloc ?_ _)); refine blk_put (cs := #[.slice Ao25 y439.length co25, .int .i64 t442, .int .i64 t443, .slice none 0 0, .slice none 0 0]) ?_ 3 _ rfl; (with_reducible repeat (first | refine blk_drewN ?_ _ | refine blk_drew ?_ | refine blk_alloc ?_ _)); refine blk_put (cs := #[.slice Ao25 y439.length co25, .int .i64 t442, .int .i64 0, .slice none 0 0, .slice none 0 0]) ?_ 2 _ rfl; (with_reducible repeat (first | refine blk_drewN ?_ _ | refine blk_drew ?_ | refine blk_alloc ?_ _)); refine blk_put (cs := #[.slice Ao25 y439.length co25, .int .i64 0, .int .i64 0, .slice none 0 0, .slice none 0 0]) ?_ 1 _ rfl; (with_reducible repeat (first | refine blk_drewN ?_ _ | refine blk_drew ?_ | refine blk_alloc ?_ _)); refine blk_put (cs := #[.slice none 0 0, .int .i64 0, .int .i64 0, .slice none 0 0, .slice none 0 0]) ?_ 0 _ rfl; (with_reducible repeat (first | refine blk_drewN ?_ _ | refine blk_drew ?_ | refine blk_alloc ?_ _)); exact BK434.out) Try.underlying28 rfl (by kernel_rfl)) rfl ?_
  exact ⟨_, _, _, by first | rfl | (simp [errW_none, errW_some] <;> rfl) | (simp [*, errW_none, errW_some] <;> rfl), by (with_reducible repeat (first | apply Kd.R_alloc | apply Kd.R_drewN | apply Kd.R_drew)); exact Kd.R_mono (Kd.R_far (p := ⟨gb434, 4, none⟩) (Kd.R_far (p := ⟨gb434, 3, none⟩) (Kd.R_far (p := ⟨gb434, 2, none⟩) (Kd.R_far (p := ⟨gb434, 1, none⟩) (Kd.R_far (p := ⟨gb434, 0, none⟩) (Kd.R_types HO441.out BK434.out (by decide)) (fun _ hk => hk.2) (.slice Ao25 y439.length co25)) (fun _ hk => hk.2) (.int .i64 t442)) (fun _ hk => hk.2) (.int .i64 t443)) (fun _ hk => hk.2) (.slice Ao24 y450.length co24)) (fun _ hk => hk.2) (.slice Ao23 y456.length co23)) (fun _ hk => trivial), by (with_reducible repeat (first | apply Kd.R_alloc | apply Kd.R_drewN | apply Kd.R_drew)); exact Kd.R_mono (Kd.R_far (p := ⟨gb434, 4, none⟩) (Kd.R_far (p := ⟨gb434, 3, none⟩) (Kd.R_far (p := ⟨gb434, 2, none⟩) (Kd.R_far (p := ⟨gb434, 1, none⟩) (Kd.R_far (p := ⟨gb434, 0, none⟩) (Kd.R_types HO452.out BK434.out (by decide)) (fun _ hk => hk.2) (.slice Ao25 y439.length co25)) (fun _ hk => hk.2) (.int .i64 t442)) (fun _ hk => hk.2) (.int .i64 t443)) (fun _ hk => hk.2) (.slice Ao24 y450.length co24)) (fun _ hk => hk.2) (.slice Ao23 y456.length co23)) (fun _ hk => trivial), by (with_reducible repeat (first | apply Kd.R_alloc | apply Kd.R_drewN | apply Kd.R_drew)); exact Kd.R_mono (Kd.R_far (p := ⟨gb434, 4, none⟩) (Kd.R_far (p := ⟨gb434, 3, none⟩) (Kd.R_far (p := ⟨gb434, 2, none⟩) (Kd.R_far (p := ⟨gb434, 1, none⟩) (Kd.R_far (p := ⟨gb434, 0, none⟩) (Kd.R_types HO458.out BK434.out (by decide)) (fun _ hk => hk.2) (.slice Ao25 y439.length co25)) (fun _ hk => hk.2) (.int .i64 t442)) (fun _ hk => hk.2) (.int .i64 t443)) (fun _ hk => hk.2) (.slice Ao24 y450.length co24)) (fun _ hk => hk.2) (.slice Ao23 y456.length co23)) (fun _ hk => trivial), by repeat (first | (with_reducible first | exact HB.out | apply below_alloc | apply pw_below_drewN | apply below_drew1 | refine below_set ?_ GE434.out) | exact HB.out)⟩
 ·
  rw [if_neg c8] at H
  exact absurd H (by simp)

def helioscopelaw07_wrong.f  : Option ((List (S95)) × Int × Int × (List (S24)) × (List (S72))) := (helioscopelaw07_Shelf.f (([(⟨1, 9, 7⟩ : S72)] : List (S72)))).bind fun bt463 => (some (bt463.1, bt463.2.1, bt463.2.2.1, bt463.2.2.2.1, bt463.2.2.2.2))
set_option maxHeartbeats 8000000 in
set_option maxRecDepth 100000 in
theorem helioscopelaw07_wrong.calls  (r1 : List (S95)) (r2 : Int) (r3 : Int) (r4 : List (S24)) (r5 : List (S72)) (w : World) (h : helioscopelaw07_wrong.f  = some (r1, r2, r3, r4, r5)) :
  Calls Try.prog 95 #[] w fun e w' => ∃ v0_ v3_ v4_ : Value, e = .returned (.agg #[v0_, .int .i64 r2, .int .i64 r3, v3_, v4_]) ∧ Kd.R k95 95 w' w.heap.size (fun _ => True) v0_ r1 ∧ Kd.R k24 24 w' w.heap.size (fun _ => True) v3_ r4 ∧ Kd.R k72 72 w' w.heap.size (fun _ => True) v4_ r5 ∧ Below w.heap.size w w' := by
 have hu28 := Try.underlying28
 have hu72 := Try.underlying72
 have HB := Aside0.mk (Below.refl w.heap.size w)
 have H : ((helioscopelaw07_Shelf.f (([(⟨1, 9, 7⟩ : S72)] : List (S72)))).bind fun bt463 => (some (bt463.1, bt463.2.1, bt463.2.2.1, bt463.2.2.2.1, bt463.2.2.2.2))) = some (r1, r2, r3, r4, r5) := h
 clear h
 obtain ⟨y460, hy460⟩ : ∃ y_ : List (S72), y_ = (([(⟨1, 9, 7⟩ : S72)] : List (S72))) := ⟨_, rfl⟩
 replace H : ((helioscopelaw07_Shelf.f y460).bind fun bt463 => (some (bt463.1, bt463.2.1, bt463.2.2.1, bt463.2.2.2.1, bt463.2.2.2.2))) = some (r1, r2, r3, r4, r5) := by first | (rw [hy460]; with_reducible exact H) | (have H2_ := (Option.bind_some _ _).symm.trans H; rw [hy460]; with_reducible exact H2_) | (have H2_ := (Option.bind_some _ _).symm.trans H; with_reducible exact H2_) | with_reducible exact H | (rw [hy460]; exact H) | exact H
 have Ny460 := Aside0.mk hy460
 clear hy460
 replace H := Option.bind_eq_some_iff.mp H
 obtain ⟨⟨t463, t466, t467, t468, t471⟩, A10, H⟩ := H
 replace H : (some (t463, t466, t467, t468, t471)) = some (r1, r2, r3, r4, r5) := H
 have A1 := Aside0.mk A10
 clear A10
 simp only [Option.some.injEq, Prod.mk.injEq] at H
 obtain ⟨rfl, rfl, rfl, rfl, rfl⟩ := H
 go_enter Try.func95, Try.ntmps95
 go_wp2_with (first | ((with_reducible refine gate_dst (N := 0) rfl ?_); refine box_event ?hg (N := 0) ?hd (cs := #[.slice none 0 0, .int .i64 0, .int .i64 0, .slice none 0 0, .slice none 0 0]) (t := 28) ?hr ?_; (case hd => rfl); (case hg => rfl); (case hr => first | (go_simp; done) | (go_simp; rfl)); intro gb459 hg w2 hbox hb; have n0_ := Aside0.mk (below_step (by repeat (first | (with_reducible first | exact HB.out | apply below_alloc | apply pw_below_drewN | apply below_drew1) | exact HB.out)) hb); have n1_ := Aside0.mk (hbox); have n2_ := Aside0.mk ((by rw [hg]; exact (below_size (by repeat (first | (with_reducible first | exact HB.out | apply below_alloc | apply pw_below_drewN | apply below_drew1) | exact HB.out))) : w.heap.size ≤ gb459)); have n3_ := Aside0.mk ((by rw [hg]; exact (below_size (by repeat (first | (with_reducible first | exact HB.out | apply below_alloc | apply pw_below_drewN | apply below_drew1) | exact HB.out))) : w.heap.size ≤ gb459)); clear HB; have HB := n0_; have BK459 := n1_; have GW459 := n2_; have GE459 := n3_; clear n0_ n1_ n2_ n3_; clear hb hbox hg) | ((with_reducible refine gate_dst (N := 2) rfl ?_); refine Kd.R_lit k72 _ 72 ?hg (N := 2) ?hd (xs := ([(⟨1, 9, 7⟩ : S72)] : List (S72))) (inner := [.int .i64 1, .int .i64 9, .int .i64 7]) (ok := fun _ => True) (okp := fun _ => True) ?hr ?hp (fun _ hk => hk) trivial (Below.refl _ _) (Nat.le_refl _) (by simp) ?_; (case hd => rfl); (case hg => rfl); (case hr => first | (go_simp; done) | (go_simp; rfl)); (case hp => exact (Reps.c3 (show Kd.M k72 _ _ _ (⟨1, 9, 7⟩ : S72) [.int .i64 1, .int .i64 9, .int .i64 7] from (k72_mkM _ _ _ (⟨1, 9, 7⟩ : S72) )) (Reps.none _ _))); intro v461 w3 ho4 hb hg_ hnew_; clear hg_ hnew_; (first | rw [← Ny460.out] at ho4 | (simp only [Int.reduceToNat] at ho4; rw [← Ny460.out] at ho4)); have n0_ := Aside0.mk (Kd.R_lower ho4 (below_size (by repeat (first | (with_reducible first | exact HB.out | apply below_alloc | apply pw_below_drewN | apply below_drew1 | refine below_set ?_ GE459.out) | exact HB.out)))); have n1_ := Aside0.mk (blk_below (g := gb459) (o := .cells #[.slice none 0 0, .int .i64 0, .int .i64 0, .slice none 0 0, .slice none 0 0] 28 (0, 0)) (by (with_reducible repeat (first | refine blk_drewN ?_ _ | refine blk_drew ?_ | refine blk_alloc ?_ _)); exact BK459.out) hb); have n2_ := Aside0.mk (below_step (by repeat (first | (with_reducible first | exact HB.out | apply below_alloc | apply pw_below_drewN | apply below_drew1 | refine below_set ?_ GE459.out) | exact HB.out)) hb); clear BK459; clear HB; have HO462 := n0_; have BK459 := n1_; have HB := n2_; clear n0_ n1_ n2_; clear hb ho4; obtain ⟨Ao5, co5, eo5⟩ := Kd.R_slice HO462.out; subst eo5) | ((with_reducible refine gate_callee (f := 37) rfl ?_); refine goesL_ (some 3) rfl rfl Try.func37 (by kernel_rfl) rfl #[.slice Ao5 y460.length co5] rfl (by (try simp only [List.map_toArray, List.map_cons, List.map_nil]); first | done | rfl | (simp only [List.length_drop, List.length_take]; rfl)) ?_; (with_reducible refine (helioscopelaw07_Shelf.calls _ _ y460 t463 t466 t467 t468 t471 _ ?side1 ?side2 A1.out).mono ?_); (case side1 => repeat (first | exact (Kd.R_reads' HO462.out).2.2 | (with_reducible refine Kd.C_alloc ?_ _) | (with_reducible refine Kd.C_drewN ?_ _) | (with_reducible refine Kd.C_drew ?_))); (case side2 => exact (Kd.R_reads' HO462.out).2.1); rintro e w6 ⟨v464, v469, v472, rfl, ho0, ho1, ho2, hb⟩; refine ⟨_, rfl, ?_⟩; have n0_ := Aside0.mk (Kd.R_elder' (by (with_reducible repeat (first | apply Kd.R_alloc | apply Kd.R_drewN | apply Kd.R_drew)); exact HO462.out) (Kd.R_base ho2) hb); have n1_ := Aside0.mk (Kd.R_lower ho0 (below_size (by repeat (first | (with_reducible first | exact HB.out | apply below_alloc | apply pw_below_drewN | apply below_drew1 | refine below_set ?_ GE459.out) | exact HB.out)))); have n2_ := Aside0.mk (Kd.R_lower ho1 (below_size (by repeat (first | (with_reducible first | exact HB.out | apply below_alloc | apply pw_below_drewN | apply below_drew1 | refine below_set ?_ GE459.out) | exact HB.out)))); have n3_ := Aside0.mk (Kd.R_lower (Kd.R_new' ho2 (Kd.R_lt (by (with_reducible repeat (first | apply Kd.R_alloc | apply Kd.R_drewN | apply Kd.R_drew)); exact HO462.out))) (below_size (by repeat (first | (with_reducible first | exact HB.out | apply below_alloc | apply pw_below_drewN | apply below_drew1 | refine below_set ?_ GE459.out) | exact HB.out)))); have n4_ := Aside0.mk (blk_below (g := gb459) (o := .cells #[.slice none 0 0, .int .i64 0, .int .i64 0, .slice none 0 0, .slice none 0 0] 28 (0, 0)) (by (with_reducible repeat (first | refine blk_drewN ?_ _ | refine blk_drew ?_ | refine blk_alloc ?_ _)); exact BK459.out) hb); have n5_ := Aside0.mk (below_step (by repeat (first | (with_reducible first | exact HB.out | apply below_alloc | apply pw_below_drewN | apply below_drew1 | refine below_set ?_ GE459.out) | exact HB.out)) hb); clear HO462; clear BK459; clear HB; have HO462 := n0_; have HO465 := n1_; have HO470 := n2_; have HO473 := n3_; have BK459 := n4_; have HB := n5_; clear n0_ n1_ n2_ n3_ n4_ n5_; (try clear hb); (try clear hb2); (try clear hk); (try clear hi); (try clear ho0); (try clear ho1); (try clear ho2); obtain ⟨Ao7, co7, eo7⟩ := Kd.R_slice HO465.out; subst eo7; have hcz8_0 : w6.cell? ⟨gb459, 0, none⟩ = some (.slice none 0 0) := (blk_cell BK459.out 0).trans rfl; have hcz8_1 : w6.cell? ⟨gb459, 1, none⟩ = some (.int .i64 0) := (blk_cell BK459.out 1).trans rfl; have hcz8_2 : w6.cell? ⟨gb459, 2, none⟩ = some (.int .i64 0) := (blk_cell BK459.out 2).trans rfl; have hcz8_3 : w6.cell? ⟨gb459, 3, none⟩ = some (.slice none 0 0) := (blk_cell BK459.out 3).trans rfl; have hcz8_4 : w6.cell? ⟨gb459, 4, none⟩ = some (.slice none 0 0) := (blk_cell BK459.out 4).trans rfl; have hfz8_0 := blk_frozen BK459.out 0; have hfz8_1 := blk_frozen BK459.out 1; have hfz8_2 := blk_frozen BK459.out 2; have hfz8_3 := blk_frozen BK459.out 3; have hfz8_4 := blk_frozen BK459.out 4; obtain ⟨Ao9, co9, eo9⟩ := Kd.R_slice HO470.out; subst eo9; obtain ⟨Ao10, co10, eo10⟩ := Kd.R_slice HO473.out; subst eo10))
 refine bodyPost_ret (results_cell_row rfl _ _ gb459 28 #[.slice Ao7 t463.length co7, .int .i64 t466, .int .i64 t467, .slice Ao9 t468.length co9, .slice Ao10 t471.length co10] (0, 0) _ rfl (by (with_reducible repeat (first | refine blk_drewN ?_ _ | refine blk_drew ?_ | refine blk_alloc ?_ _)); refine blk_put (cs := #[.slice Ao7 t463.length co7, .int .i64 t466, .int .i64 t467, .slice Ao9 t468.length co9, .slice none 0 0]) ?_ 4 _ rfl; (with_reducible repeat (first | refine blk_drewN ?_ _ | refine blk_drew ?_ | refine blk_alloc ?_ _)); refine blk_put (cs := #[.slice Ao7 t463.length co7, .int .i64 t466, .int .i64 t467, .slice none 0 0, .slice none 0 0]) ?_ 3 _ rfl; (with_reducible repeat (first | refine blk_drewN ?_ _ | refine blk_drew ?_ | refine blk_alloc ?_ _)); refine blk_put (cs := #[.slice Ao7 t463.length co7, .int .i64 t466, .int .i64 0, .slice none 0 0, .slice none 0 0]) ?_ 2 _ rfl; (with_reducible repeat (first | refine blk_drewN ?_ _ | refine blk_drew ?_ | refine blk_alloc ?_ _)); refine blk_put (cs := #[.slice Ao7 t463.length co7, .int .i64 0, .int .i64 0, .slice none 0 0, .slice none 0 0]) ?_ 1 _ rfl; (with_reducible repeat (first | refine blk_drewN ?_ _ | refine blk_drew ?_ | refine blk_alloc ?_ _)); refine blk_put (cs := #[.slice none 0 0, .int .i64 0, .int .i64 0, .slice none 0 0, .slice none 0 0]) ?_ 0 _ rfl; (with_reducible repeat (first | refine blk_drewN ?_ _ | refine blk_drew ?_ | refine blk_alloc ?_ _)); exact BK459.out) Try.underlying28 rfl (by kernel_rfl)) rfl ?_
 exact ⟨_, _, _, by first | rfl | (simp [errW_none, errW_some] <;> rfl) | (simp [*, errW_none, errW_some] <;> rfl), by (with_reducible repeat (first | apply Kd.R_alloc | apply Kd.R_drewN | apply Kd.R_drew)); exact Kd.R_mono (Kd.R_far (p := ⟨gb459, 4, none⟩) (Kd.R_far (p := ⟨gb459, 3, none⟩) (Kd.R_far (p := ⟨gb459, 2, none⟩) (Kd.R_far (p := ⟨gb459, 1, none⟩) (Kd.R_far (p := ⟨gb459, 0, none⟩) (Kd.R_types HO465.out BK459.out (by decide)) (fun _ hk => hk.2) (.slice Ao7 t463.length co7)) (fun _ hk => hk.2) (.int .i64 t466)) (fun _ hk => hk.2) (.int .i64 t467)) (fun _ hk => hk.2) (.slice Ao9 t468.length co9)) (fun _ hk => hk.2) (.slice Ao10 t471.length co10)) (fun _ hk => trivial), by (with_reducible repeat (first | apply Kd.R_alloc | apply Kd.R_drewN | apply Kd.R_drew)); exact Kd.R_mono (Kd.R_far (p := ⟨gb459, 4, none⟩) (Kd.R_far (p := ⟨gb459, 3, none⟩) (Kd.R_far (p := ⟨gb459, 2, none⟩) (Kd.R_far (p := ⟨gb459, 1, none⟩) (Kd.R_far (p := ⟨gb459, 0, none⟩) (Kd.R_types HO470.out BK459.out (by decide)) (fun _ hk => hk.2) (.slice Ao7 t463.length co7)) (fun _ hk => hk.2) (.int .i64 t466)) (fun _ hk => hk.2) (.int .i64 t467)) (fun _ hk => hk.2) (.slice Ao9 t468.length co9)) (fun _ hk => hk.2) (.slice Ao10 t471.length co10)) (fun _ hk => trivial), by (with_reducible repeat (first | apply Kd.R_alloc | apply Kd.R_drewN | apply Kd.R_drew)); exact Kd.R_mono (Kd.R_far (p := ⟨gb459, 4, none⟩) (Kd.R_far (p := ⟨gb459, 3, none⟩) (Kd.R_far (p := ⟨gb459, 2, none⟩) (Kd.R_far (p := ⟨gb459, 1, none⟩) (Kd.R_far (p := ⟨gb459, 0, none⟩) (Kd.R_types HO473.out BK459.out (by decide)) (fun _ hk => hk.2) (.slice Ao7 t463.length co7)) (fun _ hk => hk.2) (.int .i64 t466)) (fun _ hk => hk.2) (.int .i64 t467)) (fun _ hk => hk.2) (.slice Ao9 t468.length co9)) (fun _ hk => hk.2) (.slice Ao10 t471.length co10)) (fun _ hk => trivial), by repeat (first | (with_reducible first | exact HB.out | apply below_alloc | apply pw_below_drewN | apply below_drew1 | refine below_set ?_ GE459.out) | exact HB.out)⟩

end Go.Proofs.Ytgoidclnccjdeaa.PR
end
section
/- Package glass: the shelves of Awake, what is answered of them. -/
namespace Go.Proofs.Ytgoidclnccjdeaa.D
open Go Go.RowKit Go.Proofs.YtgoidclnccjdeaaK Go.Proofs.YtgoidclnccjdeaaW.PrintWords Go.Proofs.YtgoidclnccjdeaaW.PrintLast Go.Proofs.YtgoidclnccjdeaaW.PrintMore Go.Proofs.Ytgoidclnccjdeaa.PR Go.Proofs.Ytgoidclnccjdeaa.M
set_option linter.unusedVariables false
set_option linter.unusedSimpArgs false

def exS (dr : List Dr) : Dat := ⟨[⟨⟨#[111, 108, 100]⟩, ⟨8, 10⟩⟩, ⟨⟨#[110, 101, 119]⟩, ⟨3, 5⟩⟩], 0, 1, [⟨4, 6⟩, ⟨9, 11⟩, ⟨12, 12⟩], [⟨0, 0, 6⟩, ⟨-1, 2, 4⟩] ++ dr⟩
abbrev exD : Dat := exS []
abbrev exW : Dat := exS [⟨1, 9, 7⟩]
theorem ex_size1 : hullF exD [(amongB exD.sp.length [1], 4)] (4 + (1 : Int).toNat) = (9, 11) := by kernel_rfl
theorem ex_esize1 : enterE exD [(amongB exD.sp.length [1], 4)] = 0 := by kernel_rfl
theorem ex_least0 : hullF exD [(amongB exD.gl.length [0], 4)] ((0 : Int).toNat) = (8, 10) := by kernel_rfl
theorem ex_eleast0 : enterE exD [(amongB exD.gl.length [0], 4)] = 0 := by kernel_rfl
theorem ex_dull : hullF exD [] 3 = (1, 1) := by kernel_rfl
theorem ex_edull : enterE exD [] = 0 := by kernel_rfl
theorem ex_used1 : usedF exD 1 = [0] := by kernel_rfl
theorem ex_eused1 : enterE exD (askUsed exD 1) = 0 := by kernel_rfl
theorem ex_sees10 : seesF exD 1 0 = ([1, 2], [0, 1, 2]) := by kernel_rfl
theorem ex_esees10 : enterE exD (askSees exD 1 0) = 0 := by kernel_rfl
theorem ex_sees02 : seesF exD 0 2 = ([2], [2]) := by kernel_rfl
theorem ex_esees02 : enterE exD (askSees exD 0 2) = 0 := by kernel_rfl
theorem ex_larger10 : largerF exD 1 0 = 1 := by kernel_rfl
theorem ex_elarger10 : enterE exD (askTwo exD 1 0) = 0 := by kernel_rfl
theorem ex_part212 : partF exD 2 1 2 = [0] := by kernel_rfl
theorem ex_epart212 : enterE exD (askPart exD 2 1 2) = 0 := by kernel_rfl
theorem ex_wrong : wrongF exW = ([0], 0) := by kernel_rfl
theorem ex_dullW : hullF exW [] 3 = (0, 0) := by kernel_rfl
theorem ex_edullW : enterE exW [] = 8 := by kernel_rfl
theorem ex_larger22 : largerF exD 2 2 = 0 := by kernel_rfl
theorem ex_elarger22 : enterE exD (askTwo exD 2 2) = 2 := by kernel_rfl

theorem span_calls2 (a b : Int) (w : World) : Calls Try.prog 38 #[.int .i64 a, .int .i64 b] w fun e w' => e = .returned (.agg #[.int .i64 a, .int .i64 b]) ∧ Below w.heap.size w w' := helioscopelaw07_span.calls a b a b w rfl
theorem arg_of {w w' : World} {D : Dat} {n0 : Nat} {v0 v3 v4 : Value} (h0 : Kd.R k95 95 w' n0 (fun _ => True) v0 D.gl) (h3 : Kd.R k24 24 w' n0 (fun _ => True) v3 D.sp) (h4 : Kd.R k72 72 w' n0 (fun _ => True) v4 D.dr) (hn : ∀ x ∈ D.gl, x.f0.size ≤ 9223372036854775807) :
    ∃ A0 c0 A3 c3 A4 c4, Value.agg #[v0, .int .i64 D.lo, .int .i64 D.hi, v3, v4] = .agg (D.cells A0 c0 A3 c3 A4 c4) ∧ Arg w' D A0 c0 A3 c3 A4 c4 := by
  obtain ⟨A0, c0, rfl, l0, r0⟩ := Kd.R_reads h0
  obtain ⟨A3, c3, rfl, l3, r3⟩ := Kd.R_reads h3
  obtain ⟨A4, c4, rfl, l4, r4⟩ := Kd.R_reads h4
  exact ⟨A0, c0, A3, c3, A4, c4, rfl, r0, l0, hn, r3, l3, r4, l4⟩
theorem exS_names (dr : List Dr) : ∀ x ∈ (exS dr).gl, x.f0.size ≤ 9223372036854775807 := by
  intro x hx
  simp only [exS, List.mem_cons, List.not_mem_nil, or_false] at hx
  rcases hx with rfl | rfl <;> decide
theorem Shelf_calls (w : World) : Calls Try.prog 37 #[.slice none 0 0] w fun e w' => (∃ A0 c0 A3 c3 A4 c4, e = .returned (.agg (exD.cells A0 c0 A3 c3 A4 c4)) ∧ Arg w' exD A0 c0 A3 c3 A4 c4) ∧ Below w.heap.size w w' := by
  refine (helioscopelaw07_Shelf.calls none 0 [] exD.gl 0 1 exD.sp exD.dr w ⟨rfl, by decide, fun h => absurd h (by decide)⟩ (Nat.le_refl _) rfl).mono ?_
  rintro e w' ⟨v0, v3, v4, rfl, h0, h3, h4, hb⟩
  obtain ⟨A0, c0, A3, c3, A4, c4, he, ha⟩ := arg_of (w := w) (D := exD) h0 h3 h4 (exS_names _)
  exact ⟨⟨A0, c0, A3, c3, A4, c4, by rw [← he]; rfl, ha⟩, hb⟩
theorem wrongS_calls (w : World) : Calls Try.prog 95 #[] w fun e w' => (∃ A0 c0 A3 c3 A4 c4, e = .returned (.agg (exW.cells A0 c0 A3 c3 A4 c4)) ∧ Arg w' exW A0 c0 A3 c3 A4 c4) ∧ Below w.heap.size w w' := by
  refine (helioscopelaw07_wrong.calls exW.gl 0 1 exW.sp exW.dr w rfl).mono ?_
  rintro e w' ⟨v0, v3, v4, rfl, h0, h3, h4, hb⟩
  obtain ⟨A0, c0, A3, c3, A4, c4, he, ha⟩ := arg_of (w := w) (D := exW) h0 h3 h4 (exS_names _)
  exact ⟨⟨A0, c0, A3, c3, A4, c4, by rw [← he]; rfl, ha⟩, hb⟩
set_option maxHeartbeats 400000 in
theorem Ints_calls (la lb : List Int) (A B : Option Addr) (n m c d : Nat) (w : World) (hn : n = la.length) (hm : m = lb.length) (ha : Kd.C (Kd.int .i64) w A n la) (hb : Kd.C (Kd.int .i64) w B m lb) :
    Calls Try.prog 28 #[.slice A n c, .slice B m d] w fun e w' => e = .returned (.bool (la == lb)) ∧ Chg (fun _ => False) w w' := by
  subst hn hm
  have hlen := ha.2.1
  have hlen' := hb.2.1
  have HA := Aside0.mk ha
  have HB := Aside0.mk hb
  clear ha hb
  by_cases he : la.length = lb.length
  · have hb' : ((la.length : Int) == (lb.length : Int)) = true := beq_iff_eq.2 (by omega)
    go_enter Try.func28, Try.ntmps28
    go_wp2
    go_loopw [5, 6] (fun b j wr => ∃ (k : Nat) (q : Bool), k ≤ la.length ∧ j = .int .i64 k ∧ b = .bool q ∧ Aside0 ((la == lb) = (q && (la.drop k == lb.drop k))) ∧ Aside0 (Chg (fun _ => False) w wr)) (fun b j _ => la.length - (intOf j).toNat)
    case atStart => exact ⟨0, true, Nat.zero_le _, rfl, rfl, ⟨by simp⟩, ⟨Chg.refl _ _⟩⟩
    case round =>
      obtain ⟨k, q, hk, rfl, rfl, HO, HC⟩ := hrel
      cases q
      · go_wp2
        go_ret
        exact ⟨by rw [HO.out]; rfl, HC.out⟩
      · by_cases hlt : k < la.length
        · have hlt' : k < lb.length := by omega
          obtain ⟨ad, e, hc⟩ := at_nat (Kd.C_below HA.out (HC.out.below (fun _ _ x => x.elim) (Nat.le_refl _))) k hlt
          obtain ⟨bd, e', hd⟩ := at_nat (Kd.C_below HB.out (HC.out.below (fun _ _ x => x.elim) (Nat.le_refl _))) k hlt'
          subst e e'
          rw [show rd la k = la[k] by simp [rd, hlt]] at hc
          rw [show rd lb k = lb[k]'hlt' by simp [rd, hlt']] at hd
          have HD : Aside0 ((la == lb) = ((la[k] == lb[k]'hlt') && (la.drop (k + 1) == lb.drop (k + 1)))) := ⟨by
            rw [HO.out, List.drop_eq_getElem_cons hlt, List.drop_eq_getElem_cons hlt', Bool.true_and]; rfl⟩
          generalize la[k] = x at hc HD
          generalize lb[k]'hlt' = y at hd HD
          obtain ⟨q, hq⟩ : ∃ q, (x == y) = q := ⟨_, rfl⟩
          rw [hq] at HD
          go_wp2
          go_quiet (fail)
          go_wp2
          go_roundw
          case rel => exact ⟨k + 1, q, by omega, by go_num, rfl, HD, ⟨HC.out.drewN _⟩⟩
          case measure => simp [intOf]; omega
        · obtain rfl : k = la.length := by omega
          go_wp2
          go_ret
          exact ⟨by rw [HO.out, List.drop_of_length_le (Nat.le_refl _), List.drop_of_length_le (by omega)]; rfl, HC.out⟩
  · have hb' : ((la.length : Int) == (lb.length : Int)) = false := beq_eq_false_iff_ne.2 (by omega)
    have hne : (la == lb) = false := beq_eq_false_iff_ne.2 (fun e => he (by rw [e]))
    have HNE := Aside0.mk hne
    clear hne
    go_enter Try.func28, Try.ntmps28
    go_wp2
    go_loop [5, 6] (fun b j => b = .bool false ∧ j = .int .i64 0) (fun b j => 0)
    case atStart => exact ⟨rfl, rfl⟩
    case round =>
      obtain ⟨rfl, rfl⟩ := hrel
      go_wp2
      go_ret
      exact ⟨by rw [HNE.out]; rfl, Chg.refl _ _⟩

theorem NewRow.lit {w : World} {n0 : Nat} {v : Value} {l : List Nat} (h : NewRow w n0 v l) : ∃ A c, v = .slice A l.length c ∧ Kd.C (Kd.int .i64) w A l.length (ints l) := by
  obtain ⟨A, c, h1, _, h3⟩ := h.shape
  exact ⟨A, c, h1, h3⟩
theorem Row.lit {w : World} {n0 : Nat} {v : Value} {l : List Nat} (h : Row w n0 3 v (ints l)) (hl : l.length ≤ 50) : ∃ A c, v = .slice A l.length c ∧ Kd.C (Kd.int .i64) w A l.length (ints l) := by
  obtain ⟨A, c, rfl, _⟩ := h.shape
  refine ⟨A, c, by simp [ints], ?_⟩
  have := h.read rfl (by simp [ints]; omega)
  simpa [ints] using this
end Go.Proofs.Ytgoidclnccjdeaa.D
end
section
/- Package glass: Awake. -/
namespace Go.Proofs.Ytgoidclnccjdeaa.D
open Go Go.RowKit Go.Proofs.YtgoidclnccjdeaaK Go.Proofs.YtgoidclnccjdeaaW.PrintWords Go.Proofs.YtgoidclnccjdeaaW.PrintLast Go.Proofs.YtgoidclnccjdeaaW.PrintMore Go.Proofs.Ytgoidclnccjdeaa.PR Go.Proofs.Ytgoidclnccjdeaa.M
set_option linter.unusedVariables false
set_option linter.unusedSimpArgs false

theorem cell_below2 {w w' : World} {a : Addr} {v : Value} (h : w.cell? a = some v) (hb : Below w.heap.size w w') : w'.cell? a = some v := (Chg.of_below hb).cell h (fun hx => Nat.lt_irrefl _ (Nat.lt_of_lt_of_le (World.block_lt_of_cell? _ _ h) hx))
def awM : List Nat := [0, 1, 2, 3, 4, 5, 6, 7, 8, 9, 10, 11, 12, 13, 14, 15, 16, 17, 18, 19, 20, 21, 22, 23, 24, 25, 26, 27, 28, 29, 30, 31, 32, 33, 34, 35, 36, 37, 38, 39, 40, 41, 42, 43, 43, 45, 46, 47, 48, 48, 50, 51, 52, 53, 53, 55, 56, 57, 58, 58, 60, 61, 62, 63, 63, 65, 66, 67, 68, 68, 70, 71, 72, 73, 73, 75, 76, 77, 78, 78, 80, 81, 82, 83, 84, 85, 86, 87, 87, 89, 90, 91, 92, 92, 94, 95, 96]
set_option maxRecDepth 100000 in
set_option maxHeartbeats 12000000 in
theorem Awake_calls (w : World) : Calls Try.prog 25 #[] w fun e w' => e = .returned (.bool true) ∧ Below w.heap.size w w' := by
  go_enter Try.func25, Try.ntmps25
  go_wp2_with fail
  refine (Shelf_calls _).mono ?_
  rintro e w1 ⟨⟨A0s, c0s, A3s, c3s, A4s, c4s, rfl, has⟩, hb⟩
  have AS := Aside0.mk has
  have HB := Aside0.mk hb
  clear has hb
  go_wp2_with fail
  refine (wrongS_calls _).mono ?_
  rintro e w2 ⟨⟨A0w, c0w, A3w, c3w, A4w, c4w, rfl, haw⟩, hb⟩
  have AW := Aside0.mk haw
  clear haw
  have AS' := Aside0.mk (AS.out.below hb)
  have HB' := Aside0.mk (HB.out.trans (hb.mono HB.out.size))
  clear hb AS HB
  have AS := AS'
  have HB := HB'
  clear AS' HB'
  go_upto_region 2 with (fail)
  have hb : Below w2.heap.size w2 ((w2.alloc (.cells (exD.cells A0s c0s A3s c3s A4s c4s) 28)).alloc (.cells (exW.cells A0w c0w A3w c3w A4w c4w) 28)) := below_alloc (below_alloc (Below.refl _ _) _) _
  have TS : Aside0 (((w2.alloc (.cells (exD.cells A0s c0s A3s c3s A4s c4s) 28)).alloc (.cells (exW.cells A0w c0w A3w c3w A4w c4w) 28)).heap[w2.heap.size]? = some (.cells (exD.cells A0s c0s A3s c3s A4s c4s) 28 (0, 0))) := ⟨blk_alloc (blk_new _ _) _⟩
  have TW : Aside0 (((w2.alloc (.cells (exD.cells A0s c0s A3s c3s A4s c4s) 28)).alloc (.cells (exW.cells A0w c0w A3w c3w A4w c4w) 28)).heap[w2.heap.size + 1]? = some (.cells (exW.cells A0w c0w A3w c3w A4w c4w) 28 (0, 0))) := ⟨new_at (by simp) _⟩
  have AS' := Aside0.mk (AS.out.below hb)
  have HB' := Aside0.mk (HB.out.trans (hb.mono HB.out.size))
  have AW' := Aside0.mk (AW.out.below hb)
  clear hb AS HB AW
  have AS := AS'
  have HB := HB'
  have AW := AW'
  clear AS' HB' AW'
  generalize (w2.alloc (.cells (exD.cells A0s c0s A3s c3s A4s c4s) 28)).alloc (.cells (exW.cells A0w c0w A3w c3w A4w c4w) 28) = W at AS AW HB TS TW ⊢
  obtain ⟨t, ht⟩ : ∃ t, w2.heap.size = t := ⟨_, rfl⟩
  rw [ht] at TS TW ⊢
  clear ht
  have k0 := (blk_cell TS.out 0).trans rfl
  have k1 := (blk_cell TS.out 1).trans rfl
  have k2 := (blk_cell TS.out 2).trans rfl
  have k3 := (blk_cell TS.out 3).trans rfl
  have k4 := (blk_cell TS.out 4).trans rfl
  have kl := blk_lt TS.out
  go_wp2_with fail
  clear k0 k1 k2 k3 k4 kl
  refine (Size_calls exD A0s c0s A3s c3s A4s c4s 1 W AS.out).mono ?_
  rw [ex_size1, ex_esize1]
  rintro e X1 ⟨rfl, hb⟩
  have AS' := Aside0.mk (AS.out.below hb)
  have HB' := Aside0.mk (HB.out.trans (hb.mono HB.out.size))
  have AW' := Aside0.mk (AW.out.below hb)
  have TS' := Aside0.mk (blk_below TS.out hb)
  have TW' := Aside0.mk (blk_below TW.out hb)
  clear hb AS HB AW TS TW
  have AS := AS'
  have HB := HB'
  have AW := AW'
  have TS := TS'
  have TW := TW'
  clear AS' HB' AW' TS' TW'
  go_upto_region 3 with (fail)
  have hb : Below X1.heap.size X1 (X1.alloc (.cells #[.int .i64 9, .int .i64 11] 24)) := below_alloc (Below.refl _ _) _
  have SA0 : Aside0 ((X1.alloc (.cells #[.int .i64 9, .int .i64 11] 24)).heap[X1.heap.size]? = some (.cells #[.int .i64 9, .int .i64 11] 24 (0, 0))) := ⟨blk_new _ _⟩
  have AS' := Aside0.mk (AS.out.below hb)
  have HB' := Aside0.mk (HB.out.trans (hb.mono HB.out.size))
  have AW' := Aside0.mk (AW.out.below hb)
  have TS' := Aside0.mk (blk_below TS.out hb)
  have TW' := Aside0.mk (blk_below TW.out hb)
  clear hb AS HB AW TS TW
  have AS := AS'
  have HB := HB'
  have AW := AW'
  have TS := TS'
  have TW := TW'
  clear AS' HB' AW' TS' TW'
  have SA := SA0
  clear SA0
  generalize (X1.alloc (.cells #[.int .i64 9, .int .i64 11] 24)) = Y1 at AS HB AW TS TW SA ⊢
  obtain ⟨za, hza⟩ : ∃ b, X1.heap.size = b := ⟨_, rfl⟩
  rw [hza] at SA ⊢
  clear hza
  have k0 := (blk_cell TS.out 0).trans rfl
  have k1 := (blk_cell TS.out 1).trans rfl
  have k2 := (blk_cell TS.out 2).trans rfl
  have k3 := (blk_cell TS.out 3).trans rfl
  have k4 := (blk_cell TS.out 4).trans rfl
  have kl := blk_lt TS.out
  go_wp2_with fail
  clear k0 k1 k2 k3 k4 kl
  refine (Least_calls exD A0s c0s A3s c3s A4s c4s 0 Y1 AS.out).mono ?_
  rw [ex_least0, ex_eleast0]
  rintro e X2 ⟨rfl, hb⟩
  have AS' := Aside0.mk (AS.out.below hb)
  have HB' := Aside0.mk (HB.out.trans (hb.mono HB.out.size))
  have AW' := Aside0.mk (AW.out.below hb)
  have TS' := Aside0.mk (blk_below TS.out hb)
  have TW' := Aside0.mk (blk_below TW.out hb)
  have SA' := Aside0.mk (blk_below SA.out hb)
  clear hb AS HB AW TS TW SA
  have AS := AS'
  have HB := HB'
  have AW := AW'
  have TS := TS'
  have TW := TW'
  have SA := SA'
  clear AS' HB' AW' TS' TW' SA'
  go_upto_region 4 with (fail)
  have hb : Below X2.heap.size X2 (X2.alloc (.cells #[.int .i64 8, .int .i64 10] 24)) := below_alloc (Below.refl _ _) _
  have SB0 : Aside0 ((X2.alloc (.cells #[.int .i64 8, .int .i64 10] 24)).heap[X2.heap.size]? = some (.cells #[.int .i64 8, .int .i64 10] 24 (0, 0))) := ⟨blk_new _ _⟩
  have AS' := Aside0.mk (AS.out.below hb)
  have HB' := Aside0.mk (HB.out.trans (hb.mono HB.out.size))
  have AW' := Aside0.mk (AW.out.below hb)
  have TS' := Aside0.mk (blk_below TS.out hb)
  have TW' := Aside0.mk (blk_below TW.out hb)
  have SA' := Aside0.mk (blk_below SA.out hb)
  clear hb AS HB AW TS TW SA
  have AS := AS'
  have HB := HB'
  have AW := AW'
  have TS := TS'
  have TW := TW'
  have SA := SA'
  clear AS' HB' AW' TS' TW' SA'
  have SB := SB0
  clear SB0
  generalize (X2.alloc (.cells #[.int .i64 8, .int .i64 10] 24)) = Y2 at AS HB AW TS TW SA SB ⊢
  obtain ⟨zb, hzb⟩ : ∃ b, X2.heap.size = b := ⟨_, rfl⟩
  rw [hzb] at SB ⊢
  clear hzb
  have k0 := (blk_cell TS.out 0).trans rfl
  have k1 := (blk_cell TS.out 1).trans rfl
  have k2 := (blk_cell TS.out 2).trans rfl
  have k3 := (blk_cell TS.out 3).trans rfl
  have k4 := (blk_cell TS.out 4).trans rfl
  have kl := blk_lt TS.out
  go_wp2_with fail
  clear k0 k1 k2 k3 k4 kl
  refine (Dull_calls exD A0s c0s A3s c3s A4s c4s Y2 AS.out).mono ?_
  rw [ex_dull, ex_edull]
  rintro e X3 ⟨rfl, hb⟩
  have AS' := Aside0.mk (AS.out.below hb)
  have HB' := Aside0.mk (HB.out.trans (hb.mono HB.out.size))
  have AW' := Aside0.mk (AW.out.below hb)
  have TS' := Aside0.mk (blk_below TS.out hb)
  have TW' := Aside0.mk (blk_below TW.out hb)
  have SA' := Aside0.mk (blk_below SA.out hb)
  have SB' := Aside0.mk (blk_below SB.out hb)
  clear hb AS HB AW TS TW SA SB
  have AS := AS'
  have HB := HB'
  have AW := AW'
  have TS := TS'
  have TW := TW'
  have SA := SA'
  have SB := SB'
  clear AS' HB' AW' TS' TW' SA' SB'
  go_upto_region 5 with (fail)
  have hb : Below X3.heap.size X3 (X3.alloc (.cells #[.int .i64 1, .int .i64 1] 24)) := below_alloc (Below.refl _ _) _
  have SC0 : Aside0 ((X3.alloc (.cells #[.int .i64 1, .int .i64 1] 24)).heap[X3.heap.size]? = some (.cells #[.int .i64 1, .int .i64 1] 24 (0, 0))) := ⟨blk_new _ _⟩
  have AS' := Aside0.mk (AS.out.below hb)
  have HB' := Aside0.mk (HB.out.trans (hb.mono HB.out.size))
  have AW' := Aside0.mk (AW.out.below hb)
  have TS' := Aside0.mk (blk_below TS.out hb)
  have TW' := Aside0.mk (blk_below TW.out hb)
  have SA' := Aside0.mk (blk_below SA.out hb)
  have SB' := Aside0.mk (blk_below SB.out hb)
  clear hb AS HB AW TS TW SA SB
  have AS := AS'
  have HB := HB'
  have AW := AW'
  have TS := TS'
  have TW := TW'
  have SA := SA'
  have SB := SB'
  clear AS' HB' AW' TS' TW' SA' SB'
  have SC := SC0
  clear SC0
  generalize (X3.alloc (.cells #[.int .i64 1, .int .i64 1] 24)) = Y3 at AS HB AW TS TW SA SB SC ⊢
  obtain ⟨zc, hzc⟩ : ∃ b, X3.heap.size = b := ⟨_, rfl⟩
  rw [hzc] at SC ⊢
  clear hzc
  have k0 := (blk_cell TS.out 0).trans rfl
  have k1 := (blk_cell TS.out 1).trans rfl
  have k2 := (blk_cell TS.out 2).trans rfl
  have k3 := (blk_cell TS.out 3).trans rfl
  have k4 := (blk_cell TS.out 4).trans rfl
  have kl := blk_lt TS.out
  go_wp2_with fail
  clear k0 k1 k2 k3 k4 kl
  refine (Used_calls exD A0s c0s A3s c3s A4s c4s 1 Y3 AS.out).mono ?_
  rw [ex_used1, ex_eused1]
  rintro e X4 ⟨⟨v, rfl, hn⟩, hb⟩
  obtain ⟨Au, cu, rfl, hcu⟩ := hn.lit
  have Hu := Aside0.mk hcu
  clear hcu hn
  have AS' := Aside0.mk (AS.out.below hb)
  have HB' := Aside0.mk (HB.out.trans (hb.mono HB.out.size))
  have AW' := Aside0.mk (AW.out.below hb)
  have TS' := Aside0.mk (blk_below TS.out hb)
  have TW' := Aside0.mk (blk_below TW.out hb)
  have SA' := Aside0.mk (blk_below SA.out hb)
  have SB' := Aside0.mk (blk_below SB.out hb)
  have SC' := Aside0.mk (blk_below SC.out hb)
  clear hb AS HB AW TS TW SA SB SC
  have AS := AS'
  have HB := HB'
  have AW := AW'
  have TS := TS'
  have TW := TW'
  have SA := SA'
  have SB := SB'
  have SC := SC'
  clear AS' HB' AW' TS' TW' SA' SB' SC'
  go_upto_region 6 with (fail)
  have k0 := (blk_cell TS.out 0).trans rfl
  have k1 := (blk_cell TS.out 1).trans rfl
  have k2 := (blk_cell TS.out 2).trans rfl
  have k3 := (blk_cell TS.out 3).trans rfl
  have k4 := (blk_cell TS.out 4).trans rfl
  have kl := blk_lt TS.out
  go_wp2_with fail
  clear k0 k1 k2 k3 k4 kl
  refine (Sees_calls exD A0s c0s A3s c3s A4s c4s 1 0 X4 AS.out).mono ?_
  rw [ex_sees10, ex_esees10]
  rintro e X5 ⟨⟨u, v, rfl, hn, m, _, _, hn2⟩, hb⟩
  obtain ⟨Ap, cp, rfl, hcp⟩ := hn.lit
  have Hp := Aside0.mk hcp
  clear hcp hn
  obtain ⟨Aq, cq, rfl, hcq⟩ := hn2.lit
  have Hq := Aside0.mk hcq
  clear hcq hn2
  have AS' := Aside0.mk (AS.out.below hb)
  have HB' := Aside0.mk (HB.out.trans (hb.mono HB.out.size))
  have AW' := Aside0.mk (AW.out.below hb)
  have TS' := Aside0.mk (blk_below TS.out hb)
  have TW' := Aside0.mk (blk_below TW.out hb)
  have SA' := Aside0.mk (blk_below SA.out hb)
  have SB' := Aside0.mk (blk_below SB.out hb)
  have SC' := Aside0.mk (blk_below SC.out hb)
  have Hu' := Aside0.mk (Kd.C_below Hu.out hb)
  clear hb AS HB AW TS TW SA SB SC Hu
  have AS := AS'
  have HB := HB'
  have AW := AW'
  have TS := TS'
  have TW := TW'
  have SA := SA'
  have SB := SB'
  have SC := SC'
  have Hu := Hu'
  clear AS' HB' AW' TS' TW' SA' SB' SC' Hu'
  go_upto_region 7 with (fail)
  have k0 := (blk_cell TS.out 0).trans rfl
  have k1 := (blk_cell TS.out 1).trans rfl
  have k2 := (blk_cell TS.out 2).trans rfl
  have k3 := (blk_cell TS.out 3).trans rfl
  have k4 := (blk_cell TS.out 4).trans rfl
  have kl := blk_lt TS.out
  go_wp2_with fail
  clear k0 k1 k2 k3 k4 kl
  refine (Sees_calls exD A0s c0s A3s c3s A4s c4s 0 2 X5 AS.out).mono ?_
  rw [ex_sees02, ex_esees02]
  rintro e X6 ⟨⟨u, v, rfl, hn, m, _, _, hn2⟩, hb⟩
  obtain ⟨Ao, co, rfl, hco⟩ := hn.lit
  have Ho := Aside0.mk hco
  clear hco hn
  obtain ⟨Ar, cr, rfl, hcr⟩ := hn2.lit
  have Hr := Aside0.mk hcr
  clear hcr hn2
  have AS' := Aside0.mk (AS.out.below hb)
  have HB' := Aside0.mk (HB.out.trans (hb.mono HB.out.size))
  have AW' := Aside0.mk (AW.out.below hb)
  have TS' := Aside0.mk (blk_below TS.out hb)
  have TW' := Aside0.mk (blk_below TW.out hb)
  have SA' := Aside0.mk (blk_below SA.out hb)
  have SB' := Aside0.mk (blk_below SB.out hb)
  have SC' := Aside0.mk (blk_below SC.out hb)
  have Hu' := Aside0.mk (Kd.C_below Hu.out hb)
  have Hp' := Aside0.mk (Kd.C_below Hp.out hb)
  have Hq' := Aside0.mk (Kd.C_below Hq.out hb)
  clear hb AS HB AW TS TW SA SB SC Hu Hp Hq
  have AS := AS'
  have HB := HB'
  have AW := AW'
  have TS := TS'
  have TW := TW'
  have SA := SA'
  have SB := SB'
  have SC := SC'
  have Hu := Hu'
  have Hp := Hp'
  have Hq := Hq'
  clear AS' HB' AW' TS' TW' SA' SB' SC' Hu' Hp' Hq'
  go_upto_region 8 with (fail)
  have k0 := (blk_cell TS.out 0).trans rfl
  have k1 := (blk_cell TS.out 1).trans rfl
  have k2 := (blk_cell TS.out 2).trans rfl
  have k3 := (blk_cell TS.out 3).trans rfl
  have k4 := (blk_cell TS.out 4).trans rfl
  have kl := blk_lt TS.out
  go_wp2_with fail
  clear k0 k1 k2 k3 k4 kl
  refine (Larger_calls exD A0s c0s A3s c3s A4s c4s 1 0 X6 AS.out).mono ?_
  rw [ex_larger10, ex_elarger10]
  rintro e X7 ⟨rfl, hb⟩
  have AS' := Aside0.mk (AS.out.below hb)
  have HB' := Aside0.mk (HB.out.trans (hb.mono HB.out.size))
  have AW' := Aside0.mk (AW.out.below hb)
  have TS' := Aside0.mk (blk_below TS.out hb)
  have TW' := Aside0.mk (blk_below TW.out hb)
  have SA' := Aside0.mk (blk_below SA.out hb)
  have SB' := Aside0.mk (blk_below SB.out hb)
  have SC' := Aside0.mk (blk_below SC.out hb)
  have Hu' := Aside0.mk (Kd.C_below Hu.out hb)
  have Hp' := Aside0.mk (Kd.C_below Hp.out hb)
  have Hq' := Aside0.mk (Kd.C_below Hq.out hb)
  have Ho' := Aside0.mk (Kd.C_below Ho.out hb)
  have Hr' := Aside0.mk (Kd.C_below Hr.out hb)
  clear hb AS HB AW TS TW SA SB SC Hu Hp Hq Ho Hr
  have AS := AS'
  have HB := HB'
  have AW := AW'
  have TS := TS'
  have TW := TW'
  have SA := SA'
  have SB := SB'
  have SC := SC'
  have Hu := Hu'
  have Hp := Hp'
  have Hq := Hq'
  have Ho := Ho'
  have Hr := Hr'
  clear AS' HB' AW' TS' TW' SA' SB' SC' Hu' Hp' Hq' Ho' Hr'
  go_upto_region 9 with (fail)
  have k0 := (blk_cell TS.out 0).trans rfl
  have k1 := (blk_cell TS.out 1).trans rfl
  have k2 := (blk_cell TS.out 2).trans rfl
  have k3 := (blk_cell TS.out 3).trans rfl
  have k4 := (blk_cell TS.out 4).trans rfl
  have kl := blk_lt TS.out
  go_wp2_with fail
  clear k0 k1 k2 k3 k4 kl
  refine (Part_calls exD A0s c0s A3s c3s A4s c4s 2 1 2 X7 AS.out).mono ?_
  rw [ex_part212, ex_epart212]
  rintro e X8 ⟨⟨v, rfl, hn, _⟩, hb⟩
  obtain ⟨At, ct, rfl, hct⟩ := Row.lit hn (by decide)
  have Ht := Aside0.mk hct
  clear hct hn
  have AS' := Aside0.mk (AS.out.below hb)
  have HB' := Aside0.mk (HB.out.trans (hb.mono HB.out.size))
  have AW' := Aside0.mk (AW.out.below hb)
  have TS' := Aside0.mk (blk_below TS.out hb)
  have TW' := Aside0.mk (blk_below TW.out hb)
  have SA' := Aside0.mk (blk_below SA.out hb)
  have SB' := Aside0.mk (blk_below SB.out hb)
  have SC' := Aside0.mk (blk_below SC.out hb)
  have Hu' := Aside0.mk (Kd.C_below Hu.out hb)
  have Hp' := Aside0.mk (Kd.C_below Hp.out hb)
  have Hq' := Aside0.mk (Kd.C_below Hq.out hb)
  have Ho' := Aside0.mk (Kd.C_below Ho.out hb)
  have Hr' := Aside0.mk (Kd.C_below Hr.out hb)
  clear hb AS HB AW TS TW SA SB SC Hu Hp Hq Ho Hr
  have AS := AS'
  have HB := HB'
  have AW := AW'
  have TS := TS'
  have TW := TW'
  have SA := SA'
  have SB := SB'
  have SC := SC'
  have Hu := Hu'
  have Hp := Hp'
  have Hq := Hq'
  have Ho := Ho'
  have Hr := Hr'
  clear AS' HB' AW' TS' TW' SA' SB' SC' Hu' Hp' Hq' Ho' Hr'
  go_upto_region 10 with (fail)
  have k0 := (blk_cell TW.out 0).trans rfl
  have k1 := (blk_cell TW.out 1).trans rfl
  have k2 := (blk_cell TW.out 2).trans rfl
  have k3 := (blk_cell TW.out 3).trans rfl
  have k4 := (blk_cell TW.out 4).trans rfl
  have kl := blk_lt TW.out
  go_wp2_with fail
  clear k0 k1 k2 k3 k4 kl
  refine (Wrong_calls exW A0w c0w A3w c3w A4w c4w X8 AW.out).mono ?_
  rw [ex_wrong]
  rintro e X9 ⟨⟨v, rfl, hn⟩, hb⟩
  obtain ⟨Ab, cb, rfl, hcb⟩ := hn.lit
  have Hb := Aside0.mk hcb
  clear hcb hn
  have AS' := Aside0.mk (AS.out.below hb)
  have HB' := Aside0.mk (HB.out.trans (hb.mono HB.out.size))
  have AW' := Aside0.mk (AW.out.below hb)
  have TS' := Aside0.mk (blk_below TS.out hb)
  have TW' := Aside0.mk (blk_below TW.out hb)
  have SA' := Aside0.mk (blk_below SA.out hb)
  have SB' := Aside0.mk (blk_below SB.out hb)
  have SC' := Aside0.mk (blk_below SC.out hb)
  have Hu' := Aside0.mk (Kd.C_below Hu.out hb)
  have Hp' := Aside0.mk (Kd.C_below Hp.out hb)
  have Hq' := Aside0.mk (Kd.C_below Hq.out hb)
  have Ho' := Aside0.mk (Kd.C_below Ho.out hb)
  have Hr' := Aside0.mk (Kd.C_below Hr.out hb)
  have Ht' := Aside0.mk (Kd.C_below Ht.out hb)
  clear hb AS HB AW TS TW SA SB SC Hu Hp Hq Ho Hr Ht
  have AS := AS'
  have HB := HB'
  have AW := AW'
  have TS := TS'
  have TW := TW'
  have SA := SA'
  have SB := SB'
  have SC := SC'
  have Hu := Hu'
  have Hp := Hp'
  have Hq := Hq'
  have Ho := Ho'
  have Hr := Hr'
  have Ht := Ht'
  clear AS' HB' AW' TS' TW' SA' SB' SC' Hu' Hp' Hq' Ho' Hr' Ht'
  go_upto_region 11 with (fail)
  have k0 := (blk_cell TW.out 0).trans rfl
  have k1 := (blk_cell TW.out 1).trans rfl
  have k2 := (blk_cell TW.out 2).trans rfl
  have k3 := (blk_cell TW.out 3).trans rfl
  have k4 := (blk_cell TW.out 4).trans rfl
  have kl := blk_lt TW.out
  go_wp2_with fail
  clear k0 k1 k2 k3 k4 kl
  refine (Dull_calls exW A0w c0w A3w c3w A4w c4w X9 AW.out).mono ?_
  rw [ex_dullW, ex_edullW]
  rintro e X10 ⟨rfl, hb⟩
  have AS' := Aside0.mk (AS.out.below hb)
  have HB' := Aside0.mk (HB.out.trans (hb.mono HB.out.size))
  have AW' := Aside0.mk (AW.out.below hb)
  have TS' := Aside0.mk (blk_below TS.out hb)
  have TW' := Aside0.mk (blk_below TW.out hb)
  have SA' := Aside0.mk (blk_below SA.out hb)
  have SB' := Aside0.mk (blk_below SB.out hb)
  have SC' := Aside0.mk (blk_below SC.out hb)
  have Hu' := Aside0.mk (Kd.C_below Hu.out hb)
  have Hp' := Aside0.mk (Kd.C_below Hp.out hb)
  have Hq' := Aside0.mk (Kd.C_below Hq.out hb)
  have Ho' := Aside0.mk (Kd.C_below Ho.out hb)
  have Hr' := Aside0.mk (Kd.C_below Hr.out hb)
  have Ht' := Aside0.mk (Kd.C_below Ht.out hb)
  have Hb' := Aside0.mk (Kd.C_below Hb.out hb)
  clear hb AS HB AW TS TW SA SB SC Hu Hp Hq Ho Hr Ht Hb
  have AS := AS'
  have HB := HB'
  have AW := AW'
  have TS := TS'
  have TW := TW'
  have SA := SA'
  have SB := SB'
  have SC := SC'
  have Hu := Hu'
  have Hp := Hp'
  have Hq := Hq'
  have Ho := Ho'
  have Hr := Hr'
  have Ht := Ht'
  have Hb := Hb'
  clear AS' HB' AW' TS' TW' SA' SB' SC' Hu' Hp' Hq' Ho' Hr' Ht' Hb'
  go_upto_region 12 with (fail)
  have hb : Below X10.heap.size X10 (X10.alloc (.cells #[.int .i64 0, .int .i64 0] 24)) := below_alloc (Below.refl _ _) _
  have SD0 : Aside0 ((X10.alloc (.cells #[.int .i64 0, .int .i64 0] 24)).heap[X10.heap.size]? = some (.cells #[.int .i64 0, .int .i64 0] 24 (0, 0))) := ⟨blk_new _ _⟩
  have AS' := Aside0.mk (AS.out.below hb)
  have HB' := Aside0.mk (HB.out.trans (hb.mono HB.out.size))
  have AW' := Aside0.mk (AW.out.below hb)
  have TS' := Aside0.mk (blk_below TS.out hb)
  have TW' := Aside0.mk (blk_below TW.out hb)
  have SA' := Aside0.mk (blk_below SA.out hb)
  have SB' := Aside0.mk (blk_below SB.out hb)
  have SC' := Aside0.mk (blk_below SC.out hb)
  have Hu' := Aside0.mk (Kd.C_below Hu.out hb)
  have Hp' := Aside0.mk (Kd.C_below Hp.out hb)
  have Hq' := Aside0.mk (Kd.C_below Hq.out hb)
  have Ho' := Aside0.mk (Kd.C_below Ho.out hb)
  have Hr' := Aside0.mk (Kd.C_below Hr.out hb)
  have Ht' := Aside0.mk (Kd.C_below Ht.out hb)
  have Hb' := Aside0.mk (Kd.C_below Hb.out hb)
  clear hb AS HB AW TS TW SA SB SC Hu Hp Hq Ho Hr Ht Hb
  have AS := AS'
  have HB := HB'
  have AW := AW'
  have TS := TS'
  have TW := TW'
  have SA := SA'
  have SB := SB'
  have SC := SC'
  have Hu := Hu'
  have Hp := Hp'
  have Hq := Hq'
  have Ho := Ho'
  have Hr := Hr'
  have Ht := Ht'
  have Hb := Hb'
  clear AS' HB' AW' TS' TW' SA' SB' SC' Hu' Hp' Hq' Ho' Hr' Ht' Hb'
  have SD := SD0
  clear SD0
  generalize (X10.alloc (.cells #[.int .i64 0, .int .i64 0] 24)) = Y10 at AS HB AW TS TW SA SB SC Hu Hp Hq Ho Hr Ht Hb SD ⊢
  obtain ⟨zd, hzd⟩ : ∃ b, X10.heap.size = b := ⟨_, rfl⟩
  rw [hzd] at SD ⊢
  clear hzd
  have k0 := (blk_cell TS.out 0).trans rfl
  have k1 := (blk_cell TS.out 1).trans rfl
  have k2 := (blk_cell TS.out 2).trans rfl
  have k3 := (blk_cell TS.out 3).trans rfl
  have k4 := (blk_cell TS.out 4).trans rfl
  have kl := blk_lt TS.out
  go_wp2_with fail
  clear k0 k1 k2 k3 k4 kl
  refine (Larger_calls exD A0s c0s A3s c3s A4s c4s 2 2 Y10 AS.out).mono ?_
  rw [ex_larger22, ex_elarger22]
  rintro e X11 ⟨rfl, hb⟩
  have AS' := Aside0.mk (AS.out.below hb)
  have HB' := Aside0.mk (HB.out.trans (hb.mono HB.out.size))
  have AW' := Aside0.mk (AW.out.below hb)
  have TS' := Aside0.mk (blk_below TS.out hb)
  have TW' := Aside0.mk (blk_below TW.out hb)
  have SA' := Aside0.mk (blk_below SA.out hb)
  have SB' := Aside0.mk (blk_below SB.out hb)
  have SC' := Aside0.mk (blk_below SC.out hb)
  have Hu' := Aside0.mk (Kd.C_below Hu.out hb)
  have Hp' := Aside0.mk (Kd.C_below Hp.out hb)
  have Hq' := Aside0.mk (Kd.C_below Hq.out hb)
  have Ho' := Aside0.mk (Kd.C_below Ho.out hb)
  have Hr' := Aside0.mk (Kd.C_below Hr.out hb)
  have Ht' := Aside0.mk (Kd.C_below Ht.out hb)
  have Hb' := Aside0.mk (Kd.C_below Hb.out hb)
  have SD' := Aside0.mk (blk_below SD.out hb)
  clear hb AS HB AW TS TW SA SB SC Hu Hp Hq Ho Hr Ht Hb SD
  have AS := AS'
  have HB := HB'
  have AW := AW'
  have TS := TS'
  have TW := TW'
  have SA := SA'
  have SB := SB'
  have SC := SC'
  have Hu := Hu'
  have Hp := Hp'
  have Hq := Hq'
  have Ho := Ho'
  have Hr := Hr'
  have Ht := Ht'
  have Hb := Hb'
  have SD := SD'
  clear AS' HB' AW' TS' TW' SA' SB' SC' Hu' Hp' Hq' Ho' Hr' Ht' Hb' SD'
  go_upto_region 13 with (fail)
  simp only [List.append_eq, List.cons_append, List.nil_append]
  clear AS AW TS TW SD
  refine wp_region_held_drew (S := fun w' : World => w'.cell? ⟨za, 0, none⟩ = some (.int .i64 9) ∧ w'.cell? ⟨za, 1, none⟩ = some (.int .i64 11) ∧ w'.cell? ⟨zb, 0, none⟩ = some (.int .i64 8) ∧ w'.cell? ⟨zb, 1, none⟩ = some (.int .i64 10) ∧ w'.cell? ⟨zc, 0, none⟩ = some (.int .i64 1) ∧ w'.cell? ⟨zc, 1, none⟩ = some (.int .i64 1)) (by as_aux_lemma => kernel_rfl) ⟨(blk_cell SA.out 0).trans rfl, (blk_cell SA.out 1).trans rfl, (blk_cell SB.out 0).trans rfl, (blk_cell SB.out 1).trans rfl, (blk_cell SC.out 0).trans rfl, (blk_cell SC.out 1).trans rfl⟩ (fun hHeld => ?_)
  have HBd := Aside0.mk (below_drew1 HB.out)
  have Hud := Aside0.mk (Kd.C_drew Hu.out)
  have Hpd := Aside0.mk (Kd.C_drew Hp.out)
  have Hqd := Aside0.mk (Kd.C_drew Hq.out)
  have Hod := Aside0.mk (Kd.C_drew Ho.out)
  have Hrd := Aside0.mk (Kd.C_drew Hr.out)
  have Htd := Aside0.mk (Kd.C_drew Ht.out)
  have Hbd := Aside0.mk (Kd.C_drew Hb.out)
  clear SA SB SC HB Hu Hp Hq Ho Hr Ht Hb
  generalize X11.drew = wd at hHeld HBd Hud Hpd Hqd Hod Hrd Htd Hbd ⊢
  refine wpAnyH_start 97 (by as_aux_lemma => kernel_rfl) ?_
  refine wpAnyH_seg 0 43 54 hHeld (by simp only [List.drop_succ_cons, List.drop_zero, List.length_cons, List.length_nil]; decide) (by decide) (by as_aux_lemma => kernel_rfl) (M := awM) (by as_aux_lemma => kernel_rfl) (by as_aux_lemma => kernel_rfl) ?_
  simp only [List.drop_succ_cons, List.take_succ_cons, List.drop_zero, List.take_zero]
  still_step
  still_step
  still_step
  still_step
  still_step
  still_step
  still_step
  still_step
  still_step
  still_step
  still_step
  still_step
  still_step
  still_step
  still_step
  still_step
  still_step
  still_step
  still_step
  still_step
  still_step
  still_step
  still_step
  still_step
  still_step
  still_step
  still_step
  still_step
  still_step
  still_step
  still_step
  still_step
  still_step
  still_step
  still_step
  still_step
  still_step
  still_step
  still_step
  still_step
  still_step
  still_step
  still_step
  refine wpStill_nil ?_
  refine wpAnyH_load (i := 43) (v := .agg #[.int .i64 9, .int .i64 11]) (by decide) rfl (by as_aux_lemma => kernel_rfl) (by as_aux_lemma => kernel_rfl) (by as_aux_lemma => kernel_rfl) (fun _ _ _ h => h) (Or.inl ⟨by rfl, ?_⟩) hHeld ?_
  · intro w hSw
    obtain ⟨h0, h1, h2, h3, h4, h5⟩ := hSw
    go_simp
    try rfl
  simp only [Act.put, List.setIfInBounds_toArray, List.set_cons_zero, List.set_cons_succ]
  refine wpAnyH_one (i := 44) (by decide) rfl (by as_aux_lemma => kernel_rfl) (M := awM) (by as_aux_lemma => kernel_rfl) (by as_aux_lemma => kernel_rfl) (fun K hK => ?_)
  go_simp
  refine (span_calls2 _ _ _).mono ?_
  rintro e w' ⟨rfl, hbw⟩
  refine named (fun w' : World => Below wd.heap.size wd w') (hbw) ?_
  rintro v1 hbv
  obtain ⟨h0, h1, h2, h3, h4, h5⟩ := hHeld
  replace h0 := cell_below2 h0 hbv
  replace h1 := cell_below2 h1 hbv
  replace h2 := cell_below2 h2 hbv
  replace h3 := cell_below2 h3 hbv
  replace h4 := cell_below2 h4 hbv
  replace h5 := cell_below2 h5 hbv
  replace HBd := Aside0.mk (HBd.out.trans (hbv.mono HBd.out.size))
  replace Hud := Aside0.mk (Kd.C_below Hud.out hbv)
  replace Hpd := Aside0.mk (Kd.C_below Hpd.out hbv)
  replace Hqd := Aside0.mk (Kd.C_below Hqd.out hbv)
  replace Hod := Aside0.mk (Kd.C_below Hod.out hbv)
  replace Hrd := Aside0.mk (Kd.C_below Hrd.out hbv)
  replace Htd := Aside0.mk (Kd.C_below Htd.out hbv)
  replace Hbd := Aside0.mk (Kd.C_below Hbd.out hbv)
  refine hK.out _ _ ⟨h0, h1, h2, h3, h4, h5⟩ (fun hHeld => ?_)
  clear h0 h1 h2 h3 h4 h5 hbv
  clear hK K
  try simp only [Act.put, List.setIfInBounds_toArray, List.set_cons_zero, List.set_cons_succ]
  refine wpAnyH_seg 45 3 49 hHeld (by simp only [List.drop_succ_cons, List.drop_zero, List.length_cons, List.length_nil]; decide) (by decide) (by as_aux_lemma => kernel_rfl) (M := awM) (by as_aux_lemma => kernel_rfl) (by as_aux_lemma => kernel_rfl) ?_
  simp only [List.drop_succ_cons, List.take_succ_cons, List.drop_zero, List.take_zero]
  still_step
  still_step
  still_step
  refine wpStill_nil ?_
  refine wpAnyH_load (i := 48) (v := .agg #[.int .i64 8, .int .i64 10]) (by decide) rfl (by as_aux_lemma => kernel_rfl) (by as_aux_lemma => kernel_rfl) (by as_aux_lemma => kernel_rfl) (fun _ _ _ h => h) (Or.inl ⟨by rfl, ?_⟩) hHeld ?_
  · intro w hSw
    obtain ⟨h0, h1, h2, h3, h4, h5⟩ := hSw
    go_simp
    try rfl
  simp only [Act.put, List.setIfInBounds_toArray, List.set_cons_zero, List.set_cons_succ]
  refine wpAnyH_one (i := 49) (by decide) rfl (by as_aux_lemma => kernel_rfl) (M := awM) (by as_aux_lemma => kernel_rfl) (by as_aux_lemma => kernel_rfl) (fun K hK => ?_)
  go_simp
  refine (span_calls2 _ _ _).mono ?_
  rintro e w' ⟨rfl, hbw⟩
  refine named (fun w' : World => Below v1.heap.size v1 w') (hbw) ?_
  rintro v2 hbv
  obtain ⟨h0, h1, h2, h3, h4, h5⟩ := hHeld
  replace h0 := cell_below2 h0 hbv
  replace h1 := cell_below2 h1 hbv
  replace h2 := cell_below2 h2 hbv
  replace h3 := cell_below2 h3 hbv
  replace h4 := cell_below2 h4 hbv
  replace h5 := cell_below2 h5 hbv
  replace HBd := Aside0.mk (HBd.out.trans (hbv.mono HBd.out.size))
  replace Hud := Aside0.mk (Kd.C_below Hud.out hbv)
  replace Hpd := Aside0.mk (Kd.C_below Hpd.out hbv)
  replace Hqd := Aside0.mk (Kd.C_below Hqd.out hbv)
  replace Hod := Aside0.mk (Kd.C_below Hod.out hbv)
  replace Hrd := Aside0.mk (Kd.C_below Hrd.out hbv)
  replace Htd := Aside0.mk (Kd.C_below Htd.out hbv)
  replace Hbd := Aside0.mk (Kd.C_below Hbd.out hbv)
  refine hK.out _ _ ⟨h0, h1, h2, h3, h4, h5⟩ (fun hHeld => ?_)
  clear h0 h1 h2 h3 h4 h5 hbv
  clear hK K
  try simp only [Act.put, List.setIfInBounds_toArray, List.set_cons_zero, List.set_cons_succ]
  refine wpAnyH_seg 50 3 44 hHeld (by simp only [List.drop_succ_cons, List.drop_zero, List.length_cons, List.length_nil]; decide) (by decide) (by as_aux_lemma => kernel_rfl) (M := awM) (by as_aux_lemma => kernel_rfl) (by as_aux_lemma => kernel_rfl) ?_
  simp only [List.drop_succ_cons, List.take_succ_cons, List.drop_zero, List.take_zero]
  still_step
  still_step
  still_step
  refine wpStill_nil ?_
  refine wpAnyH_load (i := 53) (v := .agg #[.int .i64 1, .int .i64 1]) (by decide) rfl (by as_aux_lemma => kernel_rfl) (by as_aux_lemma => kernel_rfl) (by as_aux_lemma => kernel_rfl) (fun _ _ _ h => h) (Or.inl ⟨by rfl, ?_⟩) hHeld ?_
  · intro w hSw
    obtain ⟨h0, h1, h2, h3, h4, h5⟩ := hSw
    go_simp
    try rfl
  simp only [Act.put, List.setIfInBounds_toArray, List.set_cons_zero, List.set_cons_succ]
  refine wpAnyH_one (i := 54) (by decide) rfl (by as_aux_lemma => kernel_rfl) (M := awM) (by as_aux_lemma => kernel_rfl) (by as_aux_lemma => kernel_rfl) (fun K hK => ?_)
  go_simp
  refine (span_calls2 _ _ _).mono ?_
  rintro e w' ⟨rfl, hbw⟩
  refine named (fun w' : World => Below v2.heap.size v2 w') (hbw) ?_
  rintro v3 hbv
  obtain ⟨h0, h1, h2, h3, h4, h5⟩ := hHeld
  replace h0 := cell_below2 h0 hbv
  replace h1 := cell_below2 h1 hbv
  replace h2 := cell_below2 h2 hbv
  replace h3 := cell_below2 h3 hbv
  replace h4 := cell_below2 h4 hbv
  replace h5 := cell_below2 h5 hbv
  replace HBd := Aside0.mk (HBd.out.trans (hbv.mono HBd.out.size))
  replace Hud := Aside0.mk (Kd.C_below Hud.out hbv)
  replace Hpd := Aside0.mk (Kd.C_below Hpd.out hbv)
  replace Hqd := Aside0.mk (Kd.C_below Hqd.out hbv)
  replace Hod := Aside0.mk (Kd.C_below Hod.out hbv)
  replace Hrd := Aside0.mk (Kd.C_below Hrd.out hbv)
  replace Htd := Aside0.mk (Kd.C_below Htd.out hbv)
  replace Hbd := Aside0.mk (Kd.C_below Hbd.out hbv)
  refine hK.out _ _ ⟨h0, h1, h2, h3, h4, h5⟩ (fun hHeld => ?_)
  clear h0 h1 h2 h3 h4 h5 hbv
  clear hK K
  try simp only [Act.put, List.setIfInBounds_toArray, List.set_cons_zero, List.set_cons_succ]
  refine wpAnyH_seg 55 3 39 hHeld (by simp only [List.drop_succ_cons, List.drop_zero, List.length_cons, List.length_nil]; decide) (by decide) (by as_aux_lemma => kernel_rfl) (M := awM) (by as_aux_lemma => kernel_rfl) (by as_aux_lemma => kernel_rfl) ?_
  simp only [List.drop_succ_cons, List.take_succ_cons, List.drop_zero, List.take_zero]
  still_step
  still_step
  still_step
  refine wpStill_nil ?_
  refine wpAnyH_load (i := 58) (v := .slice Au 1 cu) (by decide) rfl (by as_aux_lemma => kernel_rfl) (by as_aux_lemma => kernel_rfl) (by as_aux_lemma => kernel_rfl) (fun _ _ _ h => h) (Or.inl ⟨by rfl, ?_⟩) hHeld ?_
  · intro w hSw
    clear hSw
    go_simp
    try rfl
  simp only [Act.put, List.setIfInBounds_toArray, List.set_cons_zero, List.set_cons_succ]
  refine wpAnyH_one (i := 59) (by decide) rfl (by as_aux_lemma => kernel_rfl) (M := awM) (by as_aux_lemma => kernel_rfl) (by as_aux_lemma => kernel_rfl) (fun K hK => ?_)
  go_simp
  obtain ⟨ad_u, had_u⟩ : ∃ a, v3.heap.size = a := ⟨_, rfl⟩
  try rw [had_u]
  refine named (fun w' : World => Below v3.heap.size v3 w' ∧ Kd.C (Kd.int .i64) w' (some ⟨ad_u, 0, none⟩) 1 [0]) ⟨below_alloc (Below.refl _ _) _, by rw [← had_u]; exact C_lit (l := [0]) (blk_new v3 (.cells #[.int .i64 0] 3)) (by decide)⟩ ?_
  rintro v4 ⟨hbv, hnf0⟩
  obtain ⟨h0, h1, h2, h3, h4, h5⟩ := hHeld
  replace h0 := cell_below2 h0 hbv
  replace h1 := cell_below2 h1 hbv
  replace h2 := cell_below2 h2 hbv
  replace h3 := cell_below2 h3 hbv
  replace h4 := cell_below2 h4 hbv
  replace h5 := cell_below2 h5 hbv
  replace HBd := Aside0.mk (HBd.out.trans (hbv.mono HBd.out.size))
  replace Hud := Aside0.mk (Kd.C_below Hud.out hbv)
  replace Hpd := Aside0.mk (Kd.C_below Hpd.out hbv)
  replace Hqd := Aside0.mk (Kd.C_below Hqd.out hbv)
  replace Hod := Aside0.mk (Kd.C_below Hod.out hbv)
  replace Hrd := Aside0.mk (Kd.C_below Hrd.out hbv)
  replace Htd := Aside0.mk (Kd.C_below Htd.out hbv)
  replace Hbd := Aside0.mk (Kd.C_below Hbd.out hbv)
  refine hK.out _ _ ⟨h0, h1, h2, h3, h4, h5⟩ (fun hHeld => ?_)
  clear h0 h1 h2 h3 h4 h5 hbv
  clear hK K
  try simp only [Act.put, List.setIfInBounds_toArray, List.set_cons_zero, List.set_cons_succ]
  clear had_u
  refine wpAnyH_one (i := 60) (by decide) rfl (by as_aux_lemma => kernel_rfl) (M := awM) (by as_aux_lemma => kernel_rfl) (by as_aux_lemma => kernel_rfl) (fun K hK => ?_)
  go_simp
  refine (Ints_calls [0] [0] _ _ 1 1 _ _ _ rfl rfl Hud.out hnf0).mono ?_
  rintro e w' ⟨rfl, hcw⟩
  refine named (fun w' : World => Below v4.heap.size v4 w') (hcw.below (fun _ _ x => x.elim) (Nat.le_refl _)) ?_
  rintro v5 hbv
  obtain ⟨h0, h1, h2, h3, h4, h5⟩ := hHeld
  replace h0 := cell_below2 h0 hbv
  replace h1 := cell_below2 h1 hbv
  replace h2 := cell_below2 h2 hbv
  replace h3 := cell_below2 h3 hbv
  replace h4 := cell_below2 h4 hbv
  replace h5 := cell_below2 h5 hbv
  replace HBd := Aside0.mk (HBd.out.trans (hbv.mono HBd.out.size))
  replace Hud := Aside0.mk (Kd.C_below Hud.out hbv)
  replace Hpd := Aside0.mk (Kd.C_below Hpd.out hbv)
  replace Hqd := Aside0.mk (Kd.C_below Hqd.out hbv)
  replace Hod := Aside0.mk (Kd.C_below Hod.out hbv)
  replace Hrd := Aside0.mk (Kd.C_below Hrd.out hbv)
  replace Htd := Aside0.mk (Kd.C_below Htd.out hbv)
  replace Hbd := Aside0.mk (Kd.C_below Hbd.out hbv)
  refine hK.out _ _ ⟨h0, h1, h2, h3, h4, h5⟩ (fun hHeld => ?_)
  clear h0 h1 h2 h3 h4 h5 hbv
  clear hK K
  try simp only [Act.put, List.setIfInBounds_toArray, List.set_cons_zero, List.set_cons_succ]
  clear hnf0
  refine wpAnyH_seg 61 2 34 hHeld (by simp only [List.drop_succ_cons, List.drop_zero, List.length_cons, List.length_nil]; decide) (by decide) (by as_aux_lemma => kernel_rfl) (M := awM) (by as_aux_lemma => kernel_rfl) (by as_aux_lemma => kernel_rfl) ?_
  simp only [List.drop_succ_cons, List.take_succ_cons, List.drop_zero, List.take_zero]
  still_step
  still_step
  refine wpStill_nil ?_
  refine wpAnyH_load (i := 63) (v := .slice Ap 2 cp) (by decide) rfl (by as_aux_lemma => kernel_rfl) (by as_aux_lemma => kernel_rfl) (by as_aux_lemma => kernel_rfl) (fun _ _ _ h => h) (Or.inl ⟨by rfl, ?_⟩) hHeld ?_
  · intro w hSw
    clear hSw
    go_simp
    try rfl
  simp only [Act.put, List.setIfInBounds_toArray, List.set_cons_zero, List.set_cons_succ]
  refine wpAnyH_one (i := 64) (by decide) rfl (by as_aux_lemma => kernel_rfl) (M := awM) (by as_aux_lemma => kernel_rfl) (by as_aux_lemma => kernel_rfl) (fun K hK => ?_)
  go_simp
  obtain ⟨ad_p, had_p⟩ : ∃ a, v5.heap.size = a := ⟨_, rfl⟩
  try rw [had_p]
  refine named (fun w' : World => Below v5.heap.size v5 w' ∧ Kd.C (Kd.int .i64) w' (some ⟨ad_p, 0, none⟩) 2 [1, 2]) ⟨below_alloc (Below.refl _ _) _, by rw [← had_p]; exact C_lit (l := [1, 2]) (blk_new v5 (.cells #[.int .i64 1, .int .i64 2] 3)) (by decide)⟩ ?_
  rintro v6 ⟨hbv, hnf0⟩
  obtain ⟨h0, h1, h2, h3, h4, h5⟩ := hHeld
  replace h0 := cell_below2 h0 hbv
  replace h1 := cell_below2 h1 hbv
  replace h2 := cell_below2 h2 hbv
  replace h3 := cell_below2 h3 hbv
  replace h4 := cell_below2 h4 hbv
  replace h5 := cell_below2 h5 hbv
  replace HBd := Aside0.mk (HBd.out.trans (hbv.mono HBd.out.size))
  replace Hpd := Aside0.mk (Kd.C_below Hpd.out hbv)
  replace Hqd := Aside0.mk (Kd.C_below Hqd.out hbv)
  replace Hod := Aside0.mk (Kd.C_below Hod.out hbv)
  replace Hrd := Aside0.mk (Kd.C_below Hrd.out hbv)
  replace Htd := Aside0.mk (Kd.C_below Htd.out hbv)
  replace Hbd := Aside0.mk (Kd.C_below Hbd.out hbv)
  refine hK.out _ _ ⟨h0, h1, h2, h3, h4, h5⟩ (fun hHeld => ?_)
  clear h0 h1 h2 h3 h4 h5 hbv
  clear hK K
  try simp only [Act.put, List.setIfInBounds_toArray, List.set_cons_zero, List.set_cons_succ]
  clear had_p
  refine wpAnyH_one (i := 65) (by decide) rfl (by as_aux_lemma => kernel_rfl) (M := awM) (by as_aux_lemma => kernel_rfl) (by as_aux_lemma => kernel_rfl) (fun K hK => ?_)
  go_simp
  refine (Ints_calls [1, 2] [1, 2] _ _ 2 2 _ _ _ rfl rfl Hpd.out hnf0).mono ?_
  rintro e w' ⟨rfl, hcw⟩
  refine named (fun w' : World => Below v6.heap.size v6 w') (hcw.below (fun _ _ x => x.elim) (Nat.le_refl _)) ?_
  rintro v7 hbv
  obtain ⟨h0, h1, h2, h3, h4, h5⟩ := hHeld
  replace h0 := cell_below2 h0 hbv
  replace h1 := cell_below2 h1 hbv
  replace h2 := cell_below2 h2 hbv
  replace h3 := cell_below2 h3 hbv
  replace h4 := cell_below2 h4 hbv
  replace h5 := cell_below2 h5 hbv
  replace HBd := Aside0.mk (HBd.out.trans (hbv.mono HBd.out.size))
  replace Hpd := Aside0.mk (Kd.C_below Hpd.out hbv)
  replace Hqd := Aside0.mk (Kd.C_below Hqd.out hbv)
  replace Hod := Aside0.mk (Kd.C_below Hod.out hbv)
  replace Hrd := Aside0.mk (Kd.C_below Hrd.out hbv)
  replace Htd := Aside0.mk (Kd.C_below Htd.out hbv)
  replace Hbd := Aside0.mk (Kd.C_below Hbd.out hbv)
  refine hK.out _ _ ⟨h0, h1, h2, h3, h4, h5⟩ (fun hHeld => ?_)
  clear h0 h1 h2 h3 h4 h5 hbv
  clear hK K
  try simp only [Act.put, List.setIfInBounds_toArray, List.set_cons_zero, List.set_cons_succ]
  clear hnf0
  refine wpAnyH_seg 66 2 29 hHeld (by simp only [List.drop_succ_cons, List.drop_zero, List.length_cons, List.length_nil]; decide) (by decide) (by as_aux_lemma => kernel_rfl) (M := awM) (by as_aux_lemma => kernel_rfl) (by as_aux_lemma => kernel_rfl) ?_
  simp only [List.drop_succ_cons, List.take_succ_cons, List.drop_zero, List.take_zero]
  still_step
  still_step
  refine wpStill_nil ?_
  refine wpAnyH_load (i := 68) (v := .slice Aq 3 cq) (by decide) rfl (by as_aux_lemma => kernel_rfl) (by as_aux_lemma => kernel_rfl) (by as_aux_lemma => kernel_rfl) (fun _ _ _ h => h) (Or.inl ⟨by rfl, ?_⟩) hHeld ?_
  · intro w hSw
    clear hSw
    go_simp
    try rfl
  simp only [Act.put, List.setIfInBounds_toArray, List.set_cons_zero, List.set_cons_succ]
  refine wpAnyH_one (i := 69) (by decide) rfl (by as_aux_lemma => kernel_rfl) (M := awM) (by as_aux_lemma => kernel_rfl) (by as_aux_lemma => kernel_rfl) (fun K hK => ?_)
  go_simp
  obtain ⟨ad_q, had_q⟩ : ∃ a, v7.heap.size = a := ⟨_, rfl⟩
  try rw [had_q]
  refine named (fun w' : World => Below v7.heap.size v7 w' ∧ Kd.C (Kd.int .i64) w' (some ⟨ad_q, 0, none⟩) 3 [0, 1, 2]) ⟨below_alloc (Below.refl _ _) _, by rw [← had_q]; exact C_lit (l := [0, 1, 2]) (blk_new v7 (.cells #[.int .i64 0, .int .i64 1, .int .i64 2] 3)) (by decide)⟩ ?_
  rintro v8 ⟨hbv, hnf0⟩
  obtain ⟨h0, h1, h2, h3, h4, h5⟩ := hHeld
  replace h0 := cell_below2 h0 hbv
  replace h1 := cell_below2 h1 hbv
  replace h2 := cell_below2 h2 hbv
  replace h3 := cell_below2 h3 hbv
  replace h4 := cell_below2 h4 hbv
  replace h5 := cell_below2 h5 hbv
  replace HBd := Aside0.mk (HBd.out.trans (hbv.mono HBd.out.size))
  replace Hqd := Aside0.mk (Kd.C_below Hqd.out hbv)
  replace Hod := Aside0.mk (Kd.C_below Hod.out hbv)
  replace Hrd := Aside0.mk (Kd.C_below Hrd.out hbv)
  replace Htd := Aside0.mk (Kd.C_below Htd.out hbv)
  replace Hbd := Aside0.mk (Kd.C_below Hbd.out hbv)
  refine hK.out _ _ ⟨h0, h1, h2, h3, h4, h5⟩ (fun hHeld => ?_)
  clear h0 h1 h2 h3 h4 h5 hbv
  clear hK K
  try simp only [Act.put, List.setIfInBounds_toArray, List.set_cons_zero, List.set_cons_succ]
  clear had_q
  refine wpAnyH_one (i := 70) (by decide) rfl (by as_aux_lemma => kernel_rfl) (M := awM) (by as_aux_lemma => kernel_rfl) (by as_aux_lemma => kernel_rfl) (fun K hK => ?_)
  go_simp
  refine (Ints_calls [0, 1, 2] [0, 1, 2] _ _ 3 3 _ _ _ rfl rfl Hqd.out hnf0).mono ?_
  rintro e w' ⟨rfl, hcw⟩
  refine named (fun w' : World => Below v8.heap.size v8 w') (hcw.below (fun _ _ x => x.elim) (Nat.le_refl _)) ?_
  rintro v9 hbv
  obtain ⟨h0, h1, h2, h3, h4, h5⟩ := hHeld
  replace h0 := cell_below2 h0 hbv
  replace h1 := cell_below2 h1 hbv
  replace h2 := cell_below2 h2 hbv
  replace h3 := cell_below2 h3 hbv
  replace h4 := cell_below2 h4 hbv
  replace h5 := cell_below2 h5 hbv
  replace HBd := Aside0.mk (HBd.out.trans (hbv.mono HBd.out.size))
  replace Hqd := Aside0.mk (Kd.C_below Hqd.out hbv)
  replace Hod := Aside0.mk (Kd.C_below Hod.out hbv)
  replace Hrd := Aside0.mk (Kd.C_below Hrd.out hbv)
  replace Htd := Aside0.mk (Kd.C_below Htd.out hbv)
  replace Hbd := Aside0.mk (Kd.C_below Hbd.out hbv)
  refine hK.out _ _ ⟨h0, h1, h2, h3, h4, h5⟩ (fun hHeld => ?_)
  clear h0 h1 h2 h3 h4 h5 hbv
  clear hK K
  try simp only [Act.put, List.setIfInBounds_toArray, List.set_cons_zero, List.set_cons_succ]
  clear hnf0
  refine wpAnyH_seg 71 2 24 hHeld (by simp only [List.drop_succ_cons, List.drop_zero, List.length_cons, List.length_nil]; decide) (by decide) (by as_aux_lemma => kernel_rfl) (M := awM) (by as_aux_lemma => kernel_rfl) (by as_aux_lemma => kernel_rfl) ?_
  simp only [List.drop_succ_cons, List.take_succ_cons, List.drop_zero, List.take_zero]
  still_step
  still_step
  refine wpStill_nil ?_
  refine wpAnyH_load (i := 73) (v := .slice Ao 1 co) (by decide) rfl (by as_aux_lemma => kernel_rfl) (by as_aux_lemma => kernel_rfl) (by as_aux_lemma => kernel_rfl) (fun _ _ _ h => h) (Or.inl ⟨by rfl, ?_⟩) hHeld ?_
  · intro w hSw
    clear hSw
    go_simp
    try rfl
  simp only [Act.put, List.setIfInBounds_toArray, List.set_cons_zero, List.set_cons_succ]
  refine wpAnyH_one (i := 74) (by decide) rfl (by as_aux_lemma => kernel_rfl) (M := awM) (by as_aux_lemma => kernel_rfl) (by as_aux_lemma => kernel_rfl) (fun K hK => ?_)
  go_simp
  obtain ⟨ad_o, had_o⟩ : ∃ a, v9.heap.size = a := ⟨_, rfl⟩
  try rw [had_o]
  refine named (fun w' : World => Below v9.heap.size v9 w' ∧ Kd.C (Kd.int .i64) w' (some ⟨ad_o, 0, none⟩) 1 [2]) ⟨below_alloc (Below.refl _ _) _, by rw [← had_o]; exact C_lit (l := [2]) (blk_new v9 (.cells #[.int .i64 2] 3)) (by decide)⟩ ?_
  rintro v10 ⟨hbv, hnf0⟩
  obtain ⟨h0, h1, h2, h3, h4, h5⟩ := hHeld
  replace h0 := cell_below2 h0 hbv
  replace h1 := cell_below2 h1 hbv
  replace h2 := cell_below2 h2 hbv
  replace h3 := cell_below2 h3 hbv
  replace h4 := cell_below2 h4 hbv
  replace h5 := cell_below2 h5 hbv
  replace HBd := Aside0.mk (HBd.out.trans (hbv.mono HBd.out.size))
  replace Hod := Aside0.mk (Kd.C_below Hod.out hbv)
  replace Hrd := Aside0.mk (Kd.C_below Hrd.out hbv)
  replace Htd := Aside0.mk (Kd.C_below Htd.out hbv)
  replace Hbd := Aside0.mk (Kd.C_below Hbd.out hbv)
  refine hK.out _ _ ⟨h0, h1, h2, h3, h4, h5⟩ (fun hHeld => ?_)
  clear h0 h1 h2 h3 h4 h5 hbv
  clear hK K
  try simp only [Act.put, List.setIfInBounds_toArray, List.set_cons_zero, List.set_cons_succ]
  clear had_o
  refine wpAnyH_one (i := 75) (by decide) rfl (by as_aux_lemma => kernel_rfl) (M := awM) (by as_aux_lemma => kernel_rfl) (by as_aux_lemma => kernel_rfl) (fun K hK => ?_)
  go_simp
  refine (Ints_calls [2] [2] _ _ 1 1 _ _ _ rfl rfl Hod.out hnf0).mono ?_
  rintro e w' ⟨rfl, hcw⟩
  refine named (fun w' : World => Below v10.heap.size v10 w') (hcw.below (fun _ _ x => x.elim) (Nat.le_refl _)) ?_
  rintro v11 hbv
  obtain ⟨h0, h1, h2, h3, h4, h5⟩ := hHeld
  replace h0 := cell_below2 h0 hbv
  replace h1 := cell_below2 h1 hbv
  replace h2 := cell_below2 h2 hbv
  replace h3 := cell_below2 h3 hbv
  replace h4 := cell_below2 h4 hbv
  replace h5 := cell_below2 h5 hbv
  replace HBd := Aside0.mk (HBd.out.trans (hbv.mono HBd.out.size))
  replace Hod := Aside0.mk (Kd.C_below Hod.out hbv)
  replace Hrd := Aside0.mk (Kd.C_below Hrd.out hbv)
  replace Htd := Aside0.mk (Kd.C_below Htd.out hbv)
  replace Hbd := Aside0.mk (Kd.C_below Hbd.out hbv)
  refine hK.out _ _ ⟨h0, h1, h2, h3, h4, h5⟩ (fun hHeld => ?_)
  clear h0 h1 h2 h3 h4 h5 hbv
  clear hK K
  try simp only [Act.put, List.setIfInBounds_toArray, List.set_cons_zero, List.set_cons_succ]
  clear hnf0
  refine wpAnyH_seg 76 2 19 hHeld (by simp only [List.drop_succ_cons, List.drop_zero, List.length_cons, List.length_nil]; decide) (by decide) (by as_aux_lemma => kernel_rfl) (M := awM) (by as_aux_lemma => kernel_rfl) (by as_aux_lemma => kernel_rfl) ?_
  simp only [List.drop_succ_cons, List.take_succ_cons, List.drop_zero, List.take_zero]
  still_step
  still_step
  refine wpStill_nil ?_
  refine wpAnyH_load (i := 78) (v := .slice Ar 1 cr) (by decide) rfl (by as_aux_lemma => kernel_rfl) (by as_aux_lemma => kernel_rfl) (by as_aux_lemma => kernel_rfl) (fun _ _ _ h => h) (Or.inl ⟨by rfl, ?_⟩) hHeld ?_
  · intro w hSw
    clear hSw
    go_simp
    try rfl
  simp only [Act.put, List.setIfInBounds_toArray, List.set_cons_zero, List.set_cons_succ]
  refine wpAnyH_one (i := 79) (by decide) rfl (by as_aux_lemma => kernel_rfl) (M := awM) (by as_aux_lemma => kernel_rfl) (by as_aux_lemma => kernel_rfl) (fun K hK => ?_)
  go_simp
  obtain ⟨ad_r, had_r⟩ : ∃ a, v11.heap.size = a := ⟨_, rfl⟩
  try rw [had_r]
  refine named (fun w' : World => Below v11.heap.size v11 w' ∧ Kd.C (Kd.int .i64) w' (some ⟨ad_r, 0, none⟩) 1 [2]) ⟨below_alloc (Below.refl _ _) _, by rw [← had_r]; exact C_lit (l := [2]) (blk_new v11 (.cells #[.int .i64 2] 3)) (by decide)⟩ ?_
  rintro v12 ⟨hbv, hnf0⟩
  obtain ⟨h0, h1, h2, h3, h4, h5⟩ := hHeld
  replace h0 := cell_below2 h0 hbv
  replace h1 := cell_below2 h1 hbv
  replace h2 := cell_below2 h2 hbv
  replace h3 := cell_below2 h3 hbv
  replace h4 := cell_below2 h4 hbv
  replace h5 := cell_below2 h5 hbv
  replace HBd := Aside0.mk (HBd.out.trans (hbv.mono HBd.out.size))
  replace Hrd := Aside0.mk (Kd.C_below Hrd.out hbv)
  replace Htd := Aside0.mk (Kd.C_below Htd.out hbv)
  replace Hbd := Aside0.mk (Kd.C_below Hbd.out hbv)
  refine hK.out _ _ ⟨h0, h1, h2, h3, h4, h5⟩ (fun hHeld => ?_)
  clear h0 h1 h2 h3 h4 h5 hbv
  clear hK K
  try simp only [Act.put, List.setIfInBounds_toArray, List.set_cons_zero, List.set_cons_succ]
  clear had_r
  refine wpAnyH_one (i := 80) (by decide) rfl (by as_aux_lemma => kernel_rfl) (M := awM) (by as_aux_lemma => kernel_rfl) (by as_aux_lemma => kernel_rfl) (fun K hK => ?_)
  go_simp
  refine (Ints_calls [2] [2] _ _ 1 1 _ _ _ rfl rfl Hrd.out hnf0).mono ?_
  rintro e w' ⟨rfl, hcw⟩
  refine named (fun w' : World => Below v12.heap.size v12 w') (hcw.below (fun _ _ x => x.elim) (Nat.le_refl _)) ?_
  rintro v13 hbv
  obtain ⟨h0, h1, h2, h3, h4, h5⟩ := hHeld
  replace h0 := cell_below2 h0 hbv
  replace h1 := cell_below2 h1 hbv
  replace h2 := cell_below2 h2 hbv
  replace h3 := cell_below2 h3 hbv
  replace h4 := cell_below2 h4 hbv
  replace h5 := cell_below2 h5 hbv
  replace HBd := Aside0.mk (HBd.out.trans (hbv.mono HBd.out.size))
  replace Hrd := Aside0.mk (Kd.C_below Hrd.out hbv)
  replace Htd := Aside0.mk (Kd.C_below Htd.out hbv)
  replace Hbd := Aside0.mk (Kd.C_below Hbd.out hbv)
  refine hK.out _ _ ⟨h0, h1, h2, h3, h4, h5⟩ (fun hHeld => ?_)
  clear h0 h1 h2 h3 h4 h5 hbv
  clear hK K
  try simp only [Act.put, List.setIfInBounds_toArray, List.set_cons_zero, List.set_cons_succ]
  clear hnf0
  refine wpAnyH_seg 81 6 10 hHeld (by simp only [List.drop_succ_cons, List.drop_zero, List.length_cons, List.length_nil]; decide) (by decide) (by as_aux_lemma => kernel_rfl) (M := awM) (by as_aux_lemma => kernel_rfl) (by as_aux_lemma => kernel_rfl) ?_
  simp only [List.drop_succ_cons, List.take_succ_cons, List.drop_zero, List.take_zero]
  still_step
  still_step
  still_step
  still_step
  still_step
  still_step
  refine wpStill_nil ?_
  refine wpAnyH_load (i := 87) (v := .slice At 1 ct) (by decide) rfl (by as_aux_lemma => kernel_rfl) (by as_aux_lemma => kernel_rfl) (by as_aux_lemma => kernel_rfl) (fun _ _ _ h => h) (Or.inl ⟨by rfl, ?_⟩) hHeld ?_
  · intro w hSw
    clear hSw
    go_simp
    try rfl
  simp only [Act.put, List.setIfInBounds_toArray, List.set_cons_zero, List.set_cons_succ]
  refine wpAnyH_one (i := 88) (by decide) rfl (by as_aux_lemma => kernel_rfl) (M := awM) (by as_aux_lemma => kernel_rfl) (by as_aux_lemma => kernel_rfl) (fun K hK => ?_)
  go_simp
  obtain ⟨ad_t, had_t⟩ : ∃ a, v13.heap.size = a := ⟨_, rfl⟩
  try rw [had_t]
  refine named (fun w' : World => Below v13.heap.size v13 w' ∧ Kd.C (Kd.int .i64) w' (some ⟨ad_t, 0, none⟩) 1 [0]) ⟨below_alloc (Below.refl _ _) _, by rw [← had_t]; exact C_lit (l := [0]) (blk_new v13 (.cells #[.int .i64 0] 3)) (by decide)⟩ ?_
  rintro v14 ⟨hbv, hnf0⟩
  obtain ⟨h0, h1, h2, h3, h4, h5⟩ := hHeld
  replace h0 := cell_below2 h0 hbv
  replace h1 := cell_below2 h1 hbv
  replace h2 := cell_below2 h2 hbv
  replace h3 := cell_below2 h3 hbv
  replace h4 := cell_below2 h4 hbv
  replace h5 := cell_below2 h5 hbv
  replace HBd := Aside0.mk (HBd.out.trans (hbv.mono HBd.out.size))
  replace Htd := Aside0.mk (Kd.C_below Htd.out hbv)
  replace Hbd := Aside0.mk (Kd.C_below Hbd.out hbv)
  refine hK.out _ _ ⟨h0, h1, h2, h3, h4, h5⟩ (fun hHeld => ?_)
  clear h0 h1 h2 h3 h4 h5 hbv
  clear hK K
  try simp only [Act.put, List.setIfInBounds_toArray, List.set_cons_zero, List.set_cons_succ]
  clear had_t
  refine wpAnyH_one (i := 89) (by decide) rfl (by as_aux_lemma => kernel_rfl) (M := awM) (by as_aux_lemma => kernel_rfl) (by as_aux_lemma => kernel_rfl) (fun K hK => ?_)
  go_simp
  refine (Ints_calls [0] [0] _ _ 1 1 _ _ _ rfl rfl Htd.out hnf0).mono ?_
  rintro e w' ⟨rfl, hcw⟩
  refine named (fun w' : World => Below v14.heap.size v14 w') (hcw.below (fun _ _ x => x.elim) (Nat.le_refl _)) ?_
  rintro v15 hbv
  obtain ⟨h0, h1, h2, h3, h4, h5⟩ := hHeld
  replace h0 := cell_below2 h0 hbv
  replace h1 := cell_below2 h1 hbv
  replace h2 := cell_below2 h2 hbv
  replace h3 := cell_below2 h3 hbv
  replace h4 := cell_below2 h4 hbv
  replace h5 := cell_below2 h5 hbv
  replace HBd := Aside0.mk (HBd.out.trans (hbv.mono HBd.out.size))
  replace Htd := Aside0.mk (Kd.C_below Htd.out hbv)
  replace Hbd := Aside0.mk (Kd.C_below Hbd.out hbv)
  refine hK.out _ _ ⟨h0, h1, h2, h3, h4, h5⟩ (fun hHeld => ?_)
  clear h0 h1 h2 h3 h4 h5 hbv
  clear hK K
  try simp only [Act.put, List.setIfInBounds_toArray, List.set_cons_zero, List.set_cons_succ]
  clear hnf0
  refine wpAnyH_seg 90 2 5 hHeld (by simp only [List.drop_succ_cons, List.drop_zero, List.length_cons, List.length_nil]; decide) (by decide) (by as_aux_lemma => kernel_rfl) (M := awM) (by as_aux_lemma => kernel_rfl) (by as_aux_lemma => kernel_rfl) ?_
  simp only [List.drop_succ_cons, List.take_succ_cons, List.drop_zero, List.take_zero]
  still_step
  still_step
  refine wpStill_nil ?_
  refine wpAnyH_load (i := 92) (v := .slice Ab 1 cb) (by decide) rfl (by as_aux_lemma => kernel_rfl) (by as_aux_lemma => kernel_rfl) (by as_aux_lemma => kernel_rfl) (fun _ _ _ h => h) (Or.inl ⟨by rfl, ?_⟩) hHeld ?_
  · intro w hSw
    clear hSw
    go_simp
    try rfl
  simp only [Act.put, List.setIfInBounds_toArray, List.set_cons_zero, List.set_cons_succ]
  refine wpAnyH_one (i := 93) (by decide) rfl (by as_aux_lemma => kernel_rfl) (M := awM) (by as_aux_lemma => kernel_rfl) (by as_aux_lemma => kernel_rfl) (fun K hK => ?_)
  go_simp
  obtain ⟨ad_b, had_b⟩ : ∃ a, v15.heap.size = a := ⟨_, rfl⟩
  try rw [had_b]
  refine named (fun w' : World => Below v15.heap.size v15 w' ∧ Kd.C (Kd.int .i64) w' (some ⟨ad_b, 0, none⟩) 1 [0]) ⟨below_alloc (Below.refl _ _) _, by rw [← had_b]; exact C_lit (l := [0]) (blk_new v15 (.cells #[.int .i64 0] 3)) (by decide)⟩ ?_
  rintro v16 ⟨hbv, hnf0⟩
  obtain ⟨h0, h1, h2, h3, h4, h5⟩ := hHeld
  replace h0 := cell_below2 h0 hbv
  replace h1 := cell_below2 h1 hbv
  replace h2 := cell_below2 h2 hbv
  replace h3 := cell_below2 h3 hbv
  replace h4 := cell_below2 h4 hbv
  replace h5 := cell_below2 h5 hbv
  replace HBd := Aside0.mk (HBd.out.trans (hbv.mono HBd.out.size))
  replace Hbd := Aside0.mk (Kd.C_below Hbd.out hbv)
  refine hK.out _ _ ⟨h0, h1, h2, h3, h4, h5⟩ (fun hHeld => ?_)
  clear h0 h1 h2 h3 h4 h5 hbv
  clear hK K
  try simp only [Act.put, List.setIfInBounds_toArray, List.set_cons_zero, List.set_cons_succ]
  clear had_b
  refine wpAnyH_one (i := 94) (by decide) rfl (by as_aux_lemma => kernel_rfl) (M := awM) (by as_aux_lemma => kernel_rfl) (by as_aux_lemma => kernel_rfl) (fun K hK => ?_)
  go_simp
  refine (Ints_calls [0] [0] _ _ 1 1 _ _ _ rfl rfl Hbd.out hnf0).mono ?_
  rintro e w' ⟨rfl, hcw⟩
  refine named (fun w' : World => Below v16.heap.size v16 w') (hcw.below (fun _ _ x => x.elim) (Nat.le_refl _)) ?_
  rintro v17 hbv
  obtain ⟨h0, h1, h2, h3, h4, h5⟩ := hHeld
  replace h0 := cell_below2 h0 hbv
  replace h1 := cell_below2 h1 hbv
  replace h2 := cell_below2 h2 hbv
  replace h3 := cell_below2 h3 hbv
  replace h4 := cell_below2 h4 hbv
  replace h5 := cell_below2 h5 hbv
  replace HBd := Aside0.mk (HBd.out.trans (hbv.mono HBd.out.size))
  replace Hbd := Aside0.mk (Kd.C_below Hbd.out hbv)
  refine hK.out _ _ ⟨h0, h1, h2, h3, h4, h5⟩ (fun hHeld => ?_)
  clear h0 h1 h2 h3 h4 h5 hbv
  clear hK K
  try simp only [Act.put, List.setIfInBounds_toArray, List.set_cons_zero, List.set_cons_succ]
  clear hnf0
  refine wpAnyH_seg 95 2 0 hHeld (by simp only [List.drop_succ_cons, List.drop_zero, List.length_cons, List.length_nil]; decide) (by decide) (by as_aux_lemma => kernel_rfl) (M := awM) (by as_aux_lemma => kernel_rfl) (by as_aux_lemma => kernel_rfl) ?_
  simp only [List.drop_succ_cons, List.take_succ_cons, List.drop_zero, List.take_zero]
  still_step
  still_step
  refine wpStill_nil ?_
  refine wpAnyH_done (by as_aux_lemma => kernel_rfl) ?_ _
  go_wp2
  go_ret
  exact ⟨rfl, HBd.out⟩
end Go.Proofs.Ytgoidclnccjdeaa.D
end
section
/- Package glass: GlassKnown. -/
namespace Go.Proofs.Ytgoidclnccjdeaa.D
open Go Go.RowKit Go.Proofs.YtgoidclnccjdeaaK Go.Proofs.YtgoidclnccjdeaaW.PrintWords Go.Proofs.YtgoidclnccjdeaaW.PrintLast Go.Proofs.YtgoidclnccjdeaaW.PrintMore Go.Proofs.Ytgoidclnccjdeaa.PR Go.Proofs.Ytgoidclnccjdeaa.M
set_option linter.unusedVariables false
set_option linter.unusedSimpArgs false

theorem ek_size0 : hullF exD [(amongB exD.sp.length [0], 4)] (4 + (0 : Int).toNat) = (4, 6) := by kernel_rfl
theorem ek_esize0 : enterE exD [(amongB exD.sp.length [0], 4)] = 0 := by kernel_rfl
theorem ek_least1 : hullF exD [(amongB exD.gl.length [1], 4)] ((1 : Int).toNat) = (3, 5) := by kernel_rfl
theorem ek_eleast1 : enterE exD [(amongB exD.gl.length [1], 4)] = 0 := by kernel_rfl
theorem ek_larger01 : largerF exD 0 1 = 2 := by kernel_rfl
theorem ek_elarger01 : enterE exD (askTwo exD 0 1) = 0 := by kernel_rfl
theorem ek_larger21 : largerF exD 2 1 = 1 := by kernel_rfl
theorem ek_elarger21 : enterE exD (askTwo exD 2 1) = 0 := by kernel_rfl
theorem ek_part210 : partF exD 2 1 0 = [] := by kernel_rfl
theorem ek_epart210 : enterE exD (askPart exD 2 1 0) = 0 := by kernel_rfl
theorem ek_wrong : wrongF exD = ([], 0) := by kernel_rfl
def ekM : List Nat := [0, 1, 2, 3, 4, 5, 6, 7, 8, 9, 10, 11, 12, 13, 14, 15, 16, 17, 18, 19, 20, 21, 22, 23, 23, 25, 26, 27, 28, 28, 30, 31, 32, 33, 34, 35, 36, 37, 38, 39, 40, 41, 42, 43, 44, 45, 46, 47, 48, 49, 50, 51, 52, 53]
set_option maxRecDepth 100000 in
set_option maxHeartbeats 12000000 in
theorem GlassKnown_calls (w : World) : Calls Try.prog 7 #[] w fun e w' => e = .returned (.bool true) ∧ Below w.heap.size w w' := by
  go_enter Try.func7, Try.ntmps7
  go_wp2_with fail
  refine (Shelf_calls _).mono ?_
  rintro e w2 ⟨⟨A0s, c0s, A3s, c3s, A4s, c4s, rfl, has⟩, hb⟩
  have AS := Aside0.mk has
  have HB := Aside0.mk hb
  clear has hb
  go_upto_region 2 with (fail)
  have hb : Below w2.heap.size w2 (w2.alloc (.cells (exD.cells A0s c0s A3s c3s A4s c4s) 28)) := below_alloc (Below.refl _ _) _
  have TS : Aside0 ((w2.alloc (.cells (exD.cells A0s c0s A3s c3s A4s c4s) 28)).heap[w2.heap.size]? = some (.cells (exD.cells A0s c0s A3s c3s A4s c4s) 28 (0, 0))) := ⟨blk_new _ _⟩
  have AS' := Aside0.mk (AS.out.below hb)
  have HB' := Aside0.mk (HB.out.trans (hb.mono HB.out.size))
  clear hb AS HB
  have AS := AS'
  have HB := HB'
  clear AS' HB'
  generalize w2.alloc (.cells (exD.cells A0s c0s A3s c3s A4s c4s) 28) = W at AS HB TS ⊢
  obtain ⟨t, ht⟩ : ∃ t, w2.heap.size = t := ⟨_, rfl⟩
  rw [ht] at TS ⊢
  clear ht
  have k0 := (blk_cell TS.out 0).trans rfl
  have k1 := (blk_cell TS.out 1).trans rfl
  have k2 := (blk_cell TS.out 2).trans rfl
  have k3 := (blk_cell TS.out 3).trans rfl
  have k4 := (blk_cell TS.out 4).trans rfl
  have kl := blk_lt TS.out
  go_wp2_with fail
  clear k0 k1 k2 k3 k4 kl
  refine (Size_calls exD A0s c0s A3s c3s A4s c4s 0 W AS.out).mono ?_
  rw [ek_size0, ek_esize0]
  rintro e X1 ⟨rfl, hb⟩
  have AS' := Aside0.mk (AS.out.below hb)
  have HB' := Aside0.mk (HB.out.trans (hb.mono HB.out.size))
  have TS' := Aside0.mk (blk_below TS.out hb)
  clear hb AS HB TS
  have AS := AS'
  have HB := HB'
  have TS := TS'
  clear AS' HB' TS'
  go_upto_region 3 with (fail)
  have hb : Below X1.heap.size X1 (X1.alloc (.cells #[.int .i64 4, .int .i64 6] 24)) := below_alloc (Below.refl _ _) _
  have SA0 : Aside0 ((X1.alloc (.cells #[.int .i64 4, .int .i64 6] 24)).heap[X1.heap.size]? = some (.cells #[.int .i64 4, .int .i64 6] 24 (0, 0))) := ⟨blk_new _ _⟩
  have AS' := Aside0.mk (AS.out.below hb)
  have HB' := Aside0.mk (HB.out.trans (hb.mono HB.out.size))
  have TS' := Aside0.mk (blk_below TS.out hb)
  clear hb AS HB TS
  have AS := AS'
  have HB := HB'
  have TS := TS'
  clear AS' HB' TS'
  have SA := SA0
  clear SA0
  generalize (X1.alloc (.cells #[.int .i64 4, .int .i64 6] 24)) = Y1 at AS HB TS SA ⊢
  obtain ⟨za, hza⟩ : ∃ b, X1.heap.size = b := ⟨_, rfl⟩
  rw [hza] at SA ⊢
  clear hza
  have k0 := (blk_cell TS.out 0).trans rfl
  have k1 := (blk_cell TS.out 1).trans rfl
  have k2 := (blk_cell TS.out 2).trans rfl
  have k3 := (blk_cell TS.out 3).trans rfl
  have k4 := (blk_cell TS.out 4).trans rfl
  have kl := blk_lt TS.out
  go_wp2_with fail
  clear k0 k1 k2 k3 k4 kl
  refine (Least_calls exD A0s c0s A3s c3s A4s c4s 1 Y1 AS.out).mono ?_
  rw [ek_least1, ek_eleast1]
  rintro e X2 ⟨rfl, hb⟩
  have AS' := Aside0.mk (AS.out.below hb)
  have HB' := Aside0.mk (HB.out.trans (hb.mono HB.out.size))
  have TS' := Aside0.mk (blk_below TS.out hb)
  have SA' := Aside0.mk (blk_below SA.out hb)
  clear hb AS HB TS SA
  have AS := AS'
  have HB := HB'
  have TS := TS'
  have SA := SA'
  clear AS' HB' TS' SA'
  go_upto_region 4 with (fail)
  have hb : Below X2.heap.size X2 (X2.alloc (.cells #[.int .i64 3, .int .i64 5] 24)) := below_alloc (Below.refl _ _) _
  have SB0 : Aside0 ((X2.alloc (.cells #[.int .i64 3, .int .i64 5] 24)).heap[X2.heap.size]? = some (.cells #[.int .i64 3, .int .i64 5] 24 (0, 0))) := ⟨blk_new _ _⟩
  have AS' := Aside0.mk (AS.out.below hb)
  have HB' := Aside0.mk (HB.out.trans (hb.mono HB.out.size))
  have TS' := Aside0.mk (blk_below TS.out hb)
  have SA' := Aside0.mk (blk_below SA.out hb)
  clear hb AS HB TS SA
  have AS := AS'
  have HB := HB'
  have TS := TS'
  have SA := SA'
  clear AS' HB' TS' SA'
  have SB := SB0
  clear SB0
  generalize (X2.alloc (.cells #[.int .i64 3, .int .i64 5] 24)) = Y2 at AS HB TS SA SB ⊢
  obtain ⟨zb, hzb⟩ : ∃ b, X2.heap.size = b := ⟨_, rfl⟩
  rw [hzb] at SB ⊢
  clear hzb
  have k0 := (blk_cell TS.out 0).trans rfl
  have k1 := (blk_cell TS.out 1).trans rfl
  have k2 := (blk_cell TS.out 2).trans rfl
  have k3 := (blk_cell TS.out 3).trans rfl
  have k4 := (blk_cell TS.out 4).trans rfl
  have kl := blk_lt TS.out
  go_wp2_with fail
  clear k0 k1 k2 k3 k4 kl
  refine (Larger_calls exD A0s c0s A3s c3s A4s c4s 0 1 Y2 AS.out).mono ?_
  rw [ek_larger01, ek_elarger01]
  rintro e X3 ⟨rfl, hb⟩
  have AS' := Aside0.mk (AS.out.below hb)
  have HB' := Aside0.mk (HB.out.trans (hb.mono HB.out.size))
  have TS' := Aside0.mk (blk_below TS.out hb)
  have SA' := Aside0.mk (blk_below SA.out hb)
  have SB' := Aside0.mk (blk_below SB.out hb)
  clear hb AS HB TS SA SB
  have AS := AS'
  have HB := HB'
  have TS := TS'
  have SA := SA'
  have SB := SB'
  clear AS' HB' TS' SA' SB'
  go_upto_region 5 with (fail)
  have k0 := (blk_cell TS.out 0).trans rfl
  have k1 := (blk_cell TS.out 1).trans rfl
  have k2 := (blk_cell TS.out 2).trans rfl
  have k3 := (blk_cell TS.out 3).trans rfl
  have k4 := (blk_cell TS.out 4).trans rfl
  have kl := blk_lt TS.out
  go_wp2_with fail
  clear k0 k1 k2 k3 k4 kl
  refine (Larger_calls exD A0s c0s A3s c3s A4s c4s 2 1 X3 AS.out).mono ?_
  rw [ek_larger21, ek_elarger21]
  rintro e X4 ⟨rfl, hb⟩
  have AS' := Aside0.mk (AS.out.below hb)
  have HB' := Aside0.mk (HB.out.trans (hb.mono HB.out.size))
  have TS' := Aside0.mk (blk_below TS.out hb)
  have SA' := Aside0.mk (blk_below SA.out hb)
  have SB' := Aside0.mk (blk_below SB.out hb)
  clear hb AS HB TS SA SB
  have AS := AS'
  have HB := HB'
  have TS := TS'
  have SA := SA'
  have SB := SB'
  clear AS' HB' TS' SA' SB'
  go_upto_region 6 with (fail)
  have k0 := (blk_cell TS.out 0).trans rfl
  have k1 := (blk_cell TS.out 1).trans rfl
  have k2 := (blk_cell TS.out 2).trans rfl
  have k3 := (blk_cell TS.out 3).trans rfl
  have k4 := (blk_cell TS.out 4).trans rfl
  have kl := blk_lt TS.out
  go_wp2_with fail
  clear k0 k1 k2 k3 k4 kl
  refine (Part_calls exD A0s c0s A3s c3s A4s c4s 2 1 0 X4 AS.out).mono ?_
  rw [ek_part210, ek_epart210]
  rintro e X5 ⟨⟨v, rfl, hn, _⟩, hb⟩
  obtain ⟨At, ct, rfl, _⟩ := Row.lit hn (by decide)
  clear hn
  have AS' := Aside0.mk (AS.out.below hb)
  have HB' := Aside0.mk (HB.out.trans (hb.mono HB.out.size))
  have TS' := Aside0.mk (blk_below TS.out hb)
  have SA' := Aside0.mk (blk_below SA.out hb)
  have SB' := Aside0.mk (blk_below SB.out hb)
  clear hb AS HB TS SA SB
  have AS := AS'
  have HB := HB'
  have TS := TS'
  have SA := SA'
  have SB := SB'
  clear AS' HB' TS' SA' SB'
  go_upto_region 7 with (fail)
  have k0 := (blk_cell TS.out 0).trans rfl
  have k1 := (blk_cell TS.out 1).trans rfl
  have k2 := (blk_cell TS.out 2).trans rfl
  have k3 := (blk_cell TS.out 3).trans rfl
  have k4 := (blk_cell TS.out 4).trans rfl
  have kl := blk_lt TS.out
  go_wp2_with fail
  clear k0 k1 k2 k3 k4 kl
  refine (Wrong_calls exD A0s c0s A3s c3s A4s c4s X5 AS.out).mono ?_
  rw [ek_wrong]
  rintro e X6 ⟨⟨v, rfl, hn⟩, hb⟩
  obtain ⟨Ab, cb, rfl, _⟩ := hn.lit
  clear hn
  have AS' := Aside0.mk (AS.out.below hb)
  have HB' := Aside0.mk (HB.out.trans (hb.mono HB.out.size))
  have TS' := Aside0.mk (blk_below TS.out hb)
  have SA' := Aside0.mk (blk_below SA.out hb)
  have SB' := Aside0.mk (blk_below SB.out hb)
  clear hb AS HB TS SA SB
  have AS := AS'
  have HB := HB'
  have TS := TS'
  have SA := SA'
  have SB := SB'
  clear AS' HB' TS' SA' SB'
  go_upto_region 8 with (fail)
  try simp only [List.append_eq, List.cons_append, List.nil_append]
  clear AS TS
  refine wp_region_held_drew (S := fun w' : World => w'.cell? ⟨za, 0, none⟩ = some (.int .i64 4) ∧ w'.cell? ⟨za, 1, none⟩ = some (.int .i64 6) ∧ w'.cell? ⟨zb, 0, none⟩ = some (.int .i64 3) ∧ w'.cell? ⟨zb, 1, none⟩ = some (.int .i64 5)) (by as_aux_lemma => kernel_rfl) ⟨(blk_cell SA.out 0).trans rfl, (blk_cell SA.out 1).trans rfl, (blk_cell SB.out 0).trans rfl, (blk_cell SB.out 1).trans rfl⟩ (fun hHeld => ?_)
  have HBd := Aside0.mk (below_drew1 HB.out)
  clear HB SA SB 
  generalize X6.drew = wd at hHeld HBd  ⊢
  refine wpAnyH_start 54 (by as_aux_lemma => kernel_rfl) ?_
  refine wpAnyH_seg 0 23 31 hHeld (by simp only [List.drop_succ_cons, List.drop_zero, List.length_cons, List.length_nil]; decide) (by decide) (by as_aux_lemma => kernel_rfl) (M := ekM) (by as_aux_lemma => kernel_rfl) (by as_aux_lemma => kernel_rfl) ?_
  simp only [List.drop_succ_cons, List.take_succ_cons, List.drop_zero, List.take_zero]
  still_step
  still_step
  still_step
  still_step
  still_step
  still_step
  still_step
  still_step
  still_step
  still_step
  still_step
  still_step
  still_step
  still_step
  still_step
  still_step
  still_step
  still_step
  still_step
  still_step
  still_step
  still_step
  still_step
  refine wpStill_nil ?_
  refine wpAnyH_load (i := 23) (v := .agg #[.int .i64 4, .int .i64 6]) (by decide) rfl (by as_aux_lemma => kernel_rfl) (by as_aux_lemma => kernel_rfl) (by as_aux_lemma => kernel_rfl) (fun _ _ _ h => h) (Or.inl ⟨by rfl, ?_⟩) hHeld ?_
  · intro w hSw
    obtain ⟨h0, h1, h2, h3⟩ := hSw
    go_simp
    try rfl
  simp only [Act.put, List.setIfInBounds_toArray, List.set_cons_zero, List.set_cons_succ]
  refine wpAnyH_one (i := 24) (by decide) rfl (by as_aux_lemma => kernel_rfl) (M := ekM) (by as_aux_lemma => kernel_rfl) (by as_aux_lemma => kernel_rfl) (fun K hK => ?_)
  go_simp
  refine (span_calls2 _ _ _).mono ?_
  rintro e w' ⟨rfl, hbw⟩
  refine named (fun w' : World => Below wd.heap.size wd w') (hbw) ?_
  rintro v1 hbv
  obtain ⟨h0, h1, h2, h3⟩ := hHeld
  replace h0 := cell_below2 h0 hbv
  replace h1 := cell_below2 h1 hbv
  replace h2 := cell_below2 h2 hbv
  replace h3 := cell_below2 h3 hbv
  replace HBd := Aside0.mk (HBd.out.trans (hbv.mono HBd.out.size))
  refine hK.out _ _ ⟨h0, h1, h2, h3⟩ (fun hHeld => ?_)
  clear h0 h1 h2 h3 hbv
  clear hK K
  try simp only [Act.put, List.setIfInBounds_toArray, List.set_cons_zero, List.set_cons_succ]
  refine wpAnyH_seg 25 3 26 hHeld (by simp only [List.drop_succ_cons, List.drop_zero, List.length_cons, List.length_nil]; decide) (by decide) (by as_aux_lemma => kernel_rfl) (M := ekM) (by as_aux_lemma => kernel_rfl) (by as_aux_lemma => kernel_rfl) ?_
  simp only [List.drop_succ_cons, List.take_succ_cons, List.drop_zero, List.take_zero]
  still_step
  still_step
  still_step
  refine wpStill_nil ?_
  refine wpAnyH_load (i := 28) (v := .agg #[.int .i64 3, .int .i64 5]) (by decide) rfl (by as_aux_lemma => kernel_rfl) (by as_aux_lemma => kernel_rfl) (by as_aux_lemma => kernel_rfl) (fun _ _ _ h => h) (Or.inl ⟨by rfl, ?_⟩) hHeld ?_
  · intro w hSw
    obtain ⟨h0, h1, h2, h3⟩ := hSw
    go_simp
    try rfl
  simp only [Act.put, List.setIfInBounds_toArray, List.set_cons_zero, List.set_cons_succ]
  refine wpAnyH_one (i := 29) (by decide) rfl (by as_aux_lemma => kernel_rfl) (M := ekM) (by as_aux_lemma => kernel_rfl) (by as_aux_lemma => kernel_rfl) (fun K hK => ?_)
  go_simp
  refine (span_calls2 _ _ _).mono ?_
  rintro e w' ⟨rfl, hbw⟩
  refine named (fun w' : World => Below v1.heap.size v1 w') (hbw) ?_
  rintro v2 hbv
  obtain ⟨h0, h1, h2, h3⟩ := hHeld
  replace h0 := cell_below2 h0 hbv
  replace h1 := cell_below2 h1 hbv
  replace h2 := cell_below2 h2 hbv
  replace h3 := cell_below2 h3 hbv
  replace HBd := Aside0.mk (HBd.out.trans (hbv.mono HBd.out.size))
  refine hK.out _ _ ⟨h0, h1, h2, h3⟩ (fun hHeld => ?_)
  clear h0 h1 h2 h3 hbv
  clear hK K
  try simp only [Act.put, List.setIfInBounds_toArray, List.set_cons_zero, List.set_cons_succ]
  refine wpAnyH_seg 30 21 3 hHeld (by simp only [List.drop_succ_cons, List.drop_zero, List.length_cons, List.length_nil]; decide) (by decide) (by as_aux_lemma => kernel_rfl) (M := ekM) (by as_aux_lemma => kernel_rfl) (by as_aux_lemma => kernel_rfl) ?_
  simp only [List.drop_succ_cons, List.take_succ_cons, List.drop_zero, List.take_zero]
  still_step
  still_step
  still_step
  still_step
  still_step
  still_step
  still_step
  still_step
  still_step
  still_step
  still_step
  still_step
  still_step
  still_step
  still_step
  still_step
  still_step
  still_step
  still_step
  still_step
  still_step
  refine wpStill_nil ?_
  refine wpAnyH_one (i := 51) (by decide) rfl (by as_aux_lemma => kernel_rfl) (M := ekM) (by as_aux_lemma => kernel_rfl) (by as_aux_lemma => kernel_rfl) (fun K hK => ?_)
  go_simp
  refine (Awake_calls _).mono ?_
  rintro e w' ⟨rfl, hbw⟩
  refine named (fun w' : World => Below v2.heap.size v2 w') (hbw) ?_
  rintro v3 hbv
  obtain ⟨h0, h1, h2, h3⟩ := hHeld
  replace h0 := cell_below2 h0 hbv
  replace h1 := cell_below2 h1 hbv
  replace h2 := cell_below2 h2 hbv
  replace h3 := cell_below2 h3 hbv
  replace HBd := Aside0.mk (HBd.out.trans (hbv.mono HBd.out.size))
  refine hK.out _ _ ⟨h0, h1, h2, h3⟩ (fun hHeld => ?_)
  clear h0 h1 h2 h3 hbv
  clear hK K
  try simp only [Act.put, List.setIfInBounds_toArray, List.set_cons_zero, List.set_cons_succ]
  refine wpAnyH_seg 52 2 0 hHeld (by simp only [List.drop_succ_cons, List.drop_zero, List.length_cons, List.length_nil]; decide) (by decide) (by as_aux_lemma => kernel_rfl) (M := ekM) (by as_aux_lemma => kernel_rfl) (by as_aux_lemma => kernel_rfl) ?_
  simp only [List.drop_succ_cons, List.take_succ_cons, List.drop_zero, List.take_zero]
  still_step
  still_step
  refine wpStill_nil ?_
  refine wpAnyH_done (by as_aux_lemma => kernel_rfl) ?_ _
  go_wp2
  go_ret
  exact ⟨rfl, HBd.out⟩
end Go.Proofs.Ytgoidclnccjdeaa.D
end
