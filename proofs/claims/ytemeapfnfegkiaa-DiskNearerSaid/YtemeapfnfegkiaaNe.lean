/- Contracts of the functions that this claim reaches, with the words for them: pruned and packed by wip/tools/prune.py. -/
import Derived.Test.YtemeapfnfegkiaaUd
import Derived.Deep.QuietTactic
import Derived.Deep.RegionHeld3
import Derived.OpenShut
import Derived.Laws.IdiomArrays
section
/- Package disk: the truths, in the reference's order and in the program's. -/
namespace Go.Proofs.Ytemeapfnfegkiaa.D
open Go Go.RowKit Go.Proofs.YtemeapfnfegkiaaK Go.Proofs.YtemeapfnfegkiaaW.PrintWords Go.Proofs.YtemeapfnfegkiaaW.PrintLast Go.Proofs.YtemeapfnfegkiaaW.PrintMore Go.Proofs.Ytemeapfnfegkiaa.PR
set_option linter.unusedVariables false
set_option linter.unusedSimpArgs false

theorem RefG.eq {g : Nat → Int} {n : Nat} {R : List Int} (h : RefG g n R) (x y : Nat) (hx : x < n) (hy : y < n) (h0 : g x ≠ 0) : rd R (x : Int) = rd R (y : Int) ↔ g x = g y := by
  obtain ⟨a, a1, a2, a3, a4, a5⟩ := h.yes x hx h0
  by_cases e : g y = 0
  · rw [h.no y hy e, a3, e]
    constructor
    · intro; omega
    · intro h; exact absurd h h0
  · obtain ⟨b, b1, b2, b3, b4, b5⟩ := h.yes y hy e
    rw [a3, b3]
    constructor
    · intro hab
      have : a = b := by omega
      rw [← a4, this, b4]
    · intro hg
      have h1 := a5 b (by rw [b4, hg])
      have h2 := b5 a (by rw [a4, hg])
      omega
theorem G_nonneg {D : Dat} (hV : Valid D) (near : Int) (set : Nat) (x : Nat) : 0 ≤ G D near set x := ((G_spec D near set hV.n7).low x).1

structure Fits (D : Dat) : Prop where
  nm : D.nm.size ≤ 9223372036854775807
  s : D.spots.length ≤ 9223372036854775807
  t : D.told.length ≤ 9223372036854775807
theorem Arg.fits {w : World} {D : Dat} {A4 : Option Addr} {c4 : Nat} {A5 : Option Addr} {c5 : Nat} (h : Arg w D A4 c4 A5 c5) : Fits D := ⟨h.nm, h.s.2.1, h.t.2.1⟩

end Go.Proofs.Ytemeapfnfegkiaa.D
end
section
/- Package disk: how many groups and spots there are; the least and the greatest of what truths say. -/
namespace Go.Proofs.Ytemeapfnfegkiaa.D
open Go Go.RowKit Go.Proofs.YtemeapfnfegkiaaK Go.Proofs.YtemeapfnfegkiaaW.PrintWords Go.Proofs.YtemeapfnfegkiaaW.PrintLast Go.Proofs.YtemeapfnfegkiaaW.PrintMore Go.Proofs.Ytemeapfnfegkiaa.PR
set_option linter.unusedVariables false
set_option linter.unusedSimpArgs false

def spotsG (g : Nat → Int) (n : Nat) : Nat := (List.range n).countP fun k => decide (0 < g k)
theorem spots_eq (g : Nat → Int) (hg : ∀ x, 0 ≤ g x) : ∀ k, spotsTo g k = (spotsG g k : Int)
  | 0 => rfl
  | k + 1 => by
    have ih := spots_eq g hg k
    have h0 := hg k
    unfold spotsTo
    rw [ih]
    unfold spotsG
    rw [List.range_succ, List.countP_append, List.countP_singleton]
    by_cases h : 0 < g k
    · simp only [decide_eq_true h, if_true]; omega
    · simp only [decide_eq_false h, Bool.false_eq_true, if_false]; omega
theorem foldMin : ∀ (xs : List Int) (x : Int), (xs.foldl min x ∈ x :: xs) ∧ ∀ y ∈ x :: xs, xs.foldl min x ≤ y
  | [], x => ⟨by simp, fun y hy => by simp at hy; simp [hy]⟩
  | a :: xs, x => by
    obtain ⟨h1, h2⟩ := foldMin xs (min x a)
    simp only [List.foldl_cons]
    refine ⟨?_, fun y hy => ?_⟩
    · rcases List.mem_cons.1 h1 with h | h
      · rw [h]; rcases Int.le_total x a with q | q
        · rw [Int.min_eq_left q]; simp
        · rw [Int.min_eq_right q]; simp
      · simp [h]
    · have h0 := h2 (min x a) (List.mem_cons_self ..)
      rcases List.mem_cons.1 hy with h | h
      · subst h; omega
      · rcases List.mem_cons.1 h with h | h
        · subst h; omega
        · exact h2 y (List.mem_cons_of_mem _ h)
theorem foldMax : ∀ (xs : List Int) (x : Int), (xs.foldl max x ∈ x :: xs) ∧ ∀ y ∈ x :: xs, y ≤ xs.foldl max x
  | [], x => ⟨by simp, fun y hy => by simp at hy; simp [hy]⟩
  | a :: xs, x => by
    obtain ⟨h1, h2⟩ := foldMax xs (max x a)
    simp only [List.foldl_cons]
    refine ⟨?_, fun y hy => ?_⟩
    · rcases List.mem_cons.1 h1 with h | h
      · rw [h]; rcases Int.le_total x a with q | q
        · rw [Int.max_eq_right q]; simp
        · rw [Int.max_eq_left q]; simp
      · simp [h]
    · have h0 := h2 (max x a) (List.mem_cons_self ..)
      rcases List.mem_cons.1 hy with h | h
      · subst h; omega
      · rcases List.mem_cons.1 h with h | h
        · subst h; omega
        · exact h2 y (List.mem_cons_of_mem _ h)
theorem minL_spec {l : List Int} (h : l ≠ []) : minL l ∈ l ∧ ∀ y ∈ l, minL l ≤ y := by
  cases l with
  | nil => exact absurd rfl h
  | cons x xs => exact foldMin xs x
theorem maxL_spec {l : List Int} (h : l ≠ []) : maxL l ∈ l ∧ ∀ y ∈ l, y ≤ maxL l := by
  cases l with
  | nil => exact absurd rfl h
  | cons x xs => exact foldMax xs x
theorem enterE_none (D : Dat) : enterE D [] = if (checkF D).2.2 ≠ 0 then (checkF D).2.2 else if (truthsL D 0).isEmpty = true then 8 else 0 := by
  unfold enterE
  have h1 : outB 0 ((D.spots.length : Int) - 1) [] = false := rfl
  simp [h1]

end Go.Proofs.Ytemeapfnfegkiaa.D
end
section
namespace Go.Proofs.Ytemeapfnfegkiaa.PR
open Go.RowKit Go.Proofs.YtemeapfnfegkiaaW.PrintWords Go.Proofs.YtemeapfnfegkiaaW.PrintLast Go.Proofs.YtemeapfnfegkiaaW.PrintMore
attribute [local go_sem] max2_int min2_int max_two min_two max_three min_three max_four min_four   -- for this text's walks alone
set_option linter.unusedVariables false
set_option linter.unusedSimpArgs false

def helioscopelaw01_valid.f (k : Nat) (a0_0 : ByteArray) (a0_1 : Int) (a0_2 : Int) (a0_3 : Int) (l0_4 : List (S80)) (l0_5 : List (S52)) : Option (Bool) := (helioscoperef01_Check.f k a0_0 a0_1 a0_2 a0_3 l0_4 l0_5).bind fun bt361 => (some (bt361.2.2 == 0))
set_option maxHeartbeats 8000000 in
set_option maxRecDepth 100000 in
theorem helioscopelaw01_valid.calls (k : Nat) (a0_0 : ByteArray) (a0_1 : Int) (a0_2 : Int) (a0_3 : Int) (A0_4 : Option Addr) (c0_4 : Nat) (l0_4 : List (S80)) (A0_5 : Option Addr) (c0_5 : Nat) (l0_5 : List (S52)) (r : Bool) (w : World) (hr0_4 : Kd.C k80 w A0_4 l0_4.length l0_4) (hc0_4 : l0_4.length ≤ c0_4) (hr0_5 : Kd.C k52 w A0_5 l0_5.length l0_5) (hc0_5 : l0_5.length ≤ c0_5) (h : helioscopelaw01_valid.f k a0_0 a0_1 a0_2 a0_3 l0_4 l0_5 = some r) :
  Calls Try.prog 41 #[.agg #[.string a0_0, .int .i64 a0_1, .int .i64 a0_2, .int .i64 a0_3, .slice A0_4 l0_4.length c0_4, .slice A0_5 l0_5.length c0_5]] w fun e w' => e = .returned (.bool r) ∧ Below w.heap.size w w' := by
 have hu27 := Try.underlying27
 have HR0_4 := Aside0.mk hr0_4
 have HC0_4 := Aside0.mk hc0_4
 clear hr0_4 hc0_4
 have HR0_5 := Aside0.mk hr0_5
 have HC0_5 := Aside0.mk hc0_5
 clear hr0_5 hc0_5
 have HB := Aside0.mk (Below.refl w.heap.size w)
 have H : ((helioscoperef01_Check.f k a0_0 a0_1 a0_2 a0_3 l0_4 l0_5).bind fun bt361 => (some (bt361.2.2 == 0))) = some r := h
 clear h
 replace H := Option.bind_eq_some_iff.mp H
 obtain ⟨⟨t361, t362, t363⟩, A20, H⟩ := H
 replace H : (some (t363 == 0)) = some r := H
 have A2 := Aside0.mk A20
 clear A20
 obtain rfl := Option.some.inj H
 go_enter Try.func41, Try.ntmps41
 go_wp2_with (first | ((with_reducible refine gate_dst (N := 1) rfl ?_); refine box_event ?hg (N := 1) ?hd (cs := #[.string a0_0, .int .i64 a0_1, .int .i64 a0_2, .int .i64 a0_3, .slice A0_4 l0_4.length c0_4, .slice A0_5 l0_5.length c0_5]) (t := 27) ?hr ?_; (case hd => rfl); (case hg => rfl); (case hr => first | (go_simp; done) | (go_simp; rfl)); intro gb360 hg w3 hbox hb; have n0_ := Aside0.mk (below_step (by repeat (first | (with_reducible first | exact HB.out | apply below_alloc | apply pw_below_drewN | apply below_drew1) | exact HB.out)) hb); have n1_ := Aside0.mk (hbox); have n2_ := Aside0.mk ((by rw [hg]; exact (below_size (by repeat (first | (with_reducible first | exact HB.out | apply below_alloc | apply pw_below_drewN | apply below_drew1) | exact HB.out))) : w.heap.size ≤ gb360)); have n3_ := Aside0.mk ((by rw [hg]; exact (below_size (by repeat (first | (with_reducible first | exact HB.out | apply below_alloc | apply pw_below_drewN | apply below_drew1) | exact HB.out))) : w.heap.size ≤ gb360)); clear HB; have HB := n0_; have BK360 := n1_; have GW360 := n2_; have GE360 := n3_; clear n0_ n1_ n2_ n3_; clear hb hbox hg; have hcz4_0 : w3.cell? ⟨gb360, 0, none⟩ = some (.string a0_0) := (blk_cell BK360.out 0).trans rfl; have hcz4_1 : w3.cell? ⟨gb360, 1, none⟩ = some (.int .i64 a0_1) := (blk_cell BK360.out 1).trans rfl; have hcz4_2 : w3.cell? ⟨gb360, 2, none⟩ = some (.int .i64 a0_2) := (blk_cell BK360.out 2).trans rfl; have hcz4_3 : w3.cell? ⟨gb360, 3, none⟩ = some (.int .i64 a0_3) := (blk_cell BK360.out 3).trans rfl; have hcz4_4 : w3.cell? ⟨gb360, 4, none⟩ = some (.slice A0_4 l0_4.length c0_4) := (blk_cell BK360.out 4).trans rfl; have hcz4_5 : w3.cell? ⟨gb360, 5, none⟩ = some (.slice A0_5 l0_5.length c0_5) := (blk_cell BK360.out 5).trans rfl; have hfz4_0 := blk_frozen BK360.out 0; have hfz4_1 := blk_frozen BK360.out 1; have hfz4_2 := blk_frozen BK360.out 2; have hfz4_3 := blk_frozen BK360.out 3; have hfz4_4 := blk_frozen BK360.out 4; have hfz4_5 := blk_frozen BK360.out 5) | ((with_reducible refine gate_callee (f := 19) rfl ?_); refine goesL_ (some 8) rfl rfl Try.func19 (by kernel_rfl) rfl #[.agg #[.string a0_0, .int .i64 a0_1, .int .i64 a0_2, .int .i64 a0_3, .slice A0_4 l0_4.length c0_4, .slice A0_5 l0_5.length c0_5]] rfl (by (try simp only [List.map_toArray, List.map_cons, List.map_nil]); first | done | rfl | (simp only [List.length_drop, List.length_take]; rfl)) ?_; (with_reducible refine (helioscoperef01_Check.calls k a0_0 a0_1 a0_2 a0_3 _ _ l0_4 _ _ l0_5 t361 t362 t363 _ ?side1 ?side2 ?side3 ?side4 A2.out).mono ?_); (case side1 => repeat (first | exact (Kd.C_below HR0_4.out HB.out) | (with_reducible refine Kd.C_alloc ?_ _) | (with_reducible refine Kd.C_drewN ?_ _) | (with_reducible refine Kd.C_drew ?_))); (case side2 => exact HC0_4.out); (case side3 => repeat (first | exact (Kd.C_below HR0_5.out HB.out) | (with_reducible refine Kd.C_alloc ?_ _) | (with_reducible refine Kd.C_drewN ?_ _) | (with_reducible refine Kd.C_drew ?_))); (case side4 => exact HC0_5.out); rintro e w5 ⟨rfl, hb⟩; refine ⟨_, rfl, ?_⟩; have n0_ := Aside0.mk (blk_below (g := gb360) (o := .cells #[.string a0_0, .int .i64 a0_1, .int .i64 a0_2, .int .i64 a0_3, .slice A0_4 l0_4.length c0_4, .slice A0_5 l0_5.length c0_5] 27 (0, 0)) (by (with_reducible repeat (first | refine blk_drewN ?_ _ | refine blk_drew ?_ | refine blk_alloc ?_ _)); exact BK360.out) hb); have n1_ := Aside0.mk (below_step (by repeat (first | (with_reducible first | exact HB.out | apply below_alloc | apply pw_below_drewN | apply below_drew1 | refine below_set ?_ GE360.out) | exact HB.out)) hb); clear BK360; clear HB; have BK360 := n0_; have HB := n1_; clear n0_ n1_; (try clear hb); (try clear hb2); (try clear hk); (try clear hi)))
 go_ret
 exact ⟨by first | rfl | (simp [errW_none, errW_some] <;> rfl) | (simp [*, errW_none, errW_some] <;> rfl), by repeat (first | (with_reducible first | exact HB.out | apply below_alloc | apply pw_below_drewN | apply below_drew1 | refine below_set ?_ GE360.out) | exact HB.out)⟩



end Go.Proofs.Ytemeapfnfegkiaa.PR
end
section
/- Package disk: whether there is a truth; the numbers of all truths, compared. -/
namespace Go.Proofs.Ytemeapfnfegkiaa.D
open Go Go.RowKit Go.Proofs.YtemeapfnfegkiaaK Go.Proofs.YtemeapfnfegkiaaW.PrintWords Go.Proofs.YtemeapfnfegkiaaW.PrintLast Go.Proofs.YtemeapfnfegkiaaW.PrintMore Go.Proofs.Ytemeapfnfegkiaa.PR
set_option linter.unusedVariables false
set_option linter.unusedSimpArgs false

theorem rValid {D : Dat} (hF : Fits D) : Ev (fun f => helioscopelaw01_valid.f f D.nm D.rad D.lo D.hi D.spots D.told) (decide ((checkF D).2.2 = 0)) := by
  unfold helioscopelaw01_valid.f
  refine Ev.bind (rCheck D hF.nm hF.s hF.t) (Ev.congr (f := fun _ => some (decide ((checkF D).2.2 = 0))) (fun f => ?_) (Ev.now _))
  generalize (checkF D).2.2 = c
  by_cases h : c = 0
  · subst h; rfl
  · have h1 : (c == 0) = false := by simpa using h
    rw [h1, decide_eq_false h]
end Go.Proofs.Ytemeapfnfegkiaa.D
end
section
/- Package disk: as long as nothing was told: with more nears there are more truths, and the same spots. -/
namespace Go.Proofs.Ytemeapfnfegkiaa.D
open Go Go.RowKit Go.Proofs.YtemeapfnfegkiaaK Go.Proofs.YtemeapfnfegkiaaW.PrintWords Go.Proofs.YtemeapfnfegkiaaW.PrintLast Go.Proofs.YtemeapfnfegkiaaW.PrintMore Go.Proofs.Ytemeapfnfegkiaa.PR
set_option linter.unusedVariables false
set_option linter.unusedSimpArgs false

abbrev d0 (D : Dat) : Dat := ⟨D.nm, D.rad, D.lo, D.hi, D.spots, []⟩
abbrev dw (D : Dat) (lo hi : Int) : Dat := ⟨D.nm, D.rad, lo, hi, D.spots, []⟩
theorem check_dw {D : Dat} {lo hi : Int} (h : (checkF (d0 D)).2.2 = 0) (h0 : 0 ≤ lo) (h1 : lo ≤ hi) (h2 : hi ≤ 12) : (checkF (dw D lo hi)).2.2 = 0 := by
  obtain ⟨hV, hn, hc⟩ := check_valid h
  have e : ∀ a b, outB 0 12 [a, b] = true → ¬ ((0 ≤ a ∧ a ≤ 12) ∧ (0 ≤ b ∧ b ≤ 12)) := fun a b => (outB_two 0 12 a b).1
  have o1 : outB 0 12 [lo, hi] = false := Bool.eq_false_iff.2 fun x => e _ _ x ⟨⟨h0, by omega⟩, ⟨by omega, h2⟩⟩
  have o2 : outB 0 12 [D.lo, D.hi] = false := Bool.eq_false_iff.2 fun x => e _ _ x ⟨⟨hV.lo, by have := hV.le; have := hV.hi; simp at *; omega⟩, ⟨by have := hV.le; have := hV.lo; simp at *; omega, hV.hi⟩⟩
  have hle : ¬ D.hi < D.lo := by have := hV.le; simp at this; omega
  unfold checkF at hc ⊢
  simp only [hn, Bool.true_eq_false, if_false, o1, o2, Bool.or_false, hle, if_false] at hc ⊢
  rw [if_neg (by omega : ¬ hi < lo)]
  rw [hc]
theorem mem_truths {D : Dat} {but : Nat} {x : Int × Nat} (hle : D.lo ≤ D.hi) : x ∈ truthsL D but ↔ (D.lo ≤ x.1 ∧ x.1 ≤ D.hi) ∧ x.2 < 2 ^ D.spots.length ∧ isTruth D but x.1 x.2 = true := by
  unfold truthsL nearsTo setsTo
  simp only [List.mem_flatMap, List.mem_range, List.mem_map, List.mem_filter]
  constructor
  · rintro ⟨i, hi, s, ⟨hs, ht⟩, rfl⟩
    exact ⟨⟨by show D.lo ≤ D.lo + (i : Int); omega, by show D.lo + (i : Int) ≤ D.hi; omega⟩, hs, ht⟩
  · rintro ⟨⟨h1, h2⟩, hs, ht⟩
    refine ⟨(x.1 - D.lo).toNat, by omega, x.2, ⟨hs, ?_⟩, ?_⟩
    · rw [show D.lo + ((x.1 - D.lo).toNat : Int) = x.1 by omega]; exact ht
    · rw [show D.lo + ((x.1 - D.lo).toNat : Int) = x.1 by omega]
theorem isTruth_nil {D : Dat} {near : Int} {set : Nat} (h : D.told = []) : isTruth D 0 near set = okSet D set := by
  unfold isTruth soB soTo
  rw [h]; simp
theorem may_dw (D : Dat) (lo hi : Int) : ∀ k, mayTo (dw D lo hi) k = mayTo (d0 D) k
  | 0 => rfl
  | k + 1 => by unfold mayTo; rw [may_dw D lo hi k]; rfl
theorem sure_dw (D : Dat) (lo hi : Int) : ∀ k, sureTo (dw D lo hi) k = sureTo (d0 D) k
  | 0 => rfl
  | k + 1 => by unfold sureTo; rw [sure_dw D lo hi k]; rfl
theorem truth_dw (D : Dat) (lo hi : Int) (n : Int) (s : Nat) : isTruth (dw D lo hi) 0 n s = isTruth (d0 D) 0 n s := by
  rw [isTruth_nil rfl, isTruth_nil rfl]
  unfold okSet
  rw [may_dw, sure_dw]
theorem okSet_some (D : Dat) : okSet D (sureTo D D.spots.length) = true := by
  rw [okSet_upto D _ (sureTo_lt D _)]
  unfold okUpto
  rw [List.all_eq_true]
  intro i hi
  rw [sureTo_bit, decide_eq_true (List.mem_range.1 hi), Bool.true_and]
  cases onB D i <;> cases sureK D i <;> rfl
theorem enter_nil {D : Dat} (h : D.told = []) (hc : (checkF D).2.2 = 0) : enterE D [] = 0 := by
  have hV := (check_valid hc).1
  rw [enterE_none, if_neg (fun x => x hc)]
  have hm : (D.lo, sureTo D D.spots.length) ∈ truthsL D 0 := (mem_truths hV.le).2 ⟨⟨Int.le_refl _, hV.le⟩, sureTo_lt D _, by rw [isTruth_nil h]; exact okSet_some D⟩
  rw [if_neg (fun x => by rw [List.isEmpty_iff.1 x] at hm; simp at hm)]
theorem spots_set {D : Dat} (hV : Valid D) (n1 n2 : Int) (set : Nat) : spotsTo (G D n1 set) 7 = spotsTo (G D n2 set) 7 := by
  rw [spots_eq _ (G_nonneg hV n1 set), spots_eq _ (G_nonneg hV n2 set)]
  have key : ∀ n, spotsG (G D n set) 7 = (List.range 7).countP fun k => decide (k < D.spots.length) && set.testBit k := fun n => by
    have S := G_spec D n set hV.n7
    refine List.countP_congr fun k _ => ?_
    simp only [decide_eq_true_eq, Bool.and_eq_true]
    have h0 := G_nonneg hV n set k
    constructor
    · intro h; exact S.in_ k (by omega)
    · rintro ⟨h1, h2⟩; have := S.done k h1 h2; omega
  rw [key, key]

theorem mem_valsL {D : Dat} {F : Int → (Nat → Int) → Int} {L : List (Int × Nat)} {y : Int} (h : y ∈ valsL D F L) : ∃ x ∈ L, y = F x.1 (G D x.1 x.2) := by
  obtain ⟨x, hx, rfl⟩ := List.mem_map.1 h
  exact ⟨x, hx, rfl⟩
theorem valsL_mem {D : Dat} (F : Int → (Nat → Int) → Int) {L : List (Int × Nat)} {x : Int × Nat} (h : x ∈ L) : F x.1 (G D x.1 x.2) ∈ valsL D F L := List.mem_map.2 ⟨x, h, rfl⟩
theorem nearer {D : Dat} {lo hi : Int} (h : (checkF (d0 D)).2.2 = 0) (hlo : 0 ≤ lo) (hhi : hi ≤ 12) (h1 : lo ≤ D.lo) (h2 : D.hi ≤ hi) :
    enterE (d0 D) [] = 0 ∧ enterE (dw D lo hi) [] = 0 ∧ (spanF (dw D lo hi) fun _ g => manyF g).1 ≤ (spanF (d0 D) fun _ g => manyF g).1 ∧ (spanF (d0 D) fun _ g => manyF g).2 ≤ (spanF (dw D lo hi) fun _ g => manyF g).2 ∧
      (spanF (d0 D) fun _ g => spotsTo g 7) = (spanF (dw D lo hi) fun _ g => spotsTo g 7) := by
  have hV := (check_valid h).1
  have hle : D.lo ≤ D.hi := hV.le
  have hcw := check_dw (lo := lo) (hi := hi) h hlo (by omega) hhi
  have hVw := (check_valid hcw).1
  have e0 : enterE (d0 D) [] = 0 := enter_nil rfl h
  have ew : enterE (dw D lo hi) [] = 0 := enter_nil rfl hcw
  have sub : ∀ x, x ∈ truthsL (d0 D) 0 → x ∈ truthsL (dw D lo hi) 0 := fun x hx => by
    obtain ⟨⟨p1, p2⟩, p3, p4⟩ := (mem_truths (D := d0 D) hle).1 hx
    have p1' : D.lo ≤ x.1 := p1
    have p2' : x.1 ≤ D.hi := p2
    exact (mem_truths (D := dw D lo hi) (by show lo ≤ hi; omega)).2 ⟨⟨by show lo ≤ x.1; omega, by show x.1 ≤ hi; omega⟩, p3, by rw [truth_dw]; exact p4⟩
  have back : ∀ x, x ∈ truthsL (dw D lo hi) 0 → (D.lo, x.2) ∈ truthsL (d0 D) 0 := fun x hx => by
    obtain ⟨_, p3, p4⟩ := (mem_truths (D := dw D lo hi) (by show lo ≤ hi; omega)).1 hx
    refine (mem_truths (D := d0 D) hle).2 ⟨⟨Int.le_refl _, hle⟩, p3, ?_⟩
    rw [truth_dw, isTruth_nil rfl] at p4
    rw [isTruth_nil rfl]
    exact p4
  have ne0 : truthsL (d0 D) 0 ≠ [] := fun x => by have := (enterE_ok e0).2.2.2.1; rw [x] at this; simp at this
  have new : truthsL (dw D lo hi) 0 ≠ [] := fun x => by have := (enterE_ok ew).2.2.2.1; rw [x] at this; simp at this
  have nv0 : ∀ F, valsL (d0 D) F (truthsL (d0 D) 0) ≠ [] := fun F x => ne0 (List.map_eq_nil_iff.1 x)
  have nvw : ∀ F, valsL (dw D lo hi) F (truthsL (dw D lo hi) 0) ≠ [] := fun F x => new (List.map_eq_nil_iff.1 x)
  refine ⟨e0, ew, ?_, ?_, ?_⟩
  · unfold spanF; rw [if_pos e0, if_pos ew]
    obtain ⟨m0, l0⟩ := minL_spec (nv0 fun _ g => manyF g)
    obtain ⟨mw, lw⟩ := minL_spec (nvw fun _ g => manyF g)
    obtain ⟨x, hx, he⟩ := mem_valsL m0
    have := lw _ (valsL_mem (fun _ g => manyF g) (sub x hx))
    show minL _ ≤ minL _
    rw [he]; exact this
  · unfold spanF; rw [if_pos e0, if_pos ew]
    obtain ⟨m0, l0⟩ := maxL_spec (nv0 fun _ g => manyF g)
    obtain ⟨mw, lw⟩ := maxL_spec (nvw fun _ g => manyF g)
    obtain ⟨x, hx, he⟩ := mem_valsL m0
    have := lw _ (valsL_mem (fun _ g => manyF g) (sub x hx))
    show maxL _ ≤ maxL _
    rw [he]; exact this
  · unfold spanF; rw [if_pos e0, if_pos ew]
    obtain ⟨m0, l0⟩ := minL_spec (nv0 fun _ g => spotsTo g 7)
    obtain ⟨mw, lw⟩ := minL_spec (nvw fun _ g => spotsTo g 7)
    obtain ⟨M0, L0⟩ := maxL_spec (nv0 fun _ g => spotsTo g 7)
    obtain ⟨Mw, Lw⟩ := maxL_spec (nvw fun _ g => spotsTo g 7)
    have eq : ∀ x : Int × Nat, spotsTo (G (dw D lo hi) x.1 x.2) 7 = spotsTo (G (d0 D) D.lo x.2) 7 := fun x => spots_set hV x.1 D.lo x.2
    obtain ⟨x1, hx1, he1⟩ := mem_valsL m0
    obtain ⟨x2, hx2, he2⟩ := mem_valsL mw
    obtain ⟨x3, hx3, he3⟩ := mem_valsL M0
    obtain ⟨x4, hx4, he4⟩ := mem_valsL Mw
    have a1 := lw _ (valsL_mem (fun _ g => spotsTo g 7) (sub x1 hx1))
    have a2 := l0 _ (valsL_mem (fun _ g => spotsTo g 7) (back x2 hx2))
    have a3 := Lw _ (valsL_mem (fun _ g => spotsTo g 7) (sub x3 hx3))
    have a4 := L0 _ (valsL_mem (fun _ g => spotsTo g 7) (back x4 hx4))
    have b1 : spotsTo (G (dw D lo hi) x1.1 x1.2) 7 = spotsTo (G (d0 D) x1.1 x1.2) 7 := rfl
    have b3 : spotsTo (G (dw D lo hi) x3.1 x3.2) 7 = spotsTo (G (d0 D) x3.1 x3.2) 7 := rfl
    have c2 := eq x2
    have c4 := eq x4
    simp only at a1 a2 a3 a4
    refine Prod.ext ?_ ?_
    · show minL _ = minL _
      omega
    · show maxL _ = maxL _
      omega
end Go.Proofs.Ytemeapfnfegkiaa.D
end
section
/- Package disk: DiskNearer. -/
namespace Go.Proofs.Ytemeapfnfegkiaa.D
open Go Go.RowKit Go.Proofs.YtemeapfnfegkiaaK Go.Proofs.YtemeapfnfegkiaaW.PrintWords Go.Proofs.YtemeapfnfegkiaaW.PrintLast Go.Proofs.YtemeapfnfegkiaaW.PrintMore Go.Proofs.Ytemeapfnfegkiaa.PR
set_option linter.unusedVariables false
set_option linter.unusedSimpArgs false

theorem arg_d0 {w : World} {D : Dat} {A4 : Option Addr} {c4 : Nat} {A5 : Option Addr} {c5 : Nat} (h : Arg w D A4 c4 A5 c5) (lo hi : Int) : Arg w (dw D lo hi) A4 c4 none 0 :=
  ⟨h.nm, h.s, h.sc, ⟨rfl, Nat.zero_le _, fun h => absurd h (Nat.lt_irrefl 0)⟩, Nat.le_refl _⟩
abbrev shN (D : Dat) (lo hi : Int) (A4 : Option Addr) (c4 : Nat) : Array Value := #[.string D.nm, .int .i64 D.rad, .int .i64 lo, .int .i64 hi, .slice A4 D.spots.length c4, .slice none 0 0]

set_option maxRecDepth 100000 in
set_option maxHeartbeats 8000000 in
theorem DiskNearer_calls (D : Dat) (A4 : Option Addr) (c4 : Nat) (A5 : Option Addr) (c5 : Nat) (x y : Int) (w : World) (h : Arg w D A4 c4 A5 c5) (hx : 0 ≤ x ∧ x ≤ 255) (hy : 0 ≤ y ∧ y ≤ 255) :
    Calls Try.prog 16 #[.agg #[.string D.nm, .int .i64 D.rad, .int .i64 D.lo, .int .i64 D.hi, .slice A4 D.spots.length c4, .slice A5 D.told.length c5], .agg #[.int .u8 x, .int .u8 y]] w
      fun e w' => e = .returned (.bool true) ∧ Below w.heap.size w w' := by
  have hb1 := below_alloc (below_alloc (Below.refl w.heap.size w) (.cells (shN D D.lo D.hi A4 c4) 27)) (.cells #[.int .u8 x, .int .u8 y] 75)
  have HB := Aside0.mk hb1
  have HS := Aside0.mk (blk_alloc (blk_new w (.cells (shN D D.lo D.hi A4 c4) 27)) (.cells #[.int .u8 x, .int .u8 y] 75))
  have HX := Aside0.mk (new_at (W := w.alloc (.cells (shN D D.lo D.hi A4 c4) 27)) (n := w.heap.size + 1) (by simp) (.cells #[.int .u8 x, .int .u8 y] 75))
  have HA0 := Aside0.mk (arg_d0 h D.lo D.hi)
  have HA := Aside0.mk h
  have hF := (arg_d0 h D.lo D.hi).fits
  clear h hb1
  obtain ⟨q, hq⟩ : ∃ q, w.heap.size = q := ⟨_, rfl⟩
  have HXB := Aside0.mk (And.intro hx hy)
  clear hx hy
  obtain ⟨cc, hcc⟩ : ∃ cc, (checkF (d0 D)).2.2 = cc := ⟨_, rfl⟩
  obtain ⟨K, hK⟩ := (rValid hF).rounds
  rw [show (checkF (dw D D.lo D.hi)).2.2 = cc from hcc] at hK
  have HK := Aside0.mk hK
  have HCC := Aside0.mk hcc
  clear hK hcc
  go_enter Try.func16, Try.ntmps16
  go_upto_region 2 with (fail)
  generalize (w.alloc (.cells (shN D D.lo D.hi A4 c4) 27)).alloc (.cells #[.int .u8 x, .int .u8 y] 75) = w1 at HB HS HX ⊢
  rw [hq] at HS HX
  have k0 := (blk_cell HS.out 0).trans rfl
  have k1 := (blk_cell HS.out 1).trans rfl
  have k2 := (blk_cell HS.out 2).trans rfl
  have k3 := (blk_cell HS.out 3).trans rfl
  have k4 := (blk_cell HS.out 4).trans rfl
  have k5 := (blk_cell HS.out 5).trans rfl
  have kl := blk_lt HS.out
  go_wp2_with fail
  clear k0 k1 k2 k3 k4 k5 kl
  have hA := HA0.out.below HB.out
  refine (helioscopelaw01_valid.calls K D.nm D.rad D.lo D.hi A4 c4 D.spots none 0 [] _ w1 hA.s hA.sc hA.t hA.tc HK.out).mono ?_
  clear hA
  rintro e w2 ⟨rfl, hb⟩
  replace HB := Aside0.mk (HB.out.trans (hb.mono HB.out.size))
  replace HS := Aside0.mk (blk_below HS.out hb)
  replace HX := Aside0.mk (blk_below HX.out hb)
  clear hb HK
  have k0 := (blk_cell HS.out 0).trans rfl
  have k1 := (blk_cell HS.out 1).trans rfl
  have k2 := (blk_cell HS.out 2).trans rfl
  have k3 := (blk_cell HS.out 3).trans rfl
  have k4 := (blk_cell HS.out 4).trans rfl
  have k5 := (blk_cell HS.out 5).trans rfl
  have kl := blk_lt HS.out
  by_cases hc : cc = 0
  · rw [decide_eq_true hc]
    subst hc
    have hV := (check_valid HCC.out).1
    have v1 : 0 ≤ D.lo := hV.lo
    have v2 : D.lo ≤ D.hi := hV.le
    have v3 : D.hi ≤ 12 := hV.hi
    have hwx : wrap64 x = x := (by have := HXB.out; unfold wrap64; omega)
    have hwy : wrap64 y = y := (by have := HXB.out; unfold wrap64; omega)
    have htx : 0 ≤ x.tmod 4 ∧ x.tmod 4 < 4 := ⟨Int.tmod_nonneg _ HXB.out.1.1, Int.tmod_lt_of_pos _ (by decide)⟩
    have hty : 0 ≤ y.tmod 4 ∧ y.tmod 4 < 4 := ⟨Int.tmod_nonneg _ HXB.out.2.1, Int.tmod_lt_of_pos _ (by decide)⟩
    have hux : wrap64 (D.lo - x.tmod 4) = D.lo - x.tmod 4 := (by unfold wrap64; omega)
    have huy : wrap64 (D.hi + y.tmod 4) = D.hi + y.tmod 4 := (by unfold wrap64; omega)
    have HV := Aside0.mk hV
    have HW := Aside0.mk (And.intro v1 (And.intro v2 (And.intro v3 (And.intro htx hty))))
    clear hV v1 v2 v3 htx hty
    go_upto_region 6 with (fail)
    have x0 := (blk_cell HX.out 0).trans rfl
    have x1 := (blk_cell HX.out 1).trans rfl
    have xl := blk_lt HX.out
    go_wp2_with fail
    all_goals
      refine (span_calls _ _ _).mono ?_
      rintro e w3 ⟨he, hb⟩
      obtain ⟨lo, hi, he2, hr⟩ : ∃ lo hi, e = .returned (.agg #[.int .i64 lo, .int .i64 hi]) ∧ 0 ≤ lo ∧ lo ≤ D.lo ∧ D.hi ≤ hi ∧ hi ≤ 12 := by
        refine ⟨_, _, he, ?_⟩
        have := HW.out
        omega
      subst he2
      clear he hwx hwy hux huy x0 x1 xl k0 k1 k2 k3 k4 k5 kl
      have n1 : Aside0 (w3.heap[w2.heap.size]? = some (.cells (shN D D.lo D.hi A4 c4) 27 (0, 0))) := ⟨hb.heap (blk_new _ _) id⟩
      have hb2 : Below w2.heap.size w2 w3 := (((Chg.refl (fun _ => False) w2).alloc _).trans hb).below (fun _ _ x => x.elim) (Nat.le_refl _)
      have HWZ := Aside0.mk HB.out.size
      have HQZ : Aside0 (q ≠ w2.heap.size) := ⟨Nat.ne_of_lt (blk_lt HS.out)⟩
      replace HB := Aside0.mk (HB.out.trans (hb2.mono HB.out.size))
      replace HS := Aside0.mk (blk_below HS.out hb2)
      clear hb hb2 HX
      obtain ⟨Z, hZ⟩ : ∃ Z, w2.heap.size = Z := ⟨_, rfl⟩
      rw [hZ] at n1 HWZ HQZ ⊢
      clear hZ
      have z2 := (blk_cell n1.out 2).trans rfl
      have z3 := (blk_cell n1.out 3).trans rfl
      have f2 := blk_frozen n1.out 2
      have f3 := blk_frozen n1.out 3
      have zl := blk_lt n1.out
      go_upto_region 7 with (fail)
      have n2 : Aside0 (((w3.setCell ⟨Z, 2, none⟩ (.int .i64 lo)).setCell ⟨Z, 3, none⟩ (.int .i64 hi)).heap[Z]? = some (.cells (shN D lo hi A4 c4) 27 (0, 0))) := ⟨blk_set (blk_set n1.out 2 _) 3 _⟩
      have n3 : Aside0 (Below w.heap.size w ((w3.setCell ⟨Z, 2, none⟩ (.int .i64 lo)).setCell ⟨Z, 3, none⟩ (.int .i64 hi))) := ⟨below_set (below_set HB.out HWZ.out) HWZ.out⟩
      have n4 : Aside0 (((w3.setCell ⟨Z, 2, none⟩ (.int .i64 lo)).setCell ⟨Z, 3, none⟩ (.int .i64 hi)).heap[q]? = some (.cells (shN D D.lo D.hi A4 c4) 27 (0, 0))) := ⟨blk_far (blk_far HS.out HQZ.out _) HQZ.out _⟩
      clear z2 z3 f2 f3 zl n1 HB HS HWZ HQZ
      generalize (w3.setCell ⟨Z, 2, none⟩ (.int .i64 lo)).setCell ⟨Z, 3, none⟩ (.int .i64 hi) = w4 at n2 n3 n4 ⊢
      have HB := n3
      have HS := n4
      have HZ := n2
      clear n2 n3 n4
      have HN := nearer HCC.out hr.1 hr.2.2.2 hr.2.1 hr.2.2.1
      obtain ⟨s1, hs1⟩ : ∃ s, spanF (d0 D) (fun _ g => manyF g) = s := ⟨_, rfl⟩
      obtain ⟨s2, hs2⟩ : ∃ s, spanF (d0 D) (fun _ g => spotsTo g 7) = s := ⟨_, rfl⟩
      obtain ⟨s3, hs3⟩ : ∃ s, spanF (dw D lo hi) (fun _ g => manyF g) = s := ⟨_, rfl⟩
      obtain ⟨s4, hs4⟩ : ∃ s, spanF (dw D lo hi) (fun _ g => spotsTo g 7) = s := ⟨_, rfl⟩
      rw [hs1, hs2, hs3, hs4] at HN
      obtain ⟨e0, ew, g1, g2, g3⟩ := HN
      have H1 := Aside0.mk hs1
      have H2 := Aside0.mk hs2
      have H3 := Aside0.mk hs3
      have H4 := Aside0.mk (hs4.trans g3.symm)
      have E0 := Aside0.mk e0
      have EW := Aside0.mk ew
      clear hs1 hs2 hs3 hs4 e0 ew g3 hr
      obtain ⟨a1, b1⟩ := s1
      obtain ⟨a2, b2⟩ := s2
      obtain ⟨a3, b3⟩ := s3
      replace g1 : a3 ≤ a1 := g1
      replace g2 : b1 ≤ b3 := g2
      have G12 := Aside0.mk (And.intro g1 g2)
      clear g1 g2
      have k0 := (blk_cell HS.out 0).trans rfl
      have k1 := (blk_cell HS.out 1).trans rfl
      have k2 := (blk_cell HS.out 2).trans rfl
      have k3 := (blk_cell HS.out 3).trans rfl
      have k4 := (blk_cell HS.out 4).trans rfl
      have k5 := (blk_cell HS.out 5).trans rfl
      have kl := blk_lt HS.out
      go_wp2_with fail
      clear k0 k1 k2 k3 k4 k5 kl
      refine (Counts_calls (d0 D) A4 c4 none 0 w4 (HA0.out.below HB.out)).mono ?_
      rw [E0.out, H1.out, H2.out]
      rintro e w5 ⟨rfl, hb⟩
      replace HB := Aside0.mk (HB.out.trans (hb.mono HB.out.size))
      replace HZ := Aside0.mk (blk_below HZ.out hb)
      clear hb HS
      go_upto_region 8 with (fail)
      have hb : Below w5.heap.size w5 ((w5.alloc (.cells #[.int .i64 a1, .int .i64 b1] 23)).alloc (.cells #[.int .i64 a2, .int .i64 b2] 23)) := below_alloc (below_alloc (Below.refl _ _) _) _
      have n1 : Aside0 (((w5.alloc (.cells #[.int .i64 a1, .int .i64 b1] 23)).alloc (.cells #[.int .i64 a2, .int .i64 b2] 23)).heap[w5.heap.size]? = some (.cells #[.int .i64 a1, .int .i64 b1] 23 (0, 0))) := ⟨blk_alloc (blk_new _ _) _⟩
      have n2 : Aside0 (((w5.alloc (.cells #[.int .i64 a1, .int .i64 b1] 23)).alloc (.cells #[.int .i64 a2, .int .i64 b2] 23)).heap[w5.heap.size + 1]? = some (.cells #[.int .i64 a2, .int .i64 b2] 23 (0, 0))) := ⟨new_at (by simp) _⟩
      replace HB := Aside0.mk (HB.out.trans (hb.mono HB.out.size))
      replace HZ := Aside0.mk (blk_below HZ.out hb)
      clear hb
      obtain ⟨P, hP⟩ : ∃ b, w5.heap.size = b := ⟨_, rfl⟩
      generalize ((w5.alloc (.cells #[.int .i64 a1, .int .i64 b1] 23)).alloc (.cells #[.int .i64 a2, .int .i64 b2] 23)) = w6 at HB HZ n1 n2 ⊢
      rw [hP] at n1 n2 ⊢
      clear hP
      have HP := n1
      have HR := n2
      clear n1 n2
      have k0 := (blk_cell HZ.out 0).trans rfl
      have k1 := (blk_cell HZ.out 1).trans rfl
      have k2 := (blk_cell HZ.out 2).trans rfl
      have k3 := (blk_cell HZ.out 3).trans rfl
      have k4 := (blk_cell HZ.out 4).trans rfl
      have k5 := (blk_cell HZ.out 5).trans rfl
      have kl := blk_lt HZ.out
      go_wp2_with fail
      clear k0 k1 k2 k3 k4 k5 kl
      refine (Counts_calls (dw D lo hi) A4 c4 none 0 w6 ((arg_d0 HA.out lo hi).below HB.out)).mono ?_
      rw [EW.out, H3.out, H4.out]
      rintro e w7 ⟨rfl, hb⟩
      replace HB := Aside0.mk (HB.out.trans (hb.mono HB.out.size))
      replace HP := Aside0.mk (blk_below HP.out hb)
      replace HR := Aside0.mk (blk_below HR.out hb)
      clear hb HZ
      go_upto_region 9 with (fail)
      have hb : Below w7.heap.size w7 ((w7.alloc (.cells #[.int .i64 a3, .int .i64 b3] 23)).alloc (.cells #[.int .i64 a2, .int .i64 b2] 23)) := below_alloc (below_alloc (Below.refl _ _) _) _
      have n1 : Aside0 (((w7.alloc (.cells #[.int .i64 a3, .int .i64 b3] 23)).alloc (.cells #[.int .i64 a2, .int .i64 b2] 23)).heap[w7.heap.size]? = some (.cells #[.int .i64 a3, .int .i64 b3] 23 (0, 0))) := ⟨blk_alloc (blk_new _ _) _⟩
      have n2 : Aside0 (((w7.alloc (.cells #[.int .i64 a3, .int .i64 b3] 23)).alloc (.cells #[.int .i64 a2, .int .i64 b2] 23)).heap[w7.heap.size + 1]? = some (.cells #[.int .i64 a2, .int .i64 b2] 23 (0, 0))) := ⟨new_at (by simp) _⟩
      replace HB := Aside0.mk (HB.out.trans (hb.mono HB.out.size))
      replace HP := Aside0.mk (blk_below HP.out hb)
      replace HR := Aside0.mk (blk_below HR.out hb)
      clear hb
      obtain ⟨T, hT⟩ : ∃ b, w7.heap.size = b := ⟨_, rfl⟩
      generalize ((w7.alloc (.cells #[.int .i64 a3, .int .i64 b3] 23)).alloc (.cells #[.int .i64 a2, .int .i64 b2] 23)) = w8 at HB HP HR n1 n2 ⊢
      rw [hT] at n1 n2 ⊢
      clear hT
      have HT := n1
      have HU := n2
      clear n1 n2
      have p0 := (blk_cell HP.out 0).trans rfl
      have p1 := (blk_cell HP.out 1).trans rfl
      have r0 := (blk_cell HR.out 0).trans rfl
      have r1 := (blk_cell HR.out 1).trans rfl
      have t0 := (blk_cell HT.out 0).trans rfl
      have t1 := (blk_cell HT.out 1).trans rfl
      have u0 := (blk_cell HU.out 0).trans rfl
      have u1 := (blk_cell HU.out 1).trans rfl
      have g1 := G12.out.1
      have g2 := G12.out.2
      go_wp2_with fail
      refine (Awake_calls w8).mono ?_
      rintro e w9 ⟨rfl, hb⟩
      replace HB := Aside0.mk (HB.out.trans (hb.mono HB.out.size))
      clear hb
      go_wp2
      go_ret
      exact ⟨rfl, HB.out⟩
  · rw [decide_eq_false hc]
    have he : enterE (d0 D) [] = cc := by rw [enterE_none, HCC.out, if_pos hc]
    have HE := Aside0.mk he
    have hc' : (cc == 0) = false := by simp [hc]
    have hc2 : (cc != 0) = true := by simp [hc]
    clear he
    obtain ⟨s1, hs1⟩ : ∃ s, spanF (d0 D) (fun _ g => manyF g) = s := ⟨_, rfl⟩
    obtain ⟨s2, hs2⟩ : ∃ s, spanF (d0 D) (fun _ g => spotsTo g 7) = s := ⟨_, rfl⟩
    have H1 := Aside0.mk hs1
    have H2 := Aside0.mk hs2
    clear hs1 hs2
    go_wp2_with fail
    clear k0 k1 k2 k3 k4 k5 kl
    refine (Counts_calls (d0 D) A4 c4 none 0 w2 (HA0.out.below HB.out)).mono ?_
    rw [HE.out, H1.out, H2.out]
    rintro e w3 ⟨rfl, hb⟩
    replace HB := Aside0.mk (HB.out.trans (hb.mono HB.out.size))
    clear hb HS HX
    go_upto_region 4 with (fail)
    have hb : Below w3.heap.size w3 ((w3.alloc (.cells #[.int .i64 s1.1, .int .i64 s1.2] 23)).alloc (.cells #[.int .i64 s2.1, .int .i64 s2.2] 23)) := below_alloc (below_alloc (Below.refl _ _) _) _
    replace HB := Aside0.mk (HB.out.trans (hb.mono HB.out.size))
    clear hb
    generalize ((w3.alloc (.cells #[.int .i64 s1.1, .int .i64 s1.2] 23)).alloc (.cells #[.int .i64 s2.1, .int .i64 s2.2] 23)) = w4 at HB ⊢
    go_wp2_with fail
    refine (Awake_calls w4).mono ?_
    rintro e w5 ⟨rfl, hb⟩
    replace HB := Aside0.mk (HB.out.trans (hb.mono HB.out.size))
    clear hb
    go_wp2
    go_ret
    exact ⟨rfl, HB.out⟩
end Go.Proofs.Ytemeapfnfegkiaa.D
end
section
/- Small arrays of ints that came in as arguments, opened. -/
namespace Go.Proofs.Ytemeapfnfegkiaa.D
open Go Go.RowKit Go.ChangeShapes Go.WideShapes Go.Deep
set_option linter.unusedVariables false
set_option linter.unusedSectionVars false
section
variable {H : Type} {enc : TypeId × Value → H} {w : World} {base : Nat} {spare : Nat → Bool} {held : Bool} {P : Program}
theorem okWide_array {n : Nat} {e t : TypeId} {r : Reach} {b0 : Nat} {v : Value} (ht : P.underlying t = some (.array n e)) (h : Value.okWide P w r b0 t v) : ∃ cs, v = .agg cs ∧ cs.size = P.cellsOf t := by
  simp only [Value.okWide, ht] at h
  obtain ⟨cs, h1, h2, _⟩ := h
  exact ⟨cs, h1, h2⟩
theorem open_arr2b' {e t : TypeId} {r : Reach} {b0 : Nat} {v : Value} {d : DataW H} {p : List MemPlace} (ht : P.underlying t = some (.array 2 e)) (hc : P.cellsOf t = 2) (he : P.underlying e = some (.int .u8)) (hc1 : P.cellsOf e = 1)
    (hv : Value.okWide P w r b0 t v) (h : DataW.Trod enc P w base spare held t v d p) : ∃ x0 x1 : Int, v = .agg #[.int .u8 x0, .int .u8 x1] ∧ (Lit.int .u8 x0).wf = true ∧ (Lit.int .u8 x1).wf = true := by
  obtain ⟨cs, rfl, hsz⟩ := okWide_array ht hv
  obtain ⟨fuel, hf⟩ := h
  obtain ⟨xs, m, _, _, _, hl, hi⟩ := DataW.trod_array ht hf
  obtain ⟨L⟩ := cs
  rw [hc] at hsz
  match L, hsz with
  | [c0, c1], _ =>
    have g0 := hi 0 (by decide)
    rw [hc1, List.getElem?_eq_getElem (by omega)] at g0
    obtain ⟨x0, e0, _, w0⟩ := DataW.trod_int he g0
    simp [Value.cells] at e0
    have g1 := hi 1 (by decide)
    rw [hc1, List.getElem?_eq_getElem (by omega)] at g1
    obtain ⟨x1, e1, _, w1⟩ := DataW.trod_int he g1
    simp [Value.cells] at e1
    subst e0 e1
    exact ⟨x0, x1, rfl, w0, w1⟩
end
section
variable {H : Type} {enc : TypeId × Value → H} {w : World} {base : Nat} {spare : Nat → Bool} {held : Bool}
set_option maxRecDepth 100000 in
theorem open_arr2b {t : TypeId} {r : Reach} {b0 : Nat} {v : Value} {d : DataW H} {p : List MemPlace} (ht : Try.prog.underlying t = some (.array 2 5)) (hc : Try.prog.cellsOf t = 2)
    (hv : Value.okWide Try.prog w r b0 t v) (h : DataW.Trod enc Try.prog w base spare held t v d p) : ∃ x0 x1 : Int, v = .agg #[.int .u8 x0, .int .u8 x1] ∧ (Lit.int .u8 x0).wf = true ∧ (Lit.int .u8 x1).wf = true :=
  open_arr2b' ht hc Try.underlying5 (by kernel_rfl) hv h
end
end Go.Proofs.Ytemeapfnfegkiaa.D
end
