/- Contracts of the functions that this claim reaches, with the words for them: pruned and packed by wip/tools/prune.py. -/
import Derived.Test.YtemeapfnfegkiaaUd
import Derived.Below
import Derived.Deep.Draws
import Derived.Deep.AppendLies
import Derived.Maps.AppendAt
import Derived.OwnWalk
import Derived.Laws.BytesArg
import Derived.Laws.MakeOwn
import Derived.Laws.OwnMore
import Derived.Deep.OwnRows
import Derived.Tactics
import Derived.Lib.ConvBytes
import Derived.Laws.Slices
import Derived.WalkKit
import Derived.KernelRfl
import Derived.RowKit3
import Derived.Deep.LoopGhost
import Derived.Deep.QuietTactic
import Derived.BigQuiet
import Derived.WideLaws
import Derived.Deep.DeepCutAuto
import Derived.Deep.CutBlock
import Derived.Deep.RegionHeld3
import Derived.Laws.Rows
import Derived.Lib.AppendStr
import Derived.ArgAppend
import Derived.Laws.IdiomCopy
import Derived.RowKit
section
set_option linter.unusedVariables false
set_option linter.unusedSimpArgs false
namespace Go.Proofs.YtemeapfnfegkiaaW.PrintWords
open Go.RowKit

def nums (k : IntKind) (xs : List Int) : List Value := xs.map fun x => .int k x
section
variable {P : Program} {ops : Array Oper} {rest : List Oper} {o : Oper} {a : Act} {Q : Exit → Act → World → Prop}

end

section
variable {P : Program}
end
theorem own_at {W : World} {base g n cap : Nat} {e : TypeId} {k : IntKind} {xs : List Int} (h : W.ownsRow base e 1 (.slice (some ⟨g, 0, none⟩) n cap) n (nums k xs)) (i : Int) (h0 : 0 ≤ i) (h1 : i < n) :
    W.cell? ⟨g, i.toNat, none⟩ = some (.int k (rd xs i)) ∧ W.frozen? ⟨g, i.toNat, none⟩ = false := by
  have hl : xs.length = n := by have := h.1; simp [nums] at this; exact this
  constructor
  · have hc := h.cells (g := g) rfl i.toNat (.int k (rd xs i)) (by simp [nums, rd, List.getElem?_eq_getElem (show i.toNat < xs.length by omega), List.getD_eq_getElem?_getD])
    rwa [add_plain] at hc
  · rcases h.2 with ⟨h', _⟩ | ⟨g', cap', cur, h', _, hh, _⟩
    · cases h'
    · have : g = g' := by injection h' with h'; injection h' with h'; injection h' with h'
      subst this
      simp [World.frozen?, hh]
section
variable {P : Program} {ops : Array Oper} {rest : List Oper} {o : Oper} {a : Act} {Q : Exit → Act → World → Prop}
end

section
variable {P : Program} {ops : Array Oper} {rest : List Oper} {o : Oper} {a : Act} {Q : Exit → Act → World → Prop}
end

section
variable {P : Program} {ops : Array Oper} {o : Oper} {a : Act} {Q : Exit → Act → World → Prop} {K : Act → World → Prop}
end
section
variable {α : Type} {enc : α → Value} {d : α}
end
section
variable {α : Type} {P : Program} {ops : Array Oper} {rest : List Oper} {o : Oper} {a : Act} {Q : Exit → Act → World → Prop}
end

section
variable {P : Program}
end
section
variable {α : Type} {R R' : α → List Value → Prop} {e : TypeId} {size : Nat} {w w1 : World} {base : Nat} {v : Value} {ps : List α}
end
section
variable {P : Program} {ops : Array Oper} {rest : List Oper} {o : Oper} {a : Act} {Q : Exit → Act → World → Prop} {α : Type} {R : α → List Value → Prop}
end
section
variable {P : Program} {ops : Array Oper} {o : Oper} {a : Act} {Q : Exit → Act → World → Prop} {K : Act → World → Prop} {α : Type} {R : α → List Value → Prop}
end
section
variable {α : Type} {P : Program}
end

section
variable {P : Program} {ops : Array Oper} {rest : List Oper} {o : Oper} {a : Act} {Q : Exit → Act → World → Prop}
end
namespace Kd
section
variable {α : Type} {d : Kd α} {e : Nat} {w w1 : World} {base : Nat} {ok ok' : Nat → Prop} {v : Value} {xs : List α}
end

section
variable {P : Program} {ops : Array Oper} {rest : List Oper} {o : Oper} {a : Act} {Q : Exit → Act → World → Prop} {α : Type}
end
section
variable {P : Program} {ops : Array Oper} {o : Oper} {a : Act} {Q : Exit → Act → World → Prop} {Kc : Act → World → Prop} {α : Type}
end
end Kd
namespace Kd
section
variable {α : Type} {F : Kd α → Kd α} {sz : Nat} {E : List Nat} {hs : ∀ n, (upto F sz E n).sz = sz} {hE : ∀ n q, q ∈ (upto F sz E n).E → q ∈ E}
end
end Kd
namespace Kd
end Kd
namespace Kd
section
variable {α β : Type} {d : Kd α} {d' : Kd β} {e e' : Nat} {w w1 W : World} {base b b' : Nat} {ok ok' okv oku : Nat → Prop} {v u : Value} {xs : List α} {ys : List β}
end
section
variable {w W : World} {A : Option Addr} {n : Nat}
variable {α : Type} {enc : α → Value} {h1 : ∀ x, (enc x).oneCell' = true} {e base g cap : Nat} {ok : Nat → Prop} {xs : List α}
end

section
variable {P : Program} {ops : Array Oper} {rest : List Oper} {o : Oper} {a : Act} {Q : Exit → Act → World → Prop}
variable {α : Type}
end
end Kd
section
variable {P : Program}
end
section
variable {w w1 : World} {base n size : Nat} {e : TypeId} {v : Value} {xs : List Value}
end
section
variable {P : Program}
end
namespace Kd
section
variable {α : Type} {d : Kd α} {e : Nat} {w w1 W : World} {base : Nat} {ok ok' : Nat → Prop} {v : Value} {xs : List α}
end
section
variable {P : Program} {ops : Array Oper} {rest : List Oper} {o : Oper} {a : Act} {Q' : Exit → Act → World → Prop} {Kc : Act → World → Prop} {α : Type}
end
end Kd
namespace Kd
section
variable {α : Type} {d : Kd α} {e e' : Nat} {w w1 W : World} {base : Nat} {ok : Nat → Prop} {u v : Value} {xs : List α}
end
end Kd
namespace Kd
section
variable {α : Type} {d : Kd α} {e base g n cap : Nat} {ok okp : Nat → Prop} {W : World} {xs : List α}
end
end Kd
namespace Kd
section
variable {α : Type} {F : Kd α → Kd α} {sz : Nat} {E : List Nat} {hs : ∀ n, (upto F sz E n).sz = sz} {hE : ∀ n q, q ∈ (upto F sz E n).E → q ∈ E}
end
end Kd
namespace Kd
section
variable {P : Program} {ops : Array Oper} {rest : List Oper} {o : Oper} {a : Act} {Q : Exit → Act → World → Prop} {α : Type}
end
end Kd
namespace Kd
section
variable {P : Program} {ops : Array Oper} {rest : List Oper} {o : Oper} {a : Act} {Q : Exit → Act → World → Prop} {α : Type}
end
end Kd
namespace Kd
section
variable {α : Type} {k : Kd α} {w : World} {A : Option Addr} {xs : List α} {m c : Nat}
end
end Kd
section
variable {P : Program}
end
namespace Kd
section
variable {α β : Type} {d : Kd α} {d' : Kd β} {e e' base base' n : Nat} {ok ok' : Nat → Prop} {w W w1 W1 : World} {v u : Value} {xs : List α} {ys : List β} {A : Option Addr} {c : Nat}
end
section
variable {α : Type} {enc : α → Value} {h1 : ∀ x, (enc x).oneCell' = true} {w W : World} {A : Option Addr} {n g : Nat} {xs : List α}
end
end Kd
namespace Kd
section
variable {α : Type} {d : Kd α} {e base g : Nat} {ok : Nat → Prop} {w w1 : World} {v : Value} {xs : List α} {o : Obj}
end
end Kd
section
variable {P : Program} {ops : Array Oper} {rest : List Oper} {o : Oper} {a : Act} {Q : Exit → Act → World → Prop}
end
namespace Kd
section
variable {α : Type} {enc : α → Value} {h1 : ∀ x, (enc x).oneCell' = true} {e base g n cap : Nat} {ok : Nat → Prop} {W : World} {xs : List α}
end
end Kd
section
variable {P : Program} {ops : Array Oper} {rest : List Oper} {o : Oper} {a : Act} {Q : Exit → Act → World → Prop}
end
namespace Kd
section
variable {α : Type} {enc : α → Value} {h1 : ∀ x, (enc x).oneCell' = true} {e base g n cap : Nat} {ok : Nat → Prop} {W : World} {xs : List α}
end
end Kd
section
variable {P : Program} {ops : Array Oper} {rest : List Oper} {o : Oper} {a : Act} {Q : Exit → Act → World → Prop} {W : World}
end
section
variable {P : Program} {ops : Array Oper} {o : Oper} {a : Act} {Q : Exit → Act → World → Prop} {Kc : Act → World → Prop}
namespace Kd
variable {α : Type}
end Kd
end
section
variable {P : Program} {tmps : Array Value} {w : World}
end
namespace Kd
section
variable {P : Program} {α : Type}
end
section
variable {P : Program} {ops : Array Oper} {rest : List Oper} {o : Oper} {a : Act} {Q : Exit → Act → World → Prop} {Kc : Act → World → Prop} {α : Type}
end
end Kd

end Go.Proofs.YtemeapfnfegkiaaW.PrintWords
end
section
/- Package disk: the truths, in the reference's order and in the program's. -/
namespace Go.Proofs.Ytemeapfnfegkiaa.D
open Go Go.RowKit Go.Proofs.YtemeapfnfegkiaaK Go.Proofs.YtemeapfnfegkiaaW.PrintWords Go.Proofs.YtemeapfnfegkiaaW.PrintLast Go.Proofs.YtemeapfnfegkiaaW.PrintMore Go.Proofs.Ytemeapfnfegkiaa.PR
set_option linter.unusedVariables false
set_option linter.unusedSimpArgs false

structure Fits (D : Dat) : Prop where
  nm : D.nm.size ≤ 9223372036854775807
  s : D.spots.length ≤ 9223372036854775807
  t : D.told.length ≤ 9223372036854775807
theorem Arg.fits {w : World} {D : Dat} {A4 : Option Addr} {c4 : Nat} {A5 : Option Addr} {c5 : Nat} (h : Arg w D A4 c4 A5 c5) : Fits D := ⟨h.nm, h.s.2.1, h.t.2.1⟩

end Go.Proofs.Ytemeapfnfegkiaa.D
end
section
namespace Go.Proofs.Ytemeapfnfegkiaa.PR
open Go.RowKit Go.Proofs.YtemeapfnfegkiaaW.PrintWords Go.Proofs.YtemeapfnfegkiaaW.PrintLast Go.Proofs.YtemeapfnfegkiaaW.PrintMore
attribute [local go_sem] max2_int min2_int max_two min_two max_three min_three max_four min_four   -- for this text's walks alone
set_option linter.unusedVariables false
set_option linter.unusedSimpArgs false

def helioscopelaw01_valid.f (k : Nat) (a0_0 : ByteArray) (a0_1 : Int) (a0_2 : Int) (a0_3 : Int) (l0_4 : List (S80)) (l0_5 : List (S52)) : Option (Bool) := (helioscoperef01_Check.f k a0_0 a0_1 a0_2 a0_3 l0_4 l0_5).bind fun bt361 => (some (bt361.2.2 == 0))
set_option maxHeartbeats 8000000 in
set_option maxRecDepth 100000 in
theorem helioscopelaw01_valid.calls (k : Nat) (a0_0 : ByteArray) (a0_1 : Int) (a0_2 : Int) (a0_3 : Int) (A0_4 : Option Addr) (c0_4 : Nat) (l0_4 : List (S80)) (A0_5 : Option Addr) (c0_5 : Nat) (l0_5 : List (S52)) (r : Bool) (w : World) (hr0_4 : Kd.C k80 w A0_4 l0_4.length l0_4) (hc0_4 : l0_4.length ≤ c0_4) (hr0_5 : Kd.C k52 w A0_5 l0_5.length l0_5) (hc0_5 : l0_5.length ≤ c0_5) (h : helioscopelaw01_valid.f k a0_0 a0_1 a0_2 a0_3 l0_4 l0_5 = some r) :
  Calls Try.prog 41 #[.agg #[.string a0_0, .int .i64 a0_1, .int .i64 a0_2, .int .i64 a0_3, .slice A0_4 l0_4.length c0_4, .slice A0_5 l0_5.length c0_5]] w fun e w' => e = .returned (.bool r) ∧ Below w.heap.size w w' := by
 have hu27 := Try.underlying27
 have HR0_4 := Aside0.mk hr0_4
 have HC0_4 := Aside0.mk hc0_4
 clear hr0_4 hc0_4
 have HR0_5 := Aside0.mk hr0_5
 have HC0_5 := Aside0.mk hc0_5
 clear hr0_5 hc0_5
 have HB := Aside0.mk (Below.refl w.heap.size w)
 have H : ((helioscoperef01_Check.f k a0_0 a0_1 a0_2 a0_3 l0_4 l0_5).bind fun bt361 => (some (bt361.2.2 == 0))) = some r := h
 clear h
 replace H := Option.bind_eq_some_iff.mp H
 obtain ⟨⟨t361, t362, t363⟩, A20, H⟩ := H
 replace H : (some (t363 == 0)) = some r := H
 have A2 := Aside0.mk A20
 clear A20
 obtain rfl := Option.some.inj H
 go_enter Try.func41, Try.ntmps41
 go_wp2_with (first | ((with_reducible refine gate_dst (N := 1) rfl ?_); refine box_event ?hg (N := 1) ?hd (cs := #[.string a0_0, .int .i64 a0_1, .int .i64 a0_2, .int .i64 a0_3, .slice A0_4 l0_4.length c0_4, .slice A0_5 l0_5.length c0_5]) (t := 27) ?hr ?_; (case hd => rfl); (case hg => rfl); (case hr => first | (go_simp; done) | (go_simp; rfl)); intro gb360 hg w3 hbox hb; have n0_ := Aside0.mk (below_step (by repeat (first | (with_reducible first | exact HB.out | apply below_alloc | apply pw_below_drewN | apply below_drew1) | exact HB.out)) hb); have n1_ := Aside0.mk (hbox); have n2_ := Aside0.mk ((by rw [hg]; exact (below_size (by repeat (first | (with_reducible first | exact HB.out | apply below_alloc | apply pw_below_drewN | apply below_drew1) | exact HB.out))) : w.heap.size ≤ gb360)); have n3_ := Aside0.mk ((by rw [hg]; exact (below_size (by repeat (first | (with_reducible first | exact HB.out | apply below_alloc | apply pw_below_drewN | apply below_drew1) | exact HB.out))) : w.heap.size ≤ gb360)); clear HB; have HB := n0_; have BK360 := n1_; have GW360 := n2_; have GE360 := n3_; clear n0_ n1_ n2_ n3_; clear hb hbox hg; have hcz4_0 : w3.cell? ⟨gb360, 0, none⟩ = some (.string a0_0) := (blk_cell BK360.out 0).trans rfl; have hcz4_1 : w3.cell? ⟨gb360, 1, none⟩ = some (.int .i64 a0_1) := (blk_cell BK360.out 1).trans rfl; have hcz4_2 : w3.cell? ⟨gb360, 2, none⟩ = some (.int .i64 a0_2) := (blk_cell BK360.out 2).trans rfl; have hcz4_3 : w3.cell? ⟨gb360, 3, none⟩ = some (.int .i64 a0_3) := (blk_cell BK360.out 3).trans rfl; have hcz4_4 : w3.cell? ⟨gb360, 4, none⟩ = some (.slice A0_4 l0_4.length c0_4) := (blk_cell BK360.out 4).trans rfl; have hcz4_5 : w3.cell? ⟨gb360, 5, none⟩ = some (.slice A0_5 l0_5.length c0_5) := (blk_cell BK360.out 5).trans rfl; have hfz4_0 := blk_frozen BK360.out 0; have hfz4_1 := blk_frozen BK360.out 1; have hfz4_2 := blk_frozen BK360.out 2; have hfz4_3 := blk_frozen BK360.out 3; have hfz4_4 := blk_frozen BK360.out 4; have hfz4_5 := blk_frozen BK360.out 5) | ((with_reducible refine gate_callee (f := 19) rfl ?_); refine goesL_ (some 8) rfl rfl Try.func19 (by kernel_rfl) rfl #[.agg #[.string a0_0, .int .i64 a0_1, .int .i64 a0_2, .int .i64 a0_3, .slice A0_4 l0_4.length c0_4, .slice A0_5 l0_5.length c0_5]] rfl (by (try simp only [List.map_toArray, List.map_cons, List.map_nil]); first | done | rfl | (simp only [List.length_drop, List.length_take]; rfl)) ?_; (with_reducible refine (helioscoperef01_Check.calls k a0_0 a0_1 a0_2 a0_3 _ _ l0_4 _ _ l0_5 t361 t362 t363 _ ?side1 ?side2 ?side3 ?side4 A2.out).mono ?_); (case side1 => repeat (first | exact (Kd.C_below HR0_4.out HB.out) | (with_reducible refine Kd.C_alloc ?_ _) | (with_reducible refine Kd.C_drewN ?_ _) | (with_reducible refine Kd.C_drew ?_))); (case side2 => exact HC0_4.out); (case side3 => repeat (first | exact (Kd.C_below HR0_5.out HB.out) | (with_reducible refine Kd.C_alloc ?_ _) | (with_reducible refine Kd.C_drewN ?_ _) | (with_reducible refine Kd.C_drew ?_))); (case side4 => exact HC0_5.out); rintro e w5 ⟨rfl, hb⟩; refine ⟨_, rfl, ?_⟩; have n0_ := Aside0.mk (blk_below (g := gb360) (o := .cells #[.string a0_0, .int .i64 a0_1, .int .i64 a0_2, .int .i64 a0_3, .slice A0_4 l0_4.length c0_4, .slice A0_5 l0_5.length c0_5] 27 (0, 0)) (by (with_reducible repeat (first | refine blk_drewN ?_ _ | refine blk_drew ?_ | refine blk_alloc ?_ _)); exact BK360.out) hb); have n1_ := Aside0.mk (below_step (by repeat (first | (with_reducible first | exact HB.out | apply below_alloc | apply pw_below_drewN | apply below_drew1 | refine below_set ?_ GE360.out) | exact HB.out)) hb); clear BK360; clear HB; have BK360 := n0_; have HB := n1_; clear n0_ n1_; (try clear hb); (try clear hb2); (try clear hk); (try clear hi)))
 go_ret
 exact ⟨by first | rfl | (simp [errW_none, errW_some] <;> rfl) | (simp [*, errW_none, errW_some] <;> rfl), by repeat (first | (with_reducible first | exact HB.out | apply below_alloc | apply pw_below_drewN | apply below_drew1 | refine below_set ?_ GE360.out) | exact HB.out)⟩



end Go.Proofs.Ytemeapfnfegkiaa.PR
end
section
/- Package disk: whether there is a truth; the numbers of all truths, compared. -/
namespace Go.Proofs.Ytemeapfnfegkiaa.D
open Go Go.RowKit Go.Proofs.YtemeapfnfegkiaaK Go.Proofs.YtemeapfnfegkiaaW.PrintWords Go.Proofs.YtemeapfnfegkiaaW.PrintLast Go.Proofs.YtemeapfnfegkiaaW.PrintMore Go.Proofs.Ytemeapfnfegkiaa.PR
set_option linter.unusedVariables false
set_option linter.unusedSimpArgs false

theorem rValid {D : Dat} (hF : Fits D) : Ev (fun f => helioscopelaw01_valid.f f D.nm D.rad D.lo D.hi D.spots D.told) (decide ((checkF D).2.2 = 0)) := by
  unfold helioscopelaw01_valid.f
  refine Ev.bind (rCheck D hF.nm hF.s hF.t) (Ev.congr (f := fun _ => some (decide ((checkF D).2.2 = 0))) (fun f => ?_) (Ev.now _))
  generalize (checkF D).2.2 = c
  by_cases h : c = 0
  · subst h; rfl
  · have h1 : (c == 0) = false := by simpa using h
    rw [h1, decide_eq_false h]
end Go.Proofs.Ytemeapfnfegkiaa.D
end
section
/- Package disk: as long as nothing was told: with more nears there are more truths, and the same spots. -/
namespace Go.Proofs.Ytemeapfnfegkiaa.D
open Go Go.RowKit Go.Proofs.YtemeapfnfegkiaaK Go.Proofs.YtemeapfnfegkiaaW.PrintWords Go.Proofs.YtemeapfnfegkiaaW.PrintLast Go.Proofs.YtemeapfnfegkiaaW.PrintMore Go.Proofs.Ytemeapfnfegkiaa.PR
set_option linter.unusedVariables false
set_option linter.unusedSimpArgs false

abbrev d0 (D : Dat) : Dat := ⟨D.nm, D.rad, D.lo, D.hi, D.spots, []⟩
end Go.Proofs.Ytemeapfnfegkiaa.D
end
section
/- Package disk: all dots moved. -/
namespace Go.Proofs.Ytemeapfnfegkiaa.D
open Go Go.RowKit Go.Proofs.YtemeapfnfegkiaaK Go.Proofs.YtemeapfnfegkiaaW.PrintWords Go.Proofs.YtemeapfnfegkiaaW.PrintLast Go.Proofs.YtemeapfnfegkiaaW.PrintMore Go.Proofs.Ytemeapfnfegkiaa.PR
set_option linter.unusedVariables false
set_option linter.unusedSimpArgs false

structure Mv (f : Spot → Spot) : Prop where
  zero : f z80 = z80
  sure : ∀ x, (f x).f2 = x.f2
  sq : ∀ x, (f x).f0 * (f x).f0 + (f x).f1 * (f x).f1 = x.f0 * x.f0 + x.f1 * x.f1
  out : ∀ n : Int, ∀ x y, outB (-n) n [(f x).f0 - (f y).f0, (f x).f1 - (f y).f1] = outB (-n) n [x.f0 - y.f0, x.f1 - y.f1]
  edge : ∀ n : Int, ∀ x, outB (-n) n [(f x).f0, (f x).f1] = outB (-n) n [x.f0, x.f1]
  same : ∀ x y, sameAs (f x) (f y) = sameAs x y
theorem out2 (n a b : Int) : outB (-n) n [a, b] = false ↔ (-n ≤ a ∧ a ≤ n) ∧ (-n ≤ b ∧ b ≤ n) := by
  rw [outB_cons, outB_cons, outB_nil]; simp
theorem bool_eq {a b : Bool} (h : a = false ↔ b = false) : a = b := by cases a <;> cases b <;> simp_all
theorem Mv.id : Mv fun x => x := ⟨rfl, fun _ => rfl, fun _ => rfl, fun _ _ _ => rfl, fun _ _ => rfl, fun _ _ => rfl⟩
theorem Mv.comp {f g : Spot → Spot} (hf : Mv f) (hg : Mv g) : Mv fun x => f (g x) :=
  ⟨by rw [hg.zero, hf.zero], fun x => (hf.sure _).trans (hg.sure x), fun x => (hf.sq _).trans (hg.sq x), fun n x y => (hf.out n _ _).trans (hg.out n x y), fun n x => (hf.edge n _).trans (hg.edge n x), fun x y => (hf.same _ _).trans (hg.same x y)⟩
def turnS (x : Spot) : Spot := ⟨0 - x.f1, x.f0, x.f2⟩
def mirS (x : Spot) : Spot := ⟨0 - x.f0, x.f1, x.f2⟩
theorem sq_neg (a : Int) : (0 - a) * (0 - a) = a * a := by rw [Int.zero_sub, Int.neg_mul_neg]
theorem Mv.turn : Mv turnS where
  zero := rfl
  sure _ := rfl
  sq x := by simp only [turnS, sq_neg]; omega
  out n x y := bool_eq (by rw [out2, out2]; simp only [turnS]; omega)
  edge n x := bool_eq (by rw [out2, out2]; simp only [turnS]; omega)
  same x y := by
    unfold sameAs turnS
    rw [Bool.eq_iff_iff]
    simp only [Bool.and_eq_true, beq_iff_eq, decide_eq_true_eq]
    omega
theorem Mv.mir : Mv mirS where
  zero := rfl
  sure _ := rfl
  sq x := by simp only [mirS, sq_neg]
  out n x y := bool_eq (by rw [out2, out2]; simp only [mirS]; omega)
  edge n x := bool_eq (by rw [out2, out2]; simp only [mirS]; omega)
  same x y := by
    unfold sameAs mirS
    rw [Bool.eq_iff_iff]
    simp only [Bool.and_eq_true, beq_iff_eq, decide_eq_true_eq]
    omega
def turnsS : Nat → Spot → Spot
  | 0, x => x
  | k + 1, x => turnS (turnsS k x)
theorem Mv.turns : ∀ k, Mv (turnsS k)
  | 0 => Mv.id
  | k + 1 => Mv.comp (f := turnS) (g := turnsS k) Mv.turn (Mv.turns k)
def movS (k : Nat) (m : Bool) (x : Spot) : Spot := if m = true then mirS (turnsS k x) else turnsS k x
theorem Mv.mov (k : Nat) (m : Bool) : Mv (movS k m) := by
  cases m
  · exact Mv.turns k
  · exact Mv.comp (f := mirS) (g := turnsS k) Mv.mir (Mv.turns k)
abbrev dm (D : Dat) (f : Spot → Spot) : Dat := ⟨D.nm, D.rad, D.lo, D.hi, D.spots.map f, D.told⟩
theorem rd_mv {f : Spot → Spot} (h : Mv f) (l : List Spot) (i : Int) : rd_T80 (l.map f) i = f (rd_T80 l i) := by
  unfold rd_T80
  rw [List.getD_eq_getElem?_getD, List.getD_eq_getElem?_getD, List.getElem?_map]
  cases l[i.toNat]? with
  | none => exact h.zero.symm
  | some x => rfl
theorem nearS_map {f : Spot → Spot} (h : Mv f) (l : List Spot) (n : Int) (a b : Nat) : nearS (l.map f) n a b = nearS l n a b := by
  unfold nearS; rw [rd_mv h, rd_mv h, h.out]
theorem G_map {f : Spot → Spot} (h : Mv f) (D : Dat) (n : Int) (s : Nat) : G (dm D f) n s = G D n s := by
  have e : adjS (dm D f).spots n s = adjS D.spots n s := by funext a b; unfold adjS; rw [nearS_map h]
  unfold G
  rw [e, List.length_map]
theorem onB_map {f : Spot → Spot} (h : Mv f) (D : Dat) (k : Nat) : onB (dm D f) k = onB D k := by
  unfold onB; rw [rd_mv h, h.sq]
theorem may_map {f : Spot → Spot} (h : Mv f) (D : Dat) : ∀ k, mayTo (dm D f) k = mayTo D k
  | 0 => rfl
  | k + 1 => by unfold mayTo; rw [onB_map h, may_map h D k]
theorem sure_map {f : Spot → Spot} (h : Mv f) (D : Dat) : ∀ k, sureTo (dm D f) k = sureTo D k
  | 0 => rfl
  | k + 1 => by unfold sureTo; rw [onB_map h, sure_map h D k, rd_mv h, h.sure]
theorem truth_map {f : Spot → Spot} (h : Mv f) (D : Dat) (but : Nat) (n : Int) (s : Nat) : isTruth (dm D f) but n s = isTruth D but n s := by
  unfold isTruth okSet
  rw [List.length_map, sure_map h, may_map h, G_map h]
  rfl
theorem truths_map {f : Spot → Spot} (h : Mv f) (D : Dat) (but : Nat) : truthsL (dm D f) but = truthsL D but := by
  unfold truthsL nearsTo setsTo
  rw [List.length_map]
  congr 1
  funext i
  congr 1
  refine List.filter_congr fun s _ => truth_map h D but _ s
theorem errS_map {f : Spot → Spot} (h : Mv f) (l : List Spot) (i : Nat) (x : Spot) : errS (l.map f) i (f x) = errS l i x := by
  unfold errS
  rw [show outB (-12) 12 [(f x).f0, (f x).f1] = outB (-12) 12 [x.f0, x.f1] from h.edge 12 x, ← List.map_take, List.any_map]
  have : (fun y => sameAs (f x) y) ∘ f = fun y => sameAs x y := by funext y; exact h.same x y
  rw [show (sameAs (f x) ∘ f) = sameAs x from this]
theorem firstE_map {f : Spot → Spot} {E E' : Nat → Spot → Int} (h : ∀ i x, E' i (f x) = E i x) : ∀ (l : List Spot) (k : Nat), firstE E' (l.map f) k = firstE E l k
  | [], _ => rfl
  | x :: l, k => by
    rw [List.map_cons]; unfold firstE; rw [h, firstE_map h l (k + 1)]
theorem check_map {f : Spot → Spot} (h : Mv f) (D : Dat) : checkF (dm D f) = checkF D := by
  have e : firstL (dm D f).spots 7 (errS (dm D f).spots) = firstL D.spots 7 (errS D.spots) := by
    unfold firstL; rw [List.length_map, firstE_map fun i x => errS_map h D.spots i x]
  unfold checkF
  rw [e, List.length_map]
theorem enter_map {f : Spot → Spot} (h : Mv f) (D : Dat) (l : List Int) : enterE (dm D f) l = enterE D l := by
  unfold enterE; rw [check_map h, truths_map h, List.length_map]
theorem span_map {f : Spot → Spot} (h : Mv f) (D : Dat) (F : Int → (Nat → Int) → Int) : spanF (dm D f) F = spanF D F := by
  unfold spanF; rw [enter_map h, truths_map h]
  have : ∀ L, valsL (dm D f) F L = valsL D F L := fun L => by unfold valsL; congr 1; funext x; rw [G_map h]
  rw [this]
theorem cnt_map {f : Spot → Spot} (h : Mv f) (D : Dat) (Q : (Nat → Int) → Bool) (L : List (Int × Nat)) : cnt (dm D f) Q L = cnt D Q L := by
  unfold cnt; congr 1; funext x; rw [G_map h]
theorem ask_map {f : Spot → Spot} (h : Mv f) (D : Dat) : askF (dm D f) = askF D := by
  have e1 : ∀ i k s, askStep (dm D f) i k s = askStep D i k s := fun i k s => by unfold askStep; rw [cnt_map h, truths_map h]
  have e2 : ∀ i s m, askRow (dm D f) i s m = askRow D i s m := fun i s m => by
    unfold askRow; congr 1; funext s j; exact e1 _ _ _
  have e3 : ∀ i, askTo (dm D f) i = askTo D i := fun i => by
    unfold askTo; congr 1; funext s i; rw [e2, List.length_map]
  unfold askF
  rw [enter_map h, List.length_map, e3]
theorem wrong_map {f : Spot → Spot} (h : Mv f) (D : Dat) : wrongF (dm D f) = wrongF D := by
  have e1 : ∀ k, wrongTo (dm D f) k = wrongTo D k := fun k => by
    unfold wrongTo; congr 1; funext s set; unfold wrongStep; rw [truths_map h]
  unfold wrongF
  rw [check_map h, e1]
def mixS (f : Spot → Spot) (l : List Spot) (k : Nat) : List Spot := (l.take k).map f ++ l.drop k
theorem mixS_len (f : Spot → Spot) (l : List Spot) (k : Nat) : (mixS f l k).length = l.length := by
  unfold mixS; simp; omega
theorem mixS_at (f : Spot → Spot) (l : List Spot) (k : Nat) (hk : k < l.length) : rd_T80 (mixS f l k) (k : Int) = l[k] := by
  rw [spot_at _ _ (by rw [mixS_len]; exact hk)]
  unfold mixS
  rw [List.getElem_append_right (by simp; omega)]
  simp [Nat.min_eq_left (Nat.le_of_lt hk)]
theorem mixS_succ (f : Spot → Spot) (l : List Spot) (k : Nat) (hk : k < l.length) : (mixS f l k).set k (f l[k]) = mixS f l (k + 1) := by
  unfold mixS
  have e : (List.map f (l.take k)).length = k := by simp; omega
  rw [List.set_append_right _ _ (by omega), e, Nat.sub_self, List.drop_eq_getElem_cons hk, List.set_cons_zero, List.take_succ_eq_append_getElem hk, List.map_append, List.append_assoc]
  rfl
theorem mixS_zero (f : Spot → Spot) (l : List Spot) : mixS f l 0 = l := by simp [mixS]
theorem mixS_all (f : Spot → Spot) (l : List Spot) : mixS f l l.length = l.map f := by simp [mixS]
theorem turns_in {b : Int} (x : Spot) (h : (-b ≤ x.f0 ∧ x.f0 ≤ b) ∧ (-b ≤ x.f1 ∧ x.f1 ≤ b)) : ∀ k, (-b ≤ (turnsS k x).f0 ∧ (turnsS k x).f0 ≤ b) ∧ (-b ≤ (turnsS k x).f1 ∧ (turnsS k x).f1 ≤ b)
  | 0 => h
  | k + 1 => by
    have := turns_in x h k
    unfold turnsS turnS
    simp only
    omega
end Go.Proofs.Ytemeapfnfegkiaa.D
end
section
/- General lemmas of this session's own: rows of any plain kind that are copied by append. -/
namespace Go.Proofs.YtemeapfnfegkiaaK
open Go Go.RowKit Go.Proofs.YtemeapfnfegkiaaW.PrintWords Go.Proofs.YtemeapfnfegkiaaW.PrintLast Go.Proofs.YtemeapfnfegkiaaW.PrintMore
set_option linter.unusedVariables false
set_option linter.unusedSimpArgs false
variable {P : Program}

theorem flat_at {α : Type} (enc : α → List Value) {sz : Nat} (hl : ∀ x, (enc x).length = sz) : ∀ (xs : List α), (xs.flatMap enc).length = xs.length * sz ∧
    ∀ j u, (xs.flatMap enc)[j]? = some u → ∃ p i, xs[j / sz]? = some p ∧ (enc p)[i]? = some u ∧ i < sz ∧ j = j / sz * sz + i
  | [] => ⟨by simp, fun j u h => by simp at h⟩
  | x :: xs => by
    obtain ⟨h1, h2⟩ := flat_at enc hl xs
    refine ⟨by rw [List.flatMap_cons, List.length_append, h1, hl, List.length_cons, Nat.succ_mul]; omega, fun j u h => ?_⟩
    rw [List.flatMap_cons] at h
    by_cases hj : j < sz
    · rw [List.getElem?_append_left (by rw [hl]; exact hj)] at h
      have hd : j / sz = 0 := Nat.div_eq_of_lt hj
      exact ⟨x, j, by rw [hd]; rfl, h, hj, by rw [hd]; omega⟩
    · have hsz : 0 < sz := by
        rcases Nat.eq_zero_or_pos sz with e | e
        · subst e
          have h0 : (xs.flatMap enc).length = 0 := by rw [h1, Nat.mul_zero]
          rw [List.getElem?_append_right (by rw [hl]; omega), List.eq_nil_of_length_eq_zero h0] at h
          simp at h
        · exact e
      rw [List.getElem?_append_right (by rw [hl]; omega), hl] at h
      obtain ⟨p, i, a1, a2, a3, a4⟩ := h2 (j - sz) u h
      have hd : j / sz = (j - sz) / sz + 1 := by
        rw [Nat.div_eq_sub_div hsz (by omega)]
      exact ⟨p, i, by rw [hd]; simpa using a1, a2, a3, by rw [hd, Nat.succ_mul]; omega⟩

theorem C_news {α : Type} {d : Kd α} {enc : α → List Value} (hK : ∀ (w : World) x cs, d.K w x cs → cs = enc x) (hl : ∀ x, (enc x).length = d.sz) {w : World} {A : Option Addr} {xs : List α} (h : Kd.C d w A xs.length xs) {ad : Addr} (hA : A = some ad) :
    ∀ j u, (xs.flatMap enc)[j]? = some u → w.cell? (ad.add j) = some u := by
  intro j u hj
  obtain ⟨p, i, h1, h2, h3, h4⟩ := (flat_at enc hl xs).2 j u hj
  have hpos : 0 < xs.length := by
    have := (List.getElem?_eq_some_iff.1 h1).1
    exact Nat.lt_of_le_of_lt (Nat.zero_le _) this
  obtain ⟨ad', e, hc⟩ := h.2.2 hpos
  rw [hA] at e
  cases e
  obtain ⟨cs, hs, hk, hcell⟩ := hc _ p h1
  rw [hK w p cs hk] at hcell
  rw [h4]
  exact hcell i u h2
theorem C_some {α : Type} {d : Kd α} {w : World} {A : Option Addr} {xs : List α} (h : Kd.C d w A xs.length xs) (h0 : A = none) : xs = [] := by
  by_cases hp : 0 < xs.length
  · obtain ⟨ad, e, _⟩ := h.2.2 hp
    rw [h0] at e; cases e
  · exact List.eq_nil_of_length_eq_zero (by omega)

theorem append_row {α : Type} {d : Kd α} {enc : α → List Value} (hK : ∀ (w : World) x cs, d.K w x cs → cs = enc x) (hl : ∀ x, (enc x).length = d.sz) (h1 : ∀ x, ∀ u ∈ enc x, u.oneCell' = true) {w : World} {base e t ty : Nat} {i : TypeInfo} {z : Value} {bytes : Nat}
    (ht : P.underlying t = some (.slice e)) (hi : P.info? e = some i) (hz : i.zero = some z) (hsize : i.size = d.sz) (hby : i.bytes = bytes) (hzs : z.cells.size = d.sz) (hsz : 0 < d.sz) (hb : 0 < bytes)
    {v : Value} {ys : List α} (hown : w.ownsRow base e d.sz v ys.length (ys.flatMap enc)) {A : Option Addr} {c : Nat} {xs : List α} (h : Kd.C d w A xs.length xs) (hn : (ys.length + xs.length) * bytes ≤ 140737488355328) (hbase : base ≤ w.heap.size)
    (hno : A = none → (Builtin.append_ #[t, t] ty #[v, .slice none xs.length c]).run P w = .ok v w) :
    ∃ v' w', (Builtin.append_ #[t, t] ty #[v, .slice A xs.length c]).run P w = .ok v' w' ∧ w'.ownsRow base e d.sz v' (ys ++ xs).length ((ys ++ xs).flatMap enc) ∧ w.grownBy w' v.ownBlock ∧ (v'.ownBlock = v.ownBlock ∨ v'.ownBlock = some w.heap.size) := by
  cases A with
  | none =>
    have hx := C_some h rfl
    refine ⟨v, w, hno rfl, ?_, ⟨rfl, rfl, rfl, Nat.le_refl _, fun _ _ _ => rfl⟩, .inl rfl⟩
    subst hx
    rw [List.append_nil]
    exact hown
  | some ad =>
    obtain ⟨v', w', hr, ho, hg, _, hb'⟩ := run_append_own_at (P := P) w base t ty e i z d.sz bytes ht hi hz hsize hby hzs hsz v ys.length _ hown ad xs.length c (xs.flatMap enc) (flat_at enc hl xs).1 (C_news hK hl h rfl)
      (fun u hu => by obtain ⟨x, _, hx⟩ := List.mem_flatMap.1 hu; exact h1 x u hx) (by have := Nat.le_mul_of_pos_right (ys.length + xs.length) hb; simp only [maxLen]; omega) (by exact hn) hbase
    exact ⟨v', w', hr, by rw [List.length_append, List.flatMap_append]; exact ho, hg, hb'⟩
theorem row_read {α : Type} {d : Kd α} {enc : α → List Value} (hM : ∀ (w : World) x, d.K w x (enc x)) (hl : ∀ x, (enc x).length = d.sz) {w : World} {base e : Nat} {v : Value} {xs : List α} (h : w.ownsRow base e d.sz v xs.length (xs.flatMap enc)) (hn : xs.length ≤ 9223372036854775807) :
    ∃ A c, v = .slice A xs.length c ∧ xs.length ≤ c ∧ Kd.C d w A xs.length xs := by
  rcases h.2 with ⟨rfl, h0⟩ | ⟨g, cap, cur, rfl, hb, hg, hcap, hm, hs, ht⟩
  · have : xs = [] := List.eq_nil_of_length_eq_zero h0
    subst this
    exact ⟨none, 0, rfl, Nat.le_refl _, rfl, by simp, fun h => absurd h (by simp)⟩
  · refine ⟨_, cap, rfl, hcap, rfl, hn, fun _ => ⟨_, rfl, fun j p hj => ⟨enc p, hl p, hM w p, fun i u hu => ?_⟩⟩⟩
    have hadd : (⟨g, 0, none⟩ : Addr).add (j * d.sz + i) = ⟨g, j * d.sz + i, none⟩ := by unfold Addr.add; split <;> simp_all
    rw [hadd, cell_of_row w g _ cur e (0, 0) hg]
    have hjl := (List.getElem?_eq_some_iff.1 hj).1
    have hil : i < d.sz := by rw [← hl p]; exact (List.getElem?_eq_some_iff.1 hu).1
    have key : ∀ (xs : List α) (j : Nat), xs[j]? = some p → (xs.flatMap enc)[j * d.sz + i]? = some u := by
      intro xs
      induction xs with
      | nil => intro j hj; simp at hj
      | cons x xs ih =>
        intro j hj
        rw [List.flatMap_cons]
        cases j with
        | zero =>
          simp at hj
          subst hj
          rw [Nat.zero_mul, Nat.zero_add, List.getElem?_append_left (by rw [hl]; exact hil)]
          exact hu
        | succ j =>
          rw [List.getElem?_append_right (by rw [hl, Nat.succ_mul]; omega), hl, Nat.succ_mul]
          have := ih j (by simpa using hj)
          rw [← this]; congr 1; omega
    have hk := key xs j hj
    have hlt : j * d.sz + i < xs.length * d.sz := by
      have : (j + 1) * d.sz ≤ xs.length * d.sz := Nat.mul_le_mul_right _ hjl
      rw [Nat.succ_mul] at this; omega
    rw [← ht, List.getElem?_take_of_lt hlt] at hk
    rw [← Array.getElem?_toList]; exact hk
theorem append_none {w : World} {t ty e : TypeId} {i : TypeInfo} {z : Value} (ht : P.underlying t = some (.slice e)) (hi : P.info? e = some i) (g m c c' : Nat) (h : m ≤ c) :
    (Builtin.append_ #[t, t] ty #[.slice (some ⟨g, 0, none⟩) m c, .slice none 0 c']).run P w = .ok (.slice (some ⟨g, 0, none⟩) m c) w := by
  simp [Builtin.append_, run_underlying ht, sizeOf, typeInfo, hi, Builtin.lenOf, Builtin.firstCells, loadCells, loadCellsFrom, h, storeCells]

theorem list_run {ops : Array Oper} {rest : List Oper} {o : Oper} {a : Act} {w : World} {Q : Exit → Act → World → Prop} (hgd : o.guard = none) (s x : Operand) (t : TypeId)
    (ho : o.op = .call { callee := .builtin .append, args := #[s, x], argTypes := #[t, t] }) {v u : Value} (hs : a.eval s = v) (hx : a.eval x = u) {v' : Value} {w' : World}
    (hr : (Builtin.append_ #[t, t] o.type #[v, u]).run P w = .ok v' w') (h : wpList P ops Q rest (a.put o.dst v') w') : wpList P ops Q (o :: rest) a w := by
  refine wpList_plain hgd fun K hK => ?_
  unfold Oper.wp execOp
  simp only [ho, resolve, invoke, builtin, Sem.run_bind, Sem.run_pure, Result.andThen_ok, List.map_toArray, List.map_cons, List.map_nil, hs, hx, hr]
  exact hK _ _ h
theorem own_new0 {w : World} {base e sz : Nat} (hb : base ≤ w.heap.size) : (w.alloc (.cells #[] e)).ownsRow base e sz (.slice (some ⟨w.heap.size, 0, none⟩) 0 0) 0 [] :=
  World.ownsRow_lit w #[] 0 hb (by decide) (by simp)
theorem own_far {w : World} {base e sz n : Nat} {v : Value} {xs : List Value} (h : w.ownsRow base e sz v n xs) {p : Addr} (hp : p.block < base) (u : Value) : (w.setCell p u).ownsRow base e sz v n xs := by
  refine ⟨h.1, ?_⟩
  rcases h.2 with hn | ⟨g, cap, cur, rfl, hb, hg, rest⟩
  · exact .inl hn
  · exact .inr ⟨g, cap, cur, rfl, hb, (Below.heap_setCell w p u g (by omega)).trans hg, rest⟩
end Go.Proofs.YtemeapfnfegkiaaK
end
section
/- General lemmas of this session's own: an element of three cells written into a row of its own. -/
namespace Go.Proofs.YtemeapfnfegkiaaK
open Go Go.RowKit Go.Proofs.YtemeapfnfegkiaaW.PrintWords Go.Proofs.YtemeapfnfegkiaaW.PrintLast Go.Proofs.YtemeapfnfegkiaaW.PrintMore
set_option linter.unusedVariables false
set_option linter.unusedSimpArgs false

theorem flat_set3 {α : Type} {enc : α → List Value} (hl : ∀ x, (enc x).length = 3) {x : α} {c0 c1 c2 : Value} (hx : enc x = [c0, c1, c2]) : ∀ (xs : List α) (k : Nat), k < xs.length →
    (((xs.flatMap enc).set (k * 3) c0).set (k * 3 + 1) c1).set (k * 3 + 2) c2 = (xs.set k x).flatMap enc
  | [], k, h => by simp at h
  | y :: ys, 0, _ => by
    obtain ⟨a, b, c, e⟩ : ∃ a b c, enc y = [a, b, c] := by
      have := hl y
      match h : enc y, this with
      | [a, b, c], _ => exact ⟨a, b, c, rfl⟩
    simp [List.flatMap_cons, e, hx]
  | y :: ys, k + 1, h => by
    have ih := flat_set3 hl hx ys k (by simpa using h)
    rw [List.flatMap_cons, List.set_cons_succ, List.flatMap_cons, ← ih]
    have h3 := hl y
    rw [List.set_append_right _ _ (by omega), List.set_append_right _ _ (by omega), List.set_append_right _ _ (by omega)]
    rw [h3, show (k + 1) * 3 - 3 = k * 3 by omega, show (k + 1) * 3 + 1 - 3 = k * 3 + 1 by omega, show (k + 1) * 3 + 2 - 3 = k * 3 + 2 by omega]
theorem own_put3 {α : Type} {enc : α → List Value} (hl : ∀ x, (enc x).length = 3) {w : World} {base e m cap g : Nat} {xs : List α} (hm : xs.length = m) (h : w.ownsRow base e 3 (.slice (some ⟨g, 0, none⟩) m cap) m (xs.flatMap enc)) {k : Nat} (hk : k < m)
    {x : α} {c0 c1 c2 : Value} (hx : enc x = [c0, c1, c2]) :
    (((w.setCell ⟨g, k * 3, none⟩ c0).setCell ⟨g, k * 3 + 1, none⟩ c1).setCell ⟨g, k * 3 + 2, none⟩ c2).ownsRow base e 3 (.slice (some ⟨g, 0, none⟩) m cap) m ((xs.set k x).flatMap enc) := by
  subst hm
  refine ⟨by rw [(flat_at enc hl _).1, List.length_set], ?_⟩
  rcases h.2 with ⟨h1, _⟩ | ⟨g', cap', cur, h1, hb, hg, hcap, hm, hs, ht⟩
  · cases h1
  · cases h1
    refine .inr ⟨g, cap, _, rfl, hb, blk_set (blk_set (blk_set hg _ c0) _ c1) _ c2, hcap, hm, by simpa using hs, ?_⟩
    simp only [Array.toList_setIfInBounds, List.take_set, ht]
    exact flat_set3 hl hx xs k hk
theorem own_at {w : World} {base e sz n cap m : Nat} {A : Option Addr} {cs : List Value} (h : w.ownsRow base e sz (.slice A n cap) m cs) (h0 : 0 < m) : ∃ g, A = some ⟨g, 0, none⟩ ∧ base ≤ g ∧ n = m ∧ n ≤ cap ∧ g < w.heap.size ∧ ∃ cur, w.heap[g]? = some (.cells cur e (0, 0)) ∧ cur.toList.take (m * sz) = cs ∧ m * sz ≤ cur.size := by
  rcases h.2 with ⟨h1, h2⟩ | ⟨g', cap', cur, h1, hb, hg, hcap, hm, hs, ht⟩
  · omega
  · cases h1
    refine ⟨_, rfl, hb, rfl, hcap, blk_lt hg, cur, hg, ht, ?_⟩
    have := h.1
    have h2 := congrArg List.length ht
    rw [List.length_take, Array.length_toList] at h2
    omega
theorem add0 (g n : Nat) : (⟨g, 0, none⟩ : Addr).add n = ⟨g, n, none⟩ := by unfold Addr.add; split <;> simp_all
theorem own_chg {w w' : World} {base e sz n : Nat} {v : Value} {xs : List Value} {S : Nat → Prop} (h : w.ownsRow base e sz v n xs) (hc : Chg S w w') (hs : ∀ k, v.ownBlock = some k → ¬ S k) : w'.ownsRow base e sz v n xs := by
  refine ⟨h.1, ?_⟩
  rcases h.2 with hn | ⟨g, cap, cur, rfl, hb, hgg, rest⟩
  · exact .inl hn
  · exact .inr ⟨g, cap, cur, rfl, hb, hc.heap hgg (hs g rfl), rest⟩
end Go.Proofs.YtemeapfnfegkiaaK
end
section
/- Package disk: one dot more. -/
namespace Go.Proofs.Ytemeapfnfegkiaa.D
open Go Go.RowKit Go.Proofs.YtemeapfnfegkiaaK Go.Proofs.YtemeapfnfegkiaaW.PrintWords Go.Proofs.YtemeapfnfegkiaaW.PrintLast Go.Proofs.YtemeapfnfegkiaaW.PrintMore Go.Proofs.Ytemeapfnfegkiaa.PR
set_option linter.unusedVariables false
set_option linter.unusedSimpArgs false

abbrev shP (D : Dat) (A4 : Option Addr) (c4 : Nat) (A5 : Option Addr) (c5 : Nat) : Array Value := #[.string D.nm, .int .i64 D.rad, .int .i64 D.lo, .int .i64 D.hi, .slice A4 D.spots.length c4, .slice A5 D.told.length c5]
end Go.Proofs.Ytemeapfnfegkiaa.D
end
section
/- Package disk: rows of dots and of what was told, copied by append. -/
namespace Go.Proofs.Ytemeapfnfegkiaa.D
open Go Go.RowKit Go.Proofs.YtemeapfnfegkiaaK Go.Proofs.YtemeapfnfegkiaaW.PrintWords Go.Proofs.YtemeapfnfegkiaaW.PrintLast Go.Proofs.YtemeapfnfegkiaaW.PrintMore Go.Proofs.Ytemeapfnfegkiaa.PR
set_option linter.unusedVariables false
set_option linter.unusedSimpArgs false
def encS (x : Spot) : List Value := [.int .i64 x.f0, .int .i64 x.f1, .bool x.f2]
theorem infoE (t : TypeId) (h : (Try.prog.info? t).map (fun i => (i.zero, i.size, i.bytes)) = some (some (.agg #[(.int .i64 0), (.int .i64 0), (.bool false)]), 3, 24)) : ∃ i, Try.prog.info? t = some i ∧ i.zero = some (.agg #[(.int .i64 0), (.int .i64 0), (.bool false)]) ∧ i.size = 3 ∧ i.bytes = 24 := by
  cases hi : Try.prog.info? t with
  | none => rw [hi] at h; cases h
  | some i => rw [hi] at h; simp at h; exact ⟨i, rfl, h.1, h.2.1, h.2.2⟩
theorem infoS : ∃ i, Try.prog.info? 80 = some i ∧ i.zero = some (.agg #[(.int .i64 0), (.int .i64 0), (.bool false)]) ∧ i.size = 3 ∧ i.bytes = 24 := infoE _ (by kernel_rfl)
theorem encS_one (x : Spot) : ∀ u ∈ encS x, u.oneCell' = true := by simp [encS, Value.oneCell']
theorem own_form {w : World} {base e sz n k : Nat} {v : Value} {cs : List Value} (h : w.ownsRow base e sz v n cs) (hk : v.ownBlock = some k) : ∃ c, v = .slice (some ⟨k, 0, none⟩) n c := by
  rcases h.2 with ⟨rfl, _⟩ | ⟨g, cap, cur, rfl, _⟩
  · simp [Value.ownBlock] at hk
  · simp [Value.ownBlock] at hk
    subst hk
    exact ⟨_, rfl⟩
theorem append_spots {w : World} {base ty g m c0 k0 : Nat} {ys : List Spot} (hm : m = ys.length) (hown : w.ownsRow base 80 3 (.slice (some ⟨g, 0, none⟩) m c0) ys.length (ys.flatMap encS)) {A : Option Addr} {c n : Nat} {xs : List Spot} (hx : n = xs.length)
    (h : Kd.C k80 w A xs.length xs) (hk0 : k0 = ys.length + xs.length) (hn : (ys.length + xs.length) * 24 ≤ 140737488355328) (hbase : base ≤ w.heap.size) :
    ∃ g' c' w', (Builtin.append_ #[24, 24] ty #[.slice (some ⟨g, 0, none⟩) m c0, .slice A n c]).run Try.prog w = .ok (.slice (some ⟨g', 0, none⟩) k0 c') w' ∧ base ≤ g' ∧ w'.ownsRow base 80 3 (.slice (some ⟨g', 0, none⟩) k0 c') (ys ++ xs).length ((ys ++ xs).flatMap encS) ∧ Below base w w' ∧ w.grownBy w' (some g) := by
  subst hm hx hk0
  obtain ⟨i, hi, hz, hs, hb⟩ := infoS
  obtain ⟨v', w', hr, ho, hg, hb'⟩ := append_row (ty := ty) (d := k80) (enc := encS) (fun w x cs hK => k80_open hK) (fun _ => rfl) encS_one Try.underlying24 hi hz hs hb rfl (by decide) (by decide) hown h hn hbase (fun hA => by
    have hx0 := C_some h hA
    have hle := own_le hown
    rw [hx0]
    exact append_none (z := .bool false) Try.underlying24 hi g _ c0 c hle)
  obtain ⟨k, hk⟩ : ∃ k, v'.ownBlock = some k := by rcases hb' with e | e <;> exact ⟨_, e⟩
  obtain ⟨c', rfl⟩ := own_form ho hk
  rw [List.length_append] at hr ho
  refine ⟨k, c', w', hr, own_base ho k rfl, by rw [List.length_append]; exact ho, (Below.refl base w).grown hg hbase (fun k' e => own_base hown k' e), hg⟩
theorem spots_read {w : World} {base : Nat} {v : Value} {xs : List Spot} (h : w.ownsRow base 80 3 v xs.length (xs.flatMap encS)) (hn : xs.length ≤ 9223372036854775807) : ∃ A c, v = .slice A xs.length c ∧ xs.length ≤ c ∧ Kd.C k80 w A xs.length xs :=
  row_read (d := k80) (enc := encS) (fun w x => k80_mk w x) (fun _ => rfl) h hn
theorem spots_C {w : World} {base n c : Nat} {A : Option Addr} {xs : List Spot} (h : w.ownsRow base 80 3 (.slice A n c) xs.length (xs.flatMap encS)) (hn : xs.length ≤ 9223372036854775807) : Kd.C k80 w A xs.length xs := by
  obtain ⟨A1, c1, e, _, h2⟩ := spots_read h hn; cases e; exact h2
theorem list_spots {ops : Array Oper} {rest : List Oper} {o : Oper} {a : Act} {W : World} {Q : Exit → Act → World → Prop} {base g m c0 c n k0 : Nat} {A : Option Addr} {ys xs : List Spot} (hgd : o.guard = none) (s x : Operand)
    (ho : o.op = .call { callee := .builtin .append, args := #[s, x], argTypes := #[24, 24] }) (hs : a.eval s = .slice (some ⟨g, 0, none⟩) m c0) (hx : a.eval x = .slice A n c) (hm : m = ys.length) (hn : n = xs.length) (hk0 : k0 = ys.length + xs.length)
    (hown : W.ownsRow base 80 3 (.slice (some ⟨g, 0, none⟩) m c0) ys.length (ys.flatMap encS)) (hC : Kd.C k80 W A xs.length xs) (hl : (ys.length + xs.length) * 24 ≤ 140737488355328) (hb : base ≤ W.heap.size)
    (hk : ∀ g' c' w', base ≤ g' → w'.ownsRow base 80 3 (.slice (some ⟨g', 0, none⟩) k0 c') (ys ++ xs).length ((ys ++ xs).flatMap encS) → Below base W w' → W.grownBy w' (some g) → wpList Try.prog ops Q rest (a.put o.dst (.slice (some ⟨g', 0, none⟩) k0 c')) w') :
    wpList Try.prog ops Q (o :: rest) a W := by
  obtain ⟨g', c', w', hr, h1, h2, h3, h4⟩ := append_spots (ty := o.type) hm hown hn hC hk0 hl hb
  exact list_run hgd s x 24 ho hs hx hr (hk g' c' w' h1 h2 h3 h4)
end Go.Proofs.Ytemeapfnfegkiaa.D
end
section
/- Package disk: DiskMoved. -/
namespace Go.Proofs.Ytemeapfnfegkiaa.D
open Go Go.RowKit Go.Proofs.YtemeapfnfegkiaaK Go.Proofs.YtemeapfnfegkiaaW.PrintWords Go.Proofs.YtemeapfnfegkiaaW.PrintLast Go.Proofs.YtemeapfnfegkiaaW.PrintMore Go.Proofs.Ytemeapfnfegkiaa.PR
set_option linter.unusedVariables false
set_option linter.unusedSimpArgs false

set_option maxRecDepth 100000 in
set_option maxHeartbeats 8000000 in
theorem DiskMoved_calls (D : Dat) (A4 : Option Addr) (c4 : Nat) (A5 : Option Addr) (c5 : Nat) (x : Int) (w : World) (h : Arg w D A4 c4 A5 c5) (hx : 0 ≤ x ∧ x ≤ 255) :
    Calls Try.prog 13 #[.agg #[.string D.nm, .int .i64 D.rad, .int .i64 D.lo, .int .i64 D.hi, .slice A4 D.spots.length c4, .slice A5 D.told.length c5], .int .u8 x] w
      fun e w' => e = .returned (.bool true) ∧ Below w.heap.size w w' := by
  have hb1 := below_alloc (Below.refl w.heap.size w) (.cells (shP D A4 c4 A5 c5) 27)
  have HB := Aside0.mk hb1
  have HS := Aside0.mk (blk_new w (.cells (shP D A4 c4 A5 c5) 27))
  have HA := Aside0.mk h
  obtain ⟨K1, hK1⟩ := (rValid h.fits).rounds
  have HK1 := Aside0.mk hK1
  obtain ⟨x, rfl⟩ : ∃ y : Nat, x = y := ⟨x.toNat, by omega⟩
  have HX : Aside0 (x < 256) := ⟨by omega⟩
  clear h hb1 hx hK1
  obtain ⟨q, hq⟩ : ∃ q, w.heap.size = q := ⟨_, rfl⟩
  have HQ := Aside0.mk hq
  rw [hq] at HS
  go_enter Try.func13, Try.ntmps13
  go_upto_region 1 with (fail)
  generalize w.alloc (.cells (shP D A4 c4 A5 c5) 27) = w1 at HB HS ⊢
  clear hq
  have k0 := (blk_cell HS.out 0).trans rfl
  have k1 := (blk_cell HS.out 1).trans rfl
  have k2 := (blk_cell HS.out 2).trans rfl
  have k3 := (blk_cell HS.out 3).trans rfl
  have k4 := (blk_cell HS.out 4).trans rfl
  have k5 := (blk_cell HS.out 5).trans rfl
  have kl := blk_lt HS.out
  go_wp2_with fail
  clear k0 k1 k2 k3 k4 k5 kl
  have hA := HA.out.below HB.out
  refine (helioscopelaw01_valid.calls K1 D.nm D.rad D.lo D.hi A4 c4 D.spots A5 c5 D.told _ w1 hA.s hA.sc hA.t hA.tc HK1.out).mono ?_
  rintro e w2 ⟨rfl, hb⟩
  replace HB := Aside0.mk (HB.out.trans (hb.mono HB.out.size))
  replace HS := Aside0.mk (blk_below HS.out hb)
  clear hb
  clear HK1 hA
  by_cases hc : (checkF D).2.2 = 0
  · rw [decide_eq_true hc]
    have HC := Aside0.mk hc
    have hV := (check_valid hc).1
    have HV := Aside0.mk hV
    have hn7 := hV.n7
    clear hc hV
    obtain ⟨isS, hiS, hzS, hszS, hbyS⟩ := infoS
    have HIS := Aside0.mk hiS
    clear hiS
    have k0 := (blk_cell HS.out 0).trans rfl
    have k1 := (blk_cell HS.out 1).trans rfl
    have k2 := (blk_cell HS.out 2).trans rfl
    have k3 := (blk_cell HS.out 3).trans rfl
    have k4 := (blk_cell HS.out 4).trans rfl
    have k5 := (blk_cell HS.out 5).trans rfl
    have kl := blk_lt HS.out
    go_upto_region 4 with (fail)
    clear k0 k1 k2 k3 k4 k5 kl
    have hqlt := blk_lt HS.out
    have hb : Below w2.heap.size w2 (w2.alloc (.cells (shP D A4 c4 A5 c5) 27)) := below_alloc (Below.refl _ _) _
    have hm := Aside0.mk (blk_new w2 (.cells (shP D A4 c4 A5 c5) 27))
    replace HB := Aside0.mk (HB.out.trans (hb.mono HB.out.size))
    replace HS := Aside0.mk (blk_below HS.out hb)
    clear hb
    have HQ2 : Aside0 (q < w2.heap.size) := ⟨hqlt⟩
    generalize w2.alloc (.cells (shP D A4 c4 A5 c5) 27) = w3 at HB HS hm ⊢
    obtain ⟨M, hM⟩ : ∃ b, w2.heap.size = b := ⟨_, rfl⟩
    rw [hM] at hm HQ2 ⊢
    clear hM
    have HM := hm
    clear hm hqlt
    have HA3 := Aside0.mk (HA.out.below HB.out)
    have k0 := (blk_cell HS.out 0).trans rfl
    have k1 := (blk_cell HS.out 1).trans rfl
    have k2 := (blk_cell HS.out 2).trans rfl
    have k3 := (blk_cell HS.out 3).trans rfl
    have k4 := (blk_cell HS.out 4).trans rfl
    have k5 := (blk_cell HS.out 5).trans rfl
    have kl := blk_lt HS.out
    go_wp2_with (at_builtin; go_loud (refine list_spots (base := w3.heap.size) (ys := []) (xs := D.spots) (n := D.spots.length) (k0 := D.spots.length) rfl (.tmp 36) (.tmp 38) rfl rfl rfl rfl rfl (by simp) (own_new0 (Nat.le_refl _)) (Kd.C_below HA3.out.s (below_alloc (Below.refl _ _) _)) (by simp; omega) (by simp) ?_); intro g39 c39 w4 hg ho hz hr; have hz2 := (below_alloc (Below.refl w3.heap.size w3) (.cells #[] 80)).trans hz; have HR2 := Aside0.mk (blk_below HM.out hz2); have m4 := (blk_cell HR2.out 4).trans rfl; have f4 := blk_frozen HR2.out 4; have ml := blk_lt HR2.out)
    clear k0 k1 k2 k3 k4 k5 kl
    have hMB := blk_lt HM.out
    have n1 := blk_far (p := ⟨M, 4, none⟩) (blk_below HS.out hz2) (show q ≠ M from Nat.ne_of_lt HQ2.out) (.slice (some ⟨g39, 0, none⟩) D.spots.length c39)
    have n2 := blk_set HR2.out 4 (.slice (some ⟨g39, 0, none⟩) D.spots.length c39)
    have n3 := own_far ho (p := ⟨M, 4, none⟩) (show M < w3.heap.size from hMB) (.slice (some ⟨g39, 0, none⟩) D.spots.length c39)
    have n4 : Below w.heap.size w (w4.setCell ⟨M, 4, none⟩ (.slice (some ⟨g39, 0, none⟩) D.spots.length c39)) := below_set (HB.out.trans (hz2.mono HB.out.size)) (by have := HQ.out; have := HQ2.out; omega)
    obtain ⟨B, hB⟩ : ∃ b, w3.heap.size = b := ⟨_, rfl⟩
    rw [hB] at n3 hg hMB ⊢
    generalize w4.setCell ⟨M, 4, none⟩ (.slice (some ⟨g39, 0, none⟩) D.spots.length c39) = w5 at n1 n2 n3 n4 ⊢
    clear m4 f4 ml HR2 ho hz hr hz2 HS HM HB hB HA3
    have HS := Aside0.mk n1
    have HM : Aside0 (w5.heap[M]? = some (.cells #[.string D.nm, .int .i64 D.rad, .int .i64 D.lo, .int .i64 D.hi, .slice (some ⟨g39, 0, none⟩) D.spots.length c39, .slice A5 D.told.length c5] 27 (0, 0))) := ⟨n2⟩
    have HO : Aside0 (w5.ownsRow B 80 3 (.slice (some ⟨g39, 0, none⟩) D.spots.length c39) D.spots.length (D.spots.flatMap encS)) := ⟨n3⟩
    have HB := Aside0.mk n4
    have HGB := Aside0.mk (And.intro hg hMB)
    clear n1 n2 n3 n4 hg hMB
    obtain ⟨f, hf⟩ : ∃ f, movS (x % 4) (decide (x / 4 % 2 = 1)) = f := ⟨_, rfl⟩
    have HF := Aside0.mk hf
    have hMv : Mv f := by rw [← hf]; exact Mv.mov _ _
    have HMV := Aside0.mk hMv
    clear hf hMv
    go_loopw [6] (fun j wr => ∃ k : Nat, k ≤ D.spots.length ∧ j = .int .i64 k ∧ Aside0 (wr.heap[q]? = some (.cells (shP D A4 c4 A5 c5) 27 (0, 0))) ∧ Aside0 (wr.heap[M]? = some (.cells #[.string D.nm, .int .i64 D.rad, .int .i64 D.lo, .int .i64 D.hi, .slice (some ⟨g39, 0, none⟩) D.spots.length c39, .slice A5 D.told.length c5] 27 (0, 0))) ∧
        Aside0 (wr.ownsRow B 80 3 (.slice (some ⟨g39, 0, none⟩) D.spots.length c39) D.spots.length ((mixS f D.spots k).flatMap encS)) ∧ Aside0 (Below w.heap.size w wr)) (fun j _ => D.spots.length - (intOf j).toNat)
    case atStart => exact ⟨0, Nat.zero_le _, rfl, HS, HM, ⟨by rw [mixS_zero]; exact HO.out⟩, HB⟩
    case round =>
      clear HS HM HO HB
      obtain ⟨k, hk, rfl, HS, HM, HO, HB⟩ := hrel
      by_cases hlt : k < D.spots.length
      · have HV1 := Aside0.mk (HV.out.xy k hlt)
        have hC := spots_C (by rw [mixS_len]; exact HO.out) (by rw [mixS_len]; omega)
        obtain ⟨ad, e, y0, y1, y2⟩ := at_T80 hC (k : Int) (by omega) (by rw [mixS_len]; omega)
        cases e
        rw [mixS_at f D.spots k hlt] at y0 y1 y2
        rw [Int.toNat_natCast, add0] at y0 y1 y2
        dsimp only at y1 y2
        clear hC
        have hxy := HV1.out
        rw [spot_at _ _ hlt] at hxy
        obtain ⟨y, hy⟩ : ∃ y, D.spots[k] = y := ⟨_, rfl⟩
        have HY := Aside0.mk hy
        rw [hy] at y0 y1 y2 hxy
        have HXY := Aside0.mk hxy
        clear hy hxy HV1
        have m0 := (blk_cell HM.out 0).trans rfl
        have m1 := (blk_cell HM.out 1).trans rfl
        have m2 := (blk_cell HM.out 2).trans rfl
        have m3 := (blk_cell HM.out 3).trans rfl
        have m4 := (blk_cell HM.out 4).trans rfl
        have m5 := (blk_cell HM.out 5).trans rfl
        have ml := blk_lt HM.out
        go_wp2_with fail
        clear m0 m1 m2 m3 m4 m5 ml
        clear y0 y1 y2
        have hb : Below wr.heap.size wr (wr.alloc (.cells #[.int .i64 y.f0, .int .i64 y.f1, .bool y.f2] 80)) := below_alloc (Below.refl _ _) _
        have hd := Aside0.mk (blk_new wr (.cells #[.int .i64 y.f0, .int .i64 y.f1, .bool y.f2] 80))
        have hgl : g39 < wr.heap.size := by
          obtain ⟨g, e, _, _, _, hl, _⟩ := own_at HO.out (by omega)
          cases e; exact hl
        have hql := blk_lt HS.out
        have hMl := blk_lt HM.out
        have hwl : w.heap.size ≤ wr.heap.size := HB.out.size
        replace HB := Aside0.mk (HB.out.trans (hb.mono HB.out.size))
        replace HS := Aside0.mk (blk_below HS.out hb)
        replace HM := Aside0.mk (blk_below HM.out hb)
        replace HO := Aside0.mk (pw_own_below HO.out hb)
        clear hb
        generalize wr.alloc (.cells #[.int .i64 y.f0, .int .i64 y.f1, .bool y.f2] 80) = W at HB HS HM HO hd ⊢
        obtain ⟨b, hb⟩ : ∃ b, wr.heap.size = b := ⟨_, rfl⟩
        rw [hb] at hd hgl hql hMl hwl ⊢
        clear hb
        have HLT := Aside0.mk (And.intro hgl (And.intro hql (And.intro hMl hwl)))
        clear hgl hql hMl hwl
        obtain ⟨k4, hk4⟩ : ∃ k4, x % 4 = k4 := ⟨_, rfl⟩
        have hm1 : (x : Int).tmod 4 = (k4 : Int) := by rw [← hk4]; exact (Int.ofNat_tmod _ _).symm
        have hm2 : (x : Int) % 4 = (k4 : Int) := by rw [← hk4]; rfl
        have hl4 : k4 < 4 := by omega
        have hwx : wrap64 (x : Int) = (x : Int) := (by have := HX.out; unfold wrap64; omega)
        rw [hk4] at HF
        go_loopw [8] (fun j wq => ∃ r : Nat, r ≤ k4 ∧ j = .int .i64 r ∧ Aside0 (wq.heap[b]? = some (.cells #[.int .i64 (turnsS r y).f0, .int .i64 (turnsS r y).f1, .bool (turnsS r y).f2] 80 (0, 0))) ∧ Aside0 (Chg (fun k => k = b) W wq)) (fun j _ => k4 - (intOf j).toNat)
        case atStart => exact ⟨0, Nat.zero_le _, rfl, hd, ⟨Chg.refl _ _⟩⟩
        case round =>
          clear hd
          obtain ⟨r, hr, rfl, HD, HCh⟩ := hrel
          have hin := turns_in (b := 12) y (by have := HXY.out; omega) r
          by_cases hlr : r < k4
          · obtain ⟨z, hz⟩ : ∃ z, turnsS r y = z := ⟨_, rfl⟩
            rw [hz] at HD hin
            have hz2 : turnsS (r + 1) y = ⟨-z.f1, z.f0, z.f2⟩ := by rw [← Int.zero_sub, ← hz]; rfl
            have HZ := Aside0.mk hz2
            obtain ⟨⟨i1, i2⟩, i3, i4⟩ := hin
            have hw1 : IntKind.i64.wrap (0 - z.f1) = 0 - z.f1 := wrapI (by omega) (by omega)
            clear hz hz2
            have d0 := (blk_cell HD.out 0).trans rfl
            have d1 := (blk_cell HD.out 1).trans rfl
            have d2 := (blk_cell HD.out 2).trans rfl
            have dl := blk_lt HD.out
            have fd0 := blk_frozen HD.out 0
            have fd1 := blk_frozen HD.out 1
            have fd2 := blk_frozen HD.out 2
            go_wp2_with fail
            go_roundw
            case rel => exact ⟨r + 1, by omega, by go_num, ⟨by rw [HZ.out]; exact blk_set (blk_set (blk_set HD.out 0 _) 1 _) 2 _⟩, ⟨((HCh.out.setCell (fun _ => rfl) _).setCell (fun _ => rfl) _).setCell (fun _ => rfl) _⟩⟩
            case measure => simp [intOf]; omega
          · obtain rfl : r = k4 := by omega
            have n1 := HCh.out.heap HS.out (show ¬ q = b from Nat.ne_of_lt HLT.out.2.1)
            have n2 := HCh.out.heap HM.out (show ¬ M = b from Nat.ne_of_lt HLT.out.2.2.1)
            have n3 := own_chg HO.out HCh.out (fun j hj => by simp [Value.ownBlock] at hj; subst hj; exact Nat.ne_of_lt HLT.out.1)
            have n4 : Below w.heap.size w wr := HB.out.trans (HCh.out.below (fun j hj e => by have := HLT.out.2.2.2; omega) HB.out.size)
            clear HCh HS HM HO HB
            have HS := Aside0.mk n1
            have HM := Aside0.mk n2
            have HO := Aside0.mk n3
            have HB := Aside0.mk n4
            clear n1 n2 n3 n4
            obtain ⟨z, hz⟩ : ∃ z, turnsS r y = z := ⟨_, rfl⟩
            rw [hz] at HD hin
            obtain ⟨⟨i1, i2⟩, i3, i4⟩ := hin
            have hw1 : IntKind.i64.wrap (0 - z.f0) = 0 - z.f0 := wrapI (by omega) (by omega)
            have HZ := Aside0.mk hz
            clear hz
            by_cases hmir : x / 4 % 2 = 1
            · have hb1 : ((x : Int) / 4 % 2 == 1) = true := by simp; omega
              have hfy : Aside0 (f y = ⟨-z.f0, z.f1, z.f2⟩) := ⟨by rw [← HF.out, decide_eq_true hmir, ← Int.zero_sub, ← HZ.out]; rfl⟩
              clear hmir
              have d0 := (blk_cell HD.out 0).trans rfl
              have d1 := (blk_cell HD.out 1).trans rfl
              have d2 := (blk_cell HD.out 2).trans rfl
              have dl := blk_lt HD.out
              have fd0 := blk_frozen HD.out 0
              have fd1 := blk_frozen HD.out 1
              have fd2 := blk_frozen HD.out 2
              go_upto_region 15 with (fail)
              have n0 := blk_set (blk_set (blk_set HD.out 0 (.int .i64 (-z.f0))) 1 (.int .i64 z.f1)) 2 (.bool z.f2)
              have hch : Chg (fun j => j = b) wr (((wr.setCell ⟨b, 0, none⟩ (.int .i64 (-z.f0))).setCell ⟨b, 1, none⟩ (.int .i64 z.f1)).setCell ⟨b, 2, none⟩ (.bool z.f2)) := (((Chg.refl (fun j => j = b) wr).setCell (p := ⟨b, 0, none⟩) (fun _ => rfl) _).setCell (p := ⟨b, 1, none⟩) (fun _ => rfl) _).setCell (p := ⟨b, 2, none⟩) (fun _ => rfl) _
              clear d0 d1 d2 dl
              clear fd0 fd1 fd2
              have hbq := HLT.out
              have n1 := hch.heap HS.out (show ¬ q = b from Nat.ne_of_lt HLT.out.2.1)
              have n2 := hch.heap HM.out (show ¬ M = b from Nat.ne_of_lt HLT.out.2.2.1)
              have n3 := own_chg HO.out hch (fun j hj => by simp [Value.ownBlock] at hj; subst hj; exact Nat.ne_of_lt HLT.out.1)
              have n4 : Below w.heap.size w (((wr.setCell ⟨b, 0, none⟩ (.int .i64 (-z.f0))).setCell ⟨b, 1, none⟩ (.int .i64 z.f1)).setCell ⟨b, 2, none⟩ (.bool z.f2)) := HB.out.trans (hch.below (fun j hj e => by have := HLT.out.2.2.2; omega) HB.out.size)
              generalize (((wr.setCell ⟨b, 0, none⟩ (.int .i64 (-z.f0))).setCell ⟨b, 1, none⟩ (.int .i64 z.f1)).setCell ⟨b, 2, none⟩ (.bool z.f2)) = wz at n0 n1 n2 n3 n4 hch ⊢
              clear HS HM HO HB HD hbq
              have HS := Aside0.mk n1
              have HM := Aside0.mk n2
              have HO := Aside0.mk n3
              have HB := Aside0.mk n4
              have HD := Aside0.mk n0
              have hC := spots_C (by rw [mixS_len]; exact n3) (by rw [mixS_len]; omega)
              obtain ⟨ad, e, y0, y1, y2⟩ := at_T80 hC (k : Int) (by omega) (by rw [mixS_len]; omega)
              cases e
              rw [Int.toNat_natCast, add0] at y0 y1 y2
              dsimp only at y1 y2
              clear hC
              obtain ⟨g, e, _, _, _, hgl, cur, hcur, _, _⟩ := own_at n3 (by omega)
              cases e
              have f0 := blk_frozen hcur (k * 3)
              have f1 := blk_frozen hcur (k * 3 + 1)
              have f2 := blk_frozen hcur (k * 3 + 2)
              clear hcur n0 n1 n2 n3 n4 hch
              have m0 := (blk_cell HM.out 0).trans rfl
              have m1 := (blk_cell HM.out 1).trans rfl
              have m2 := (blk_cell HM.out 2).trans rfl
              have m3 := (blk_cell HM.out 3).trans rfl
              have m4 := (blk_cell HM.out 4).trans rfl
              have m5 := (blk_cell HM.out 5).trans rfl
              have ml := blk_lt HM.out
              have d0 := (blk_cell HD.out 0).trans rfl
              have d1 := (blk_cell HD.out 1).trans rfl
              have d2 := (blk_cell HD.out 2).trans rfl
              have dl := blk_lt HD.out
              go_wp2_with fail
              have o1 := HGB.out
              have o2 := HQ2.out
              have o3 := HQ.out
              have p1 := blk_far (p := ⟨g39, k * 3 + 2, none⟩) (blk_far (p := ⟨g39, k * 3 + 1, none⟩) (blk_far (p := ⟨g39, k * 3, none⟩) HS.out (show q ≠ g39 by omega) (.int .i64 (-z.f0))) (show q ≠ g39 by omega) (.int .i64 z.f1)) (show q ≠ g39 by omega) (.bool z.f2)
              have p2 := blk_far (p := ⟨g39, k * 3 + 2, none⟩) (blk_far (p := ⟨g39, k * 3 + 1, none⟩) (blk_far (p := ⟨g39, k * 3, none⟩) HM.out (show M ≠ g39 by omega) (.int .i64 (-z.f0))) (show M ≠ g39 by omega) (.int .i64 z.f1)) (show M ≠ g39 by omega) (.bool z.f2)
              have p3 := own_put3 (enc := encS) (fun _ => rfl) (mixS_len f D.spots k) HO.out hlt (x := f y) (c0 := (.int .i64 (-z.f0))) (c1 := (.int .i64 z.f1)) (c2 := (.bool z.f2)) (by rw [hfy.out]; rfl)
              have hms := mixS_succ f D.spots k hlt
              rw [HY.out] at hms
              rw [hms] at p3
              have p4 := below_set (j := k * 3 + 2) (v := (.bool z.f2)) (below_set (j := k * 3 + 1) (v := (.int .i64 z.f1)) (below_set (j := k * 3) (v := (.int .i64 (-z.f0))) HB.out (show w.heap.size ≤ g39 by omega)) (show w.heap.size ≤ g39 by omega)) (show w.heap.size ≤ g39 by omega)
              go_roundw
              case rel => exact ⟨k + 1, by omega, by go_num, ⟨p1⟩, ⟨p2⟩, ⟨p3⟩, ⟨p4⟩⟩
              case measure => simp [intOf]; omega
            · have hb1 : ((x : Int) / 4 % 2 == 1) = false := by simp; omega
              have hfy : Aside0 (f y = z) := ⟨by rw [← HF.out, decide_eq_false hmir, ← HZ.out]; rfl⟩
              clear hmir
              go_upto_region 15 with (fail)
              have n0 := HD.out
              have hch : Chg (fun j => j = b) wr wr := Chg.refl _ _
              have hbq := HLT.out
              have n1 := hch.heap HS.out (show ¬ q = b from Nat.ne_of_lt HLT.out.2.1)
              have n2 := hch.heap HM.out (show ¬ M = b from Nat.ne_of_lt HLT.out.2.2.1)
              have n3 := own_chg HO.out hch (fun j hj => by simp [Value.ownBlock] at hj; subst hj; exact Nat.ne_of_lt HLT.out.1)
              have n4 : Below w.heap.size w wr := HB.out.trans (hch.below (fun j hj e => by have := HLT.out.2.2.2; omega) HB.out.size)
              clear HS HM HO HB HD hbq
              have HS := Aside0.mk n1
              have HM := Aside0.mk n2
              have HO := Aside0.mk n3
              have HB := Aside0.mk n4
              have HD := Aside0.mk n0
              have hC := spots_C (by rw [mixS_len]; exact n3) (by rw [mixS_len]; omega)
              obtain ⟨ad, e, y0, y1, y2⟩ := at_T80 hC (k : Int) (by omega) (by rw [mixS_len]; omega)
              cases e
              rw [Int.toNat_natCast, add0] at y0 y1 y2
              dsimp only at y1 y2
              clear hC
              obtain ⟨g, e, _, _, _, hgl, cur, hcur, _, _⟩ := own_at n3 (by omega)
              cases e
              have f0 := blk_frozen hcur (k * 3)
              have f1 := blk_frozen hcur (k * 3 + 1)
              have f2 := blk_frozen hcur (k * 3 + 2)
              clear hcur n0 n1 n2 n3 n4 hch
              have m0 := (blk_cell HM.out 0).trans rfl
              have m1 := (blk_cell HM.out 1).trans rfl
              have m2 := (blk_cell HM.out 2).trans rfl
              have m3 := (blk_cell HM.out 3).trans rfl
              have m4 := (blk_cell HM.out 4).trans rfl
              have m5 := (blk_cell HM.out 5).trans rfl
              have ml := blk_lt HM.out
              have d0 := (blk_cell HD.out 0).trans rfl
              have d1 := (blk_cell HD.out 1).trans rfl
              have d2 := (blk_cell HD.out 2).trans rfl
              have dl := blk_lt HD.out
              go_wp2_with fail
              have o1 := HGB.out
              have o2 := HQ2.out
              have o3 := HQ.out
              have p1 := blk_far (p := ⟨g39, k * 3 + 2, none⟩) (blk_far (p := ⟨g39, k * 3 + 1, none⟩) (blk_far (p := ⟨g39, k * 3, none⟩) HS.out (show q ≠ g39 by omega) (.int .i64 z.f0)) (show q ≠ g39 by omega) (.int .i64 z.f1)) (show q ≠ g39 by omega) (.bool z.f2)
              have p2 := blk_far (p := ⟨g39, k * 3 + 2, none⟩) (blk_far (p := ⟨g39, k * 3 + 1, none⟩) (blk_far (p := ⟨g39, k * 3, none⟩) HM.out (show M ≠ g39 by omega) (.int .i64 z.f0)) (show M ≠ g39 by omega) (.int .i64 z.f1)) (show M ≠ g39 by omega) (.bool z.f2)
              have p3 := own_put3 (enc := encS) (fun _ => rfl) (mixS_len f D.spots k) HO.out hlt (x := f y) (c0 := (.int .i64 z.f0)) (c1 := (.int .i64 z.f1)) (c2 := (.bool z.f2)) (by rw [hfy.out]; rfl)
              have hms := mixS_succ f D.spots k hlt
              rw [HY.out] at hms
              rw [hms] at p3
              have p4 := below_set (j := k * 3 + 2) (v := (.bool z.f2)) (below_set (j := k * 3 + 1) (v := (.int .i64 z.f1)) (below_set (j := k * 3) (v := (.int .i64 z.f0)) HB.out (show w.heap.size ≤ g39 by omega)) (show w.heap.size ≤ g39 by omega)) (show w.heap.size ≤ g39 by omega)
              go_roundw
              case rel => exact ⟨k + 1, by omega, by go_num, ⟨p1⟩, ⟨p2⟩, ⟨p3⟩, ⟨p4⟩⟩
              case measure => simp [intOf]; omega
      · obtain rfl : k = D.spots.length := by omega
        have m0 := (blk_cell HM.out 0).trans rfl
        have m1 := (blk_cell HM.out 1).trans rfl
        have m2 := (blk_cell HM.out 2).trans rfl
        have m3 := (blk_cell HM.out 3).trans rfl
        have m4 := (blk_cell HM.out 4).trans rfl
        have m5 := (blk_cell HM.out 5).trans rfl
        have ml := blk_lt HM.out
        have k0 := (blk_cell HS.out 0).trans rfl
        have k1 := (blk_cell HS.out 1).trans rfl
        have k2 := (blk_cell HS.out 2).trans rfl
        have k3 := (blk_cell HS.out 3).trans rfl
        have k4 := (blk_cell HS.out 4).trans rfl
        have k5 := (blk_cell HS.out 5).trans rfl
        have kl := blk_lt HS.out
        go_wp2_with fail
        clear m0 m1 m2 m3 m4 m5 ml
        clear k0 k1 k2 k3 k4 k5 kl
        have hrow := HO.out
        rw [mixS_all] at hrow
        have hC := spots_C (by rw [List.length_map]; exact hrow) (by simp; omega)
        have hcl := own_le HO.out
        obtain ⟨D2, hD2⟩ : ∃ D2, D2 = dm D f := ⟨_, rfl⟩
        have HM2 : Aside0 (wr.heap[M]? = some (.cells #[.string D2.nm, .int .i64 D2.rad, .int .i64 D2.lo, .int .i64 D2.hi, .slice (some ⟨g39, 0, none⟩) D2.spots.length c39, .slice A5 D2.told.length c5] 27 (0, 0))) := ⟨by rw [hD2]; simp only [List.length_map]; exact HM.out⟩
        have HA1 : Aside0 (Arg wr D2 (some ⟨g39, 0, none⟩) c39 A5 c5) := ⟨by rw [hD2]; exact ⟨HA.out.nm, hC, by simp only [List.length_map]; exact hcl, (HA.out.below HB.out).t, HA.out.tc⟩⟩
        clear HM hrow hC hcl HO
        have HM := HM2
        clear HM2
        obtain ⟨en, hen⟩ : ∃ en, enterE D [] = en := ⟨_, rfl⟩
        obtain ⟨⟨a1, b1⟩, hs1⟩ : ∃ s, spanF D (fun _ g => manyF g) = s := ⟨_, rfl⟩
        obtain ⟨⟨a2, b2⟩, hs2⟩ : ∃ s, spanF D (fun _ g => spotsTo g 7) = s := ⟨_, rfl⟩
        obtain ⟨⟨a3, b3⟩, hs3⟩ : ∃ s, spanF D (fun _ g => 10 * manyF g + spotsTo g 7) = s := ⟨_, rfl⟩
        obtain ⟨⟨r1, r2, r3, r4⟩, hak⟩ : ∃ s, askF D = s := ⟨_, rfl⟩
        obtain ⟨⟨wl, we⟩, hwr⟩ : ∃ s, wrongF D = s := ⟨_, rfl⟩
        have EN : Aside0 (enterE D2 [] = en) := ⟨by rw [hD2, enter_map HMV.out, hen]⟩
        have E1 : Aside0 (spanF D2 (fun _ g => manyF g) = (a1, b1)) := ⟨by rw [hD2, span_map HMV.out, hs1]⟩
        have E2 : Aside0 (spanF D2 (fun _ g => spotsTo g 7) = (a2, b2)) := ⟨by rw [hD2, span_map HMV.out, hs2]⟩
        have E3 : Aside0 (spanF D2 (fun _ g => 10 * manyF g + spotsTo g 7) = (a3, b3)) := ⟨by rw [hD2, span_map HMV.out, hs3]⟩
        have EA : Aside0 (askF D2 = (r1, r2, r3, r4)) := ⟨by rw [hD2, ask_map HMV.out, hak]⟩
        have EW : Aside0 (wrongF D2 = (wl, we)) := ⟨by rw [hD2, wrong_map HMV.out, hwr]⟩
        have HN := Aside0.mk hen
        have H1 := Aside0.mk hs1
        have H2 := Aside0.mk hs2
        have H3 := Aside0.mk hs3
        have HAK := Aside0.mk hak
        have HWR := Aside0.mk hwr
        clear hen hs1 hs2 hs3 hak hwr hD2
        refine (Counts_calls D A4 c4 A5 c5 wr (HA.out.below HB.out)).mono ?_
        rw [HN.out, H1.out, H2.out]
        rintro e v1 ⟨rfl, hb⟩
        replace HA1 := Aside0.mk (HA1.out.below hb)
        replace HB := Aside0.mk (HB.out.trans (hb.mono HB.out.size))
        replace HS := Aside0.mk (blk_below HS.out hb)
        replace HM := Aside0.mk (blk_below HM.out hb)
        clear hb
        go_upto_region 17 with (fail)
        have hb : Below v1.heap.size v1 ((v1.alloc (.cells #[.int .i64 a1, .int .i64 b1] 23)).alloc (.cells #[.int .i64 a2, .int .i64 b2] 23)) := (below_alloc (below_alloc (Below.refl _ _) _) _)
        have n0 : Aside0 (((v1.alloc (.cells #[.int .i64 a1, .int .i64 b1] 23)).alloc (.cells #[.int .i64 a2, .int .i64 b2] 23)).heap[v1.heap.size]? = some (.cells #[.int .i64 a1, .int .i64 b1] 23 (0, 0))) := ⟨blk_alloc (blk_new _ _) _⟩
        have n1 : Aside0 (((v1.alloc (.cells #[.int .i64 a1, .int .i64 b1] 23)).alloc (.cells #[.int .i64 a2, .int .i64 b2] 23)).heap[v1.heap.size + 1]? = some (.cells #[.int .i64 a2, .int .i64 b2] 23 (0, 0))) := ⟨new_at (by simp) _⟩
        replace HA1 := Aside0.mk (HA1.out.below hb)
        replace HB := Aside0.mk (HB.out.trans (hb.mono HB.out.size))
        replace HS := Aside0.mk (blk_below HS.out hb)
        replace HM := Aside0.mk (blk_below HM.out hb)
        clear hb
        generalize ((v1.alloc (.cells #[.int .i64 a1, .int .i64 b1] 23)).alloc (.cells #[.int .i64 a2, .int .i64 b2] 23)) = v2 at HA1 HB HS HM n0 n1 ⊢
        obtain ⟨P, hP⟩ : ∃ b, v1.heap.size = b := ⟨_, rfl⟩
        rw [hP] at n0 n1 ⊢
        clear hP
        have HP0 := n0
        have HP1 := n1
        clear n0 n1
        have k0 := (blk_cell HM.out 0).trans rfl
        have k1 := (blk_cell HM.out 1).trans rfl
        have k2 := (blk_cell HM.out 2).trans rfl
        have k3 := (blk_cell HM.out 3).trans rfl
        have k4 := (blk_cell HM.out 4).trans rfl
        have k5 := (blk_cell HM.out 5).trans rfl
        have kl := blk_lt HM.out
        go_wp2_with fail
        clear k0 k1 k2 k3 k4 k5 kl
        refine (Counts_calls D2 (some ⟨g39, 0, none⟩) c39 A5 c5 v2 HA1.out).mono ?_
        rw [EN.out, E1.out, E2.out]
        rintro e v3 ⟨rfl, hb⟩
        replace HA1 := Aside0.mk (HA1.out.below hb)
        replace HB := Aside0.mk (HB.out.trans (hb.mono HB.out.size))
        replace HS := Aside0.mk (blk_below HS.out hb)
        replace HM := Aside0.mk (blk_below HM.out hb)
        replace HP0 := Aside0.mk (blk_below HP0.out hb)
        replace HP1 := Aside0.mk (blk_below HP1.out hb)
        clear hb
        go_upto_region 18 with (fail)
        have hb : Below v3.heap.size v3 ((v3.alloc (.cells #[.int .i64 a1, .int .i64 b1] 23)).alloc (.cells #[.int .i64 a2, .int .i64 b2] 23)) := (below_alloc (below_alloc (Below.refl _ _) _) _)
        have n0 : Aside0 (((v3.alloc (.cells #[.int .i64 a1, .int .i64 b1] 23)).alloc (.cells #[.int .i64 a2, .int .i64 b2] 23)).heap[v3.heap.size]? = some (.cells #[.int .i64 a1, .int .i64 b1] 23 (0, 0))) := ⟨blk_alloc (blk_new _ _) _⟩
        have n1 : Aside0 (((v3.alloc (.cells #[.int .i64 a1, .int .i64 b1] 23)).alloc (.cells #[.int .i64 a2, .int .i64 b2] 23)).heap[v3.heap.size + 1]? = some (.cells #[.int .i64 a2, .int .i64 b2] 23 (0, 0))) := ⟨new_at (by simp) _⟩
        replace HA1 := Aside0.mk (HA1.out.below hb)
        replace HB := Aside0.mk (HB.out.trans (hb.mono HB.out.size))
        replace HS := Aside0.mk (blk_below HS.out hb)
        replace HM := Aside0.mk (blk_below HM.out hb)
        replace HP0 := Aside0.mk (blk_below HP0.out hb)
        replace HP1 := Aside0.mk (blk_below HP1.out hb)
        clear hb
        generalize ((v3.alloc (.cells #[.int .i64 a1, .int .i64 b1] 23)).alloc (.cells #[.int .i64 a2, .int .i64 b2] 23)) = v4 at HA1 HB HS HM HP0 HP1 n0 n1 ⊢
        obtain ⟨R, hR⟩ : ∃ b, v3.heap.size = b := ⟨_, rfl⟩
        rw [hR] at n0 n1 ⊢
        clear hR
        have HR0 := n0
        have HR1 := n1
        clear n0 n1
        have k0 := (blk_cell HS.out 0).trans rfl
        have k1 := (blk_cell HS.out 1).trans rfl
        have k2 := (blk_cell HS.out 2).trans rfl
        have k3 := (blk_cell HS.out 3).trans rfl
        have k4 := (blk_cell HS.out 4).trans rfl
        have k5 := (blk_cell HS.out 5).trans rfl
        have kl := blk_lt HS.out
        go_wp2_with fail
        clear k0 k1 k2 k3 k4 k5 kl
        refine (Number_calls D A4 c4 A5 c5 v4 (HA.out.below HB.out)).mono ?_
        rw [HN.out, H3.out]
        rintro e v5 ⟨rfl, hb⟩
        replace HA1 := Aside0.mk (HA1.out.below hb)
        replace HB := Aside0.mk (HB.out.trans (hb.mono HB.out.size))
        replace HS := Aside0.mk (blk_below HS.out hb)
        replace HM := Aside0.mk (blk_below HM.out hb)
        replace HP0 := Aside0.mk (blk_below HP0.out hb)
        replace HP1 := Aside0.mk (blk_below HP1.out hb)
        replace HR0 := Aside0.mk (blk_below HR0.out hb)
        replace HR1 := Aside0.mk (blk_below HR1.out hb)
        clear hb
        go_upto_region 19 with (fail)
        have hb : Below v5.heap.size v5 (v5.alloc (.cells #[.int .i64 a3, .int .i64 b3] 23)) := (below_alloc (Below.refl _ _) _)
        have n0 : Aside0 ((v5.alloc (.cells #[.int .i64 a3, .int .i64 b3] 23)).heap[v5.heap.size]? = some (.cells #[.int .i64 a3, .int .i64 b3] 23 (0, 0))) := ⟨blk_new _ _⟩
        replace HA1 := Aside0.mk (HA1.out.below hb)
        replace HB := Aside0.mk (HB.out.trans (hb.mono HB.out.size))
        replace HS := Aside0.mk (blk_below HS.out hb)
        replace HM := Aside0.mk (blk_below HM.out hb)
        replace HP0 := Aside0.mk (blk_below HP0.out hb)
        replace HP1 := Aside0.mk (blk_below HP1.out hb)
        replace HR0 := Aside0.mk (blk_below HR0.out hb)
        replace HR1 := Aside0.mk (blk_below HR1.out hb)
        clear hb
        generalize (v5.alloc (.cells #[.int .i64 a3, .int .i64 b3] 23)) = v6 at HA1 HB HS HM HP0 HP1 HR0 HR1 n0 ⊢
        obtain ⟨T, hT⟩ : ∃ b, v5.heap.size = b := ⟨_, rfl⟩
        rw [hT] at n0 ⊢
        clear hT
        have HT0 := n0
        clear n0
        have k0 := (blk_cell HM.out 0).trans rfl
        have k1 := (blk_cell HM.out 1).trans rfl
        have k2 := (blk_cell HM.out 2).trans rfl
        have k3 := (blk_cell HM.out 3).trans rfl
        have k4 := (blk_cell HM.out 4).trans rfl
        have k5 := (blk_cell HM.out 5).trans rfl
        have kl := blk_lt HM.out
        go_wp2_with fail
        clear k0 k1 k2 k3 k4 k5 kl
        refine (Number_calls D2 (some ⟨g39, 0, none⟩) c39 A5 c5 v6 HA1.out).mono ?_
        rw [EN.out, E3.out]
        rintro e v7 ⟨rfl, hb⟩
        replace HA1 := Aside0.mk (HA1.out.below hb)
        replace HB := Aside0.mk (HB.out.trans (hb.mono HB.out.size))
        replace HS := Aside0.mk (blk_below HS.out hb)
        replace HM := Aside0.mk (blk_below HM.out hb)
        replace HP0 := Aside0.mk (blk_below HP0.out hb)
        replace HP1 := Aside0.mk (blk_below HP1.out hb)
        replace HR0 := Aside0.mk (blk_below HR0.out hb)
        replace HR1 := Aside0.mk (blk_below HR1.out hb)
        replace HT0 := Aside0.mk (blk_below HT0.out hb)
        clear hb
        go_upto_region 20 with (fail)
        have hb : Below v7.heap.size v7 (v7.alloc (.cells #[.int .i64 a3, .int .i64 b3] 23)) := (below_alloc (Below.refl _ _) _)
        have n0 : Aside0 ((v7.alloc (.cells #[.int .i64 a3, .int .i64 b3] 23)).heap[v7.heap.size]? = some (.cells #[.int .i64 a3, .int .i64 b3] 23 (0, 0))) := ⟨blk_new _ _⟩
        replace HA1 := Aside0.mk (HA1.out.below hb)
        replace HB := Aside0.mk (HB.out.trans (hb.mono HB.out.size))
        replace HS := Aside0.mk (blk_below HS.out hb)
        replace HM := Aside0.mk (blk_below HM.out hb)
        replace HP0 := Aside0.mk (blk_below HP0.out hb)
        replace HP1 := Aside0.mk (blk_below HP1.out hb)
        replace HR0 := Aside0.mk (blk_below HR0.out hb)
        replace HR1 := Aside0.mk (blk_below HR1.out hb)
        replace HT0 := Aside0.mk (blk_below HT0.out hb)
        clear hb
        generalize (v7.alloc (.cells #[.int .i64 a3, .int .i64 b3] 23)) = v8 at HA1 HB HS HM HP0 HP1 HR0 HR1 HT0 n0 ⊢
        obtain ⟨U, hU⟩ : ∃ b, v7.heap.size = b := ⟨_, rfl⟩
        rw [hU] at n0 ⊢
        clear hU
        have HU0 := n0
        clear n0
        have k0 := (blk_cell HS.out 0).trans rfl
        have k1 := (blk_cell HS.out 1).trans rfl
        have k2 := (blk_cell HS.out 2).trans rfl
        have k3 := (blk_cell HS.out 3).trans rfl
        have k4 := (blk_cell HS.out 4).trans rfl
        have k5 := (blk_cell HS.out 5).trans rfl
        have kl := blk_lt HS.out
        go_wp2_with fail
        clear k0 k1 k2 k3 k4 k5 kl
        refine (Ask_calls D A4 c4 A5 c5 v8 (HA.out.below HB.out)).mono ?_
        rw [HAK.out]
        rintro e v9 ⟨rfl, hb⟩
        replace HA1 := Aside0.mk (HA1.out.below hb)
        replace HB := Aside0.mk (HB.out.trans (hb.mono HB.out.size))
        replace HS := Aside0.mk (blk_below HS.out hb)
        replace HM := Aside0.mk (blk_below HM.out hb)
        replace HP0 := Aside0.mk (blk_below HP0.out hb)
        replace HP1 := Aside0.mk (blk_below HP1.out hb)
        replace HR0 := Aside0.mk (blk_below HR0.out hb)
        replace HR1 := Aside0.mk (blk_below HR1.out hb)
        replace HT0 := Aside0.mk (blk_below HT0.out hb)
        replace HU0 := Aside0.mk (blk_below HU0.out hb)
        clear hb
        go_upto_region 21 with (fail)
        have k0 := (blk_cell HM.out 0).trans rfl
        have k1 := (blk_cell HM.out 1).trans rfl
        have k2 := (blk_cell HM.out 2).trans rfl
        have k3 := (blk_cell HM.out 3).trans rfl
        have k4 := (blk_cell HM.out 4).trans rfl
        have k5 := (blk_cell HM.out 5).trans rfl
        have kl := blk_lt HM.out
        go_wp2_with fail
        clear k0 k1 k2 k3 k4 k5 kl
        refine (Ask_calls D2 (some ⟨g39, 0, none⟩) c39 A5 c5 v9 HA1.out).mono ?_
        rw [EA.out]
        rintro e v10 ⟨rfl, hb⟩
        replace HA1 := Aside0.mk (HA1.out.below hb)
        replace HB := Aside0.mk (HB.out.trans (hb.mono HB.out.size))
        replace HS := Aside0.mk (blk_below HS.out hb)
        replace HM := Aside0.mk (blk_below HM.out hb)
        replace HP0 := Aside0.mk (blk_below HP0.out hb)
        replace HP1 := Aside0.mk (blk_below HP1.out hb)
        replace HR0 := Aside0.mk (blk_below HR0.out hb)
        replace HR1 := Aside0.mk (blk_below HR1.out hb)
        replace HT0 := Aside0.mk (blk_below HT0.out hb)
        replace HU0 := Aside0.mk (blk_below HU0.out hb)
        clear hb
        go_upto_region 22 with (fail)
        have k0 := (blk_cell HS.out 0).trans rfl
        have k1 := (blk_cell HS.out 1).trans rfl
        have k2 := (blk_cell HS.out 2).trans rfl
        have k3 := (blk_cell HS.out 3).trans rfl
        have k4 := (blk_cell HS.out 4).trans rfl
        have k5 := (blk_cell HS.out 5).trans rfl
        have kl := blk_lt HS.out
        go_wp2_with fail
        clear k0 k1 k2 k3 k4 k5 kl
        refine (Wrong_calls D A4 c4 A5 c5 v10 (HA.out.below HB.out)).mono ?_
        rw [HWR.out]
        rintro e v11 ⟨⟨vw, rfl, hn⟩, hb⟩
        replace HA1 := Aside0.mk (HA1.out.below hb)
        replace HB := Aside0.mk (HB.out.trans (hb.mono HB.out.size))
        replace HS := Aside0.mk (blk_below HS.out hb)
        replace HM := Aside0.mk (blk_below HM.out hb)
        replace HP0 := Aside0.mk (blk_below HP0.out hb)
        replace HP1 := Aside0.mk (blk_below HP1.out hb)
        replace HR0 := Aside0.mk (blk_below HR0.out hb)
        replace HR1 := Aside0.mk (blk_below HR1.out hb)
        replace HT0 := Aside0.mk (blk_below HT0.out hb)
        replace HU0 := Aside0.mk (blk_below HU0.out hb)
        clear hb
        obtain ⟨A8, c8, rfl, hl8, hC8⟩ := hn.shape
        have HC8 := Aside0.mk hC8
        clear hn hC8
        go_upto_region 23 with (fail)
        have k0 := (blk_cell HM.out 0).trans rfl
        have k1 := (blk_cell HM.out 1).trans rfl
        have k2 := (blk_cell HM.out 2).trans rfl
        have k3 := (blk_cell HM.out 3).trans rfl
        have k4 := (blk_cell HM.out 4).trans rfl
        have k5 := (blk_cell HM.out 5).trans rfl
        have kl := blk_lt HM.out
        go_wp2_with fail
        clear k0 k1 k2 k3 k4 k5 kl
        refine (Wrong_calls D2 (some ⟨g39, 0, none⟩) c39 A5 c5 v11 HA1.out).mono ?_
        rw [EW.out]
        rintro e v12 ⟨⟨vw, rfl, hn⟩, hb⟩
        replace HC8 : Aside0 (Kd.C (Kd.int .i64) v12 A8 (ints wl).length (ints wl)) := ⟨by rw [show (ints wl).length = wl.length by simp]; exact Kd.C_below HC8.out hb⟩
        replace HB := Aside0.mk (HB.out.trans (hb.mono HB.out.size))
        replace HP0 := Aside0.mk (blk_below HP0.out hb)
        replace HP1 := Aside0.mk (blk_below HP1.out hb)
        replace HR0 := Aside0.mk (blk_below HR0.out hb)
        replace HR1 := Aside0.mk (blk_below HR1.out hb)
        replace HT0 := Aside0.mk (blk_below HT0.out hb)
        replace HU0 := Aside0.mk (blk_below HU0.out hb)
        clear hb
        obtain ⟨A9, c9, rfl, hl9, hC9⟩ := hn.shape
        have HC9 := Aside0.mk hC9
        clear hn hC9 HS HM HA1
        go_upto_region 24 with (fail)
        have p0 := (blk_cell HP0.out 0).trans rfl
        have p1 := (blk_cell HP0.out 1).trans rfl
        have pl := blk_lt HP0.out
        have s0 := (blk_cell HP1.out 0).trans rfl
        have s1 := (blk_cell HP1.out 1).trans rfl
        have sl := blk_lt HP1.out
        have r0 := (blk_cell HR0.out 0).trans rfl
        have r1 := (blk_cell HR0.out 1).trans rfl
        have rl := blk_lt HR0.out
        have m0 := (blk_cell HR1.out 0).trans rfl
        have m1 := (blk_cell HR1.out 1).trans rfl
        have ml := blk_lt HR1.out
        have t0 := (blk_cell HT0.out 0).trans rfl
        have t1 := (blk_cell HT0.out 1).trans rfl
        have tl := blk_lt HT0.out
        have u0 := (blk_cell HU0.out 0).trans rfl
        have u1 := (blk_cell HU0.out 1).trans rfl
        have ul := blk_lt HU0.out
        go_wp2_with fail
        refine (Ints_calls (ints wl) (ints wl) A8 A9 wl.length wl.length c8 c9 v12 (by simp) (by simp) (by have := HC8.out; rw [show (ints wl).length = wl.length by simp] at this; exact this) HC9.out).mono ?_
        rw [beq_self_eq_true]
        rintro e v13 ⟨rfl, hch⟩
        have hb := hch.below (B := v12.heap.size) (fun _ _ x => x.elim) (Nat.le_refl _)
        clear hch
        replace HB := Aside0.mk (HB.out.trans (hb.mono HB.out.size))
        clear hb
        go_wp2_with fail
        refine (Awake_calls _).mono ?_
        rintro e wA ⟨rfl, hb⟩
        replace HB := Aside0.mk (HB.out.trans (hb.mono HB.out.size))
        clear hb
        go_wp2
        go_ret
        exact ⟨rfl, HB.out⟩
  · rw [decide_eq_false hc]
    clear hc
    go_wp2_with fail
    refine (Awake_calls _).mono ?_
    rintro e wA ⟨rfl, hb⟩
    replace HB := Aside0.mk (HB.out.trans (hb.mono HB.out.size))
    clear hb
    go_wp2
    go_ret
    exact ⟨rfl, HB.out⟩
end Go.Proofs.Ytemeapfnfegkiaa.D
end
