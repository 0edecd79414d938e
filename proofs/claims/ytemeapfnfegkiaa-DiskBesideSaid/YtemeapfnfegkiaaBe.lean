/- Contracts of the functions that this claim reaches, with the words for them: pruned and packed by wip/tools/prune.py. -/
import Derived.Test.YtemeapfnfegkiaaUd
import Derived.Below
import Derived.Deep.Draws
import Derived.Deep.AppendLies
import Derived.Maps.AppendAt
import Derived.OwnWalk
import Derived.Laws.BytesArg
import Derived.Laws.MakeOwn
import Derived.Laws.OwnMore
import Derived.Deep.OwnRows
import Derived.Tactics
import Derived.Lib.ConvBytes
import Derived.Laws.Slices
import Derived.WalkKit
import Derived.KernelRfl
import Derived.RowKit3
import Derived.Deep.LoopGhost
import Derived.Deep.QuietTactic
import Derived.BigQuiet
import Derived.WideLaws
import Derived.Deep.DeepCutAuto
import Derived.Deep.CutBlock
import Derived.Deep.RegionHeld3
import Derived.Laws.Rows
import Derived.Lib.AppendStr
import Derived.ArgAppend
import Derived.Laws.IdiomCopy
import Derived.RowKit
section
set_option linter.unusedVariables false
set_option linter.unusedSimpArgs false
namespace Go.Proofs.YtemeapfnfegkiaaW.PrintWords
open Go.RowKit

section
variable {P : Program} {ops : Array Oper} {rest : List Oper} {o : Oper} {a : Act} {Q : Exit → Act → World → Prop}

end

section
variable {P : Program}
end
section
variable {P : Program} {ops : Array Oper} {rest : List Oper} {o : Oper} {a : Act} {Q : Exit → Act → World → Prop}
end

def bytesOf (s : ByteArray) : List Int := s.data.toList.map fun b => (b.toNat : Int)
section
variable {P : Program} {ops : Array Oper} {rest : List Oper} {o : Oper} {a : Act} {Q : Exit → Act → World → Prop}
end

section
variable {P : Program} {ops : Array Oper} {o : Oper} {a : Act} {Q : Exit → Act → World → Prop} {K : Act → World → Prop}
end
section
variable {α : Type} {enc : α → Value} {d : α}
end
section
variable {α : Type} {P : Program} {ops : Array Oper} {rest : List Oper} {o : Oper} {a : Act} {Q : Exit → Act → World → Prop}
end

section
variable {P : Program}
end
section
variable {α : Type} {R R' : α → List Value → Prop} {e : TypeId} {size : Nat} {w w1 : World} {base : Nat} {v : Value} {ps : List α}
end
section
variable {P : Program} {ops : Array Oper} {rest : List Oper} {o : Oper} {a : Act} {Q : Exit → Act → World → Prop} {α : Type} {R : α → List Value → Prop}
end
section
variable {P : Program} {ops : Array Oper} {o : Oper} {a : Act} {Q : Exit → Act → World → Prop} {K : Act → World → Prop} {α : Type} {R : α → List Value → Prop}
end
section
variable {α : Type} {P : Program}
end

section
variable {P : Program} {ops : Array Oper} {rest : List Oper} {o : Oper} {a : Act} {Q : Exit → Act → World → Prop}
end
namespace Kd
section
variable {α : Type} {d : Kd α} {e : Nat} {w w1 : World} {base : Nat} {ok ok' : Nat → Prop} {v : Value} {xs : List α}
end

section
variable {P : Program} {ops : Array Oper} {rest : List Oper} {o : Oper} {a : Act} {Q : Exit → Act → World → Prop} {α : Type}
end
section
variable {P : Program} {ops : Array Oper} {o : Oper} {a : Act} {Q : Exit → Act → World → Prop} {Kc : Act → World → Prop} {α : Type}
end
end Kd
namespace Kd
section
variable {α : Type} {F : Kd α → Kd α} {sz : Nat} {E : List Nat} {hs : ∀ n, (upto F sz E n).sz = sz} {hE : ∀ n q, q ∈ (upto F sz E n).E → q ∈ E}
end
end Kd
namespace Kd
end Kd
namespace Kd
section
variable {α β : Type} {d : Kd α} {d' : Kd β} {e e' : Nat} {w w1 W : World} {base b b' : Nat} {ok ok' okv oku : Nat → Prop} {v u : Value} {xs : List α} {ys : List β}
end
section
variable {w W : World} {A : Option Addr} {n : Nat}
variable {α : Type} {enc : α → Value} {h1 : ∀ x, (enc x).oneCell' = true} {e base g cap : Nat} {ok : Nat → Prop} {xs : List α}
end

section
variable {P : Program} {ops : Array Oper} {rest : List Oper} {o : Oper} {a : Act} {Q : Exit → Act → World → Prop}
variable {α : Type}
end
end Kd
section
variable {P : Program}
end
section
variable {w w1 : World} {base n size : Nat} {e : TypeId} {v : Value} {xs : List Value}
end
section
variable {P : Program}
end
namespace Kd
section
variable {α : Type} {d : Kd α} {e : Nat} {w w1 W : World} {base : Nat} {ok ok' : Nat → Prop} {v : Value} {xs : List α}
end
section
variable {P : Program} {ops : Array Oper} {rest : List Oper} {o : Oper} {a : Act} {Q' : Exit → Act → World → Prop} {Kc : Act → World → Prop} {α : Type}
end
end Kd
namespace Kd
section
variable {α : Type} {d : Kd α} {e e' : Nat} {w w1 W : World} {base : Nat} {ok : Nat → Prop} {u v : Value} {xs : List α}
end
end Kd
namespace Kd
section
variable {α : Type} {d : Kd α} {e base g n cap : Nat} {ok okp : Nat → Prop} {W : World} {xs : List α}
end
end Kd
namespace Kd
section
variable {α : Type} {F : Kd α → Kd α} {sz : Nat} {E : List Nat} {hs : ∀ n, (upto F sz E n).sz = sz} {hE : ∀ n q, q ∈ (upto F sz E n).E → q ∈ E}
end
end Kd
namespace Kd
section
variable {P : Program} {ops : Array Oper} {rest : List Oper} {o : Oper} {a : Act} {Q : Exit → Act → World → Prop} {α : Type}
end
end Kd
namespace Kd
section
variable {P : Program} {ops : Array Oper} {rest : List Oper} {o : Oper} {a : Act} {Q : Exit → Act → World → Prop} {α : Type}
end
end Kd
namespace Kd
section
variable {α : Type} {k : Kd α} {w : World} {A : Option Addr} {xs : List α} {m c : Nat}
end
end Kd
section
variable {P : Program}
end
namespace Kd
section
variable {α β : Type} {d : Kd α} {d' : Kd β} {e e' base base' n : Nat} {ok ok' : Nat → Prop} {w W w1 W1 : World} {v u : Value} {xs : List α} {ys : List β} {A : Option Addr} {c : Nat}
end
section
variable {α : Type} {enc : α → Value} {h1 : ∀ x, (enc x).oneCell' = true} {w W : World} {A : Option Addr} {n g : Nat} {xs : List α}
end
end Kd
namespace Kd
section
variable {α : Type} {d : Kd α} {e base g : Nat} {ok : Nat → Prop} {w w1 : World} {v : Value} {xs : List α} {o : Obj}
end
end Kd
section
variable {P : Program} {ops : Array Oper} {rest : List Oper} {o : Oper} {a : Act} {Q : Exit → Act → World → Prop}
end
namespace Kd
section
variable {α : Type} {enc : α → Value} {h1 : ∀ x, (enc x).oneCell' = true} {e base g n cap : Nat} {ok : Nat → Prop} {W : World} {xs : List α}
end
end Kd
section
variable {P : Program} {ops : Array Oper} {rest : List Oper} {o : Oper} {a : Act} {Q : Exit → Act → World → Prop}
end
namespace Kd
section
variable {α : Type} {enc : α → Value} {h1 : ∀ x, (enc x).oneCell' = true} {e base g n cap : Nat} {ok : Nat → Prop} {W : World} {xs : List α}
end
end Kd
section
variable {P : Program} {ops : Array Oper} {rest : List Oper} {o : Oper} {a : Act} {Q : Exit → Act → World → Prop} {W : World}
end
section
variable {P : Program} {ops : Array Oper} {o : Oper} {a : Act} {Q : Exit → Act → World → Prop} {Kc : Act → World → Prop}
namespace Kd
variable {α : Type}
end Kd
end
section
variable {P : Program} {tmps : Array Value} {w : World}
end
namespace Kd
section
variable {P : Program} {α : Type}
end
section
variable {P : Program} {ops : Array Oper} {rest : List Oper} {o : Oper} {a : Act} {Q : Exit → Act → World → Prop} {Kc : Act → World → Prop} {α : Type}
end
end Kd

end Go.Proofs.YtemeapfnfegkiaaW.PrintWords
end
section
/- Package disk: the truths, in the reference's order and in the program's. -/
namespace Go.Proofs.Ytemeapfnfegkiaa.D
open Go Go.RowKit Go.Proofs.YtemeapfnfegkiaaK Go.Proofs.YtemeapfnfegkiaaW.PrintWords Go.Proofs.YtemeapfnfegkiaaW.PrintLast Go.Proofs.YtemeapfnfegkiaaW.PrintMore Go.Proofs.Ytemeapfnfegkiaa.PR
set_option linter.unusedVariables false
set_option linter.unusedSimpArgs false

theorem G_nonneg {D : Dat} (hV : Valid D) (near : Int) (set : Nat) (x : Nat) : 0 ≤ G D near set x := ((G_spec D near set hV.n7).low x).1

structure Fits (D : Dat) : Prop where
  nm : D.nm.size ≤ 9223372036854775807
  s : D.spots.length ≤ 9223372036854775807
  t : D.told.length ≤ 9223372036854775807
theorem Arg.fits {w : World} {D : Dat} {A4 : Option Addr} {c4 : Nat} {A5 : Option Addr} {c5 : Nat} (h : Arg w D A4 c4 A5 c5) : Fits D := ⟨h.nm, h.s.2.1, h.t.2.1⟩

end Go.Proofs.Ytemeapfnfegkiaa.D
end
section
/- Package disk: the reference's Is and One answer what the program's do. -/
namespace Go.Proofs.Ytemeapfnfegkiaa.D
open Go Go.RowKit Go.Proofs.YtemeapfnfegkiaaK Go.Proofs.YtemeapfnfegkiaaW.PrintWords Go.Proofs.YtemeapfnfegkiaaW.PrintLast Go.Proofs.YtemeapfnfegkiaaW.PrintMore Go.Proofs.Ytemeapfnfegkiaa.PR
set_option linter.unusedVariables false
set_option linter.unusedSimpArgs false

theorem enterE_one (D : Dat) (dot : Int) : enterE D [dot] = if (if (checkF D).2.2 ≠ 0 then (checkF D).2.2 else if outB 0 ((D.spots.length : Int) - 1) [dot, dot] = true then 4 else 0) ≠ 0 then (if (checkF D).2.2 ≠ 0 then (checkF D).2.2 else if outB 0 ((D.spots.length : Int) - 1) [dot, dot] = true then 4 else 0) else if (truthsL D 0).isEmpty = true then 8 else 0 := by
  unfold enterE
  have h1 : outB 0 ((D.spots.length : Int) - 1) [dot, dot] = outB 0 ((D.spots.length : Int) - 1) [dot] := by simp [outB]
  rw [h1]
  generalize (checkF D).2.2 = c
  generalize outB 0 ((D.spots.length : Int) - 1) [dot] = o
  by_cases h : c = 0
  · subst h
    cases o <;> simp
  · simp [h]

end Go.Proofs.Ytemeapfnfegkiaa.D
end
section
/- Package disk: how many groups and spots there are; the least and the greatest of what truths say. -/
namespace Go.Proofs.Ytemeapfnfegkiaa.D
open Go Go.RowKit Go.Proofs.YtemeapfnfegkiaaK Go.Proofs.YtemeapfnfegkiaaW.PrintWords Go.Proofs.YtemeapfnfegkiaaW.PrintLast Go.Proofs.YtemeapfnfegkiaaW.PrintMore Go.Proofs.Ytemeapfnfegkiaa.PR
set_option linter.unusedVariables false
set_option linter.unusedSimpArgs false

theorem RefG.lead {g : Nat → Int} {n : Nat} {R : List Int} (h : RefG g n R) (hg : ∀ x, 0 ≤ g x) (x : Nat) (hx : x < n) : rd R (x : Int) = (x : Int) ↔ leader g x = true := by
  rw [leader_iff]
  by_cases e : g x = 0
  · rw [h.no x hx e, e]; omega
  · obtain ⟨y, h1, h2, h3, h4, h5⟩ := h.yes x hx e
    have h0 := hg x
    rw [h3]
    constructor
    · intro hy
      have : y = x := by omega
      subst this
      exact ⟨by omega, fun k hk hkx => by have := h5 k hkx; omega⟩
    · rintro ⟨_, hk⟩
      have : ¬ y < x := fun hlt => hk y hlt h4
      omega
def spotsG (g : Nat → Int) (n : Nat) : Nat := (List.range n).countP fun k => decide (0 < g k)
theorem spots_eq (g : Nat → Int) (hg : ∀ x, 0 ≤ g x) : ∀ k, spotsTo g k = (spotsG g k : Int)
  | 0 => rfl
  | k + 1 => by
    have ih := spots_eq g hg k
    have h0 := hg k
    unfold spotsTo
    rw [ih]
    unfold spotsG
    rw [List.range_succ, List.countP_append, List.countP_singleton]
    by_cases h : 0 < g k
    · simp only [decide_eq_true h, if_true]; omega
    · simp only [decide_eq_false h, Bool.false_eq_true, if_false]; omega
theorem spotsG_up {g : Nat → Int} {n : Nat} (h : ∀ x, g x ≠ 0 → x < n) : ∀ d, spotsG g (n + d) = spotsG g n
  | 0 => rfl
  | d + 1 => by
    have ih := spotsG_up h d
    unfold spotsG at *
    rw [← Nat.add_assoc, List.range_succ, List.countP_append, ih, List.countP_singleton]
    have : g (n + d) = 0 := Classical.byContradiction fun x => by have := h _ x; omega
    simp [this]
theorem manyF_eq {D : Dat} (hV : Valid D) (near : Int) (set : Nat) : manyF (G D near set) = manyG D near set := by
  have S := G_spec D near set hV.n7
  have h7 := hV.n7
  generalize G D near set = g at S
  generalize manyG D near set = m at S
  have l0 := S.low 0
  have l1 := S.low 1
  have l2 := S.low 2
  have l3 := S.low 3
  have l4 := S.low 4
  have l5 := S.low 5
  have l6 := S.low 6
  have hh : m = 0 ∨ (g 0 = m ∨ g 1 = m ∨ g 2 = m ∨ g 3 = m ∨ g 4 = m ∨ g 5 = m ∨ g 6 = m) := by
    by_cases h : m = 0
    · exact .inl h
    · obtain ⟨x, hx, hv⟩ := S.has m (by omega) (Int.le_refl _)
      right
      have : x = 0 ∨ x = 1 ∨ x = 2 ∨ x = 3 ∨ x = 4 ∨ x = 5 ∨ x = 6 := by omega
      rcases this with rfl | rfl | rfl | rfl | rfl | rfl | rfl <;> simp [hv]
  simp only [manyF, maxL, foldL, List.foldl_cons, List.foldl_nil]
  omega
theorem foldMin : ∀ (xs : List Int) (x : Int), (xs.foldl min x ∈ x :: xs) ∧ ∀ y ∈ x :: xs, xs.foldl min x ≤ y
  | [], x => ⟨by simp, fun y hy => by simp at hy; simp [hy]⟩
  | a :: xs, x => by
    obtain ⟨h1, h2⟩ := foldMin xs (min x a)
    simp only [List.foldl_cons]
    refine ⟨?_, fun y hy => ?_⟩
    · rcases List.mem_cons.1 h1 with h | h
      · rw [h]; rcases Int.le_total x a with q | q
        · rw [Int.min_eq_left q]; simp
        · rw [Int.min_eq_right q]; simp
      · simp [h]
    · have h0 := h2 (min x a) (List.mem_cons_self ..)
      rcases List.mem_cons.1 hy with h | h
      · subst h; omega
      · rcases List.mem_cons.1 h with h | h
        · subst h; omega
        · exact h2 y (List.mem_cons_of_mem _ h)
theorem foldMax : ∀ (xs : List Int) (x : Int), (xs.foldl max x ∈ x :: xs) ∧ ∀ y ∈ x :: xs, y ≤ xs.foldl max x
  | [], x => ⟨by simp, fun y hy => by simp at hy; simp [hy]⟩
  | a :: xs, x => by
    obtain ⟨h1, h2⟩ := foldMax xs (max x a)
    simp only [List.foldl_cons]
    refine ⟨?_, fun y hy => ?_⟩
    · rcases List.mem_cons.1 h1 with h | h
      · rw [h]; rcases Int.le_total x a with q | q
        · rw [Int.max_eq_right q]; simp
        · rw [Int.max_eq_left q]; simp
      · simp [h]
    · have h0 := h2 (max x a) (List.mem_cons_self ..)
      rcases List.mem_cons.1 hy with h | h
      · subst h; omega
      · rcases List.mem_cons.1 h with h | h
        · subst h; omega
        · exact h2 y (List.mem_cons_of_mem _ h)
theorem minL_spec {l : List Int} (h : l ≠ []) : minL l ∈ l ∧ ∀ y ∈ l, minL l ≤ y := by
  cases l with
  | nil => exact absurd rfl h
  | cons x xs => exact foldMin xs x
theorem maxL_spec {l : List Int} (h : l ≠ []) : maxL l ∈ l ∧ ∀ y ∈ l, y ≤ maxL l := by
  cases l with
  | nil => exact absurd rfl h
  | cons x xs => exact foldMax xs x
theorem enterE_none (D : Dat) : enterE D [] = if (checkF D).2.2 ≠ 0 then (checkF D).2.2 else if (truthsL D 0).isEmpty = true then 8 else 0 := by
  unfold enterE
  have h1 : outB 0 ((D.spots.length : Int) - 1) [] = false := rfl
  simp [h1]

end Go.Proofs.Ytemeapfnfegkiaa.D
end
section
namespace Go.Proofs.Ytemeapfnfegkiaa.PR
open Go.RowKit Go.Proofs.YtemeapfnfegkiaaW.PrintWords Go.Proofs.YtemeapfnfegkiaaW.PrintLast Go.Proofs.YtemeapfnfegkiaaW.PrintMore
attribute [local go_sem] max2_int min2_int max_two min_two max_three min_three max_four min_four   -- for this text's walks alone
set_option linter.unusedVariables false
set_option linter.unusedSimpArgs false

def helioscopelaw01_valid.f (k : Nat) (a0_0 : ByteArray) (a0_1 : Int) (a0_2 : Int) (a0_3 : Int) (l0_4 : List (S80)) (l0_5 : List (S52)) : Option (Bool) := (helioscoperef01_Check.f k a0_0 a0_1 a0_2 a0_3 l0_4 l0_5).bind fun bt361 => (some (bt361.2.2 == 0))
set_option maxHeartbeats 8000000 in
set_option maxRecDepth 100000 in
theorem helioscopelaw01_valid.calls (k : Nat) (a0_0 : ByteArray) (a0_1 : Int) (a0_2 : Int) (a0_3 : Int) (A0_4 : Option Addr) (c0_4 : Nat) (l0_4 : List (S80)) (A0_5 : Option Addr) (c0_5 : Nat) (l0_5 : List (S52)) (r : Bool) (w : World) (hr0_4 : Kd.C k80 w A0_4 l0_4.length l0_4) (hc0_4 : l0_4.length ≤ c0_4) (hr0_5 : Kd.C k52 w A0_5 l0_5.length l0_5) (hc0_5 : l0_5.length ≤ c0_5) (h : helioscopelaw01_valid.f k a0_0 a0_1 a0_2 a0_3 l0_4 l0_5 = some r) :
  Calls Try.prog 41 #[.agg #[.string a0_0, .int .i64 a0_1, .int .i64 a0_2, .int .i64 a0_3, .slice A0_4 l0_4.length c0_4, .slice A0_5 l0_5.length c0_5]] w fun e w' => e = .returned (.bool r) ∧ Below w.heap.size w w' := by
 have hu27 := Try.underlying27
 have HR0_4 := Aside0.mk hr0_4
 have HC0_4 := Aside0.mk hc0_4
 clear hr0_4 hc0_4
 have HR0_5 := Aside0.mk hr0_5
 have HC0_5 := Aside0.mk hc0_5
 clear hr0_5 hc0_5
 have HB := Aside0.mk (Below.refl w.heap.size w)
 have H : ((helioscoperef01_Check.f k a0_0 a0_1 a0_2 a0_3 l0_4 l0_5).bind fun bt361 => (some (bt361.2.2 == 0))) = some r := h
 clear h
 replace H := Option.bind_eq_some_iff.mp H
 obtain ⟨⟨t361, t362, t363⟩, A20, H⟩ := H
 replace H : (some (t363 == 0)) = some r := H
 have A2 := Aside0.mk A20
 clear A20
 obtain rfl := Option.some.inj H
 go_enter Try.func41, Try.ntmps41
 go_wp2_with (first | ((with_reducible refine gate_dst (N := 1) rfl ?_); refine box_event ?hg (N := 1) ?hd (cs := #[.string a0_0, .int .i64 a0_1, .int .i64 a0_2, .int .i64 a0_3, .slice A0_4 l0_4.length c0_4, .slice A0_5 l0_5.length c0_5]) (t := 27) ?hr ?_; (case hd => rfl); (case hg => rfl); (case hr => first | (go_simp; done) | (go_simp; rfl)); intro gb360 hg w3 hbox hb; have n0_ := Aside0.mk (below_step (by repeat (first | (with_reducible first | exact HB.out | apply below_alloc | apply pw_below_drewN | apply below_drew1) | exact HB.out)) hb); have n1_ := Aside0.mk (hbox); have n2_ := Aside0.mk ((by rw [hg]; exact (below_size (by repeat (first | (with_reducible first | exact HB.out | apply below_alloc | apply pw_below_drewN | apply below_drew1) | exact HB.out))) : w.heap.size ≤ gb360)); have n3_ := Aside0.mk ((by rw [hg]; exact (below_size (by repeat (first | (with_reducible first | exact HB.out | apply below_alloc | apply pw_below_drewN | apply below_drew1) | exact HB.out))) : w.heap.size ≤ gb360)); clear HB; have HB := n0_; have BK360 := n1_; have GW360 := n2_; have GE360 := n3_; clear n0_ n1_ n2_ n3_; clear hb hbox hg; have hcz4_0 : w3.cell? ⟨gb360, 0, none⟩ = some (.string a0_0) := (blk_cell BK360.out 0).trans rfl; have hcz4_1 : w3.cell? ⟨gb360, 1, none⟩ = some (.int .i64 a0_1) := (blk_cell BK360.out 1).trans rfl; have hcz4_2 : w3.cell? ⟨gb360, 2, none⟩ = some (.int .i64 a0_2) := (blk_cell BK360.out 2).trans rfl; have hcz4_3 : w3.cell? ⟨gb360, 3, none⟩ = some (.int .i64 a0_3) := (blk_cell BK360.out 3).trans rfl; have hcz4_4 : w3.cell? ⟨gb360, 4, none⟩ = some (.slice A0_4 l0_4.length c0_4) := (blk_cell BK360.out 4).trans rfl; have hcz4_5 : w3.cell? ⟨gb360, 5, none⟩ = some (.slice A0_5 l0_5.length c0_5) := (blk_cell BK360.out 5).trans rfl; have hfz4_0 := blk_frozen BK360.out 0; have hfz4_1 := blk_frozen BK360.out 1; have hfz4_2 := blk_frozen BK360.out 2; have hfz4_3 := blk_frozen BK360.out 3; have hfz4_4 := blk_frozen BK360.out 4; have hfz4_5 := blk_frozen BK360.out 5) | ((with_reducible refine gate_callee (f := 19) rfl ?_); refine goesL_ (some 8) rfl rfl Try.func19 (by kernel_rfl) rfl #[.agg #[.string a0_0, .int .i64 a0_1, .int .i64 a0_2, .int .i64 a0_3, .slice A0_4 l0_4.length c0_4, .slice A0_5 l0_5.length c0_5]] rfl (by (try simp only [List.map_toArray, List.map_cons, List.map_nil]); first | done | rfl | (simp only [List.length_drop, List.length_take]; rfl)) ?_; (with_reducible refine (helioscoperef01_Check.calls k a0_0 a0_1 a0_2 a0_3 _ _ l0_4 _ _ l0_5 t361 t362 t363 _ ?side1 ?side2 ?side3 ?side4 A2.out).mono ?_); (case side1 => repeat (first | exact (Kd.C_below HR0_4.out HB.out) | (with_reducible refine Kd.C_alloc ?_ _) | (with_reducible refine Kd.C_drewN ?_ _) | (with_reducible refine Kd.C_drew ?_))); (case side2 => exact HC0_4.out); (case side3 => repeat (first | exact (Kd.C_below HR0_5.out HB.out) | (with_reducible refine Kd.C_alloc ?_ _) | (with_reducible refine Kd.C_drewN ?_ _) | (with_reducible refine Kd.C_drew ?_))); (case side4 => exact HC0_5.out); rintro e w5 ⟨rfl, hb⟩; refine ⟨_, rfl, ?_⟩; have n0_ := Aside0.mk (blk_below (g := gb360) (o := .cells #[.string a0_0, .int .i64 a0_1, .int .i64 a0_2, .int .i64 a0_3, .slice A0_4 l0_4.length c0_4, .slice A0_5 l0_5.length c0_5] 27 (0, 0)) (by (with_reducible repeat (first | refine blk_drewN ?_ _ | refine blk_drew ?_ | refine blk_alloc ?_ _)); exact BK360.out) hb); have n1_ := Aside0.mk (below_step (by repeat (first | (with_reducible first | exact HB.out | apply below_alloc | apply pw_below_drewN | apply below_drew1 | refine below_set ?_ GE360.out) | exact HB.out)) hb); clear BK360; clear HB; have BK360 := n0_; have HB := n1_; clear n0_ n1_; (try clear hb); (try clear hb2); (try clear hk); (try clear hi)))
 go_ret
 exact ⟨by first | rfl | (simp [errW_none, errW_some] <;> rfl) | (simp [*, errW_none, errW_some] <;> rfl), by repeat (first | (with_reducible first | exact HB.out | apply below_alloc | apply pw_below_drewN | apply below_drew1 | refine below_set ?_ GE360.out) | exact HB.out)⟩



end Go.Proofs.Ytemeapfnfegkiaa.PR
end
section
/- Package disk: whether there is a truth; the numbers of all truths, compared. -/
namespace Go.Proofs.Ytemeapfnfegkiaa.D
open Go Go.RowKit Go.Proofs.YtemeapfnfegkiaaK Go.Proofs.YtemeapfnfegkiaaW.PrintWords Go.Proofs.YtemeapfnfegkiaaW.PrintLast Go.Proofs.YtemeapfnfegkiaaW.PrintMore Go.Proofs.Ytemeapfnfegkiaa.PR
set_option linter.unusedVariables false
set_option linter.unusedSimpArgs false

theorem rValid {D : Dat} (hF : Fits D) : Ev (fun f => helioscopelaw01_valid.f f D.nm D.rad D.lo D.hi D.spots D.told) (decide ((checkF D).2.2 = 0)) := by
  unfold helioscopelaw01_valid.f
  refine Ev.bind (rCheck D hF.nm hF.s hF.t) (Ev.congr (f := fun _ => some (decide ((checkF D).2.2 = 0))) (fun f => ?_) (Ev.now _))
  generalize (checkF D).2.2 = c
  by_cases h : c = 0
  · subst h; rfl
  · have h1 : (c == 0) = false := by simpa using h
    rw [h1, decide_eq_false h]
theorem groups_le {D : Dat} (hV : Valid D) (near : Int) (set : Nat) : 0 ≤ manyF (G D near set) ∧ manyF (G D near set) ≤ spotsTo (G D near set) 7 ∧ spotsTo (G D near set) 7 ≤ (D.spots.length : Int) := by
  have S := G_spec D near set hV.n7
  have h7 := hV.n7
  rw [manyF_eq hV, spots_eq _ (G_nonneg hV near set), ← S.lead]
  have e : spotsG (G D near set) 7 = spotsG (G D near set) D.spots.length := by
    have := spotsG_up (g := G D near set) (n := D.spots.length) (fun x hx => (S.in_ x hx).1) (7 - D.spots.length)
    rw [show D.spots.length + (7 - D.spots.length) = 7 by omega] at this
    exact this
  rw [e]
  have h1 : (List.range D.spots.length).countP (leader (G D near set)) ≤ spotsG (G D near set) D.spots.length :=
    List.countP_mono_left fun x _ hx => decide_eq_true (leader_iff.1 hx).1
  have h2 := List.countP_le_length (p := fun k => decide (0 < G D near set k)) (l := List.range D.spots.length)
  rw [List.length_range] at h2
  have h3 : spotsG (G D near set) D.spots.length ≤ D.spots.length := h2
  omega
end Go.Proofs.Ytemeapfnfegkiaa.D
end
section
/- Package disk: as long as nothing was told: with more nears there are more truths, and the same spots. -/
namespace Go.Proofs.Ytemeapfnfegkiaa.D
open Go Go.RowKit Go.Proofs.YtemeapfnfegkiaaK Go.Proofs.YtemeapfnfegkiaaW.PrintWords Go.Proofs.YtemeapfnfegkiaaW.PrintLast Go.Proofs.YtemeapfnfegkiaaW.PrintMore Go.Proofs.Ytemeapfnfegkiaa.PR
set_option linter.unusedVariables false
set_option linter.unusedSimpArgs false

abbrev d0 (D : Dat) : Dat := ⟨D.nm, D.rad, D.lo, D.hi, D.spots, []⟩
theorem mem_truths {D : Dat} {but : Nat} {x : Int × Nat} (hle : D.lo ≤ D.hi) : x ∈ truthsL D but ↔ (D.lo ≤ x.1 ∧ x.1 ≤ D.hi) ∧ x.2 < 2 ^ D.spots.length ∧ isTruth D but x.1 x.2 = true := by
  unfold truthsL nearsTo setsTo
  simp only [List.mem_flatMap, List.mem_range, List.mem_map, List.mem_filter]
  constructor
  · rintro ⟨i, hi, s, ⟨hs, ht⟩, rfl⟩
    exact ⟨⟨by show D.lo ≤ D.lo + (i : Int); omega, by show D.lo + (i : Int) ≤ D.hi; omega⟩, hs, ht⟩
  · rintro ⟨⟨h1, h2⟩, hs, ht⟩
    refine ⟨(x.1 - D.lo).toNat, by omega, x.2, ⟨hs, ?_⟩, ?_⟩
    · rw [show D.lo + ((x.1 - D.lo).toNat : Int) = x.1 by omega]; exact ht
    · rw [show D.lo + ((x.1 - D.lo).toNat : Int) = x.1 by omega]
theorem isTruth_nil {D : Dat} {near : Int} {set : Nat} (h : D.told = []) : isTruth D 0 near set = okSet D set := by
  unfold isTruth soB soTo
  rw [h]; simp
theorem okSet_some (D : Dat) : okSet D (sureTo D D.spots.length) = true := by
  rw [okSet_upto D _ (sureTo_lt D _)]
  unfold okUpto
  rw [List.all_eq_true]
  intro i hi
  rw [sureTo_bit, decide_eq_true (List.mem_range.1 hi), Bool.true_and]
  cases onB D i <;> cases sureK D i <;> rfl
theorem enter_nil {D : Dat} (h : D.told = []) (hc : (checkF D).2.2 = 0) : enterE D [] = 0 := by
  have hV := (check_valid hc).1
  rw [enterE_none, if_neg (fun x => x hc)]
  have hm : (D.lo, sureTo D D.spots.length) ∈ truthsL D 0 := (mem_truths hV.le).2 ⟨⟨Int.le_refl _, hV.le⟩, sureTo_lt D _, by rw [isTruth_nil h]; exact okSet_some D⟩
  rw [if_neg (fun x => by rw [List.isEmpty_iff.1 x] at hm; simp at hm)]
theorem mem_valsL {D : Dat} {F : Int → (Nat → Int) → Int} {L : List (Int × Nat)} {y : Int} (h : y ∈ valsL D F L) : ∃ x ∈ L, y = F x.1 (G D x.1 x.2) := by
  obtain ⟨x, hx, rfl⟩ := List.mem_map.1 h
  exact ⟨x, hx, rfl⟩
theorem valsL_mem {D : Dat} (F : Int → (Nat → Int) → Int) {L : List (Int × Nat)} {x : Int × Nat} (h : x ∈ L) : F x.1 (G D x.1 x.2) ∈ valsL D F L := List.mem_map.2 ⟨x, h, rfl⟩
end Go.Proofs.Ytemeapfnfegkiaa.D
end
section
/- Package disk: what Must and Never say of all truths. -/
namespace Go.Proofs.Ytemeapfnfegkiaa.D
open Go Go.RowKit Go.Proofs.YtemeapfnfegkiaaK Go.Proofs.YtemeapfnfegkiaaW.PrintWords Go.Proofs.YtemeapfnfegkiaaW.PrintLast Go.Proofs.YtemeapfnfegkiaaW.PrintMore Go.Proofs.Ytemeapfnfegkiaa.PR
set_option linter.unusedVariables false
set_option linter.unusedSimpArgs false

theorem is_val {D : Dat} {a : Nat} (h : enterE D [] = 0) (ha : a < D.spots.length) : isF D a = (toldF (cnt D (isQ a) (truthsL D 0)) (truthsL D 0).length, 0) := by
  have he := enterE_one D a
  have h0 := enterE_none D
  rw [h] at h0
  have hc : (checkF D).2.2 = 0 := by
    by_cases hc : (checkF D).2.2 = 0
    · exact hc
    · rw [if_pos hc] at h0; exact absurd h0.symm hc
  rw [if_neg (fun x => x hc)] at h0
  have hz : ¬ (truthsL D 0).isEmpty = true := fun hz => by rw [if_pos hz] at h0; simp at h0
  have ho : ¬ outB 0 ((D.spots.length : Int) - 1) [(a : Int), (a : Int)] = true := fun x => (outB_two _ _ _ _).1 x ⟨by omega, by omega⟩
  simp only [ne_eq, hc, not_true_eq_false, if_false, if_neg ho, if_neg hz] at he
  unfold isF; rw [if_pos he, Int.toNat_natCast]
end Go.Proofs.Ytemeapfnfegkiaa.D
end
section
/- Package disk: one dot more. -/
namespace Go.Proofs.Ytemeapfnfegkiaa.D
open Go Go.RowKit Go.Proofs.YtemeapfnfegkiaaK Go.Proofs.YtemeapfnfegkiaaW.PrintWords Go.Proofs.YtemeapfnfegkiaaW.PrintLast Go.Proofs.YtemeapfnfegkiaaW.PrintMore Go.Proofs.Ytemeapfnfegkiaa.PR
set_option linter.unusedVariables false
set_option linter.unusedSimpArgs false

abbrev shP (D : Dat) (A4 : Option Addr) (c4 : Nat) (A5 : Option Addr) (c5 : Nat) : Array Value := #[.string D.nm, .int .i64 D.rad, .int .i64 D.lo, .int .i64 D.hi, .slice A4 D.spots.length c4, .slice A5 D.told.length c5]
abbrev de (D : Dat) (d : Spot) : Dat := ⟨D.nm, D.rad, D.lo, D.hi, D.spots ++ [d], D.told⟩
theorem de_len (D : Dat) (d : Spot) : (de D d).spots.length = D.spots.length + 1 := by simp
theorem rd_old {l : List Spot} {d : Spot} {k : Nat} (hk : k < l.length) : rd_T80 (l ++ [d]) (k : Int) = rd_T80 l (k : Int) := by
  rw [spot_at _ _ hk, spot_at _ _ (by simp; omega)]; exact List.getElem_append_left hk
theorem rd_new (l : List Spot) (d : Spot) : rd_T80 (l ++ [d]) (l.length : Int) = d := by
  rw [spot_at _ _ (by simp)]; simp
theorem onB_old {D : Dat} {d : Spot} {k : Nat} (hk : k < D.spots.length) : onB (de D d) k = onB D k := by
  unfold onB; rw [rd_old hk]
theorem sureK_old {D : Dat} {d : Spot} {k : Nat} (hk : k < D.spots.length) : sureK (de D d) k = sureK D k := by
  unfold sureK; rw [rd_old hk]
theorem okUpto_old (D : Dat) (d : Spot) (s : Nat) : ∀ k, k ≤ D.spots.length → okUpto (de D d) k s = okUpto D k s
  | 0, _ => rfl
  | k + 1, h => by rw [okUpto_succ, okUpto_succ, okUpto_old D d s k (by omega), onB_old (by omega), sureK_old (by omega)]

theorem joinF_more {adj adj' : Nat → Nat → Bool} {n : Nat} (m : Int) (h : ∀ a b, a < n → b < n → adj' a b = adj a b) (hn : ∀ a, adj' a n = false) : ∀ (f : Nat) (g : Nat → Int) (d : Nat), d < n → joinF adj' (n + 1) m f g d = joinF adj n m f g d
  | 0, g, d, _ => rfl
  | f + 1, g, d, hd => by
    have key : ∀ k, k ≤ n → joinTo adj' (n + 1) m f d (upd g d m) k = joinTo adj n m f d (upd g d m) k := by
      intro k
      induction k with
      | zero => intro _; rfl
      | succ k ih => intro hk; rw [joinTo_succ, joinTo_succ, ih (by omega), h d k hd (by omega), joinF_more m h hn f _ k (by omega)]
    show joinTo adj' (n + 1) m f d (upd g d m) (n + 1) = joinTo adj n m f d (upd g d m) n
    rw [joinTo_succ, hn, key n (Nat.le_refl _)]; rfl
theorem groups_more {adj adj' : Nat → Nat → Bool} {n : Nat} (set : Nat) (h : ∀ a b, a < n → b < n → adj' a b = adj a b) (hn : ∀ a, adj' a n = false) (hb : set.testBit n = false) : groupsTo adj' (n + 1) set (n + 1) = groupsTo adj n set n := by
  have key : ∀ k, k ≤ n → groupsTo adj' (n + 1) set k = groupsTo adj n set k := by
    intro k
    induction k with
    | zero => intro _; rfl
    | succ k ih => intro hk; rw [groupsTo_succ, groupsTo_succ, ih (by omega), joinF_more _ h hn 7 _ k (by omega)]
  rw [groupsTo_succ, hb, key n (Nat.le_refl _)]; rfl
theorem G_more (D : Dat) (d : Spot) (near : Int) {set : Nat} (hs : set < 2 ^ D.spots.length) : G (de D d) near set = G D near set := by
  have hb : set.testBit D.spots.length = false := Nat.testBit_lt_two_pow hs
  unfold G
  rw [de_len, groups_more (adj := adjS D.spots near set) set (fun a b ha hb => ?_) (fun a => ?_) hb]
  · unfold adjS nearS; rw [rd_old ha, rd_old hb]
  · unfold adjS; rw [hb]; rfl

theorem truth_off {D : Dat} {d : Spot} (ho : onB (de D d) D.spots.length = false) (but : Nat) (near : Int) {s : Nat} (hs : s < 2 ^ D.spots.length) : isTruth (de D d) but near s = isTruth D but near s := by
  have hb : s.testBit D.spots.length = false := Nat.testBit_lt_two_pow hs
  have hs2 : s < 2 ^ (de D d).spots.length := by rw [de_len, Nat.pow_succ]; omega
  unfold isTruth
  rw [okSet_upto _ _ hs2, okSet_upto _ _ hs, G_more D d near hs, de_len, okUpto_succ, okUpto_old D d s _ (Nat.le_refl _), ho, hb]
  simp only [Bool.false_and, Bool.not_false, Bool.true_or, Bool.true_and, Bool.and_true]
  rfl
theorem truth_far {D : Dat} {d : Spot} (ho : onB (de D d) D.spots.length = false) (but : Nat) (near : Int) {s : Nat} (hs : s < 2 ^ D.spots.length) : isTruth (de D d) but near (2 ^ D.spots.length + s) = false := by
  have hb : (2 ^ D.spots.length + s).testBit D.spots.length = true := by
    rw [Nat.testBit_two_pow_add_eq, Nat.testBit_lt_two_pow hs]; rfl
  have hs2 : 2 ^ D.spots.length + s < 2 ^ (de D d).spots.length := by rw [de_len, Nat.pow_succ]; omega
  unfold isTruth
  rw [okSet_upto _ _ hs2, de_len, okUpto_succ, ho, hb]
  simp
theorem truths_off {D : Dat} {d : Spot} (ho : onB (de D d) D.spots.length = false) (but : Nat) : truthsL (de D d) but = truthsL D but := by
  have key : ∀ near, setsTo (de D d) but near (2 ^ (de D d).spots.length) = setsTo D but near (2 ^ D.spots.length) := fun near => by
    unfold setsTo
    rw [de_len, Nat.pow_succ, Nat.mul_two, List.range_add, List.filter_append]
    rw [show ((List.range (2 ^ D.spots.length)).map fun x => 2 ^ D.spots.length + x).filter (isTruth (de D d) but near) = [] from ?_]
    · rw [List.append_nil]
      exact congrArg _ (List.filter_congr fun s hs => truth_off ho but near (List.mem_range.1 hs))
    · rw [List.filter_eq_nil_iff]
      intro x hx
      obtain ⟨s, hs, rfl⟩ := List.mem_map.1 hx
      rw [truth_far ho but near (List.mem_range.1 hs)]; simp
  unfold truthsL nearsTo
  simp only [key]

theorem truths_lt {D : Dat} {but : Nat} {x : Int × Nat} (h : x ∈ truthsL D but) : x.2 < 2 ^ D.spots.length := by
  unfold truthsL nearsTo setsTo at h
  simp only [List.mem_flatMap, List.mem_range, List.mem_map, List.mem_filter] at h
  obtain ⟨i, _, s, ⟨hs, _⟩, rfl⟩ := h
  exact hs
theorem enter_off {D : Dat} {d : Spot} (hc : (checkF D).2.2 = 0) (hc2 : (checkF (de D d)).2.2 = 0) (ho : onB (de D d) D.spots.length = false) : enterE (de D d) [] = enterE D [] := by
  rw [enterE_none, enterE_none, hc, hc2, truths_off ho]
theorem span_off {D : Dat} {d : Spot} (hc : (checkF D).2.2 = 0) (hc2 : (checkF (de D d)).2.2 = 0) (ho : onB (de D d) D.spots.length = false) (F : Int → (Nat → Int) → Int) : spanF (de D d) F = spanF D F := by
  have e : valsL (de D d) F (truthsL D 0) = valsL D F (truthsL D 0) := by
    unfold valsL
    exact List.map_congr_left fun x hx => by rw [G_more D d x.1 (truths_lt hx)]
  unfold spanF
  rw [enter_off hc hc2 ho, truths_off ho, e]
theorem is_off {D : Dat} {d : Spot} (hc : (checkF D).2.2 = 0) (hc2 : (checkF (de D d)).2.2 = 0) (ho : onB (de D d) D.spots.length = false) : (((isF (de D d) (D.spots.length : Int)).2 == 0) && ((isF (de D d) (D.spots.length : Int)).1 == 2)) = (enterE D [] == 0) := by
  have hee := enter_off hc hc2 ho
  by_cases h : enterE D [] = 0
  · have h2 : enterE (de D d) [] = 0 := hee.trans h
    rw [is_val h2 (by rw [de_len]; omega), h]
    have hz : cnt (de D d) (isQ D.spots.length) (truthsL (de D d) 0) = 0 := by
      unfold cnt
      rw [List.countP_eq_zero, truths_off ho]
      intro x hx
      have hx2 := truths_lt hx
      have hV := (check_valid hc).1
      rw [G_more D d x.1 hx2]
      have S := G_spec D x.1 x.2 hV.n7
      unfold isQ
      have : G D x.1 x.2 D.spots.length = 0 := Classical.byContradiction fun hne => by have := (S.in_ _ hne).1; omega
      rw [this]; simp
    have hne : (truthsL (de D d) 0).length ≠ 0 := by
      have := enterE_none (de D d)
      rw [h2, if_neg (fun x => x hc2)] at this
      intro hl
      rw [if_pos (by rw [List.length_eq_zero_iff.1 hl]; rfl)] at this
      simp at this
    rw [hz]
    unfold toldF
    rw [if_neg (by omega)]
    rfl
  · have h1 : (enterE D [] == 0) = false := by simp [h]
    rw [h1]
    have h3 : (isF (de D d) (D.spots.length : Int)).2 ≠ 0 := by
      unfold isF
      have he := enterE_one (de D d) D.spots.length
      have h0 := enterE_none (de D d)
      rw [hee] at h0
      by_cases hz : enterE (de D d) [(D.spots.length : Int)] = 0
      · rw [hz] at he
        exfalso
        simp only [hc2, ne_eq, not_true_eq_false, if_false] at he h0
        by_cases ht : (truthsL (de D d) 0).isEmpty = true
        · rw [if_pos ht] at he
          split at he <;> omega
        · rw [if_neg ht] at h0; exact h h0
      · rw [if_neg hz]; exact hz
    have h4 : ((isF (de D d) (D.spots.length : Int)).2 == 0) = false := by simp [h3]
    rw [h4]; rfl

theorem spots_pop {D : Dat} (hV : Valid D) (near : Int) (s : Nat) : spotsTo (G D near s) 7 = (((List.range D.spots.length).countP fun k => s.testBit k : Nat) : Int) := by
  have S := G_spec D near s hV.n7
  have h7 := hV.n7
  rw [spots_eq _ (G_nonneg hV near s)]
  have e := spotsG_up (g := G D near s) (n := D.spots.length) (fun x hx => (S.in_ x hx).1) (7 - D.spots.length)
  rw [show D.spots.length + (7 - D.spots.length) = 7 by omega] at e
  rw [e]
  congr 1
  unfold spotsG
  refine List.countP_congr fun k hk => ?_
  have hk' := List.mem_range.1 hk
  have h0 := G_nonneg hV near s k
  simp only [decide_eq_true_eq]
  constructor
  · intro h; exact (S.in_ k (by omega)).2
  · intro h; have := S.done k hk' h; omega
theorem pop_congr {n a b : Nat} (h : ∀ k, k < n → a.testBit k = b.testBit k) : ((List.range n).countP fun k => a.testBit k) = (List.range n).countP fun k => b.testBit k :=
  List.countP_congr fun k hk => by rw [h k (List.mem_range.1 hk)]
theorem pop_succ (n a : Nat) : ((List.range (n + 1)).countP fun k => a.testBit k) = ((List.range n).countP fun k => a.testBit k) + if a.testBit n = true then 1 else 0 := by
  simp [List.range_succ, List.countP_append, List.countP_cons]
theorem okUpto_congr (D : Dat) {a b : Nat} : ∀ n, (∀ k, k < n → a.testBit k = b.testBit k) → okUpto D n a = okUpto D n b
  | 0, _ => rfl
  | n + 1, h => by rw [okUpto_succ, okUpto_succ, okUpto_congr D n (fun k hk => h k (by omega)), h n (by omega)]
theorem mem_nil {D : Dat} {x : Int × Nat} (ht : D.told = []) (hle : D.lo ≤ D.hi) : x ∈ truthsL D 0 ↔ (D.lo ≤ x.1 ∧ x.1 ≤ D.hi) ∧ x.2 < 2 ^ D.spots.length ∧ okUpto D D.spots.length x.2 = true := by
  rw [mem_truths hle, isTruth_nil ht]
  constructor
  · rintro ⟨h1, h2, h3⟩; exact ⟨h1, h2, by rw [← okSet_upto _ _ h2]; exact h3⟩
  · rintro ⟨h1, h2, h3⟩; exact ⟨h1, h2, by rw [okSet_upto _ _ h2]; exact h3⟩
theorem check_nil {D : Dat} (h : (checkF D).2.2 = 0) : (checkF (d0 D)).2.2 = 0 := by
  obtain ⟨hV, hn, hc⟩ := check_valid h
  have e : ∀ a b, outB 0 12 [a, b] = true → ¬ ((0 ≤ a ∧ a ≤ 12) ∧ (0 ≤ b ∧ b ≤ 12)) := fun a b => (outB_two 0 12 a b).1
  have o2 : outB 0 12 [D.lo, D.hi] = false := Bool.eq_false_iff.2 fun x => e _ _ x ⟨⟨hV.lo, by have := hV.le; have := hV.hi; omega⟩, ⟨by have := hV.le; have := hV.lo; omega, hV.hi⟩⟩
  have hle : ¬ D.hi < D.lo := by have := hV.le; omega
  unfold checkF at hc ⊢
  simp only [hn, Bool.true_eq_false, if_false, o2, Bool.or_false, hle, if_false] at hc ⊢
  by_cases h1 : outB 1 12 [D.rad] = true
  · rw [if_pos h1] at hc; simp at hc
  · rw [if_neg h1] at hc ⊢
    by_cases h2 : (firstL D.spots 7 (errS D.spots)).2 ≠ 0
    · rw [if_pos h2] at hc; simp at hc
    · rw [if_neg h2]; rfl
theorem beside_on {D : Dat} {d : Spot} (hc : (checkF (d0 D)).2.2 = 0) (hc2 : (checkF (d0 (de D d))).2.2 = 0) (ho : onB (de D d) D.spots.length = true) :
    enterE (d0 D) [] = 0 ∧ enterE (d0 (de D d)) [] = 0 ∧ (spanF (d0 D) fun _ g => spotsTo g 7).1 ≤ (spanF (d0 (de D d)) fun _ g => spotsTo g 7).1 ∧ (spanF (d0 (de D d)) fun _ g => spotsTo g 7).2 = (spanF (d0 D) fun _ g => spotsTo g 7).2 + 1 := by
  have hV := (check_valid hc).1
  have hV2 := (check_valid hc2).1
  have hle : D.lo ≤ D.hi := hV.le
  have e0 : enterE (d0 D) [] = 0 := enter_nil rfl hc
  have e2 : enterE (d0 (de D d)) [] = 0 := enter_nil rfl hc2
  have hl2 : (d0 (de D d)).spots.length = D.spots.length + 1 := de_len D d
  -- a set of the more, cut
  have cut : ∀ x, x ∈ truthsL (d0 (de D d)) 0 → (x.1, x.2 % 2 ^ D.spots.length) ∈ truthsL (d0 D) 0 ∧
      spotsTo (G (d0 (de D d)) x.1 x.2) 7 = spotsTo (G (d0 D) x.1 (x.2 % 2 ^ D.spots.length)) 7 + (if x.2.testBit D.spots.length = true then 1 else 0) := fun x hx => by
    obtain ⟨p1, p2, p3⟩ := (mem_nil (D := d0 (de D d)) rfl hle).1 hx
    have bits : ∀ k, k < D.spots.length → (x.2 % 2 ^ D.spots.length).testBit k = x.2.testBit k := fun k hk => by rw [Nat.testBit_mod_two_pow, decide_eq_true hk, Bool.true_and]
    rw [hl2] at p3
    rw [okUpto_succ, Bool.and_eq_true] at p3
    refine ⟨(mem_nil (D := d0 D) rfl hle).2 ⟨p1, Nat.mod_lt _ (Nat.two_pow_pos _), ?_⟩, ?_⟩
    · rw [okUpto_congr (d0 D) _ bits, ← okUpto_old (d0 D) d x.2 _ (Nat.le_refl _)]; exact p3.1
    · rw [spots_pop hV2, spots_pop hV, hl2, pop_succ, pop_congr bits]
      split <;> simp
  -- a set, with one more
  have add : ∀ x, x ∈ truthsL (d0 D) 0 → (x.1, 2 ^ D.spots.length + x.2) ∈ truthsL (d0 (de D d)) 0 ∧
      spotsTo (G (d0 (de D d)) x.1 (2 ^ D.spots.length + x.2)) 7 = spotsTo (G (d0 D) x.1 x.2) 7 + 1 := fun x hx => by
    obtain ⟨p1, p2, p3⟩ := (mem_nil (D := d0 D) rfl hle).1 hx
    have hb : (2 ^ D.spots.length + x.2).testBit D.spots.length = true := by
      rw [Nat.testBit_two_pow_add_eq, Nat.testBit_lt_two_pow p2]; rfl
    have bits : ∀ k, k < D.spots.length → (2 ^ D.spots.length + x.2).testBit k = x.2.testBit k := fun k hk => Nat.testBit_two_pow_add_gt hk _
    refine ⟨(mem_nil (D := d0 (de D d)) rfl hle).2 ⟨p1, ?_, ?_⟩, ?_⟩
    · rw [hl2, Nat.pow_succ]; have := p2; simp only at this ⊢; omega
    · rw [hl2]
      show okUpto (de (d0 D) d) (D.spots.length + 1) (2 ^ D.spots.length + x.2) = true
      rw [okUpto_succ, okUpto_old (d0 D) d _ _ (Nat.le_refl _), okUpto_congr (d0 D) _ bits, p3, hb]
      have : onB (de (d0 D) d) D.spots.length = true := ho
      rw [this]; simp
    · rw [spots_pop hV2, spots_pop hV, hl2, pop_succ, pop_congr bits, hb]
      simp
  have ne0 : truthsL (d0 D) 0 ≠ [] := fun x => by have := (enterE_ok e0).2.2.2.1; rw [x] at this; simp at this
  have ne2 : truthsL (d0 (de D d)) 0 ≠ [] := fun x => by have := (enterE_ok e2).2.2.2.1; rw [x] at this; simp at this
  have nv0 : ∀ F, valsL (d0 D) F (truthsL (d0 D) 0) ≠ [] := fun F x => ne0 (List.map_eq_nil_iff.1 x)
  have nv2 : ∀ F, valsL (d0 (de D d)) F (truthsL (d0 (de D d)) 0) ≠ [] := fun F x => ne2 (List.map_eq_nil_iff.1 x)
  refine ⟨e0, e2, ?_, ?_⟩
  all_goals
    unfold spanF; rw [if_pos e0, if_pos e2]
  · obtain ⟨m0, l0⟩ := minL_spec (nv0 fun _ g => spotsTo g 7)
    obtain ⟨m2, l2⟩ := minL_spec (nv2 fun _ g => spotsTo g 7)
    obtain ⟨x, hx, he⟩ := mem_valsL m2
    have := l0 _ (valsL_mem (fun _ g => spotsTo g 7) (cut x hx).1)
    have hc := (cut x hx).2
    show minL _ ≤ minL _
    simp only at this
    split at hc <;> omega
  · obtain ⟨m0, l0⟩ := maxL_spec (nv0 fun _ g => spotsTo g 7)
    obtain ⟨m2, l2⟩ := maxL_spec (nv2 fun _ g => spotsTo g 7)
    obtain ⟨x, hx, he⟩ := mem_valsL m2
    obtain ⟨y, hy, hf⟩ := mem_valsL m0
    have h1 := l0 _ (valsL_mem (fun _ g => spotsTo g 7) (cut x hx).1)
    have h2 := l2 _ (valsL_mem (fun _ g => spotsTo g 7) (add y hy).1)
    have hc := (cut x hx).2
    have ha := (add y hy).2
    show maxL _ = maxL _ + 1
    simp only at h1 h2
    split at hc <;> omega
end Go.Proofs.Ytemeapfnfegkiaa.D
end
section
/- General lemmas of this session's own: rows of any plain kind that are copied by append. -/
namespace Go.Proofs.YtemeapfnfegkiaaK
open Go Go.RowKit Go.Proofs.YtemeapfnfegkiaaW.PrintWords Go.Proofs.YtemeapfnfegkiaaW.PrintLast Go.Proofs.YtemeapfnfegkiaaW.PrintMore
set_option linter.unusedVariables false
set_option linter.unusedSimpArgs false
variable {P : Program}

theorem flat_at {α : Type} (enc : α → List Value) {sz : Nat} (hl : ∀ x, (enc x).length = sz) : ∀ (xs : List α), (xs.flatMap enc).length = xs.length * sz ∧
    ∀ j u, (xs.flatMap enc)[j]? = some u → ∃ p i, xs[j / sz]? = some p ∧ (enc p)[i]? = some u ∧ i < sz ∧ j = j / sz * sz + i
  | [] => ⟨by simp, fun j u h => by simp at h⟩
  | x :: xs => by
    obtain ⟨h1, h2⟩ := flat_at enc hl xs
    refine ⟨by rw [List.flatMap_cons, List.length_append, h1, hl, List.length_cons, Nat.succ_mul]; omega, fun j u h => ?_⟩
    rw [List.flatMap_cons] at h
    by_cases hj : j < sz
    · rw [List.getElem?_append_left (by rw [hl]; exact hj)] at h
      have hd : j / sz = 0 := Nat.div_eq_of_lt hj
      exact ⟨x, j, by rw [hd]; rfl, h, hj, by rw [hd]; omega⟩
    · have hsz : 0 < sz := by
        rcases Nat.eq_zero_or_pos sz with e | e
        · subst e
          have h0 : (xs.flatMap enc).length = 0 := by rw [h1, Nat.mul_zero]
          rw [List.getElem?_append_right (by rw [hl]; omega), List.eq_nil_of_length_eq_zero h0] at h
          simp at h
        · exact e
      rw [List.getElem?_append_right (by rw [hl]; omega), hl] at h
      obtain ⟨p, i, a1, a2, a3, a4⟩ := h2 (j - sz) u h
      have hd : j / sz = (j - sz) / sz + 1 := by
        rw [Nat.div_eq_sub_div hsz (by omega)]
      exact ⟨p, i, by rw [hd]; simpa using a1, a2, a3, by rw [hd, Nat.succ_mul]; omega⟩

theorem C_news {α : Type} {d : Kd α} {enc : α → List Value} (hK : ∀ (w : World) x cs, d.K w x cs → cs = enc x) (hl : ∀ x, (enc x).length = d.sz) {w : World} {A : Option Addr} {xs : List α} (h : Kd.C d w A xs.length xs) {ad : Addr} (hA : A = some ad) :
    ∀ j u, (xs.flatMap enc)[j]? = some u → w.cell? (ad.add j) = some u := by
  intro j u hj
  obtain ⟨p, i, h1, h2, h3, h4⟩ := (flat_at enc hl xs).2 j u hj
  have hpos : 0 < xs.length := by
    have := (List.getElem?_eq_some_iff.1 h1).1
    exact Nat.lt_of_le_of_lt (Nat.zero_le _) this
  obtain ⟨ad', e, hc⟩ := h.2.2 hpos
  rw [hA] at e
  cases e
  obtain ⟨cs, hs, hk, hcell⟩ := hc _ p h1
  rw [hK w p cs hk] at hcell
  rw [h4]
  exact hcell i u h2
theorem C_some {α : Type} {d : Kd α} {w : World} {A : Option Addr} {xs : List α} (h : Kd.C d w A xs.length xs) (h0 : A = none) : xs = [] := by
  by_cases hp : 0 < xs.length
  · obtain ⟨ad, e, _⟩ := h.2.2 hp
    rw [h0] at e; cases e
  · exact List.eq_nil_of_length_eq_zero (by omega)

theorem append_row {α : Type} {d : Kd α} {enc : α → List Value} (hK : ∀ (w : World) x cs, d.K w x cs → cs = enc x) (hl : ∀ x, (enc x).length = d.sz) (h1 : ∀ x, ∀ u ∈ enc x, u.oneCell' = true) {w : World} {base e t ty : Nat} {i : TypeInfo} {z : Value} {bytes : Nat}
    (ht : P.underlying t = some (.slice e)) (hi : P.info? e = some i) (hz : i.zero = some z) (hsize : i.size = d.sz) (hby : i.bytes = bytes) (hzs : z.cells.size = d.sz) (hsz : 0 < d.sz) (hb : 0 < bytes)
    {v : Value} {ys : List α} (hown : w.ownsRow base e d.sz v ys.length (ys.flatMap enc)) {A : Option Addr} {c : Nat} {xs : List α} (h : Kd.C d w A xs.length xs) (hn : (ys.length + xs.length) * bytes ≤ 140737488355328) (hbase : base ≤ w.heap.size)
    (hno : A = none → (Builtin.append_ #[t, t] ty #[v, .slice none xs.length c]).run P w = .ok v w) :
    ∃ v' w', (Builtin.append_ #[t, t] ty #[v, .slice A xs.length c]).run P w = .ok v' w' ∧ w'.ownsRow base e d.sz v' (ys ++ xs).length ((ys ++ xs).flatMap enc) ∧ w.grownBy w' v.ownBlock ∧ (v'.ownBlock = v.ownBlock ∨ v'.ownBlock = some w.heap.size) := by
  cases A with
  | none =>
    have hx := C_some h rfl
    refine ⟨v, w, hno rfl, ?_, ⟨rfl, rfl, rfl, Nat.le_refl _, fun _ _ _ => rfl⟩, .inl rfl⟩
    subst hx
    rw [List.append_nil]
    exact hown
  | some ad =>
    obtain ⟨v', w', hr, ho, hg, _, hb'⟩ := run_append_own_at (P := P) w base t ty e i z d.sz bytes ht hi hz hsize hby hzs hsz v ys.length _ hown ad xs.length c (xs.flatMap enc) (flat_at enc hl xs).1 (C_news hK hl h rfl)
      (fun u hu => by obtain ⟨x, _, hx⟩ := List.mem_flatMap.1 hu; exact h1 x u hx) (by have := Nat.le_mul_of_pos_right (ys.length + xs.length) hb; simp only [maxLen]; omega) (by exact hn) hbase
    exact ⟨v', w', hr, by rw [List.length_append, List.flatMap_append]; exact ho, hg, hb'⟩
theorem row_read {α : Type} {d : Kd α} {enc : α → List Value} (hM : ∀ (w : World) x, d.K w x (enc x)) (hl : ∀ x, (enc x).length = d.sz) {w : World} {base e : Nat} {v : Value} {xs : List α} (h : w.ownsRow base e d.sz v xs.length (xs.flatMap enc)) (hn : xs.length ≤ 9223372036854775807) :
    ∃ A c, v = .slice A xs.length c ∧ xs.length ≤ c ∧ Kd.C d w A xs.length xs := by
  rcases h.2 with ⟨rfl, h0⟩ | ⟨g, cap, cur, rfl, hb, hg, hcap, hm, hs, ht⟩
  · have : xs = [] := List.eq_nil_of_length_eq_zero h0
    subst this
    exact ⟨none, 0, rfl, Nat.le_refl _, rfl, by simp, fun h => absurd h (by simp)⟩
  · refine ⟨_, cap, rfl, hcap, rfl, hn, fun _ => ⟨_, rfl, fun j p hj => ⟨enc p, hl p, hM w p, fun i u hu => ?_⟩⟩⟩
    have hadd : (⟨g, 0, none⟩ : Addr).add (j * d.sz + i) = ⟨g, j * d.sz + i, none⟩ := by unfold Addr.add; split <;> simp_all
    rw [hadd, cell_of_row w g _ cur e (0, 0) hg]
    have hjl := (List.getElem?_eq_some_iff.1 hj).1
    have hil : i < d.sz := by rw [← hl p]; exact (List.getElem?_eq_some_iff.1 hu).1
    have key : ∀ (xs : List α) (j : Nat), xs[j]? = some p → (xs.flatMap enc)[j * d.sz + i]? = some u := by
      intro xs
      induction xs with
      | nil => intro j hj; simp at hj
      | cons x xs ih =>
        intro j hj
        rw [List.flatMap_cons]
        cases j with
        | zero =>
          simp at hj
          subst hj
          rw [Nat.zero_mul, Nat.zero_add, List.getElem?_append_left (by rw [hl]; exact hil)]
          exact hu
        | succ j =>
          rw [List.getElem?_append_right (by rw [hl, Nat.succ_mul]; omega), hl, Nat.succ_mul]
          have := ih j (by simpa using hj)
          rw [← this]; congr 1; omega
    have hk := key xs j hj
    have hlt : j * d.sz + i < xs.length * d.sz := by
      have : (j + 1) * d.sz ≤ xs.length * d.sz := Nat.mul_le_mul_right _ hjl
      rw [Nat.succ_mul] at this; omega
    rw [← ht, List.getElem?_take_of_lt hlt] at hk
    rw [← Array.getElem?_toList]; exact hk
theorem append_none {w : World} {t ty e : TypeId} {i : TypeInfo} {z : Value} (ht : P.underlying t = some (.slice e)) (hi : P.info? e = some i) (g m c c' : Nat) (h : m ≤ c) :
    (Builtin.append_ #[t, t] ty #[.slice (some ⟨g, 0, none⟩) m c, .slice none 0 c']).run P w = .ok (.slice (some ⟨g, 0, none⟩) m c) w := by
  simp [Builtin.append_, run_underlying ht, sizeOf, typeInfo, hi, Builtin.lenOf, Builtin.firstCells, loadCells, loadCellsFrom, h, storeCells]

theorem step_run {ops : Array Oper} {o : Oper} {a : Act} {w : World} {K : Act → World → Prop} {Q : Exit → Act → World → Prop} {E : Prop} (hgd : o.guard = none) (s x : Operand) (t : TypeId)
    (ho : o.op = .call { callee := .builtin .append, args := #[s, x], argTypes := #[t, t] }) {v u : Value} (hs : a.eval s = v) (hx : a.eval x = u) {R : Value → World → Prop}
    (hrun : ∃ v' w', (Builtin.append_ #[t, t] o.type #[v, u]).run P w = .ok v' w' ∧ R v' w')
    (h : ∀ v' w', R v' w' → K (a.put o.dst v') w') : if Region.wanted o (yielded ops a.tmps) = true then Oper.wp P o a w K Q else E := by
  have hw : Region.wanted o (yielded ops a.tmps) = true := by simp [Region.wanted, hgd]
  rw [if_pos hw]
  obtain ⟨v', w', hr, h2⟩ := hrun
  unfold Oper.wp execOp
  simp only [ho, resolve, invoke, builtin, Sem.run_bind, Sem.run_pure, Result.andThen_ok, List.map_toArray, List.map_cons, List.map_nil, hs, hx, hr]
  exact h v' w' h2
def midQ (R : Act → World → Prop) : Exit → Act → World → Prop
  | .normal, a, w => R a w
  | _, _, _ => False
theorem region_mid {id : Nat} {ops : Array Oper} {b : Bool} {Q : Exit → Act → World → Prop} {a : Act} {w : World} {X : Type} (F : X → Act → Act) (S : X → World → Prop)
    (h : (Code.region id ops b).wp P (midQ fun a' w' => ∃ x, a' = F x a ∧ S x w') a w) (hk : ∀ x w', S x w' → Q .normal (F x a) w') : (Code.region id ops b).wp P Q a w :=
  Code.wp_mono (fun e a' w' h => by
    cases e <;> first | exact (h : False).elim | skip
    obtain ⟨x, rfl, hs⟩ := (h : ∃ x, a' = F x a ∧ S x w')
    exact hk x w' hs) h
theorem own_new0 {w : World} {base e sz : Nat} (hb : base ≤ w.heap.size) : (w.alloc (.cells #[] e)).ownsRow base e sz (.slice (some ⟨w.heap.size, 0, none⟩) 0 0) 0 [] :=
  World.ownsRow_lit w #[] 0 hb (by decide) (by simp)
theorem own_far {w : World} {base e sz n : Nat} {v : Value} {xs : List Value} (h : w.ownsRow base e sz v n xs) {p : Addr} (hp : p.block < base) (u : Value) : (w.setCell p u).ownsRow base e sz v n xs := by
  refine ⟨h.1, ?_⟩
  rcases h.2 with hn | ⟨g, cap, cur, rfl, hb, hg, rest⟩
  · exact .inl hn
  · exact .inr ⟨g, cap, cur, rfl, hb, (Below.heap_setCell w p u g (by omega)).trans hg, rest⟩
end Go.Proofs.YtemeapfnfegkiaaK
end
section
/- Package disk: rows of dots and of what was told, copied by append. -/
namespace Go.Proofs.Ytemeapfnfegkiaa.D
open Go Go.RowKit Go.Proofs.YtemeapfnfegkiaaK Go.Proofs.YtemeapfnfegkiaaW.PrintWords Go.Proofs.YtemeapfnfegkiaaW.PrintLast Go.Proofs.YtemeapfnfegkiaaW.PrintMore Go.Proofs.Ytemeapfnfegkiaa.PR
set_option linter.unusedVariables false
set_option linter.unusedSimpArgs false
def encS (x : Spot) : List Value := [.int .i64 x.f0, .int .i64 x.f1, .bool x.f2]
theorem infoE (t : TypeId) (h : (Try.prog.info? t).map (fun i => (i.zero, i.size, i.bytes)) = some (some (.agg #[(.int .i64 0), (.int .i64 0), (.bool false)]), 3, 24)) : ∃ i, Try.prog.info? t = some i ∧ i.zero = some (.agg #[(.int .i64 0), (.int .i64 0), (.bool false)]) ∧ i.size = 3 ∧ i.bytes = 24 := by
  cases hi : Try.prog.info? t with
  | none => rw [hi] at h; cases h
  | some i => rw [hi] at h; simp at h; exact ⟨i, rfl, h.1, h.2.1, h.2.2⟩
theorem infoS : ∃ i, Try.prog.info? 80 = some i ∧ i.zero = some (.agg #[(.int .i64 0), (.int .i64 0), (.bool false)]) ∧ i.size = 3 ∧ i.bytes = 24 := infoE _ (by kernel_rfl)
theorem encS_one (x : Spot) : ∀ u ∈ encS x, u.oneCell' = true := by simp [encS, Value.oneCell']
theorem own_form {w : World} {base e sz n k : Nat} {v : Value} {cs : List Value} (h : w.ownsRow base e sz v n cs) (hk : v.ownBlock = some k) : ∃ c, v = .slice (some ⟨k, 0, none⟩) n c := by
  rcases h.2 with ⟨rfl, _⟩ | ⟨g, cap, cur, rfl, _⟩
  · simp [Value.ownBlock] at hk
  · simp [Value.ownBlock] at hk
    subst hk
    exact ⟨_, rfl⟩
theorem append_spots {w : World} {base ty g m c0 k0 : Nat} {ys : List Spot} (hm : m = ys.length) (hown : w.ownsRow base 80 3 (.slice (some ⟨g, 0, none⟩) m c0) ys.length (ys.flatMap encS)) {A : Option Addr} {c n : Nat} {xs : List Spot} (hx : n = xs.length)
    (h : Kd.C k80 w A xs.length xs) (hk0 : k0 = ys.length + xs.length) (hn : (ys.length + xs.length) * 24 ≤ 140737488355328) (hbase : base ≤ w.heap.size) :
    ∃ g' c' w', (Builtin.append_ #[24, 24] ty #[.slice (some ⟨g, 0, none⟩) m c0, .slice A n c]).run Try.prog w = .ok (.slice (some ⟨g', 0, none⟩) k0 c') w' ∧ base ≤ g' ∧ w'.ownsRow base 80 3 (.slice (some ⟨g', 0, none⟩) k0 c') (ys ++ xs).length ((ys ++ xs).flatMap encS) ∧ Below base w w' ∧ w.grownBy w' (some g) := by
  subst hm hx hk0
  obtain ⟨i, hi, hz, hs, hb⟩ := infoS
  obtain ⟨v', w', hr, ho, hg, hb'⟩ := append_row (ty := ty) (d := k80) (enc := encS) (fun w x cs hK => k80_open hK) (fun _ => rfl) encS_one Try.underlying24 hi hz hs hb rfl (by decide) (by decide) hown h hn hbase (fun hA => by
    have hx0 := C_some h hA
    have hle := own_le hown
    rw [hx0]
    exact append_none (z := .bool false) Try.underlying24 hi g _ c0 c hle)
  obtain ⟨k, hk⟩ : ∃ k, v'.ownBlock = some k := by rcases hb' with e | e <;> exact ⟨_, e⟩
  obtain ⟨c', rfl⟩ := own_form ho hk
  rw [List.length_append] at hr ho
  refine ⟨k, c', w', hr, own_base ho k rfl, by rw [List.length_append]; exact ho, (Below.refl base w).grown hg hbase (fun k' e => own_base hown k' e), hg⟩
theorem step_spots {ops : Array Oper} {o : Oper} {a : Act} {W : World} {K : Act → World → Prop} {Q : Exit → Act → World → Prop} {E : Prop} {base g m c0 c n k0 : Nat} {A : Option Addr} {ys xs : List Spot} (hgd : o.guard = none) (s x : Operand)
    (ho : o.op = .call { callee := .builtin .append, args := #[s, x], argTypes := #[24, 24] }) (hs : a.eval s = .slice (some ⟨g, 0, none⟩) m c0) (hx : a.eval x = .slice A n c) (hm : m = ys.length) (hn : n = xs.length) (hk0 : k0 = ys.length + xs.length)
    (hown : W.ownsRow base 80 3 (.slice (some ⟨g, 0, none⟩) m c0) ys.length (ys.flatMap encS)) (hC : Kd.C k80 W A xs.length xs) (hl : (ys.length + xs.length) * 24 ≤ 140737488355328) (hb : base ≤ W.heap.size)
    (hk : ∀ g' c' w', base ≤ g' → w'.ownsRow base 80 3 (.slice (some ⟨g', 0, none⟩) k0 c') (ys ++ xs).length ((ys ++ xs).flatMap encS) → Below base W w' → W.grownBy w' (some g) → K (a.put o.dst (.slice (some ⟨g', 0, none⟩) k0 c')) w') :
    if Region.wanted o (yielded ops a.tmps) = true then Oper.wp Try.prog o a W K Q else E := by
  obtain ⟨g', c', w', hr, h1, h2, h3, h4⟩ := append_spots (ty := o.type) hm hown hn hC hk0 hl hb
  exact step_run (R := fun v' w'' => v' = .slice (some ⟨g', 0, none⟩) k0 c' ∧ w'' = w') hgd s x 24 ho hs hx ⟨_, _, hr, rfl, rfl⟩ (fun v' w'' ⟨e1, e2⟩ => by subst e1 e2; exact hk g' c' _ h1 h2 h3 h4)
theorem spots_read {w : World} {base : Nat} {v : Value} {xs : List Spot} (h : w.ownsRow base 80 3 v xs.length (xs.flatMap encS)) (hn : xs.length ≤ 9223372036854775807) : ∃ A c, v = .slice A xs.length c ∧ xs.length ≤ c ∧ Kd.C k80 w A xs.length xs :=
  row_read (d := k80) (enc := encS) (fun w x => k80_mk w x) (fun _ => rfl) h hn
theorem C_one_spot {w : World} {g : Nat} (x : Spot) (h : w.heap[g]? = some (.cells #[.int .i64 x.f0, .int .i64 x.f1, .bool x.f2] 80 (0, 0))) : Kd.C k80 w (some ⟨g, 0, none⟩) [x].length [x] := by
  refine ⟨rfl, by simp, fun _ => ⟨_, rfl, fun j p hj => ?_⟩⟩
  have hj5 : j < 1 := (List.getElem?_eq_some_iff.1 hj).1
  obtain rfl : j = 0 := by omega
  cases hj; refine ⟨_, rfl, k80_mk w _, fun i u hu => ?_⟩
  have hi := (List.getElem?_eq_some_iff.1 hu).1; simp at hi; have hh : i = 0 ∨ i = 1 ∨ i = 2 := by omega
  rcases hh with rfl | rfl | rfl <;> cases hu <;> exact cell3 h _ rfl
theorem spots_C {w : World} {base n c : Nat} {A : Option Addr} {xs : List Spot} (h : w.ownsRow base 80 3 (.slice A n c) xs.length (xs.flatMap encS)) (hn : xs.length ≤ 9223372036854775807) : Kd.C k80 w A xs.length xs := by
  obtain ⟨A1, c1, e, _, h2⟩ := spots_read h hn; cases e; exact h2
theorem own_new1 {w : World} {base e sz n : Nat} (hn : w.heap.size = n) (hb : base ≤ n) : (w.alloc (.cells #[] e)).ownsRow base e sz (.slice (some ⟨n, 0, none⟩) 0 0) 0 [] := by
  subst hn; exact own_new0 hb
end Go.Proofs.Ytemeapfnfegkiaa.D
end
section
/- Package disk: DiskBeside. -/
namespace Go.Proofs.Ytemeapfnfegkiaa.D
open Go Go.RowKit Go.Proofs.YtemeapfnfegkiaaK Go.Proofs.YtemeapfnfegkiaaW.PrintWords Go.Proofs.YtemeapfnfegkiaaW.PrintLast Go.Proofs.YtemeapfnfegkiaaW.PrintMore Go.Proofs.Ytemeapfnfegkiaa.PR
set_option linter.unusedVariables false
set_option linter.unusedSimpArgs false

set_option maxRecDepth 100000 in
set_option maxHeartbeats 8000000 in
theorem DiskBeside_calls (D : Dat) (A4 : Option Addr) (c4 : Nat) (A5 : Option Addr) (c5 : Nat) (d : Spot) (w : World) (h : Arg w D A4 c4 A5 c5) (hz : D.spots.length * 24 ≤ 140737488351232 ∧ D.told.length * 24 ≤ 140737488351232) :
    Calls Try.prog 15 #[.agg #[.string D.nm, .int .i64 D.rad, .int .i64 D.lo, .int .i64 D.hi, .slice A4 D.spots.length c4, .slice A5 D.told.length c5], .agg #[.int .i64 d.f0, .int .i64 d.f1, .bool d.f2]] w
      fun e w' => e = .returned (.bool true) ∧ Below w.heap.size w w' := by
  have hb1 := below_alloc (below_alloc (below_alloc (Below.refl w.heap.size w) (.cells (shP D A4 c4 A5 c5) 27)) (.cells #[.int .i64 d.f0, .int .i64 d.f1, .bool d.f2] 80)) (.cells (shP D A4 c4 A5 c5) 27)
  have HB := Aside0.mk hb1
  have HA := Aside0.mk h
  have HZ := Aside0.mk hz
  clear h hz hb1
  obtain ⟨q, hq⟩ : ∃ q, w.heap.size = q := ⟨_, rfl⟩
  go_enter Try.func15, Try.ntmps15
  go_upto_region 2 with (fail)
  have HS := Aside0.mk (blk_alloc (blk_alloc (blk_new w (.cells (shP D A4 c4 A5 c5) 27)) (.cells #[.int .i64 d.f0, .int .i64 d.f1, .bool d.f2] 80)) (.cells (shP D A4 c4 A5 c5) 27))
  have HX := Aside0.mk (blk_alloc (new_at (W := w.alloc (.cells (shP D A4 c4 A5 c5) 27)) (n := w.heap.size + 1) (by simp) (.cells #[.int .i64 d.f0, .int .i64 d.f1, .bool d.f2] 80)) (.cells (shP D A4 c4 A5 c5) 27))
  have HM := Aside0.mk (new_at (W := (w.alloc (.cells (shP D A4 c4 A5 c5) 27)).alloc (.cells #[.int .i64 d.f0, .int .i64 d.f1, .bool d.f2] 80)) (n := w.heap.size + 1 + 1) (by simp) (.cells (shP D A4 c4 A5 c5) 27))
  have hws : (((w.alloc (.cells (shP D A4 c4 A5 c5) 27)).alloc (.cells #[.int .i64 d.f0, .int .i64 d.f1, .bool d.f2] 80)).alloc (.cells (shP D A4 c4 A5 c5) 27)).heap.size = w.heap.size + 3 := by simp
  generalize ((w.alloc (.cells (shP D A4 c4 A5 c5) 27)).alloc (.cells #[.int .i64 d.f0, .int .i64 d.f1, .bool d.f2] 80)).alloc (.cells (shP D A4 c4 A5 c5) 27) = w1 at HB HS HX HM hws ⊢
  rw [hq] at HS HX HM
  have HWS := Aside0.mk (hws.trans (by rw [hq]))
  have HQ := Aside0.mk hq
  clear hws hq
  have hk0 : Below w1.heap.size w1 w1.drew := below_drew1 (Below.refl _ _)
  have k4 : w1.drew.cell? ⟨q, 4, none⟩ = some (.slice A4 D.spots.length c4) := (blk_cell HS.out 4).trans rfl
  have x0 : w1.drew.cell? ⟨q + 1, 0, none⟩ = some (.int .i64 d.f0) := (blk_cell HX.out 0).trans rfl
  have x1 : w1.drew.cell? ⟨q + 1, 1, none⟩ = some (.int .i64 d.f1) := (blk_cell HX.out 1).trans rfl
  have x2 : w1.drew.cell? ⟨q + 1, 2, none⟩ = some (.bool d.f2) := (blk_cell HX.out 2).trans rfl
  have HA1 := Aside0.mk (HA.out.below HB.out)
  have hln : D.spots.length * 24 ≤ 140737488351232 := HZ.out.1
  refine region_mid (X := Nat × Nat × Nat × Nat × Nat × Nat) (fun x a => ((((((((a.put (some 25) (.slice (some ⟨x.1, 0, none⟩) 0 0)).put (some 26) (.pointer (some ⟨q, 4, none⟩))).put (some 27) (.slice A4 D.spots.length c4)).put (some 28) (.slice (some ⟨x.2.1, 0, none⟩) D.spots.length x.2.2.1)).put (some 29) (.agg #[.int .i64 d.f0, .int .i64 d.f1, .bool d.f2])).put (some 30) (.slice (some ⟨x.2.2.2.1, 0, none⟩) 1 1)).put (some 31) (.slice (some ⟨x.2.2.2.2.1, 0, none⟩) (D.spots.length + 1) x.2.2.2.2.2)).put (some 32) (.pointer (some ⟨q + 1 + 1, 4, none⟩))))
    (fun x w' => ∃ w0, w' = w0.setCell ⟨q + 1 + 1, 4, none⟩ (.slice (some ⟨x.2.2.2.2.1, 0, none⟩) (D.spots.length + 1) x.2.2.2.2.2) ∧ Below w1.heap.size w1 w0 ∧ w0.ownsRow w1.heap.size 80 3 (.slice (some ⟨x.2.2.2.2.1, 0, none⟩) (D.spots.length + 1) x.2.2.2.2.2) (D.spots ++ [d]).length ((D.spots ++ [d]).flatMap encS)) ?_ ?_
  · go_region_held3 (fun w' => w'.cell? ⟨q, 4, none⟩ = some (.slice A4 D.spots.length c4) ∧ w'.cell? ⟨q + 1, 0, none⟩ = some (.int .i64 d.f0) ∧ w'.cell? ⟨q + 1, 1, none⟩ = some (.int .i64 d.f1) ∧ w'.cell? ⟨q + 1, 2, none⟩ = some (.bool d.f2))
      (first | (refine ⟨(blk_cell (blk_far (p := ⟨q + 1 + 1, 4, none⟩) (blk_below HS.out hz31) (show q ≠ q + 1 + 1 by omega) _) 4).trans rfl, (blk_cell (blk_far (p := ⟨q + 1 + 1, 4, none⟩) (blk_below HX.out hz31) (show q + 1 ≠ q + 1 + 1 by omega) _) 0).trans rfl, (blk_cell (blk_far (p := ⟨q + 1 + 1, 4, none⟩) (blk_below HX.out hz31) (show q + 1 ≠ q + 1 + 1 by omega) _) 1).trans rfl, (blk_cell (blk_far (p := ⟨q + 1 + 1, 4, none⟩) (blk_below HX.out hz31) (show q + 1 ≠ q + 1 + 1 by omega) _) 2).trans rfl⟩) | (refine ⟨(blk_cell (blk_below HS.out (by repeat (first | assumption | exact Below.refl _ _ | apply below_alloc | apply below_drew1))) 4).trans rfl, (blk_cell (blk_below HX.out (by repeat (first | assumption | exact Below.refl _ _ | apply below_alloc | apply below_drew1))) 0).trans rfl, (blk_cell (blk_below HX.out (by repeat (first | assumption | exact Below.refl _ _ | apply below_alloc | apply below_drew1))) 1).trans rfl, (blk_cell (blk_below HX.out (by repeat (first | assumption | exact Below.refl _ _ | apply below_alloc | apply below_drew1))) 2).trans rfl⟩))
      (first
        | (refine step_spots (base := w1.heap.size) (ys := []) (xs := D.spots) (k0 := D.spots.length) rfl (.tmp 25) (.tmp 27) rfl rfl rfl rfl rfl (by simp) (by first | exact pw_own_below (own_new0 (w := w1) (Nat.le_refl _)) (by repeat (first | assumption | exact Below.refl _ _ | apply below_alloc | apply below_drew1)) | exact pw_own_below (own_new1 (w := w1.alloc (.cells #[.int .i64 d.f0, .int .i64 d.f1, .bool d.f2] 80)) (n := w1.heap.size + 1) (by simp) (by omega)) (by repeat (first | assumption | exact Below.refl _ _ | apply below_alloc | apply below_drew1))) (Kd.C_below HA1.out.s (by repeat (first | assumption | exact Below.refl _ _ | apply below_alloc | apply below_drew1))) (by simp; omega) (Below.size (by repeat (first | assumption | exact Below.refl _ _ | apply below_alloc | apply below_drew1))) ?_
           intro g28 c28 w5 hg28 ho28 hz28 hr28
           replace hz28 := Below.trans (show Below w1.heap.size w1 _ from by repeat (first | assumption | exact Below.refl _ _ | apply below_alloc | apply below_drew1)) hz28)
        | (refine step_spots (base := w1.heap.size) (ys := D.spots) (xs := [d]) (n := 1) (k0 := D.spots.length + 1) rfl (.tmp 28) (.tmp 30) rfl rfl rfl rfl rfl (by simp) (by first | exact ho28 | exact pw_own_below ho28 (by repeat (first | assumption | exact Below.refl _ _ | apply below_alloc | apply below_drew1))) (by first | exact C_one_spot d (blk_new _ _) | exact C_one_spot d ((hr28.block _ (by simp <;> omega) (by simp <;> omega)).trans (new_at (W := w1.alloc (.cells #[] 80)) (n := w1.heap.size + 1) (by simp) _)) | exact C_one_spot d ((hr28.block _ (by simp <;> omega) (by simp <;> omega)).trans (blk_alloc (blk_new w1 _) _))) (by simp; omega) (Below.size (by repeat (first | assumption | exact Below.refl _ _ | apply below_alloc | apply below_drew1))) ?_
           intro g31 c31 w6 hg31 ho31 hz31 hr31
           replace hz31 := Below.trans (show Below w1.heap.size w1 _ from by repeat (first | assumption | exact Below.refl _ _ | apply below_alloc | apply below_drew1)) hz31
           have n31 := blk_below HM.out hz31
           have m4 := (blk_cell n31 4).trans rfl
           have f4 := blk_frozen n31 4
           have m31 := blk_lt n31
           clear n31))
    all_goals exact ⟨(_, _, _, _, _, _), rfl, _, rfl, hz31, ho31⟩
  · rintro ⟨g25, g28, c28, g30, g31, c31⟩ w' ⟨w0, rfl, hz0, ho31⟩
    simp only at ho31
    have hbase : w1.heap.size = q + 3 := HWS.out
    have ho6 := own_far ho31 (p := ⟨q + 1 + 1, 4, none⟩) (show q + 1 + 1 < w1.heap.size by omega) (.slice (some ⟨g31, 0, none⟩) (D.spots.length + 1) c31)
    obtain ⟨A6, c6, e6, hc6, hR6⟩ := spots_read (own_far ho31 (p := ⟨q + 1 + 1, 4, none⟩) (show q + 1 + 1 < w1.heap.size by omega) (.slice (some ⟨g31, 0, none⟩) (D.spots.length + 1) c31)) (by simp; omega)
    have ee : (.slice (some ⟨g31, 0, none⟩) (D.spots.length + 1) c31 : Value) = .slice A6 (de D d).spots.length c6 := e6
    have n1 := blk_far (p := ⟨q + 1 + 1, 4, none⟩) (blk_below HS.out hz0) (show q ≠ q + 1 + 1 by omega) (.slice (some ⟨g31, 0, none⟩) (D.spots.length + 1) c31)
    have n2 := blk_far (p := ⟨q + 1 + 1, 4, none⟩) (blk_below HX.out hz0) (show q + 1 ≠ q + 1 + 1 by omega) (.slice (some ⟨g31, 0, none⟩) (D.spots.length + 1) c31)
    have n3 := blk_set (blk_below HM.out hz0) 4 (.slice (some ⟨g31, 0, none⟩) (D.spots.length + 1) c31)
    have n4 : Below w.heap.size w (w0.setCell ⟨q + 1 + 1, 4, none⟩ (.slice (some ⟨g31, 0, none⟩) (D.spots.length + 1) c31)) := below_set (HB.out.trans (hz0.mono HB.out.size)) (by rw [HQ.out]; omega)
    dsimp only
    rw [ee, hbase] at ho6
    rw [ee] at n1 n2 n3 n4 hR6 ⊢
    clear e6 ee ho31 hz0 hbase HS HX HM HB HA1
    generalize w0.setCell ⟨q + 1 + 1, 4, none⟩ (.slice A6 (de D d).spots.length c6) = w2 at n1 n2 n3 n4 hR6 ho6 ⊢
    have HS := Aside0.mk n1
    have HX := Aside0.mk n2
    obtain ⟨D2, hD2⟩ : ∃ D2, D2 = de D d := ⟨_, rfl⟩
    have HM : Aside0 (w2.heap[q + 1 + 1]? = some (.cells #[.string D2.nm, .int .i64 D2.rad, .int .i64 D2.lo, .int .i64 D2.hi, .slice A6 D2.spots.length c6, .slice A5 D2.told.length c5] 27 (0, 0))) := ⟨by rw [hD2]; exact n3⟩
    have HB := Aside0.mk n4
    have HA1 : Aside0 (Arg w2 D2 A6 c6 A5 c5) := ⟨by rw [hD2]; exact ⟨HA.out.nm, hR6, hc6, (HA.out.below n4).t, HA.out.tc⟩⟩
    have HOW : Aside0 (w2.ownsRow (q + 3) 80 3 (.slice A6 D2.spots.length c6) D2.spots.length (D2.spots.flatMap encS)) := ⟨by rw [hD2]; exact ho6⟩
    have HD2 := Aside0.mk hD2
    clear n1 n2 n3 n4 hR6 hc6 hD2 ho6
    clear hk0 k4 x0 x1 x2 hln HWS
    obtain ⟨K1, hK1⟩ := (rValid HA.out.fits).rounds
    obtain ⟨K2, hK2⟩ := (rValid HA1.out.fits).rounds
    have HK1 := Aside0.mk hK1
    have HK2 := Aside0.mk hK2
    clear hK1 hK2
    have k0 := (blk_cell HS.out 0).trans rfl
    have k1 := (blk_cell HS.out 1).trans rfl
    have k2 := (blk_cell HS.out 2).trans rfl
    have k3 := (blk_cell HS.out 3).trans rfl
    have k4 := (blk_cell HS.out 4).trans rfl
    have k5 := (blk_cell HS.out 5).trans rfl
    have kl := blk_lt HS.out
    go_wp2_with fail
    clear k0 k1 k2 k3 k4 k5 kl
    have hA := HA.out.below HB.out
    refine (helioscopelaw01_valid.calls K1 D.nm D.rad D.lo D.hi A4 c4 D.spots A5 c5 D.told _ w2 hA.s hA.sc hA.t hA.tc HK1.out).mono ?_
    clear hA
    rintro e w3 ⟨rfl, hb⟩
    replace HA1 := Aside0.mk (HA1.out.below hb)
    replace HB := Aside0.mk (HB.out.trans (hb.mono HB.out.size))
    replace HS := Aside0.mk (blk_below HS.out hb)
    replace HX := Aside0.mk (blk_below HX.out hb)
    replace HM := Aside0.mk (blk_below HM.out hb)
    replace HOW := Aside0.mk (pw_own_below HOW.out hb)
    clear hb
    clear HK1
    by_cases hc : (checkF D).2.2 = 0
    · rw [decide_eq_true hc]
      have HC := Aside0.mk hc
      clear hc
      have k0 := (blk_cell HM.out 0).trans rfl
      have k1 := (blk_cell HM.out 1).trans rfl
      have k2 := (blk_cell HM.out 2).trans rfl
      have k3 := (blk_cell HM.out 3).trans rfl
      have k4 := (blk_cell HM.out 4).trans rfl
      have k5 := (blk_cell HM.out 5).trans rfl
      have kl := blk_lt HM.out
      go_wp2_with fail
      clear k0 k1 k2 k3 k4 k5 kl
      refine (helioscopelaw01_valid.calls K2 D2.nm D2.rad D2.lo D2.hi A6 c6 D2.spots A5 c5 D2.told _ w3 HA1.out.s HA1.out.sc HA1.out.t HA1.out.tc HK2.out).mono ?_
      rintro e w4 ⟨rfl, hb⟩
      replace HA1 := Aside0.mk (HA1.out.below hb)
      replace HB := Aside0.mk (HB.out.trans (hb.mono HB.out.size))
      replace HS := Aside0.mk (blk_below HS.out hb)
      replace HX := Aside0.mk (blk_below HX.out hb)
      replace HM := Aside0.mk (blk_below HM.out hb)
      replace HOW := Aside0.mk (pw_own_below HOW.out hb)
      clear hb
      clear HK2
      by_cases hc2 : (checkF D2).2.2 = 0
      · rw [decide_eq_true hc2]
        have HC2 := Aside0.mk hc2
        have hV2 := (check_valid hc2).1
        rw [HD2.out] at hV2
        obtain ⟨b, hb⟩ : ∃ b, onB (de D d) D.spots.length = b := ⟨_, rfl⟩
        have hon : helioscoperef01_On.f D.nm D.rad D.lo D.hi D.spots D.told d.f0 d.f1 d.f2 = some b := by
          have := rOn hV2 D.spots.length (by simp) d.f2
          rw [rd_new, hb] at this
          exact this
        have HON := Aside0.mk hon
        have HO := Aside0.mk hb
        clear hc2 hV2 hon hb
        have k0 := (blk_cell HS.out 0).trans rfl
        have k1 := (blk_cell HS.out 1).trans rfl
        have k2 := (blk_cell HS.out 2).trans rfl
        have k3 := (blk_cell HS.out 3).trans rfl
        have k4 := (blk_cell HS.out 4).trans rfl
        have k5 := (blk_cell HS.out 5).trans rfl
        have kl := blk_lt HS.out
        have x0 := (blk_cell HX.out 0).trans rfl
        have x1 := (blk_cell HX.out 1).trans rfl
        have x2 := (blk_cell HX.out 2).trans rfl
        have xl := blk_lt HX.out
        go_wp2_with fail
        clear k0 k1 k2 k3 k4 k5 kl
        clear x0 x1 x2 xl
        have hA := HA.out.below HB.out
        refine (helioscoperef01_On.calls D.nm D.rad D.lo D.hi A4 c4 D.spots A5 c5 D.told d.f0 d.f1 d.f2 b w4 hA.s hA.sc hA.t hA.tc HON.out).mono ?_
        clear hA
        rintro e w5 ⟨rfl, hb⟩
        replace HA1 := Aside0.mk (HA1.out.below hb)
        replace HB := Aside0.mk (HB.out.trans (hb.mono HB.out.size))
        replace HS := Aside0.mk (blk_below HS.out hb)
        replace HX := Aside0.mk (blk_below HX.out hb)
        replace HM := Aside0.mk (blk_below HM.out hb)
        replace HOW := Aside0.mk (pw_own_below HOW.out hb)
        clear hb
        clear HON HX
        cases b
        · -- beside the sun
          have e1 := span_off HC.out (by rw [← HD2.out]; exact HC2.out) HO.out (fun _ g => manyF g)
          have e2 := span_off HC.out (by rw [← HD2.out]; exact HC2.out) HO.out (fun _ g => spotsTo g 7)
          have e3 := span_off HC.out (by rw [← HD2.out]; exact HC2.out) HO.out (fun _ g => 10 * manyF g + spotsTo g 7)
          have e4 := enter_off HC.out (by rw [← HD2.out]; exact HC2.out) HO.out
          have e5 := is_off HC.out (by rw [← HD2.out]; exact HC2.out) HO.out
          rw [← HD2.out] at e1 e2 e3 e4 e5
          obtain ⟨en, hen⟩ : ∃ en, enterE D [] = en := ⟨_, rfl⟩
          obtain ⟨⟨a1, b1⟩, hs1⟩ : ∃ s, spanF D (fun _ g => manyF g) = s := ⟨_, rfl⟩
          obtain ⟨⟨a2, b2⟩, hs2⟩ : ∃ s, spanF D (fun _ g => spotsTo g 7) = s := ⟨_, rfl⟩
          obtain ⟨⟨a3, b3⟩, hs3⟩ : ∃ s, spanF D (fun _ g => 10 * manyF g + spotsTo g 7) = s := ⟨_, rfl⟩
          rw [hs1] at e1
          rw [hs2] at e2
          rw [hs3] at e3
          rw [hen] at e4 e5
          obtain ⟨⟨i1, i2⟩, hi⟩ : ∃ s, isF D2 (D.spots.length : Int) = s := ⟨_, rfl⟩
          rw [hi] at e5
          have E1 := Aside0.mk e1
          have E2 := Aside0.mk e2
          have E3 := Aside0.mk e3
          have E4 := Aside0.mk e4
          have E5 := Aside0.mk e5
          have H1 := Aside0.mk hs1
          have H2 := Aside0.mk hs2
          have H3 := Aside0.mk hs3
          have HEN := Aside0.mk hen
          have HI := Aside0.mk hi
          clear e1 e2 e3 e4 e5 hs1 hs2 hs3 hen hi
          have k0 := (blk_cell HS.out 0).trans rfl
          have k1 := (blk_cell HS.out 1).trans rfl
          have k2 := (blk_cell HS.out 2).trans rfl
          have k3 := (blk_cell HS.out 3).trans rfl
          have k4 := (blk_cell HS.out 4).trans rfl
          have k5 := (blk_cell HS.out 5).trans rfl
          have kl := blk_lt HS.out
          go_wp2_with fail
          clear k0 k1 k2 k3 k4 k5 kl
          refine (Counts_calls D A4 c4 A5 c5 w5 (HA.out.below HB.out)).mono ?_
          rw [HEN.out, H1.out, H2.out]
          rintro e w6 ⟨rfl, hb⟩
          replace HA1 := Aside0.mk (HA1.out.below hb)
          replace HB := Aside0.mk (HB.out.trans (hb.mono HB.out.size))
          replace HS := Aside0.mk (blk_below HS.out hb)
          replace HM := Aside0.mk (blk_below HM.out hb)
          clear hb
          go_upto_region 11 with (fail)
          have hb : Below w6.heap.size w6 ((w6.alloc (.cells #[.int .i64 a1, .int .i64 b1] 23)).alloc (.cells #[.int .i64 a2, .int .i64 b2] 23)) := below_alloc (below_alloc (Below.refl _ _) _) _
          have n1 : Aside0 (((w6.alloc (.cells #[.int .i64 a1, .int .i64 b1] 23)).alloc (.cells #[.int .i64 a2, .int .i64 b2] 23)).heap[w6.heap.size]? = some (.cells #[.int .i64 a1, .int .i64 b1] 23 (0, 0))) := ⟨blk_alloc (blk_new _ _) _⟩
          have n2 : Aside0 (((w6.alloc (.cells #[.int .i64 a1, .int .i64 b1] 23)).alloc (.cells #[.int .i64 a2, .int .i64 b2] 23)).heap[w6.heap.size + 1]? = some (.cells #[.int .i64 a2, .int .i64 b2] 23 (0, 0))) := ⟨new_at (by simp) _⟩
          replace HA1 := Aside0.mk (HA1.out.below hb)
          replace HB := Aside0.mk (HB.out.trans (hb.mono HB.out.size))
          replace HS := Aside0.mk (blk_below HS.out hb)
          replace HM := Aside0.mk (blk_below HM.out hb)
          clear hb
          generalize ((w6.alloc (.cells #[.int .i64 a1, .int .i64 b1] 23)).alloc (.cells #[.int .i64 a2, .int .i64 b2] 23)) = w7 at HA1 HB HS HM n1 n2 ⊢
          obtain ⟨P, hP⟩ : ∃ P, w6.heap.size = P := ⟨_, rfl⟩
          rw [hP] at n1 n2 ⊢
          clear hP
          have HP := n1
          have HR := n2
          clear n1 n2
          have k0 := (blk_cell HM.out 0).trans rfl
          have k1 := (blk_cell HM.out 1).trans rfl
          have k2 := (blk_cell HM.out 2).trans rfl
          have k3 := (blk_cell HM.out 3).trans rfl
          have k4 := (blk_cell HM.out 4).trans rfl
          have k5 := (blk_cell HM.out 5).trans rfl
          have kl := blk_lt HM.out
          go_wp2_with fail
          clear k0 k1 k2 k3 k4 k5 kl
          refine (Counts_calls D2 A6 c6 A5 c5 w7 HA1.out).mono ?_
          rw [E4.out, E1.out, E2.out]
          rintro e w8 ⟨rfl, hb⟩
          replace HA1 := Aside0.mk (HA1.out.below hb)
          replace HB := Aside0.mk (HB.out.trans (hb.mono HB.out.size))
          replace HS := Aside0.mk (blk_below HS.out hb)
          replace HM := Aside0.mk (blk_below HM.out hb)
          replace HP := Aside0.mk (blk_below HP.out hb)
          replace HR := Aside0.mk (blk_below HR.out hb)
          clear hb
          go_upto_region 12 with (fail)
          have hb : Below w8.heap.size w8 ((w8.alloc (.cells #[.int .i64 a1, .int .i64 b1] 23)).alloc (.cells #[.int .i64 a2, .int .i64 b2] 23)) := below_alloc (below_alloc (Below.refl _ _) _) _
          have n1 : Aside0 (((w8.alloc (.cells #[.int .i64 a1, .int .i64 b1] 23)).alloc (.cells #[.int .i64 a2, .int .i64 b2] 23)).heap[w8.heap.size]? = some (.cells #[.int .i64 a1, .int .i64 b1] 23 (0, 0))) := ⟨blk_alloc (blk_new _ _) _⟩
          have n2 : Aside0 (((w8.alloc (.cells #[.int .i64 a1, .int .i64 b1] 23)).alloc (.cells #[.int .i64 a2, .int .i64 b2] 23)).heap[w8.heap.size + 1]? = some (.cells #[.int .i64 a2, .int .i64 b2] 23 (0, 0))) := ⟨new_at (by simp) _⟩
          replace HA1 := Aside0.mk (HA1.out.below hb)
          replace HB := Aside0.mk (HB.out.trans (hb.mono HB.out.size))
          replace HS := Aside0.mk (blk_below HS.out hb)
          replace HM := Aside0.mk (blk_below HM.out hb)
          replace HP := Aside0.mk (blk_below HP.out hb)
          replace HR := Aside0.mk (blk_below HR.out hb)
          clear hb
          generalize ((w8.alloc (.cells #[.int .i64 a1, .int .i64 b1] 23)).alloc (.cells #[.int .i64 a2, .int .i64 b2] 23)) = w9 at HA1 HB HS HM HP HR n1 n2 ⊢
          obtain ⟨T, hT⟩ : ∃ P, w8.heap.size = P := ⟨_, rfl⟩
          rw [hT] at n1 n2 ⊢
          clear hT
          have HT := n1
          have HU := n2
          clear n1 n2
          have k0 := (blk_cell HS.out 0).trans rfl
          have k1 := (blk_cell HS.out 1).trans rfl
          have k2 := (blk_cell HS.out 2).trans rfl
          have k3 := (blk_cell HS.out 3).trans rfl
          have k4 := (blk_cell HS.out 4).trans rfl
          have k5 := (blk_cell HS.out 5).trans rfl
          have kl := blk_lt HS.out
          go_wp2_with fail
          clear k0 k1 k2 k3 k4 k5 kl
          refine (Number_calls D A4 c4 A5 c5 w9 (HA.out.below HB.out)).mono ?_
          rw [HEN.out, H3.out]
          rintro e w10 ⟨rfl, hb⟩
          replace HA1 := Aside0.mk (HA1.out.below hb)
          replace HB := Aside0.mk (HB.out.trans (hb.mono HB.out.size))
          replace HS := Aside0.mk (blk_below HS.out hb)
          replace HM := Aside0.mk (blk_below HM.out hb)
          replace HP := Aside0.mk (blk_below HP.out hb)
          replace HR := Aside0.mk (blk_below HR.out hb)
          replace HT := Aside0.mk (blk_below HT.out hb)
          replace HU := Aside0.mk (blk_below HU.out hb)
          clear hb
          go_upto_region 13 with (fail)
          have hb : Below w10.heap.size w10 (w10.alloc (.cells #[.int .i64 a3, .int .i64 b3] 23)) := below_alloc (Below.refl _ _) _
          have n1 : Aside0 ((w10.alloc (.cells #[.int .i64 a3, .int .i64 b3] 23)).heap[w10.heap.size]? = some (.cells #[.int .i64 a3, .int .i64 b3] 23 (0, 0))) := ⟨blk_new _ _⟩
          replace HA1 := Aside0.mk (HA1.out.below hb)
          replace HB := Aside0.mk (HB.out.trans (hb.mono HB.out.size))
          replace HS := Aside0.mk (blk_below HS.out hb)
          replace HM := Aside0.mk (blk_below HM.out hb)
          replace HP := Aside0.mk (blk_below HP.out hb)
          replace HR := Aside0.mk (blk_below HR.out hb)
          replace HT := Aside0.mk (blk_below HT.out hb)
          replace HU := Aside0.mk (blk_below HU.out hb)
          clear hb
          generalize w10.alloc (.cells #[.int .i64 a3, .int .i64 b3] 23) = w11 at HA1 HB HS HM HP HR HT HU n1 ⊢
          obtain ⟨X, hX⟩ : ∃ P, w10.heap.size = P := ⟨_, rfl⟩
          rw [hX] at n1 ⊢
          clear hX
          have HXN := n1
          clear n1
          have k0 := (blk_cell HM.out 0).trans rfl
          have k1 := (blk_cell HM.out 1).trans rfl
          have k2 := (blk_cell HM.out 2).trans rfl
          have k3 := (blk_cell HM.out 3).trans rfl
          have k4 := (blk_cell HM.out 4).trans rfl
          have k5 := (blk_cell HM.out 5).trans rfl
          have kl := blk_lt HM.out
          go_wp2_with fail
          clear k0 k1 k2 k3 k4 k5 kl
          refine (Number_calls D2 A6 c6 A5 c5 w11 HA1.out).mono ?_
          rw [E4.out, E3.out]
          rintro e w12 ⟨rfl, hb⟩
          replace HA1 := Aside0.mk (HA1.out.below hb)
          replace HB := Aside0.mk (HB.out.trans (hb.mono HB.out.size))
          replace HS := Aside0.mk (blk_below HS.out hb)
          replace HM := Aside0.mk (blk_below HM.out hb)
          replace HP := Aside0.mk (blk_below HP.out hb)
          replace HR := Aside0.mk (blk_below HR.out hb)
          replace HT := Aside0.mk (blk_below HT.out hb)
          replace HU := Aside0.mk (blk_below HU.out hb)
          replace HXN := Aside0.mk (blk_below HXN.out hb)
          clear hb
          go_upto_region 14 with (fail)
          have hb : Below w12.heap.size w12 (w12.alloc (.cells #[.int .i64 a3, .int .i64 b3] 23)) := below_alloc (Below.refl _ _) _
          have n1 : Aside0 ((w12.alloc (.cells #[.int .i64 a3, .int .i64 b3] 23)).heap[w12.heap.size]? = some (.cells #[.int .i64 a3, .int .i64 b3] 23 (0, 0))) := ⟨blk_new _ _⟩
          replace HA1 := Aside0.mk (HA1.out.below hb)
          replace HB := Aside0.mk (HB.out.trans (hb.mono HB.out.size))
          replace HS := Aside0.mk (blk_below HS.out hb)
          replace HM := Aside0.mk (blk_below HM.out hb)
          replace HP := Aside0.mk (blk_below HP.out hb)
          replace HR := Aside0.mk (blk_below HR.out hb)
          replace HT := Aside0.mk (blk_below HT.out hb)
          replace HU := Aside0.mk (blk_below HU.out hb)
          replace HXN := Aside0.mk (blk_below HXN.out hb)
          clear hb
          generalize w12.alloc (.cells #[.int .i64 a3, .int .i64 b3] 23) = w13 at HA1 HB HS HM HP HR HT HU HXN n1 ⊢
          obtain ⟨Y, hY⟩ : ∃ P, w12.heap.size = P := ⟨_, rfl⟩
          rw [hY] at n1 ⊢
          clear hY
          have HYN := n1
          clear n1
          have p0 := (blk_cell HP.out 0).trans rfl
          have p1 := (blk_cell HP.out 1).trans rfl
          have pl := blk_lt HP.out
          have r0 := (blk_cell HR.out 0).trans rfl
          have r1 := (blk_cell HR.out 1).trans rfl
          have rl := blk_lt HR.out
          have t0 := (blk_cell HT.out 0).trans rfl
          have t1 := (blk_cell HT.out 1).trans rfl
          have tl := blk_lt HT.out
          have u0 := (blk_cell HU.out 0).trans rfl
          have u1 := (blk_cell HU.out 1).trans rfl
          have ul := blk_lt HU.out
          have x0 := (blk_cell HXN.out 0).trans rfl
          have x1 := (blk_cell HXN.out 1).trans rfl
          have xl := blk_lt HXN.out
          have y0 := (blk_cell HYN.out 0).trans rfl
          have y1 := (blk_cell HYN.out 1).trans rfl
          have yl := blk_lt HYN.out
          go_upto_region 16 with (fail)
          clear p0 p1 pl
          clear r0 r1 rl
          clear t0 t1 tl
          clear u0 u1 ul
          clear x0 x1 xl
          clear y0 y1 yl
          have k0 := (blk_cell HS.out 0).trans rfl
          have k1 := (blk_cell HS.out 1).trans rfl
          have k2 := (blk_cell HS.out 2).trans rfl
          have k3 := (blk_cell HS.out 3).trans rfl
          have k4 := (blk_cell HS.out 4).trans rfl
          have k5 := (blk_cell HS.out 5).trans rfl
          have kl := blk_lt HS.out
          have m0 := (blk_cell HM.out 0).trans rfl
          have m1 := (blk_cell HM.out 1).trans rfl
          have m2 := (blk_cell HM.out 2).trans rfl
          have m3 := (blk_cell HM.out 3).trans rfl
          have m4 := (blk_cell HM.out 4).trans rfl
          have m5 := (blk_cell HM.out 5).trans rfl
          have ml := blk_lt HM.out
          go_wp2_with fail
          clear k0 k1 k2 k3 k4 k5 kl
          clear m0 m1 m2 m3 m4 m5 ml
          refine (Is_calls D2 A6 c6 A5 c5 (D.spots.length : Int) w13 HA1.out).mono ?_
          rw [HI.out]
          rintro e w14 ⟨rfl, hb⟩
          replace HB := Aside0.mk (HB.out.trans (hb.mono HB.out.size))
          clear hb
          clear HA1 HS HM HP HR HT HU HXN HYN
          go_upto_region 17 with (fail)
          have h5 := E5.out
          clear E1 E2 E3 E4 E5
          by_cases hz : en = 0
          · subst hz
            have h6 : (i2 == 0 && i1 == 2) = true := h5
            simp only [Bool.and_eq_true, beq_iff_eq] at h6
            obtain ⟨rfl, rfl⟩ := h6
            clear h5
            go_wp2_with fail
            refine (Awake_calls _).mono ?_
            rintro e w15 ⟨rfl, hb⟩
            replace HB := Aside0.mk (HB.out.trans (hb.mono HB.out.size))
            clear hb
            go_wp2
            go_ret
            exact ⟨rfl, HB.out⟩
          · have hz1 : (en == 0) = false := by simpa using hz
            rw [hz1] at h5
            by_cases hi : i2 = 0
            · subst hi
              have hi1 : (i1 == 2) = false := by simpa using h5
              clear h5 hz
              go_wp2_with fail
              refine (Awake_calls _).mono ?_
              rintro e w15 ⟨rfl, hb⟩
              replace HB := Aside0.mk (HB.out.trans (hb.mono HB.out.size))
              clear hb
              go_wp2
              go_ret
              exact ⟨rfl, HB.out⟩
            · have hi2 : (i2 == 0) = false := by simpa using hi
              clear h5 hz hi
              go_wp2_with fail
              refine (Awake_calls _).mono ?_
              rintro e w15 ⟨rfl, hb⟩
              replace HB := Aside0.mk (HB.out.trans (hb.mono HB.out.size))
              clear hb
              go_wp2
              go_ret
              exact ⟨rfl, HB.out⟩
        · -- on the sun: what was told is taken away
          have hq0 := HQ.out
          have hc1 := check_nil HC.out
          have hc3 : (checkF (d0 D2)).2.2 = 0 := check_nil HC2.out
          obtain ⟨e0, e1, l1, l2⟩ := beside_on hc1 (by rw [← HD2.out]; exact hc3) HO.out
          rw [← HD2.out] at e1 l1 l2
          clear hc1 hc3
          have hV := (check_valid (check_nil HC.out)).1
          obtain ⟨⟨a1, b1⟩, hs1⟩ : ∃ s, spanF (d0 D) (fun _ g => manyF g) = s := ⟨_, rfl⟩
          obtain ⟨⟨a2, b2⟩, hs2⟩ : ∃ s, spanF (d0 D) (fun _ g => spotsTo g 7) = s := ⟨_, rfl⟩
          obtain ⟨⟨a3, b3⟩, hs3⟩ : ∃ s, spanF (d0 D2) (fun _ g => manyF g) = s := ⟨_, rfl⟩
          obtain ⟨⟨a4, b4⟩, hs4⟩ : ∃ s, spanF (d0 D2) (fun _ g => spotsTo g 7) = s := ⟨_, rfl⟩
          have hb7 : 0 ≤ b2 ∧ b2 ≤ 7 := by
            have hne : truthsL (d0 D) 0 ≠ [] := fun x => by have := (enterE_ok e0).2.2.2.1; rw [x] at this; simp at this
            have hm := (maxL_spec (l := valsL (d0 D) (fun _ g => spotsTo g 7) (truthsL (d0 D) 0)) (fun x => hne (List.map_eq_nil_iff.1 x))).1
            have e2 : maxL (valsL (d0 D) (fun _ g => spotsTo g 7) (truthsL (d0 D) 0)) = b2 := by
              have := hs2
              unfold spanF at this
              rw [if_pos e0] at this
              exact (Prod.mk.inj this).2
            rw [e2] at hm
            obtain ⟨x, hx, rfl⟩ := mem_valsL hm
            have g := groups_le hV x.1 x.2
            have := hV.n7
            omega
          rw [hs2, hs4] at l1 l2
          have E0 := Aside0.mk e0
          have E1 := Aside0.mk e1
          have H1 := Aside0.mk hs1
          have H2 := Aside0.mk hs2
          have H3 := Aside0.mk hs3
          have H4 := Aside0.mk hs4
          have L1 : Aside0 (a2 ≤ a4) := ⟨l1⟩
          have L2 : Aside0 (b4 = b2 + 1) := ⟨l2⟩
          have B7 := Aside0.mk hb7
          clear e0 e1 l1 l2 hV hs1 hs2 hs3 hs4 hb7 hq0
          have k0 := (blk_cell HS.out 0).trans rfl
          have k1 := (blk_cell HS.out 1).trans rfl
          have k2 := (blk_cell HS.out 2).trans rfl
          have k3 := (blk_cell HS.out 3).trans rfl
          have k4 := (blk_cell HS.out 4).trans rfl
          have k5 := (blk_cell HS.out 5).trans rfl
          have kl := blk_lt HS.out
          have m0 := (blk_cell HM.out 0).trans rfl
          have m1 := (blk_cell HM.out 1).trans rfl
          have m2 := (blk_cell HM.out 2).trans rfl
          have m3 := (blk_cell HM.out 3).trans rfl
          have m4 := (blk_cell HM.out 4).trans rfl
          have m5 := (blk_cell HM.out 5).trans rfl
          have ml := blk_lt HM.out
          have f5 := blk_frozen HS.out 5
          have g5 := blk_frozen HM.out 5
          go_upto_region 7 with (fail)
          clear k0 k1 k2 k3 k4 k5 kl
          clear m0 m1 m2 m3 m4 m5 ml
          clear f5 g5
          have n1 := blk_far (p := ⟨q + 1 + 1, 5, none⟩) (blk_set HS.out 5 (.slice none 0 0)) (show q ≠ q + 1 + 1 by omega) (.slice none 0 0)
          have n2 := blk_set (blk_far (p := ⟨q, 5, none⟩) HM.out (show q + 1 + 1 ≠ q by omega) (.slice none 0 0)) 5 (.slice none 0 0)
          have n3 := below_set (j := 5) (v := .slice none 0 0) (below_set (j := 5) (v := .slice none 0 0) HB.out (by rw [HQ.out]; omega : w.heap.size ≤ q)) (by rw [HQ.out]; omega : w.heap.size ≤ q + 1 + 1)
          have n5 := own_far (own_far HOW.out (p := ⟨q, 5, none⟩) (show q < q + 3 by omega) (.slice none 0 0)) (p := ⟨q + 1 + 1, 5, none⟩) (show q + 1 + 1 < q + 3 by omega) (.slice none 0 0)
          have n4 : Arg ((w5.setCell ⟨q, 5, none⟩ (.slice none 0 0)).setCell ⟨q + 1 + 1, 5, none⟩ (.slice none 0 0)) (d0 D2) A6 c6 none 0 := ⟨HA1.out.nm, spots_C n5 HA1.out.s.2.1, HA1.out.sc, ⟨rfl, Nat.zero_le _, fun h => absurd h (Nat.lt_irrefl 0)⟩, Nat.le_refl _⟩
          clear n5
          generalize (w5.setCell ⟨q, 5, none⟩ (.slice none 0 0)).setCell ⟨q + 1 + 1, 5, none⟩ (.slice none 0 0) = w6 at n1 n2 n3 n4 ⊢
          have HS6 : Aside0 (w6.heap[q]? = some (.cells #[.string D.nm, .int .i64 D.rad, .int .i64 D.lo, .int .i64 D.hi, .slice A4 D.spots.length c4, .slice none 0 0] 27 (0, 0))) := ⟨n1⟩
          have HM6 : Aside0 (w6.heap[q + 1 + 1]? = some (.cells #[.string D2.nm, .int .i64 D2.rad, .int .i64 D2.lo, .int .i64 D2.hi, .slice A6 D2.spots.length c6, .slice none 0 0] 27 (0, 0))) := ⟨n2⟩
          have HB6 := Aside0.mk n3
          have HA6 := Aside0.mk n4
          clear n1 n2 n3 n4 HS HM HB HA1 HOW
          have HB := HB6
          have HS := HS6
          have HM := HM6
          have HA1 := HA6
          clear HB6 HS6 HM6 HA6
          have k0 := (blk_cell HS.out 0).trans rfl
          have k1 := (blk_cell HS.out 1).trans rfl
          have k2 := (blk_cell HS.out 2).trans rfl
          have k3 := (blk_cell HS.out 3).trans rfl
          have k4 := (blk_cell HS.out 4).trans rfl
          have k5 := (blk_cell HS.out 5).trans rfl
          have kl := blk_lt HS.out
          go_wp2_with fail
          clear k0 k1 k2 k3 k4 k5 kl
          have hA := HA.out.below HB.out
          refine (Counts_calls (d0 D) A4 c4 none 0 w6 ⟨hA.nm, hA.s, hA.sc, ⟨rfl, Nat.zero_le _, fun h => absurd h (Nat.lt_irrefl 0)⟩, Nat.le_refl _⟩).mono ?_
          clear hA
          rw [E0.out, H1.out, H2.out]
          rintro e w7 ⟨rfl, hb⟩
          replace HA1 := Aside0.mk (HA1.out.below hb)
          replace HB := Aside0.mk (HB.out.trans (hb.mono HB.out.size))
          replace HS := Aside0.mk (blk_below HS.out hb)
          replace HM := Aside0.mk (blk_below HM.out hb)
          clear hb
          go_upto_region 8 with (fail)
          have hb : Below w7.heap.size w7 ((w7.alloc (.cells #[.int .i64 a1, .int .i64 b1] 23)).alloc (.cells #[.int .i64 a2, .int .i64 b2] 23)) := below_alloc (below_alloc (Below.refl _ _) _) _
          have n1 : Aside0 (((w7.alloc (.cells #[.int .i64 a1, .int .i64 b1] 23)).alloc (.cells #[.int .i64 a2, .int .i64 b2] 23)).heap[w7.heap.size]? = some (.cells #[.int .i64 a1, .int .i64 b1] 23 (0, 0))) := ⟨blk_alloc (blk_new _ _) _⟩
          have n2 : Aside0 (((w7.alloc (.cells #[.int .i64 a1, .int .i64 b1] 23)).alloc (.cells #[.int .i64 a2, .int .i64 b2] 23)).heap[w7.heap.size + 1]? = some (.cells #[.int .i64 a2, .int .i64 b2] 23 (0, 0))) := ⟨new_at (by simp) _⟩
          replace HA1 := Aside0.mk (HA1.out.below hb)
          replace HB := Aside0.mk (HB.out.trans (hb.mono HB.out.size))
          replace HM := Aside0.mk (blk_below HM.out hb)
          clear hb
          generalize ((w7.alloc (.cells #[.int .i64 a1, .int .i64 b1] 23)).alloc (.cells #[.int .i64 a2, .int .i64 b2] 23)) = w8 at HA1 HB HM n1 n2 ⊢
          obtain ⟨P, hP⟩ : ∃ P, w7.heap.size = P := ⟨_, rfl⟩
          rw [hP] at n1 n2 ⊢
          clear hP HS
          have HP := n1
          have HR := n2
          clear n1 n2
          have k0 := (blk_cell HM.out 0).trans rfl
          have k1 := (blk_cell HM.out 1).trans rfl
          have k2 := (blk_cell HM.out 2).trans rfl
          have k3 := (blk_cell HM.out 3).trans rfl
          have k4 := (blk_cell HM.out 4).trans rfl
          have k5 := (blk_cell HM.out 5).trans rfl
          have kl := blk_lt HM.out
          go_wp2_with fail
          clear k0 k1 k2 k3 k4 k5 kl
          refine (Counts_calls (d0 D2) A6 c6 none 0 w8 HA1.out).mono ?_
          rw [E1.out, H3.out, H4.out]
          rintro e w9 ⟨rfl, hb⟩
          replace HB := Aside0.mk (HB.out.trans (hb.mono HB.out.size))
          replace HP := Aside0.mk (blk_below HP.out hb)
          replace HR := Aside0.mk (blk_below HR.out hb)
          clear hb
          clear HA1 HM
          go_upto_region 9 with (fail)
          have hb : Below w9.heap.size w9 ((w9.alloc (.cells #[.int .i64 a3, .int .i64 b3] 23)).alloc (.cells #[.int .i64 a4, .int .i64 b4] 23)) := below_alloc (below_alloc (Below.refl _ _) _) _
          have n1 : Aside0 (((w9.alloc (.cells #[.int .i64 a3, .int .i64 b3] 23)).alloc (.cells #[.int .i64 a4, .int .i64 b4] 23)).heap[w9.heap.size]? = some (.cells #[.int .i64 a3, .int .i64 b3] 23 (0, 0))) := ⟨blk_alloc (blk_new _ _) _⟩
          have n2 : Aside0 (((w9.alloc (.cells #[.int .i64 a3, .int .i64 b3] 23)).alloc (.cells #[.int .i64 a4, .int .i64 b4] 23)).heap[w9.heap.size + 1]? = some (.cells #[.int .i64 a4, .int .i64 b4] 23 (0, 0))) := ⟨new_at (by simp) _⟩
          replace HB := Aside0.mk (HB.out.trans (hb.mono HB.out.size))
          replace HP := Aside0.mk (blk_below HP.out hb)
          replace HR := Aside0.mk (blk_below HR.out hb)
          clear hb
          generalize ((w9.alloc (.cells #[.int .i64 a3, .int .i64 b3] 23)).alloc (.cells #[.int .i64 a4, .int .i64 b4] 23)) = w10 at HB HP HR n1 n2 ⊢
          obtain ⟨T, hT⟩ : ∃ P, w9.heap.size = P := ⟨_, rfl⟩
          rw [hT] at n1 n2 ⊢
          clear hT
          have HT := n1
          have HU := n2
          clear n1 n2
          have p0 := (blk_cell HP.out 0).trans rfl
          have p1 := (blk_cell HP.out 1).trans rfl
          have pl := blk_lt HP.out
          have r0 := (blk_cell HR.out 0).trans rfl
          have r1 := (blk_cell HR.out 1).trans rfl
          have rl := blk_lt HR.out
          have t0 := (blk_cell HT.out 0).trans rfl
          have t1 := (blk_cell HT.out 1).trans rfl
          have tl := blk_lt HT.out
          have u0 := (blk_cell HU.out 0).trans rfl
          have u1 := (blk_cell HU.out 1).trans rfl
          have ul := blk_lt HU.out
          have l1 := L1.out
          have l3 : b4 = b2 + 1 := L2.out
          have l2 := B7.out
          subst l3
          have hw : IntKind.i64.wrap (b2 + 1) = b2 + 1 := wrapI (by omega) (by omega)
          go_wp2_with fail
          refine (Awake_calls _).mono ?_
          rintro e w11 ⟨rfl, hb⟩
          replace HB := Aside0.mk (HB.out.trans (hb.mono HB.out.size))
          clear hb
          go_wp2
          go_ret
          exact ⟨rfl, HB.out⟩
      · rw [decide_eq_false hc2]
        clear hc2
        go_wp2_with fail
        refine (Awake_calls _).mono ?_
        rintro e w5 ⟨rfl, hb⟩
        replace HB := Aside0.mk (HB.out.trans (hb.mono HB.out.size))
        clear hb
        go_wp2
        go_ret
        exact ⟨rfl, HB.out⟩
    · rw [decide_eq_false hc]
      clear hc
      go_wp2_with fail
      refine (Awake_calls _).mono ?_
      rintro e w4 ⟨rfl, hb⟩
      replace HB := Aside0.mk (HB.out.trans (hb.mono HB.out.size))
      clear hb
      go_wp2
      go_ret
      exact ⟨rfl, HB.out⟩
end Go.Proofs.Ytemeapfnfegkiaa.D
end
section
/- Package disk: how long the slices of a sheet that came in can be. -/
namespace Go.Proofs.Ytemeapfnfegkiaa.D
open Go Go.RowKit Go.ChangeShapes Go.WideShapes Go.Deep Go.Proofs.YtemeapfnfegkiaaK Go.Proofs.YtemeapfnfegkiaaW.PrintWords Go.Proofs.YtemeapfnfegkiaaW.PrintLast Go.Proofs.YtemeapfnfegkiaaW.PrintMore Go.Proofs.Ytemeapfnfegkiaa.PR
set_option linter.unusedVariables false
set_option linter.unusedSimpArgs false
set_option linter.unusedSectionVars false

section
variable {H : Type} {enc : TypeId × Value → H} {P : Program} {w : World} {base : Nat} {spare : Nat → Bool} {held : Bool}
theorem slice_reach {t e : TypeId} {fuel n c L : Nat} {A : Option Addr} {x : DataW H × List MemPlace} (ht : P.underlying t = some (.slice e)) (h : DataW.trod enc P w base spare held fuel t [.slice A n c] = some x)
    (hw : ∀ m ∈ x.1.weights P t, m ≤ L) : n * P.bytesOf e ≤ L := by
  rcases open_slice ht h with ⟨h1, h2⟩ | ⟨a, len, cap, m, k, D, Pl, h1, hb, hl, hm, hmm, rfl, hx⟩
  · cases h1; simp
  · cases h1
    have := hw ((((List.range n).map D).length + ((List.range (m - n)).map fun j => D (n + j)).length) * P.bytesOf e) (by simp [DataW.weights, ht])
    exact Nat.le_trans (Nat.mul_le_mul_right _ (by simp)) this
end
section
variable {H : Type} {enc : TypeId × Value → H} {w : World} {base : Nat} {spare : Nat → Bool} {held : Bool}
theorem sheet_reach {D : Dat} {A4 : Option Addr} {c4 : Nat} {A5 : Option Addr} {c5 : Nat} {d : DataW H} {p : List MemPlace}
    (h : DataW.Trod enc Try.prog w base spare held 27 (.agg #[.string D.nm, .int .i64 D.rad, .int .i64 D.lo, .int .i64 D.hi, .slice A4 D.spots.length c4, .slice A5 D.told.length c5]) d p)
    (hw : ∀ m ∈ d.weights Try.prog 27, m ≤ reachBytes) : D.spots.length * 24 ≤ 140737488351232 ∧ D.told.length * 24 ≤ 140737488351232 := by
  have hC : Try.prog.cellsOf 27 = 6 := by kernel_rfl
  have hS : Try.prog.cellsOf 23 = 2 := by kernel_rfl
  have hI : Try.prog.cellsOf 3 = 1 := by kernel_rfl
  have hN : Try.prog.cellsOf 9 = 1 := by kernel_rfl
  have h4 : Try.prog.cellsOf 24 = 1 := by kernel_rfl
  have h5 : Try.prog.cellsOf 25 = 1 := by kernel_rfl
  have b4 : Try.prog.bytesOf 80 = 24 := by kernel_rfl
  have b5 : Try.prog.bytesOf 52 = 24 := by kernel_rfl
  have e27 := Try.underlying27
  have e24 := Try.underlying24
  have e25 := Try.underlying25
  generalize Try.prog = P at h hw hC hS hI hN h4 h5 b4 b5 e27 e24 e25
  obtain ⟨fuel, hf⟩ := h
  obtain ⟨xs, n, _, hx, _, hlen, hg⟩ := DataW.trod_struct e27 hf
  have g3 := hg 3 _ rfl
  have g4 := hg 4 _ rfl
  have hl5 : xs.length = 5 := hlen
  rw [List.getElem?_eq_getElem (by omega)] at g3 g4
  simp only [Value.cells, List.getElem_toArray, List.getElem_cons_zero, List.getElem_cons_succ, hN, hI, hS, h4, h5, List.drop_zero, List.drop_succ_cons, List.take_succ_cons, List.take_zero] at g3 g4
  obtain ⟨rfl, _⟩ := Prod.mk.inj hx
  have w3 := slice_reach e24 g3 (L := reachBytes) (fun m hm => hw m (by
    simp only [DataW.weights, e27]
    exact DataW.weights_mem_each (j := 3) (t := 24) rfl (by rw [List.getElem?_map, List.getElem?_eq_getElem (by omega)]; rfl) m hm))
  have w4 := slice_reach e25 g4 (L := reachBytes) (fun m hm => hw m (by
    simp only [DataW.weights, e27]
    exact DataW.weights_mem_each (j := 4) (t := 25) rfl (by rw [List.getElem?_map, List.getElem?_eq_getElem (by omega)]; rfl) m hm))
  rw [b4] at w3
  rw [b5] at w4
  exact ⟨w3, w4⟩
end
section
variable {H : Type} {enc : TypeId × Value → H} {w : World} {base : Nat} {spare : Nat → Bool} {held : Bool}
set_option maxRecDepth 100000 in
theorem open_spot {r : Reach} {b0 : Nat} {v : Value} {d : DataW H} {p : List MemPlace} (hv : Value.okWide Try.prog w r b0 80 v) (h : DataW.Trod enc Try.prog w base spare held 80 v d p) :
    ∃ x : Spot, v = .agg #[.int .i64 x.f0, .int .i64 x.f1, .bool x.f2] ∧ (Lit.int .i64 x.f0).wf = true ∧ (Lit.int .i64 x.f1).wf = true := by
  have hC : Try.prog.cellsOf 80 = 3 := by kernel_rfl
  have hI : Try.prog.cellsOf 3 = 1 := by kernel_rfl
  have hB : Try.prog.cellsOf 4 = 1 := by kernel_rfl
  have e3 := Try.underlying3
  have e4 := Try.underlying4
  have e80 := Try.underlying80
  generalize Try.prog = P at hv h hC hI hB e3 e4 e80
  obtain ⟨cs, rfl, hsz⟩ := okWide_struct e80 hv
  obtain ⟨l⟩ := cs
  obtain ⟨fuel, hf⟩ := h
  obtain ⟨a, b, c, e, wa, wb⟩ := open_three e80 ⟨_, rfl, rfl, e3, hI⟩ ⟨_, rfl, rfl, e3, hI⟩ ⟨_, rfl, rfl, e4, hB⟩ hC hf
  simp only [Value.cells] at e
  exact ⟨⟨a, b, c⟩, by rw [show l = _ from e], wa, wb⟩
end
end Go.Proofs.Ytemeapfnfegkiaa.D
end
