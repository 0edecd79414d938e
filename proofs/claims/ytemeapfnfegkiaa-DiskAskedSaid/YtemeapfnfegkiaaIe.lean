/- Contracts of the functions that this claim reaches, with the words for them: pruned and packed by wip/tools/prune.py. -/
import Derived.Test.YtemeapfnfegkiaaUd
import Derived.Below
import Derived.Deep.Draws
import Derived.Deep.AppendLies
import Derived.Maps.AppendAt
import Derived.OwnWalk
import Derived.Laws.BytesArg
import Derived.Laws.MakeOwn
import Derived.Laws.OwnMore
import Derived.Deep.OwnRows
import Derived.Tactics
import Derived.Lib.ConvBytes
import Derived.Laws.Slices
import Derived.WalkKit
import Derived.KernelRfl
import Derived.RowKit3
import Derived.Deep.LoopGhost
import Derived.Deep.QuietTactic
import Derived.BigQuiet
import Derived.WideLaws
import Derived.Deep.DeepCutAuto
import Derived.Deep.CutBlock
import Derived.Deep.RegionHeld3
import Derived.Laws.Rows
import Derived.Lib.AppendStr
import Derived.ArgAppend
import Derived.Laws.IdiomCopy
import Derived.RowKit
section
set_option linter.unusedVariables false
set_option linter.unusedSimpArgs false
namespace Go.Proofs.YtemeapfnfegkiaaW.PrintWords
open Go.RowKit

section
variable {P : Program} {ops : Array Oper} {rest : List Oper} {o : Oper} {a : Act} {Q : Exit → Act → World → Prop}

end

section
variable {P : Program}
end
section
variable {P : Program} {ops : Array Oper} {rest : List Oper} {o : Oper} {a : Act} {Q : Exit → Act → World → Prop}
end

def bytesOf (s : ByteArray) : List Int := s.data.toList.map fun b => (b.toNat : Int)
section
variable {P : Program} {ops : Array Oper} {rest : List Oper} {o : Oper} {a : Act} {Q : Exit → Act → World → Prop}
end

section
variable {P : Program} {ops : Array Oper} {o : Oper} {a : Act} {Q : Exit → Act → World → Prop} {K : Act → World → Prop}
end
section
variable {α : Type} {enc : α → Value} {d : α}
end
section
variable {α : Type} {P : Program} {ops : Array Oper} {rest : List Oper} {o : Oper} {a : Act} {Q : Exit → Act → World → Prop}
end

section
variable {P : Program}
end
section
variable {α : Type} {R R' : α → List Value → Prop} {e : TypeId} {size : Nat} {w w1 : World} {base : Nat} {v : Value} {ps : List α}
end
section
variable {P : Program} {ops : Array Oper} {rest : List Oper} {o : Oper} {a : Act} {Q : Exit → Act → World → Prop} {α : Type} {R : α → List Value → Prop}
end
section
variable {P : Program} {ops : Array Oper} {o : Oper} {a : Act} {Q : Exit → Act → World → Prop} {K : Act → World → Prop} {α : Type} {R : α → List Value → Prop}
end
section
variable {α : Type} {P : Program}
end

section
variable {P : Program} {ops : Array Oper} {rest : List Oper} {o : Oper} {a : Act} {Q : Exit → Act → World → Prop}
end
namespace Kd
section
variable {α : Type} {d : Kd α} {e : Nat} {w w1 : World} {base : Nat} {ok ok' : Nat → Prop} {v : Value} {xs : List α}
end

section
variable {P : Program} {ops : Array Oper} {rest : List Oper} {o : Oper} {a : Act} {Q : Exit → Act → World → Prop} {α : Type}
end
section
variable {P : Program} {ops : Array Oper} {o : Oper} {a : Act} {Q : Exit → Act → World → Prop} {Kc : Act → World → Prop} {α : Type}
end
end Kd
namespace Kd
section
variable {α : Type} {F : Kd α → Kd α} {sz : Nat} {E : List Nat} {hs : ∀ n, (upto F sz E n).sz = sz} {hE : ∀ n q, q ∈ (upto F sz E n).E → q ∈ E}
end
end Kd
namespace Kd
end Kd
namespace Kd
section
variable {α β : Type} {d : Kd α} {d' : Kd β} {e e' : Nat} {w w1 W : World} {base b b' : Nat} {ok ok' okv oku : Nat → Prop} {v u : Value} {xs : List α} {ys : List β}
end
section
variable {w W : World} {A : Option Addr} {n : Nat}
variable {α : Type} {enc : α → Value} {h1 : ∀ x, (enc x).oneCell' = true} {e base g cap : Nat} {ok : Nat → Prop} {xs : List α}
end

section
variable {P : Program} {ops : Array Oper} {rest : List Oper} {o : Oper} {a : Act} {Q : Exit → Act → World → Prop}
variable {α : Type}
end
end Kd
section
variable {P : Program}
end
section
variable {w w1 : World} {base n size : Nat} {e : TypeId} {v : Value} {xs : List Value}
end
section
variable {P : Program}
end
namespace Kd
section
variable {α : Type} {d : Kd α} {e : Nat} {w w1 W : World} {base : Nat} {ok ok' : Nat → Prop} {v : Value} {xs : List α}
end
section
variable {P : Program} {ops : Array Oper} {rest : List Oper} {o : Oper} {a : Act} {Q' : Exit → Act → World → Prop} {Kc : Act → World → Prop} {α : Type}
end
end Kd
namespace Kd
section
variable {α : Type} {d : Kd α} {e e' : Nat} {w w1 W : World} {base : Nat} {ok : Nat → Prop} {u v : Value} {xs : List α}
end
end Kd
namespace Kd
section
variable {α : Type} {d : Kd α} {e base g n cap : Nat} {ok okp : Nat → Prop} {W : World} {xs : List α}
end
end Kd
namespace Kd
section
variable {α : Type} {F : Kd α → Kd α} {sz : Nat} {E : List Nat} {hs : ∀ n, (upto F sz E n).sz = sz} {hE : ∀ n q, q ∈ (upto F sz E n).E → q ∈ E}
end
end Kd
namespace Kd
section
variable {P : Program} {ops : Array Oper} {rest : List Oper} {o : Oper} {a : Act} {Q : Exit → Act → World → Prop} {α : Type}
end
end Kd
namespace Kd
section
variable {P : Program} {ops : Array Oper} {rest : List Oper} {o : Oper} {a : Act} {Q : Exit → Act → World → Prop} {α : Type}
end
end Kd
namespace Kd
section
variable {α : Type} {k : Kd α} {w : World} {A : Option Addr} {xs : List α} {m c : Nat}
end
end Kd
section
variable {P : Program}
end
namespace Kd
section
variable {α β : Type} {d : Kd α} {d' : Kd β} {e e' base base' n : Nat} {ok ok' : Nat → Prop} {w W w1 W1 : World} {v u : Value} {xs : List α} {ys : List β} {A : Option Addr} {c : Nat}
end
section
variable {α : Type} {enc : α → Value} {h1 : ∀ x, (enc x).oneCell' = true} {w W : World} {A : Option Addr} {n g : Nat} {xs : List α}
end
end Kd
namespace Kd
section
variable {α : Type} {d : Kd α} {e base g : Nat} {ok : Nat → Prop} {w w1 : World} {v : Value} {xs : List α} {o : Obj}
end
end Kd
section
variable {P : Program} {ops : Array Oper} {rest : List Oper} {o : Oper} {a : Act} {Q : Exit → Act → World → Prop}
end
namespace Kd
section
variable {α : Type} {enc : α → Value} {h1 : ∀ x, (enc x).oneCell' = true} {e base g n cap : Nat} {ok : Nat → Prop} {W : World} {xs : List α}
end
end Kd
section
variable {P : Program} {ops : Array Oper} {rest : List Oper} {o : Oper} {a : Act} {Q : Exit → Act → World → Prop}
end
namespace Kd
section
variable {α : Type} {enc : α → Value} {h1 : ∀ x, (enc x).oneCell' = true} {e base g n cap : Nat} {ok : Nat → Prop} {W : World} {xs : List α}
end
end Kd
section
variable {P : Program} {ops : Array Oper} {rest : List Oper} {o : Oper} {a : Act} {Q : Exit → Act → World → Prop} {W : World}
end
section
variable {P : Program} {ops : Array Oper} {o : Oper} {a : Act} {Q : Exit → Act → World → Prop} {Kc : Act → World → Prop}
namespace Kd
variable {α : Type}
end Kd
end
section
variable {P : Program} {tmps : Array Value} {w : World}
end
namespace Kd
section
variable {P : Program} {α : Type}
end
section
variable {P : Program} {ops : Array Oper} {rest : List Oper} {o : Oper} {a : Act} {Q : Exit → Act → World → Prop} {Kc : Act → World → Prop} {α : Type}
end
end Kd

end Go.Proofs.YtemeapfnfegkiaaW.PrintWords
end
section
namespace Go.Proofs.YtemeapfnfegkiaaW.PrintWords
open Go.RowKit
section
variable {P : Program} {ops : Array Oper} {rest : List Oper} {o : Oper} {a : Act} {Q : Exit → Act → World → Prop} {W : World}
theorem gate_guard (hw : Region.wanted o (yielded ops a.tmps) = true) (h : wpList P ops Q ({ o with guard := none } :: rest) a W) : wpList P ops Q (o :: rest) a W := by
  have h1 : Region.wanted { o with guard := none } (yielded ops a.tmps) = true := rfl
  unfold wpList at h ⊢
  rw [if_pos h1] at h
  rw [if_pos hw]
  exact h
end
end Go.Proofs.YtemeapfnfegkiaaW.PrintWords
end
section
namespace Go.Proofs.Ytemeapfnfegkiaa.PR
open Go.RowKit Go.Proofs.YtemeapfnfegkiaaW.PrintWords Go.Proofs.YtemeapfnfegkiaaW.PrintLast Go.Proofs.YtemeapfnfegkiaaW.PrintMore
attribute [local go_sem] max2_int min2_int max_two min_two max_three min_three max_four min_four   -- for this text's walks alone
set_option linter.unusedVariables false
set_option linter.unusedSimpArgs false

mutual
def helioscoperef01_All.l0 : Nat → List (List Int) → List (S57) → Int → ByteArray → Int → Int → Int → List (S80) → List (S52) → Option ((List (S57)))
 | 0, _, _, _, _, _, _, _, _, _ => none
 | k + 1, x3, x4, x5, x186000, x186001, x186002, x186003, x186004, x186005 => if x5 ≤ x186003 then (helioscoperef01_All.l1 k x3 x4 x5 0 x186000 x186001 x186002 x186003 x186004 x186005) else (some x4)
def helioscoperef01_All.l1 : Nat → List (List Int) → List (S57) → Int → Int → ByteArray → Int → Int → Int → List (S80) → List (S52) → Option ((List (S57)))
 | 0, _, _, _, _, _, _, _, _, _, _ => none
 | k + 1, x3, x4, x5, x6, x186000, x186001, x186002, x186003, x186004, x186005 => if x6 < (x3.length : Int) then (if 0 ≤ x6 then ((helioscoperef01_grouped.f k x186000 x186001 x186002 x186003 x186004 x186005 x5 (rd_L4 x3 x6)).bind fun t190 => (if x4.length < 4398046511104 then (helioscoperef01_All.l1 k x3 (x4 ++ [(⟨x5, t190⟩ : S57)]) x5 (wrap64 (x6 + 1)) x186000 x186001 x186002 x186003 x186004 x186005) else (none))) else (none)) else (helioscoperef01_All.l0 k x3 x4 (wrap64 (x5 + 1)) x186000 x186001 x186002 x186003 x186004 x186005)
end
def helioscoperef01_All.f (k : Nat) (a0_0 : ByteArray) (a0_1 : Int) (a0_2 : Int) (a0_3 : Int) (l0_4 : List (S80)) (l0_5 : List (S52)) : Option ((List (S57))) := (helioscoperef01_sets.f k a0_0 a0_1 a0_2 a0_3 l0_4 l0_5).bind fun t186 => (helioscoperef01_All.l0 k t186 ([] : List (S57)) a0_2 a0_0 a0_1 a0_2 a0_3 l0_4 l0_5)
def helioscoperef01_All.T9 : Bool × List (List Nat × List Nat) := (true, [([], []), ([], []), ([], []), ([], []), ([], []), ([], []), ([4, 5], [4, 5]), ([6], [6]), ([2, 3, 7], [2, 3, 7]), ([1, 8], [1, 8]), ([9], [9]), ([0, 10, 8], [0, 10]), ([11, 11, 0, 1, 2, 3, 4, 5, 6, 7, 8, 9, 10, 11], [0, 11])])
def helioscoperef01_All.B9 : List Nat := [0, 0, 0, 0, 0, 0, 48, 112, 252, 510, 1022, 2047, 4095]
theorem helioscoperef01_All.tab9 : rtab .any (opsOf Try.f110 9) = helioscoperef01_All.T9 := by kernel_rfl
theorem helioscoperef01_All.bits9 : waitsOk helioscoperef01_All.T9.2 helioscoperef01_All.B9 = true := by kernel_rfl
set_option maxHeartbeats 8000000 in
set_option maxRecDepth 100000 in
theorem helioscoperef01_All.calls (k : Nat) (a0_0 : ByteArray) (a0_1 : Int) (a0_2 : Int) (a0_3 : Int) (A0_4 : Option Addr) (c0_4 : Nat) (l0_4 : List (S80)) (A0_5 : Option Addr) (c0_5 : Nat) (l0_5 : List (S52)) (r : List (S57)) (w : World) (hr0_4 : Kd.C k80 w A0_4 l0_4.length l0_4) (hc0_4 : l0_4.length ≤ c0_4) (hr0_5 : Kd.C k52 w A0_5 l0_5.length l0_5) (hc0_5 : l0_5.length ≤ c0_5) (h : helioscoperef01_All.f k a0_0 a0_1 a0_2 a0_3 l0_4 l0_5 = some r) :
  Calls Try.prog 110 #[.agg #[.string a0_0, .int .i64 a0_1, .int .i64 a0_2, .int .i64 a0_3, .slice A0_4 l0_4.length c0_4, .slice A0_5 l0_5.length c0_5]] w fun e w' => ∃ v0_ : Value, e = .returned (v0_) ∧ Kd.N k57 57 w' w.heap.size (fun k_ => (w.heap.size ≤ k_)) v0_ r ∧ Below w.heap.size w w' := by
 have hu27 := Try.underlying27
 have hu57 := Try.underlying57
 have HR0_4 := Aside0.mk hr0_4
 have HC0_4 := Aside0.mk hc0_4
 clear hr0_4 hc0_4
 have HR0_5 := Aside0.mk hr0_5
 have HC0_5 := Aside0.mk hc0_5
 clear hr0_5 hc0_5
 have HB := Aside0.mk (Below.refl w.heap.size w)
 have H : ((helioscoperef01_sets.f k a0_0 a0_1 a0_2 a0_3 l0_4 l0_5).bind fun t186 => (helioscoperef01_All.l0 k t186 ([] : List (S57)) a0_2 a0_0 a0_1 a0_2 a0_3 l0_4 l0_5)) = some r := h
 clear h
 replace H := Option.bind_eq_some_iff.mp H
 obtain ⟨t186, A20, H⟩ := H
 replace H : (helioscoperef01_All.l0 k t186 ([] : List (S57)) a0_2 a0_0 a0_1 a0_2 a0_3 l0_4 l0_5) = some r := H
 have A2 := Aside0.mk A20
 clear A20
 have H' := Aside0.mk H
 clear H
 go_enter Try.func110, Try.ntmps110
 go_wp2_with (first | ((with_reducible refine gate_dst (N := 1) rfl ?_); refine box_event ?hg (N := 1) ?hd (cs := #[.string a0_0, .int .i64 a0_1, .int .i64 a0_2, .int .i64 a0_3, .slice A0_4 l0_4.length c0_4, .slice A0_5 l0_5.length c0_5]) (t := 27) ?hr ?_; (case hd => rfl); (case hg => rfl); (case hr => first | (go_simp; done) | (go_simp; rfl)); intro gb185 hg w3 hbox hb; have n0_ := Aside0.mk (below_step (by repeat (first | (with_reducible first | exact HB.out | apply below_alloc | apply pw_below_drewN | apply below_drew1) | exact HB.out)) hb); have n1_ := Aside0.mk (hbox); have n2_ := Aside0.mk ((by rw [hg]; exact (below_size (by repeat (first | (with_reducible first | exact HB.out | apply below_alloc | apply pw_below_drewN | apply below_drew1) | exact HB.out))) : w.heap.size ≤ gb185)); have n3_ := Aside0.mk ((by rw [hg]; exact (below_size (by repeat (first | (with_reducible first | exact HB.out | apply below_alloc | apply pw_below_drewN | apply below_drew1) | exact HB.out))) : w.heap.size ≤ gb185)); clear HB; have HB := n0_; have BK185 := n1_; have GW185 := n2_; have GE185 := n3_; clear n0_ n1_ n2_ n3_; clear hb hbox hg; have hcz4_0 : w3.cell? ⟨gb185, 0, none⟩ = some (.string a0_0) := (blk_cell BK185.out 0).trans rfl; have hcz4_1 : w3.cell? ⟨gb185, 1, none⟩ = some (.int .i64 a0_1) := (blk_cell BK185.out 1).trans rfl; have hcz4_2 : w3.cell? ⟨gb185, 2, none⟩ = some (.int .i64 a0_2) := (blk_cell BK185.out 2).trans rfl; have hcz4_3 : w3.cell? ⟨gb185, 3, none⟩ = some (.int .i64 a0_3) := (blk_cell BK185.out 3).trans rfl; have hcz4_4 : w3.cell? ⟨gb185, 4, none⟩ = some (.slice A0_4 l0_4.length c0_4) := (blk_cell BK185.out 4).trans rfl; have hcz4_5 : w3.cell? ⟨gb185, 5, none⟩ = some (.slice A0_5 l0_5.length c0_5) := (blk_cell BK185.out 5).trans rfl; have hfz4_0 := blk_frozen BK185.out 0; have hfz4_1 := blk_frozen BK185.out 1; have hfz4_2 := blk_frozen BK185.out 2; have hfz4_3 := blk_frozen BK185.out 3; have hfz4_4 := blk_frozen BK185.out 4; have hfz4_5 := blk_frozen BK185.out 5) | ((with_reducible refine gate_callee (f := 125) rfl ?_); refine goesL_ (some 8) rfl rfl Try.func125 (by kernel_rfl) rfl #[.agg #[.string a0_0, .int .i64 a0_1, .int .i64 a0_2, .int .i64 a0_3, .slice A0_4 l0_4.length c0_4, .slice A0_5 l0_5.length c0_5]] rfl (by (try simp only [List.map_toArray, List.map_cons, List.map_nil]); first | done | rfl | (simp only [List.length_drop, List.length_take]; rfl)) ?_; (with_reducible refine (helioscoperef01_sets.calls k a0_0 a0_1 a0_2 a0_3 _ _ l0_4 _ _ l0_5 t186 _ ?side1 ?side2 ?side3 ?side4 A2.out).mono ?_); (case side1 => repeat (first | exact (Kd.C_below HR0_4.out HB.out) | (with_reducible refine Kd.C_alloc ?_ _) | (with_reducible refine Kd.C_drewN ?_ _) | (with_reducible refine Kd.C_drew ?_))); (case side2 => exact HC0_4.out); (case side3 => repeat (first | exact (Kd.C_below HR0_5.out HB.out) | (with_reducible refine Kd.C_alloc ?_ _) | (with_reducible refine Kd.C_drewN ?_ _) | (with_reducible refine Kd.C_drew ?_))); (case side4 => exact HC0_5.out); rintro e w5 ⟨v187, rfl, ho0, hb⟩; refine ⟨_, rfl, ?_⟩; have n0_ := Aside0.mk (Kd.N_lower (Kd.N_mono (ok' := fun k_ => (w.heap.size ≤ k_) ∧ k_ ≠ gb185) ho0 (fun k_ hk_ => ⟨(Nat.le_trans (below_size (by repeat (first | (with_reducible first | exact HB.out | apply below_alloc | apply pw_below_drewN | apply below_drew1 | refine below_set ?_ GE185.out) | exact HB.out))) hk_), (Kd.freshB (g := gb185) (o := .cells #[.string a0_0, .int .i64 a0_1, .int .i64 a0_2, .int .i64 a0_3, .slice A0_4 l0_4.length c0_4, .slice A0_5 l0_5.length c0_5] 27 (0, 0)) (by (with_reducible repeat (first | refine blk_drewN ?_ _ | refine blk_drew ?_ | refine blk_alloc ?_ _)); exact BK185.out) k_ hk_)⟩)) (below_size (by repeat (first | (with_reducible first | exact HB.out | apply below_alloc | apply pw_below_drewN | apply below_drew1 | refine below_set ?_ GE185.out) | exact HB.out)))); have n1_ := Aside0.mk (blk_below (g := gb185) (o := .cells #[.string a0_0, .int .i64 a0_1, .int .i64 a0_2, .int .i64 a0_3, .slice A0_4 l0_4.length c0_4, .slice A0_5 l0_5.length c0_5] 27 (0, 0)) (by (with_reducible repeat (first | refine blk_drewN ?_ _ | refine blk_drew ?_ | refine blk_alloc ?_ _)); exact BK185.out) hb); have n2_ := Aside0.mk (below_step (by repeat (first | (with_reducible first | exact HB.out | apply below_alloc | apply pw_below_drewN | apply below_drew1 | refine below_set ?_ GE185.out) | exact HB.out)) hb); clear BK185; clear HB; have HO188 := n0_; have BK185 := n1_; have HB := n2_; clear n0_ n1_ n2_; (try clear hb); (try clear hb2); (try clear hk); (try clear hi); (try clear ho0); have hcz6_0 : w5.cell? ⟨gb185, 0, none⟩ = some (.string a0_0) := (blk_cell BK185.out 0).trans rfl; have hcz6_1 : w5.cell? ⟨gb185, 1, none⟩ = some (.int .i64 a0_1) := (blk_cell BK185.out 1).trans rfl; have hcz6_2 : w5.cell? ⟨gb185, 2, none⟩ = some (.int .i64 a0_2) := (blk_cell BK185.out 2).trans rfl; have hcz6_3 : w5.cell? ⟨gb185, 3, none⟩ = some (.int .i64 a0_3) := (blk_cell BK185.out 3).trans rfl; have hcz6_4 : w5.cell? ⟨gb185, 4, none⟩ = some (.slice A0_4 l0_4.length c0_4) := (blk_cell BK185.out 4).trans rfl; have hcz6_5 : w5.cell? ⟨gb185, 5, none⟩ = some (.slice A0_5 l0_5.length c0_5) := (blk_cell BK185.out 5).trans rfl; have hfz6_0 := blk_frozen BK185.out 0; have hfz6_1 := blk_frozen BK185.out 1; have hfz6_2 := blk_frozen BK185.out 2; have hfz6_3 := blk_frozen BK185.out 3; have hfz6_4 := blk_frozen BK185.out 4; have hfz6_5 := blk_frozen BK185.out 5))
 go_loopg [4, 5] k (fun kq v4 v5 w' => ∃ (x4_1 : List (S57)) (x5_1 : Int), v5 = .int .i64 x5_1 ∧ Aside0 (helioscoperef01_All.l0 kq t186 x4_1 x5_1 a0_0 a0_1 a0_2 a0_3 l0_4 l0_5 = some r) ∧ Aside0 (kq ≤ k) ∧ Aside0 (Kd.N (Kd.slice 3 (Kd.int .i64)) 46 w' w.heap.size (fun k_ => (w.heap.size ≤ k_) ∧ some k_ ≠ (v4 : Value).ownBlock ∧ k_ ≠ gb185) v187 t186) ∧ Aside0 (Kd.N k57 57 w' w.heap.size (fun k_ => (w.heap.size ≤ k_) ∧ some k_ ≠ (v187 : Value).ownBlock ∧ k_ ≠ gb185) v4 x4_1) ∧ Aside0 (w'.heap[gb185]? = some (.cells #[.string a0_0, .int .i64 a0_1, .int .i64 a0_2, .int .i64 a0_3, (.slice A0_4 l0_4.length c0_4), (.slice A0_5 l0_5.length c0_5)] 27 (0, 0))) ∧ Aside0 (Below w.heap.size w w'))
 case atStart => exact ⟨(([] : List (S57))), (a0_2), (by first | rfl | (simp; done) | (simp [*]; done)), H', ⟨Nat.le_refl _⟩, ⟨by (with_reducible repeat (first | apply Kd.N_alloc | apply Kd.N_drewN | apply Kd.N_drew)); exact Kd.N_mono HO188.out (fun _ hk => ⟨hk.1, ⟨(by simp [Value.ownBlock]), hk.2⟩⟩)⟩, ⟨by first | exact Kd.S_nil _ _ _ _ _ | exact Kd.N_nil _ _ _ _ _ | exact Kd.V_nil _ _ _ _ _ | exact Kd.Q_nil _ _ _ _ _ | exact Kd.R_nil _ _ _ _ _⟩, ⟨by (with_reducible repeat (first | refine blk_drewN ?_ _ | refine blk_drew ?_ | refine blk_alloc ?_ _)); exact BK185.out⟩, ⟨by repeat (first | (with_reducible first | exact HB.out | apply below_alloc | apply pw_below_drewN | apply below_drew1 | refine below_set ?_ GE185.out) | exact HB.out)⟩⟩
 case round =>
  clear H'
  try clear c1
  try clear p2
  try clear hcz4_0
  try clear hcz4_1
  try clear hcz4_2
  try clear hcz4_3
  try clear hcz4_4
  try clear hcz4_5
  try clear hcz6_0
  try clear hcz6_1
  try clear hcz6_2
  try clear hcz6_3
  try clear hcz6_4
  try clear hcz6_5
  try clear hfz4_0
  try clear hfz4_1
  try clear hfz4_2
  try clear hfz4_3
  try clear hfz4_4
  try clear hfz4_5
  try clear hfz6_0
  try clear hfz6_1
  try clear hfz6_2
  try clear hfz6_3
  try clear hfz6_4
  try clear hfz6_5
  obtain ⟨x4_1, x5_1, rfl, HA, HK1, HO_3, HO_4, BK185, HB⟩ := hrel
  cases gk with
  | zero => exact absurd HA.out (by simp [helioscoperef01_All.l0])
  | succ k1 =>
   have H := HA.out
   clear HA
   simp only [helioscoperef01_All.l0] at H
   by_cases c7 : x5_1 ≤ a0_3
   ·
    rw [if_pos c7] at H
    have c7b0 : decide (x5_1 ≤ a0_3) = true := decide_eq_true c7
    clear c7
    have H' := Aside0.mk H
    clear H
    have hcz8_0 : wr.cell? ⟨gb185, 0, none⟩ = some (.string a0_0) := (blk_cell BK185.out 0).trans rfl
    have hcz8_1 : wr.cell? ⟨gb185, 1, none⟩ = some (.int .i64 a0_1) := (blk_cell BK185.out 1).trans rfl
    have hcz8_2 : wr.cell? ⟨gb185, 2, none⟩ = some (.int .i64 a0_2) := (blk_cell BK185.out 2).trans rfl
    have hcz8_3 : wr.cell? ⟨gb185, 3, none⟩ = some (.int .i64 a0_3) := (blk_cell BK185.out 3).trans rfl
    have hcz8_4 : wr.cell? ⟨gb185, 4, none⟩ = some (.slice A0_4 l0_4.length c0_4) := (blk_cell BK185.out 4).trans rfl
    have hcz8_5 : wr.cell? ⟨gb185, 5, none⟩ = some (.slice A0_5 l0_5.length c0_5) := (blk_cell BK185.out 5).trans rfl
    have hfz8_0 := blk_frozen BK185.out 0
    have hfz8_1 := blk_frozen BK185.out 1
    have hfz8_2 := blk_frozen BK185.out 2
    have hfz8_3 := blk_frozen BK185.out 3
    have hfz8_4 := blk_frozen BK185.out 4
    have hfz8_5 := blk_frozen BK185.out 5
    go_wp2
    go_loopg [4, 6] k1 (fun kq v4 v6 w' => ∃ (x4_2 : List (S57)) (x6_2 : Int), v6 = .int .i64 x6_2 ∧ Aside0 (helioscoperef01_All.l1 kq t186 x4_2 x5_1 x6_2 a0_0 a0_1 a0_2 a0_3 l0_4 l0_5 = some r) ∧ Aside0 (kq ≤ k1) ∧ Aside0 (Kd.N (Kd.slice 3 (Kd.int .i64)) 46 w' w.heap.size (fun k_ => (w.heap.size ≤ k_) ∧ some k_ ≠ (v4 : Value).ownBlock ∧ k_ ≠ gb185) v187 t186) ∧ Aside0 (Kd.N k57 57 w' w.heap.size (fun k_ => (w.heap.size ≤ k_) ∧ some k_ ≠ (v187 : Value).ownBlock ∧ k_ ≠ gb185) v4 x4_2) ∧ Aside0 (w'.heap[gb185]? = some (.cells #[.string a0_0, .int .i64 a0_1, .int .i64 a0_2, .int .i64 a0_3, (.slice A0_4 l0_4.length c0_4), (.slice A0_5 l0_5.length c0_5)] 27 (0, 0))) ∧ Aside0 (Below w.heap.size w w'))
    case atStart => exact ⟨(x4_1), (0), (by first | rfl | (simp; done) | (simp [*]; done)), H', ⟨Nat.le_refl _⟩, ⟨by (with_reducible repeat (first | apply Kd.N_alloc | apply Kd.N_drewN | apply Kd.N_drew)); exact HO_3.out⟩, ⟨by (with_reducible repeat (first | apply Kd.N_alloc | apply Kd.N_drewN | apply Kd.N_drew)); exact HO_4.out⟩, ⟨by (with_reducible repeat (first | refine blk_drewN ?_ _ | refine blk_drew ?_ | refine blk_alloc ?_ _)); exact BK185.out⟩, ⟨by repeat (first | (with_reducible first | exact HB.out | apply below_alloc | apply pw_below_drewN | apply below_drew1 | refine below_set ?_ GE185.out) | exact HB.out)⟩⟩
    case round =>
     clear H'
     try clear c1
     try clear p2
     try clear c7
     try clear c7b0
     try clear hcz4_0
     try clear hcz4_1
     try clear hcz4_2
     try clear hcz4_3
     try clear hcz4_4
     try clear hcz4_5
     try clear hcz6_0
     try clear hcz6_1
     try clear hcz6_2
     try clear hcz6_3
     try clear hcz6_4
     try clear hcz6_5
     try clear hcz8_0
     try clear hcz8_1
     try clear hcz8_2
     try clear hcz8_3
     try clear hcz8_4
     try clear hcz8_5
     try clear hfz4_0
     try clear hfz4_1
     try clear hfz4_2
     try clear hfz4_3
     try clear hfz4_4
     try clear hfz4_5
     try clear hfz6_0
     try clear hfz6_1
     try clear hfz6_2
     try clear hfz6_3
     try clear hfz6_4
     try clear hfz6_5
     try clear hfz8_0
     try clear hfz8_1
     try clear hfz8_2
     try clear hfz8_3
     try clear hfz8_4
     try clear hfz8_5
     try clear p2
     obtain ⟨x4_2, x6_2, rfl, HA, HK2, HO_3, HO_4, BK185, HB⟩ := hrel
     cases gk with
     | zero => exact absurd HA.out (by simp [helioscoperef01_All.l1])
     | succ k2 =>
      have H := HA.out
      clear HA
      simp only [helioscoperef01_All.l1] at H
      by_cases c9 : x6_2 < (t186.length : Int)
      ·
       rw [if_pos c9] at H
       have c9b0 : decide (x6_2 < (t186.length : Int)) = true := decide_eq_true c9
       clear c9
       by_cases c10 : 0 ≤ x6_2
       ·
        rw [if_pos c10] at H
        have c10b0 : decide (0 ≤ x6_2) = true := decide_eq_true c10
        clear c10
        replace H := Option.bind_eq_some_iff.mp H
        obtain ⟨t190, A110, H⟩ := H
        replace H : (if x4_2.length < 4398046511104 then (helioscoperef01_All.l1 k2 t186 (x4_2 ++ [(⟨x5_1, t190⟩ : S57)]) x5_1 (wrap64 (x6_2 + 1)) a0_0 a0_1 a0_2 a0_3 l0_4 l0_5) else (none)) = some r := H
        have A11 := Aside0.mk A110
        clear A110
        by_cases c12 : x4_2.length < 4398046511104
        ·
         rw [if_pos c12] at H
         have LMc12 := Aside0.mk c12
         clear c12
         obtain ⟨y193, hy193⟩ : ∃ y_ : List (S57), y_ = (x4_2 ++ [(⟨x5_1, t190⟩ : S57)]) := ⟨_, rfl⟩
         replace H : (helioscoperef01_All.l1 k2 t186 y193 x5_1 (wrap64 (x6_2 + 1)) a0_0 a0_1 a0_2 a0_3 l0_4 l0_5) = some r := by first | (rw [hy193]; with_reducible exact H) | (have H2_ := (Option.bind_some _ _).symm.trans H; rw [hy193]; with_reducible exact H2_) | (have H2_ := (Option.bind_some _ _).symm.trans H; with_reducible exact H2_) | with_reducible exact H | (rw [hy193]; exact H) | exact H
         have Ny193 := Aside0.mk hy193
         clear hy193
         have H' := Aside0.mk H
         clear H
         obtain ⟨Ao13, co13, eo13⟩ := Kd.N_slice HO_3.out
         subst eo13
         try go_wp2
         have n0_ := Aside0.mk (Kd.N_drew HO_3.out)
         have n1_ := Aside0.mk (Kd.N_drew HO_4.out)
         have n2_ := Aside0.mk (blk_drew BK185.out)
         have n3_ := Aside0.mk (below_drew1 HB.out)
         clear HO_3
         clear HO_4
         clear BK185
         clear HB
         have HO_3 := n0_
         have HO_4 := n1_
         have BK185 := n2_
         have HB := n3_
         clear n0_ n1_ n2_ n3_
         have p189 : 0 ≤ (x6_2 : Int) := of_decide_eq_true (by first | (with_reducible assumption) | assumption)
         have q189 : x6_2 < (t186.length : Int) := of_decide_eq_true (by first | (with_reducible assumption) | assumption)
         obtain ⟨ad189, A189_0, c189_0, e189, hx189_0, hl189_0, hi189_0⟩ := at_L4 (Kd.N_reads' HO_3.out).2.2 x6_2 p189 q189
         cases e189
         obtain ⟨ce189, hce189, hMe189, hcc189⟩ := Kd.N_get HO_3.out [] x6_2 p189 (by first | exact q189 | exact of_decide_eq_true (by first | (with_reducible assumption) | assumption) | (have e_ := (Kd.N_reads' HO_3.out).1; omega))
         obtain ⟨ua189_0, uc189_0, rfl, ul189_0, ge189_0⟩ := Kd.FK_slice_open hMe189
         have hv189_0 := hcc189 0 _ rfl
         rw [Nat.add_zero, show ((Kd.slice 3 (Kd.int .i64))).sz = 1 from rfl, Nat.mul_one] at hv189_0
         replace hv189_0 := Option.some.inj (hv189_0.symm.trans hx189_0)
         injection hv189_0 with hva_ hvn_ hvc_
         rw [hva_] at ge189_0
         rw [hvc_] at ul189_0
         have HL189_0 := Aside0.mk (show Kd.V (Kd.int .i64) 3 _ w.heap.size _ _ (rd_L4 t186 x6_2) from Kd.V_mk ul189_0 ge189_0)
         clear hva_ hvn_ hvc_ ge189_0 ul189_0
         clear hcc189 hce189
         have HR189_0 := Aside0.mk hi189_0
         have HC189_0 := Aside0.mk hl189_0
         clear hi189_0 hl189_0
         replace p189 := eq_true p189
         replace q189 := eq_true q189
         refine start_ (n := 13) (S := fun w' => w'.cell? ⟨gb185, 0, none⟩ = some (.string a0_0) ∧ w'.cell? ⟨gb185, 1, none⟩ = some (.int .i64 a0_1) ∧ w'.cell? ⟨gb185, 2, none⟩ = some (.int .i64 a0_2) ∧ w'.cell? ⟨gb185, 3, none⟩ = some (.int .i64 a0_3) ∧ w'.cell? ⟨gb185, 4, none⟩ = some (.slice A0_4 l0_4.length c0_4) ∧ w'.cell? ⟨gb185, 5, none⟩ = some (.slice A0_5 l0_5.length c0_5) ∧ w'.cell? (ad189.add (x6_2).toNat) = some (.slice A189_0 (rd_L4 t186 x6_2).length c189_0)) (ds := [10, 11]) #[false, false, false, false, false, false, false, false, false, false, false, false, false] (by kernel_rfl) rfl rfl ⟨(blk_cell BK185.out 0).trans rfl, (blk_cell BK185.out 1).trans rfl, (blk_cell BK185.out 2).trans rfl, (blk_cell BK185.out 3).trans rfl, (blk_cell BK185.out 4).trans rfl, (blk_cell BK185.out 5).trans rfl, hx189_0⟩ (fun hHeld => ?_); refine with_tabW helioscoperef01_All.tab9 helioscoperef01_All.bits9 (fun HT_ HW_ => ?_)
         generalize wr.drew = w14 at HO_3 HO_4 BK185 HB HL189_0 HR189_0 hx189_0 hHeld ⊢
         refine pure_ (i := 0) (N := some 25) (v := ?_) (a' := ?_) #[true, false, false, false, false, false, false, false, false, false, false, false, false] rfl rfl (any_of HT_.out (by kernel_rfl)) (fun _ _ _ h => h) (Or.inl ⟨by rfl, ?_⟩) ?_ ?_
         rotate_left
         ·
          intro w'
          go_simp
          with_reducible rfl
         rotate_left
         ·
          simp only [Act.put, List.setIfInBounds_toArray, List.set_cons_zero, List.set_cons_succ, i64_w, i32_w]
          rfl
         refine pure_ (i := 1) (N := some 26) (v := ?_) (a' := ?_) #[true, true, false, false, false, false, false, false, false, false, false, false, false] rfl rfl (any_of HT_.out (by kernel_rfl)) (fun _ _ _ h => h) (Or.inl ⟨by rfl, ?_⟩) ?_ ?_
         rotate_left
         ·
          intro w'
          go_simp
          with_reducible rfl
         rotate_left
         ·
          simp only [Act.put, List.setIfInBounds_toArray, List.set_cons_zero, List.set_cons_succ, i64_w, i32_w]
          rfl
         refine pure_ (i := 3) (N := some 28) (v := ?_) (a' := ?_) #[true, true, false, true, false, false, false, false, false, false, false, false, false] rfl rfl (any_of HT_.out (by kernel_rfl)) (fun _ _ _ h => h) (Or.inl ⟨by rfl, ?_⟩) ?_ ?_
         rotate_left
         ·
          intro w'
          go_simp
          with_reducible rfl
         rotate_left
         ·
          simp only [Act.put, List.setIfInBounds_toArray, List.set_cons_zero, List.set_cons_succ, i64_w, i32_w]
          rfl
         refine pure_ (i := 4) (N := some 29) (v := ?_) (a' := ?_) #[true, true, false, true, true, false, false, false, false, false, false, false, false] rfl rfl (any_of HT_.out (by kernel_rfl)) (fun _ _ _ h => h) (Or.inl ⟨by rfl, ?_⟩) ?_ ?_
         rotate_left
         ·
          intro w'
          go_simp
          with_reducible rfl
         rotate_left
         ·
          simp only [Act.put, List.setIfInBounds_toArray, List.set_cons_zero, List.set_cons_succ, i64_w, i32_w]
          rfl
         refine pure_ (i := 5) (N := some 30) (v := ?_) (a' := ?_) #[true, true, false, true, true, true, false, false, false, false, false, false, false] rfl rfl (any_of HT_.out (by kernel_rfl)) (fun _ _ _ h => h) (Or.inl ⟨by rfl, ?_⟩) ?_ ?_
         rotate_left
         ·
          intro w'
          go_simp
          with_reducible rfl
         rotate_left
         ·
          simp only [Act.put, List.setIfInBounds_toArray, List.set_cons_zero, List.set_cons_succ, i64_w, i32_w]
          rfl
         refine pure_ (i := 6) (N := some 31) (v := ?_) (a' := ?_) #[true, true, false, true, true, true, true, false, false, false, false, false, false] rfl rfl (any_of HT_.out (by kernel_rfl)) (fun _ _ _ h => h) (Or.inl ⟨by rfl, ?_⟩) ?_ ?_
         rotate_left
         ·
          intro w'
          go_simp
          with_reducible rfl
         rotate_left
         ·
          simp only [Act.put, List.setIfInBounds_toArray, List.set_cons_zero, List.set_cons_succ, i64_w, i32_w]
          rfl
         refine take_ (i := 2) (N := some 27) (v := ?_) (a' := ?_) #[true, true, true, true, true, true, true, false, false, false, false, false, false] rfl rfl (take_ofW HT_.out HW_.out (by kernel_rfl)) (fun _ _ _ h => h) (Or.inl ⟨by rfl, ?_⟩) hHeld ?_ ?_
         rotate_left
         ·
          rintro w' ⟨s0, s1, s2, s3, s4, s5, s6⟩
          go_simp
          with_reducible rfl
         rotate_left
         ·
          simp only [Act.put, List.setIfInBounds_toArray, List.set_cons_zero, List.set_cons_succ, i64_w, i32_w]
          rfl
         refine take_ (i := 7) (N := some 32) (v := ?_) (a' := ?_) #[true, true, true, true, true, true, true, true, false, false, false, false, false] rfl rfl (take_ofW HT_.out HW_.out (by kernel_rfl)) (fun _ _ _ h => h) (Or.inl ⟨by rfl, ?_⟩) hHeld ?_ ?_
         rotate_left
         ·
          rintro w' ⟨s0, s1, s2, s3, s4, s5, s6⟩
          go_simp
          with_reducible rfl
         rotate_left
         ·
          simp only [Act.put, List.setIfInBounds_toArray, List.set_cons_zero, List.set_cons_succ, i64_w, i32_w]
          rfl
         refine one_ (i := 8) (N := some 33) #[true, true, true, true, true, true, true, true, true, false, false, false, false] rfl rfl (one_of HT_.out (by kernel_rfl)) (by decide) (fun K hK => ?_)
         refine goes_ Try.func126 (by kernel_rfl) rfl #[.agg #[.string a0_0, .int .i64 a0_1, .int .i64 a0_2, .int .i64 a0_3, .slice A0_4 l0_4.length c0_4, .slice A0_5 l0_5.length c0_5], .int .i64 x5_1, .slice A189_0 (rd_L4 t186 x6_2).length c189_0] (by rfl) rfl rfl (by (try simp only [List.map_toArray, List.map_cons, List.map_nil]); first | done | rfl | (simp only [List.length_drop, List.length_take]; rfl)) ?_
         with_reducible refine (helioscoperef01_grouped.calls k2 a0_0 a0_1 a0_2 a0_3 _ _ l0_4 _ _ l0_5 x5_1 _ _ (rd_L4 t186 x6_2) t190 _ ?side1 ?side2 ?side3 ?side4 ?side5 ?side6 A11.out).mono ?_
         (case side1 => repeat (first | exact (Kd.C_below HR0_4.out HB.out) | (with_reducible refine Kd.C_alloc ?_ _) | (with_reducible refine Kd.C_drewN ?_ _) | (with_reducible refine Kd.C_drew ?_)))
         (case side2 => exact HC0_4.out)
         (case side3 => repeat (first | exact (Kd.C_below HR0_5.out HB.out) | (with_reducible refine Kd.C_alloc ?_ _) | (with_reducible refine Kd.C_drewN ?_ _) | (with_reducible refine Kd.C_drew ?_)))
         (case side4 => exact HC0_5.out)
         (case side5 => repeat (first | exact (by repeat (first | (with_reducible exact HR189_0.out) | (with_reducible refine Kd.C_alloc ?_ _) | (with_reducible refine Kd.C_drewN ?_ _) | (with_reducible refine Kd.C_drew ?_) | exact HR189_0.out)) | (with_reducible refine Kd.C_alloc ?_ _) | (with_reducible refine Kd.C_drewN ?_ _) | (with_reducible refine Kd.C_drew ?_)))
         (case side6 => exact HC189_0.out)
         rintro e w15 ⟨v191, rfl, ho0, hb⟩
         have HS6_ := (hb.cell (World.block_lt_of_cell? _ _ (hHeld.2.2.2.2.2.2))).trans (hHeld.2.2.2.2.2.2)
         refine ⟨_, rfl, ?_⟩
         have n0_ := Aside0.mk (Kd.N_elder' (by (with_reducible repeat (first | apply Kd.N_alloc | apply Kd.N_drewN | apply Kd.N_drew)); exact HO_3.out) (Kd.R_base ho0) hb)
         have n1_ := Aside0.mk (Kd.N_elder' (by (with_reducible repeat (first | apply Kd.N_alloc | apply Kd.N_drewN | apply Kd.N_drew)); exact HO_4.out) (Kd.R_base ho0) hb)
         have n2_ := Aside0.mk (Kd.V_elder' (by (with_reducible repeat (first | apply Kd.V_alloc | apply Kd.V_drewN | apply Kd.V_drew)); exact HL189_0.out) (Kd.R_base ho0) hb)
         have n3_ := Aside0.mk (Kd.R_lower (Kd.R_newM (M := fun k_ => (w.heap.size ≤ k_)) ho0 (below_size (by repeat (first | (with_reducible first | exact HB.out | apply below_alloc | apply pw_below_drewN | apply below_drew1 | refine below_set ?_ GE185.out) | exact HB.out))) (fun k_ h_ => h_)) (below_size (by repeat (first | (with_reducible first | exact HB.out | apply below_alloc | apply pw_below_drewN | apply below_drew1 | refine below_set ?_ GE185.out) | exact HB.out))))
         have n4_ := Aside0.mk (blk_below (g := gb185) (o := .cells #[.string a0_0, .int .i64 a0_1, .int .i64 a0_2, .int .i64 a0_3, .slice A0_4 l0_4.length c0_4, .slice A0_5 l0_5.length c0_5] 27 (0, 0)) (by (with_reducible repeat (first | refine blk_drewN ?_ _ | refine blk_drew ?_ | refine blk_alloc ?_ _)); exact BK185.out) hb)
         have n5_ := Aside0.mk (Kd.C_below (by repeat (first | (with_reducible exact HR189_0.out) | (with_reducible refine Kd.C_alloc ?_ _) | (with_reducible refine Kd.C_drewN ?_ _) | (with_reducible refine Kd.C_drew ?_) | exact HR189_0.out)) hb)
         have n6_ := Aside0.mk (below_step (by repeat (first | (with_reducible first | exact HB.out | apply below_alloc | apply pw_below_drewN | apply below_drew1 | refine below_set ?_ GE185.out) | exact HB.out)) hb)
         clear HO_3
         clear HO_4
         clear HL189_0
         clear BK185
         clear HR189_0
         clear HB
         have HO_3 := n0_
         have HO_4 := n1_
         have HL189_0 := n2_
         have HO192 := n3_
         have BK185 := n4_
         have HR189_0 := n5_
         have HB := n6_
         clear n0_ n1_ n2_ n3_ n4_ n5_ n6_
         (try clear hb)
         (try clear hb2)
         (try clear hk)
         (try clear hi)
         (try clear ho0)
         obtain ⟨Ao16, co16, eo16⟩ := Kd.R_slice HO192.out
         (first | subst eo16 | (injection eo16 with f1_ f2_ f3_; have f4_ := f1_.symm; have f5_ := f3_.symm; clear f1_ f2_ f3_; subst f4_; subst f5_))
         refine hK.out _ _ ⟨(blk_cell BK185.out 0).trans rfl, (blk_cell BK185.out 1).trans rfl, (blk_cell BK185.out 2).trans rfl, (blk_cell BK185.out 3).trans rfl, (blk_cell BK185.out 4).trans rfl, (blk_cell BK185.out 5).trans rfl, HS6_⟩ (fun hHeld => ?_)
         clear hK K
         refine norm_ (a' := ?_) ?_ ?_
         rotate_left
         ·
          show Act.put _ (some 33) _ = _
          simp only [Act.put, List.setIfInBounds_toArray, List.set_cons_zero, List.set_cons_succ, i64_w, i32_w]
          rfl
         refine pure_ (i := 9) (N := some 34) (v := ?_) (a' := ?_) #[true, true, true, true, true, true, true, true, true, true, false, false, false] rfl rfl (any_of HT_.out (by kernel_rfl)) (fun _ _ _ h => h) (Or.inl ⟨by rfl, ?_⟩) ?_ ?_
         rotate_left
         ·
          intro w'
          go_simp
          with_reducible rfl
         rotate_left
         ·
          simp only [Act.put, List.setIfInBounds_toArray, List.set_cons_zero, List.set_cons_succ, i64_w, i32_w]
          rfl
         refine last_ (i := 10) (N := some 35) #[true, true, true, true, true, true, true, true, true, true, true, false, false] rfl rfl (one_of HT_.out (by kernel_rfl)) (by decide) (fun K hK => ?_)
         refine value_ (w1 := ?_) (v := ?_) (by rfl) rfl ?_ ?_
         rotate_left 2
         ·
          go_simp
          constructor
          ·
           rfl
          ·
           rfl
         refine hK.out _ _ ?_
         clear hK K
         refine norm_ (a' := ?_) ?_ ?_
         rotate_left
         ·
          show Act.put _ (some 35) _ = _
          simp only [Act.put, List.setIfInBounds_toArray, List.set_cons_zero, List.set_cons_succ, i64_w, i32_w]
          rfl
         refine last_ (i := 11) (N := some 36) #[true, true, true, true, true, true, true, true, true, true, true, true, false] rfl rfl (one_of HT_.out (by kernel_rfl)) (by decide) (fun K hK => ?_)
         refine Kd.N_append_step k57 (w0 := w) w.heap.size (by rfl) (.tmp 25) (.tmp 35) 70 57 (.agg #[(.int .i64 0), (.slice none 0 0)]) 32 rfl Try.underlying70 info57 rfl (by decide) (by omega) u4 x4_2 (⟨x5_1, t190⟩ : S57) [.int .i64 x5_1, .slice Ao16 t190.length co16] (fun k_ => (w.heap.size ≤ k_) ∧ some k_ ≠ (.slice (some ad189) t186.length co13 : Value).ownBlock ∧ k_ ≠ gb185) (fun k_ => ((fun k_ => (w.heap.size ≤ k_) ∧ some k_ ≠ (.slice (some ad189) t186.length co13 : Value).ownBlock ∧ k_ ≠ gb185)) k_ ∧ some k_ ≠ (u4 : Value).ownBlock) rfl rfl ?aP (fun _ hk => hk) ?aF ?aO ?aB ?aS ?aL ?_
         (case aP => exact (k57_mkF _ _ (⟨x5_1, t190⟩ : S57) (Kd.R_reads' (Kd.R_mono (ok' := (fun k_ => ((fun k_ => (w.heap.size ≤ k_) ∧ some k_ ≠ (.slice (some ad189) t186.length co13 : Value).ownBlock ∧ k_ ≠ gb185)) k_ ∧ some k_ ≠ (u4 : Value).ownBlock)) (Kd.R_types (Kd.R_apart' (Kd.R_apart' (HO192.out) (Kd.N_typed HO_3.out) (by decide)) (Kd.N_typed HO_4.out) (by decide)) BK185.out (by decide)) (fun k_ hk => ⟨⟨hk.1.1.1.1, ⟨hk.1.1.2, hk.2⟩⟩, hk.1.2⟩))).2.1 (Kd.R_F (Kd.R_mono (ok' := (fun k_ => ((fun k_ => (w.heap.size ≤ k_) ∧ some k_ ≠ (.slice (some ad189) t186.length co13 : Value).ownBlock ∧ k_ ≠ gb185)) k_ ∧ some k_ ≠ (u4 : Value).ownBlock)) (Kd.R_types (Kd.R_apart' (Kd.R_apart' (HO192.out) (Kd.N_typed HO_3.out) (by decide)) (Kd.N_typed HO_4.out) (by decide)) BK185.out (by decide)) (fun k_ hk => ⟨⟨hk.1.1.1.1, ⟨hk.1.1.2, hk.2⟩⟩, hk.1.2⟩)))))
         (case aB => exact (by repeat (first | (with_reducible first | exact HB.out | apply below_alloc | apply pw_below_drewN | apply below_drew1 | refine below_set ?_ GE185.out) | exact HB.out)))
         (case aF => exact (fun k_ hk => ⟨(Nat.le_trans (below_size (by repeat (first | (with_reducible first | exact HB.out | apply below_alloc | apply pw_below_drewN | apply below_drew1 | refine below_set ?_ GE185.out) | exact HB.out))) hk), Kd.fresh' (Kd.N_lt (by (with_reducible repeat (first | apply Kd.N_alloc | apply Kd.N_drewN | apply Kd.N_drew)); exact HO_3.out)) k_ hk, Kd.freshB (g := gb185) (o := .cells #[.string a0_0, .int .i64 a0_1, .int .i64 a0_2, .int .i64 a0_3, .slice A0_4 l0_4.length c0_4, .slice A0_5 l0_5.length c0_5] 27 (0, 0)) (by (with_reducible repeat (first | refine blk_drewN ?_ _ | refine blk_drew ?_ | refine blk_alloc ?_ _)); exact BK185.out) k_ hk⟩))
         (case aO => exact (by (with_reducible repeat (first | apply Kd.N_alloc | apply Kd.N_drewN | apply Kd.N_drew)); exact Kd.N_mono HO_4.out (fun _ hk => ⟨hk.1.1, ⟨hk.1.2.1, hk.1.2.2⟩⟩)))
         (case aS => exact (below_size (by repeat (first | (with_reducible first | exact HB.out | apply below_alloc | apply pw_below_drewN | apply below_drew1 | refine below_set ?_ GE185.out) | exact HB.out))))
         (case aL => have := LMc12.out; omega)
         intro v194 w17 ho hb hg hat
         rw [← Ny193.out] at ho
         have n0_ := Aside0.mk (Kd.N_afterv (ok := (fun k_ => (w.heap.size ≤ k_) ∧ some k_ ≠ (.slice Ao16 t190.length co16 : Value).ownBlock ∧ k_ ≠ gb185)) (by (with_reducible repeat (first | apply Kd.N_alloc | apply Kd.N_drewN | apply Kd.N_drew)); exact Kd.N_mono HO_3.out (fun _ hk => ⟨⟨hk.1.1, ⟨hk.2, hk.1.2.2⟩⟩, hk.1.2.1⟩)) hg hat)
         have n1_ := Aside0.mk (blk_grown (g := gb185) (o := .cells #[.string a0_0, .int .i64 a0_1, .int .i64 a0_2, .int .i64 a0_3, .slice A0_4 l0_4.length c0_4, .slice A0_5 l0_5.length c0_5] 27 (0, 0)) (by (with_reducible repeat (first | refine blk_drewN ?_ _ | refine blk_drew ?_ | refine blk_alloc ?_ _)); exact BK185.out) hg (Kd.N_ne HO_4.out BK185.out (by decide)))
         have n2_ := Aside0.mk (Kd.V_afterv (ok := (fun k_ => (w.heap.size ≤ k_) ∧ some k_ ≠ (.slice (some ad189) t186.length co13 : Value).ownBlock ∧ some k_ ≠ (.slice Ao16 t190.length co16 : Value).ownBlock ∧ k_ ≠ gb185)) (by (with_reducible repeat (first | apply Kd.V_alloc | apply Kd.V_drewN | apply Kd.V_drew)); exact Kd.V_mono HL189_0.out (fun _ hk => ⟨⟨hk.1.1.1, ⟨hk.1.2, ⟨hk.2, hk.1.1.2.2⟩⟩⟩, hk.1.1.2.1⟩)) hg hat)
         have n3_ := Aside0.mk (hb)
         have n4_ := Aside0.mk (ho)
         clear HO_3
         clear BK185
         clear HL189_0
         clear HB
         clear HO_4
         clear HO192
         have HO_3 := n0_
         have BK185 := n1_
         have HL189_0 := n2_
         have HB := n3_
         have HO195 := n4_
         clear n0_ n1_ n2_ n3_ n4_
         clear ho hb hg hat
         refine hK.out _ _ ?_
         clear hK K
         refine norm_ (a' := ?_) ?_ ?_
         rotate_left
         ·
          show Act.put _ (some 36) _ = _
          simp only [Act.put, List.setIfInBounds_toArray, List.set_cons_zero, List.set_cons_succ, i64_w, i32_w]
          rfl
         refine pure_ (i := 12) (N := some 4) (v := ?_) (a' := ?_) #[true, true, true, true, true, true, true, true, true, true, true, true, true] rfl rfl (any_of HT_.out (by kernel_rfl)) (fun _ _ _ h => h) (Or.inl ⟨by rfl, ?_⟩) ?_ ?_
         rotate_left
         ·
          intro w'
          go_simp
          with_reducible rfl
         rotate_left
         ·
          simp only [Act.put, List.setIfInBounds_toArray, List.set_cons_zero, List.set_cons_succ, i64_w, i32_w]
          rfl
         refine done_ (done_of HT_.out (by kernel_rfl)) ?_
         try go_wp2
         go_roundg k2
         case measure => have := HK1.out; have := HK2.out; omega
         case rel => exact ⟨(y193), (wrap64 (x6_2 + 1)), (by first | rfl | (simp; done) | (simp [*]; done)), H', ⟨by have := HK1.out; have := HK2.out; omega⟩, ⟨by (with_reducible repeat (first | apply Kd.N_alloc | apply Kd.N_drewN | apply Kd.N_drew)); exact Kd.N_mono HO_3.out (fun _ hk => ⟨hk.1.1, ⟨hk.2, hk.1.2.2⟩⟩)⟩, ⟨by (with_reducible repeat (first | apply Kd.N_alloc | apply Kd.N_drewN | apply Kd.N_drew)); exact HO195.out⟩, ⟨by (with_reducible repeat (first | refine blk_drewN ?_ _ | refine blk_drew ?_ | refine blk_alloc ?_ _)); exact BK185.out⟩, ⟨by repeat (first | (with_reducible first | exact HB.out | apply below_alloc | apply pw_below_drewN | apply below_drew1 | refine below_set ?_ GE185.out) | exact HB.out)⟩⟩
        ·
         rw [if_neg c12] at H
         exact absurd H (by simp)
       ·
        rw [if_neg c10] at H
        exact absurd H (by simp)
      ·
       rw [if_neg c9] at H
       have c9b0 : decide (x6_2 < (t186.length : Int)) = false := decide_eq_false c9
       clear c9
       have H' := Aside0.mk H
       clear H
       obtain ⟨Ao18, co18, eo18⟩ := Kd.N_slice HO_3.out
       subst eo18
       go_wp2
       go_roundg k2
       case measure => have := HK1.out; have := HK2.out; omega
       case rel => exact ⟨(x4_2), (wrap64 (x5_1 + 1)), (by first | rfl | (simp; done) | (simp [*]; done)), H', ⟨by have := HK1.out; have := HK2.out; omega⟩, ⟨by (with_reducible repeat (first | apply Kd.N_alloc | apply Kd.N_drewN | apply Kd.N_drew)); exact HO_3.out⟩, ⟨by (with_reducible repeat (first | apply Kd.N_alloc | apply Kd.N_drewN | apply Kd.N_drew)); exact HO_4.out⟩, ⟨by (with_reducible repeat (first | refine blk_drewN ?_ _ | refine blk_drew ?_ | refine blk_alloc ?_ _)); exact BK185.out⟩, ⟨by repeat (first | (with_reducible first | exact HB.out | apply below_alloc | apply pw_below_drewN | apply below_drew1 | refine below_set ?_ GE185.out) | exact HB.out)⟩⟩
   ·
    rw [if_neg c7] at H
    have c7b0 : decide (x5_1 ≤ a0_3) = false := decide_eq_false c7
    clear c7
    obtain rfl := Option.some.inj H
    have hcz19_0 : wr.cell? ⟨gb185, 0, none⟩ = some (.string a0_0) := (blk_cell BK185.out 0).trans rfl
    have hcz19_1 : wr.cell? ⟨gb185, 1, none⟩ = some (.int .i64 a0_1) := (blk_cell BK185.out 1).trans rfl
    have hcz19_2 : wr.cell? ⟨gb185, 2, none⟩ = some (.int .i64 a0_2) := (blk_cell BK185.out 2).trans rfl
    have hcz19_3 : wr.cell? ⟨gb185, 3, none⟩ = some (.int .i64 a0_3) := (blk_cell BK185.out 3).trans rfl
    have hcz19_4 : wr.cell? ⟨gb185, 4, none⟩ = some (.slice A0_4 l0_4.length c0_4) := (blk_cell BK185.out 4).trans rfl
    have hcz19_5 : wr.cell? ⟨gb185, 5, none⟩ = some (.slice A0_5 l0_5.length c0_5) := (blk_cell BK185.out 5).trans rfl
    have hfz19_0 := blk_frozen BK185.out 0
    have hfz19_1 := blk_frozen BK185.out 1
    have hfz19_2 := blk_frozen BK185.out 2
    have hfz19_3 := blk_frozen BK185.out 3
    have hfz19_4 := blk_frozen BK185.out 4
    have hfz19_5 := blk_frozen BK185.out 5
    go_wp2
    go_ret
    exact ⟨_, by first | rfl | (simp [errW_none, errW_some] <;> rfl) | (simp [*, errW_none, errW_some] <;> rfl), by (with_reducible repeat (first | apply Kd.N_alloc | apply Kd.N_drewN | apply Kd.N_drew)); exact Kd.N_mono HO_4.out (fun _ hk => hk.1), by repeat (first | (with_reducible first | exact HB.out | apply below_alloc | apply pw_below_drewN | apply below_drew1 | refine below_set ?_ GE185.out) | exact HB.out)⟩

def helioscoperef01_Has.l0 : Nat → List Int → Int → Int → Option (Bool)
 | 0, _, _, _ => none
 | k + 1, x0, x1, x5 => if x5 < (x0.length : Int) then (if 0 ≤ x5 then (if (rd x0 x5) = x1 then (some true) else (helioscoperef01_Has.l0 k x0 x1 (wrap64 (x5 + 1)))) else (none)) else (some false)
def helioscoperef01_Has.f (k : Nat) (l0 : List Int) (a1 : Int) : Option (Bool) := helioscoperef01_Has.l0 k l0 a1 0
set_option maxHeartbeats 8000000 in
set_option maxRecDepth 100000 in
theorem helioscoperef01_Has.calls (k : Nat) (A0 : Option Addr) (c0 : Nat) (l0 : List Int) (a1 : Int) (r : Bool) (w : World) (hr0 : Kd.C (Kd.int .i64) w A0 l0.length l0) (hc0 : l0.length ≤ c0) (h : helioscoperef01_Has.f k l0 a1 = some r) :
  Calls Try.prog 111 #[.slice A0 l0.length c0, .int .i64 a1] w fun e w' => e = .returned (.bool r) ∧ Drawn0 w w' := by
 have HR0 := Aside0.mk hr0
 have HC0 := Aside0.mk hc0
 clear hr0 hc0
 have H : (helioscoperef01_Has.l0 k l0 a1 0) = some r := h
 clear h
 have H' := Aside0.mk H
 clear H
 go_enter Try.func111, Try.ntmps111
 go_wp2
 go_loopg [5] k (fun kq v5 w' => ∃ (x5_1 : Int), v5 = .int .i64 x5_1 ∧ Aside0 (helioscoperef01_Has.l0 kq l0 a1 x5_1 = some r) ∧ Aside0 (kq ≤ k) ∧ Drawn0 w w')
 case atStart => exact ⟨(0), (by first | rfl | (simp; done) | (simp [*]; done)), H', ⟨Nat.le_refl _⟩, by repeat (first | exact Drawn0.refl _ | apply Drawn0.step)⟩
 case round =>
  clear H'
  try clear c1
  try clear p2
  obtain ⟨x5_1, rfl, HA, HK1, ⟨m1, rfl⟩⟩ := hrel
  cases gk with
  | zero => exact absurd HA.out (by simp [helioscoperef01_Has.l0])
  | succ k1 =>
   have H := HA.out
   clear HA
   simp only [helioscoperef01_Has.l0] at H
   by_cases c3 : x5_1 < (l0.length : Int)
   ·
    rw [if_pos c3] at H
    have c3b0 : decide (x5_1 < (l0.length : Int)) = true := decide_eq_true c3
    clear c3
    by_cases c4 : 0 ≤ x5_1
    ·
     rw [if_pos c4] at H
     have c4b0 : decide (0 ≤ x5_1) = true := decide_eq_true c4
     clear c4
     by_cases c5 : (rd l0 x5_1) = a1
     ·
      rw [if_pos c5] at H
      have c5b0 : ((rd l0 x5_1) == a1) = true := beq_iff_eq.mpr c5
      have c5b1 : ((rd l0 x5_1) != a1) = false := bne_eq_false_iff_eq.mpr c5
      clear c5
      obtain rfl := Option.some.inj H
      have p196 : 0 ≤ (x5_1 : Int) := of_decide_eq_true (by first | (with_reducible assumption) | assumption)
      have q196 : x5_1 < (l0.length : Int) := of_decide_eq_true (by first | (with_reducible assumption) | assumption)
      obtain ⟨ad196, e196, hx196_0⟩ := Kd.at_int HR0.out x5_1 p196 q196
      cases e196
      replace p196 := eq_true p196
      replace q196 := eq_true q196
      go_wp2
      go_ret
      exact ⟨by first | rfl | (simp; done) | (simp [*]; done), by repeat (first | exact Drawn0.refl _ | apply Drawn0.step)⟩
     ·
      rw [if_neg c5] at H
      have c5b0 : ((rd l0 x5_1) == a1) = false := beq_eq_false_iff_ne.mpr c5
      have c5b1 : ((rd l0 x5_1) != a1) = true := bne_iff_ne.mpr c5
      have H' := Aside0.mk H
      clear H
      have p196 : 0 ≤ (x5_1 : Int) := of_decide_eq_true (by first | (with_reducible assumption) | assumption)
      have q196 : x5_1 < (l0.length : Int) := of_decide_eq_true (by first | (with_reducible assumption) | assumption)
      obtain ⟨ad196, e196, hx196_0⟩ := Kd.at_int HR0.out x5_1 p196 q196
      cases e196
      replace p196 := eq_true p196
      replace q196 := eq_true q196
      go_wp2
      go_roundg k1
      case measure => have := HK1.out; omega
      case rel => exact ⟨(wrap64 (x5_1 + 1)), (by first | rfl | (simp; done) | (simp [*]; done)), H', ⟨by have := HK1.out; omega⟩, by repeat (first | exact Drawn0.refl _ | apply Drawn0.step)⟩
    ·
     rw [if_neg c4] at H
     exact absurd H (by simp)
   ·
    rw [if_neg c3] at H
    have c3b0 : decide (x5_1 < (l0.length : Int)) = false := decide_eq_false c3
    clear c3
    obtain rfl := Option.some.inj H
    go_wp2
    go_ret
    exact ⟨by first | rfl | (simp; done) | (simp [*]; done), by repeat (first | exact Drawn0.refl _ | apply Drawn0.step)⟩

end Go.Proofs.Ytemeapfnfegkiaa.PR
end
section
namespace Go.Proofs.Ytemeapfnfegkiaa.PR
open Go.RowKit Go.Proofs.YtemeapfnfegkiaaW.PrintWords Go.Proofs.YtemeapfnfegkiaaW.PrintLast Go.Proofs.YtemeapfnfegkiaaW.PrintMore
attribute [local go_sem] max2_int min2_int max_two min_two max_three min_three max_four min_four   -- for this text's walks alone
set_option linter.unusedVariables false
set_option linter.unusedSimpArgs false

mutual
def helioscoperef01_Truths.l0 : Nat → List Int → List (S57) → List (S57) → Int → ByteArray → Int → Int → Int → List (S80) → List (S52) → Option ((List (S57)))
 | 0, _, _, _, _, _, _, _, _, _, _ => none
 | k + 1, x1, x5, x6, x7, x198000, x198001, x198002, x198003, x198004, x198005 => if x7 < (x5.length : Int) then (helioscoperef01_Truths.l1 k x1 x5 x6 x7 true 0 x198000 x198001 x198002 x198003 x198004 x198005) else (some x6)
def helioscoperef01_Truths.l1 : Nat → List Int → List (S57) → List (S57) → Int → Bool → Int → ByteArray → Int → Int → Int → List (S80) → List (S52) → Option ((List (S57)))
 | 0, _, _, _, _, _, _, _, _, _, _, _, _ => none
 | k + 1, x1, x5, x6, x7, x8, x9, x198000, x198001, x198002, x198003, x198004, x198005 => if x9 < (x198005.length : Int) then (if 0 ≤ x9 then (if x8 = true then ((helioscoperef01_Has.f k x1 x9).bind fun t203 => (if t203 = true then (helioscoperef01_Truths.l1 k x1 x5 x6 x7 true (wrap64 (x9 + 1)) x198000 x198001 x198002 x198003 x198004 x198005) else (if 0 ≤ x7 then (if x7 < (x5.length : Int) then ((helioscoperef01_Together.f ((rd_T57 x5 x7).f0) ((rd_T57 x5 x7).f1) ((rd_T52 x198005 x9).f0) ((rd_T52 x198005 x9).f1)).bind fun t205 => (helioscoperef01_Truths.l1 k x1 x5 x6 x7 (t205 == ((rd_T52 x198005 x9).f2)) (wrap64 (x9 + 1)) x198000 x198001 x198002 x198003 x198004 x198005)) else (none)) else (none)))) else (helioscoperef01_Truths.l1 k x1 x5 x6 x7 false (wrap64 (x9 + 1)) x198000 x198001 x198002 x198003 x198004 x198005)) else (none)) else (if x8 = true then (if 0 ≤ x7 then (if x7 < (x5.length : Int) then (if x6.length < 4398046511104 then (helioscoperef01_Truths.l0 k x1 x5 (x6 ++ [(⟨(rd_T57 x5 x7).f0, (rd_T57 x5 x7).f1⟩ : S57)]) (wrap64 (x7 + 1)) x198000 x198001 x198002 x198003 x198004 x198005) else (none)) else (none)) else (none)) else (helioscoperef01_Truths.l0 k x1 x5 x6 (wrap64 (x7 + 1)) x198000 x198001 x198002 x198003 x198004 x198005))
end
def helioscoperef01_Truths.f (k : Nat) (a0_0 : ByteArray) (a0_1 : Int) (a0_2 : Int) (a0_3 : Int) (l0_4 : List (S80)) (l0_5 : List (S52)) (l1 : List Int) : Option ((List (S57))) := (helioscoperef01_All.f k a0_0 a0_1 a0_2 a0_3 l0_4 l0_5).bind fun t198 => (helioscoperef01_Truths.l0 k l1 t198 ([] : List (S57)) 0 a0_0 a0_1 a0_2 a0_3 l0_4 l0_5)
def helioscoperef01_Truths.T11 : Bool × List (List Nat × List Nat) := (true, [([], []), ([0], [0]), ([1], [1]), ([1], [1]), ([2, 3, 1, 1], [1, 2, 3]), ([4, 4, 1], [1, 4]), ([5], [5]), ([5], [5]), ([6, 7, 5], [5, 6, 7]), ([8, 5], [5, 8]), ([5], [5]), ([10, 5], [5, 10]), ([5], [5]), ([12, 5], [5, 12]), ([9, 11, 13, 5, 5], [5, 9, 11, 13]), ([5], [5]), ([15, 5], [5, 15]), ([14, 16, 5], [5, 14, 16]), ([5, 17, 1], [1, 5, 17]), ([1, 18], [1, 18]), ([19, 14, 0, 1, 2, 3, 4, 5, 6, 7, 8, 9, 10, 11, 12, 13, 14, 15, 16, 17, 18, 19], [0, 19])])
def helioscoperef01_Truths.B11 : List Nat := [0, 1, 3, 3, 15, 31, 63, 63, 255, 511, 63, 1087, 63, 4159, 16383, 63, 32831, 131071, 262143, 524287, 1048575]
theorem helioscoperef01_Truths.tab11 : rtab .any (opsOf Try.f50 11) = helioscoperef01_Truths.T11 := by kernel_rfl
theorem helioscoperef01_Truths.bits11 : waitsOk helioscoperef01_Truths.T11.2 helioscoperef01_Truths.B11 = true := by kernel_rfl
set_option maxHeartbeats 8000000 in
set_option maxRecDepth 100000 in
theorem helioscoperef01_Truths.calls (k : Nat) (a0_0 : ByteArray) (a0_1 : Int) (a0_2 : Int) (a0_3 : Int) (A0_4 : Option Addr) (c0_4 : Nat) (l0_4 : List (S80)) (A0_5 : Option Addr) (c0_5 : Nat) (l0_5 : List (S52)) (A1 : Option Addr) (c1 : Nat) (l1 : List Int) (r : List (S57)) (w : World) (hr0_4 : Kd.C k80 w A0_4 l0_4.length l0_4) (hc0_4 : l0_4.length ≤ c0_4) (hr0_5 : Kd.C k52 w A0_5 l0_5.length l0_5) (hc0_5 : l0_5.length ≤ c0_5) (hr1 : Kd.C (Kd.int .i64) w A1 l1.length l1) (hc1 : l1.length ≤ c1) (h : helioscoperef01_Truths.f k a0_0 a0_1 a0_2 a0_3 l0_4 l0_5 l1 = some r) :
  Calls Try.prog 50 #[.agg #[.string a0_0, .int .i64 a0_1, .int .i64 a0_2, .int .i64 a0_3, .slice A0_4 l0_4.length c0_4, .slice A0_5 l0_5.length c0_5], .slice A1 l1.length c1] w fun e w' => ∃ v0_ : Value, e = .returned (v0_) ∧ Kd.N k57 57 w' w.heap.size (fun k_ => (w.heap.size ≤ k_)) v0_ r ∧ Below w.heap.size w w' := by
 have hu27 := Try.underlying27
 have hu52 := Try.underlying52
 have hu57 := Try.underlying57
 have HR0_4 := Aside0.mk hr0_4
 have HC0_4 := Aside0.mk hc0_4
 clear hr0_4 hc0_4
 have HR0_5 := Aside0.mk hr0_5
 have HC0_5 := Aside0.mk hc0_5
 clear hr0_5 hc0_5
 have HR1 := Aside0.mk hr1
 have HC1 := Aside0.mk hc1
 clear hr1 hc1
 have HB := Aside0.mk (Below.refl w.heap.size w)
 have H : ((helioscoperef01_All.f k a0_0 a0_1 a0_2 a0_3 l0_4 l0_5).bind fun t198 => (helioscoperef01_Truths.l0 k l1 t198 ([] : List (S57)) 0 a0_0 a0_1 a0_2 a0_3 l0_4 l0_5)) = some r := h
 clear h
 replace H := Option.bind_eq_some_iff.mp H
 obtain ⟨t198, A30, H⟩ := H
 replace H : (helioscoperef01_Truths.l0 k l1 t198 ([] : List (S57)) 0 a0_0 a0_1 a0_2 a0_3 l0_4 l0_5) = some r := H
 have A3 := Aside0.mk A30
 clear A30
 have H' := Aside0.mk H
 clear H
 go_enter Try.func50, Try.ntmps50
 go_wp2_with (first | ((with_reducible refine gate_dst (N := 2) rfl ?_); refine box_event ?hg (N := 2) ?hd (cs := #[.string a0_0, .int .i64 a0_1, .int .i64 a0_2, .int .i64 a0_3, .slice A0_4 l0_4.length c0_4, .slice A0_5 l0_5.length c0_5]) (t := 27) ?hr ?_; (case hd => rfl); (case hg => rfl); (case hr => first | (go_simp; done) | (go_simp; rfl)); intro gb197 hg w4 hbox hb; have n0_ := Aside0.mk (below_step (by repeat (first | (with_reducible first | exact HB.out | apply below_alloc | apply pw_below_drewN | apply below_drew1) | exact HB.out)) hb); have n1_ := Aside0.mk (hbox); have n2_ := Aside0.mk ((by rw [hg]; exact (below_size (by repeat (first | (with_reducible first | exact HB.out | apply below_alloc | apply pw_below_drewN | apply below_drew1) | exact HB.out))) : w.heap.size ≤ gb197)); have n3_ := Aside0.mk ((by rw [hg]; exact (below_size (by repeat (first | (with_reducible first | exact HB.out | apply below_alloc | apply pw_below_drewN | apply below_drew1) | exact HB.out))) : w.heap.size ≤ gb197)); clear HB; have HB := n0_; have BK197 := n1_; have GW197 := n2_; have GE197 := n3_; clear n0_ n1_ n2_ n3_; clear hb hbox hg; have hcz5_0 : w4.cell? ⟨gb197, 0, none⟩ = some (.string a0_0) := (blk_cell BK197.out 0).trans rfl; have hcz5_1 : w4.cell? ⟨gb197, 1, none⟩ = some (.int .i64 a0_1) := (blk_cell BK197.out 1).trans rfl; have hcz5_2 : w4.cell? ⟨gb197, 2, none⟩ = some (.int .i64 a0_2) := (blk_cell BK197.out 2).trans rfl; have hcz5_3 : w4.cell? ⟨gb197, 3, none⟩ = some (.int .i64 a0_3) := (blk_cell BK197.out 3).trans rfl; have hcz5_4 : w4.cell? ⟨gb197, 4, none⟩ = some (.slice A0_4 l0_4.length c0_4) := (blk_cell BK197.out 4).trans rfl; have hcz5_5 : w4.cell? ⟨gb197, 5, none⟩ = some (.slice A0_5 l0_5.length c0_5) := (blk_cell BK197.out 5).trans rfl; have hfz5_0 := blk_frozen BK197.out 0; have hfz5_1 := blk_frozen BK197.out 1; have hfz5_2 := blk_frozen BK197.out 2; have hfz5_3 := blk_frozen BK197.out 3; have hfz5_4 := blk_frozen BK197.out 4; have hfz5_5 := blk_frozen BK197.out 5) | ((with_reducible refine gate_callee (f := 110) rfl ?_); refine goesL_ (some 12) rfl rfl Try.func110 (by kernel_rfl) rfl #[.agg #[.string a0_0, .int .i64 a0_1, .int .i64 a0_2, .int .i64 a0_3, .slice A0_4 l0_4.length c0_4, .slice A0_5 l0_5.length c0_5]] rfl (by (try simp only [List.map_toArray, List.map_cons, List.map_nil]); first | done | rfl | (simp only [List.length_drop, List.length_take]; rfl)) ?_; (with_reducible refine (helioscoperef01_All.calls k a0_0 a0_1 a0_2 a0_3 _ _ l0_4 _ _ l0_5 t198 _ ?side1 ?side2 ?side3 ?side4 A3.out).mono ?_); (case side1 => repeat (first | exact (Kd.C_below HR0_4.out HB.out) | (with_reducible refine Kd.C_alloc ?_ _) | (with_reducible refine Kd.C_drewN ?_ _) | (with_reducible refine Kd.C_drew ?_))); (case side2 => exact HC0_4.out); (case side3 => repeat (first | exact (Kd.C_below HR0_5.out HB.out) | (with_reducible refine Kd.C_alloc ?_ _) | (with_reducible refine Kd.C_drewN ?_ _) | (with_reducible refine Kd.C_drew ?_))); (case side4 => exact HC0_5.out); rintro e w6 ⟨v199, rfl, ho0, hb⟩; refine ⟨_, rfl, ?_⟩; have n0_ := Aside0.mk (Kd.N_lower (Kd.N_mono (ok' := fun k_ => (w.heap.size ≤ k_) ∧ k_ ≠ gb197) ho0 (fun k_ hk_ => ⟨(Nat.le_trans (below_size (by repeat (first | (with_reducible first | exact HB.out | apply below_alloc | apply pw_below_drewN | apply below_drew1 | refine below_set ?_ GE197.out) | exact HB.out))) hk_), (Kd.freshB (g := gb197) (o := .cells #[.string a0_0, .int .i64 a0_1, .int .i64 a0_2, .int .i64 a0_3, .slice A0_4 l0_4.length c0_4, .slice A0_5 l0_5.length c0_5] 27 (0, 0)) (by (with_reducible repeat (first | refine blk_drewN ?_ _ | refine blk_drew ?_ | refine blk_alloc ?_ _)); exact BK197.out) k_ hk_)⟩)) (below_size (by repeat (first | (with_reducible first | exact HB.out | apply below_alloc | apply pw_below_drewN | apply below_drew1 | refine below_set ?_ GE197.out) | exact HB.out)))); have n1_ := Aside0.mk (blk_below (g := gb197) (o := .cells #[.string a0_0, .int .i64 a0_1, .int .i64 a0_2, .int .i64 a0_3, .slice A0_4 l0_4.length c0_4, .slice A0_5 l0_5.length c0_5] 27 (0, 0)) (by (with_reducible repeat (first | refine blk_drewN ?_ _ | refine blk_drew ?_ | refine blk_alloc ?_ _)); exact BK197.out) hb); have n2_ := Aside0.mk (below_step (by repeat (first | (with_reducible first | exact HB.out | apply below_alloc | apply pw_below_drewN | apply below_drew1 | refine below_set ?_ GE197.out) | exact HB.out)) hb); clear BK197; clear HB; have HO200 := n0_; have BK197 := n1_; have HB := n2_; clear n0_ n1_ n2_; (try clear hb); (try clear hb2); (try clear hk); (try clear hi); (try clear ho0)))
 go_loopg [6, 7] k (fun kq v6 v7 w' => ∃ (x6_1 : List (S57)) (x7_1 : Int), v7 = .int .i64 x7_1 ∧ Aside0 (helioscoperef01_Truths.l0 kq l1 t198 x6_1 x7_1 a0_0 a0_1 a0_2 a0_3 l0_4 l0_5 = some r) ∧ Aside0 (kq ≤ k) ∧ Aside0 (Kd.N k57 57 w' w.heap.size (fun k_ => (w.heap.size ≤ k_) ∧ some k_ ≠ (v6 : Value).ownBlock ∧ k_ ≠ gb197) v199 t198) ∧ Aside0 (Kd.N k57 57 w' w.heap.size (fun k_ => (w.heap.size ≤ k_) ∧ some k_ ≠ (v199 : Value).ownBlock ∧ k_ ≠ gb197) v6 x6_1) ∧ Aside0 (w'.heap[gb197]? = some (.cells #[.string a0_0, .int .i64 a0_1, .int .i64 a0_2, .int .i64 a0_3, (.slice A0_4 l0_4.length c0_4), (.slice A0_5 l0_5.length c0_5)] 27 (0, 0))) ∧ Aside0 (Below w.heap.size w w'))
 case atStart => exact ⟨(([] : List (S57))), (0), (by first | rfl | (simp; done) | (simp [*]; done)), H', ⟨Nat.le_refl _⟩, ⟨by (with_reducible repeat (first | apply Kd.N_alloc | apply Kd.N_drewN | apply Kd.N_drew)); exact Kd.N_mono HO200.out (fun _ hk => ⟨hk.1, ⟨(by simp [Value.ownBlock]), hk.2⟩⟩)⟩, ⟨by first | exact Kd.S_nil _ _ _ _ _ | exact Kd.N_nil _ _ _ _ _ | exact Kd.V_nil _ _ _ _ _ | exact Kd.Q_nil _ _ _ _ _ | exact Kd.R_nil _ _ _ _ _⟩, ⟨by (with_reducible repeat (first | refine blk_drewN ?_ _ | refine blk_drew ?_ | refine blk_alloc ?_ _)); exact BK197.out⟩, ⟨by repeat (first | (with_reducible first | exact HB.out | apply below_alloc | apply pw_below_drewN | apply below_drew1 | refine below_set ?_ GE197.out) | exact HB.out)⟩⟩
 case round =>
  clear H'
  try clear c1
  try clear p2
  try clear c5
  try clear hcz5_0
  try clear hcz5_1
  try clear hcz5_2
  try clear hcz5_3
  try clear hcz5_4
  try clear hcz5_5
  try clear hfz5_0
  try clear hfz5_1
  try clear hfz5_2
  try clear hfz5_3
  try clear hfz5_4
  try clear hfz5_5
  obtain ⟨x6_1, x7_1, rfl, HA, HK1, HO_5, HO_6, BK197, HB⟩ := hrel
  cases gk with
  | zero => exact absurd HA.out (by simp [helioscoperef01_Truths.l0])
  | succ k1 =>
   have H := HA.out
   clear HA
   simp only [helioscoperef01_Truths.l0] at H
   by_cases c7 : x7_1 < (t198.length : Int)
   ·
    rw [if_pos c7] at H
    have c7b0 : decide (x7_1 < (t198.length : Int)) = true := decide_eq_true c7
    clear c7
    have H' := Aside0.mk H
    clear H
    obtain ⟨Ao8, co8, eo8⟩ := Kd.N_slice HO_5.out
    subst eo8
    go_wp2
    go_loopg [8, 9] k1 (fun kq v8 v9 w' => ∃ (x8_2 : Bool) (x9_2 : Int), v8 = .bool x8_2 ∧ v9 = .int .i64 x9_2 ∧ Aside0 (helioscoperef01_Truths.l1 kq l1 t198 x6_1 x7_1 x8_2 x9_2 a0_0 a0_1 a0_2 a0_3 l0_4 l0_5 = some r) ∧ Aside0 (kq ≤ k1) ∧ Aside0 (Kd.N k57 57 w' w.heap.size (fun k_ => (w.heap.size ≤ k_) ∧ some k_ ≠ (u6 : Value).ownBlock ∧ k_ ≠ gb197) (.slice Ao8 t198.length co8) t198) ∧ Aside0 (Kd.N k57 57 w' w.heap.size (fun k_ => (w.heap.size ≤ k_) ∧ some k_ ≠ ((.slice Ao8 t198.length co8) : Value).ownBlock ∧ k_ ≠ gb197) u6 x6_1) ∧ Aside0 (w'.heap[gb197]? = some (.cells #[.string a0_0, .int .i64 a0_1, .int .i64 a0_2, .int .i64 a0_3, (.slice A0_4 l0_4.length c0_4), (.slice A0_5 l0_5.length c0_5)] 27 (0, 0))) ∧ Aside0 (Below w.heap.size w w'))
    case atStart => exact ⟨(true), (0), (by first | rfl | (simp; done) | (simp [*]; done)), (by first | rfl | (simp; done) | (simp [*]; done)), H', ⟨Nat.le_refl _⟩, ⟨by (with_reducible repeat (first | apply Kd.N_alloc | apply Kd.N_drewN | apply Kd.N_drew)); exact HO_5.out⟩, ⟨by (with_reducible repeat (first | apply Kd.N_alloc | apply Kd.N_drewN | apply Kd.N_drew)); exact HO_6.out⟩, ⟨by (with_reducible repeat (first | refine blk_drewN ?_ _ | refine blk_drew ?_ | refine blk_alloc ?_ _)); exact BK197.out⟩, ⟨by repeat (first | (with_reducible first | exact HB.out | apply below_alloc | apply pw_below_drewN | apply below_drew1 | refine below_set ?_ GE197.out) | exact HB.out)⟩⟩
    case round =>
     clear H'
     try clear c1
     try clear p2
     try clear c5
     try clear c7
     try clear c7b0
     try clear hcz5_0
     try clear hcz5_1
     try clear hcz5_2
     try clear hcz5_3
     try clear hcz5_4
     try clear hcz5_5
     try clear hfz5_0
     try clear hfz5_1
     try clear hfz5_2
     try clear hfz5_3
     try clear hfz5_4
     try clear hfz5_5
     try clear p2
     obtain ⟨x8_2, x9_2, rfl, rfl, HA, HK2, HO_5, HO_6, BK197, HB⟩ := hrel
     cases gk with
     | zero => exact absurd HA.out (by simp [helioscoperef01_Truths.l1])
     | succ k2 =>
      have H := HA.out
      clear HA
      simp only [helioscoperef01_Truths.l1] at H
      by_cases c9 : x9_2 < (l0_5.length : Int)
      ·
       rw [if_pos c9] at H
       have c9b0 : decide (x9_2 < (l0_5.length : Int)) = true := decide_eq_true c9
       clear c9
       by_cases c10 : 0 ≤ x9_2
       ·
        rw [if_pos c10] at H
        have c10b0 : decide (0 ≤ x9_2) = true := decide_eq_true c10
        clear c10
        by_cases c11 : x8_2 = true
        ·
         subst c11
         have H1 : ((helioscoperef01_Has.f k2 l1 x9_2).bind fun t203 => (if t203 = true then (helioscoperef01_Truths.l1 k2 l1 t198 x6_1 x7_1 true (wrap64 (x9_2 + 1)) a0_0 a0_1 a0_2 a0_3 l0_4 l0_5) else (if 0 ≤ x7_1 then (if x7_1 < (t198.length : Int) then ((helioscoperef01_Together.f ((rd_T57 t198 x7_1).f0) ((rd_T57 t198 x7_1).f1) ((rd_T52 l0_5 x9_2).f0) ((rd_T52 l0_5 x9_2).f1)).bind fun t205 => (helioscoperef01_Truths.l1 k2 l1 t198 x6_1 x7_1 (t205 == ((rd_T52 l0_5 x9_2).f2)) (wrap64 (x9_2 + 1)) a0_0 a0_1 a0_2 a0_3 l0_4 l0_5)) else (none)) else (none)))) = some r := by rw [if_pos rfl] at H; exact H
         clear H
         have H := H1
         clear H1
         replace H := Option.bind_eq_some_iff.mp H
         obtain ⟨t203, A120, H⟩ := H
         replace H : (if t203 = true then (helioscoperef01_Truths.l1 k2 l1 t198 x6_1 x7_1 true (wrap64 (x9_2 + 1)) a0_0 a0_1 a0_2 a0_3 l0_4 l0_5) else (if 0 ≤ x7_1 then (if x7_1 < (t198.length : Int) then ((helioscoperef01_Together.f ((rd_T57 t198 x7_1).f0) ((rd_T57 t198 x7_1).f1) ((rd_T52 l0_5 x9_2).f0) ((rd_T52 l0_5 x9_2).f1)).bind fun t205 => (helioscoperef01_Truths.l1 k2 l1 t198 x6_1 x7_1 (t205 == ((rd_T52 l0_5 x9_2).f2)) (wrap64 (x9_2 + 1)) a0_0 a0_1 a0_2 a0_3 l0_4 l0_5)) else (none)) else (none))) = some r := H
         have A12 := Aside0.mk A120
         clear A120
         by_cases c13 : t203 = true
         ·
          subst c13
          have H1 : (helioscoperef01_Truths.l1 k2 l1 t198 x6_1 x7_1 true (wrap64 (x9_2 + 1)) a0_0 a0_1 a0_2 a0_3 l0_4 l0_5) = some r := by rw [if_pos rfl] at H; exact H
          clear H
          have H := H1
          clear H1
          have H' := Aside0.mk H
          clear H
          have hcz14_0 : wr.cell? ⟨gb197, 0, none⟩ = some (.string a0_0) := (blk_cell BK197.out 0).trans rfl
          have hcz14_1 : wr.cell? ⟨gb197, 1, none⟩ = some (.int .i64 a0_1) := (blk_cell BK197.out 1).trans rfl
          have hcz14_2 : wr.cell? ⟨gb197, 2, none⟩ = some (.int .i64 a0_2) := (blk_cell BK197.out 2).trans rfl
          have hcz14_3 : wr.cell? ⟨gb197, 3, none⟩ = some (.int .i64 a0_3) := (blk_cell BK197.out 3).trans rfl
          have hcz14_4 : wr.cell? ⟨gb197, 4, none⟩ = some (.slice A0_4 l0_4.length c0_4) := (blk_cell BK197.out 4).trans rfl
          have hcz14_5 : wr.cell? ⟨gb197, 5, none⟩ = some (.slice A0_5 l0_5.length c0_5) := (blk_cell BK197.out 5).trans rfl
          have hfz14_0 := blk_frozen BK197.out 0
          have hfz14_1 := blk_frozen BK197.out 1
          have hfz14_2 := blk_frozen BK197.out 2
          have hfz14_3 := blk_frozen BK197.out 3
          have hfz14_4 := blk_frozen BK197.out 4
          have hfz14_5 := blk_frozen BK197.out 5
          have p201 : 0 ≤ (x9_2 : Int) := of_decide_eq_true (by first | (with_reducible assumption) | assumption)
          have q201 : x9_2 < (l0_5.length : Int) := of_decide_eq_true (by first | (with_reducible assumption) | assumption)
          obtain ⟨ad201, e201, hx201_0, hx201_1, hx201_2⟩ := at_T52 HR0_5.out x9_2 p201 q201
          cases e201
          replace hx201_0 := (HB.out.cell (World.block_lt_of_cell? w _ hx201_0)).trans hx201_0
          replace hx201_1 := (HB.out.cell (World.block_lt_of_cell? w _ hx201_1)).trans hx201_1
          replace hx201_2 := (HB.out.cell (World.block_lt_of_cell? w _ hx201_2)).trans hx201_2
          replace p201 := eq_true p201
          replace q201 := eq_true q201
          try go_wp2_with (first | ((with_reducible refine gate_dst (N := 10) rfl ?_); refine box_event ?hg (N := 10) ?hd (cs := #[.int .i64 0, .int .i64 0, .bool false]) (t := 52) ?hr ?_; (case hd => rfl); (case hg => rfl); (case hr => first | (go_simp; done) | (go_simp; rfl)); intro gb202 hg w15 hbox hb; have n0_ := Aside0.mk (Kd.N_below (Kd.N_elderB (by (with_reducible repeat (first | apply Kd.N_alloc | apply Kd.N_drewN | apply Kd.N_drew)); exact HO_5.out) gb202 (Nat.le_of_eq hg.symm)) hb); have n1_ := Aside0.mk (Kd.N_below (Kd.N_elderB (by (with_reducible repeat (first | apply Kd.N_alloc | apply Kd.N_drewN | apply Kd.N_drew)); exact HO_6.out) gb202 (Nat.le_of_eq hg.symm)) hb); have n2_ := Aside0.mk (blk_below (g := gb197) (o := .cells #[.string a0_0, .int .i64 a0_1, .int .i64 a0_2, .int .i64 a0_3, .slice A0_4 l0_4.length c0_4, .slice (some ad201) l0_5.length c0_5] 27 (0, 0)) (by (with_reducible repeat (first | refine blk_drewN ?_ _ | refine blk_drew ?_ | refine blk_alloc ?_ _)); exact BK197.out) hb); have n3_ := Aside0.mk (below_step (by repeat (first | (with_reducible first | exact HB.out | apply below_alloc | apply pw_below_drewN | apply below_drew1 | refine below_set ?_ GE197.out) | exact HB.out)) hb); have n4_ := Aside0.mk (hbox); have n5_ := Aside0.mk ((by rw [hg]; exact (below_size (by repeat (first | (with_reducible first | exact HB.out | apply below_alloc | apply pw_below_drewN | apply below_drew1 | refine below_set ?_ GE197.out) | exact HB.out))) : w.heap.size ≤ gb202)); have n6_ := Aside0.mk ((by rw [hg]; exact (below_size (by repeat (first | (with_reducible first | exact HB.out | apply below_alloc | apply pw_below_drewN | apply below_drew1 | refine below_set ?_ GE197.out) | exact HB.out))) : w.heap.size ≤ gb202)); have n7_ := Aside0.mk ((by rw [hg]; exact Nat.ne_of_lt (blk_lt (g := gb197) (o := .cells #[.string a0_0, .int .i64 a0_1, .int .i64 a0_2, .int .i64 a0_3, .slice A0_4 l0_4.length c0_4, .slice (some ad201) l0_5.length c0_5] 27 (0, 0)) (by (with_reducible repeat (first | refine blk_drewN ?_ _ | refine blk_drew ?_ | refine blk_alloc ?_ _)); exact BK197.out)) : gb197 ≠ gb202)); have n8_ := Aside0.mk ((by rw [hg]; exact Nat.ne_of_gt (blk_lt (g := gb197) (o := .cells #[.string a0_0, .int .i64 a0_1, .int .i64 a0_2, .int .i64 a0_3, .slice A0_4 l0_4.length c0_4, .slice (some ad201) l0_5.length c0_5] 27 (0, 0)) (by (with_reducible repeat (first | refine blk_drewN ?_ _ | refine blk_drew ?_ | refine blk_alloc ?_ _)); exact BK197.out)) : gb202 ≠ gb197)); clear HO_5; clear HO_6; clear BK197; clear HB; have HO_5 := n0_; have HO_6 := n1_; have BK197 := n2_; have HB := n3_; have BK202 := n4_; have GW202 := n5_; have GE202 := n6_; have NB197_202 := n7_; have NB202_197 := n8_; clear n0_ n1_ n2_ n3_ n4_ n5_ n6_ n7_ n8_; clear hb hbox hg; have hnb16 := NB202_197.out; have hnc16 := NB197_202.out; have hcz17_0 : w15.cell? ⟨gb202, 0, none⟩ = some (.int .i64 0) := (blk_cell BK202.out 0).trans rfl; have hcz17_1 : w15.cell? ⟨gb202, 1, none⟩ = some (.int .i64 0) := (blk_cell BK202.out 1).trans rfl; have hcz17_2 : w15.cell? ⟨gb202, 2, none⟩ = some (.bool false) := (blk_cell BK202.out 2).trans rfl; have hfz17_0 := blk_frozen BK202.out 0; have hfz17_1 := blk_frozen BK202.out 1; have hfz17_2 := blk_frozen BK202.out 2))
          have n0_ : Aside0 (Kd.N k57 57 (((w15.setCell ⟨gb202, 0, none⟩ (.int .i64 ((rd_T52 l0_5 x9_2).f0))).setCell ⟨gb202, 1, none⟩ (.int .i64 ((rd_T52 l0_5 x9_2).f1))).setCell ⟨gb202, 2, none⟩ (.bool ((rd_T52 l0_5 x9_2).f2))) w.heap.size (fun k_ => (w.heap.size ≤ k_) ∧ some k_ ≠ (u6 : Value).ownBlock ∧ k_ ≠ gb197 ∧ k_ ≠ gb202) (.slice Ao8 t198.length co8) t198) := ⟨by (with_reducible repeat (first | apply Kd.N_alloc | apply Kd.N_drewN | apply Kd.N_drew)); exact Kd.N_mono (Kd.N_far (p := ⟨gb202, 2, none⟩) (Kd.N_far (p := ⟨gb202, 1, none⟩) (Kd.N_far (p := ⟨gb202, 0, none⟩) (Kd.N_mono HO_5.out (fun k_ hk => (⟨hk, hk.2⟩ : _ ∧ k_ ≠ gb202))) (fun _ hk => hk.2) (.int .i64 ((rd_T52 l0_5 x9_2).f0))) (fun _ hk => hk.2) (.int .i64 ((rd_T52 l0_5 x9_2).f1))) (fun _ hk => hk.2) (.bool ((rd_T52 l0_5 x9_2).f2))) (fun _ hk => ⟨hk.1.1.1, ⟨hk.1.1.2.1, ⟨hk.1.1.2.2, hk.1.2⟩⟩⟩)⟩
          have n1_ : Aside0 (Kd.N k57 57 (((w15.setCell ⟨gb202, 0, none⟩ (.int .i64 ((rd_T52 l0_5 x9_2).f0))).setCell ⟨gb202, 1, none⟩ (.int .i64 ((rd_T52 l0_5 x9_2).f1))).setCell ⟨gb202, 2, none⟩ (.bool ((rd_T52 l0_5 x9_2).f2))) w.heap.size (fun k_ => (w.heap.size ≤ k_) ∧ some k_ ≠ (.slice Ao8 t198.length co8 : Value).ownBlock ∧ k_ ≠ gb197 ∧ k_ ≠ gb202) u6 x6_1) := ⟨by (with_reducible repeat (first | apply Kd.N_alloc | apply Kd.N_drewN | apply Kd.N_drew)); exact Kd.N_mono (Kd.N_far (p := ⟨gb202, 2, none⟩) (Kd.N_far (p := ⟨gb202, 1, none⟩) (Kd.N_far (p := ⟨gb202, 0, none⟩) (Kd.N_mono HO_6.out (fun k_ hk => (⟨hk, hk.2⟩ : _ ∧ k_ ≠ gb202))) (fun _ hk => hk.2) (.int .i64 ((rd_T52 l0_5 x9_2).f0))) (fun _ hk => hk.2) (.int .i64 ((rd_T52 l0_5 x9_2).f1))) (fun _ hk => hk.2) (.bool ((rd_T52 l0_5 x9_2).f2))) (fun _ hk => ⟨hk.1.1.1, ⟨hk.1.1.2.1, ⟨hk.1.1.2.2, hk.1.2⟩⟩⟩)⟩
          have n2_ : Aside0 ((((w15.setCell ⟨gb202, 0, none⟩ (.int .i64 ((rd_T52 l0_5 x9_2).f0))).setCell ⟨gb202, 1, none⟩ (.int .i64 ((rd_T52 l0_5 x9_2).f1))).setCell ⟨gb202, 2, none⟩ (.bool ((rd_T52 l0_5 x9_2).f2))).heap[gb197]? = some (.cells #[.string a0_0, .int .i64 a0_1, .int .i64 a0_2, .int .i64 a0_3, .slice A0_4 l0_4.length c0_4, .slice (some ad201) l0_5.length c0_5] 27 (0, 0))) := ⟨by (with_reducible repeat (first | refine blk_drewN ?_ _ | refine blk_drew ?_ | refine blk_alloc ?_ _)); refine blk_far ?_ NB197_202.out _; (with_reducible repeat (first | refine blk_drewN ?_ _ | refine blk_drew ?_ | refine blk_alloc ?_ _)); refine blk_far ?_ NB197_202.out _; (with_reducible repeat (first | refine blk_drewN ?_ _ | refine blk_drew ?_ | refine blk_alloc ?_ _)); refine blk_far ?_ NB197_202.out _; (with_reducible repeat (first | refine blk_drewN ?_ _ | refine blk_drew ?_ | refine blk_alloc ?_ _)); exact BK197.out⟩
          have n3_ : Aside0 ((((w15.setCell ⟨gb202, 0, none⟩ (.int .i64 ((rd_T52 l0_5 x9_2).f0))).setCell ⟨gb202, 1, none⟩ (.int .i64 ((rd_T52 l0_5 x9_2).f1))).setCell ⟨gb202, 2, none⟩ (.bool ((rd_T52 l0_5 x9_2).f2))).heap[gb202]? = some (.cells #[.int .i64 ((rd_T52 l0_5 x9_2).f0), .int .i64 ((rd_T52 l0_5 x9_2).f1), .bool ((rd_T52 l0_5 x9_2).f2)] 52 (0, 0))) := ⟨by (with_reducible repeat (first | refine blk_drewN ?_ _ | refine blk_drew ?_ | refine blk_alloc ?_ _)); refine blk_put (cs := #[.int .i64 ((rd_T52 l0_5 x9_2).f0), .int .i64 ((rd_T52 l0_5 x9_2).f1), .bool false]) ?_ 2 _ rfl; (with_reducible repeat (first | refine blk_drewN ?_ _ | refine blk_drew ?_ | refine blk_alloc ?_ _)); refine blk_put (cs := #[.int .i64 ((rd_T52 l0_5 x9_2).f0), .int .i64 0, .bool false]) ?_ 1 _ rfl; (with_reducible repeat (first | refine blk_drewN ?_ _ | refine blk_drew ?_ | refine blk_alloc ?_ _)); refine blk_put (cs := #[.int .i64 0, .int .i64 0, .bool false]) ?_ 0 _ rfl; (with_reducible repeat (first | refine blk_drewN ?_ _ | refine blk_drew ?_ | refine blk_alloc ?_ _)); exact BK202.out⟩
          have n4_ : Aside0 (Below w.heap.size w (((w15.setCell ⟨gb202, 0, none⟩ (.int .i64 ((rd_T52 l0_5 x9_2).f0))).setCell ⟨gb202, 1, none⟩ (.int .i64 ((rd_T52 l0_5 x9_2).f1))).setCell ⟨gb202, 2, none⟩ (.bool ((rd_T52 l0_5 x9_2).f2)))) := ⟨by repeat (first | (with_reducible first | exact HB.out | apply below_alloc | apply pw_below_drewN | apply below_drew1 | refine below_set ?_ GE197.out | refine below_set ?_ GE202.out) | exact HB.out)⟩
          (try clear HO_5)
          (try clear HO_6)
          (try clear BK197)
          (try clear BK202)
          (try clear HB)
          generalize (((w15.setCell ⟨gb202, 0, none⟩ (.int .i64 ((rd_T52 l0_5 x9_2).f0))).setCell ⟨gb202, 1, none⟩ (.int .i64 ((rd_T52 l0_5 x9_2).f1))).setCell ⟨gb202, 2, none⟩ (.bool ((rd_T52 l0_5 x9_2).f2))) = w18 at n0_ n1_ n2_ n3_ n4_ ⊢
          have HO_5 := n0_
          have HO_6 := n1_
          have BK197 := n2_
          have BK202 := n3_
          have HB := n4_
          clear n0_ n1_ n2_ n3_ n4_
          have n0_ := Aside0.mk (Kd.N_drew HO_5.out)
          have n1_ := Aside0.mk (Kd.N_drew HO_6.out)
          have n2_ := Aside0.mk (blk_drew BK197.out)
          have n3_ := Aside0.mk (blk_drew BK202.out)
          have n4_ := Aside0.mk (below_drew1 HB.out)
          clear HO_5
          clear HO_6
          clear BK197
          clear BK202
          clear HB
          have HO_5 := n0_
          have HO_6 := n1_
          have BK197 := n2_
          have BK202 := n3_
          have HB := n4_
          clear n0_ n1_ n2_ n3_ n4_
          refine start_ (n := 21) (S := fun w' => True) (ds := []) #[false, false, false, false, false, false, false, false, false, false, false, false, false, false, false, false, false, false, false, false, false] (by kernel_rfl) rfl rfl trivial (fun hHeld => ?_); refine with_tabW helioscoperef01_Truths.tab11 helioscoperef01_Truths.bits11 (fun HT_ HW_ => ?_)
          generalize w18.drew = w19 at HO_5 HO_6 BK197 BK202 HB hHeld ⊢
          refine pure_ (i := 0) (N := some 31) (v := ?_) (a' := ?_) #[true, false, false, false, false, false, false, false, false, false, false, false, false, false, false, false, false, false, false, false, false] rfl rfl (any_of HT_.out (by kernel_rfl)) (fun _ _ _ h => h) (Or.inl ⟨by rfl, ?_⟩) ?_ ?_
          rotate_left
          ·
           intro w'
           go_simp
           with_reducible rfl
          rotate_left
          ·
           simp only [Act.put, List.setIfInBounds_toArray, List.set_cons_zero, List.set_cons_succ, i64_w, i32_w]
           rfl
          refine pure_ (i := 1) (N := some 32) (v := ?_) (a' := ?_) #[true, true, false, false, false, false, false, false, false, false, false, false, false, false, false, false, false, false, false, false, false] rfl rfl (any_of HT_.out (by kernel_rfl)) (fun _ _ _ h => h) (Or.inl ⟨by rfl, ?_⟩) ?_ ?_
          rotate_left
          ·
           intro w'
           go_simp
           with_reducible rfl
          rotate_left
          ·
           simp only [Act.put, List.setIfInBounds_toArray, List.set_cons_zero, List.set_cons_succ, i64_w, i32_w]
           rfl
          refine pure_ (i := 2) (N := some 33) (v := ?_) (a' := ?_) #[true, true, true, false, false, false, false, false, false, false, false, false, false, false, false, false, false, false, false, false, false] rfl rfl (any_of HT_.out (by kernel_rfl)) (fun _ _ _ h => h) (Or.inl ⟨by rfl, ?_⟩) ?_ ?_
          rotate_left
          ·
           intro w'
           go_simp
           with_reducible rfl
          rotate_left
          ·
           simp only [Act.put, List.setIfInBounds_toArray, List.set_cons_zero, List.set_cons_succ, i64_w, i32_w]
           rfl
          refine pure_ (i := 3) (N := some 34) (v := ?_) (a' := ?_) #[true, true, true, true, false, false, false, false, false, false, false, false, false, false, false, false, false, false, false, false, false] rfl rfl (any_of HT_.out (by kernel_rfl)) (fun _ _ _ h => h) (Or.inl ⟨by rfl, ?_⟩) ?_ ?_
          rotate_left
          ·
           intro w'
           go_simp
           with_reducible rfl
          rotate_left
          ·
           simp only [Act.put, List.setIfInBounds_toArray, List.set_cons_zero, List.set_cons_succ, i64_w, i32_w]
           rfl
          refine one_ (i := 4) (N := some 35) #[true, true, true, true, true, false, false, false, false, false, false, false, false, false, false, false, false, false, false, false, false] rfl rfl (one_of HT_.out (by kernel_rfl)) (by decide) (fun K hK => ?_)
          refine goes_ Try.func111 (by kernel_rfl) rfl #[.slice A1 l1.length c1, .int .i64 x9_2] (by rfl) rfl rfl (by (try simp only [List.map_toArray, List.map_cons, List.map_nil]); first | done | rfl | (simp only [List.length_drop, List.length_take]; rfl)) ?_
          with_reducible refine (helioscoperef01_Has.calls k2 _ _ l1 x9_2 true _ ?side1 ?side2 A12.out).mono ?_
          (case side1 => repeat (first | exact (Kd.C_below HR1.out HB.out) | (with_reducible refine Kd.C_alloc ?_ _) | (with_reducible refine Kd.C_drewN ?_ _) | (with_reducible refine Kd.C_drew ?_)))
          (case side2 => exact HC1.out)
          rintro e w' ⟨rfl, ⟨nd, rfl⟩⟩
          refine ⟨_, rfl, ?_⟩
          refine hK.out _ _ trivial (fun hHeld => ?_)
          clear hK K
          refine norm_ (a' := ?_) ?_ ?_
          rotate_left
          ·
           show Act.put _ (some 35) _ = _
           simp only [Act.put, List.setIfInBounds_toArray, List.set_cons_zero, List.set_cons_succ, i64_w, i32_w]
           rfl
          refine pure_ (i := 5) (N := some 36) (v := ?_) (a' := ?_) #[true, true, true, true, true, true, false, false, false, false, false, false, false, false, false, false, false, false, false, false, false] rfl rfl (any_of HT_.out (by kernel_rfl)) (fun _ _ _ h => h) (Or.inl ⟨by rfl, ?_⟩) ?_ ?_
          rotate_left
          ·
           intro w'
           go_simp
           with_reducible rfl
          rotate_left
          ·
           simp only [Act.put, List.setIfInBounds_toArray, List.set_cons_zero, List.set_cons_succ, i64_w, i32_w]
           rfl
          refine pure_ (i := 6) (N := some 37) (v := undef) (a' := ?_) #[true, true, true, true, true, true, true, false, false, false, false, false, false, false, false, false, false, false, false, false, false] rfl rfl (any_of HT_.out (by kernel_rfl)) (fun _ _ _ h => h) (Or.inr ⟨by rfl, rfl⟩) ?_ ?_
          rotate_left
          ·
           simp only [Act.put, List.setIfInBounds_toArray, List.set_cons_zero, List.set_cons_succ, i64_w, i32_w]
           rfl
          refine pure_ (i := 7) (N := some 38) (v := undef) (a' := ?_) #[true, true, true, true, true, true, true, true, false, false, false, false, false, false, false, false, false, false, false, false, false] rfl rfl (any_of HT_.out (by kernel_rfl)) (fun _ _ _ h => h) (Or.inr ⟨by rfl, rfl⟩) ?_ ?_
          rotate_left
          ·
           simp only [Act.put, List.setIfInBounds_toArray, List.set_cons_zero, List.set_cons_succ, i64_w, i32_w]
           rfl
          refine pure_ (i := 8) (N := some 39) (v := undef) (a' := ?_) #[true, true, true, true, true, true, true, true, true, false, false, false, false, false, false, false, false, false, false, false, false] rfl rfl (any_of HT_.out (by kernel_rfl)) (fun _ _ _ h => h) (Or.inr ⟨by rfl, rfl⟩) ?_ ?_
          rotate_left
          ·
           simp only [Act.put, List.setIfInBounds_toArray, List.set_cons_zero, List.set_cons_succ, i64_w, i32_w]
           rfl
          refine pure_ (i := 9) (N := some 40) (v := undef) (a' := ?_) #[true, true, true, true, true, true, true, true, true, true, false, false, false, false, false, false, false, false, false, false, false] rfl rfl (any_of HT_.out (by kernel_rfl)) (fun _ _ _ h => h) (Or.inr ⟨by rfl, rfl⟩) ?_ ?_
          rotate_left
          ·
           simp only [Act.put, List.setIfInBounds_toArray, List.set_cons_zero, List.set_cons_succ, i64_w, i32_w]
           rfl
          refine pure_ (i := 10) (N := some 41) (v := undef) (a' := ?_) #[true, true, true, true, true, true, true, true, true, true, true, false, false, false, false, false, false, false, false, false, false] rfl rfl (any_of HT_.out (by kernel_rfl)) (fun _ _ _ h => h) (Or.inr ⟨by rfl, rfl⟩) ?_ ?_
          rotate_left
          ·
           simp only [Act.put, List.setIfInBounds_toArray, List.set_cons_zero, List.set_cons_succ, i64_w, i32_w]
           rfl
          refine pure_ (i := 11) (N := some 42) (v := undef) (a' := ?_) #[true, true, true, true, true, true, true, true, true, true, true, true, false, false, false, false, false, false, false, false, false] rfl rfl (any_of HT_.out (by kernel_rfl)) (fun _ _ _ h => h) (Or.inr ⟨by rfl, rfl⟩) ?_ ?_
          rotate_left
          ·
           simp only [Act.put, List.setIfInBounds_toArray, List.set_cons_zero, List.set_cons_succ, i64_w, i32_w]
           rfl
          refine pure_ (i := 12) (N := some 43) (v := undef) (a' := ?_) #[true, true, true, true, true, true, true, true, true, true, true, true, true, false, false, false, false, false, false, false, false] rfl rfl (any_of HT_.out (by kernel_rfl)) (fun _ _ _ h => h) (Or.inr ⟨by rfl, rfl⟩) ?_ ?_
          rotate_left
          ·
           simp only [Act.put, List.setIfInBounds_toArray, List.set_cons_zero, List.set_cons_succ, i64_w, i32_w]
           rfl
          refine pure_ (i := 13) (N := some 44) (v := undef) (a' := ?_) #[true, true, true, true, true, true, true, true, true, true, true, true, true, true, false, false, false, false, false, false, false] rfl rfl (any_of HT_.out (by kernel_rfl)) (fun _ _ _ h => h) (Or.inr ⟨by rfl, rfl⟩) ?_ ?_
          rotate_left
          ·
           simp only [Act.put, List.setIfInBounds_toArray, List.set_cons_zero, List.set_cons_succ, i64_w, i32_w]
           rfl
          refine pure_ (i := 14) (N := some 45) (v := undef) (a' := ?_) #[true, true, true, true, true, true, true, true, true, true, true, true, true, true, true, false, false, false, false, false, false] rfl rfl (any_of HT_.out (by kernel_rfl)) (fun _ _ _ h => h) (Or.inr ⟨by rfl, rfl⟩) ?_ ?_
          rotate_left
          ·
           simp only [Act.put, List.setIfInBounds_toArray, List.set_cons_zero, List.set_cons_succ, i64_w, i32_w]
           rfl
          refine pure_ (i := 15) (N := some 46) (v := undef) (a' := ?_) #[true, true, true, true, true, true, true, true, true, true, true, true, true, true, true, true, false, false, false, false, false] rfl rfl (any_of HT_.out (by kernel_rfl)) (fun _ _ _ h => h) (Or.inr ⟨by rfl, rfl⟩) ?_ ?_
          rotate_left
          ·
           simp only [Act.put, List.setIfInBounds_toArray, List.set_cons_zero, List.set_cons_succ, i64_w, i32_w]
           rfl
          refine pure_ (i := 16) (N := some 47) (v := undef) (a' := ?_) #[true, true, true, true, true, true, true, true, true, true, true, true, true, true, true, true, true, false, false, false, false] rfl rfl (any_of HT_.out (by kernel_rfl)) (fun _ _ _ h => h) (Or.inr ⟨by rfl, rfl⟩) ?_ ?_
          rotate_left
          ·
           simp only [Act.put, List.setIfInBounds_toArray, List.set_cons_zero, List.set_cons_succ, i64_w, i32_w]
           rfl
          refine pure_ (i := 17) (N := some 48) (v := undef) (a' := ?_) #[true, true, true, true, true, true, true, true, true, true, true, true, true, true, true, true, true, true, false, false, false] rfl rfl (any_of HT_.out (by kernel_rfl)) (fun _ _ _ h => h) (Or.inr ⟨by rfl, rfl⟩) ?_ ?_
          rotate_left
          ·
           simp only [Act.put, List.setIfInBounds_toArray, List.set_cons_zero, List.set_cons_succ, i64_w, i32_w]
           rfl
          refine pure_ (i := 18) (N := some 49) (v := ?_) (a' := ?_) #[true, true, true, true, true, true, true, true, true, true, true, true, true, true, true, true, true, true, true, false, false] rfl rfl (any_of HT_.out (by kernel_rfl)) (fun _ _ _ h => h) (Or.inl ⟨by rfl, ?_⟩) ?_ ?_
          rotate_left
          ·
           intro w'
           go_simp
           with_reducible rfl
          rotate_left
          ·
           simp only [Act.put, List.setIfInBounds_toArray, List.set_cons_zero, List.set_cons_succ, i64_w, i32_w]
           rfl
          refine pure_ (i := 19) (N := some 50) (v := ?_) (a' := ?_) #[true, true, true, true, true, true, true, true, true, true, true, true, true, true, true, true, true, true, true, true, false] rfl rfl (any_of HT_.out (by kernel_rfl)) (fun _ _ _ h => h) (Or.inl ⟨by rfl, ?_⟩) ?_ ?_
          rotate_left
          ·
           intro w'
           go_simp
           with_reducible rfl
          rotate_left
          ·
           simp only [Act.put, List.setIfInBounds_toArray, List.set_cons_zero, List.set_cons_succ, i64_w, i32_w]
           rfl
          refine pure_ (i := 20) (N := some 8) (v := ?_) (a' := ?_) #[true, true, true, true, true, true, true, true, true, true, true, true, true, true, true, true, true, true, true, true, true] rfl rfl (any_of HT_.out (by kernel_rfl)) (fun _ _ _ h => h) (Or.inl ⟨by rfl, ?_⟩) ?_ ?_
          rotate_left
          ·
           intro w'
           go_simp
           with_reducible rfl
          rotate_left
          ·
           simp only [Act.put, List.setIfInBounds_toArray, List.set_cons_zero, List.set_cons_succ, i64_w, i32_w]
           rfl
          refine done_ (done_of HT_.out (by kernel_rfl)) ?_
          try go_wp2
          go_roundg k2
          case measure => have := HK1.out; have := HK2.out; omega
          case rel => exact ⟨(true), (wrap64 (x9_2 + 1)), (by first | rfl | (simp; done) | (simp [*]; done)), (by first | rfl | (simp; done) | (simp [*]; done)), H', ⟨by have := HK1.out; have := HK2.out; omega⟩, ⟨by (with_reducible repeat (first | apply Kd.N_alloc | apply Kd.N_drewN | apply Kd.N_drew)); exact Kd.N_mono HO_5.out (fun _ hk => ⟨hk.1, ⟨hk.2.1, hk.2.2.1⟩⟩)⟩, ⟨by (with_reducible repeat (first | apply Kd.N_alloc | apply Kd.N_drewN | apply Kd.N_drew)); exact Kd.N_mono HO_6.out (fun _ hk => ⟨hk.1, ⟨hk.2.1, hk.2.2.1⟩⟩)⟩, ⟨by (with_reducible repeat (first | refine blk_drewN ?_ _ | refine blk_drew ?_ | refine blk_alloc ?_ _)); exact BK197.out⟩, ⟨by repeat (first | (with_reducible first | exact HB.out | apply below_alloc | apply pw_below_drewN | apply below_drew1 | refine below_set ?_ GE197.out | refine below_set ?_ GE202.out) | exact HB.out)⟩⟩
         ·
          replace c13 := Bool.eq_false_iff.mpr c13
          subst c13
          have H1 : (if 0 ≤ x7_1 then (if x7_1 < (t198.length : Int) then ((helioscoperef01_Together.f ((rd_T57 t198 x7_1).f0) ((rd_T57 t198 x7_1).f1) ((rd_T52 l0_5 x9_2).f0) ((rd_T52 l0_5 x9_2).f1)).bind fun t205 => (helioscoperef01_Truths.l1 k2 l1 t198 x6_1 x7_1 (t205 == ((rd_T52 l0_5 x9_2).f2)) (wrap64 (x9_2 + 1)) a0_0 a0_1 a0_2 a0_3 l0_4 l0_5)) else (none)) else (none)) = some r := by rw [if_neg (show ¬ (false = true) by decide)] at H; exact H
          clear H
          have H := H1
          clear H1
          by_cases c20 : 0 ≤ x7_1
          ·
           rw [if_pos c20] at H
           have c20b0 : decide (0 ≤ x7_1) = true := decide_eq_true c20
           clear c20
           by_cases c21 : x7_1 < (t198.length : Int)
           ·
            rw [if_pos c21] at H
            have c21b0 : decide (x7_1 < (t198.length : Int)) = true := decide_eq_true c21
            clear c21
            replace H := Option.bind_eq_some_iff.mp H
            obtain ⟨t205, A220, H⟩ := H
            replace H : (helioscoperef01_Truths.l1 k2 l1 t198 x6_1 x7_1 (t205 == ((rd_T52 l0_5 x9_2).f2)) (wrap64 (x9_2 + 1)) a0_0 a0_1 a0_2 a0_3 l0_4 l0_5) = some r := H
            have A22 := Aside0.mk A220
            clear A220
            have H' := Aside0.mk H
            clear H
            have hcz23_0 : wr.cell? ⟨gb197, 0, none⟩ = some (.string a0_0) := (blk_cell BK197.out 0).trans rfl
            have hcz23_1 : wr.cell? ⟨gb197, 1, none⟩ = some (.int .i64 a0_1) := (blk_cell BK197.out 1).trans rfl
            have hcz23_2 : wr.cell? ⟨gb197, 2, none⟩ = some (.int .i64 a0_2) := (blk_cell BK197.out 2).trans rfl
            have hcz23_3 : wr.cell? ⟨gb197, 3, none⟩ = some (.int .i64 a0_3) := (blk_cell BK197.out 3).trans rfl
            have hcz23_4 : wr.cell? ⟨gb197, 4, none⟩ = some (.slice A0_4 l0_4.length c0_4) := (blk_cell BK197.out 4).trans rfl
            have hcz23_5 : wr.cell? ⟨gb197, 5, none⟩ = some (.slice A0_5 l0_5.length c0_5) := (blk_cell BK197.out 5).trans rfl
            have hfz23_0 := blk_frozen BK197.out 0
            have hfz23_1 := blk_frozen BK197.out 1
            have hfz23_2 := blk_frozen BK197.out 2
            have hfz23_3 := blk_frozen BK197.out 3
            have hfz23_4 := blk_frozen BK197.out 4
            have hfz23_5 := blk_frozen BK197.out 5
            have p201 : 0 ≤ (x9_2 : Int) := of_decide_eq_true (by first | (with_reducible assumption) | assumption)
            have q201 : x9_2 < (l0_5.length : Int) := of_decide_eq_true (by first | (with_reducible assumption) | assumption)
            obtain ⟨ad201, e201, hx201_0, hx201_1, hx201_2⟩ := at_T52 HR0_5.out x9_2 p201 q201
            cases e201
            replace hx201_0 := (HB.out.cell (World.block_lt_of_cell? w _ hx201_0)).trans hx201_0
            replace hx201_1 := (HB.out.cell (World.block_lt_of_cell? w _ hx201_1)).trans hx201_1
            replace hx201_2 := (HB.out.cell (World.block_lt_of_cell? w _ hx201_2)).trans hx201_2
            replace p201 := eq_true p201
            replace q201 := eq_true q201
            try go_wp2_with (first | ((with_reducible refine gate_dst (N := 10) rfl ?_); refine box_event ?hg (N := 10) ?hd (cs := #[.int .i64 0, .int .i64 0, .bool false]) (t := 52) ?hr ?_; (case hd => rfl); (case hg => rfl); (case hr => first | (go_simp; done) | (go_simp; rfl)); intro gb202 hg w24 hbox hb; have n0_ := Aside0.mk (Kd.N_below (Kd.N_elderB (by (with_reducible repeat (first | apply Kd.N_alloc | apply Kd.N_drewN | apply Kd.N_drew)); exact HO_5.out) gb202 (Nat.le_of_eq hg.symm)) hb); have n1_ := Aside0.mk (Kd.N_below (Kd.N_elderB (by (with_reducible repeat (first | apply Kd.N_alloc | apply Kd.N_drewN | apply Kd.N_drew)); exact HO_6.out) gb202 (Nat.le_of_eq hg.symm)) hb); have n2_ := Aside0.mk (blk_below (g := gb197) (o := .cells #[.string a0_0, .int .i64 a0_1, .int .i64 a0_2, .int .i64 a0_3, .slice A0_4 l0_4.length c0_4, .slice (some ad201) l0_5.length c0_5] 27 (0, 0)) (by (with_reducible repeat (first | refine blk_drewN ?_ _ | refine blk_drew ?_ | refine blk_alloc ?_ _)); exact BK197.out) hb); have n3_ := Aside0.mk (below_step (by repeat (first | (with_reducible first | exact HB.out | apply below_alloc | apply pw_below_drewN | apply below_drew1 | refine below_set ?_ GE197.out) | exact HB.out)) hb); have n4_ := Aside0.mk (hbox); have n5_ := Aside0.mk ((by rw [hg]; exact (below_size (by repeat (first | (with_reducible first | exact HB.out | apply below_alloc | apply pw_below_drewN | apply below_drew1 | refine below_set ?_ GE197.out) | exact HB.out))) : w.heap.size ≤ gb202)); have n6_ := Aside0.mk ((by rw [hg]; exact (below_size (by repeat (first | (with_reducible first | exact HB.out | apply below_alloc | apply pw_below_drewN | apply below_drew1 | refine below_set ?_ GE197.out) | exact HB.out))) : w.heap.size ≤ gb202)); have n7_ := Aside0.mk ((by rw [hg]; exact Nat.ne_of_lt (blk_lt (g := gb197) (o := .cells #[.string a0_0, .int .i64 a0_1, .int .i64 a0_2, .int .i64 a0_3, .slice A0_4 l0_4.length c0_4, .slice (some ad201) l0_5.length c0_5] 27 (0, 0)) (by (with_reducible repeat (first | refine blk_drewN ?_ _ | refine blk_drew ?_ | refine blk_alloc ?_ _)); exact BK197.out)) : gb197 ≠ gb202)); have n8_ := Aside0.mk ((by rw [hg]; exact Nat.ne_of_gt (blk_lt (g := gb197) (o := .cells #[.string a0_0, .int .i64 a0_1, .int .i64 a0_2, .int .i64 a0_3, .slice A0_4 l0_4.length c0_4, .slice (some ad201) l0_5.length c0_5] 27 (0, 0)) (by (with_reducible repeat (first | refine blk_drewN ?_ _ | refine blk_drew ?_ | refine blk_alloc ?_ _)); exact BK197.out)) : gb202 ≠ gb197)); clear HO_5; clear HO_6; clear BK197; clear HB; have HO_5 := n0_; have HO_6 := n1_; have BK197 := n2_; have HB := n3_; have BK202 := n4_; have GW202 := n5_; have GE202 := n6_; have NB197_202 := n7_; have NB202_197 := n8_; clear n0_ n1_ n2_ n3_ n4_ n5_ n6_ n7_ n8_; clear hb hbox hg; have hnb25 := NB202_197.out; have hnc25 := NB197_202.out; have hcz26_0 : w24.cell? ⟨gb202, 0, none⟩ = some (.int .i64 0) := (blk_cell BK202.out 0).trans rfl; have hcz26_1 : w24.cell? ⟨gb202, 1, none⟩ = some (.int .i64 0) := (blk_cell BK202.out 1).trans rfl; have hcz26_2 : w24.cell? ⟨gb202, 2, none⟩ = some (.bool false) := (blk_cell BK202.out 2).trans rfl; have hfz26_0 := blk_frozen BK202.out 0; have hfz26_1 := blk_frozen BK202.out 1; have hfz26_2 := blk_frozen BK202.out 2))
            have n0_ : Aside0 (Kd.N k57 57 (((w24.setCell ⟨gb202, 0, none⟩ (.int .i64 ((rd_T52 l0_5 x9_2).f0))).setCell ⟨gb202, 1, none⟩ (.int .i64 ((rd_T52 l0_5 x9_2).f1))).setCell ⟨gb202, 2, none⟩ (.bool ((rd_T52 l0_5 x9_2).f2))) w.heap.size (fun k_ => (w.heap.size ≤ k_) ∧ some k_ ≠ (u6 : Value).ownBlock ∧ k_ ≠ gb197 ∧ k_ ≠ gb202) (.slice Ao8 t198.length co8) t198) := ⟨by (with_reducible repeat (first | apply Kd.N_alloc | apply Kd.N_drewN | apply Kd.N_drew)); exact Kd.N_mono (Kd.N_far (p := ⟨gb202, 2, none⟩) (Kd.N_far (p := ⟨gb202, 1, none⟩) (Kd.N_far (p := ⟨gb202, 0, none⟩) (Kd.N_mono HO_5.out (fun k_ hk => (⟨hk, hk.2⟩ : _ ∧ k_ ≠ gb202))) (fun _ hk => hk.2) (.int .i64 ((rd_T52 l0_5 x9_2).f0))) (fun _ hk => hk.2) (.int .i64 ((rd_T52 l0_5 x9_2).f1))) (fun _ hk => hk.2) (.bool ((rd_T52 l0_5 x9_2).f2))) (fun _ hk => ⟨hk.1.1.1, ⟨hk.1.1.2.1, ⟨hk.1.1.2.2, hk.1.2⟩⟩⟩)⟩
            have n1_ : Aside0 (Kd.N k57 57 (((w24.setCell ⟨gb202, 0, none⟩ (.int .i64 ((rd_T52 l0_5 x9_2).f0))).setCell ⟨gb202, 1, none⟩ (.int .i64 ((rd_T52 l0_5 x9_2).f1))).setCell ⟨gb202, 2, none⟩ (.bool ((rd_T52 l0_5 x9_2).f2))) w.heap.size (fun k_ => (w.heap.size ≤ k_) ∧ some k_ ≠ (.slice Ao8 t198.length co8 : Value).ownBlock ∧ k_ ≠ gb197 ∧ k_ ≠ gb202) u6 x6_1) := ⟨by (with_reducible repeat (first | apply Kd.N_alloc | apply Kd.N_drewN | apply Kd.N_drew)); exact Kd.N_mono (Kd.N_far (p := ⟨gb202, 2, none⟩) (Kd.N_far (p := ⟨gb202, 1, none⟩) (Kd.N_far (p := ⟨gb202, 0, none⟩) (Kd.N_mono HO_6.out (fun k_ hk => (⟨hk, hk.2⟩ : _ ∧ k_ ≠ gb202))) (fun _ hk => hk.2) (.int .i64 ((rd_T52 l0_5 x9_2).f0))) (fun _ hk => hk.2) (.int .i64 ((rd_T52 l0_5 x9_2).f1))) (fun _ hk => hk.2) (.bool ((rd_T52 l0_5 x9_2).f2))) (fun _ hk => ⟨hk.1.1.1, ⟨hk.1.1.2.1, ⟨hk.1.1.2.2, hk.1.2⟩⟩⟩)⟩
            have n2_ : Aside0 ((((w24.setCell ⟨gb202, 0, none⟩ (.int .i64 ((rd_T52 l0_5 x9_2).f0))).setCell ⟨gb202, 1, none⟩ (.int .i64 ((rd_T52 l0_5 x9_2).f1))).setCell ⟨gb202, 2, none⟩ (.bool ((rd_T52 l0_5 x9_2).f2))).heap[gb197]? = some (.cells #[.string a0_0, .int .i64 a0_1, .int .i64 a0_2, .int .i64 a0_3, .slice A0_4 l0_4.length c0_4, .slice (some ad201) l0_5.length c0_5] 27 (0, 0))) := ⟨by (with_reducible repeat (first | refine blk_drewN ?_ _ | refine blk_drew ?_ | refine blk_alloc ?_ _)); refine blk_far ?_ NB197_202.out _; (with_reducible repeat (first | refine blk_drewN ?_ _ | refine blk_drew ?_ | refine blk_alloc ?_ _)); refine blk_far ?_ NB197_202.out _; (with_reducible repeat (first | refine blk_drewN ?_ _ | refine blk_drew ?_ | refine blk_alloc ?_ _)); refine blk_far ?_ NB197_202.out _; (with_reducible repeat (first | refine blk_drewN ?_ _ | refine blk_drew ?_ | refine blk_alloc ?_ _)); exact BK197.out⟩
            have n3_ : Aside0 ((((w24.setCell ⟨gb202, 0, none⟩ (.int .i64 ((rd_T52 l0_5 x9_2).f0))).setCell ⟨gb202, 1, none⟩ (.int .i64 ((rd_T52 l0_5 x9_2).f1))).setCell ⟨gb202, 2, none⟩ (.bool ((rd_T52 l0_5 x9_2).f2))).heap[gb202]? = some (.cells #[.int .i64 ((rd_T52 l0_5 x9_2).f0), .int .i64 ((rd_T52 l0_5 x9_2).f1), .bool ((rd_T52 l0_5 x9_2).f2)] 52 (0, 0))) := ⟨by (with_reducible repeat (first | refine blk_drewN ?_ _ | refine blk_drew ?_ | refine blk_alloc ?_ _)); refine blk_put (cs := #[.int .i64 ((rd_T52 l0_5 x9_2).f0), .int .i64 ((rd_T52 l0_5 x9_2).f1), .bool false]) ?_ 2 _ rfl; (with_reducible repeat (first | refine blk_drewN ?_ _ | refine blk_drew ?_ | refine blk_alloc ?_ _)); refine blk_put (cs := #[.int .i64 ((rd_T52 l0_5 x9_2).f0), .int .i64 0, .bool false]) ?_ 1 _ rfl; (with_reducible repeat (first | refine blk_drewN ?_ _ | refine blk_drew ?_ | refine blk_alloc ?_ _)); refine blk_put (cs := #[.int .i64 0, .int .i64 0, .bool false]) ?_ 0 _ rfl; (with_reducible repeat (first | refine blk_drewN ?_ _ | refine blk_drew ?_ | refine blk_alloc ?_ _)); exact BK202.out⟩
            have n4_ : Aside0 (Below w.heap.size w (((w24.setCell ⟨gb202, 0, none⟩ (.int .i64 ((rd_T52 l0_5 x9_2).f0))).setCell ⟨gb202, 1, none⟩ (.int .i64 ((rd_T52 l0_5 x9_2).f1))).setCell ⟨gb202, 2, none⟩ (.bool ((rd_T52 l0_5 x9_2).f2)))) := ⟨by repeat (first | (with_reducible first | exact HB.out | apply below_alloc | apply pw_below_drewN | apply below_drew1 | refine below_set ?_ GE197.out | refine below_set ?_ GE202.out) | exact HB.out)⟩
            (try clear HO_5)
            (try clear HO_6)
            (try clear BK197)
            (try clear BK202)
            (try clear HB)
            generalize (((w24.setCell ⟨gb202, 0, none⟩ (.int .i64 ((rd_T52 l0_5 x9_2).f0))).setCell ⟨gb202, 1, none⟩ (.int .i64 ((rd_T52 l0_5 x9_2).f1))).setCell ⟨gb202, 2, none⟩ (.bool ((rd_T52 l0_5 x9_2).f2))) = w27 at n0_ n1_ n2_ n3_ n4_ ⊢
            have HO_5 := n0_
            have HO_6 := n1_
            have BK197 := n2_
            have BK202 := n3_
            have HB := n4_
            clear n0_ n1_ n2_ n3_ n4_
            have n0_ := Aside0.mk (Kd.N_drew HO_5.out)
            have n1_ := Aside0.mk (Kd.N_drew HO_6.out)
            have n2_ := Aside0.mk (blk_drew BK197.out)
            have n3_ := Aside0.mk (blk_drew BK202.out)
            have n4_ := Aside0.mk (below_drew1 HB.out)
            clear HO_5
            clear HO_6
            clear BK197
            clear BK202
            clear HB
            have HO_5 := n0_
            have HO_6 := n1_
            have BK197 := n2_
            have BK202 := n3_
            have HB := n4_
            clear n0_ n1_ n2_ n3_ n4_
            have p204 : 0 ≤ (x7_1 : Int) := of_decide_eq_true (by first | (with_reducible assumption) | assumption)
            have q204 : x7_1 < (t198.length : Int) := of_decide_eq_true (by first | (with_reducible assumption) | assumption)
            obtain ⟨ad204, A204_1, c204_1, e204, hx204_0, hx204_1, hl204_1, hi204_1⟩ := at_T57 (Kd.N_reads' HO_5.out).2.2 x7_1 p204 q204
            cases e204
            obtain ⟨ce204, hce204, hMe204, hcc204⟩ := Kd.N_get HO_5.out z57 x7_1 p204 (by first | exact q204 | exact of_decide_eq_true (by first | (with_reducible assumption) | assumption) | (have e_ := (Kd.N_reads' HO_5.out).1; omega))
            obtain ⟨ua204_1, uc204_1, rfl, ul204_1, ge204_1⟩ := k57_openF hMe204
            have hv204_1 := hcc204 1 _ rfl
            rw [add_field _ _ 1 (by omega)] at hv204_1
            replace hv204_1 := Option.some.inj (hv204_1.symm.trans hx204_1)
            injection hv204_1 with hva_ hvn_ hvc_
            rw [hva_] at ge204_1
            rw [hvc_] at ul204_1
            have HL204_1 := Aside0.mk (show Kd.V (Kd.int .i64) 3 _ w.heap.size _ _ ((rd_T57 t198 x7_1).f1) from Kd.V_mk ul204_1 ge204_1)
            clear hva_ hvn_ hvc_ ge204_1 ul204_1
            clear hcc204 hce204
            have HR204_1 := Aside0.mk hi204_1
            have HC204_1 := Aside0.mk hl204_1
            clear hi204_1 hl204_1
            replace p204 := eq_true p204
            replace q204 := eq_true q204
            refine start_ (n := 21) (S := fun w' => w'.cell? ⟨gb202, 0, none⟩ = some (.int .i64 ((rd_T52 l0_5 x9_2).f0)) ∧ w'.cell? ⟨gb202, 1, none⟩ = some (.int .i64 ((rd_T52 l0_5 x9_2).f1)) ∧ w'.cell? ⟨gb202, 2, none⟩ = some (.bool ((rd_T52 l0_5 x9_2).f2)) ∧ w'.cell? (ad204.add ((x7_1).toNat * 2)) = some (.int .i64 ((rd_T57 t198 x7_1).f0)) ∧ w'.cell? ⟨(ad204.add ((x7_1).toNat * 2)).block, (ad204.add ((x7_1).toNat * 2)).off + 1, none⟩ = some (.slice A204_1 ((rd_T57 t198 x7_1).f1).length c204_1)) (ds := []) #[false, false, false, false, false, false, false, false, false, false, false, false, false, false, false, false, false, false, false, false, false] (by kernel_rfl) rfl rfl ⟨(blk_cell BK202.out 0).trans rfl, (blk_cell BK202.out 1).trans rfl, (blk_cell BK202.out 2).trans rfl, hx204_0, hx204_1⟩ (fun hHeld => ?_); refine with_tabW helioscoperef01_Truths.tab11 helioscoperef01_Truths.bits11 (fun HT_ HW_ => ?_)
            generalize w27.drew = w28 at HO_5 HO_6 BK197 BK202 HB HL204_1 HR204_1 hx204_0 hx204_1 hHeld ⊢
            refine pure_ (i := 0) (N := some 31) (v := ?_) (a' := ?_) #[true, false, false, false, false, false, false, false, false, false, false, false, false, false, false, false, false, false, false, false, false] rfl rfl (any_of HT_.out (by kernel_rfl)) (fun _ _ _ h => h) (Or.inl ⟨by rfl, ?_⟩) ?_ ?_
            rotate_left
            ·
             intro w'
             go_simp
             with_reducible rfl
            rotate_left
            ·
             simp only [Act.put, List.setIfInBounds_toArray, List.set_cons_zero, List.set_cons_succ, i64_w, i32_w]
             rfl
            refine pure_ (i := 1) (N := some 32) (v := ?_) (a' := ?_) #[true, true, false, false, false, false, false, false, false, false, false, false, false, false, false, false, false, false, false, false, false] rfl rfl (any_of HT_.out (by kernel_rfl)) (fun _ _ _ h => h) (Or.inl ⟨by rfl, ?_⟩) ?_ ?_
            rotate_left
            ·
             intro w'
             go_simp
             with_reducible rfl
            rotate_left
            ·
             simp only [Act.put, List.setIfInBounds_toArray, List.set_cons_zero, List.set_cons_succ, i64_w, i32_w]
             rfl
            refine pure_ (i := 2) (N := some 33) (v := ?_) (a' := ?_) #[true, true, true, false, false, false, false, false, false, false, false, false, false, false, false, false, false, false, false, false, false] rfl rfl (any_of HT_.out (by kernel_rfl)) (fun _ _ _ h => h) (Or.inl ⟨by rfl, ?_⟩) ?_ ?_
            rotate_left
            ·
             intro w'
             go_simp
             with_reducible rfl
            rotate_left
            ·
             simp only [Act.put, List.setIfInBounds_toArray, List.set_cons_zero, List.set_cons_succ, i64_w, i32_w]
             rfl
            refine pure_ (i := 3) (N := some 34) (v := ?_) (a' := ?_) #[true, true, true, true, false, false, false, false, false, false, false, false, false, false, false, false, false, false, false, false, false] rfl rfl (any_of HT_.out (by kernel_rfl)) (fun _ _ _ h => h) (Or.inl ⟨by rfl, ?_⟩) ?_ ?_
            rotate_left
            ·
             intro w'
             go_simp
             with_reducible rfl
            rotate_left
            ·
             simp only [Act.put, List.setIfInBounds_toArray, List.set_cons_zero, List.set_cons_succ, i64_w, i32_w]
             rfl
            refine one_ (i := 4) (N := some 35) #[true, true, true, true, true, false, false, false, false, false, false, false, false, false, false, false, false, false, false, false, false] rfl rfl (one_of HT_.out (by kernel_rfl)) (by decide) (fun K hK => ?_)
            refine goes_ Try.func111 (by kernel_rfl) rfl #[.slice A1 l1.length c1, .int .i64 x9_2] (by rfl) rfl rfl (by (try simp only [List.map_toArray, List.map_cons, List.map_nil]); first | done | rfl | (simp only [List.length_drop, List.length_take]; rfl)) ?_
            with_reducible refine (helioscoperef01_Has.calls k2 _ _ l1 x9_2 false _ ?side1 ?side2 A12.out).mono ?_
            (case side1 => repeat (first | exact (Kd.C_below HR1.out HB.out) | (with_reducible refine Kd.C_alloc ?_ _) | (with_reducible refine Kd.C_drewN ?_ _) | (with_reducible refine Kd.C_drew ?_)))
            (case side2 => exact HC1.out)
            rintro e w' ⟨rfl, ⟨nd, rfl⟩⟩
            refine ⟨_, rfl, ?_⟩
            refine hK.out _ _ ⟨(blk_cell BK202.out 0).trans rfl, (blk_cell BK202.out 1).trans rfl, (blk_cell BK202.out 2).trans rfl, hHeld.2.2.2.1, hHeld.2.2.2.2⟩ (fun hHeld => ?_)
            clear hK K
            refine norm_ (a' := ?_) ?_ ?_
            rotate_left
            ·
             show Act.put _ (some 35) _ = _
             simp only [Act.put, List.setIfInBounds_toArray, List.set_cons_zero, List.set_cons_succ, i64_w, i32_w]
             rfl
            refine pure_ (i := 5) (N := some 36) (v := ?_) (a' := ?_) #[true, true, true, true, true, true, false, false, false, false, false, false, false, false, false, false, false, false, false, false, false] rfl rfl (any_of HT_.out (by kernel_rfl)) (fun _ _ _ h => h) (Or.inl ⟨by rfl, ?_⟩) ?_ ?_
            rotate_left
            ·
             intro w'
             go_simp
             with_reducible rfl
            rotate_left
            ·
             simp only [Act.put, List.setIfInBounds_toArray, List.set_cons_zero, List.set_cons_succ, i64_w, i32_w]
             rfl
            refine pure_ (i := 6) (N := some 37) (v := ?_) (a' := ?_) #[true, true, true, true, true, true, true, false, false, false, false, false, false, false, false, false, false, false, false, false, false] rfl rfl (any_of HT_.out (by kernel_rfl)) (fun _ _ _ h => h) (Or.inl ⟨by rfl, ?_⟩) ?_ ?_
            rotate_left
            ·
             intro w'
             go_simp
             with_reducible rfl
            rotate_left
            ·
             simp only [Act.put, List.setIfInBounds_toArray, List.set_cons_zero, List.set_cons_succ, i64_w, i32_w]
             rfl
            refine pure_ (i := 7) (N := some 38) (v := ?_) (a' := ?_) #[true, true, true, true, true, true, true, true, false, false, false, false, false, false, false, false, false, false, false, false, false] rfl rfl (any_of HT_.out (by kernel_rfl)) (fun _ _ _ h => h) (Or.inl ⟨by rfl, ?_⟩) ?_ ?_
            rotate_left
            ·
             intro w'
             go_simp
             with_reducible rfl
            rotate_left
            ·
             simp only [Act.put, List.setIfInBounds_toArray, List.set_cons_zero, List.set_cons_succ, i64_w, i32_w]
             rfl
            refine pure_ (i := 8) (N := some 39) (v := ?_) (a' := ?_) #[true, true, true, true, true, true, true, true, true, false, false, false, false, false, false, false, false, false, false, false, false] rfl rfl (any_of HT_.out (by kernel_rfl)) (fun _ _ _ h => h) (Or.inl ⟨by rfl, ?_⟩) ?_ ?_
            rotate_left
            ·
             intro w'
             go_simp
             with_reducible rfl
            rotate_left
            ·
             simp only [Act.put, List.setIfInBounds_toArray, List.set_cons_zero, List.set_cons_succ, i64_w, i32_w]
             rfl
            refine pure_ (i := 10) (N := some 41) (v := ?_) (a' := ?_) #[true, true, true, true, true, true, true, true, true, false, true, false, false, false, false, false, false, false, false, false, false] rfl rfl (any_of HT_.out (by kernel_rfl)) (fun _ _ _ h => h) (Or.inl ⟨by rfl, ?_⟩) ?_ ?_
            rotate_left
            ·
             intro w'
             go_simp
             with_reducible rfl
            rotate_left
            ·
             simp only [Act.put, List.setIfInBounds_toArray, List.set_cons_zero, List.set_cons_succ, i64_w, i32_w]
             rfl
            refine pure_ (i := 12) (N := some 43) (v := ?_) (a' := ?_) #[true, true, true, true, true, true, true, true, true, false, true, false, true, false, false, false, false, false, false, false, false] rfl rfl (any_of HT_.out (by kernel_rfl)) (fun _ _ _ h => h) (Or.inl ⟨by rfl, ?_⟩) ?_ ?_
            rotate_left
            ·
             intro w'
             go_simp
             with_reducible rfl
            rotate_left
            ·
             simp only [Act.put, List.setIfInBounds_toArray, List.set_cons_zero, List.set_cons_succ, i64_w, i32_w]
             rfl
            refine pure_ (i := 15) (N := some 46) (v := ?_) (a' := ?_) #[true, true, true, true, true, true, true, true, true, false, true, false, true, false, false, true, false, false, false, false, false] rfl rfl (any_of HT_.out (by kernel_rfl)) (fun _ _ _ h => h) (Or.inl ⟨by rfl, ?_⟩) ?_ ?_
            rotate_left
            ·
             intro w'
             go_simp
             with_reducible rfl
            rotate_left
            ·
             simp only [Act.put, List.setIfInBounds_toArray, List.set_cons_zero, List.set_cons_succ, i64_w, i32_w]
             rfl
            refine take_ (i := 9) (N := some 40) (v := ?_) (a' := ?_) #[true, true, true, true, true, true, true, true, true, true, true, false, true, false, false, true, false, false, false, false, false] rfl rfl (take_ofW HT_.out HW_.out (by kernel_rfl)) (fun _ _ _ h => h) (Or.inl ⟨by rfl, ?_⟩) hHeld ?_ ?_
            rotate_left
            ·
             rintro w' ⟨s0, s1, s2, s3, s4⟩
             go_simp
             with_reducible rfl
            rotate_left
            ·
             simp only [Act.put, List.setIfInBounds_toArray, List.set_cons_zero, List.set_cons_succ, i64_w, i32_w]
             rfl
            refine take_ (i := 11) (N := some 42) (v := ?_) (a' := ?_) #[true, true, true, true, true, true, true, true, true, true, true, true, true, false, false, true, false, false, false, false, false] rfl rfl (take_ofW HT_.out HW_.out (by kernel_rfl)) (fun _ _ _ h => h) (Or.inl ⟨by rfl, ?_⟩) hHeld ?_ ?_
            rotate_left
            ·
             rintro w' ⟨s0, s1, s2, s3, s4⟩
             go_simp
             with_reducible rfl
            rotate_left
            ·
             simp only [Act.put, List.setIfInBounds_toArray, List.set_cons_zero, List.set_cons_succ, i64_w, i32_w]
             rfl
            refine take_ (i := 13) (N := some 44) (v := ?_) (a' := ?_) #[true, true, true, true, true, true, true, true, true, true, true, true, true, true, false, true, false, false, false, false, false] rfl rfl (take_ofW HT_.out HW_.out (by kernel_rfl)) (fun _ _ _ h => h) (Or.inl ⟨by rfl, ?_⟩) hHeld ?_ ?_
            rotate_left
            ·
             rintro w' ⟨s0, s1, s2, s3, s4⟩
             go_simp
             with_reducible rfl
            rotate_left
            ·
             simp only [Act.put, List.setIfInBounds_toArray, List.set_cons_zero, List.set_cons_succ, i64_w, i32_w]
             rfl
            refine take_ (i := 16) (N := some 47) (v := ?_) (a' := ?_) #[true, true, true, true, true, true, true, true, true, true, true, true, true, true, false, true, true, false, false, false, false] rfl rfl (take_ofW HT_.out HW_.out (by kernel_rfl)) (fun _ _ _ h => h) (Or.inl ⟨by rfl, ?_⟩) hHeld ?_ ?_
            rotate_left
            ·
             rintro w' ⟨s0, s1, s2, s3, s4⟩
             go_simp
             with_reducible rfl
            rotate_left
            ·
             simp only [Act.put, List.setIfInBounds_toArray, List.set_cons_zero, List.set_cons_succ, i64_w, i32_w]
             rfl
            refine one_ (i := 14) (N := some 45) #[true, true, true, true, true, true, true, true, true, true, true, true, true, true, true, true, true, false, false, false, false] rfl rfl (one_of HT_.out (by kernel_rfl)) (by decide) (fun K hK => ?_)
            refine goes_ Try.func46 (by kernel_rfl) rfl #[.agg #[.int .i64 ((rd_T57 t198 x7_1).f0), .slice A204_1 ((rd_T57 t198 x7_1).f1).length c204_1], .int .i64 ((rd_T52 l0_5 x9_2).f0), .int .i64 ((rd_T52 l0_5 x9_2).f1)] (by rfl) rfl rfl (by (try simp only [List.map_toArray, List.map_cons, List.map_nil]); first | done | rfl | (simp only [List.length_drop, List.length_take]; rfl)) ?_
            with_reducible refine (helioscoperef01_Together.calls ((rd_T57 t198 x7_1).f0) _ _ ((rd_T57 t198 x7_1).f1) ((rd_T52 l0_5 x9_2).f0) ((rd_T52 l0_5 x9_2).f1) t205 _ ?side1 ?side2 A22.out).mono ?_
            (case side1 => repeat (first | exact (by repeat (first | (with_reducible exact HR204_1.out) | (with_reducible refine Kd.C_alloc ?_ _) | (with_reducible refine Kd.C_drewN ?_ _) | (with_reducible refine Kd.C_drew ?_) | exact HR204_1.out)) | (with_reducible refine Kd.C_alloc ?_ _) | (with_reducible refine Kd.C_drewN ?_ _) | (with_reducible refine Kd.C_drew ?_)))
            (case side2 => exact HC204_1.out)
            rintro e w29 ⟨rfl, hb⟩
            have HS3_ := (hb.cell (World.block_lt_of_cell? _ _ (hHeld.2.2.2.1))).trans (hHeld.2.2.2.1)
            have HS4_ := (hb.cell (World.block_lt_of_cell? _ _ (hHeld.2.2.2.2))).trans (hHeld.2.2.2.2)
            refine ⟨_, rfl, ?_⟩
            have n0_ := Aside0.mk (Kd.N_below (by (with_reducible repeat (first | apply Kd.N_alloc | apply Kd.N_drewN | apply Kd.N_drew)); exact HO_5.out) hb)
            have n1_ := Aside0.mk (Kd.N_below (by (with_reducible repeat (first | apply Kd.N_alloc | apply Kd.N_drewN | apply Kd.N_drew)); exact HO_6.out) hb)
            have n2_ := Aside0.mk (Kd.V_below (by (with_reducible repeat (first | apply Kd.V_alloc | apply Kd.V_drewN | apply Kd.V_drew)); exact HL204_1.out) hb)
            have n3_ := Aside0.mk (blk_below (g := gb197) (o := .cells #[.string a0_0, .int .i64 a0_1, .int .i64 a0_2, .int .i64 a0_3, .slice A0_4 l0_4.length c0_4, .slice (some ad201) l0_5.length c0_5] 27 (0, 0)) (by (with_reducible repeat (first | refine blk_drewN ?_ _ | refine blk_drew ?_ | refine blk_alloc ?_ _)); exact BK197.out) hb)
            have n4_ := Aside0.mk (blk_below (g := gb202) (o := .cells #[.int .i64 ((rd_T52 l0_5 x9_2).f0), .int .i64 ((rd_T52 l0_5 x9_2).f1), .bool ((rd_T52 l0_5 x9_2).f2)] 52 (0, 0)) (by (with_reducible repeat (first | refine blk_drewN ?_ _ | refine blk_drew ?_ | refine blk_alloc ?_ _)); exact BK202.out) hb)
            have n5_ := Aside0.mk (Kd.C_below (by repeat (first | (with_reducible exact HR204_1.out) | (with_reducible refine Kd.C_alloc ?_ _) | (with_reducible refine Kd.C_drewN ?_ _) | (with_reducible refine Kd.C_drew ?_) | exact HR204_1.out)) hb)
            have n6_ := Aside0.mk (below_step (by repeat (first | (with_reducible first | exact HB.out | apply below_alloc | apply pw_below_drewN | apply below_drew1 | refine below_set ?_ GE197.out | refine below_set ?_ GE202.out) | exact HB.out)) hb)
            clear HO_5
            clear HO_6
            clear HL204_1
            clear BK197
            clear BK202
            clear HR204_1
            clear HB
            have HO_5 := n0_
            have HO_6 := n1_
            have HL204_1 := n2_
            have BK197 := n3_
            have BK202 := n4_
            have HR204_1 := n5_
            have HB := n6_
            clear n0_ n1_ n2_ n3_ n4_ n5_ n6_
            (try clear hb)
            (try clear hb2)
            (try clear hk)
            (try clear hi)
            refine hK.out _ _ ⟨(blk_cell BK202.out 0).trans rfl, (blk_cell BK202.out 1).trans rfl, (blk_cell BK202.out 2).trans rfl, HS3_, HS4_⟩ (fun hHeld => ?_)
            clear hK K
            refine norm_ (a' := ?_) ?_ ?_
            rotate_left
            ·
             show Act.put _ (some 45) _ = _
             simp only [Act.put, List.setIfInBounds_toArray, List.set_cons_zero, List.set_cons_succ, i64_w, i32_w]
             rfl
            refine pure_ (i := 17) (N := some 48) (v := ?_) (a' := ?_) #[true, true, true, true, true, true, true, true, true, true, true, true, true, true, true, true, true, true, false, false, false] rfl rfl (any_of HT_.out (by kernel_rfl)) (fun _ _ _ h => h) (Or.inl ⟨by rfl, ?_⟩) ?_ ?_
            rotate_left
            ·
             intro w'
             go_simp
             with_reducible rfl
            rotate_left
            ·
             simp only [Act.put, List.setIfInBounds_toArray, List.set_cons_zero, List.set_cons_succ, i64_w, i32_w]
             rfl
            refine pure_ (i := 18) (N := some 49) (v := ?_) (a' := ?_) #[true, true, true, true, true, true, true, true, true, true, true, true, true, true, true, true, true, true, true, false, false] rfl rfl (any_of HT_.out (by kernel_rfl)) (fun _ _ _ h => h) (Or.inl ⟨by rfl, ?_⟩) ?_ ?_
            rotate_left
            ·
             intro w'
             go_simp
             with_reducible rfl
            rotate_left
            ·
             simp only [Act.put, List.setIfInBounds_toArray, List.set_cons_zero, List.set_cons_succ, i64_w, i32_w]
             rfl
            refine pure_ (i := 19) (N := some 50) (v := ?_) (a' := ?_) #[true, true, true, true, true, true, true, true, true, true, true, true, true, true, true, true, true, true, true, true, false] rfl rfl (any_of HT_.out (by kernel_rfl)) (fun _ _ _ h => h) (Or.inl ⟨by rfl, ?_⟩) ?_ ?_
            rotate_left
            ·
             intro w'
             go_simp
             with_reducible rfl
            rotate_left
            ·
             simp only [Act.put, List.setIfInBounds_toArray, List.set_cons_zero, List.set_cons_succ, i64_w, i32_w]
             rfl
            refine pure_ (i := 20) (N := some 8) (v := ?_) (a' := ?_) #[true, true, true, true, true, true, true, true, true, true, true, true, true, true, true, true, true, true, true, true, true] rfl rfl (any_of HT_.out (by kernel_rfl)) (fun _ _ _ h => h) (Or.inl ⟨by rfl, ?_⟩) ?_ ?_
            rotate_left
            ·
             intro w'
             go_simp
             with_reducible rfl
            rotate_left
            ·
             simp only [Act.put, List.setIfInBounds_toArray, List.set_cons_zero, List.set_cons_succ, i64_w, i32_w]
             rfl
            refine done_ (done_of HT_.out (by kernel_rfl)) ?_
            try go_wp2
            go_roundg k2
            case measure => have := HK1.out; have := HK2.out; omega
            case rel => exact ⟨((t205 == ((rd_T52 l0_5 x9_2).f2))), (wrap64 (x9_2 + 1)), (by first | rfl | (simp; done) | (simp [*]; done)), (by first | rfl | (simp; done) | (simp [*]; done)), H', ⟨by have := HK1.out; have := HK2.out; omega⟩, ⟨by (with_reducible repeat (first | apply Kd.N_alloc | apply Kd.N_drewN | apply Kd.N_drew)); exact Kd.N_mono HO_5.out (fun _ hk => ⟨hk.1, ⟨hk.2.1, hk.2.2.1⟩⟩)⟩, ⟨by (with_reducible repeat (first | apply Kd.N_alloc | apply Kd.N_drewN | apply Kd.N_drew)); exact Kd.N_mono HO_6.out (fun _ hk => ⟨hk.1, ⟨hk.2.1, hk.2.2.1⟩⟩)⟩, ⟨by (with_reducible repeat (first | refine blk_drewN ?_ _ | refine blk_drew ?_ | refine blk_alloc ?_ _)); exact BK197.out⟩, ⟨by repeat (first | (with_reducible first | exact HB.out | apply below_alloc | apply pw_below_drewN | apply below_drew1 | refine below_set ?_ GE197.out | refine below_set ?_ GE202.out) | exact HB.out)⟩⟩
           ·
            rw [if_neg c21] at H
            exact absurd H (by simp)
          ·
           rw [if_neg c20] at H
           exact absurd H (by simp)
        ·
         replace c11 := Bool.eq_false_iff.mpr c11
         subst c11
         have H1 : (helioscoperef01_Truths.l1 k2 l1 t198 x6_1 x7_1 false (wrap64 (x9_2 + 1)) a0_0 a0_1 a0_2 a0_3 l0_4 l0_5) = some r := by rw [if_neg (show ¬ (false = true) by decide)] at H; exact H
         clear H
         have H := H1
         clear H1
         have H' := Aside0.mk H
         clear H
         have hcz30_0 : wr.cell? ⟨gb197, 0, none⟩ = some (.string a0_0) := (blk_cell BK197.out 0).trans rfl
         have hcz30_1 : wr.cell? ⟨gb197, 1, none⟩ = some (.int .i64 a0_1) := (blk_cell BK197.out 1).trans rfl
         have hcz30_2 : wr.cell? ⟨gb197, 2, none⟩ = some (.int .i64 a0_2) := (blk_cell BK197.out 2).trans rfl
         have hcz30_3 : wr.cell? ⟨gb197, 3, none⟩ = some (.int .i64 a0_3) := (blk_cell BK197.out 3).trans rfl
         have hcz30_4 : wr.cell? ⟨gb197, 4, none⟩ = some (.slice A0_4 l0_4.length c0_4) := (blk_cell BK197.out 4).trans rfl
         have hcz30_5 : wr.cell? ⟨gb197, 5, none⟩ = some (.slice A0_5 l0_5.length c0_5) := (blk_cell BK197.out 5).trans rfl
         have hfz30_0 := blk_frozen BK197.out 0
         have hfz30_1 := blk_frozen BK197.out 1
         have hfz30_2 := blk_frozen BK197.out 2
         have hfz30_3 := blk_frozen BK197.out 3
         have hfz30_4 := blk_frozen BK197.out 4
         have hfz30_5 := blk_frozen BK197.out 5
         have p201 : 0 ≤ (x9_2 : Int) := of_decide_eq_true (by first | (with_reducible assumption) | assumption)
         have q201 : x9_2 < (l0_5.length : Int) := of_decide_eq_true (by first | (with_reducible assumption) | assumption)
         obtain ⟨ad201, e201, hx201_0, hx201_1, hx201_2⟩ := at_T52 HR0_5.out x9_2 p201 q201
         cases e201
         replace hx201_0 := (HB.out.cell (World.block_lt_of_cell? w _ hx201_0)).trans hx201_0
         replace hx201_1 := (HB.out.cell (World.block_lt_of_cell? w _ hx201_1)).trans hx201_1
         replace hx201_2 := (HB.out.cell (World.block_lt_of_cell? w _ hx201_2)).trans hx201_2
         replace p201 := eq_true p201
         replace q201 := eq_true q201
         try go_wp2_with (first | ((with_reducible refine gate_dst (N := 10) rfl ?_); refine box_event ?hg (N := 10) ?hd (cs := #[.int .i64 0, .int .i64 0, .bool false]) (t := 52) ?hr ?_; (case hd => rfl); (case hg => rfl); (case hr => first | (go_simp; done) | (go_simp; rfl)); intro gb202 hg w31 hbox hb; have n0_ := Aside0.mk (Kd.N_below (Kd.N_elderB (by (with_reducible repeat (first | apply Kd.N_alloc | apply Kd.N_drewN | apply Kd.N_drew)); exact HO_5.out) gb202 (Nat.le_of_eq hg.symm)) hb); have n1_ := Aside0.mk (Kd.N_below (Kd.N_elderB (by (with_reducible repeat (first | apply Kd.N_alloc | apply Kd.N_drewN | apply Kd.N_drew)); exact HO_6.out) gb202 (Nat.le_of_eq hg.symm)) hb); have n2_ := Aside0.mk (blk_below (g := gb197) (o := .cells #[.string a0_0, .int .i64 a0_1, .int .i64 a0_2, .int .i64 a0_3, .slice A0_4 l0_4.length c0_4, .slice (some ad201) l0_5.length c0_5] 27 (0, 0)) (by (with_reducible repeat (first | refine blk_drewN ?_ _ | refine blk_drew ?_ | refine blk_alloc ?_ _)); exact BK197.out) hb); have n3_ := Aside0.mk (below_step (by repeat (first | (with_reducible first | exact HB.out | apply below_alloc | apply pw_below_drewN | apply below_drew1 | refine below_set ?_ GE197.out) | exact HB.out)) hb); have n4_ := Aside0.mk (hbox); have n5_ := Aside0.mk ((by rw [hg]; exact (below_size (by repeat (first | (with_reducible first | exact HB.out | apply below_alloc | apply pw_below_drewN | apply below_drew1 | refine below_set ?_ GE197.out) | exact HB.out))) : w.heap.size ≤ gb202)); have n6_ := Aside0.mk ((by rw [hg]; exact (below_size (by repeat (first | (with_reducible first | exact HB.out | apply below_alloc | apply pw_below_drewN | apply below_drew1 | refine below_set ?_ GE197.out) | exact HB.out))) : w.heap.size ≤ gb202)); have n7_ := Aside0.mk ((by rw [hg]; exact Nat.ne_of_lt (blk_lt (g := gb197) (o := .cells #[.string a0_0, .int .i64 a0_1, .int .i64 a0_2, .int .i64 a0_3, .slice A0_4 l0_4.length c0_4, .slice (some ad201) l0_5.length c0_5] 27 (0, 0)) (by (with_reducible repeat (first | refine blk_drewN ?_ _ | refine blk_drew ?_ | refine blk_alloc ?_ _)); exact BK197.out)) : gb197 ≠ gb202)); have n8_ := Aside0.mk ((by rw [hg]; exact Nat.ne_of_gt (blk_lt (g := gb197) (o := .cells #[.string a0_0, .int .i64 a0_1, .int .i64 a0_2, .int .i64 a0_3, .slice A0_4 l0_4.length c0_4, .slice (some ad201) l0_5.length c0_5] 27 (0, 0)) (by (with_reducible repeat (first | refine blk_drewN ?_ _ | refine blk_drew ?_ | refine blk_alloc ?_ _)); exact BK197.out)) : gb202 ≠ gb197)); clear HO_5; clear HO_6; clear BK197; clear HB; have HO_5 := n0_; have HO_6 := n1_; have BK197 := n2_; have HB := n3_; have BK202 := n4_; have GW202 := n5_; have GE202 := n6_; have NB197_202 := n7_; have NB202_197 := n8_; clear n0_ n1_ n2_ n3_ n4_ n5_ n6_ n7_ n8_; clear hb hbox hg; have hnb32 := NB202_197.out; have hnc32 := NB197_202.out; have hcz33_0 : w31.cell? ⟨gb202, 0, none⟩ = some (.int .i64 0) := (blk_cell BK202.out 0).trans rfl; have hcz33_1 : w31.cell? ⟨gb202, 1, none⟩ = some (.int .i64 0) := (blk_cell BK202.out 1).trans rfl; have hcz33_2 : w31.cell? ⟨gb202, 2, none⟩ = some (.bool false) := (blk_cell BK202.out 2).trans rfl; have hfz33_0 := blk_frozen BK202.out 0; have hfz33_1 := blk_frozen BK202.out 1; have hfz33_2 := blk_frozen BK202.out 2))
         have n0_ : Aside0 (Kd.N k57 57 (((w31.setCell ⟨gb202, 0, none⟩ (.int .i64 ((rd_T52 l0_5 x9_2).f0))).setCell ⟨gb202, 1, none⟩ (.int .i64 ((rd_T52 l0_5 x9_2).f1))).setCell ⟨gb202, 2, none⟩ (.bool ((rd_T52 l0_5 x9_2).f2))) w.heap.size (fun k_ => (w.heap.size ≤ k_) ∧ some k_ ≠ (u6 : Value).ownBlock ∧ k_ ≠ gb197 ∧ k_ ≠ gb202) (.slice Ao8 t198.length co8) t198) := ⟨by (with_reducible repeat (first | apply Kd.N_alloc | apply Kd.N_drewN | apply Kd.N_drew)); exact Kd.N_mono (Kd.N_far (p := ⟨gb202, 2, none⟩) (Kd.N_far (p := ⟨gb202, 1, none⟩) (Kd.N_far (p := ⟨gb202, 0, none⟩) (Kd.N_mono HO_5.out (fun k_ hk => (⟨hk, hk.2⟩ : _ ∧ k_ ≠ gb202))) (fun _ hk => hk.2) (.int .i64 ((rd_T52 l0_5 x9_2).f0))) (fun _ hk => hk.2) (.int .i64 ((rd_T52 l0_5 x9_2).f1))) (fun _ hk => hk.2) (.bool ((rd_T52 l0_5 x9_2).f2))) (fun _ hk => ⟨hk.1.1.1, ⟨hk.1.1.2.1, ⟨hk.1.1.2.2, hk.1.2⟩⟩⟩)⟩
         have n1_ : Aside0 (Kd.N k57 57 (((w31.setCell ⟨gb202, 0, none⟩ (.int .i64 ((rd_T52 l0_5 x9_2).f0))).setCell ⟨gb202, 1, none⟩ (.int .i64 ((rd_T52 l0_5 x9_2).f1))).setCell ⟨gb202, 2, none⟩ (.bool ((rd_T52 l0_5 x9_2).f2))) w.heap.size (fun k_ => (w.heap.size ≤ k_) ∧ some k_ ≠ (.slice Ao8 t198.length co8 : Value).ownBlock ∧ k_ ≠ gb197 ∧ k_ ≠ gb202) u6 x6_1) := ⟨by (with_reducible repeat (first | apply Kd.N_alloc | apply Kd.N_drewN | apply Kd.N_drew)); exact Kd.N_mono (Kd.N_far (p := ⟨gb202, 2, none⟩) (Kd.N_far (p := ⟨gb202, 1, none⟩) (Kd.N_far (p := ⟨gb202, 0, none⟩) (Kd.N_mono HO_6.out (fun k_ hk => (⟨hk, hk.2⟩ : _ ∧ k_ ≠ gb202))) (fun _ hk => hk.2) (.int .i64 ((rd_T52 l0_5 x9_2).f0))) (fun _ hk => hk.2) (.int .i64 ((rd_T52 l0_5 x9_2).f1))) (fun _ hk => hk.2) (.bool ((rd_T52 l0_5 x9_2).f2))) (fun _ hk => ⟨hk.1.1.1, ⟨hk.1.1.2.1, ⟨hk.1.1.2.2, hk.1.2⟩⟩⟩)⟩
         have n2_ : Aside0 ((((w31.setCell ⟨gb202, 0, none⟩ (.int .i64 ((rd_T52 l0_5 x9_2).f0))).setCell ⟨gb202, 1, none⟩ (.int .i64 ((rd_T52 l0_5 x9_2).f1))).setCell ⟨gb202, 2, none⟩ (.bool ((rd_T52 l0_5 x9_2).f2))).heap[gb197]? = some (.cells #[.string a0_0, .int .i64 a0_1, .int .i64 a0_2, .int .i64 a0_3, .slice A0_4 l0_4.length c0_4, .slice (some ad201) l0_5.length c0_5] 27 (0, 0))) := ⟨by (with_reducible repeat (first | refine blk_drewN ?_ _ | refine blk_drew ?_ | refine blk_alloc ?_ _)); refine blk_far ?_ NB197_202.out _; (with_reducible repeat (first | refine blk_drewN ?_ _ | refine blk_drew ?_ | refine blk_alloc ?_ _)); refine blk_far ?_ NB197_202.out _; (with_reducible repeat (first | refine blk_drewN ?_ _ | refine blk_drew ?_ | refine blk_alloc ?_ _)); refine blk_far ?_ NB197_202.out _; (with_reducible repeat (first | refine blk_drewN ?_ _ | refine blk_drew ?_ | refine blk_alloc ?_ _)); exact BK197.out⟩
         have n3_ : Aside0 ((((w31.setCell ⟨gb202, 0, none⟩ (.int .i64 ((rd_T52 l0_5 x9_2).f0))).setCell ⟨gb202, 1, none⟩ (.int .i64 ((rd_T52 l0_5 x9_2).f1))).setCell ⟨gb202, 2, none⟩ (.bool ((rd_T52 l0_5 x9_2).f2))).heap[gb202]? = some (.cells #[.int .i64 ((rd_T52 l0_5 x9_2).f0), .int .i64 ((rd_T52 l0_5 x9_2).f1), .bool ((rd_T52 l0_5 x9_2).f2)] 52 (0, 0))) := ⟨by (with_reducible repeat (first | refine blk_drewN ?_ _ | refine blk_drew ?_ | refine blk_alloc ?_ _)); refine blk_put (cs := #[.int .i64 ((rd_T52 l0_5 x9_2).f0), .int .i64 ((rd_T52 l0_5 x9_2).f1), .bool false]) ?_ 2 _ rfl; (with_reducible repeat (first | refine blk_drewN ?_ _ | refine blk_drew ?_ | refine blk_alloc ?_ _)); refine blk_put (cs := #[.int .i64 ((rd_T52 l0_5 x9_2).f0), .int .i64 0, .bool false]) ?_ 1 _ rfl; (with_reducible repeat (first | refine blk_drewN ?_ _ | refine blk_drew ?_ | refine blk_alloc ?_ _)); refine blk_put (cs := #[.int .i64 0, .int .i64 0, .bool false]) ?_ 0 _ rfl; (with_reducible repeat (first | refine blk_drewN ?_ _ | refine blk_drew ?_ | refine blk_alloc ?_ _)); exact BK202.out⟩
         have n4_ : Aside0 (Below w.heap.size w (((w31.setCell ⟨gb202, 0, none⟩ (.int .i64 ((rd_T52 l0_5 x9_2).f0))).setCell ⟨gb202, 1, none⟩ (.int .i64 ((rd_T52 l0_5 x9_2).f1))).setCell ⟨gb202, 2, none⟩ (.bool ((rd_T52 l0_5 x9_2).f2)))) := ⟨by repeat (first | (with_reducible first | exact HB.out | apply below_alloc | apply pw_below_drewN | apply below_drew1 | refine below_set ?_ GE197.out | refine below_set ?_ GE202.out) | exact HB.out)⟩
         (try clear HO_5)
         (try clear HO_6)
         (try clear BK197)
         (try clear BK202)
         (try clear HB)
         generalize (((w31.setCell ⟨gb202, 0, none⟩ (.int .i64 ((rd_T52 l0_5 x9_2).f0))).setCell ⟨gb202, 1, none⟩ (.int .i64 ((rd_T52 l0_5 x9_2).f1))).setCell ⟨gb202, 2, none⟩ (.bool ((rd_T52 l0_5 x9_2).f2))) = w34 at n0_ n1_ n2_ n3_ n4_ ⊢
         have HO_5 := n0_
         have HO_6 := n1_
         have BK197 := n2_
         have BK202 := n3_
         have HB := n4_
         clear n0_ n1_ n2_ n3_ n4_
         have n0_ := Aside0.mk (Kd.N_drew HO_5.out)
         have n1_ := Aside0.mk (Kd.N_drew HO_6.out)
         have n2_ := Aside0.mk (blk_drew BK197.out)
         have n3_ := Aside0.mk (blk_drew BK202.out)
         have n4_ := Aside0.mk (below_drew1 HB.out)
         clear HO_5
         clear HO_6
         clear BK197
         clear BK202
         clear HB
         have HO_5 := n0_
         have HO_6 := n1_
         have BK197 := n2_
         have BK202 := n3_
         have HB := n4_
         clear n0_ n1_ n2_ n3_ n4_
         refine start_ (n := 21) (S := fun w' => True) (ds := []) #[false, false, false, false, false, false, false, false, false, false, false, false, false, false, false, false, false, false, false, false, false] (by kernel_rfl) rfl rfl trivial (fun hHeld => ?_); refine with_tabW helioscoperef01_Truths.tab11 helioscoperef01_Truths.bits11 (fun HT_ HW_ => ?_)
         generalize w34.drew = w35 at HO_5 HO_6 BK197 BK202 HB hHeld ⊢
         refine pure_ (i := 0) (N := some 31) (v := ?_) (a' := ?_) #[true, false, false, false, false, false, false, false, false, false, false, false, false, false, false, false, false, false, false, false, false] rfl rfl (any_of HT_.out (by kernel_rfl)) (fun _ _ _ h => h) (Or.inl ⟨by rfl, ?_⟩) ?_ ?_
         rotate_left
         ·
          intro w'
          go_simp
          with_reducible rfl
         rotate_left
         ·
          simp only [Act.put, List.setIfInBounds_toArray, List.set_cons_zero, List.set_cons_succ, i64_w, i32_w]
          rfl
         refine pure_ (i := 1) (N := some 32) (v := ?_) (a' := ?_) #[true, true, false, false, false, false, false, false, false, false, false, false, false, false, false, false, false, false, false, false, false] rfl rfl (any_of HT_.out (by kernel_rfl)) (fun _ _ _ h => h) (Or.inl ⟨by rfl, ?_⟩) ?_ ?_
         rotate_left
         ·
          intro w'
          go_simp
          with_reducible rfl
         rotate_left
         ·
          simp only [Act.put, List.setIfInBounds_toArray, List.set_cons_zero, List.set_cons_succ, i64_w, i32_w]
          rfl
         refine pure_ (i := 2) (N := some 33) (v := undef) (a' := ?_) #[true, true, true, false, false, false, false, false, false, false, false, false, false, false, false, false, false, false, false, false, false] rfl rfl (any_of HT_.out (by kernel_rfl)) (fun _ _ _ h => h) (Or.inr ⟨by rfl, rfl⟩) ?_ ?_
         rotate_left
         ·
          simp only [Act.put, List.setIfInBounds_toArray, List.set_cons_zero, List.set_cons_succ, i64_w, i32_w]
          rfl
         refine pure_ (i := 3) (N := some 34) (v := undef) (a' := ?_) #[true, true, true, true, false, false, false, false, false, false, false, false, false, false, false, false, false, false, false, false, false] rfl rfl (any_of HT_.out (by kernel_rfl)) (fun _ _ _ h => h) (Or.inr ⟨by rfl, rfl⟩) ?_ ?_
         rotate_left
         ·
          simp only [Act.put, List.setIfInBounds_toArray, List.set_cons_zero, List.set_cons_succ, i64_w, i32_w]
          rfl
         refine pure_ (i := 4) (N := some 35) (v := undef) (a' := ?_) #[true, true, true, true, true, false, false, false, false, false, false, false, false, false, false, false, false, false, false, false, false] rfl rfl (any_of HT_.out (by kernel_rfl)) (fun _ _ _ h => h) (Or.inr ⟨by rfl, rfl⟩) ?_ ?_
         rotate_left
         ·
          simp only [Act.put, List.setIfInBounds_toArray, List.set_cons_zero, List.set_cons_succ, i64_w, i32_w]
          rfl
         refine pure_ (i := 5) (N := some 36) (v := undef) (a' := ?_) #[true, true, true, true, true, true, false, false, false, false, false, false, false, false, false, false, false, false, false, false, false] rfl rfl (any_of HT_.out (by kernel_rfl)) (fun _ _ _ h => h) (Or.inr ⟨by rfl, rfl⟩) ?_ ?_
         rotate_left
         ·
          simp only [Act.put, List.setIfInBounds_toArray, List.set_cons_zero, List.set_cons_succ, i64_w, i32_w]
          rfl
         refine pure_ (i := 6) (N := some 37) (v := undef) (a' := ?_) #[true, true, true, true, true, true, true, false, false, false, false, false, false, false, false, false, false, false, false, false, false] rfl rfl (any_of HT_.out (by kernel_rfl)) (fun _ _ _ h => h) (Or.inr ⟨by rfl, rfl⟩) ?_ ?_
         rotate_left
         ·
          simp only [Act.put, List.setIfInBounds_toArray, List.set_cons_zero, List.set_cons_succ, i64_w, i32_w]
          rfl
         refine pure_ (i := 7) (N := some 38) (v := undef) (a' := ?_) #[true, true, true, true, true, true, true, true, false, false, false, false, false, false, false, false, false, false, false, false, false] rfl rfl (any_of HT_.out (by kernel_rfl)) (fun _ _ _ h => h) (Or.inr ⟨by rfl, rfl⟩) ?_ ?_
         rotate_left
         ·
          simp only [Act.put, List.setIfInBounds_toArray, List.set_cons_zero, List.set_cons_succ, i64_w, i32_w]
          rfl
         refine pure_ (i := 8) (N := some 39) (v := undef) (a' := ?_) #[true, true, true, true, true, true, true, true, true, false, false, false, false, false, false, false, false, false, false, false, false] rfl rfl (any_of HT_.out (by kernel_rfl)) (fun _ _ _ h => h) (Or.inr ⟨by rfl, rfl⟩) ?_ ?_
         rotate_left
         ·
          simp only [Act.put, List.setIfInBounds_toArray, List.set_cons_zero, List.set_cons_succ, i64_w, i32_w]
          rfl
         refine pure_ (i := 9) (N := some 40) (v := undef) (a' := ?_) #[true, true, true, true, true, true, true, true, true, true, false, false, false, false, false, false, false, false, false, false, false] rfl rfl (any_of HT_.out (by kernel_rfl)) (fun _ _ _ h => h) (Or.inr ⟨by rfl, rfl⟩) ?_ ?_
         rotate_left
         ·
          simp only [Act.put, List.setIfInBounds_toArray, List.set_cons_zero, List.set_cons_succ, i64_w, i32_w]
          rfl
         refine pure_ (i := 10) (N := some 41) (v := undef) (a' := ?_) #[true, true, true, true, true, true, true, true, true, true, true, false, false, false, false, false, false, false, false, false, false] rfl rfl (any_of HT_.out (by kernel_rfl)) (fun _ _ _ h => h) (Or.inr ⟨by rfl, rfl⟩) ?_ ?_
         rotate_left
         ·
          simp only [Act.put, List.setIfInBounds_toArray, List.set_cons_zero, List.set_cons_succ, i64_w, i32_w]
          rfl
         refine pure_ (i := 11) (N := some 42) (v := undef) (a' := ?_) #[true, true, true, true, true, true, true, true, true, true, true, true, false, false, false, false, false, false, false, false, false] rfl rfl (any_of HT_.out (by kernel_rfl)) (fun _ _ _ h => h) (Or.inr ⟨by rfl, rfl⟩) ?_ ?_
         rotate_left
         ·
          simp only [Act.put, List.setIfInBounds_toArray, List.set_cons_zero, List.set_cons_succ, i64_w, i32_w]
          rfl
         refine pure_ (i := 12) (N := some 43) (v := undef) (a' := ?_) #[true, true, true, true, true, true, true, true, true, true, true, true, true, false, false, false, false, false, false, false, false] rfl rfl (any_of HT_.out (by kernel_rfl)) (fun _ _ _ h => h) (Or.inr ⟨by rfl, rfl⟩) ?_ ?_
         rotate_left
         ·
          simp only [Act.put, List.setIfInBounds_toArray, List.set_cons_zero, List.set_cons_succ, i64_w, i32_w]
          rfl
         refine pure_ (i := 13) (N := some 44) (v := undef) (a' := ?_) #[true, true, true, true, true, true, true, true, true, true, true, true, true, true, false, false, false, false, false, false, false] rfl rfl (any_of HT_.out (by kernel_rfl)) (fun _ _ _ h => h) (Or.inr ⟨by rfl, rfl⟩) ?_ ?_
         rotate_left
         ·
          simp only [Act.put, List.setIfInBounds_toArray, List.set_cons_zero, List.set_cons_succ, i64_w, i32_w]
          rfl
         refine pure_ (i := 14) (N := some 45) (v := undef) (a' := ?_) #[true, true, true, true, true, true, true, true, true, true, true, true, true, true, true, false, false, false, false, false, false] rfl rfl (any_of HT_.out (by kernel_rfl)) (fun _ _ _ h => h) (Or.inr ⟨by rfl, rfl⟩) ?_ ?_
         rotate_left
         ·
          simp only [Act.put, List.setIfInBounds_toArray, List.set_cons_zero, List.set_cons_succ, i64_w, i32_w]
          rfl
         refine pure_ (i := 15) (N := some 46) (v := undef) (a' := ?_) #[true, true, true, true, true, true, true, true, true, true, true, true, true, true, true, true, false, false, false, false, false] rfl rfl (any_of HT_.out (by kernel_rfl)) (fun _ _ _ h => h) (Or.inr ⟨by rfl, rfl⟩) ?_ ?_
         rotate_left
         ·
          simp only [Act.put, List.setIfInBounds_toArray, List.set_cons_zero, List.set_cons_succ, i64_w, i32_w]
          rfl
         refine pure_ (i := 16) (N := some 47) (v := undef) (a' := ?_) #[true, true, true, true, true, true, true, true, true, true, true, true, true, true, true, true, true, false, false, false, false] rfl rfl (any_of HT_.out (by kernel_rfl)) (fun _ _ _ h => h) (Or.inr ⟨by rfl, rfl⟩) ?_ ?_
         rotate_left
         ·
          simp only [Act.put, List.setIfInBounds_toArray, List.set_cons_zero, List.set_cons_succ, i64_w, i32_w]
          rfl
         refine pure_ (i := 17) (N := some 48) (v := undef) (a' := ?_) #[true, true, true, true, true, true, true, true, true, true, true, true, true, true, true, true, true, true, false, false, false] rfl rfl (any_of HT_.out (by kernel_rfl)) (fun _ _ _ h => h) (Or.inr ⟨by rfl, rfl⟩) ?_ ?_
         rotate_left
         ·
          simp only [Act.put, List.setIfInBounds_toArray, List.set_cons_zero, List.set_cons_succ, i64_w, i32_w]
          rfl
         refine pure_ (i := 18) (N := some 49) (v := undef) (a' := ?_) #[true, true, true, true, true, true, true, true, true, true, true, true, true, true, true, true, true, true, true, false, false] rfl rfl (any_of HT_.out (by kernel_rfl)) (fun _ _ _ h => h) (Or.inr ⟨by rfl, rfl⟩) ?_ ?_
         rotate_left
         ·
          simp only [Act.put, List.setIfInBounds_toArray, List.set_cons_zero, List.set_cons_succ, i64_w, i32_w]
          rfl
         refine pure_ (i := 19) (N := some 50) (v := ?_) (a' := ?_) #[true, true, true, true, true, true, true, true, true, true, true, true, true, true, true, true, true, true, true, true, false] rfl rfl (any_of HT_.out (by kernel_rfl)) (fun _ _ _ h => h) (Or.inl ⟨by rfl, ?_⟩) ?_ ?_
         rotate_left
         ·
          intro w'
          go_simp
          with_reducible rfl
         rotate_left
         ·
          simp only [Act.put, List.setIfInBounds_toArray, List.set_cons_zero, List.set_cons_succ, i64_w, i32_w]
          rfl
         refine pure_ (i := 20) (N := some 8) (v := ?_) (a' := ?_) #[true, true, true, true, true, true, true, true, true, true, true, true, true, true, true, true, true, true, true, true, true] rfl rfl (any_of HT_.out (by kernel_rfl)) (fun _ _ _ h => h) (Or.inl ⟨by rfl, ?_⟩) ?_ ?_
         rotate_left
         ·
          intro w'
          go_simp
          with_reducible rfl
         rotate_left
         ·
          simp only [Act.put, List.setIfInBounds_toArray, List.set_cons_zero, List.set_cons_succ, i64_w, i32_w]
          rfl
         refine done_ (done_of HT_.out (by kernel_rfl)) ?_
         try go_wp2
         go_roundg k2
         case measure => have := HK1.out; have := HK2.out; omega
         case rel => exact ⟨(false), (wrap64 (x9_2 + 1)), (by first | rfl | (simp; done) | (simp [*]; done)), (by first | rfl | (simp; done) | (simp [*]; done)), H', ⟨by have := HK1.out; have := HK2.out; omega⟩, ⟨by (with_reducible repeat (first | apply Kd.N_alloc | apply Kd.N_drewN | apply Kd.N_drew)); exact Kd.N_mono HO_5.out (fun _ hk => ⟨hk.1, ⟨hk.2.1, hk.2.2.1⟩⟩)⟩, ⟨by (with_reducible repeat (first | apply Kd.N_alloc | apply Kd.N_drewN | apply Kd.N_drew)); exact Kd.N_mono HO_6.out (fun _ hk => ⟨hk.1, ⟨hk.2.1, hk.2.2.1⟩⟩)⟩, ⟨by (with_reducible repeat (first | refine blk_drewN ?_ _ | refine blk_drew ?_ | refine blk_alloc ?_ _)); exact BK197.out⟩, ⟨by repeat (first | (with_reducible first | exact HB.out | apply below_alloc | apply pw_below_drewN | apply below_drew1 | refine below_set ?_ GE197.out | refine below_set ?_ GE202.out) | exact HB.out)⟩⟩
       ·
        rw [if_neg c10] at H
        exact absurd H (by simp)
      ·
       rw [if_neg c9] at H
       have c9b0 : decide (x9_2 < (l0_5.length : Int)) = false := decide_eq_false c9
       clear c9
       by_cases c36 : x8_2 = true
       ·
        subst c36
        have H1 : (if 0 ≤ x7_1 then (if x7_1 < (t198.length : Int) then (if x6_1.length < 4398046511104 then (helioscoperef01_Truths.l0 k2 l1 t198 (x6_1 ++ [(⟨(rd_T57 t198 x7_1).f0, (rd_T57 t198 x7_1).f1⟩ : S57)]) (wrap64 (x7_1 + 1)) a0_0 a0_1 a0_2 a0_3 l0_4 l0_5) else (none)) else (none)) else (none)) = some r := by rw [if_pos rfl] at H; exact H
        clear H
        have H := H1
        clear H1
        by_cases c37 : 0 ≤ x7_1
        ·
         rw [if_pos c37] at H
         have c37b0 : decide (0 ≤ x7_1) = true := decide_eq_true c37
         clear c37
         by_cases c38 : x7_1 < (t198.length : Int)
         ·
          rw [if_pos c38] at H
          have c38b0 : decide (x7_1 < (t198.length : Int)) = true := decide_eq_true c38
          clear c38
          by_cases c39 : x6_1.length < 4398046511104
          ·
           rw [if_pos c39] at H
           have LMc39 := Aside0.mk c39
           clear c39
           obtain ⟨y207, hy207⟩ : ∃ y_ : List (S57), y_ = (x6_1 ++ [(⟨(rd_T57 t198 x7_1).f0, (rd_T57 t198 x7_1).f1⟩ : S57)]) := ⟨_, rfl⟩
           replace H : (helioscoperef01_Truths.l0 k2 l1 t198 y207 (wrap64 (x7_1 + 1)) a0_0 a0_1 a0_2 a0_3 l0_4 l0_5) = some r := by first | (rw [hy207]; with_reducible exact H) | (have H2_ := (Option.bind_some _ _).symm.trans H; rw [hy207]; with_reducible exact H2_) | (have H2_ := (Option.bind_some _ _).symm.trans H; with_reducible exact H2_) | with_reducible exact H | (rw [hy207]; exact H) | exact H
           have Ny207 := Aside0.mk hy207
           clear hy207
           have H' := Aside0.mk H
           clear H
           have hcz40_0 : wr.cell? ⟨gb197, 0, none⟩ = some (.string a0_0) := (blk_cell BK197.out 0).trans rfl
           have hcz40_1 : wr.cell? ⟨gb197, 1, none⟩ = some (.int .i64 a0_1) := (blk_cell BK197.out 1).trans rfl
           have hcz40_2 : wr.cell? ⟨gb197, 2, none⟩ = some (.int .i64 a0_2) := (blk_cell BK197.out 2).trans rfl
           have hcz40_3 : wr.cell? ⟨gb197, 3, none⟩ = some (.int .i64 a0_3) := (blk_cell BK197.out 3).trans rfl
           have hcz40_4 : wr.cell? ⟨gb197, 4, none⟩ = some (.slice A0_4 l0_4.length c0_4) := (blk_cell BK197.out 4).trans rfl
           have hcz40_5 : wr.cell? ⟨gb197, 5, none⟩ = some (.slice A0_5 l0_5.length c0_5) := (blk_cell BK197.out 5).trans rfl
           have hfz40_0 := blk_frozen BK197.out 0
           have hfz40_1 := blk_frozen BK197.out 1
           have hfz40_2 := blk_frozen BK197.out 2
           have hfz40_3 := blk_frozen BK197.out 3
           have hfz40_4 := blk_frozen BK197.out 4
           have hfz40_5 := blk_frozen BK197.out 5
           have p206 : 0 ≤ (x7_1 : Int) := of_decide_eq_true (by first | (with_reducible assumption) | assumption)
           have q206 : x7_1 < (t198.length : Int) := of_decide_eq_true (by first | (with_reducible assumption) | assumption)
           obtain ⟨ad206, A206_1, c206_1, e206, hx206_0, hx206_1, hl206_1, hi206_1⟩ := at_T57 (Kd.N_reads' HO_5.out).2.2 x7_1 p206 q206
           cases e206
           obtain ⟨ce206, hce206, hMe206, hcc206⟩ := Kd.N_get HO_5.out z57 x7_1 p206 (by first | exact q206 | exact of_decide_eq_true (by first | (with_reducible assumption) | assumption) | (have e_ := (Kd.N_reads' HO_5.out).1; omega))
           obtain ⟨ua206_1, uc206_1, rfl, ul206_1, ge206_1⟩ := k57_openF hMe206
           have hv206_1 := hcc206 1 _ rfl
           rw [add_field _ _ 1 (by omega)] at hv206_1
           replace hv206_1 := Option.some.inj (hv206_1.symm.trans hx206_1)
           injection hv206_1 with hva_ hvn_ hvc_
           rw [hva_] at ge206_1
           rw [hvc_] at ul206_1
           have HL206_1 := Aside0.mk (show Kd.V (Kd.int .i64) 3 _ w.heap.size _ _ ((rd_T57 t198 x7_1).f1) from Kd.V_mk ul206_1 ge206_1)
           clear hva_ hvn_ hvc_ ge206_1 ul206_1
           clear hcc206 hce206
           have HR206_1 := Aside0.mk hi206_1
           have HC206_1 := Aside0.mk hl206_1
           clear hi206_1 hl206_1
           replace p206 := eq_true p206
           replace q206 := eq_true q206
           go_wp2_with (first | ((with_reducible refine gate_builtin (b := .append) (xs := #[.tmp 52, .tmp 57]) rfl ?_); at_builtin; refine Kd.N_append k57 (w0 := w) w.heap.size rfl (.tmp 52) (.tmp 57) 70 57 (.agg #[(.int .i64 0), (.slice none 0 0)]) 32 rfl Try.underlying70 info57 rfl (by decide) (by omega) u6 x6_1 (⟨(rd_T57 t198 x7_1).f0, (rd_T57 t198 x7_1).f1⟩ : S57) [.int .i64 ((rd_T57 t198 x7_1).f0), .slice A206_1 ((rd_T57 t198 x7_1).f1).length c206_1] (fun k_ => (w.heap.size ≤ k_) ∧ some k_ ≠ (.slice (some ad206) t198.length co8 : Value).ownBlock ∧ k_ ≠ gb197) (fun k_ => ((fun k_ => (w.heap.size ≤ k_) ∧ some k_ ≠ (.slice (some ad206) t198.length co8 : Value).ownBlock ∧ k_ ≠ gb197)) k_ ∧ some k_ ≠ (u6 : Value).ownBlock) rfl rfl ?aP (fun _ hk => hk) ?aF ?aO ?aB ?aS ?aL ?_; (case aP => exact (k57_mkF _ _ (⟨(rd_T57 t198 x7_1).f0, (rd_T57 t198 x7_1).f1⟩ : S57) (Kd.V_reads' (Kd.V_mono (ok' := (fun k_ => ((fun k_ => (w.heap.size ≤ k_) ∧ some k_ ≠ (.slice (some ad206) t198.length co8 : Value).ownBlock ∧ k_ ≠ gb197)) k_ ∧ some k_ ≠ (u6 : Value).ownBlock)) (HL206_1.out) (fun k_ hk => ⟨⟨hk.1.1, ⟨hk.2, hk.1.2.2⟩⟩, hk.1.2.1⟩))).2.1 (Kd.V_F (Kd.V_mono (ok' := (fun k_ => ((fun k_ => (w.heap.size ≤ k_) ∧ some k_ ≠ (.slice (some ad206) t198.length co8 : Value).ownBlock ∧ k_ ≠ gb197)) k_ ∧ some k_ ≠ (u6 : Value).ownBlock)) (HL206_1.out) (fun k_ hk => ⟨⟨hk.1.1, ⟨hk.2, hk.1.2.2⟩⟩, hk.1.2.1⟩))))); (case aB => exact (by repeat (first | (with_reducible first | exact HB.out | apply below_alloc | apply pw_below_drewN | apply below_drew1 | refine below_set ?_ GE197.out) | exact HB.out))); (case aF => exact (fun k_ hk => ⟨(Nat.le_trans (below_size (by repeat (first | (with_reducible first | exact HB.out | apply below_alloc | apply pw_below_drewN | apply below_drew1 | refine below_set ?_ GE197.out) | exact HB.out))) hk), Kd.fresh' (Kd.N_lt (by (with_reducible repeat (first | apply Kd.N_alloc | apply Kd.N_drewN | apply Kd.N_drew)); exact HO_5.out)) k_ hk, Kd.freshB (g := gb197) (o := .cells #[.string a0_0, .int .i64 a0_1, .int .i64 a0_2, .int .i64 a0_3, .slice A0_4 l0_4.length c0_4, .slice A0_5 l0_5.length c0_5] 27 (0, 0)) (by (with_reducible repeat (first | refine blk_drewN ?_ _ | refine blk_drew ?_ | refine blk_alloc ?_ _)); exact BK197.out) k_ hk⟩)); (case aO => exact (by (with_reducible repeat (first | apply Kd.N_alloc | apply Kd.N_drewN | apply Kd.N_drew)); exact HO_6.out)); (case aS => exact (below_size (by repeat (first | (with_reducible first | exact HB.out | apply below_alloc | apply pw_below_drewN | apply below_drew1 | refine below_set ?_ GE197.out) | exact HB.out)))); (case aL => have := LMc39.out; omega); intro v208 w41 ho hb hg hat; rw [← Ny207.out] at ho; have n0_ := Aside0.mk (Kd.N_afterv (ok := (fun k_ => (w.heap.size ≤ k_) ∧ k_ ≠ gb197)) (by (with_reducible repeat (first | apply Kd.N_alloc | apply Kd.N_drewN | apply Kd.N_drew)); exact Kd.N_mono HO_5.out (fun _ hk => ⟨⟨hk.1, hk.2.2⟩, hk.2.1⟩)) hg hat); have n1_ := Aside0.mk (blk_grown (g := gb197) (o := .cells #[.string a0_0, .int .i64 a0_1, .int .i64 a0_2, .int .i64 a0_3, .slice A0_4 l0_4.length c0_4, .slice A0_5 l0_5.length c0_5] 27 (0, 0)) (by (with_reducible repeat (first | refine blk_drewN ?_ _ | refine blk_drew ?_ | refine blk_alloc ?_ _)); exact BK197.out) hg (Kd.N_ne HO_6.out BK197.out (by decide))); have n2_ := Aside0.mk (Kd.V_afterv (ok := (fun k_ => (w.heap.size ≤ k_) ∧ some k_ ≠ (.slice (some ad206) t198.length co8 : Value).ownBlock ∧ k_ ≠ gb197)) (by (with_reducible repeat (first | apply Kd.V_alloc | apply Kd.V_drewN | apply Kd.V_drew)); exact Kd.V_mono HL206_1.out (fun _ hk => ⟨⟨hk.1.1, ⟨hk.2, hk.1.2.2⟩⟩, hk.1.2.1⟩)) hg hat); have n3_ := Aside0.mk (hb); have n4_ := Aside0.mk (ho); clear HO_5; clear BK197; clear HL206_1; clear HB; clear HO_6; have HO_5 := n0_; have BK197 := n1_; have HL206_1 := n2_; have HB := n3_; have HO209 := n4_; clear n0_ n1_ n2_ n3_ n4_; clear ho hb hg hat))
           go_roundg k2
           case measure => have := HK1.out; have := HK2.out; omega
           case rel => exact ⟨(y207), (wrap64 (x7_1 + 1)), (by first | rfl | (simp; done) | (simp [*]; done)), H', ⟨by have := HK1.out; have := HK2.out; omega⟩, ⟨by (with_reducible repeat (first | apply Kd.N_alloc | apply Kd.N_drewN | apply Kd.N_drew)); exact Kd.N_mono HO_5.out (fun _ hk => ⟨hk.1.1, ⟨hk.2, hk.1.2⟩⟩)⟩, ⟨by (with_reducible repeat (first | apply Kd.N_alloc | apply Kd.N_drewN | apply Kd.N_drew)); exact HO209.out⟩, ⟨by (with_reducible repeat (first | refine blk_drewN ?_ _ | refine blk_drew ?_ | refine blk_alloc ?_ _)); exact BK197.out⟩, ⟨by repeat (first | (with_reducible first | exact HB.out | apply below_alloc | apply pw_below_drewN | apply below_drew1 | refine below_set ?_ GE197.out) | exact HB.out)⟩⟩
          ·
           rw [if_neg c39] at H
           exact absurd H (by simp)
         ·
          rw [if_neg c38] at H
          exact absurd H (by simp)
        ·
         rw [if_neg c37] at H
         exact absurd H (by simp)
       ·
        replace c36 := Bool.eq_false_iff.mpr c36
        subst c36
        have H1 : (helioscoperef01_Truths.l0 k2 l1 t198 x6_1 (wrap64 (x7_1 + 1)) a0_0 a0_1 a0_2 a0_3 l0_4 l0_5) = some r := by rw [if_neg (show ¬ (false = true) by decide)] at H; exact H
        clear H
        have H := H1
        clear H1
        have H' := Aside0.mk H
        clear H
        have hcz42_0 : wr.cell? ⟨gb197, 0, none⟩ = some (.string a0_0) := (blk_cell BK197.out 0).trans rfl
        have hcz42_1 : wr.cell? ⟨gb197, 1, none⟩ = some (.int .i64 a0_1) := (blk_cell BK197.out 1).trans rfl
        have hcz42_2 : wr.cell? ⟨gb197, 2, none⟩ = some (.int .i64 a0_2) := (blk_cell BK197.out 2).trans rfl
        have hcz42_3 : wr.cell? ⟨gb197, 3, none⟩ = some (.int .i64 a0_3) := (blk_cell BK197.out 3).trans rfl
        have hcz42_4 : wr.cell? ⟨gb197, 4, none⟩ = some (.slice A0_4 l0_4.length c0_4) := (blk_cell BK197.out 4).trans rfl
        have hcz42_5 : wr.cell? ⟨gb197, 5, none⟩ = some (.slice A0_5 l0_5.length c0_5) := (blk_cell BK197.out 5).trans rfl
        have hfz42_0 := blk_frozen BK197.out 0
        have hfz42_1 := blk_frozen BK197.out 1
        have hfz42_2 := blk_frozen BK197.out 2
        have hfz42_3 := blk_frozen BK197.out 3
        have hfz42_4 := blk_frozen BK197.out 4
        have hfz42_5 := blk_frozen BK197.out 5
        go_wp2
        go_roundg k2
        case measure => have := HK1.out; have := HK2.out; omega
        case rel => exact ⟨(x6_1), (wrap64 (x7_1 + 1)), (by first | rfl | (simp; done) | (simp [*]; done)), H', ⟨by have := HK1.out; have := HK2.out; omega⟩, ⟨by (with_reducible repeat (first | apply Kd.N_alloc | apply Kd.N_drewN | apply Kd.N_drew)); exact HO_5.out⟩, ⟨by (with_reducible repeat (first | apply Kd.N_alloc | apply Kd.N_drewN | apply Kd.N_drew)); exact HO_6.out⟩, ⟨by (with_reducible repeat (first | refine blk_drewN ?_ _ | refine blk_drew ?_ | refine blk_alloc ?_ _)); exact BK197.out⟩, ⟨by repeat (first | (with_reducible first | exact HB.out | apply below_alloc | apply pw_below_drewN | apply below_drew1 | refine below_set ?_ GE197.out) | exact HB.out)⟩⟩
   ·
    rw [if_neg c7] at H
    have c7b0 : decide (x7_1 < (t198.length : Int)) = false := decide_eq_false c7
    clear c7
    obtain rfl := Option.some.inj H
    obtain ⟨Ao43, co43, eo43⟩ := Kd.N_slice HO_5.out
    subst eo43
    go_wp2
    go_ret
    exact ⟨_, by first | rfl | (simp [errW_none, errW_some] <;> rfl) | (simp [*, errW_none, errW_some] <;> rfl), by (with_reducible repeat (first | apply Kd.N_alloc | apply Kd.N_drewN | apply Kd.N_drew)); exact Kd.N_mono HO_6.out (fun _ hk => hk.1), by repeat (first | (with_reducible first | exact HB.out | apply below_alloc | apply pw_below_drewN | apply below_drew1 | refine below_set ?_ GE197.out) | exact HB.out)⟩

end Go.Proofs.Ytemeapfnfegkiaa.PR
end
section
namespace Go.Proofs.Ytemeapfnfegkiaa.PR
open Go.RowKit Go.Proofs.YtemeapfnfegkiaaW.PrintWords Go.Proofs.YtemeapfnfegkiaaW.PrintLast Go.Proofs.YtemeapfnfegkiaaW.PrintMore
attribute [local go_sem] max2_int min2_int max_two min_two max_three min_three max_four min_four   -- for this text's walks alone
set_option linter.unusedVariables false
set_option linter.unusedSimpArgs false

def helioscoperef01_ones.l0 : Nat → List (S57) → Int → Int → Int → Int → Option (Int)
 | 0, _, _, _, _, _ => none
 | k + 1, x0, x1, x2, x7, x8 => if x8 < (x0.length : Int) then (if 0 ≤ x8 then ((helioscoperef01_Together.f ((rd_T57 x0 x8).f0) ((rd_T57 x0 x8).f1) x1 x2).bind fun t230 => (if t230 = true then (helioscoperef01_ones.l0 k x0 x1 x2 (wrap64 (x7 + 1)) (wrap64 (x8 + 1))) else (helioscoperef01_ones.l0 k x0 x1 x2 x7 (wrap64 (x8 + 1))))) else (none)) else (some x7)
def helioscoperef01_ones.f (k : Nat) (l0 : List (S57)) (a1 : Int) (a2 : Int) : Option (Int) := helioscoperef01_ones.l0 k l0 a1 a2 0 0
set_option maxHeartbeats 8000000 in
set_option maxRecDepth 100000 in
theorem helioscoperef01_ones.calls (k : Nat) (A0 : Option Addr) (c0 : Nat) (l0 : List (S57)) (a1 : Int) (a2 : Int) (r : Int) (w : World) (hr0 : Kd.C k57 w A0 l0.length l0) (hc0 : l0.length ≤ c0) (h : helioscoperef01_ones.f k l0 a1 a2 = some r) :
  Calls Try.prog 98 #[.slice A0 l0.length c0, .int .i64 a1, .int .i64 a2] w fun e w' => e = .returned (.int .i64 r) ∧ Below w.heap.size w w' := by
 have hu57 := Try.underlying57
 have HR0 := Aside0.mk hr0
 have HC0 := Aside0.mk hc0
 clear hr0 hc0
 have HB := Aside0.mk (Below.refl w.heap.size w)
 have H : (helioscoperef01_ones.l0 k l0 a1 a2 0 0) = some r := h
 clear h
 have H' := Aside0.mk H
 clear H
 go_enter Try.func98, Try.ntmps98
 go_wp2
 go_loopg [7, 8] k (fun kq v7 v8 w' => ∃ (x7_1 : Int) (x8_1 : Int), v7 = .int .i64 x7_1 ∧ v8 = .int .i64 x8_1 ∧ Aside0 (helioscoperef01_ones.l0 kq l0 a1 a2 x7_1 x8_1 = some r) ∧ Aside0 (kq ≤ k) ∧ Aside0 (Below w.heap.size w w'))
 case atStart => exact ⟨(0), (0), (by first | rfl | (simp; done) | (simp [*]; done)), (by first | rfl | (simp; done) | (simp [*]; done)), H', ⟨Nat.le_refl _⟩, ⟨by repeat (first | (with_reducible first | exact HB.out | apply below_alloc | apply pw_below_drewN | apply below_drew1) | exact HB.out)⟩⟩
 case round =>
  clear H'
  try clear p2
  obtain ⟨x7_1, x8_1, rfl, rfl, HA, HK1, HB⟩ := hrel
  cases gk with
  | zero => exact absurd HA.out (by simp [helioscoperef01_ones.l0])
  | succ k1 =>
   have H := HA.out
   clear HA
   simp only [helioscoperef01_ones.l0] at H
   by_cases c4 : x8_1 < (l0.length : Int)
   ·
    rw [if_pos c4] at H
    have c4b0 : decide (x8_1 < (l0.length : Int)) = true := decide_eq_true c4
    clear c4
    by_cases c5 : 0 ≤ x8_1
    ·
     rw [if_pos c5] at H
     have c5b0 : decide (0 ≤ x8_1) = true := decide_eq_true c5
     clear c5
     replace H := Option.bind_eq_some_iff.mp H
     obtain ⟨t230, A60, H⟩ := H
     replace H : (if t230 = true then (helioscoperef01_ones.l0 k1 l0 a1 a2 (wrap64 (x7_1 + 1)) (wrap64 (x8_1 + 1))) else (helioscoperef01_ones.l0 k1 l0 a1 a2 x7_1 (wrap64 (x8_1 + 1)))) = some r := H
     have A6 := Aside0.mk A60
     clear A60
     by_cases c7 : t230 = true
     ·
      subst c7
      have H1 : (helioscoperef01_ones.l0 k1 l0 a1 a2 (wrap64 (x7_1 + 1)) (wrap64 (x8_1 + 1))) = some r := by rw [if_pos rfl] at H; exact H
      clear H
      have H := H1
      clear H1
      have H' := Aside0.mk H
      clear H
      have p229 : 0 ≤ (x8_1 : Int) := of_decide_eq_true (by first | (with_reducible assumption) | assumption)
      have q229 : x8_1 < (l0.length : Int) := of_decide_eq_true (by first | (with_reducible assumption) | assumption)
      obtain ⟨ad229, A229_1, c229_1, e229, hx229_0, hx229_1, hl229_1, hi229_1⟩ := at_T57 HR0.out x8_1 p229 q229
      cases e229
      replace hx229_0 := (HB.out.cell (World.block_lt_of_cell? w _ hx229_0)).trans hx229_0
      replace hx229_1 := (HB.out.cell (World.block_lt_of_cell? w _ hx229_1)).trans hx229_1
      have HR229_1 := Aside0.mk hi229_1
      have HC229_1 := Aside0.mk hl229_1
      clear hi229_1 hl229_1
      replace p229 := eq_true p229
      replace q229 := eq_true q229
      go_wp2_with (first | ((with_reducible refine gate_callee (f := 46) rfl ?_); refine goesL_ (some 21) rfl rfl Try.func46 (by kernel_rfl) rfl #[.agg #[.int .i64 ((rd_T57 l0 x8_1).f0), .slice A229_1 ((rd_T57 l0 x8_1).f1).length c229_1], .int .i64 a1, .int .i64 a2] rfl (by (try simp only [List.map_toArray, List.map_cons, List.map_nil]); first | done | rfl | (simp only [List.length_drop, List.length_take]; rfl)) ?_; (with_reducible refine (helioscoperef01_Together.calls ((rd_T57 l0 x8_1).f0) _ _ ((rd_T57 l0 x8_1).f1) a1 a2 true _ ?side1 ?side2 A6.out).mono ?_); (case side1 => repeat (first | exact (Kd.C_below HR229_1.out HB.out) | (with_reducible refine Kd.C_alloc ?_ _) | (with_reducible refine Kd.C_drewN ?_ _) | (with_reducible refine Kd.C_drew ?_))); (case side2 => exact HC229_1.out); rintro e w8 ⟨rfl, hb⟩; refine ⟨_, rfl, ?_⟩; have n0_ := Aside0.mk (below_step (by repeat (first | (with_reducible first | exact HB.out | apply below_alloc | apply pw_below_drewN | apply below_drew1) | exact HB.out)) hb); clear HB; have HB := n0_; clear n0_; (try clear hb); (try clear hb2); (try clear hk); (try clear hi)))
      go_roundg k1
      case measure => have := HK1.out; omega
      case rel => exact ⟨(wrap64 (x7_1 + 1)), (wrap64 (x8_1 + 1)), (by first | rfl | (simp; done) | (simp [*]; done)), (by first | rfl | (simp; done) | (simp [*]; done)), H', ⟨by have := HK1.out; omega⟩, ⟨by repeat (first | (with_reducible first | exact HB.out | apply below_alloc | apply pw_below_drewN | apply below_drew1) | exact HB.out)⟩⟩
     ·
      replace c7 := Bool.eq_false_iff.mpr c7
      subst c7
      have H1 : (helioscoperef01_ones.l0 k1 l0 a1 a2 x7_1 (wrap64 (x8_1 + 1))) = some r := by rw [if_neg (show ¬ (false = true) by decide)] at H; exact H
      clear H
      have H := H1
      clear H1
      have H' := Aside0.mk H
      clear H
      have p229 : 0 ≤ (x8_1 : Int) := of_decide_eq_true (by first | (with_reducible assumption) | assumption)
      have q229 : x8_1 < (l0.length : Int) := of_decide_eq_true (by first | (with_reducible assumption) | assumption)
      obtain ⟨ad229, A229_1, c229_1, e229, hx229_0, hx229_1, hl229_1, hi229_1⟩ := at_T57 HR0.out x8_1 p229 q229
      cases e229
      replace hx229_0 := (HB.out.cell (World.block_lt_of_cell? w _ hx229_0)).trans hx229_0
      replace hx229_1 := (HB.out.cell (World.block_lt_of_cell? w _ hx229_1)).trans hx229_1
      have HR229_1 := Aside0.mk hi229_1
      have HC229_1 := Aside0.mk hl229_1
      clear hi229_1 hl229_1
      replace p229 := eq_true p229
      replace q229 := eq_true q229
      go_wp2_with (first | ((with_reducible refine gate_callee (f := 46) rfl ?_); refine goesL_ (some 21) rfl rfl Try.func46 (by kernel_rfl) rfl #[.agg #[.int .i64 ((rd_T57 l0 x8_1).f0), .slice A229_1 ((rd_T57 l0 x8_1).f1).length c229_1], .int .i64 a1, .int .i64 a2] rfl (by (try simp only [List.map_toArray, List.map_cons, List.map_nil]); first | done | rfl | (simp only [List.length_drop, List.length_take]; rfl)) ?_; (with_reducible refine (helioscoperef01_Together.calls ((rd_T57 l0 x8_1).f0) _ _ ((rd_T57 l0 x8_1).f1) a1 a2 false _ ?side1 ?side2 A6.out).mono ?_); (case side1 => repeat (first | exact (Kd.C_below HR229_1.out HB.out) | (with_reducible refine Kd.C_alloc ?_ _) | (with_reducible refine Kd.C_drewN ?_ _) | (with_reducible refine Kd.C_drew ?_))); (case side2 => exact HC229_1.out); rintro e w9 ⟨rfl, hb⟩; refine ⟨_, rfl, ?_⟩; have n0_ := Aside0.mk (below_step (by repeat (first | (with_reducible first | exact HB.out | apply below_alloc | apply pw_below_drewN | apply below_drew1) | exact HB.out)) hb); clear HB; have HB := n0_; clear n0_; (try clear hb); (try clear hb2); (try clear hk); (try clear hi)))
      go_roundg k1
      case measure => have := HK1.out; omega
      case rel => exact ⟨(x7_1), (wrap64 (x8_1 + 1)), (by first | rfl | (simp; done) | (simp [*]; done)), (by first | rfl | (simp; done) | (simp [*]; done)), H', ⟨by have := HK1.out; omega⟩, ⟨by repeat (first | (with_reducible first | exact HB.out | apply below_alloc | apply pw_below_drewN | apply below_drew1) | exact HB.out)⟩⟩
    ·
     rw [if_neg c5] at H
     exact absurd H (by simp)
   ·
    rw [if_neg c4] at H
    have c4b0 : decide (x8_1 < (l0.length : Int)) = false := decide_eq_false c4
    clear c4
    obtain rfl := Option.some.inj H
    go_wp2
    go_ret
    exact ⟨by first | rfl | (simp [errW_none, errW_some] <;> rfl) | (simp [*, errW_none, errW_some] <;> rfl), by repeat (first | (with_reducible first | exact HB.out | apply below_alloc | apply pw_below_drewN | apply below_drew1) | exact HB.out)⟩

end Go.Proofs.Ytemeapfnfegkiaa.PR
end
section
/- Package disk: the truths, in the reference's order and in the program's. -/
namespace Go.Proofs.Ytemeapfnfegkiaa.D
open Go Go.RowKit Go.Proofs.YtemeapfnfegkiaaK Go.Proofs.YtemeapfnfegkiaaW.PrintWords Go.Proofs.YtemeapfnfegkiaaW.PrintLast Go.Proofs.YtemeapfnfegkiaaW.PrintMore Go.Proofs.Ytemeapfnfegkiaa.PR
set_option linter.unusedVariables false
set_option linter.unusedSimpArgs false

open Classical in
noncomputable def RG (D : Dat) (near : Int) (set : Nat) : List Int := if h : Valid D then Classical.choose (rgrouped h near set) else []
theorem RG_ref {D : Dat} (hV : Valid D) (near : Int) (set : Nat) : RefG (G D near set) D.spots.length (RG D near set) := by
  unfold RG; rw [dif_pos hV]; exact (Classical.choose_spec (rgrouped hV near set)).1
theorem RG_ev {D : Dat} (hV : Valid D) (near : Int) (set : Nat) : Ev (fun f => helioscoperef01_grouped.f f D.nm D.rad D.lo D.hi D.spots D.told near (natsI (bitsL set D.spots.length))) (RG D near set) := by
  unfold RG; rw [dif_pos hV]; exact (Classical.choose_spec (rgrouped hV near set)).2

noncomputable def toR (D : Dat) (x : Int × Nat) : S57 := ⟨x.1, RG D x.1 x.2⟩
def allUp (D : Dat) (i : Nat) : List (Int × Nat) := (List.range i).flatMap fun (i : Nat) => (setsN D D.spots.length).map fun s => (D.lo + (i : Int), s)
theorem allUp_succ (D : Dat) (i : Nat) : allUp D (i + 1) = allUp D i ++ (setsN D D.spots.length).map fun s => (D.lo + (i : Int), s) := by
  simp [allUp, List.range_succ]
def allN (D : Dat) : List (Int × Nat) := allUp D (D.hi - D.lo + 1).toNat
theorem allUp_len {D : Dat} (hV : Valid D) (i : Nat) : (allUp D i).length ≤ 128 * i := by
  have h7 := hV.n7
  have h1 := setsN_len D D.spots.length
  have h2 : 2 ^ D.spots.length ≤ 2 ^ 7 := Nat.pow_le_pow_right (by decide) h7
  induction i with
  | zero => simp [allUp]
  | succ i ih => rw [allUp_succ, List.length_append, List.length_map]; omega

theorem rA1 {D : Dat} (hV : Valid D) (near : Int) (hn : 0 ≤ near ∧ near ≤ 12) (res : List S57) (d : Nat) : ∀ (j : Nat) (acc : List S57), j + d = (setsN D D.spots.length).length → acc.length + d ≤ 2000 →
    Ev (fun f => helioscoperef01_All.l0 f (setsI D D.spots.length) (acc ++ ((setsN D D.spots.length).drop j).map fun s => toR D (near, s)) (near + 1) D.nm D.rad D.lo D.hi D.spots D.told) res →
    Ev (fun f => helioscoperef01_All.l1 f (setsI D D.spots.length) acc near (j : Int) D.nm D.rad D.lo D.hi D.spots D.told) res := by
  induction d with
  | zero =>
    intro j acc hd ha h
    rw [List.drop_eq_nil_of_le (by omega), List.map_nil, List.append_nil] at h
    refine Ev.step (fun f => ?_) h
    simp only [helioscoperef01_All.l1, setsI, List.length_map]
    rw [if_neg (by omega), wrap_in (by omega) (by omega)]
  | succ d ihd =>
    intro j acc hd ha h
    have hj : j < (setsN D D.spots.length).length := by omega
    have h7 := hV.n7
    have h1 := setsN_len D D.spots.length
    have h2 : 2 ^ D.spots.length ≤ 2 ^ 7 := Nat.pow_le_pow_right (by decide) h7
    have ih := ihd (j + 1) (acc ++ [toR D (near, (setsN D D.spots.length)[j])]) (by omega) (by simp only [List.length_append, List.length_singleton]; omega) (by
      rw [List.drop_eq_getElem_cons hj, List.map_cons] at h
      rw [List.append_assoc]; exact h)
    rw [show toR D (near, (setsN D D.spots.length)[j]) = (⟨near, RG D near (setsN D D.spots.length)[j]⟩ : S57) from rfl] at ih
    have hev := RG_ev hV near (setsN D D.spots.length)[j]
    generalize RG D near (setsN D D.spots.length)[j] = R at ih hev
    have hr : rd_L4 (setsI D D.spots.length) (j : Int) = natsI (bitsL (setsN D D.spots.length)[j] D.spots.length) := by
      rw [rd_L4_at _ j (by simpa [setsI] using hj)]; simp [setsI]
    refine Ev.step (f := fun f => (helioscoperef01_grouped.f f D.nm D.rad D.lo D.hi D.spots D.told near (natsI (bitsL (setsN D D.spots.length)[j] D.spots.length))).bind fun t => helioscoperef01_All.l1 f (setsI D D.spots.length) (acc ++ [(⟨near, t⟩ : S57)]) near ((j + 1 : Nat) : Int) D.nm D.rad D.lo D.hi D.spots D.told) (fun f => ?_) (Ev.bind (f := fun f t => helioscoperef01_All.l1 f (setsI D D.spots.length) (acc ++ [(⟨near, t⟩ : S57)]) near ((j + 1 : Nat) : Int) D.nm D.rad D.lo D.hi D.spots D.told) hev ih)
    simp only [helioscoperef01_All.l1, hr]
    rw [if_pos (by simp only [setsI, List.length_map]; omega), if_pos (by omega), wrapN (by omega)]
    refine congrArg (Option.bind _) (funext fun t => ?_)
    rw [if_pos (by omega)]

theorem rA0 {D : Dat} (hV : Valid D) : ∀ (d i : Nat), i + d = (D.hi - D.lo + 1).toNat → Ev (fun f => helioscoperef01_All.l0 f (setsI D D.spots.length) ((allUp D i).map (toR D)) (D.lo + (i : Int)) D.nm D.rad D.lo D.hi D.spots D.told) ((allN D).map (toR D))
  | 0, i, hd => by
    have hle := hV.le
    obtain rfl : i = (D.hi - D.lo + 1).toNat := by omega
    refine Ev.step (f := fun _ => some ((allN D).map (toR D))) (fun f => ?_) (Ev.now _)
    simp only [helioscoperef01_All.l0]
    rw [if_neg (by omega)]; rfl
  | d + 1, i, hd => by
    have hlo := hV.lo
    have hhi := hV.hi
    have h7 := hV.n7
    have h1 := setsN_len D D.spots.length
    have h2 : 2 ^ D.spots.length ≤ 2 ^ 7 := Nat.pow_le_pow_right (by decide) h7
    have h3 := allUp_len hV i
    have ih := rA0 hV d (i + 1) (by omega)
    have hh := rA1 hV (D.lo + (i : Int)) (by omega) ((allN D).map (toR D)) (setsN D D.spots.length).length 0 ((allUp D i).map (toR D)) (by omega) (by rw [List.length_map]; omega) (by
      rw [allUp_succ, List.map_append, List.map_map] at ih
      have e : D.lo + ((i + 1 : Nat) : Int) = D.lo + (i : Int) + 1 := by omega
      rw [e] at ih
      exact ih)
    refine Ev.step (fun f => ?_) hh
    simp only [helioscoperef01_All.l0]
    rw [if_pos (by omega)]; rfl
theorem rAll {D : Dat} (hV : Valid D) : Ev (fun f => helioscoperef01_All.f f D.nm D.rad D.lo D.hi D.spots D.told) ((allN D).map (toR D)) := by
  unfold helioscoperef01_All.f
  refine Ev.bind (rsets hV) ?_
  have := rA0 hV (D.hi - D.lo + 1).toNat 0 (by omega)
  have e : D.lo + ((0 : Nat) : Int) = D.lo := by omega
  rw [e] at this
  exact this

theorem rHas0 (but : List Int) (hb : but.length ≤ 1000) (x : Int) (d : Nat) : ∀ (j : Nat), j + d = but.length → Ev (fun f => helioscoperef01_Has.l0 f but x (j : Int)) ((but.drop j).any fun y => y == x) := by
  induction d with
  | zero =>
    intro j hd
    rw [List.drop_eq_nil_of_le (by omega)]
    refine Ev.step (f := fun _ => some false) (fun f => ?_) (Ev.now _)
    simp only [helioscoperef01_Has.l0]
    rw [if_neg (by omega)]
  | succ d ih =>
    intro j hd
    have hj : j < but.length := by omega
    have e : rd but (j : Int) = but[j] := by rw [rd_nat, List.getD_eq_getElem?_getD, List.getElem?_eq_getElem hj]; rfl
    rw [List.drop_eq_getElem_cons hj, List.any_cons]
    by_cases h : but[j] = x
    · rw [beq_iff_eq.2 h, Bool.true_or]
      refine Ev.step (f := fun _ => some true) (fun f => ?_) (Ev.now _)
      simp only [helioscoperef01_Has.l0, e]
      rw [if_pos (by omega), if_pos (by omega), if_pos h]
    · have hf : (but[j] == x) = false := by simpa using h
      rw [hf, Bool.false_or]
      refine Ev.step (f := fun f => helioscoperef01_Has.l0 f but x ((j + 1 : Nat) : Int)) (fun f => ?_) (ih (j + 1) (by omega))
      simp only [helioscoperef01_Has.l0, e]
      rw [if_pos (by omega), if_pos (by omega), if_neg h, wrapN (by omega)]
def hasB (but : List Int) (x : Nat) : Bool := but.any fun y => y == (x : Int)
theorem rHas (but : List Int) (hb : but.length ≤ 1000) (x : Nat) : Ev (fun f => helioscoperef01_Has.f f but (x : Int)) (hasB but x) := rHas0 but hb x but.length 0 (by omega)

theorem RefG.ge {g : Nat → Int} {n : Nat} {R : List Int} (h : RefG g n R) (hg : ∀ x, 0 ≤ g x) (x : Nat) (hx : x < n) : rd R (x : Int) ≥ 0 ↔ 0 < g x := by
  by_cases e : g x = 0
  · rw [h.no x hx e, e]; omega
  · obtain ⟨y, _, _, h3, _⟩ := h.yes x hx e
    rw [h3]
    have := hg x
    constructor <;> intro <;> omega
theorem RefG.eq {g : Nat → Int} {n : Nat} {R : List Int} (h : RefG g n R) (x y : Nat) (hx : x < n) (hy : y < n) (h0 : g x ≠ 0) : rd R (x : Int) = rd R (y : Int) ↔ g x = g y := by
  obtain ⟨a, a1, a2, a3, a4, a5⟩ := h.yes x hx h0
  by_cases e : g y = 0
  · rw [h.no y hy e, a3, e]
    constructor
    · intro; omega
    · intro h; exact absurd h h0
  · obtain ⟨b, b1, b2, b3, b4, b5⟩ := h.yes y hy e
    rw [a3, b3]
    constructor
    · intro hab
      have : a = b := by omega
      rw [← a4, this, b4]
    · intro hg
      have h1 := a5 b (by rw [b4, hg])
      have h2 := b5 a (by rw [a4, hg])
      omega
theorem rTogether {g : Nat → Int} {n : Nat} {R : List Int} (h : RefG g n R) (hg : ∀ x, 0 ≤ g x) (near a b : Int) (ha : 0 ≤ a ∧ a < n) (hb : 0 ≤ b ∧ b < n) :
    helioscoperef01_Together.f near R a b = some (decide (0 < g a.toNat) && g a.toNat == g b.toNat) := by
  obtain ⟨x, rfl⟩ : ∃ x : Nat, a = x := ⟨a.toNat, by omega⟩
  obtain ⟨y, rfl⟩ : ∃ y : Nat, b = y := ⟨b.toNat, by omega⟩
  have hl := h.len
  unfold helioscoperef01_Together.f
  simp only [Int.toNat_natCast]
  rw [if_pos (by omega), if_pos (by omega)]
  have h1 := h.ge hg x (by omega)
  by_cases hx : 0 < g x
  · rw [if_pos (h1.2 hx), if_pos (by omega), if_pos (by omega)]
    have h2 := h.eq x y (by omega) (by omega) (by omega)
    congr 1
    rw [decide_eq_true hx, Bool.true_and, Bool.eq_iff_iff, beq_iff_eq, beq_iff_eq]
    exact h2
  · rw [if_neg (fun x => hx (h1.1 x)), decide_eq_false hx]; rfl

def soR (D : Dat) (but : List Int) (g : Nat → Int) (k : Nat) : Bool := (List.range k).all fun i => hasB but i || sayB g (rd_T52 D.told i)
theorem soR_succ (D : Dat) (but : List Int) (g : Nat → Int) (k : Nat) : soR D but g (k + 1) = (soR D but g k && (hasB but k || sayB g (rd_T52 D.told k))) := by
  simp [soR, List.range_succ]
theorem G_nonneg {D : Dat} (hV : Valid D) (near : Int) (set : Nat) (x : Nat) : 0 ≤ G D near set x := ((G_spec D near set hV.n7).low x).1

theorem rd_T57_at (xs : List S57) (k : Nat) (hk : k < xs.length) : rd_T57 xs (k : Int) = xs[k] := by simp [rd_T57, hk]

theorem rT1 {D : Dat} (hV : Valid D) (but : List Int) (hb : but.length ≤ 1000) (X : List (Int × Nat)) (hX : X.length ≤ 2000) (i : Nat) (hi : i < X.length) (acc : List S57) (ha : acc.length ≤ 2000) (res : List S57)
    (h : Ev (fun f => helioscoperef01_Truths.l0 f but (X.map (toR D)) (if soR D but (G D X[i].1 X[i].2) D.told.length = true then acc ++ [toR D X[i]] else acc) ((i + 1 : Nat) : Int) D.nm D.rad D.lo D.hi D.spots D.told) res) (d : Nat) :
    ∀ (k : Nat), k + d = D.told.length → Ev (fun f => helioscoperef01_Truths.l1 f but (X.map (toR D)) acc (i : Int) (soR D but (G D X[i].1 X[i].2) k) (k : Int) D.nm D.rad D.lo D.hi D.spots D.told) res := by
  have hx : rd_T57 (X.map (toR D)) (i : Int) = ⟨X[i].1, RG D X[i].1 X[i].2⟩ := by
    rw [rd_T57_at _ i (by simpa using hi), List.getElem_map]; rfl
  have hR := RG_ref hV X[i].1 X[i].2
  have hG := G_nonneg hV X[i].1 X[i].2
  rw [show toR D X[i] = ⟨X[i].1, RG D X[i].1 X[i].2⟩ from rfl] at h
  generalize RG D X[i].1 X[i].2 = R at *
  generalize G D X[i].1 X[i].2 = g at *
  induction d with
  | zero =>
    intro k hd
    obtain rfl : k = D.told.length := by omega
    refine Ev.step (fun f => ?_) h
    simp only [helioscoperef01_Truths.l1, hx]
    rw [if_neg (by omega)]
    by_cases hs : soR D but g D.told.length = true
    · rw [if_pos hs, if_pos hs, if_pos (by omega), if_pos (by rw [List.length_map]; omega), if_pos (by omega), wrapN (by omega)]
    · rw [if_neg hs, if_neg hs, wrapN (by omega)]
  | succ d ih =>
    intro k hd
    have ht4 := hV.t4
    have hk : k < D.told.length := by omega
    have hab := hV.ab k hk
    have ih' := ih (k + 1) (by omega)
    rw [soR_succ] at ih'
    by_cases hs : soR D but g k = true
    · rw [hs, Bool.true_and] at ih'
      rw [hs]
      refine Ev.step (f := fun f => (helioscoperef01_Has.f f but (k : Int)).bind fun t => helioscoperef01_Truths.l1 f but (X.map (toR D)) acc (i : Int) (t || sayB g (rd_T52 D.told k)) ((k + 1 : Nat) : Int) D.nm D.rad D.lo D.hi D.spots D.told) (fun f => ?_)
        (Ev.bind (f := fun f t => helioscoperef01_Truths.l1 f but (X.map (toR D)) acc (i : Int) (t || sayB g (rd_T52 D.told k)) ((k + 1 : Nat) : Int) D.nm D.rad D.lo D.hi D.spots D.told) (rHas but hb k) ih')
      simp only [helioscoperef01_Truths.l1, hx]
      rw [if_pos (by omega), if_pos (by omega), if_pos True.intro]
      refine congrArg (Option.bind _) (funext fun t => ?_)
      rw [wrapN (by omega)]
      cases t
      · rw [if_neg (by decide), if_pos (by omega), if_pos (by rw [List.length_map]; omega), rTogether hR hG _ _ _ ⟨hab.1, hab.2.1⟩ ⟨hab.2.2.1, hab.2.2.2.1⟩]
        rfl
      · rw [if_pos rfl]; rfl
    · have hs' : soR D but g k = false := by simpa using hs
      rw [hs', Bool.false_and] at ih'
      rw [hs']
      refine Ev.step (fun f => ?_) ih'
      simp only [helioscoperef01_Truths.l1, hx]
      rw [if_pos (by omega), if_pos (by omega), wrapN (by omega)]
      rfl

def truthsN (D : Dat) (but : List Int) : List (Int × Nat) := (allN D).filter fun x => soR D but (G D x.1 x.2) D.told.length
theorem allN_len {D : Dat} (hV : Valid D) : (allN D).length ≤ 1664 := by
  have h1 := hV.lo
  have h2 := hV.hi
  have h3 := hV.le
  have := allUp_len hV (D.hi - D.lo + 1).toNat
  unfold allN
  omega
theorem rT0 {D : Dat} (hV : Valid D) (but : List Int) (hb : but.length ≤ 1000) (d : Nat) : ∀ (i : Nat), i + d = (allN D).length →
    Ev (fun f => helioscoperef01_Truths.l0 f but ((allN D).map (toR D)) ((((allN D).take i).filter fun x => soR D but (G D x.1 x.2) D.told.length).map (toR D)) (i : Int) D.nm D.rad D.lo D.hi D.spots D.told) ((truthsN D but).map (toR D)) := by
  have hX := allN_len hV
  induction d with
  | zero =>
    intro i hd
    rw [List.take_of_length_le (by omega)]
    refine Ev.step (f := fun _ => some ((truthsN D but).map (toR D))) (fun f => ?_) (Ev.now _)
    simp only [helioscoperef01_Truths.l0]
    rw [if_neg (by rw [List.length_map]; omega)]; rfl
  | succ d ih =>
    intro i hd
    have hi : i < (allN D).length := by omega
    have ih' := ih (i + 1) (by omega)
    have hl : ((((allN D).take i).filter fun x => soR D but (G D x.1 x.2) D.told.length).map (toR D)).length ≤ 2000 := by
      rw [List.length_map]
      have := List.length_filter_le (fun x : Int × Nat => soR D but (G D x.1 x.2) D.told.length) ((allN D).take i)
      rw [List.length_take] at this
      omega
    have hh := rT1 hV but hb (allN D) (by omega) i hi _ hl ((truthsN D but).map (toR D)) (by
      rw [List.take_add_one, List.getElem?_eq_getElem hi, List.filter_append, List.map_append] at ih'
      have e : ((Option.toList (some (allN D)[i])).filter fun x => soR D but (G D x.1 x.2) D.told.length).map (toR D) = if soR D but (G D (allN D)[i].1 (allN D)[i].2) D.told.length = true then [toR D (allN D)[i]] else [] := by
        simp only [Option.toList_some, List.filter_cons, List.filter_nil]
        split <;> simp
      rw [e] at ih'
      by_cases hs : soR D but (G D (allN D)[i].1 (allN D)[i].2) D.told.length = true
      · rw [if_pos hs] at ih' ⊢; exact ih'
      · rw [if_neg hs, List.append_nil] at ih'; rw [if_neg hs]; exact ih') D.told.length 0 (by omega)
    refine Ev.step (fun f => ?_) hh
    simp only [helioscoperef01_Truths.l0]
    rw [if_pos (by rw [List.length_map]; omega)]; rfl
theorem rTruths {D : Dat} (hV : Valid D) (but : List Int) (hb : but.length ≤ 1000) : Ev (fun f => helioscoperef01_Truths.f f D.nm D.rad D.lo D.hi D.spots D.told but) ((truthsN D but).map (toR D)) := by
  unfold helioscoperef01_Truths.f
  exact Ev.bind (rAll hV) (rT0 hV but hb (allN D).length 0 (by omega))

theorem perm_flat {α β : Type} {f g : α → List β} : ∀ {l : List α}, (∀ a ∈ l, (f a).Perm (g a)) → (l.flatMap f).Perm (l.flatMap g)
  | [], _ => List.Perm.refl _
  | a :: l, h => by
    rw [List.flatMap_cons, List.flatMap_cons]
    exact (h a (List.mem_cons_self ..)).append (perm_flat fun b hb => h b (List.mem_cons_of_mem _ hb))
theorem truths_perm (D : Dat) (but : List Int) (bits : Nat) (hb : ∀ i, i < D.told.length → hasB but i = bits.testBit i) : (truthsN D but).Perm (truthsL D bits) := by
  unfold truthsN allN allUp truthsL nearsTo
  rw [List.filter_flatMap]
  refine perm_flat fun i _ => ?_
  unfold setsTo
  rw [List.filter_map]
  refine List.Perm.map _ ?_
  refine ((setsN_perm D D.spots.length).filter _).trans ?_
  rw [List.filter_filter]
  refine List.Perm.of_eq (List.filter_congr fun s hs => ?_)
  have hlt := List.mem_range.1 hs
  unfold isTruth
  rw [okSet_upto D s hlt, Bool.and_comm]
  congr 1
  unfold soB soTo
  simp only [Function.comp, soR]
  rw [Bool.eq_iff_iff, List.all_eq_true, List.all_eq_true]
  constructor <;> intro h i hi <;> have := h i hi <;> have hil := List.mem_range.1 hi
  · rw [hb i hil] at this; exact this
  · rw [hb i hil]; exact this
theorem truths_perm0 (D : Dat) : (truthsN D []).Perm (truthsL D 0) := truths_perm D [] 0 fun i _ => by simp [hasB]

structure Fits (D : Dat) : Prop where
  nm : D.nm.size ≤ 9223372036854775807
  s : D.spots.length ≤ 9223372036854775807
  t : D.told.length ≤ 9223372036854775807
theorem Arg.fits {w : World} {D : Dat} {A4 : Option Addr} {c4 : Nat} {A5 : Option Addr} {c5 : Nat} (h : Arg w D A4 c4 A5 c5) : Fits D := ⟨h.nm, h.s.2.1, h.t.2.1⟩

end Go.Proofs.Ytemeapfnfegkiaa.D
end
section
/- Package disk: the reference's Is and One answer what the program's do. -/
namespace Go.Proofs.Ytemeapfnfegkiaa.D
open Go Go.RowKit Go.Proofs.YtemeapfnfegkiaaK Go.Proofs.YtemeapfnfegkiaaW.PrintWords Go.Proofs.YtemeapfnfegkiaaW.PrintLast Go.Proofs.YtemeapfnfegkiaaW.PrintMore Go.Proofs.Ytemeapfnfegkiaa.PR
set_option linter.unusedVariables false
set_option linter.unusedSimpArgs false

theorem cnt_perm (D : Dat) (Q : (Nat → Int) → Bool) : ((truthsN D []).countP fun x => Q (G D x.1 x.2)) = cnt D Q (truthsL D 0) := (truths_perm0 D).countP_eq _
theorem truthsN_len {D : Dat} (hV : Valid D) (but : List Int) : (truthsN D but).length ≤ 1664 :=
  Nat.le_trans (List.length_filter_le _ _) (allN_len hV)
theorem rd_toR {D : Dat} (X : List (Int × Nat)) (i : Nat) (hi : i < X.length) : rd_T57 (X.map (toR D)) (i : Int) = ⟨X[i].1, RG D X[i].1 X[i].2⟩ := by
  rw [rd_T57_at _ i (by simpa using hi), List.getElem_map]; rfl

theorem rones0 {D : Dat} (hV : Valid D) (a b : Nat) (ha : a < D.spots.length) (hb : b < D.spots.length) (X : List (Int × Nat)) (hX : X.length ≤ 2000) (d : Nat) : ∀ (i : Nat), i + d = X.length →
    Ev (fun f => helioscoperef01_ones.l0 f (X.map (toR D)) (a : Int) (b : Int) (((X.take i).countP fun x => oneQ a b (G D x.1 x.2) : Nat) : Int) (i : Int)) ((X.countP fun x => oneQ a b (G D x.1 x.2) : Nat) : Int) := by
  induction d with
  | zero =>
    intro i hi
    rw [List.take_of_length_le (by omega)]
    refine Ev.step (f := fun _ => some ((X.countP fun x => oneQ a b (G D x.1 x.2) : Nat) : Int)) (fun f => ?_) (Ev.now _)
    simp only [helioscoperef01_ones.l0, List.length_map]
    rw [if_neg (by omega)]
  | succ d ih =>
    intro i hi
    have hi' : i < X.length := by omega
    have ih' := ih (i + 1) (by omega)
    have hc := List.countP_le_length (p := fun x : Int × Nat => oneQ a b (G D x.1 x.2)) (l := X.take i)
    rw [List.length_take] at hc
    rw [List.take_add_one, List.getElem?_eq_getElem hi', List.countP_append] at ih'
    simp only [Option.toList_some, List.countP_singleton] at ih'
    have hR := RG_ref hV X[i].1 X[i].2
    have hT := rTogether hR (G_nonneg hV _ _) X[i].1 (a : Int) (b : Int) (by omega) (by omega)
    have hx := rd_toR (D := D) X i hi'
    generalize ((X.take i).countP fun x => oneQ a b (G D x.1 x.2)) = c at *
    generalize RG D X[i].1 X[i].2 = R at *
    rw [Int.toNat_natCast, Int.toNat_natCast] at hT
    have hq : oneQ a b (G D X[i].1 X[i].2) = (decide (0 < G D X[i].1 X[i].2 a) && G D X[i].1 X[i].2 a == G D X[i].1 X[i].2 b) := rfl
    rw [← hq] at hT
    generalize oneQ a b (G D X[i].1 X[i].2) = q at hT ih'
    refine Ev.step (f := fun f => if q = true then helioscoperef01_ones.l0 f (X.map (toR D)) (a : Int) (b : Int) (wrap64 ((c : Int) + 1)) ((i + 1 : Nat) : Int) else helioscoperef01_ones.l0 f (X.map (toR D)) (a : Int) (b : Int) (c : Int) ((i + 1 : Nat) : Int)) (fun f => ?_) ?_
    · simp only [helioscoperef01_ones.l0, List.length_map, hx, hT, Option.bind_some]
      rw [if_pos (by omega), if_pos (by omega), wrapN (n := i) (by omega)]
    · cases q
      · exact ih'
      · simp only [if_true] at ih' ⊢
        rw [wrapN (by omega)]
        exact ih'
theorem rones {D : Dat} (hV : Valid D) (a b : Nat) (ha : a < D.spots.length) (hb : b < D.spots.length) (X : List (Int × Nat)) (hX : X.length ≤ 2000) :
    Ev (fun f => helioscoperef01_ones.f f (X.map (toR D)) (a : Int) (b : Int)) ((X.countP fun x => oneQ a b (G D x.1 x.2) : Nat) : Int) :=
  rones0 hV a b ha hb X hX X.length 0 (by omega)

end Go.Proofs.Ytemeapfnfegkiaa.D
end
section
/- Package disk: how many groups and spots there are; the least and the greatest of what truths say. -/
namespace Go.Proofs.Ytemeapfnfegkiaa.D
open Go Go.RowKit Go.Proofs.YtemeapfnfegkiaaK Go.Proofs.YtemeapfnfegkiaaW.PrintWords Go.Proofs.YtemeapfnfegkiaaW.PrintLast Go.Proofs.YtemeapfnfegkiaaW.PrintMore Go.Proofs.Ytemeapfnfegkiaa.PR
set_option linter.unusedVariables false
set_option linter.unusedSimpArgs false

theorem enterE_none (D : Dat) : enterE D [] = if (checkF D).2.2 ≠ 0 then (checkF D).2.2 else if (truthsL D 0).isEmpty = true then 8 else 0 := by
  unfold enterE
  have h1 : outB 0 ((D.spots.length : Int) - 1) [] = false := rfl
  simp [h1]

theorem mx_eq (a b : Int) : mx a b = max b a := by unfold mx; rw [Int.max_def]; split <;> split <;> omega

end Go.Proofs.Ytemeapfnfegkiaa.D
end
section
namespace Go.Proofs.Ytemeapfnfegkiaa.PR
open Go.RowKit Go.Proofs.YtemeapfnfegkiaaW.PrintWords Go.Proofs.YtemeapfnfegkiaaW.PrintLast Go.Proofs.YtemeapfnfegkiaaW.PrintMore
attribute [local go_sem] max2_int min2_int max_two min_two max_three min_three max_four min_four   -- for this text's walks alone
set_option linter.unusedVariables false
set_option linter.unusedSimpArgs false


def helioscoperef01_Left.f (k : Nat) (l0 : List (S57)) (a1 : Int) (a2 : Int) : Option (Int) := (helioscoperef01_ones.f k l0 a1 a2).bind fun t303 => (some (mx t303 (wrap64 ((l0.length : Int) - t303))))
set_option maxHeartbeats 8000000 in
set_option maxRecDepth 100000 in
theorem helioscoperef01_Left.calls (k : Nat) (A0 : Option Addr) (c0 : Nat) (l0 : List (S57)) (a1 : Int) (a2 : Int) (r : Int) (w : World) (hr0 : Kd.C k57 w A0 l0.length l0) (hc0 : l0.length ≤ c0) (h : helioscoperef01_Left.f k l0 a1 a2 = some r) :
  Calls Try.prog 53 #[.slice A0 l0.length c0, .int .i64 a1, .int .i64 a2] w fun e w' => e = .returned (.int .i64 r) ∧ Below w.heap.size w w' := by
 have HR0 := Aside0.mk hr0
 have HC0 := Aside0.mk hc0
 clear hr0 hc0
 have HB := Aside0.mk (Below.refl w.heap.size w)
 have H : ((helioscoperef01_ones.f k l0 a1 a2).bind fun t303 => (some (mx t303 (wrap64 ((l0.length : Int) - t303))))) = some r := h
 clear h
 replace H := Option.bind_eq_some_iff.mp H
 obtain ⟨t303, A40, H⟩ := H
 replace H : (some (mx t303 (wrap64 ((l0.length : Int) - t303)))) = some r := H
 have A4 := Aside0.mk A40
 clear A40
 obtain ⟨ji5, hji5⟩ : ∃ j_ : Int, (mx t303 (wrap64 ((l0.length : Int) - t303))) = j_ := ⟨_, rfl⟩
 replace H : (some ji5) = some r := by first | (rw [hji5] at H; exact H) | (simp only [hji5] at H ⊢; exact H)
 (try rw [hji5] at A4)
 have hji5_ : (if t303 < (wrap64 ((l0.length : Int) - t303)) then (wrap64 ((l0.length : Int) - t303)) else t303) = ji5 := hji5
 obtain rfl := Option.some.inj H
 go_enter Try.func53, Try.ntmps53
 go_wp2_with (first | ((with_reducible refine gate_callee (f := 98) rfl ?_); refine goesL_ (some 11) rfl rfl Try.func98 (by kernel_rfl) rfl #[.slice A0 l0.length c0, .int .i64 a1, .int .i64 a2] rfl (by (try simp only [List.map_toArray, List.map_cons, List.map_nil]); first | done | rfl | (simp only [List.length_drop, List.length_take]; rfl)) ?_; (with_reducible refine (helioscoperef01_ones.calls k _ _ l0 a1 a2 t303 _ ?side1 ?side2 A4.out).mono ?_); (case side1 => repeat (first | exact HR0.out | (with_reducible refine Kd.C_alloc ?_ _) | (with_reducible refine Kd.C_drewN ?_ _) | (with_reducible refine Kd.C_drew ?_))); (case side2 => exact HC0.out); rintro e w6 ⟨rfl, hb⟩; refine ⟨_, rfl, ?_⟩; have n0_ := Aside0.mk (below_step (by repeat (first | (with_reducible first | exact HB.out | apply below_alloc | apply pw_below_drewN | apply below_drew1) | exact HB.out)) hb); clear HB; have HB := n0_; clear n0_; (try clear hb); (try clear hb2); (try clear hk); (try clear hi)))
 go_ret
 exact ⟨by first | rfl | (simp [errW_none, errW_some] <;> rfl) | (simp only [← hji5]; first | rfl | (simp [errW_none, errW_some] <;> rfl)) | (simp [*, errW_none, errW_some] <;> rfl), by repeat (first | (with_reducible first | exact HB.out | apply below_alloc | apply pw_below_drewN | apply below_drew1) | exact HB.out)⟩

end Go.Proofs.Ytemeapfnfegkiaa.PR
end
section
/- Package disk: the reference's Ask answers what the program's does. -/
namespace Go.Proofs.Ytemeapfnfegkiaa.D
open Go Go.RowKit Go.Proofs.YtemeapfnfegkiaaK Go.Proofs.YtemeapfnfegkiaaW.PrintWords Go.Proofs.YtemeapfnfegkiaaW.PrintLast Go.Proofs.YtemeapfnfegkiaaW.PrintMore Go.Proofs.Ytemeapfnfegkiaa.PR
set_option linter.unusedVariables false
set_option linter.unusedSimpArgs false

def yesN (D : Dat) (i k : Nat) : Nat := cnt D (oneQ i k) (truthsL D 0)
def allL (D : Dat) : Nat := (truthsL D 0).length
theorem yesN_le (D : Dat) (i k : Nat) : yesN D i k ≤ allL D := List.countP_le_length
theorem rLeft {D : Dat} (hV : Valid D) (i k : Nat) (hi : i < D.spots.length) (hk : k < D.spots.length) :
    Ev (fun f => helioscoperef01_Left.f f ((truthsN D []).map (toR D)) (i : Int) (k : Int)) (max (yesN D i k : Int) ((allL D : Int) - yesN D i k)) := by
  unfold helioscoperef01_Left.f
  have hX := truthsN_len hV []
  have hl := (truths_perm0 D).length_eq
  have hy := yesN_le D i k
  have e : (truthsN D []).countP (fun x => oneQ i k (G D x.1 x.2)) = yesN D i k := cnt_perm D (oneQ i k)
  have := rones hV i k hi hk (truthsN D []) (by omega)
  rw [e] at this
  refine Ev.bind this ?_
  simp only [List.length_map]
  have e2 : (truthsN D []).length = allL D := hl
  rw [e2]
  have hal : allL D ≤ 1664 := by rw [← e2]; exact hX
  rw [wrap_in (by omega) (by omega), mx_eq, Int.max_comm]
  exact Ev.now _

end Go.Proofs.Ytemeapfnfegkiaa.D
end
section
namespace Go.Proofs.Ytemeapfnfegkiaa.PR
open Go.RowKit Go.Proofs.YtemeapfnfegkiaaW.PrintWords Go.Proofs.YtemeapfnfegkiaaW.PrintLast Go.Proofs.YtemeapfnfegkiaaW.PrintMore
attribute [local go_sem] max2_int min2_int max_two min_two max_three min_three max_four min_four   -- for this text's walks alone
set_option linter.unusedVariables false
set_option linter.unusedSimpArgs false

mutual
def helioscoperef01_Less.l0 : Nat → List Int → List Int → Int → Option (Bool)
 | 0, _, _, _ => none
 | k + 1, x0, x1, x5 => if x5 < (x0.length : Int) then (helioscoperef01_Less.j1 k x0 x1 x5 (decide (x5 < (x1.length : Int)))) else (helioscoperef01_Less.j1 k x0 x1 x5 false)
def helioscoperef01_Less.j1 : Nat → List Int → List Int → Int → Bool → Option (Bool)
 | 0, _, _, _, _ => none
 | k + 1, x0, x1, x5, x15 => if x15 = true then (if 0 ≤ x5 then (if x5 < (x0.length : Int) then (if x5 < (x1.length : Int) then (if (rd x0 x5) = (rd x1 x5) then (helioscoperef01_Less.l0 k x0 x1 (wrap64 (x5 + 1))) else (some (decide ((rd x0 x5) < (rd x1 x5))))) else (none)) else (none)) else (none)) else (some (decide ((x0.length : Int) < (x1.length : Int))))
end
def helioscoperef01_Less.f (k : Nat) (l0 : List Int) (l1 : List Int) : Option (Bool) := helioscoperef01_Less.l0 k l0 l1 0
set_option maxHeartbeats 8000000 in
set_option maxRecDepth 100000 in
theorem helioscoperef01_Less.calls (k : Nat) (A0 : Option Addr) (c0 : Nat) (l0 : List Int) (A1 : Option Addr) (c1 : Nat) (l1 : List Int) (r : Bool) (w : World) (hr0 : Kd.C (Kd.int .i64) w A0 l0.length l0) (hc0 : l0.length ≤ c0) (hr1 : Kd.C (Kd.int .i64) w A1 l1.length l1) (hc1 : l1.length ≤ c1) (h : helioscoperef01_Less.f k l0 l1 = some r) :
  Calls Try.prog 55 #[.slice A0 l0.length c0, .slice A1 l1.length c1] w fun e w' => e = .returned (.bool r) ∧ Drawn0 w w' := by
 have HR0 := Aside0.mk hr0
 have HC0 := Aside0.mk hc0
 clear hr0 hc0
 have HR1 := Aside0.mk hr1
 have HC1 := Aside0.mk hc1
 clear hr1 hc1
 have H : (helioscoperef01_Less.l0 k l0 l1 0) = some r := h
 clear h
 have H' := Aside0.mk H
 clear H
 go_enter Try.func55, Try.ntmps55
 go_wp2
 repeat (go_quiet (fail); try go_wp2)
 go_loopg [5] k (fun kq v5 w' => ∃ (x5_1 : Int), v5 = .int .i64 x5_1 ∧ Aside0 (helioscoperef01_Less.l0 kq l0 l1 x5_1 = some r) ∧ Aside0 (kq ≤ k) ∧ Drawn0 w w')
 case atStart => exact ⟨(0), (by first | rfl | (simp; done) | (simp [*]; done)), H', ⟨Nat.le_refl _⟩, by repeat (first | exact Drawn0.refl _ | apply Drawn0.step)⟩
 case round =>
  clear H'
  try clear c1
  try clear p2
  obtain ⟨x5_1, rfl, HA, HK1, ⟨m1, rfl⟩⟩ := hrel
  cases gk with
  | zero => exact absurd HA.out (by simp [helioscoperef01_Less.l0])
  | succ k1 =>
   have H := HA.out
   clear HA
   simp only [helioscoperef01_Less.l0] at H
   have HC3 := Aside0.mk H
   clear H
   go_upto_region 2 with (fail)
   repeat (go_quiet (fail); go_upto_region 2 with (fail))
   go_cut [15] (fun v15 wc => ∃ (kq : Nat) (x15_2 : Bool), v15 = .bool x15_2 ∧ Aside0 (helioscoperef01_Less.j1 kq l0 l1 x5_1 x15_2 = some r) ∧ Aside0 (kq ≤ k1) ∧ Drawn0 w wc)
   case first =>
    have H := HC3.out
    clear HC3
    by_cases c4 : x5_1 < (l0.length : Int)
    ·
     rw [if_pos c4] at H
     have c4b0 : decide (x5_1 < (l0.length : Int)) = true := decide_eq_true c4
     clear c4
     (first | rw [c4b0] | (simp only [i64_w, i32_w]; rw [c4b0]) | skip)
     have H' := Aside0.mk H
     clear H
     go_wp2
     repeat (go_quiet (fail); try go_wp2)
     go_meet
     case rel => exact ⟨_, (decide (x5_1 < (l1.length : Int))), (by first | rfl | (simp; done) | (simp [*]; done)), H', ⟨by have := HK1.out; first | omega | exact Nat.le_refl _⟩, by repeat (first | exact Drawn0.refl _ | apply Drawn0.step)⟩
    ·
     rw [if_neg c4] at H
     have c4b0 : decide (x5_1 < (l0.length : Int)) = false := decide_eq_false c4
     clear c4
     (first | rw [c4b0] | (simp only [i64_w, i32_w]; rw [c4b0]) | skip)
     have H' := Aside0.mk H
     clear H
     go_wp2
     repeat (go_quiet (fail); try go_wp2)
     go_meet
     case rel => exact ⟨_, (false), (by first | rfl | (simp; done) | (simp [*]; done)), H', ⟨by have := HK1.out; first | omega | exact Nat.le_refl _⟩, by repeat (first | exact Drawn0.refl _ | apply Drawn0.step)⟩
   case rest =>
    clear HC3
    try clear c1
    try clear p2
    try clear c4
    try clear c4b0
    try clear p2
    obtain ⟨kq, x15_2, rfl, HA, HJ2, ⟨mc2, rfl⟩⟩ := hcut
    cases kq with
    | zero => exact absurd HA.out (by simp [helioscoperef01_Less.j1])
    | succ kj2 =>
     have H := HA.out
     clear HA
     simp only [helioscoperef01_Less.j1] at H
     by_cases c5 : x15_2 = true
     ·
      subst c5
      have H1 : (if 0 ≤ x5_1 then (if x5_1 < (l0.length : Int) then (if x5_1 < (l1.length : Int) then (if (rd l0 x5_1) = (rd l1 x5_1) then (helioscoperef01_Less.l0 kj2 l0 l1 (wrap64 (x5_1 + 1))) else (some (decide ((rd l0 x5_1) < (rd l1 x5_1))))) else (none)) else (none)) else (none)) = some r := by rw [if_pos rfl] at H; exact H
      clear H
      have H := H1
      clear H1
      by_cases c6 : 0 ≤ x5_1
      ·
       rw [if_pos c6] at H
       have c6b0 : decide (0 ≤ x5_1) = true := decide_eq_true c6
       clear c6
       by_cases c7 : x5_1 < (l0.length : Int)
       ·
        rw [if_pos c7] at H
        have c7b0 : decide (x5_1 < (l0.length : Int)) = true := decide_eq_true c7
        clear c7
        by_cases c8 : x5_1 < (l1.length : Int)
        ·
         rw [if_pos c8] at H
         have c8b0 : decide (x5_1 < (l1.length : Int)) = true := decide_eq_true c8
         clear c8
         by_cases c9 : (rd l0 x5_1) = (rd l1 x5_1)
         ·
          rw [if_pos c9] at H
          have c9b0 : ((rd l0 x5_1) == (rd l1 x5_1)) = true := beq_iff_eq.mpr c9
          have c9b1 : ((rd l0 x5_1) != (rd l1 x5_1)) = false := bne_eq_false_iff_eq.mpr c9
          clear c9
          have H' := Aside0.mk H
          clear H
          have p355 : 0 ≤ (x5_1 : Int) := of_decide_eq_true (by first | (with_reducible assumption) | assumption)
          have q355 : x5_1 < (l0.length : Int) := of_decide_eq_true (by first | (with_reducible assumption) | assumption)
          obtain ⟨ad355, e355, hx355_0⟩ := Kd.at_int HR0.out x5_1 p355 q355
          cases e355
          replace p355 := eq_true p355
          replace q355 := eq_true q355
          have p356 : 0 ≤ (x5_1 : Int) := of_decide_eq_true (by first | (with_reducible assumption) | assumption)
          have q356 : x5_1 < (l1.length : Int) := of_decide_eq_true (by first | (with_reducible assumption) | assumption)
          obtain ⟨ad356, e356, hx356_0⟩ := Kd.at_int HR1.out x5_1 p356 q356
          cases e356
          replace p356 := eq_true p356
          replace q356 := eq_true q356
          go_wp2
          repeat (go_quiet (fail); try go_wp2)
          go_roundg kj2
          case measure => have := HK1.out; have := HJ2.out; omega
          case rel => exact ⟨(wrap64 (x5_1 + 1)), (by first | rfl | (simp; done) | (simp [*]; done)), H', ⟨by have := HK1.out; have := HJ2.out; omega⟩, by repeat (first | exact Drawn0.refl _ | apply Drawn0.step)⟩
         ·
          rw [if_neg c9] at H
          have c9b0 : ((rd l0 x5_1) == (rd l1 x5_1)) = false := beq_eq_false_iff_ne.mpr c9
          have c9b1 : ((rd l0 x5_1) != (rd l1 x5_1)) = true := bne_iff_ne.mpr c9
          obtain rfl := Option.some.inj H
          have p355 : 0 ≤ (x5_1 : Int) := of_decide_eq_true (by first | (with_reducible assumption) | assumption)
          have q355 : x5_1 < (l0.length : Int) := of_decide_eq_true (by first | (with_reducible assumption) | assumption)
          obtain ⟨ad355, e355, hx355_0⟩ := Kd.at_int HR0.out x5_1 p355 q355
          cases e355
          replace p355 := eq_true p355
          replace q355 := eq_true q355
          have p356 : 0 ≤ (x5_1 : Int) := of_decide_eq_true (by first | (with_reducible assumption) | assumption)
          have q356 : x5_1 < (l1.length : Int) := of_decide_eq_true (by first | (with_reducible assumption) | assumption)
          obtain ⟨ad356, e356, hx356_0⟩ := Kd.at_int HR1.out x5_1 p356 q356
          cases e356
          replace p356 := eq_true p356
          replace q356 := eq_true q356
          have p357 : 0 ≤ (x5_1 : Int) := of_decide_eq_true (by first | (with_reducible assumption) | assumption)
          have q357 : x5_1 < (l0.length : Int) := of_decide_eq_true (by first | (with_reducible assumption) | assumption)
          obtain ⟨ad357, e357, hx357_0⟩ := Kd.at_int HR0.out x5_1 p357 q357
          obtain rfl : ad355 = ad357 := (by injection e357)
          replace p357 := eq_true p357
          replace q357 := eq_true q357
          have p358 : 0 ≤ (x5_1 : Int) := of_decide_eq_true (by first | (with_reducible assumption) | assumption)
          have q358 : x5_1 < (l1.length : Int) := of_decide_eq_true (by first | (with_reducible assumption) | assumption)
          obtain ⟨ad358, e358, hx358_0⟩ := Kd.at_int HR1.out x5_1 p358 q358
          obtain rfl : ad356 = ad358 := (by injection e358)
          replace p358 := eq_true p358
          replace q358 := eq_true q358
          go_wp2
          repeat (go_quiet (fail); try go_wp2)
          go_ret
          exact ⟨by first | rfl | (simp; done) | (simp [*]; done), by repeat (first | exact Drawn0.refl _ | apply Drawn0.step)⟩
        ·
         rw [if_neg c8] at H
         exact absurd H (by simp)
       ·
        rw [if_neg c7] at H
        exact absurd H (by simp)
      ·
       rw [if_neg c6] at H
       exact absurd H (by simp)
     ·
      replace c5 := Bool.eq_false_iff.mpr c5
      subst c5
      have H1 : (some (decide ((l0.length : Int) < (l1.length : Int)))) = some r := by rw [if_neg (show ¬ (false = true) by decide)] at H; exact H
      clear H
      have H := H1
      clear H1
      obtain rfl := Option.some.inj H
      go_wp2
      repeat (go_quiet (fail); try go_wp2)
      go_ret
      exact ⟨by first | rfl | (simp; done) | (simp [*]; done), by repeat (first | exact Drawn0.refl _ | apply Drawn0.step)⟩

def helioscopelaw01_valid.f (k : Nat) (a0_0 : ByteArray) (a0_1 : Int) (a0_2 : Int) (a0_3 : Int) (l0_4 : List (S80)) (l0_5 : List (S52)) : Option (Bool) := (helioscoperef01_Check.f k a0_0 a0_1 a0_2 a0_3 l0_4 l0_5).bind fun bt361 => (some (bt361.2.2 == 0))
set_option maxHeartbeats 8000000 in
set_option maxRecDepth 100000 in
theorem helioscopelaw01_valid.calls (k : Nat) (a0_0 : ByteArray) (a0_1 : Int) (a0_2 : Int) (a0_3 : Int) (A0_4 : Option Addr) (c0_4 : Nat) (l0_4 : List (S80)) (A0_5 : Option Addr) (c0_5 : Nat) (l0_5 : List (S52)) (r : Bool) (w : World) (hr0_4 : Kd.C k80 w A0_4 l0_4.length l0_4) (hc0_4 : l0_4.length ≤ c0_4) (hr0_5 : Kd.C k52 w A0_5 l0_5.length l0_5) (hc0_5 : l0_5.length ≤ c0_5) (h : helioscopelaw01_valid.f k a0_0 a0_1 a0_2 a0_3 l0_4 l0_5 = some r) :
  Calls Try.prog 41 #[.agg #[.string a0_0, .int .i64 a0_1, .int .i64 a0_2, .int .i64 a0_3, .slice A0_4 l0_4.length c0_4, .slice A0_5 l0_5.length c0_5]] w fun e w' => e = .returned (.bool r) ∧ Below w.heap.size w w' := by
 have hu27 := Try.underlying27
 have HR0_4 := Aside0.mk hr0_4
 have HC0_4 := Aside0.mk hc0_4
 clear hr0_4 hc0_4
 have HR0_5 := Aside0.mk hr0_5
 have HC0_5 := Aside0.mk hc0_5
 clear hr0_5 hc0_5
 have HB := Aside0.mk (Below.refl w.heap.size w)
 have H : ((helioscoperef01_Check.f k a0_0 a0_1 a0_2 a0_3 l0_4 l0_5).bind fun bt361 => (some (bt361.2.2 == 0))) = some r := h
 clear h
 replace H := Option.bind_eq_some_iff.mp H
 obtain ⟨⟨t361, t362, t363⟩, A20, H⟩ := H
 replace H : (some (t363 == 0)) = some r := H
 have A2 := Aside0.mk A20
 clear A20
 obtain rfl := Option.some.inj H
 go_enter Try.func41, Try.ntmps41
 go_wp2_with (first | ((with_reducible refine gate_dst (N := 1) rfl ?_); refine box_event ?hg (N := 1) ?hd (cs := #[.string a0_0, .int .i64 a0_1, .int .i64 a0_2, .int .i64 a0_3, .slice A0_4 l0_4.length c0_4, .slice A0_5 l0_5.length c0_5]) (t := 27) ?hr ?_; (case hd => rfl); (case hg => rfl); (case hr => first | (go_simp; done) | (go_simp; rfl)); intro gb360 hg w3 hbox hb; have n0_ := Aside0.mk (below_step (by repeat (first | (with_reducible first | exact HB.out | apply below_alloc | apply pw_below_drewN | apply below_drew1) | exact HB.out)) hb); have n1_ := Aside0.mk (hbox); have n2_ := Aside0.mk ((by rw [hg]; exact (below_size (by repeat (first | (with_reducible first | exact HB.out | apply below_alloc | apply pw_below_drewN | apply below_drew1) | exact HB.out))) : w.heap.size ≤ gb360)); have n3_ := Aside0.mk ((by rw [hg]; exact (below_size (by repeat (first | (with_reducible first | exact HB.out | apply below_alloc | apply pw_below_drewN | apply below_drew1) | exact HB.out))) : w.heap.size ≤ gb360)); clear HB; have HB := n0_; have BK360 := n1_; have GW360 := n2_; have GE360 := n3_; clear n0_ n1_ n2_ n3_; clear hb hbox hg; have hcz4_0 : w3.cell? ⟨gb360, 0, none⟩ = some (.string a0_0) := (blk_cell BK360.out 0).trans rfl; have hcz4_1 : w3.cell? ⟨gb360, 1, none⟩ = some (.int .i64 a0_1) := (blk_cell BK360.out 1).trans rfl; have hcz4_2 : w3.cell? ⟨gb360, 2, none⟩ = some (.int .i64 a0_2) := (blk_cell BK360.out 2).trans rfl; have hcz4_3 : w3.cell? ⟨gb360, 3, none⟩ = some (.int .i64 a0_3) := (blk_cell BK360.out 3).trans rfl; have hcz4_4 : w3.cell? ⟨gb360, 4, none⟩ = some (.slice A0_4 l0_4.length c0_4) := (blk_cell BK360.out 4).trans rfl; have hcz4_5 : w3.cell? ⟨gb360, 5, none⟩ = some (.slice A0_5 l0_5.length c0_5) := (blk_cell BK360.out 5).trans rfl; have hfz4_0 := blk_frozen BK360.out 0; have hfz4_1 := blk_frozen BK360.out 1; have hfz4_2 := blk_frozen BK360.out 2; have hfz4_3 := blk_frozen BK360.out 3; have hfz4_4 := blk_frozen BK360.out 4; have hfz4_5 := blk_frozen BK360.out 5) | ((with_reducible refine gate_callee (f := 19) rfl ?_); refine goesL_ (some 8) rfl rfl Try.func19 (by kernel_rfl) rfl #[.agg #[.string a0_0, .int .i64 a0_1, .int .i64 a0_2, .int .i64 a0_3, .slice A0_4 l0_4.length c0_4, .slice A0_5 l0_5.length c0_5]] rfl (by (try simp only [List.map_toArray, List.map_cons, List.map_nil]); first | done | rfl | (simp only [List.length_drop, List.length_take]; rfl)) ?_; (with_reducible refine (helioscoperef01_Check.calls k a0_0 a0_1 a0_2 a0_3 _ _ l0_4 _ _ l0_5 t361 t362 t363 _ ?side1 ?side2 ?side3 ?side4 A2.out).mono ?_); (case side1 => repeat (first | exact (Kd.C_below HR0_4.out HB.out) | (with_reducible refine Kd.C_alloc ?_ _) | (with_reducible refine Kd.C_drewN ?_ _) | (with_reducible refine Kd.C_drew ?_))); (case side2 => exact HC0_4.out); (case side3 => repeat (first | exact (Kd.C_below HR0_5.out HB.out) | (with_reducible refine Kd.C_alloc ?_ _) | (with_reducible refine Kd.C_drewN ?_ _) | (with_reducible refine Kd.C_drew ?_))); (case side4 => exact HC0_5.out); rintro e w5 ⟨rfl, hb⟩; refine ⟨_, rfl, ?_⟩; have n0_ := Aside0.mk (blk_below (g := gb360) (o := .cells #[.string a0_0, .int .i64 a0_1, .int .i64 a0_2, .int .i64 a0_3, .slice A0_4 l0_4.length c0_4, .slice A0_5 l0_5.length c0_5] 27 (0, 0)) (by (with_reducible repeat (first | refine blk_drewN ?_ _ | refine blk_drew ?_ | refine blk_alloc ?_ _)); exact BK360.out) hb); have n1_ := Aside0.mk (below_step (by repeat (first | (with_reducible first | exact HB.out | apply below_alloc | apply pw_below_drewN | apply below_drew1 | refine below_set ?_ GE360.out) | exact HB.out)) hb); clear BK360; clear HB; have BK360 := n0_; have HB := n1_; clear n0_ n1_; (try clear hb); (try clear hb2); (try clear hk); (try clear hi)))
 go_ret
 exact ⟨by first | rfl | (simp [errW_none, errW_some] <;> rfl) | (simp [*, errW_none, errW_some] <;> rfl), by repeat (first | (with_reducible first | exact HB.out | apply below_alloc | apply pw_below_drewN | apply below_drew1 | refine below_set ?_ GE360.out) | exact HB.out)⟩


def helioscopelaw01_some.f (k : Nat) (a0_0 : ByteArray) (a0_1 : Int) (a0_2 : Int) (a0_3 : Int) (l0_4 : List (S80)) (l0_5 : List (S52)) : Option (Bool) := (helioscopelaw01_valid.f k a0_0 a0_1 a0_2 a0_3 l0_4 l0_5).bind fun t365 => (if t365 = true then ((helioscoperef01_Truths.f k a0_0 a0_1 a0_2 a0_3 l0_4 l0_5 ([] : List Int)).bind fun t366 => (some (decide ((t366.length : Int) > 0)))) else (some false))
set_option maxHeartbeats 8000000 in
set_option maxRecDepth 100000 in
theorem helioscopelaw01_some.calls (k : Nat) (a0_0 : ByteArray) (a0_1 : Int) (a0_2 : Int) (a0_3 : Int) (A0_4 : Option Addr) (c0_4 : Nat) (l0_4 : List (S80)) (A0_5 : Option Addr) (c0_5 : Nat) (l0_5 : List (S52)) (r : Bool) (w : World) (hr0_4 : Kd.C k80 w A0_4 l0_4.length l0_4) (hc0_4 : l0_4.length ≤ c0_4) (hr0_5 : Kd.C k52 w A0_5 l0_5.length l0_5) (hc0_5 : l0_5.length ≤ c0_5) (h : helioscopelaw01_some.f k a0_0 a0_1 a0_2 a0_3 l0_4 l0_5 = some r) :
  Calls Try.prog 47 #[.agg #[.string a0_0, .int .i64 a0_1, .int .i64 a0_2, .int .i64 a0_3, .slice A0_4 l0_4.length c0_4, .slice A0_5 l0_5.length c0_5]] w fun e w' => e = .returned (.bool r) ∧ Below w.heap.size w w' := by
 have hu27 := Try.underlying27
 have HR0_4 := Aside0.mk hr0_4
 have HC0_4 := Aside0.mk hc0_4
 clear hr0_4 hc0_4
 have HR0_5 := Aside0.mk hr0_5
 have HC0_5 := Aside0.mk hc0_5
 clear hr0_5 hc0_5
 have HB := Aside0.mk (Below.refl w.heap.size w)
 have H : ((helioscopelaw01_valid.f k a0_0 a0_1 a0_2 a0_3 l0_4 l0_5).bind fun t365 => (if t365 = true then ((helioscoperef01_Truths.f k a0_0 a0_1 a0_2 a0_3 l0_4 l0_5 ([] : List Int)).bind fun t366 => (some (decide ((t366.length : Int) > 0)))) else (some false))) = some r := h
 clear h
 replace H := Option.bind_eq_some_iff.mp H
 obtain ⟨t365, A20, H⟩ := H
 replace H : (if t365 = true then ((helioscoperef01_Truths.f k a0_0 a0_1 a0_2 a0_3 l0_4 l0_5 ([] : List Int)).bind fun t366 => (some (decide ((t366.length : Int) > 0)))) else (some false)) = some r := H
 have A2 := Aside0.mk A20
 clear A20
 by_cases c3 : t365 = true
 ·
  subst c3
  have H1 : ((helioscoperef01_Truths.f k a0_0 a0_1 a0_2 a0_3 l0_4 l0_5 ([] : List Int)).bind fun t366 => (some (decide ((t366.length : Int) > 0)))) = some r := by rw [if_pos rfl] at H; exact H
  clear H
  have H := H1
  clear H1
  replace H := Option.bind_eq_some_iff.mp H
  obtain ⟨t366, A40, H⟩ := H
  replace H : (some (decide ((t366.length : Int) > 0))) = some r := H
  have A4 := Aside0.mk A40
  clear A40
  obtain rfl := Option.some.inj H
  go_enter Try.func47, Try.ntmps47
  go_wp2_with (first | ((with_reducible refine gate_dst (N := 1) rfl ?_); (try (refine gate_guard (by rfl) ?_; dsimp only)); refine box_event ?hg (N := 1) ?hd (cs := #[.string a0_0, .int .i64 a0_1, .int .i64 a0_2, .int .i64 a0_3, .slice A0_4 l0_4.length c0_4, .slice A0_5 l0_5.length c0_5]) (t := 27) ?hr ?_; (case hd => rfl); (case hg => rfl); (case hr => first | (go_simp; done) | (go_simp; rfl)); intro gb364 hg w5 hbox hb; have n0_ := Aside0.mk (below_step (by repeat (first | (with_reducible first | exact HB.out | apply below_alloc | apply pw_below_drewN | apply below_drew1) | exact HB.out)) hb); have n1_ := Aside0.mk (hbox); have n2_ := Aside0.mk ((by rw [hg]; exact (below_size (by repeat (first | (with_reducible first | exact HB.out | apply below_alloc | apply pw_below_drewN | apply below_drew1) | exact HB.out))) : w.heap.size ≤ gb364)); have n3_ := Aside0.mk ((by rw [hg]; exact (below_size (by repeat (first | (with_reducible first | exact HB.out | apply below_alloc | apply pw_below_drewN | apply below_drew1) | exact HB.out))) : w.heap.size ≤ gb364)); clear HB; have HB := n0_; have BK364 := n1_; have GW364 := n2_; have GE364 := n3_; clear n0_ n1_ n2_ n3_; clear hb hbox hg; have hcz6_0 : w5.cell? ⟨gb364, 0, none⟩ = some (.string a0_0) := (blk_cell BK364.out 0).trans rfl; have hcz6_1 : w5.cell? ⟨gb364, 1, none⟩ = some (.int .i64 a0_1) := (blk_cell BK364.out 1).trans rfl; have hcz6_2 : w5.cell? ⟨gb364, 2, none⟩ = some (.int .i64 a0_2) := (blk_cell BK364.out 2).trans rfl; have hcz6_3 : w5.cell? ⟨gb364, 3, none⟩ = some (.int .i64 a0_3) := (blk_cell BK364.out 3).trans rfl; have hcz6_4 : w5.cell? ⟨gb364, 4, none⟩ = some (.slice A0_4 l0_4.length c0_4) := (blk_cell BK364.out 4).trans rfl; have hcz6_5 : w5.cell? ⟨gb364, 5, none⟩ = some (.slice A0_5 l0_5.length c0_5) := (blk_cell BK364.out 5).trans rfl; have hfz6_0 := blk_frozen BK364.out 0; have hfz6_1 := blk_frozen BK364.out 1; have hfz6_2 := blk_frozen BK364.out 2; have hfz6_3 := blk_frozen BK364.out 3; have hfz6_4 := blk_frozen BK364.out 4; have hfz6_5 := blk_frozen BK364.out 5) | ((with_reducible refine gate_callee (f := 41) rfl ?_); refine goesL_ (some 4) rfl rfl Try.func41 (by kernel_rfl) rfl #[.agg #[.string a0_0, .int .i64 a0_1, .int .i64 a0_2, .int .i64 a0_3, .slice A0_4 l0_4.length c0_4, .slice A0_5 l0_5.length c0_5]] rfl (by (try simp only [List.map_toArray, List.map_cons, List.map_nil]); first | done | rfl | (simp only [List.length_drop, List.length_take]; rfl)) ?_; (with_reducible refine (helioscopelaw01_valid.calls k a0_0 a0_1 a0_2 a0_3 _ _ l0_4 _ _ l0_5 true _ ?side1 ?side2 ?side3 ?side4 A2.out).mono ?_); (case side1 => repeat (first | exact (Kd.C_below HR0_4.out HB.out) | (with_reducible refine Kd.C_alloc ?_ _) | (with_reducible refine Kd.C_drewN ?_ _) | (with_reducible refine Kd.C_drew ?_))); (case side2 => exact HC0_4.out); (case side3 => repeat (first | exact (Kd.C_below HR0_5.out HB.out) | (with_reducible refine Kd.C_alloc ?_ _) | (with_reducible refine Kd.C_drewN ?_ _) | (with_reducible refine Kd.C_drew ?_))); (case side4 => exact HC0_5.out); rintro e w7 ⟨rfl, hb⟩; refine ⟨_, rfl, ?_⟩; have n0_ := Aside0.mk (blk_below (g := gb364) (o := .cells #[.string a0_0, .int .i64 a0_1, .int .i64 a0_2, .int .i64 a0_3, .slice A0_4 l0_4.length c0_4, .slice A0_5 l0_5.length c0_5] 27 (0, 0)) (by (with_reducible repeat (first | refine blk_drewN ?_ _ | refine blk_drew ?_ | refine blk_alloc ?_ _)); exact BK364.out) hb); have n1_ := Aside0.mk (below_step (by repeat (first | (with_reducible first | exact HB.out | apply below_alloc | apply pw_below_drewN | apply below_drew1 | refine below_set ?_ GE364.out) | exact HB.out)) hb); clear BK364; clear HB; have BK364 := n0_; have HB := n1_; clear n0_ n1_; (try clear hb); (try clear hb2); (try clear hk); (try clear hi); have hcz8_0 : w7.cell? ⟨gb364, 0, none⟩ = some (.string a0_0) := (blk_cell BK364.out 0).trans rfl; have hcz8_1 : w7.cell? ⟨gb364, 1, none⟩ = some (.int .i64 a0_1) := (blk_cell BK364.out 1).trans rfl; have hcz8_2 : w7.cell? ⟨gb364, 2, none⟩ = some (.int .i64 a0_2) := (blk_cell BK364.out 2).trans rfl; have hcz8_3 : w7.cell? ⟨gb364, 3, none⟩ = some (.int .i64 a0_3) := (blk_cell BK364.out 3).trans rfl; have hcz8_4 : w7.cell? ⟨gb364, 4, none⟩ = some (.slice A0_4 l0_4.length c0_4) := (blk_cell BK364.out 4).trans rfl; have hcz8_5 : w7.cell? ⟨gb364, 5, none⟩ = some (.slice A0_5 l0_5.length c0_5) := (blk_cell BK364.out 5).trans rfl; have hfz8_0 := blk_frozen BK364.out 0; have hfz8_1 := blk_frozen BK364.out 1; have hfz8_2 := blk_frozen BK364.out 2; have hfz8_3 := blk_frozen BK364.out 3; have hfz8_4 := blk_frozen BK364.out 4; have hfz8_5 := blk_frozen BK364.out 5) | (go_at_call 50; (refine (helioscoperef01_Truths.calls k a0_0 a0_1 a0_2 a0_3 _ _ l0_4 _ _ l0_5 _ _ ([] : List Int) t366 _ ?side1 ?side2 ?side3 ?side4 ?side5 ?side6 A4.out).mono ?_); (case side1 => repeat (first | exact (Kd.C_below HR0_4.out HB.out) | (with_reducible refine Kd.C_alloc ?_ _) | (with_reducible refine Kd.C_drewN ?_ _) | (with_reducible refine Kd.C_drew ?_))); (case side2 => exact HC0_4.out); (case side3 => repeat (first | exact (Kd.C_below HR0_5.out HB.out) | (with_reducible refine Kd.C_alloc ?_ _) | (with_reducible refine Kd.C_drewN ?_ _) | (with_reducible refine Kd.C_drew ?_))); (case side4 => exact HC0_5.out); (case side5 => exact Kd.C_nil _ _); (case side6 => exact Nat.le_refl _); rintro e w9 ⟨v367, rfl, ho0, hb⟩; have n0_ := Aside0.mk (Kd.N_lower (Kd.N_mono (ok' := fun k_ => k_ ≠ gb364) ho0 (fun k_ hk_ => (Kd.freshB (g := gb364) (o := .cells #[.string a0_0, .int .i64 a0_1, .int .i64 a0_2, .int .i64 a0_3, .slice A0_4 l0_4.length c0_4, .slice A0_5 l0_5.length c0_5] 27 (0, 0)) (by (with_reducible repeat (first | refine blk_drewN ?_ _ | refine blk_drew ?_ | refine blk_alloc ?_ _)); exact BK364.out) k_ hk_))) (below_size (by repeat (first | (with_reducible first | exact HB.out | apply below_alloc | apply pw_below_drewN | apply below_drew1 | refine below_set ?_ GE364.out) | exact HB.out)))); have n1_ := Aside0.mk (blk_below (g := gb364) (o := .cells #[.string a0_0, .int .i64 a0_1, .int .i64 a0_2, .int .i64 a0_3, .slice A0_4 l0_4.length c0_4, .slice A0_5 l0_5.length c0_5] 27 (0, 0)) (by (with_reducible repeat (first | refine blk_drewN ?_ _ | refine blk_drew ?_ | refine blk_alloc ?_ _)); exact BK364.out) hb); have n2_ := Aside0.mk (below_step (by repeat (first | (with_reducible first | exact HB.out | apply below_alloc | apply pw_below_drewN | apply below_drew1 | refine below_set ?_ GE364.out) | exact HB.out)) hb); clear BK364; clear HB; have HO368 := n0_; have BK364 := n1_; have HB := n2_; clear n0_ n1_ n2_; (try clear hb); (try clear hb2); (try clear hk); (try clear hi); (try clear ho0); obtain ⟨Ao10, co10, eo10⟩ := Kd.N_slice HO368.out; subst eo10))
  go_ret
  exact ⟨by first | rfl | (simp [errW_none, errW_some] <;> rfl) | (simp [*, errW_none, errW_some] <;> rfl), by repeat (first | (with_reducible first | exact HB.out | apply below_alloc | apply pw_below_drewN | apply below_drew1 | refine below_set ?_ GE364.out) | exact HB.out)⟩
 ·
  replace c3 := Bool.eq_false_iff.mpr c3
  subst c3
  have H1 : (some false) = some r := by rw [if_neg (show ¬ (false = true) by decide)] at H; exact H
  clear H
  have H := H1
  clear H1
  obtain rfl := Option.some.inj H
  go_enter Try.func47, Try.ntmps47
  go_wp2_with (first | ((with_reducible refine gate_dst (N := 1) rfl ?_); (try (refine gate_guard (by rfl) ?_; dsimp only)); refine box_event ?hg (N := 1) ?hd (cs := #[.string a0_0, .int .i64 a0_1, .int .i64 a0_2, .int .i64 a0_3, .slice A0_4 l0_4.length c0_4, .slice A0_5 l0_5.length c0_5]) (t := 27) ?hr ?_; (case hd => rfl); (case hg => rfl); (case hr => first | (go_simp; done) | (go_simp; rfl)); intro gb364 hg w11 hbox hb; have n0_ := Aside0.mk (below_step (by repeat (first | (with_reducible first | exact HB.out | apply below_alloc | apply pw_below_drewN | apply below_drew1) | exact HB.out)) hb); have n1_ := Aside0.mk (hbox); have n2_ := Aside0.mk ((by rw [hg]; exact (below_size (by repeat (first | (with_reducible first | exact HB.out | apply below_alloc | apply pw_below_drewN | apply below_drew1) | exact HB.out))) : w.heap.size ≤ gb364)); have n3_ := Aside0.mk ((by rw [hg]; exact (below_size (by repeat (first | (with_reducible first | exact HB.out | apply below_alloc | apply pw_below_drewN | apply below_drew1) | exact HB.out))) : w.heap.size ≤ gb364)); clear HB; have HB := n0_; have BK364 := n1_; have GW364 := n2_; have GE364 := n3_; clear n0_ n1_ n2_ n3_; clear hb hbox hg; have hcz12_0 : w11.cell? ⟨gb364, 0, none⟩ = some (.string a0_0) := (blk_cell BK364.out 0).trans rfl; have hcz12_1 : w11.cell? ⟨gb364, 1, none⟩ = some (.int .i64 a0_1) := (blk_cell BK364.out 1).trans rfl; have hcz12_2 : w11.cell? ⟨gb364, 2, none⟩ = some (.int .i64 a0_2) := (blk_cell BK364.out 2).trans rfl; have hcz12_3 : w11.cell? ⟨gb364, 3, none⟩ = some (.int .i64 a0_3) := (blk_cell BK364.out 3).trans rfl; have hcz12_4 : w11.cell? ⟨gb364, 4, none⟩ = some (.slice A0_4 l0_4.length c0_4) := (blk_cell BK364.out 4).trans rfl; have hcz12_5 : w11.cell? ⟨gb364, 5, none⟩ = some (.slice A0_5 l0_5.length c0_5) := (blk_cell BK364.out 5).trans rfl; have hfz12_0 := blk_frozen BK364.out 0; have hfz12_1 := blk_frozen BK364.out 1; have hfz12_2 := blk_frozen BK364.out 2; have hfz12_3 := blk_frozen BK364.out 3; have hfz12_4 := blk_frozen BK364.out 4; have hfz12_5 := blk_frozen BK364.out 5) | ((with_reducible refine gate_callee (f := 41) rfl ?_); refine goesL_ (some 4) rfl rfl Try.func41 (by kernel_rfl) rfl #[.agg #[.string a0_0, .int .i64 a0_1, .int .i64 a0_2, .int .i64 a0_3, .slice A0_4 l0_4.length c0_4, .slice A0_5 l0_5.length c0_5]] rfl (by (try simp only [List.map_toArray, List.map_cons, List.map_nil]); first | done | rfl | (simp only [List.length_drop, List.length_take]; rfl)) ?_; (with_reducible refine (helioscopelaw01_valid.calls k a0_0 a0_1 a0_2 a0_3 _ _ l0_4 _ _ l0_5 false _ ?side1 ?side2 ?side3 ?side4 A2.out).mono ?_); (case side1 => repeat (first | exact (Kd.C_below HR0_4.out HB.out) | (with_reducible refine Kd.C_alloc ?_ _) | (with_reducible refine Kd.C_drewN ?_ _) | (with_reducible refine Kd.C_drew ?_))); (case side2 => exact HC0_4.out); (case side3 => repeat (first | exact (Kd.C_below HR0_5.out HB.out) | (with_reducible refine Kd.C_alloc ?_ _) | (with_reducible refine Kd.C_drewN ?_ _) | (with_reducible refine Kd.C_drew ?_))); (case side4 => exact HC0_5.out); rintro e w13 ⟨rfl, hb⟩; refine ⟨_, rfl, ?_⟩; have n0_ := Aside0.mk (blk_below (g := gb364) (o := .cells #[.string a0_0, .int .i64 a0_1, .int .i64 a0_2, .int .i64 a0_3, .slice A0_4 l0_4.length c0_4, .slice A0_5 l0_5.length c0_5] 27 (0, 0)) (by (with_reducible repeat (first | refine blk_drewN ?_ _ | refine blk_drew ?_ | refine blk_alloc ?_ _)); exact BK364.out) hb); have n1_ := Aside0.mk (below_step (by repeat (first | (with_reducible first | exact HB.out | apply below_alloc | apply pw_below_drewN | apply below_drew1 | refine below_set ?_ GE364.out) | exact HB.out)) hb); clear BK364; clear HB; have BK364 := n0_; have HB := n1_; clear n0_ n1_; (try clear hb); (try clear hb2); (try clear hk); (try clear hi)))
  go_ret
  exact ⟨by first | rfl | (simp [errW_none, errW_some] <;> rfl) | (simp [*, errW_none, errW_some] <;> rfl), by repeat (first | (with_reducible first | exact HB.out | apply below_alloc | apply pw_below_drewN | apply below_drew1 | refine below_set ?_ GE364.out) | exact HB.out)⟩



end Go.Proofs.Ytemeapfnfegkiaa.PR
end
section
/- Package disk: whether there is a truth; the numbers of all truths, compared. -/
namespace Go.Proofs.Ytemeapfnfegkiaa.D
open Go Go.RowKit Go.Proofs.YtemeapfnfegkiaaK Go.Proofs.YtemeapfnfegkiaaW.PrintWords Go.Proofs.YtemeapfnfegkiaaW.PrintLast Go.Proofs.YtemeapfnfegkiaaW.PrintMore Go.Proofs.Ytemeapfnfegkiaa.PR
set_option linter.unusedVariables false
set_option linter.unusedSimpArgs false

theorem rValid {D : Dat} (hF : Fits D) : Ev (fun f => helioscopelaw01_valid.f f D.nm D.rad D.lo D.hi D.spots D.told) (decide ((checkF D).2.2 = 0)) := by
  unfold helioscopelaw01_valid.f
  refine Ev.bind (rCheck D hF.nm hF.s hF.t) (Ev.congr (f := fun _ => some (decide ((checkF D).2.2 = 0))) (fun f => ?_) (Ev.now _))
  generalize (checkF D).2.2 = c
  by_cases h : c = 0
  · subst h; rfl
  · have h1 : (c == 0) = false := by simpa using h
    rw [h1, decide_eq_false h]
theorem rSome {D : Dat} (hF : Fits D) : Ev (fun f => helioscopelaw01_some.f f D.nm D.rad D.lo D.hi D.spots D.told) (decide (enterE D [] = 0)) := by
  unfold helioscopelaw01_some.f
  have he := enterE_none D
  refine Ev.bind (rValid hF) ?_
  by_cases hc : (checkF D).2.2 = 0
  · have hV := (check_valid hc).1
    rw [if_neg (fun x => x hc)] at he
    simp only [decide_eq_true hc, if_true]
    refine Ev.bind (rTruths hV [] (by decide)) (Ev.congr (f := fun _ => some (decide (enterE D [] = 0))) (fun f => ?_) (Ev.now _))
    rw [List.length_map, (truths_perm0 D).length_eq, he]
    cases truthsL D 0 with
    | nil => rfl
    | cons a l => simp
  · rw [if_pos hc] at he
    simp only [decide_eq_false hc, Bool.false_eq_true, if_false]
    rw [he, decide_eq_false hc]
    exact Ev.now _

end Go.Proofs.Ytemeapfnfegkiaa.D
end
section
/- Package disk: as long as nothing was told: with more nears there are more truths, and the same spots. -/
namespace Go.Proofs.Ytemeapfnfegkiaa.D
open Go Go.RowKit Go.Proofs.YtemeapfnfegkiaaK Go.Proofs.YtemeapfnfegkiaaW.PrintWords Go.Proofs.YtemeapfnfegkiaaW.PrintLast Go.Proofs.YtemeapfnfegkiaaW.PrintMore Go.Proofs.Ytemeapfnfegkiaa.PR
set_option linter.unusedVariables false
set_option linter.unusedSimpArgs false

abbrev d0 (D : Dat) : Dat := ⟨D.nm, D.rad, D.lo, D.hi, D.spots, []⟩
end Go.Proofs.Ytemeapfnfegkiaa.D
end
section
/- Package disk: one thing more told. -/
namespace Go.Proofs.Ytemeapfnfegkiaa.D
open Go Go.RowKit Go.Proofs.YtemeapfnfegkiaaK Go.Proofs.YtemeapfnfegkiaaW.PrintWords Go.Proofs.YtemeapfnfegkiaaW.PrintLast Go.Proofs.YtemeapfnfegkiaaW.PrintMore Go.Proofs.Ytemeapfnfegkiaa.PR
set_option linter.unusedVariables false
set_option linter.unusedSimpArgs false

abbrev dt (D : Dat) (t : Told) : Dat := ⟨D.nm, D.rad, D.lo, D.hi, D.spots, D.told ++ [t]⟩
theorem tl_old {l : List Told} {t : Told} {k : Nat} (hk : k < l.length) : rd_T52 (l ++ [t]) (k : Int) = rd_T52 l (k : Int) := by
  rw [told_at _ _ hk, told_at _ _ (by simp; omega)]; exact List.getElem_append_left hk
theorem tl_new (l : List Told) (t : Told) : rd_T52 (l ++ [t]) (l.length : Int) = t := by
  rw [told_at _ _ (by simp)]; simp
theorem so_more (D : Dat) (t : Told) (g : Nat → Int) : soB (dt D t) 0 g = (soB D 0 g && sayB g t) := by
  have key : ∀ k, k ≤ D.told.length → soTo (dt D t) 0 g k = soTo D 0 g k := by
    intro k
    induction k with
    | zero => intro _; rfl
    | succ k ih => intro hk; rw [soTo_succ, soTo_succ, ih (by omega), tl_old (by omega)]
  unfold soB
  rw [show (dt D t).told.length = D.told.length + 1 by simp, soTo_succ, key _ (Nat.le_refl _), tl_new]
  simp
theorem truth_more (D : Dat) (t : Told) (near : Int) (s : Nat) : isTruth (dt D t) 0 near s = (isTruth D 0 near s && sayB (G D near s) t) := by
  unfold isTruth
  have e1 : ∀ k, sureTo (dt D t) k = sureTo D k := fun k => by
    induction k with
    | zero => rfl
    | succ k ih => unfold sureTo; rw [ih]; rfl
  have e2 : ∀ k, mayTo (dt D t) k = mayTo D k := fun k => by
    induction k with
    | zero => rfl
    | succ k ih => unfold mayTo; rw [ih]; rfl
  have e3 : okSet (dt D t) s = okSet D s := by unfold okSet; rw [e1, e2]
  rw [so_more, ← Bool.and_assoc, e3]
  rfl
theorem truths_more (D : Dat) (t : Told) : truthsL (dt D t) 0 = (truthsL D 0).filter fun x => sayB (G D x.1 x.2) t := by
  unfold truthsL nearsTo
  rw [List.filter_flatMap]
  congr 1
  funext i
  unfold setsTo
  rw [List.filter_map]
  congr 1
  rw [List.filter_filter]
  refine List.filter_congr fun s _ => ?_
  rw [truth_more, Bool.and_comm]
  rfl
end Go.Proofs.Ytemeapfnfegkiaa.D
end
section
/- Package disk: what Ask names, as the law asks. -/
namespace Go.Proofs.Ytemeapfnfegkiaa.D
open Go Go.RowKit Go.Proofs.YtemeapfnfegkiaaK Go.Proofs.YtemeapfnfegkiaaW.PrintWords Go.Proofs.YtemeapfnfegkiaaW.PrintLast Go.Proofs.YtemeapfnfegkiaaW.PrintMore Go.Proofs.Ytemeapfnfegkiaa.PR
set_option linter.unusedVariables false
set_option linter.unusedSimpArgs false

def leftN (D : Dat) (i k : Nat) : Int := max (yesN D i k : Int) ((allL D : Int) - yesN D i k)
theorem leftN_pos {D : Dat} (hn : 0 < allL D) (i k : Nat) : 0 < leftN D i k := by unfold leftN; omega
theorem leftN_le (D : Dat) (i k : Nat) : leftN D i k ≤ allL D := by have := yesN_le D i k; unfold leftN; omega
def AskI (D : Dat) (S : Nat → Nat → Prop) (s : Int × Int × Int) : Prop :=
  (s = (0, 0, 0) ∧ ∀ i k, S i k → (allL D : Int) ≤ leftN D i k) ∨
  ∃ a b : Nat, s = ((a : Int), (b : Int), leftN D a b) ∧ S a b ∧ leftN D a b < allL D ∧ ∀ i k, S i k → leftN D a b ≤ leftN D i k ∧ ((i < a ∨ i = a ∧ k < b) → leftN D a b < leftN D i k)
theorem AskI.congr {D : Dat} {S S' : Nat → Nat → Prop} {s : Int × Int × Int} (h : AskI D S s) (e : ∀ a b, S' a b ↔ S a b) : AskI D S' s := by
  have : S' = S := by funext a b; exact propext (e a b)
  rw [this]; exact h
theorem AskI.step {D : Dat} (hn : 0 < allL D) {S : Nat → Nat → Prop} {s : Int × Int × Int} (h : AskI D S s) (i k : Nat) (hS : ∀ a b, S a b → a < i ∨ a = i ∧ b < k) : AskI D (fun a b => S a b ∨ a = i ∧ b = k) (askStep D i k s) := by
  have e : askStep D i k s = if leftN D i k < allL D ∧ (s.2.2 = 0 ∨ leftN D i k < s.2.2) then ((i : Int), (k : Int), leftN D i k) else s := rfl
  rw [e]
  have hp := leftN_pos hn i k
  rcases h with ⟨rfl, hz⟩ | ⟨a, b, rfl, hab, hlt, hall⟩
  · by_cases hc : leftN D i k < allL D
    · rw [if_pos ⟨hc, .inl rfl⟩]
      refine .inr ⟨i, k, rfl, .inr ⟨rfl, rfl⟩, hc, fun x y hxy => ?_⟩
      rcases hxy with hxy | ⟨rfl, rfl⟩
      · have := hz x y hxy; exact ⟨by omega, fun _ => by omega⟩
      · exact ⟨Int.le_refl _, fun h => by omega⟩
    · rw [if_neg (fun x => hc x.1)]
      refine .inl ⟨rfl, fun x y hxy => ?_⟩
      rcases hxy with hxy | ⟨rfl, rfl⟩
      · exact hz x y hxy
      · omega
  · have hpz := leftN_pos hn a b
    by_cases hc : leftN D i k < leftN D a b
    · rw [if_pos ⟨by omega, .inr hc⟩]
      refine .inr ⟨i, k, rfl, .inr ⟨rfl, rfl⟩, by omega, fun x y hxy => ?_⟩
      rcases hxy with hxy | ⟨rfl, rfl⟩
      · have := (hall x y hxy).1; exact ⟨by omega, fun _ => by omega⟩
      · exact ⟨Int.le_refl _, fun h => by omega⟩
    · rw [if_neg (fun x => by rcases x.2 with y | y; simp only at y; omega; exact hc y)]
      refine .inr ⟨a, b, rfl, .inl hab, hlt, fun x y hxy => ?_⟩
      rcases hxy with hxy | ⟨rfl, rfl⟩
      · exact hall x y hxy
      · have := hS a b hab
        exact ⟨by omega, fun h => by omega⟩
theorem askRow_I {D : Dat} (hn : 0 < allL D) (i : Nat) {s : Int × Int × Int} (h : AskI D (fun a b => a < i ∧ a < b ∧ b < D.spots.length) s) : ∀ m, AskI D (fun a b => (a < i ∧ a < b ∧ b < D.spots.length) ∨ (a = i ∧ i < b ∧ b < i + 1 + m)) (askRow D i s m)
  | 0 => h.congr fun a b => by constructor <;> intro x <;> omega
  | m + 1 => by
    rw [askRow_succ]
    refine ((askRow_I hn i h m).step hn i (i + 1 + m) (fun a b hab => by omega)).congr fun a b => ?_
    constructor <;> intro x <;> omega
theorem askTo_I {D : Dat} (hn : 0 < allL D) : ∀ i, i ≤ D.spots.length → AskI D (fun a b => a < i ∧ a < b ∧ b < D.spots.length) (askTo D i)
  | 0, _ => .inl ⟨rfl, fun i k h => by omega⟩
  | i + 1, hi => by
    rw [askTo_succ]
    refine (askRow_I hn i (askTo_I hn i (by omega)) (D.spots.length - (i + 1))).congr fun a b => ?_
    constructor <;> intro x <;> omega
theorem asked {D : Dat} (h : enterE D [] = 0) : 0 < allL D ∧
    ((askF D = (0, 0, 0, 9) ∧ ∀ i k, i < k → k < D.spots.length → leftN D i k = allL D) ∨
     ∃ a b : Nat, askF D = ((a : Int), (b : Int), leftN D a b, 0) ∧ a < b ∧ b < D.spots.length ∧ leftN D a b < allL D ∧ 0 < leftN D a b ∧
       ∀ i k, i < k → k < D.spots.length → leftN D a b ≤ leftN D i k ∧ ((i < a ∨ i = a ∧ k < b) → leftN D a b < leftN D i k)) := by
  have hn : 0 < allL D := by
    have := (enterE_ok h).2.2.2.1
    unfold allL
    cases ht : truthsL D 0 with
    | nil => rw [ht] at this; simp at this
    | cons a l => simp
  refine ⟨hn, ?_⟩
  unfold askF
  rw [if_pos h]
  rcases askTo_I hn D.spots.length (Nat.le_refl _) with ⟨e, hz⟩ | ⟨a, b, e, hab, hlt, hall⟩
  · rw [e]
    refine .inl ⟨by simp, fun i k hik hk => ?_⟩
    have := hz i k ⟨by omega, hik, hk⟩
    have := leftN_le D i k
    omega
  · have hp := leftN_pos hn a b
    rw [e]
    simp only
    rw [if_neg (by omega)]
    exact .inr ⟨a, b, rfl, hab.2.1, hab.2.2, hlt, hp, fun i k hik hk => hall i k ⟨by omega, hik, hk⟩⟩
theorem asked_left (D : Dat) (a b : Nat) (r : Bool) : ((truthsL (dt D ⟨a, b, r⟩) 0).length : Int) ≤ leftN D a b := by
  rw [truths_more]
  have e : ∀ g : Nat → Int, sayB g ⟨a, b, r⟩ = (oneQ a b g == r) := fun g => by unfold sayB oneQ; simp
  have hy : yesN D a b = (truthsL D 0).countP fun x => oneQ a b (G D x.1 x.2) := rfl
  have hsum := List.length_eq_countP_add_countP (fun x : Int × Nat => oneQ a b (G D x.1 x.2)) (l := truthsL D 0)
  rw [← List.countP_eq_length_filter]
  cases r with
  | true =>
    have : ((truthsL D 0).countP fun x => sayB (G D x.1 x.2) ⟨a, b, true⟩) = yesN D a b := by
      rw [hy]; congr 1; funext x; rw [e]; simp
    rw [this]; unfold leftN; omega
  | false =>
    have : ((truthsL D 0).countP fun x => sayB (G D x.1 x.2) ⟨a, b, false⟩) + yesN D a b = allL D := by
      have e2 : (fun x : Int × Nat => sayB (G D x.1 x.2) ⟨a, b, false⟩) = fun x => decide ¬ oneQ a b (G D x.1 x.2) = true := by
        funext x; rw [e]; cases oneQ a b (G D x.1 x.2) <;> rfl
      rw [hy, e2]; unfold allL; omega
    unfold leftN; omega
theorem rLess2 {i k a b : Nat} (hi : i < 100) : helioscoperef01_Less.f 10 [(i : Int), (k : Int)] [(a : Int), (b : Int)] = some (decide (i < a ∨ i = a ∧ k < b)) := by
  have w1 : wrap64 (0 + 1) = 1 := by unfold wrap64; omega
  have w2 : wrap64 (1 + 1) = 2 := by unfold wrap64; omega
  have r0 : rd [(i : Int), (k : Int)] 0 = i := rfl
  have r1 : rd [(i : Int), (k : Int)] 1 = k := rfl
  have s0 : rd [(a : Int), (b : Int)] 0 = a := rfl
  have s1 : rd [(a : Int), (b : Int)] 1 = b := rfl
  unfold helioscoperef01_Less.f
  simp only [helioscoperef01_Less.l0, helioscoperef01_Less.j1, List.length_cons, List.length_nil, w1, w2, r0, r1, s0, s1]
  simp
  by_cases h1 : i = a
  · subst h1
    by_cases h2 : k = b
    · subst h2; simp
    · simp [h2]; intro h; omega
  · simp [h1]; intro h; exfalso; omega
end Go.Proofs.Ytemeapfnfegkiaa.D
end
section
/- Package disk: the reference's truths, whatever was told. -/
namespace Go.Proofs.Ytemeapfnfegkiaa.D
open Go Go.RowKit Go.Proofs.YtemeapfnfegkiaaK Go.Proofs.YtemeapfnfegkiaaW.PrintWords Go.Proofs.YtemeapfnfegkiaaW.PrintLast Go.Proofs.YtemeapfnfegkiaaW.PrintMore Go.Proofs.Ytemeapfnfegkiaa.PR
set_option linter.unusedVariables false
set_option linter.unusedSimpArgs false

theorem on_any (nm : ByteArray) (a b c : Int) (S : List Spot) (T : List Told) (x y : Int) (p : Bool) : helioscoperef01_On.f nm a b c S T x y p = helioscoperef01_On.f nm a b c S [] x y p := rfl
theorem sets_any (T : List Told) : ∀ k, (∀ x3 x4 nm a b c S, helioscoperef01_sets.l0 k x3 x4 nm a b c S T = helioscoperef01_sets.l0 k x3 x4 nm a b c S []) ∧
    (∀ x3 x4 x6 x7 nm a b c S y0 y1 y2, helioscoperef01_sets.l1 k x3 x4 x6 x7 nm a b c S T y0 y1 y2 = helioscoperef01_sets.l1 k x3 x4 x6 x7 nm a b c S [] y0 y1 y2)
  | 0 => ⟨fun _ _ _ _ _ _ _ => by simp only [helioscoperef01_sets.l0], fun _ _ _ _ _ _ _ _ _ _ _ _ => by simp only [helioscoperef01_sets.l1]⟩
  | k + 1 => by
    obtain ⟨h0, h1⟩ := sets_any T k
    exact ⟨fun _ _ _ _ _ _ _ => by simp only [helioscoperef01_sets.l0, h0, h1, on_any _ _ _ _ _ T], fun _ _ _ _ _ _ _ _ _ _ _ _ => by simp only [helioscoperef01_sets.l1, h0, h1]⟩
theorem grouped_any (T : List Told) : ∀ k, (∀ x1 x2 x7 x8 nm a b c S, helioscoperef01_grouped.l0 k x1 x2 x7 x8 nm a b c S T = helioscoperef01_grouped.l0 k x1 x2 x7 x8 nm a b c S []) ∧
    (∀ x1 x2 x7 x8 nm a b c S, helioscoperef01_grouped.l1 k x1 x2 x7 x8 nm a b c S T = helioscoperef01_grouped.l1 k x1 x2 x7 x8 nm a b c S []) ∧
    (∀ x1 x2 x7 x8 nm a b c S, helioscoperef01_grouped.l2 k x1 x2 x7 x8 nm a b c S T = helioscoperef01_grouped.l2 k x1 x2 x7 x8 nm a b c S []) ∧
    (∀ x1 x2 x7 x8 x9 nm a b c S, helioscoperef01_grouped.l3 k x1 x2 x7 x8 x9 nm a b c S T = helioscoperef01_grouped.l3 k x1 x2 x7 x8 x9 nm a b c S []) ∧
    (∀ x1 x2 x7 x8 x9 x10 nm a b c S, helioscoperef01_grouped.l4 k x1 x2 x7 x8 x9 x10 nm a b c S T = helioscoperef01_grouped.l4 k x1 x2 x7 x8 x9 x10 nm a b c S [])
  | 0 => ⟨fun _ _ _ _ _ _ _ _ _ => by simp only [helioscoperef01_grouped.l0], fun _ _ _ _ _ _ _ _ _ => by simp only [helioscoperef01_grouped.l1], fun _ _ _ _ _ _ _ _ _ => by simp only [helioscoperef01_grouped.l2], fun _ _ _ _ _ _ _ _ _ _ => by simp only [helioscoperef01_grouped.l3], fun _ _ _ _ _ _ _ _ _ _ _ => by simp only [helioscoperef01_grouped.l4]⟩
  | k + 1 => by
    obtain ⟨h0, h1, h2, h3, h4⟩ := grouped_any T k
    exact ⟨fun _ _ _ _ _ _ _ _ _ => by simp only [helioscoperef01_grouped.l0, h0, h1], fun _ _ _ _ _ _ _ _ _ => by simp only [helioscoperef01_grouped.l1, h1, h2], fun _ _ _ _ _ _ _ _ _ => by simp only [helioscoperef01_grouped.l2, h3], fun _ _ _ _ _ _ _ _ _ _ => by simp only [helioscoperef01_grouped.l3, h2, h4], fun _ _ _ _ _ _ _ _ _ _ _ => by simp only [helioscoperef01_grouped.l4, h3, h4]⟩
theorem groupedf_any (T : List Told) (k : Nat) (nm : ByteArray) (a b c : Int) (S : List Spot) (n : Int) (l : List Int) : helioscoperef01_grouped.f k nm a b c S T n l = helioscoperef01_grouped.f k nm a b c S [] n l := by
  unfold helioscoperef01_grouped.f; rw [(grouped_any T k).1]
theorem all_any (T : List Told) : ∀ k, (∀ x3 x4 x5 nm a b c S, helioscoperef01_All.l0 k x3 x4 x5 nm a b c S T = helioscoperef01_All.l0 k x3 x4 x5 nm a b c S []) ∧
    (∀ x3 x4 x5 x6 nm a b c S, helioscoperef01_All.l1 k x3 x4 x5 x6 nm a b c S T = helioscoperef01_All.l1 k x3 x4 x5 x6 nm a b c S [])
  | 0 => ⟨fun _ _ _ _ _ _ _ _ => by simp only [helioscoperef01_All.l0], fun _ _ _ _ _ _ _ _ _ => by simp only [helioscoperef01_All.l1]⟩
  | k + 1 => by
    obtain ⟨h0, h1⟩ := all_any T k
    exact ⟨fun _ _ _ _ _ _ _ _ => by simp only [helioscoperef01_All.l0, h1], fun _ _ _ _ _ _ _ _ _ => by simp only [helioscoperef01_All.l1, h0, h1, groupedf_any T]⟩
theorem allf_any (T : List Told) (k : Nat) (nm : ByteArray) (a b c : Int) (S : List Spot) : helioscoperef01_All.f k nm a b c S T = helioscoperef01_All.f k nm a b c S [] := by
  unfold helioscoperef01_All.f helioscoperef01_sets.f
  rw [(sets_any T k).1]
  simp only [(all_any T k).1]
theorem rAllT {D : Dat} (hV : Valid D) (T : List Told) : Ev (fun f => helioscoperef01_All.f f D.nm D.rad D.lo D.hi D.spots T) ((allN D).map (toR D)) := by
  have h := rAll hV
  have e : (fun f => helioscoperef01_All.f f D.nm D.rad D.lo D.hi D.spots T) = fun f => helioscoperef01_All.f f D.nm D.rad D.lo D.hi D.spots D.told := by
    funext f; rw [allf_any T, allf_any D.told]
  rw [e]; exact h
def soT (T : List Told) (but : List Int) (g : Nat → Int) (k : Nat) : Bool := (List.range k).all fun i => hasB but i || sayB g (rd_T52 T i)
theorem soT_succ (T : List Told) (but : List Int) (g : Nat → Int) (k : Nat) : soT T but g (k + 1) = (soT T but g k && (hasB but k || sayB g (rd_T52 T k))) := by
  simp [soT, List.range_succ]
def truthsT (D : Dat) (T : List Told) (but : List Int) : List (Int × Nat) := (allN D).filter fun x => soT T but (G D x.1 x.2) T.length
theorem rT1T {D : Dat} (hV : Valid D) {T : List Told} (hT4 : T.length ≤ 1000) (hTab : ∀ k : Nat, k < T.length → 0 ≤ (rd_T52 T k).f0 ∧ (rd_T52 T k).f0 < D.spots.length ∧ 0 ≤ (rd_T52 T k).f1 ∧ (rd_T52 T k).f1 < D.spots.length) (but : List Int) (hb : but.length ≤ 1000) (X : List (Int × Nat)) (hX : X.length ≤ 2000) (i : Nat) (hi : i < X.length) (acc : List S57) (ha : acc.length ≤ 2000) (res : List S57)
    (h : Ev (fun f => helioscoperef01_Truths.l0 f but (X.map (toR D)) (if soT T but (G D X[i].1 X[i].2) T.length = true then acc ++ [toR D X[i]] else acc) ((i + 1 : Nat) : Int) D.nm D.rad D.lo D.hi D.spots T) res) (d : Nat) :
    ∀ (k : Nat), k + d = T.length → Ev (fun f => helioscoperef01_Truths.l1 f but (X.map (toR D)) acc (i : Int) (soT T but (G D X[i].1 X[i].2) k) (k : Int) D.nm D.rad D.lo D.hi D.spots T) res := by
  have hx : rd_T57 (X.map (toR D)) (i : Int) = ⟨X[i].1, RG D X[i].1 X[i].2⟩ := by
    rw [rd_T57_at _ i (by simpa using hi), List.getElem_map]; rfl
  have hR := RG_ref hV X[i].1 X[i].2
  have hG := G_nonneg hV X[i].1 X[i].2
  rw [show toR D X[i] = ⟨X[i].1, RG D X[i].1 X[i].2⟩ from rfl] at h
  generalize RG D X[i].1 X[i].2 = R at *
  generalize G D X[i].1 X[i].2 = g at *
  induction d with
  | zero =>
    intro k hd
    obtain rfl : k = T.length := by omega
    refine Ev.step (fun f => ?_) h
    simp only [helioscoperef01_Truths.l1, hx]
    rw [if_neg (by omega)]
    by_cases hs : soT T but g T.length = true
    · rw [if_pos hs, if_pos hs, if_pos (by omega), if_pos (by rw [List.length_map]; omega), if_pos (by omega), wrapN (by omega)]
    · rw [if_neg hs, if_neg hs, wrapN (by omega)]
  | succ d ih =>
    intro k hd
    have ht4 := hT4
    have hk : k < T.length := by omega
    have hab := hTab k hk
    have ih' := ih (k + 1) (by omega)
    rw [soT_succ] at ih'
    by_cases hs : soT T but g k = true
    · rw [hs, Bool.true_and] at ih'
      rw [hs]
      refine Ev.step (f := fun f => (helioscoperef01_Has.f f but (k : Int)).bind fun t => helioscoperef01_Truths.l1 f but (X.map (toR D)) acc (i : Int) (t || sayB g (rd_T52 T k)) ((k + 1 : Nat) : Int) D.nm D.rad D.lo D.hi D.spots T) (fun f => ?_)
        (Ev.bind (f := fun f t => helioscoperef01_Truths.l1 f but (X.map (toR D)) acc (i : Int) (t || sayB g (rd_T52 T k)) ((k + 1 : Nat) : Int) D.nm D.rad D.lo D.hi D.spots T) (rHas but hb k) ih')
      simp only [helioscoperef01_Truths.l1, hx]
      rw [if_pos (by omega), if_pos (by omega), if_pos True.intro]
      refine congrArg (Option.bind _) (funext fun t => ?_)
      rw [wrapN (by omega)]
      cases t
      · rw [if_neg (by decide), if_pos (by omega), if_pos (by rw [List.length_map]; omega), rTogether hR hG _ _ _ ⟨hab.1, hab.2.1⟩ ⟨hab.2.2.1, hab.2.2.2⟩]
        rfl
      · rw [if_pos rfl]; rfl
    · have hs' : soT T but g k = false := by simpa using hs
      rw [hs', Bool.false_and] at ih'
      rw [hs']
      refine Ev.step (fun f => ?_) ih'
      simp only [helioscoperef01_Truths.l1, hx]
      rw [if_pos (by omega), if_pos (by omega), wrapN (by omega)]
      rfl

theorem rT0T {D : Dat} (hV : Valid D) {T : List Told} (hT4 : T.length ≤ 1000) (hTab : ∀ k : Nat, k < T.length → 0 ≤ (rd_T52 T k).f0 ∧ (rd_T52 T k).f0 < D.spots.length ∧ 0 ≤ (rd_T52 T k).f1 ∧ (rd_T52 T k).f1 < D.spots.length) (but : List Int) (hb : but.length ≤ 1000) (d : Nat) : ∀ (i : Nat), i + d = (allN D).length →
    Ev (fun f => helioscoperef01_Truths.l0 f but ((allN D).map (toR D)) ((((allN D).take i).filter fun x => soT T but (G D x.1 x.2) T.length).map (toR D)) (i : Int) D.nm D.rad D.lo D.hi D.spots T) ((truthsT D T but).map (toR D)) := by
  have hX := allN_len hV
  induction d with
  | zero =>
    intro i hd
    rw [List.take_of_length_le (by omega)]
    refine Ev.step (f := fun _ => some ((truthsT D T but).map (toR D))) (fun f => ?_) (Ev.now _)
    simp only [helioscoperef01_Truths.l0]
    rw [if_neg (by rw [List.length_map]; omega)]; rfl
  | succ d ih =>
    intro i hd
    have hi : i < (allN D).length := by omega
    have ih' := ih (i + 1) (by omega)
    have hl : ((((allN D).take i).filter fun x => soT T but (G D x.1 x.2) T.length).map (toR D)).length ≤ 2000 := by
      rw [List.length_map]
      have := List.length_filter_le (fun x : Int × Nat => soT T but (G D x.1 x.2) T.length) ((allN D).take i)
      rw [List.length_take] at this
      omega
    have hh := rT1T hV hT4 hTab but hb (allN D) (by omega) i hi _ hl ((truthsT D T but).map (toR D)) (by
      rw [List.take_add_one, List.getElem?_eq_getElem hi, List.filter_append, List.map_append] at ih'
      have e : ((Option.toList (some (allN D)[i])).filter fun x => soT T but (G D x.1 x.2) T.length).map (toR D) = if soT T but (G D (allN D)[i].1 (allN D)[i].2) T.length = true then [toR D (allN D)[i]] else [] := by
        simp only [Option.toList_some, List.filter_cons, List.filter_nil]
        split <;> simp
      rw [e] at ih'
      by_cases hs : soT T but (G D (allN D)[i].1 (allN D)[i].2) T.length = true
      · rw [if_pos hs] at ih' ⊢; exact ih'
      · rw [if_neg hs, List.append_nil] at ih'; rw [if_neg hs]; exact ih') T.length 0 (by omega)
    refine Ev.step (fun f => ?_) hh
    simp only [helioscoperef01_Truths.l0]
    rw [if_pos (by rw [List.length_map]; omega)]; rfl
theorem rTruthsT {D : Dat} (hV : Valid D) {T : List Told} (hT4 : T.length ≤ 1000) (hTab : ∀ k : Nat, k < T.length → 0 ≤ (rd_T52 T k).f0 ∧ (rd_T52 T k).f0 < D.spots.length ∧ 0 ≤ (rd_T52 T k).f1 ∧ (rd_T52 T k).f1 < D.spots.length) (but : List Int) (hb : but.length ≤ 1000) : Ev (fun f => helioscoperef01_Truths.f f D.nm D.rad D.lo D.hi D.spots T but) ((truthsT D T but).map (toR D)) := by
  unfold helioscoperef01_Truths.f
  exact Ev.bind (rAllT hV T) (rT0T hV hT4 hTab but hb (allN D).length 0 (by omega))

theorem truthsT_more {D : Dat} (t : Told) : (truthsT D (D.told ++ [t]) []).length = (truthsL (dt D t) 0).length := by
  have h1 : truthsT D (D.told ++ [t]) [] = (truthsN D []).filter fun x => sayB (G D x.1 x.2) t := by
    unfold truthsT truthsN
    rw [List.filter_filter]
    refine List.filter_congr fun x _ => ?_
    rw [List.length_append, List.length_singleton, soT_succ, tl_new]
    have : ∀ k, k ≤ D.told.length → soT (D.told ++ [t]) [] (G D x.1 x.2) k = soR D [] (G D x.1 x.2) k := by
      intro k
      induction k with
      | zero => intro _; rfl
      | succ k ih => intro hk; rw [soT_succ, soR_succ, ih (by omega), tl_old (by omega)]
    rw [this _ (Nat.le_refl _), Bool.and_comm]
    simp [hasB]
  rw [h1, truths_more]
  exact ((truths_perm0 D).filter _).length_eq
end Go.Proofs.Ytemeapfnfegkiaa.D
end
section
/- Package disk: one dot more. -/
namespace Go.Proofs.Ytemeapfnfegkiaa.D
open Go Go.RowKit Go.Proofs.YtemeapfnfegkiaaK Go.Proofs.YtemeapfnfegkiaaW.PrintWords Go.Proofs.YtemeapfnfegkiaaW.PrintLast Go.Proofs.YtemeapfnfegkiaaW.PrintMore Go.Proofs.Ytemeapfnfegkiaa.PR
set_option linter.unusedVariables false
set_option linter.unusedSimpArgs false

abbrev shP (D : Dat) (A4 : Option Addr) (c4 : Nat) (A5 : Option Addr) (c5 : Nat) : Array Value := #[.string D.nm, .int .i64 D.rad, .int .i64 D.lo, .int .i64 D.hi, .slice A4 D.spots.length c4, .slice A5 D.told.length c5]
end Go.Proofs.Ytemeapfnfegkiaa.D
end
section
/- General lemmas of this session's own: rows of any plain kind that are copied by append. -/
namespace Go.Proofs.YtemeapfnfegkiaaK
open Go Go.RowKit Go.Proofs.YtemeapfnfegkiaaW.PrintWords Go.Proofs.YtemeapfnfegkiaaW.PrintLast Go.Proofs.YtemeapfnfegkiaaW.PrintMore
set_option linter.unusedVariables false
set_option linter.unusedSimpArgs false
variable {P : Program}

theorem flat_at {α : Type} (enc : α → List Value) {sz : Nat} (hl : ∀ x, (enc x).length = sz) : ∀ (xs : List α), (xs.flatMap enc).length = xs.length * sz ∧
    ∀ j u, (xs.flatMap enc)[j]? = some u → ∃ p i, xs[j / sz]? = some p ∧ (enc p)[i]? = some u ∧ i < sz ∧ j = j / sz * sz + i
  | [] => ⟨by simp, fun j u h => by simp at h⟩
  | x :: xs => by
    obtain ⟨h1, h2⟩ := flat_at enc hl xs
    refine ⟨by rw [List.flatMap_cons, List.length_append, h1, hl, List.length_cons, Nat.succ_mul]; omega, fun j u h => ?_⟩
    rw [List.flatMap_cons] at h
    by_cases hj : j < sz
    · rw [List.getElem?_append_left (by rw [hl]; exact hj)] at h
      have hd : j / sz = 0 := Nat.div_eq_of_lt hj
      exact ⟨x, j, by rw [hd]; rfl, h, hj, by rw [hd]; omega⟩
    · have hsz : 0 < sz := by
        rcases Nat.eq_zero_or_pos sz with e | e
        · subst e
          have h0 : (xs.flatMap enc).length = 0 := by rw [h1, Nat.mul_zero]
          rw [List.getElem?_append_right (by rw [hl]; omega), List.eq_nil_of_length_eq_zero h0] at h
          simp at h
        · exact e
      rw [List.getElem?_append_right (by rw [hl]; omega), hl] at h
      obtain ⟨p, i, a1, a2, a3, a4⟩ := h2 (j - sz) u h
      have hd : j / sz = (j - sz) / sz + 1 := by
        rw [Nat.div_eq_sub_div hsz (by omega)]
      exact ⟨p, i, by rw [hd]; simpa using a1, a2, a3, by rw [hd, Nat.succ_mul]; omega⟩

theorem C_news {α : Type} {d : Kd α} {enc : α → List Value} (hK : ∀ (w : World) x cs, d.K w x cs → cs = enc x) (hl : ∀ x, (enc x).length = d.sz) {w : World} {A : Option Addr} {xs : List α} (h : Kd.C d w A xs.length xs) {ad : Addr} (hA : A = some ad) :
    ∀ j u, (xs.flatMap enc)[j]? = some u → w.cell? (ad.add j) = some u := by
  intro j u hj
  obtain ⟨p, i, h1, h2, h3, h4⟩ := (flat_at enc hl xs).2 j u hj
  have hpos : 0 < xs.length := by
    have := (List.getElem?_eq_some_iff.1 h1).1
    exact Nat.lt_of_le_of_lt (Nat.zero_le _) this
  obtain ⟨ad', e, hc⟩ := h.2.2 hpos
  rw [hA] at e
  cases e
  obtain ⟨cs, hs, hk, hcell⟩ := hc _ p h1
  rw [hK w p cs hk] at hcell
  rw [h4]
  exact hcell i u h2
theorem C_some {α : Type} {d : Kd α} {w : World} {A : Option Addr} {xs : List α} (h : Kd.C d w A xs.length xs) (h0 : A = none) : xs = [] := by
  by_cases hp : 0 < xs.length
  · obtain ⟨ad, e, _⟩ := h.2.2 hp
    rw [h0] at e; cases e
  · exact List.eq_nil_of_length_eq_zero (by omega)

theorem append_row {α : Type} {d : Kd α} {enc : α → List Value} (hK : ∀ (w : World) x cs, d.K w x cs → cs = enc x) (hl : ∀ x, (enc x).length = d.sz) (h1 : ∀ x, ∀ u ∈ enc x, u.oneCell' = true) {w : World} {base e t ty : Nat} {i : TypeInfo} {z : Value} {bytes : Nat}
    (ht : P.underlying t = some (.slice e)) (hi : P.info? e = some i) (hz : i.zero = some z) (hsize : i.size = d.sz) (hby : i.bytes = bytes) (hzs : z.cells.size = d.sz) (hsz : 0 < d.sz) (hb : 0 < bytes)
    {v : Value} {ys : List α} (hown : w.ownsRow base e d.sz v ys.length (ys.flatMap enc)) {A : Option Addr} {c : Nat} {xs : List α} (h : Kd.C d w A xs.length xs) (hn : (ys.length + xs.length) * bytes ≤ 140737488355328) (hbase : base ≤ w.heap.size)
    (hno : A = none → (Builtin.append_ #[t, t] ty #[v, .slice none xs.length c]).run P w = .ok v w) :
    ∃ v' w', (Builtin.append_ #[t, t] ty #[v, .slice A xs.length c]).run P w = .ok v' w' ∧ w'.ownsRow base e d.sz v' (ys ++ xs).length ((ys ++ xs).flatMap enc) ∧ w.grownBy w' v.ownBlock ∧ (v'.ownBlock = v.ownBlock ∨ v'.ownBlock = some w.heap.size) := by
  cases A with
  | none =>
    have hx := C_some h rfl
    refine ⟨v, w, hno rfl, ?_, ⟨rfl, rfl, rfl, Nat.le_refl _, fun _ _ _ => rfl⟩, .inl rfl⟩
    subst hx
    rw [List.append_nil]
    exact hown
  | some ad =>
    obtain ⟨v', w', hr, ho, hg, _, hb'⟩ := run_append_own_at (P := P) w base t ty e i z d.sz bytes ht hi hz hsize hby hzs hsz v ys.length _ hown ad xs.length c (xs.flatMap enc) (flat_at enc hl xs).1 (C_news hK hl h rfl)
      (fun u hu => by obtain ⟨x, _, hx⟩ := List.mem_flatMap.1 hu; exact h1 x u hx) (by have := Nat.le_mul_of_pos_right (ys.length + xs.length) hb; simp only [maxLen]; omega) (by exact hn) hbase
    exact ⟨v', w', hr, by rw [List.length_append, List.flatMap_append]; exact ho, hg, hb'⟩
theorem row_read {α : Type} {d : Kd α} {enc : α → List Value} (hM : ∀ (w : World) x, d.K w x (enc x)) (hl : ∀ x, (enc x).length = d.sz) {w : World} {base e : Nat} {v : Value} {xs : List α} (h : w.ownsRow base e d.sz v xs.length (xs.flatMap enc)) (hn : xs.length ≤ 9223372036854775807) :
    ∃ A c, v = .slice A xs.length c ∧ xs.length ≤ c ∧ Kd.C d w A xs.length xs := by
  rcases h.2 with ⟨rfl, h0⟩ | ⟨g, cap, cur, rfl, hb, hg, hcap, hm, hs, ht⟩
  · have : xs = [] := List.eq_nil_of_length_eq_zero h0
    subst this
    exact ⟨none, 0, rfl, Nat.le_refl _, rfl, by simp, fun h => absurd h (by simp)⟩
  · refine ⟨_, cap, rfl, hcap, rfl, hn, fun _ => ⟨_, rfl, fun j p hj => ⟨enc p, hl p, hM w p, fun i u hu => ?_⟩⟩⟩
    have hadd : (⟨g, 0, none⟩ : Addr).add (j * d.sz + i) = ⟨g, j * d.sz + i, none⟩ := by unfold Addr.add; split <;> simp_all
    rw [hadd, cell_of_row w g _ cur e (0, 0) hg]
    have hjl := (List.getElem?_eq_some_iff.1 hj).1
    have hil : i < d.sz := by rw [← hl p]; exact (List.getElem?_eq_some_iff.1 hu).1
    have key : ∀ (xs : List α) (j : Nat), xs[j]? = some p → (xs.flatMap enc)[j * d.sz + i]? = some u := by
      intro xs
      induction xs with
      | nil => intro j hj; simp at hj
      | cons x xs ih =>
        intro j hj
        rw [List.flatMap_cons]
        cases j with
        | zero =>
          simp at hj
          subst hj
          rw [Nat.zero_mul, Nat.zero_add, List.getElem?_append_left (by rw [hl]; exact hil)]
          exact hu
        | succ j =>
          rw [List.getElem?_append_right (by rw [hl, Nat.succ_mul]; omega), hl, Nat.succ_mul]
          have := ih j (by simpa using hj)
          rw [← this]; congr 1; omega
    have hk := key xs j hj
    have hlt : j * d.sz + i < xs.length * d.sz := by
      have : (j + 1) * d.sz ≤ xs.length * d.sz := Nat.mul_le_mul_right _ hjl
      rw [Nat.succ_mul] at this; omega
    rw [← ht, List.getElem?_take_of_lt hlt] at hk
    rw [← Array.getElem?_toList]; exact hk
theorem append_none {w : World} {t ty e : TypeId} {i : TypeInfo} {z : Value} (ht : P.underlying t = some (.slice e)) (hi : P.info? e = some i) (g m c c' : Nat) (h : m ≤ c) :
    (Builtin.append_ #[t, t] ty #[.slice (some ⟨g, 0, none⟩) m c, .slice none 0 c']).run P w = .ok (.slice (some ⟨g, 0, none⟩) m c) w := by
  simp [Builtin.append_, run_underlying ht, sizeOf, typeInfo, hi, Builtin.lenOf, Builtin.firstCells, loadCells, loadCellsFrom, h, storeCells]

theorem step_run {ops : Array Oper} {o : Oper} {a : Act} {w : World} {K : Act → World → Prop} {Q : Exit → Act → World → Prop} {E : Prop} (hgd : o.guard = none) (s x : Operand) (t : TypeId)
    (ho : o.op = .call { callee := .builtin .append, args := #[s, x], argTypes := #[t, t] }) {v u : Value} (hs : a.eval s = v) (hx : a.eval x = u) {R : Value → World → Prop}
    (hrun : ∃ v' w', (Builtin.append_ #[t, t] o.type #[v, u]).run P w = .ok v' w' ∧ R v' w')
    (h : ∀ v' w', R v' w' → K (a.put o.dst v') w') : if Region.wanted o (yielded ops a.tmps) = true then Oper.wp P o a w K Q else E := by
  have hw : Region.wanted o (yielded ops a.tmps) = true := by simp [Region.wanted, hgd]
  rw [if_pos hw]
  obtain ⟨v', w', hr, h2⟩ := hrun
  unfold Oper.wp execOp
  simp only [ho, resolve, invoke, builtin, Sem.run_bind, Sem.run_pure, Result.andThen_ok, List.map_toArray, List.map_cons, List.map_nil, hs, hx, hr]
  exact h v' w' h2
def midQ (R : Act → World → Prop) : Exit → Act → World → Prop
  | .normal, a, w => R a w
  | _, _, _ => False
theorem region_mid {id : Nat} {ops : Array Oper} {b : Bool} {Q : Exit → Act → World → Prop} {a : Act} {w : World} {X : Type} (F : X → Act → Act) (S : X → World → Prop)
    (h : (Code.region id ops b).wp P (midQ fun a' w' => ∃ x, a' = F x a ∧ S x w') a w) (hk : ∀ x w', S x w' → Q .normal (F x a) w') : (Code.region id ops b).wp P Q a w :=
  Code.wp_mono (fun e a' w' h => by
    cases e <;> first | exact (h : False).elim | skip
    obtain ⟨x, rfl, hs⟩ := (h : ∃ x, a' = F x a ∧ S x w')
    exact hk x w' hs) h
theorem own_new0 {w : World} {base e sz : Nat} (hb : base ≤ w.heap.size) : (w.alloc (.cells #[] e)).ownsRow base e sz (.slice (some ⟨w.heap.size, 0, none⟩) 0 0) 0 [] :=
  World.ownsRow_lit w #[] 0 hb (by decide) (by simp)
theorem own_far {w : World} {base e sz n : Nat} {v : Value} {xs : List Value} (h : w.ownsRow base e sz v n xs) {p : Addr} (hp : p.block < base) (u : Value) : (w.setCell p u).ownsRow base e sz v n xs := by
  refine ⟨h.1, ?_⟩
  rcases h.2 with hn | ⟨g, cap, cur, rfl, hb, hg, rest⟩
  · exact .inl hn
  · exact .inr ⟨g, cap, cur, rfl, hb, (Below.heap_setCell w p u g (by omega)).trans hg, rest⟩
end Go.Proofs.YtemeapfnfegkiaaK
end
section
/- Package disk: rows of dots and of what was told, copied by append. -/
namespace Go.Proofs.Ytemeapfnfegkiaa.D
open Go Go.RowKit Go.Proofs.YtemeapfnfegkiaaK Go.Proofs.YtemeapfnfegkiaaW.PrintWords Go.Proofs.YtemeapfnfegkiaaW.PrintLast Go.Proofs.YtemeapfnfegkiaaW.PrintMore Go.Proofs.Ytemeapfnfegkiaa.PR
set_option linter.unusedVariables false
set_option linter.unusedSimpArgs false
def encD (x : Told) : List Value := [.int .i64 x.f0, .int .i64 x.f1, .bool x.f2]
theorem infoE (t : TypeId) (h : (Try.prog.info? t).map (fun i => (i.zero, i.size, i.bytes)) = some (some (.agg #[(.int .i64 0), (.int .i64 0), (.bool false)]), 3, 24)) : ∃ i, Try.prog.info? t = some i ∧ i.zero = some (.agg #[(.int .i64 0), (.int .i64 0), (.bool false)]) ∧ i.size = 3 ∧ i.bytes = 24 := by
  cases hi : Try.prog.info? t with
  | none => rw [hi] at h; cases h
  | some i => rw [hi] at h; simp at h; exact ⟨i, rfl, h.1, h.2.1, h.2.2⟩
theorem infoD : ∃ i, Try.prog.info? 52 = some i ∧ i.zero = some (.agg #[(.int .i64 0), (.int .i64 0), (.bool false)]) ∧ i.size = 3 ∧ i.bytes = 24 := infoE _ (by kernel_rfl)
theorem encD_one (x : Told) : ∀ u ∈ encD x, u.oneCell' = true := by simp [encD, Value.oneCell']
theorem own_form {w : World} {base e sz n k : Nat} {v : Value} {cs : List Value} (h : w.ownsRow base e sz v n cs) (hk : v.ownBlock = some k) : ∃ c, v = .slice (some ⟨k, 0, none⟩) n c := by
  rcases h.2 with ⟨rfl, _⟩ | ⟨g, cap, cur, rfl, _⟩
  · simp [Value.ownBlock] at hk
  · simp [Value.ownBlock] at hk
    subst hk
    exact ⟨_, rfl⟩
theorem append_tolds {w : World} {base ty g m c0 k0 : Nat} {ys : List Told} (hm : m = ys.length) (hown : w.ownsRow base 52 3 (.slice (some ⟨g, 0, none⟩) m c0) ys.length (ys.flatMap encD)) {A : Option Addr} {c n : Nat} {xs : List Told} (hx : n = xs.length)
    (h : Kd.C k52 w A xs.length xs) (hk0 : k0 = ys.length + xs.length) (hn : (ys.length + xs.length) * 24 ≤ 140737488355328) (hbase : base ≤ w.heap.size) :
    ∃ g' c' w', (Builtin.append_ #[25, 25] ty #[.slice (some ⟨g, 0, none⟩) m c0, .slice A n c]).run Try.prog w = .ok (.slice (some ⟨g', 0, none⟩) k0 c') w' ∧ base ≤ g' ∧ w'.ownsRow base 52 3 (.slice (some ⟨g', 0, none⟩) k0 c') (ys ++ xs).length ((ys ++ xs).flatMap encD) ∧ Below base w w' ∧ w.grownBy w' (some g) := by
  subst hm hx hk0
  obtain ⟨i, hi, hz, hs, hb⟩ := infoD
  obtain ⟨v', w', hr, ho, hg, hb'⟩ := append_row (ty := ty) (d := k52) (enc := encD) (fun w x cs hK => k52_open hK) (fun _ => rfl) encD_one Try.underlying25 hi hz hs hb rfl (by decide) (by decide) hown h hn hbase (fun hA => by
    have hx0 := C_some h hA
    have hle := own_le hown
    rw [hx0]
    exact append_none (z := .bool false) Try.underlying25 hi g _ c0 c hle)
  obtain ⟨k, hk⟩ : ∃ k, v'.ownBlock = some k := by rcases hb' with e | e <;> exact ⟨_, e⟩
  obtain ⟨c', rfl⟩ := own_form ho hk
  rw [List.length_append] at hr ho
  refine ⟨k, c', w', hr, own_base ho k rfl, by rw [List.length_append]; exact ho, (Below.refl base w).grown hg hbase (fun k' e => own_base hown k' e), hg⟩
theorem step_tolds {ops : Array Oper} {o : Oper} {a : Act} {W : World} {K : Act → World → Prop} {Q : Exit → Act → World → Prop} {E : Prop} {base g m c0 c n k0 : Nat} {A : Option Addr} {ys xs : List Told} (hgd : o.guard = none) (s x : Operand)
    (ho : o.op = .call { callee := .builtin .append, args := #[s, x], argTypes := #[25, 25] }) (hs : a.eval s = .slice (some ⟨g, 0, none⟩) m c0) (hx : a.eval x = .slice A n c) (hm : m = ys.length) (hn : n = xs.length) (hk0 : k0 = ys.length + xs.length)
    (hown : W.ownsRow base 52 3 (.slice (some ⟨g, 0, none⟩) m c0) ys.length (ys.flatMap encD)) (hC : Kd.C k52 W A xs.length xs) (hl : (ys.length + xs.length) * 24 ≤ 140737488355328) (hb : base ≤ W.heap.size)
    (hk : ∀ g' c' w', base ≤ g' → w'.ownsRow base 52 3 (.slice (some ⟨g', 0, none⟩) k0 c') (ys ++ xs).length ((ys ++ xs).flatMap encD) → Below base W w' → W.grownBy w' (some g) → K (a.put o.dst (.slice (some ⟨g', 0, none⟩) k0 c')) w') :
    if Region.wanted o (yielded ops a.tmps) = true then Oper.wp Try.prog o a W K Q else E := by
  obtain ⟨g', c', w', hr, h1, h2, h3, h4⟩ := append_tolds (ty := o.type) hm hown hn hC hk0 hl hb
  exact step_run (R := fun v' w'' => v' = .slice (some ⟨g', 0, none⟩) k0 c' ∧ w'' = w') hgd s x 25 ho hs hx ⟨_, _, hr, rfl, rfl⟩ (fun v' w'' ⟨e1, e2⟩ => by subst e1 e2; exact hk g' c' _ h1 h2 h3 h4)
theorem tolds_read {w : World} {base : Nat} {v : Value} {xs : List Told} (h : w.ownsRow base 52 3 v xs.length (xs.flatMap encD)) (hn : xs.length ≤ 9223372036854775807) : ∃ A c, v = .slice A xs.length c ∧ xs.length ≤ c ∧ Kd.C k52 w A xs.length xs :=
  row_read (d := k52) (enc := encD) (fun w x => k52_mk w x) (fun _ => rfl) h hn
theorem C_one_told {w : World} {g : Nat} (x : Told) (h : w.heap[g]? = some (.cells #[.int .i64 x.f0, .int .i64 x.f1, .bool x.f2] 52 (0, 0))) : Kd.C k52 w (some ⟨g, 0, none⟩) [x].length [x] := by
  refine ⟨rfl, by simp, fun _ => ⟨_, rfl, fun j p hj => ?_⟩⟩
  have hj5 : j < 1 := (List.getElem?_eq_some_iff.1 hj).1
  obtain rfl : j = 0 := by omega
  cases hj; refine ⟨_, rfl, k52_mk w _, fun i u hu => ?_⟩
  have hi := (List.getElem?_eq_some_iff.1 hu).1; simp at hi; have hh : i = 0 ∨ i = 1 ∨ i = 2 := by omega
  rcases hh with rfl | rfl | rfl <;> cases hu <;> exact cell3 h _ rfl
theorem own_new1 {w : World} {base e sz n : Nat} (hn : w.heap.size = n) (hb : base ≤ n) : (w.alloc (.cells #[] e)).ownsRow base e sz (.slice (some ⟨n, 0, none⟩) 0 0) 0 [] := by
  subst hn; exact own_new0 hb
end Go.Proofs.Ytemeapfnfegkiaa.D
end
