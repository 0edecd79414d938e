/- Contracts of the functions that this claim reaches, with the words for them: pruned and packed by wip/tools/prune.py. -/
import Derived.Test.YtemeapfnfegkiaaUd
import Derived.Below
import Derived.Deep.Draws
import Derived.Deep.AppendLies
import Derived.Maps.AppendAt
import Derived.OwnWalk
import Derived.Laws.BytesArg
import Derived.Laws.MakeOwn
import Derived.Laws.OwnMore
import Derived.Deep.OwnRows
import Derived.Tactics
import Derived.Lib.ConvBytes
import Derived.Laws.Slices
import Derived.WalkKit
import Derived.KernelRfl
import Derived.RowKit3
import Derived.Deep.LoopGhost
import Derived.Deep.QuietTactic
import Derived.BigQuiet
import Derived.WideLaws
import Derived.Deep.DeepCutAuto
import Derived.Deep.CutBlock
import Derived.Deep.RegionHeld3
import Derived.Laws.Rows
import Derived.Lib.AppendStr
import Derived.ArgAppend
import Derived.Laws.IdiomCopy
import Derived.RowKit
section
set_option linter.unusedVariables false
set_option linter.unusedSimpArgs false
namespace Go.Proofs.YtemeapfnfegkiaaW.PrintWords
open Go.RowKit

section
variable {P : Program} {ops : Array Oper} {rest : List Oper} {o : Oper} {a : Act} {Q : Exit → Act → World → Prop}

end

section
variable {P : Program}
end
section
variable {P : Program} {ops : Array Oper} {rest : List Oper} {o : Oper} {a : Act} {Q : Exit → Act → World → Prop}
end

def bytesOf (s : ByteArray) : List Int := s.data.toList.map fun b => (b.toNat : Int)
section
variable {P : Program} {ops : Array Oper} {rest : List Oper} {o : Oper} {a : Act} {Q : Exit → Act → World → Prop}
end

section
variable {P : Program} {ops : Array Oper} {o : Oper} {a : Act} {Q : Exit → Act → World → Prop} {K : Act → World → Prop}
end
section
variable {α : Type} {enc : α → Value} {d : α}
end
section
variable {α : Type} {P : Program} {ops : Array Oper} {rest : List Oper} {o : Oper} {a : Act} {Q : Exit → Act → World → Prop}
end

section
variable {P : Program}
end
section
variable {α : Type} {R R' : α → List Value → Prop} {e : TypeId} {size : Nat} {w w1 : World} {base : Nat} {v : Value} {ps : List α}
end
section
variable {P : Program} {ops : Array Oper} {rest : List Oper} {o : Oper} {a : Act} {Q : Exit → Act → World → Prop} {α : Type} {R : α → List Value → Prop}
end
section
variable {P : Program} {ops : Array Oper} {o : Oper} {a : Act} {Q : Exit → Act → World → Prop} {K : Act → World → Prop} {α : Type} {R : α → List Value → Prop}
end
section
variable {α : Type} {P : Program}
end

section
variable {P : Program} {ops : Array Oper} {rest : List Oper} {o : Oper} {a : Act} {Q : Exit → Act → World → Prop}
end
namespace Kd
section
variable {α : Type} {d : Kd α} {e : Nat} {w w1 : World} {base : Nat} {ok ok' : Nat → Prop} {v : Value} {xs : List α}
end

section
variable {P : Program} {ops : Array Oper} {rest : List Oper} {o : Oper} {a : Act} {Q : Exit → Act → World → Prop} {α : Type}
end
section
variable {P : Program} {ops : Array Oper} {o : Oper} {a : Act} {Q : Exit → Act → World → Prop} {Kc : Act → World → Prop} {α : Type}
end
end Kd
namespace Kd
section
variable {α : Type} {F : Kd α → Kd α} {sz : Nat} {E : List Nat} {hs : ∀ n, (upto F sz E n).sz = sz} {hE : ∀ n q, q ∈ (upto F sz E n).E → q ∈ E}
end
end Kd
namespace Kd
end Kd
namespace Kd
section
variable {α β : Type} {d : Kd α} {d' : Kd β} {e e' : Nat} {w w1 W : World} {base b b' : Nat} {ok ok' okv oku : Nat → Prop} {v u : Value} {xs : List α} {ys : List β}
end
section
variable {w W : World} {A : Option Addr} {n : Nat}
variable {α : Type} {enc : α → Value} {h1 : ∀ x, (enc x).oneCell' = true} {e base g cap : Nat} {ok : Nat → Prop} {xs : List α}
end

section
variable {P : Program} {ops : Array Oper} {rest : List Oper} {o : Oper} {a : Act} {Q : Exit → Act → World → Prop}
variable {α : Type}
end
end Kd
section
variable {P : Program}
end
section
variable {w w1 : World} {base n size : Nat} {e : TypeId} {v : Value} {xs : List Value}
end
section
variable {P : Program}
end
namespace Kd
section
variable {α : Type} {d : Kd α} {e : Nat} {w w1 W : World} {base : Nat} {ok ok' : Nat → Prop} {v : Value} {xs : List α}
end
section
variable {P : Program} {ops : Array Oper} {rest : List Oper} {o : Oper} {a : Act} {Q' : Exit → Act → World → Prop} {Kc : Act → World → Prop} {α : Type}
end
end Kd
namespace Kd
section
variable {α : Type} {d : Kd α} {e e' : Nat} {w w1 W : World} {base : Nat} {ok : Nat → Prop} {u v : Value} {xs : List α}
end
end Kd
namespace Kd
section
variable {α : Type} {d : Kd α} {e base g n cap : Nat} {ok okp : Nat → Prop} {W : World} {xs : List α}
end
end Kd
namespace Kd
section
variable {α : Type} {F : Kd α → Kd α} {sz : Nat} {E : List Nat} {hs : ∀ n, (upto F sz E n).sz = sz} {hE : ∀ n q, q ∈ (upto F sz E n).E → q ∈ E}
end
end Kd
namespace Kd
section
variable {P : Program} {ops : Array Oper} {rest : List Oper} {o : Oper} {a : Act} {Q : Exit → Act → World → Prop} {α : Type}
end
end Kd
namespace Kd
section
variable {P : Program} {ops : Array Oper} {rest : List Oper} {o : Oper} {a : Act} {Q : Exit → Act → World → Prop} {α : Type}
end
end Kd
namespace Kd
section
variable {α : Type} {k : Kd α} {w : World} {A : Option Addr} {xs : List α} {m c : Nat}
end
end Kd
section
variable {P : Program}
end
namespace Kd
section
variable {α β : Type} {d : Kd α} {d' : Kd β} {e e' base base' n : Nat} {ok ok' : Nat → Prop} {w W w1 W1 : World} {v u : Value} {xs : List α} {ys : List β} {A : Option Addr} {c : Nat}
end
section
variable {α : Type} {enc : α → Value} {h1 : ∀ x, (enc x).oneCell' = true} {w W : World} {A : Option Addr} {n g : Nat} {xs : List α}
end
end Kd
namespace Kd
section
variable {α : Type} {d : Kd α} {e base g : Nat} {ok : Nat → Prop} {w w1 : World} {v : Value} {xs : List α} {o : Obj}
end
end Kd
section
variable {P : Program} {ops : Array Oper} {rest : List Oper} {o : Oper} {a : Act} {Q : Exit → Act → World → Prop}
end
namespace Kd
section
variable {α : Type} {enc : α → Value} {h1 : ∀ x, (enc x).oneCell' = true} {e base g n cap : Nat} {ok : Nat → Prop} {W : World} {xs : List α}
end
end Kd
section
variable {P : Program} {ops : Array Oper} {rest : List Oper} {o : Oper} {a : Act} {Q : Exit → Act → World → Prop}
end
namespace Kd
section
variable {α : Type} {enc : α → Value} {h1 : ∀ x, (enc x).oneCell' = true} {e base g n cap : Nat} {ok : Nat → Prop} {W : World} {xs : List α}
end
end Kd
section
variable {P : Program} {ops : Array Oper} {rest : List Oper} {o : Oper} {a : Act} {Q : Exit → Act → World → Prop} {W : World}
end
section
variable {P : Program} {ops : Array Oper} {o : Oper} {a : Act} {Q : Exit → Act → World → Prop} {Kc : Act → World → Prop}
namespace Kd
variable {α : Type}
end Kd
end
section
variable {P : Program} {tmps : Array Value} {w : World}
end
namespace Kd
section
variable {P : Program} {α : Type}
end
section
variable {P : Program} {ops : Array Oper} {rest : List Oper} {o : Oper} {a : Act} {Q : Exit → Act → World → Prop} {Kc : Act → World → Prop} {α : Type}
end
end Kd

end Go.Proofs.YtemeapfnfegkiaaW.PrintWords
end
section
namespace Go.Proofs.YtemeapfnfegkiaaW.PrintWords
open Go.RowKit
section
variable {P : Program} {ops : Array Oper} {rest : List Oper} {o : Oper} {a : Act} {Q : Exit → Act → World → Prop} {W : World}
theorem gate_guard (hw : Region.wanted o (yielded ops a.tmps) = true) (h : wpList P ops Q ({ o with guard := none } :: rest) a W) : wpList P ops Q (o :: rest) a W := by
  have h1 : Region.wanted { o with guard := none } (yielded ops a.tmps) = true := rfl
  unfold wpList at h ⊢
  rw [if_pos h1] at h
  rw [if_pos hw]
  exact h
end
end Go.Proofs.YtemeapfnfegkiaaW.PrintWords
end
section
namespace Go.Proofs.Ytemeapfnfegkiaa.PR
open Go.RowKit Go.Proofs.YtemeapfnfegkiaaW.PrintWords Go.Proofs.YtemeapfnfegkiaaW.PrintLast Go.Proofs.YtemeapfnfegkiaaW.PrintMore
attribute [local go_sem] max2_int min2_int max_two min_two max_three min_three max_four min_four   -- for this text's walks alone
set_option linter.unusedVariables false
set_option linter.unusedSimpArgs false

mutual
def helioscoperef01_All.l0 : Nat → List (List Int) → List (S57) → Int → ByteArray → Int → Int → Int → List (S80) → List (S52) → Option ((List (S57)))
 | 0, _, _, _, _, _, _, _, _, _ => none
 | k + 1, x3, x4, x5, x186000, x186001, x186002, x186003, x186004, x186005 => if x5 ≤ x186003 then (helioscoperef01_All.l1 k x3 x4 x5 0 x186000 x186001 x186002 x186003 x186004 x186005) else (some x4)
def helioscoperef01_All.l1 : Nat → List (List Int) → List (S57) → Int → Int → ByteArray → Int → Int → Int → List (S80) → List (S52) → Option ((List (S57)))
 | 0, _, _, _, _, _, _, _, _, _, _ => none
 | k + 1, x3, x4, x5, x6, x186000, x186001, x186002, x186003, x186004, x186005 => if x6 < (x3.length : Int) then (if 0 ≤ x6 then ((helioscoperef01_grouped.f k x186000 x186001 x186002 x186003 x186004 x186005 x5 (rd_L4 x3 x6)).bind fun t190 => (if x4.length < 4398046511104 then (helioscoperef01_All.l1 k x3 (x4 ++ [(⟨x5, t190⟩ : S57)]) x5 (wrap64 (x6 + 1)) x186000 x186001 x186002 x186003 x186004 x186005) else (none))) else (none)) else (helioscoperef01_All.l0 k x3 x4 (wrap64 (x5 + 1)) x186000 x186001 x186002 x186003 x186004 x186005)
end
def helioscoperef01_All.f (k : Nat) (a0_0 : ByteArray) (a0_1 : Int) (a0_2 : Int) (a0_3 : Int) (l0_4 : List (S80)) (l0_5 : List (S52)) : Option ((List (S57))) := (helioscoperef01_sets.f k a0_0 a0_1 a0_2 a0_3 l0_4 l0_5).bind fun t186 => (helioscoperef01_All.l0 k t186 ([] : List (S57)) a0_2 a0_0 a0_1 a0_2 a0_3 l0_4 l0_5)
def helioscoperef01_All.T9 : Bool × List (List Nat × List Nat) := (true, [([], []), ([], []), ([], []), ([], []), ([], []), ([], []), ([4, 5], [4, 5]), ([6], [6]), ([2, 3, 7], [2, 3, 7]), ([1, 8], [1, 8]), ([9], [9]), ([0, 10, 8], [0, 10]), ([11, 11, 0, 1, 2, 3, 4, 5, 6, 7, 8, 9, 10, 11], [0, 11])])
def helioscoperef01_All.B9 : List Nat := [0, 0, 0, 0, 0, 0, 48, 112, 252, 510, 1022, 2047, 4095]
theorem helioscoperef01_All.tab9 : rtab .any (opsOf Try.f110 9) = helioscoperef01_All.T9 := by kernel_rfl
theorem helioscoperef01_All.bits9 : waitsOk helioscoperef01_All.T9.2 helioscoperef01_All.B9 = true := by kernel_rfl
set_option maxHeartbeats 8000000 in
set_option maxRecDepth 100000 in
theorem helioscoperef01_All.calls (k : Nat) (a0_0 : ByteArray) (a0_1 : Int) (a0_2 : Int) (a0_3 : Int) (A0_4 : Option Addr) (c0_4 : Nat) (l0_4 : List (S80)) (A0_5 : Option Addr) (c0_5 : Nat) (l0_5 : List (S52)) (r : List (S57)) (w : World) (hr0_4 : Kd.C k80 w A0_4 l0_4.length l0_4) (hc0_4 : l0_4.length ≤ c0_4) (hr0_5 : Kd.C k52 w A0_5 l0_5.length l0_5) (hc0_5 : l0_5.length ≤ c0_5) (h : helioscoperef01_All.f k a0_0 a0_1 a0_2 a0_3 l0_4 l0_5 = some r) :
  Calls Try.prog 110 #[.agg #[.string a0_0, .int .i64 a0_1, .int .i64 a0_2, .int .i64 a0_3, .slice A0_4 l0_4.length c0_4, .slice A0_5 l0_5.length c0_5]] w fun e w' => ∃ v0_ : Value, e = .returned (v0_) ∧ Kd.N k57 57 w' w.heap.size (fun k_ => (w.heap.size ≤ k_)) v0_ r ∧ Below w.heap.size w w' := by
 have hu27 := Try.underlying27
 have hu57 := Try.underlying57
 have HR0_4 := Aside0.mk hr0_4
 have HC0_4 := Aside0.mk hc0_4
 clear hr0_4 hc0_4
 have HR0_5 := Aside0.mk hr0_5
 have HC0_5 := Aside0.mk hc0_5
 clear hr0_5 hc0_5
 have HB := Aside0.mk (Below.refl w.heap.size w)
 have H : ((helioscoperef01_sets.f k a0_0 a0_1 a0_2 a0_3 l0_4 l0_5).bind fun t186 => (helioscoperef01_All.l0 k t186 ([] : List (S57)) a0_2 a0_0 a0_1 a0_2 a0_3 l0_4 l0_5)) = some r := h
 clear h
 replace H := Option.bind_eq_some_iff.mp H
 obtain ⟨t186, A20, H⟩ := H
 replace H : (helioscoperef01_All.l0 k t186 ([] : List (S57)) a0_2 a0_0 a0_1 a0_2 a0_3 l0_4 l0_5) = some r := H
 have A2 := Aside0.mk A20
 clear A20
 have H' := Aside0.mk H
 clear H
 go_enter Try.func110, Try.ntmps110
 go_wp2_with (first | ((with_reducible refine gate_dst (N := 1) rfl ?_); refine box_event ?hg (N := 1) ?hd (cs := #[.string a0_0, .int .i64 a0_1, .int .i64 a0_2, .int .i64 a0_3, .slice A0_4 l0_4.length c0_4, .slice A0_5 l0_5.length c0_5]) (t := 27) ?hr ?_; (case hd => rfl); (case hg => rfl); (case hr => first | (go_simp; done) | (go_simp; rfl)); intro gb185 hg w3 hbox hb; have n0_ := Aside0.mk (below_step (by repeat (first | (with_reducible first | exact HB.out | apply below_alloc | apply pw_below_drewN | apply below_drew1) | exact HB.out)) hb); have n1_ := Aside0.mk (hbox); have n2_ := Aside0.mk ((by rw [hg]; exact (below_size (by repeat (first | (with_reducible first | exact HB.out | apply below_alloc | apply pw_below_drewN | apply below_drew1) | exact HB.out))) : w.heap.size ≤ gb185)); have n3_ := Aside0.mk ((by rw [hg]; exact (below_size (by repeat (first | (with_reducible first | exact HB.out | apply below_alloc | apply pw_below_drewN | apply below_drew1) | exact HB.out))) : w.heap.size ≤ gb185)); clear HB; have HB := n0_; have BK185 := n1_; have GW185 := n2_; have GE185 := n3_; clear n0_ n1_ n2_ n3_; clear hb hbox hg; have hcz4_0 : w3.cell? ⟨gb185, 0, none⟩ = some (.string a0_0) := (blk_cell BK185.out 0).trans rfl; have hcz4_1 : w3.cell? ⟨gb185, 1, none⟩ = some (.int .i64 a0_1) := (blk_cell BK185.out 1).trans rfl; have hcz4_2 : w3.cell? ⟨gb185, 2, none⟩ = some (.int .i64 a0_2) := (blk_cell BK185.out 2).trans rfl; have hcz4_3 : w3.cell? ⟨gb185, 3, none⟩ = some (.int .i64 a0_3) := (blk_cell BK185.out 3).trans rfl; have hcz4_4 : w3.cell? ⟨gb185, 4, none⟩ = some (.slice A0_4 l0_4.length c0_4) := (blk_cell BK185.out 4).trans rfl; have hcz4_5 : w3.cell? ⟨gb185, 5, none⟩ = some (.slice A0_5 l0_5.length c0_5) := (blk_cell BK185.out 5).trans rfl; have hfz4_0 := blk_frozen BK185.out 0; have hfz4_1 := blk_frozen BK185.out 1; have hfz4_2 := blk_frozen BK185.out 2; have hfz4_3 := blk_frozen BK185.out 3; have hfz4_4 := blk_frozen BK185.out 4; have hfz4_5 := blk_frozen BK185.out 5) | ((with_reducible refine gate_callee (f := 125) rfl ?_); refine goesL_ (some 8) rfl rfl Try.func125 (by kernel_rfl) rfl #[.agg #[.string a0_0, .int .i64 a0_1, .int .i64 a0_2, .int .i64 a0_3, .slice A0_4 l0_4.length c0_4, .slice A0_5 l0_5.length c0_5]] rfl (by (try simp only [List.map_toArray, List.map_cons, List.map_nil]); first | done | rfl | (simp only [List.length_drop, List.length_take]; rfl)) ?_; (with_reducible refine (helioscoperef01_sets.calls k a0_0 a0_1 a0_2 a0_3 _ _ l0_4 _ _ l0_5 t186 _ ?side1 ?side2 ?side3 ?side4 A2.out).mono ?_); (case side1 => repeat (first | exact (Kd.C_below HR0_4.out HB.out) | (with_reducible refine Kd.C_alloc ?_ _) | (with_reducible refine Kd.C_drewN ?_ _) | (with_reducible refine Kd.C_drew ?_))); (case side2 => exact HC0_4.out); (case side3 => repeat (first | exact (Kd.C_below HR0_5.out HB.out) | (with_reducible refine Kd.C_alloc ?_ _) | (with_reducible refine Kd.C_drewN ?_ _) | (with_reducible refine Kd.C_drew ?_))); (case side4 => exact HC0_5.out); rintro e w5 ⟨v187, rfl, ho0, hb⟩; refine ⟨_, rfl, ?_⟩; have n0_ := Aside0.mk (Kd.N_lower (Kd.N_mono (ok' := fun k_ => (w.heap.size ≤ k_) ∧ k_ ≠ gb185) ho0 (fun k_ hk_ => ⟨(Nat.le_trans (below_size (by repeat (first | (with_reducible first | exact HB.out | apply below_alloc | apply pw_below_drewN | apply below_drew1 | refine below_set ?_ GE185.out) | exact HB.out))) hk_), (Kd.freshB (g := gb185) (o := .cells #[.string a0_0, .int .i64 a0_1, .int .i64 a0_2, .int .i64 a0_3, .slice A0_4 l0_4.length c0_4, .slice A0_5 l0_5.length c0_5] 27 (0, 0)) (by (with_reducible repeat (first | refine blk_drewN ?_ _ | refine blk_drew ?_ | refine blk_alloc ?_ _)); exact BK185.out) k_ hk_)⟩)) (below_size (by repeat (first | (with_reducible first | exact HB.out | apply below_alloc | apply pw_below_drewN | apply below_drew1 | refine below_set ?_ GE185.out) | exact HB.out)))); have n1_ := Aside0.mk (blk_below (g := gb185) (o := .cells #[.string a0_0, .int .i64 a0_1, .int .i64 a0_2, .int .i64 a0_3, .slice A0_4 l0_4.length c0_4, .slice A0_5 l0_5.length c0_5] 27 (0, 0)) (by (with_reducible repeat (first | refine blk_drewN ?_ _ | refine blk_drew ?_ | refine blk_alloc ?_ _)); exact BK185.out) hb); have n2_ := Aside0.mk (below_step (by repeat (first | (with_reducible first | exact HB.out | apply below_alloc | apply pw_below_drewN | apply below_drew1 | refine below_set ?_ GE185.out) | exact HB.out)) hb); clear BK185; clear HB; have HO188 := n0_; have BK185 := n1_; have HB := n2_; clear n0_ n1_ n2_; (try clear hb); (try clear hb2); (try clear hk); (try clear hi); (try clear ho0); have hcz6_0 : w5.cell? ⟨gb185, 0, none⟩ = some (.string a0_0) := (blk_cell BK185.out 0).trans rfl; have hcz6_1 : w5.cell? ⟨gb185, 1, none⟩ = some (.int .i64 a0_1) := (blk_cell BK185.out 1).trans rfl; have hcz6_2 : w5.cell? ⟨gb185, 2, none⟩ = some (.int .i64 a0_2) := (blk_cell BK185.out 2).trans rfl; have hcz6_3 : w5.cell? ⟨gb185, 3, none⟩ = some (.int .i64 a0_3) := (blk_cell BK185.out 3).trans rfl; have hcz6_4 : w5.cell? ⟨gb185, 4, none⟩ = some (.slice A0_4 l0_4.length c0_4) := (blk_cell BK185.out 4).trans rfl; have hcz6_5 : w5.cell? ⟨gb185, 5, none⟩ = some (.slice A0_5 l0_5.length c0_5) := (blk_cell BK185.out 5).trans rfl; have hfz6_0 := blk_frozen BK185.out 0; have hfz6_1 := blk_frozen BK185.out 1; have hfz6_2 := blk_frozen BK185.out 2; have hfz6_3 := blk_frozen BK185.out 3; have hfz6_4 := blk_frozen BK185.out 4; have hfz6_5 := blk_frozen BK185.out 5))
 go_loopg [4, 5] k (fun kq v4 v5 w' => ∃ (x4_1 : List (S57)) (x5_1 : Int), v5 = .int .i64 x5_1 ∧ Aside0 (helioscoperef01_All.l0 kq t186 x4_1 x5_1 a0_0 a0_1 a0_2 a0_3 l0_4 l0_5 = some r) ∧ Aside0 (kq ≤ k) ∧ Aside0 (Kd.N (Kd.slice 3 (Kd.int .i64)) 46 w' w.heap.size (fun k_ => (w.heap.size ≤ k_) ∧ some k_ ≠ (v4 : Value).ownBlock ∧ k_ ≠ gb185) v187 t186) ∧ Aside0 (Kd.N k57 57 w' w.heap.size (fun k_ => (w.heap.size ≤ k_) ∧ some k_ ≠ (v187 : Value).ownBlock ∧ k_ ≠ gb185) v4 x4_1) ∧ Aside0 (w'.heap[gb185]? = some (.cells #[.string a0_0, .int .i64 a0_1, .int .i64 a0_2, .int .i64 a0_3, (.slice A0_4 l0_4.length c0_4), (.slice A0_5 l0_5.length c0_5)] 27 (0, 0))) ∧ Aside0 (Below w.heap.size w w'))
 case atStart => exact ⟨(([] : List (S57))), (a0_2), (by first | rfl | (simp; done) | (simp [*]; done)), H', ⟨Nat.le_refl _⟩, ⟨by (with_reducible repeat (first | apply Kd.N_alloc | apply Kd.N_drewN | apply Kd.N_drew)); exact Kd.N_mono HO188.out (fun _ hk => ⟨hk.1, ⟨(by simp [Value.ownBlock]), hk.2⟩⟩)⟩, ⟨by first | exact Kd.S_nil _ _ _ _ _ | exact Kd.N_nil _ _ _ _ _ | exact Kd.V_nil _ _ _ _ _ | exact Kd.Q_nil _ _ _ _ _ | exact Kd.R_nil _ _ _ _ _⟩, ⟨by (with_reducible repeat (first | refine blk_drewN ?_ _ | refine blk_drew ?_ | refine blk_alloc ?_ _)); exact BK185.out⟩, ⟨by repeat (first | (with_reducible first | exact HB.out | apply below_alloc | apply pw_below_drewN | apply below_drew1 | refine below_set ?_ GE185.out) | exact HB.out)⟩⟩
 case round =>
  clear H'
  try clear c1
  try clear p2
  try clear hcz4_0
  try clear hcz4_1
  try clear hcz4_2
  try clear hcz4_3
  try clear hcz4_4
  try clear hcz4_5
  try clear hcz6_0
  try clear hcz6_1
  try clear hcz6_2
  try clear hcz6_3
  try clear hcz6_4
  try clear hcz6_5
  try clear hfz4_0
  try clear hfz4_1
  try clear hfz4_2
  try clear hfz4_3
  try clear hfz4_4
  try clear hfz4_5
  try clear hfz6_0
  try clear hfz6_1
  try clear hfz6_2
  try clear hfz6_3
  try clear hfz6_4
  try clear hfz6_5
  obtain ⟨x4_1, x5_1, rfl, HA, HK1, HO_3, HO_4, BK185, HB⟩ := hrel
  cases gk with
  | zero => exact absurd HA.out (by simp [helioscoperef01_All.l0])
  | succ k1 =>
   have H := HA.out
   clear HA
   simp only [helioscoperef01_All.l0] at H
   by_cases c7 : x5_1 ≤ a0_3
   ·
    rw [if_pos c7] at H
    have c7b0 : decide (x5_1 ≤ a0_3) = true := decide_eq_true c7
    clear c7
    have H' := Aside0.mk H
    clear H
    have hcz8_0 : wr.cell? ⟨gb185, 0, none⟩ = some (.string a0_0) := (blk_cell BK185.out 0).trans rfl
    have hcz8_1 : wr.cell? ⟨gb185, 1, none⟩ = some (.int .i64 a0_1) := (blk_cell BK185.out 1).trans rfl
    have hcz8_2 : wr.cell? ⟨gb185, 2, none⟩ = some (.int .i64 a0_2) := (blk_cell BK185.out 2).trans rfl
    have hcz8_3 : wr.cell? ⟨gb185, 3, none⟩ = some (.int .i64 a0_3) := (blk_cell BK185.out 3).trans rfl
    have hcz8_4 : wr.cell? ⟨gb185, 4, none⟩ = some (.slice A0_4 l0_4.length c0_4) := (blk_cell BK185.out 4).trans rfl
    have hcz8_5 : wr.cell? ⟨gb185, 5, none⟩ = some (.slice A0_5 l0_5.length c0_5) := (blk_cell BK185.out 5).trans rfl
    have hfz8_0 := blk_frozen BK185.out 0
    have hfz8_1 := blk_frozen BK185.out 1
    have hfz8_2 := blk_frozen BK185.out 2
    have hfz8_3 := blk_frozen BK185.out 3
    have hfz8_4 := blk_frozen BK185.out 4
    have hfz8_5 := blk_frozen BK185.out 5
    go_wp2
    go_loopg [4, 6] k1 (fun kq v4 v6 w' => ∃ (x4_2 : List (S57)) (x6_2 : Int), v6 = .int .i64 x6_2 ∧ Aside0 (helioscoperef01_All.l1 kq t186 x4_2 x5_1 x6_2 a0_0 a0_1 a0_2 a0_3 l0_4 l0_5 = some r) ∧ Aside0 (kq ≤ k1) ∧ Aside0 (Kd.N (Kd.slice 3 (Kd.int .i64)) 46 w' w.heap.size (fun k_ => (w.heap.size ≤ k_) ∧ some k_ ≠ (v4 : Value).ownBlock ∧ k_ ≠ gb185) v187 t186) ∧ Aside0 (Kd.N k57 57 w' w.heap.size (fun k_ => (w.heap.size ≤ k_) ∧ some k_ ≠ (v187 : Value).ownBlock ∧ k_ ≠ gb185) v4 x4_2) ∧ Aside0 (w'.heap[gb185]? = some (.cells #[.string a0_0, .int .i64 a0_1, .int .i64 a0_2, .int .i64 a0_3, (.slice A0_4 l0_4.length c0_4), (.slice A0_5 l0_5.length c0_5)] 27 (0, 0))) ∧ Aside0 (Below w.heap.size w w'))
    case atStart => exact ⟨(x4_1), (0), (by first | rfl | (simp; done) | (simp [*]; done)), H', ⟨Nat.le_refl _⟩, ⟨by (with_reducible repeat (first | apply Kd.N_alloc | apply Kd.N_drewN | apply Kd.N_drew)); exact HO_3.out⟩, ⟨by (with_reducible repeat (first | apply Kd.N_alloc | apply Kd.N_drewN | apply Kd.N_drew)); exact HO_4.out⟩, ⟨by (with_reducible repeat (first | refine blk_drewN ?_ _ | refine blk_drew ?_ | refine blk_alloc ?_ _)); exact BK185.out⟩, ⟨by repeat (first | (with_reducible first | exact HB.out | apply below_alloc | apply pw_below_drewN | apply below_drew1 | refine below_set ?_ GE185.out) | exact HB.out)⟩⟩
    case round =>
     clear H'
     try clear c1
     try clear p2
     try clear c7
     try clear c7b0
     try clear hcz4_0
     try clear hcz4_1
     try clear hcz4_2
     try clear hcz4_3
     try clear hcz4_4
     try clear hcz4_5
     try clear hcz6_0
     try clear hcz6_1
     try clear hcz6_2
     try clear hcz6_3
     try clear hcz6_4
     try clear hcz6_5
     try clear hcz8_0
     try clear hcz8_1
     try clear hcz8_2
     try clear hcz8_3
     try clear hcz8_4
     try clear hcz8_5
     try clear hfz4_0
     try clear hfz4_1
     try clear hfz4_2
     try clear hfz4_3
     try clear hfz4_4
     try clear hfz4_5
     try clear hfz6_0
     try clear hfz6_1
     try clear hfz6_2
     try clear hfz6_3
     try clear hfz6_4
     try clear hfz6_5
     try clear hfz8_0
     try clear hfz8_1
     try clear hfz8_2
     try clear hfz8_3
     try clear hfz8_4
     try clear hfz8_5
     try clear p2
     obtain ⟨x4_2, x6_2, rfl, HA, HK2, HO_3, HO_4, BK185, HB⟩ := hrel
     cases gk with
     | zero => exact absurd HA.out (by simp [helioscoperef01_All.l1])
     | succ k2 =>
      have H := HA.out
      clear HA
      simp only [helioscoperef01_All.l1] at H
      by_cases c9 : x6_2 < (t186.length : Int)
      ·
       rw [if_pos c9] at H
       have c9b0 : decide (x6_2 < (t186.length : Int)) = true := decide_eq_true c9
       clear c9
       by_cases c10 : 0 ≤ x6_2
       ·
        rw [if_pos c10] at H
        have c10b0 : decide (0 ≤ x6_2) = true := decide_eq_true c10
        clear c10
        replace H := Option.bind_eq_some_iff.mp H
        obtain ⟨t190, A110, H⟩ := H
        replace H : (if x4_2.length < 4398046511104 then (helioscoperef01_All.l1 k2 t186 (x4_2 ++ [(⟨x5_1, t190⟩ : S57)]) x5_1 (wrap64 (x6_2 + 1)) a0_0 a0_1 a0_2 a0_3 l0_4 l0_5) else (none)) = some r := H
        have A11 := Aside0.mk A110
        clear A110
        by_cases c12 : x4_2.length < 4398046511104
        ·
         rw [if_pos c12] at H
         have LMc12 := Aside0.mk c12
         clear c12
         obtain ⟨y193, hy193⟩ : ∃ y_ : List (S57), y_ = (x4_2 ++ [(⟨x5_1, t190⟩ : S57)]) := ⟨_, rfl⟩
         replace H : (helioscoperef01_All.l1 k2 t186 y193 x5_1 (wrap64 (x6_2 + 1)) a0_0 a0_1 a0_2 a0_3 l0_4 l0_5) = some r := by first | (rw [hy193]; with_reducible exact H) | (have H2_ := (Option.bind_some _ _).symm.trans H; rw [hy193]; with_reducible exact H2_) | (have H2_ := (Option.bind_some _ _).symm.trans H; with_reducible exact H2_) | with_reducible exact H | (rw [hy193]; exact H) | exact H
         have Ny193 := Aside0.mk hy193
         clear hy193
         have H' := Aside0.mk H
         clear H
         obtain ⟨Ao13, co13, eo13⟩ := Kd.N_slice HO_3.out
         subst eo13
         try go_wp2
         have n0_ := Aside0.mk (Kd.N_drew HO_3.out)
         have n1_ := Aside0.mk (Kd.N_drew HO_4.out)
         have n2_ := Aside0.mk (blk_drew BK185.out)
         have n3_ := Aside0.mk (below_drew1 HB.out)
         clear HO_3
         clear HO_4
         clear BK185
         clear HB
         have HO_3 := n0_
         have HO_4 := n1_
         have BK185 := n2_
         have HB := n3_
         clear n0_ n1_ n2_ n3_
         have p189 : 0 ≤ (x6_2 : Int) := of_decide_eq_true (by first | (with_reducible assumption) | assumption)
         have q189 : x6_2 < (t186.length : Int) := of_decide_eq_true (by first | (with_reducible assumption) | assumption)
         obtain ⟨ad189, A189_0, c189_0, e189, hx189_0, hl189_0, hi189_0⟩ := at_L4 (Kd.N_reads' HO_3.out).2.2 x6_2 p189 q189
         cases e189
         obtain ⟨ce189, hce189, hMe189, hcc189⟩ := Kd.N_get HO_3.out [] x6_2 p189 (by first | exact q189 | exact of_decide_eq_true (by first | (with_reducible assumption) | assumption) | (have e_ := (Kd.N_reads' HO_3.out).1; omega))
         obtain ⟨ua189_0, uc189_0, rfl, ul189_0, ge189_0⟩ := Kd.FK_slice_open hMe189
         have hv189_0 := hcc189 0 _ rfl
         rw [Nat.add_zero, show ((Kd.slice 3 (Kd.int .i64))).sz = 1 from rfl, Nat.mul_one] at hv189_0
         replace hv189_0 := Option.some.inj (hv189_0.symm.trans hx189_0)
         injection hv189_0 with hva_ hvn_ hvc_
         rw [hva_] at ge189_0
         rw [hvc_] at ul189_0
         have HL189_0 := Aside0.mk (show Kd.V (Kd.int .i64) 3 _ w.heap.size _ _ (rd_L4 t186 x6_2) from Kd.V_mk ul189_0 ge189_0)
         clear hva_ hvn_ hvc_ ge189_0 ul189_0
         clear hcc189 hce189
         have HR189_0 := Aside0.mk hi189_0
         have HC189_0 := Aside0.mk hl189_0
         clear hi189_0 hl189_0
         replace p189 := eq_true p189
         replace q189 := eq_true q189
         refine start_ (n := 13) (S := fun w' => w'.cell? ⟨gb185, 0, none⟩ = some (.string a0_0) ∧ w'.cell? ⟨gb185, 1, none⟩ = some (.int .i64 a0_1) ∧ w'.cell? ⟨gb185, 2, none⟩ = some (.int .i64 a0_2) ∧ w'.cell? ⟨gb185, 3, none⟩ = some (.int .i64 a0_3) ∧ w'.cell? ⟨gb185, 4, none⟩ = some (.slice A0_4 l0_4.length c0_4) ∧ w'.cell? ⟨gb185, 5, none⟩ = some (.slice A0_5 l0_5.length c0_5) ∧ w'.cell? (ad189.add (x6_2).toNat) = some (.slice A189_0 (rd_L4 t186 x6_2).length c189_0)) (ds := [10, 11]) #[false, false, false, false, false, false, false, false, false, false, false, false, false] (by kernel_rfl) rfl rfl ⟨(blk_cell BK185.out 0).trans rfl, (blk_cell BK185.out 1).trans rfl, (blk_cell BK185.out 2).trans rfl, (blk_cell BK185.out 3).trans rfl, (blk_cell BK185.out 4).trans rfl, (blk_cell BK185.out 5).trans rfl, hx189_0⟩ (fun hHeld => ?_); refine with_tabW helioscoperef01_All.tab9 helioscoperef01_All.bits9 (fun HT_ HW_ => ?_)
         generalize wr.drew = w14 at HO_3 HO_4 BK185 HB HL189_0 HR189_0 hx189_0 hHeld ⊢
         refine pure_ (i := 0) (N := some 25) (v := ?_) (a' := ?_) #[true, false, false, false, false, false, false, false, false, false, false, false, false] rfl rfl (any_of HT_.out (by kernel_rfl)) (fun _ _ _ h => h) (Or.inl ⟨by rfl, ?_⟩) ?_ ?_
         rotate_left
         ·
          intro w'
          go_simp
          with_reducible rfl
         rotate_left
         ·
          simp only [Act.put, List.setIfInBounds_toArray, List.set_cons_zero, List.set_cons_succ, i64_w, i32_w]
          rfl
         refine pure_ (i := 1) (N := some 26) (v := ?_) (a' := ?_) #[true, true, false, false, false, false, false, false, false, false, false, false, false] rfl rfl (any_of HT_.out (by kernel_rfl)) (fun _ _ _ h => h) (Or.inl ⟨by rfl, ?_⟩) ?_ ?_
         rotate_left
         ·
          intro w'
          go_simp
          with_reducible rfl
         rotate_left
         ·
          simp only [Act.put, List.setIfInBounds_toArray, List.set_cons_zero, List.set_cons_succ, i64_w, i32_w]
          rfl
         refine pure_ (i := 3) (N := some 28) (v := ?_) (a' := ?_) #[true, true, false, true, false, false, false, false, false, false, false, false, false] rfl rfl (any_of HT_.out (by kernel_rfl)) (fun _ _ _ h => h) (Or.inl ⟨by rfl, ?_⟩) ?_ ?_
         rotate_left
         ·
          intro w'
          go_simp
          with_reducible rfl
         rotate_left
         ·
          simp only [Act.put, List.setIfInBounds_toArray, List.set_cons_zero, List.set_cons_succ, i64_w, i32_w]
          rfl
         refine pure_ (i := 4) (N := some 29) (v := ?_) (a' := ?_) #[true, true, false, true, true, false, false, false, false, false, false, false, false] rfl rfl (any_of HT_.out (by kernel_rfl)) (fun _ _ _ h => h) (Or.inl ⟨by rfl, ?_⟩) ?_ ?_
         rotate_left
         ·
          intro w'
          go_simp
          with_reducible rfl
         rotate_left
         ·
          simp only [Act.put, List.setIfInBounds_toArray, List.set_cons_zero, List.set_cons_succ, i64_w, i32_w]
          rfl
         refine pure_ (i := 5) (N := some 30) (v := ?_) (a' := ?_) #[true, true, false, true, true, true, false, false, false, false, false, false, false] rfl rfl (any_of HT_.out (by kernel_rfl)) (fun _ _ _ h => h) (Or.inl ⟨by rfl, ?_⟩) ?_ ?_
         rotate_left
         ·
          intro w'
          go_simp
          with_reducible rfl
         rotate_left
         ·
          simp only [Act.put, List.setIfInBounds_toArray, List.set_cons_zero, List.set_cons_succ, i64_w, i32_w]
          rfl
         refine pure_ (i := 6) (N := some 31) (v := ?_) (a' := ?_) #[true, true, false, true, true, true, true, false, false, false, false, false, false] rfl rfl (any_of HT_.out (by kernel_rfl)) (fun _ _ _ h => h) (Or.inl ⟨by rfl, ?_⟩) ?_ ?_
         rotate_left
         ·
          intro w'
          go_simp
          with_reducible rfl
         rotate_left
         ·
          simp only [Act.put, List.setIfInBounds_toArray, List.set_cons_zero, List.set_cons_succ, i64_w, i32_w]
          rfl
         refine take_ (i := 2) (N := some 27) (v := ?_) (a' := ?_) #[true, true, true, true, true, true, true, false, false, false, false, false, false] rfl rfl (take_ofW HT_.out HW_.out (by kernel_rfl)) (fun _ _ _ h => h) (Or.inl ⟨by rfl, ?_⟩) hHeld ?_ ?_
         rotate_left
         ·
          rintro w' ⟨s0, s1, s2, s3, s4, s5, s6⟩
          go_simp
          with_reducible rfl
         rotate_left
         ·
          simp only [Act.put, List.setIfInBounds_toArray, List.set_cons_zero, List.set_cons_succ, i64_w, i32_w]
          rfl
         refine take_ (i := 7) (N := some 32) (v := ?_) (a' := ?_) #[true, true, true, true, true, true, true, true, false, false, false, false, false] rfl rfl (take_ofW HT_.out HW_.out (by kernel_rfl)) (fun _ _ _ h => h) (Or.inl ⟨by rfl, ?_⟩) hHeld ?_ ?_
         rotate_left
         ·
          rintro w' ⟨s0, s1, s2, s3, s4, s5, s6⟩
          go_simp
          with_reducible rfl
         rotate_left
         ·
          simp only [Act.put, List.setIfInBounds_toArray, List.set_cons_zero, List.set_cons_succ, i64_w, i32_w]
          rfl
         refine one_ (i := 8) (N := some 33) #[true, true, true, true, true, true, true, true, true, false, false, false, false] rfl rfl (one_of HT_.out (by kernel_rfl)) (by decide) (fun K hK => ?_)
         refine goes_ Try.func126 (by kernel_rfl) rfl #[.agg #[.string a0_0, .int .i64 a0_1, .int .i64 a0_2, .int .i64 a0_3, .slice A0_4 l0_4.length c0_4, .slice A0_5 l0_5.length c0_5], .int .i64 x5_1, .slice A189_0 (rd_L4 t186 x6_2).length c189_0] (by rfl) rfl rfl (by (try simp only [List.map_toArray, List.map_cons, List.map_nil]); first | done | rfl | (simp only [List.length_drop, List.length_take]; rfl)) ?_
         with_reducible refine (helioscoperef01_grouped.calls k2 a0_0 a0_1 a0_2 a0_3 _ _ l0_4 _ _ l0_5 x5_1 _ _ (rd_L4 t186 x6_2) t190 _ ?side1 ?side2 ?side3 ?side4 ?side5 ?side6 A11.out).mono ?_
         (case side1 => repeat (first | exact (Kd.C_below HR0_4.out HB.out) | (with_reducible refine Kd.C_alloc ?_ _) | (with_reducible refine Kd.C_drewN ?_ _) | (with_reducible refine Kd.C_drew ?_)))
         (case side2 => exact HC0_4.out)
         (case side3 => repeat (first | exact (Kd.C_below HR0_5.out HB.out) | (with_reducible refine Kd.C_alloc ?_ _) | (with_reducible refine Kd.C_drewN ?_ _) | (with_reducible refine Kd.C_drew ?_)))
         (case side4 => exact HC0_5.out)
         (case side5 => repeat (first | exact (by repeat (first | (with_reducible exact HR189_0.out) | (with_reducible refine Kd.C_alloc ?_ _) | (with_reducible refine Kd.C_drewN ?_ _) | (with_reducible refine Kd.C_drew ?_) | exact HR189_0.out)) | (with_reducible refine Kd.C_alloc ?_ _) | (with_reducible refine Kd.C_drewN ?_ _) | (with_reducible refine Kd.C_drew ?_)))
         (case side6 => exact HC189_0.out)
         rintro e w15 ⟨v191, rfl, ho0, hb⟩
         have HS6_ := (hb.cell (World.block_lt_of_cell? _ _ (hHeld.2.2.2.2.2.2))).trans (hHeld.2.2.2.2.2.2)
         refine ⟨_, rfl, ?_⟩
         have n0_ := Aside0.mk (Kd.N_elder' (by (with_reducible repeat (first | apply Kd.N_alloc | apply Kd.N_drewN | apply Kd.N_drew)); exact HO_3.out) (Kd.R_base ho0) hb)
         have n1_ := Aside0.mk (Kd.N_elder' (by (with_reducible repeat (first | apply Kd.N_alloc | apply Kd.N_drewN | apply Kd.N_drew)); exact HO_4.out) (Kd.R_base ho0) hb)
         have n2_ := Aside0.mk (Kd.V_elder' (by (with_reducible repeat (first | apply Kd.V_alloc | apply Kd.V_drewN | apply Kd.V_drew)); exact HL189_0.out) (Kd.R_base ho0) hb)
         have n3_ := Aside0.mk (Kd.R_lower (Kd.R_newM (M := fun k_ => (w.heap.size ≤ k_)) ho0 (below_size (by repeat (first | (with_reducible first | exact HB.out | apply below_alloc | apply pw_below_drewN | apply below_drew1 | refine below_set ?_ GE185.out) | exact HB.out))) (fun k_ h_ => h_)) (below_size (by repeat (first | (with_reducible first | exact HB.out | apply below_alloc | apply pw_below_drewN | apply below_drew1 | refine below_set ?_ GE185.out) | exact HB.out))))
         have n4_ := Aside0.mk (blk_below (g := gb185) (o := .cells #[.string a0_0, .int .i64 a0_1, .int .i64 a0_2, .int .i64 a0_3, .slice A0_4 l0_4.length c0_4, .slice A0_5 l0_5.length c0_5] 27 (0, 0)) (by (with_reducible repeat (first | refine blk_drewN ?_ _ | refine blk_drew ?_ | refine blk_alloc ?_ _)); exact BK185.out) hb)
         have n5_ := Aside0.mk (Kd.C_below (by repeat (first | (with_reducible exact HR189_0.out) | (with_reducible refine Kd.C_alloc ?_ _) | (with_reducible refine Kd.C_drewN ?_ _) | (with_reducible refine Kd.C_drew ?_) | exact HR189_0.out)) hb)
         have n6_ := Aside0.mk (below_step (by repeat (first | (with_reducible first | exact HB.out | apply below_alloc | apply pw_below_drewN | apply below_drew1 | refine below_set ?_ GE185.out) | exact HB.out)) hb)
         clear HO_3
         clear HO_4
         clear HL189_0
         clear BK185
         clear HR189_0
         clear HB
         have HO_3 := n0_
         have HO_4 := n1_
         have HL189_0 := n2_
         have HO192 := n3_
         have BK185 := n4_
         have HR189_0 := n5_
         have HB := n6_
         clear n0_ n1_ n2_ n3_ n4_ n5_ n6_
         (try clear hb)
         (try clear hb2)
         (try clear hk)
         (try clear hi)
         (try clear ho0)
         obtain ⟨Ao16, co16, eo16⟩ := Kd.R_slice HO192.out
         (first | subst eo16 | (injection eo16 with f1_ f2_ f3_; have f4_ := f1_.symm; have f5_ := f3_.symm; clear f1_ f2_ f3_; subst f4_; subst f5_))
         refine hK.out _ _ ⟨(blk_cell BK185.out 0).trans rfl, (blk_cell BK185.out 1).trans rfl, (blk_cell BK185.out 2).trans rfl, (blk_cell BK185.out 3).trans rfl, (blk_cell BK185.out 4).trans rfl, (blk_cell BK185.out 5).trans rfl, HS6_⟩ (fun hHeld => ?_)
         clear hK K
         refine norm_ (a' := ?_) ?_ ?_
         rotate_left
         ·
          show Act.put _ (some 33) _ = _
          simp only [Act.put, List.setIfInBounds_toArray, List.set_cons_zero, List.set_cons_succ, i64_w, i32_w]
          rfl
         refine pure_ (i := 9) (N := some 34) (v := ?_) (a' := ?_) #[true, true, true, true, true, true, true, true, true, true, false, false, false] rfl rfl (any_of HT_.out (by kernel_rfl)) (fun _ _ _ h => h) (Or.inl ⟨by rfl, ?_⟩) ?_ ?_
         rotate_left
         ·
          intro w'
          go_simp
          with_reducible rfl
         rotate_left
         ·
          simp only [Act.put, List.setIfInBounds_toArray, List.set_cons_zero, List.set_cons_succ, i64_w, i32_w]
          rfl
         refine last_ (i := 10) (N := some 35) #[true, true, true, true, true, true, true, true, true, true, true, false, false] rfl rfl (one_of HT_.out (by kernel_rfl)) (by decide) (fun K hK => ?_)
         refine value_ (w1 := ?_) (v := ?_) (by rfl) rfl ?_ ?_
         rotate_left 2
         ·
          go_simp
          constructor
          ·
           rfl
          ·
           rfl
         refine hK.out _ _ ?_
         clear hK K
         refine norm_ (a' := ?_) ?_ ?_
         rotate_left
         ·
          show Act.put _ (some 35) _ = _
          simp only [Act.put, List.setIfInBounds_toArray, List.set_cons_zero, List.set_cons_succ, i64_w, i32_w]
          rfl
         refine last_ (i := 11) (N := some 36) #[true, true, true, true, true, true, true, true, true, true, true, true, false] rfl rfl (one_of HT_.out (by kernel_rfl)) (by decide) (fun K hK => ?_)
         refine Kd.N_append_step k57 (w0 := w) w.heap.size (by rfl) (.tmp 25) (.tmp 35) 70 57 (.agg #[(.int .i64 0), (.slice none 0 0)]) 32 rfl Try.underlying70 info57 rfl (by decide) (by omega) u4 x4_2 (⟨x5_1, t190⟩ : S57) [.int .i64 x5_1, .slice Ao16 t190.length co16] (fun k_ => (w.heap.size ≤ k_) ∧ some k_ ≠ (.slice (some ad189) t186.length co13 : Value).ownBlock ∧ k_ ≠ gb185) (fun k_ => ((fun k_ => (w.heap.size ≤ k_) ∧ some k_ ≠ (.slice (some ad189) t186.length co13 : Value).ownBlock ∧ k_ ≠ gb185)) k_ ∧ some k_ ≠ (u4 : Value).ownBlock) rfl rfl ?aP (fun _ hk => hk) ?aF ?aO ?aB ?aS ?aL ?_
         (case aP => exact (k57_mkF _ _ (⟨x5_1, t190⟩ : S57) (Kd.R_reads' (Kd.R_mono (ok' := (fun k_ => ((fun k_ => (w.heap.size ≤ k_) ∧ some k_ ≠ (.slice (some ad189) t186.length co13 : Value).ownBlock ∧ k_ ≠ gb185)) k_ ∧ some k_ ≠ (u4 : Value).ownBlock)) (Kd.R_types (Kd.R_apart' (Kd.R_apart' (HO192.out) (Kd.N_typed HO_3.out) (by decide)) (Kd.N_typed HO_4.out) (by decide)) BK185.out (by decide)) (fun k_ hk => ⟨⟨hk.1.1.1.1, ⟨hk.1.1.2, hk.2⟩⟩, hk.1.2⟩))).2.1 (Kd.R_F (Kd.R_mono (ok' := (fun k_ => ((fun k_ => (w.heap.size ≤ k_) ∧ some k_ ≠ (.slice (some ad189) t186.length co13 : Value).ownBlock ∧ k_ ≠ gb185)) k_ ∧ some k_ ≠ (u4 : Value).ownBlock)) (Kd.R_types (Kd.R_apart' (Kd.R_apart' (HO192.out) (Kd.N_typed HO_3.out) (by decide)) (Kd.N_typed HO_4.out) (by decide)) BK185.out (by decide)) (fun k_ hk => ⟨⟨hk.1.1.1.1, ⟨hk.1.1.2, hk.2⟩⟩, hk.1.2⟩)))))
         (case aB => exact (by repeat (first | (with_reducible first | exact HB.out | apply below_alloc | apply pw_below_drewN | apply below_drew1 | refine below_set ?_ GE185.out) | exact HB.out)))
         (case aF => exact (fun k_ hk => ⟨(Nat.le_trans (below_size (by repeat (first | (with_reducible first | exact HB.out | apply below_alloc | apply pw_below_drewN | apply below_drew1 | refine below_set ?_ GE185.out) | exact HB.out))) hk), Kd.fresh' (Kd.N_lt (by (with_reducible repeat (first | apply Kd.N_alloc | apply Kd.N_drewN | apply Kd.N_drew)); exact HO_3.out)) k_ hk, Kd.freshB (g := gb185) (o := .cells #[.string a0_0, .int .i64 a0_1, .int .i64 a0_2, .int .i64 a0_3, .slice A0_4 l0_4.length c0_4, .slice A0_5 l0_5.length c0_5] 27 (0, 0)) (by (with_reducible repeat (first | refine blk_drewN ?_ _ | refine blk_drew ?_ | refine blk_alloc ?_ _)); exact BK185.out) k_ hk⟩))
         (case aO => exact (by (with_reducible repeat (first | apply Kd.N_alloc | apply Kd.N_drewN | apply Kd.N_drew)); exact Kd.N_mono HO_4.out (fun _ hk => ⟨hk.1.1, ⟨hk.1.2.1, hk.1.2.2⟩⟩)))
         (case aS => exact (below_size (by repeat (first | (with_reducible first | exact HB.out | apply below_alloc | apply pw_below_drewN | apply below_drew1 | refine below_set ?_ GE185.out) | exact HB.out))))
         (case aL => have := LMc12.out; omega)
         intro v194 w17 ho hb hg hat
         rw [← Ny193.out] at ho
         have n0_ := Aside0.mk (Kd.N_afterv (ok := (fun k_ => (w.heap.size ≤ k_) ∧ some k_ ≠ (.slice Ao16 t190.length co16 : Value).ownBlock ∧ k_ ≠ gb185)) (by (with_reducible repeat (first | apply Kd.N_alloc | apply Kd.N_drewN | apply Kd.N_drew)); exact Kd.N_mono HO_3.out (fun _ hk => ⟨⟨hk.1.1, ⟨hk.2, hk.1.2.2⟩⟩, hk.1.2.1⟩)) hg hat)
         have n1_ := Aside0.mk (blk_grown (g := gb185) (o := .cells #[.string a0_0, .int .i64 a0_1, .int .i64 a0_2, .int .i64 a0_3, .slice A0_4 l0_4.length c0_4, .slice A0_5 l0_5.length c0_5] 27 (0, 0)) (by (with_reducible repeat (first | refine blk_drewN ?_ _ | refine blk_drew ?_ | refine blk_alloc ?_ _)); exact BK185.out) hg (Kd.N_ne HO_4.out BK185.out (by decide)))
         have n2_ := Aside0.mk (Kd.V_afterv (ok := (fun k_ => (w.heap.size ≤ k_) ∧ some k_ ≠ (.slice (some ad189) t186.length co13 : Value).ownBlock ∧ some k_ ≠ (.slice Ao16 t190.length co16 : Value).ownBlock ∧ k_ ≠ gb185)) (by (with_reducible repeat (first | apply Kd.V_alloc | apply Kd.V_drewN | apply Kd.V_drew)); exact Kd.V_mono HL189_0.out (fun _ hk => ⟨⟨hk.1.1.1, ⟨hk.1.2, ⟨hk.2, hk.1.1.2.2⟩⟩⟩, hk.1.1.2.1⟩)) hg hat)
         have n3_ := Aside0.mk (hb)
         have n4_ := Aside0.mk (ho)
         clear HO_3
         clear BK185
         clear HL189_0
         clear HB
         clear HO_4
         clear HO192
         have HO_3 := n0_
         have BK185 := n1_
         have HL189_0 := n2_
         have HB := n3_
         have HO195 := n4_
         clear n0_ n1_ n2_ n3_ n4_
         clear ho hb hg hat
         refine hK.out _ _ ?_
         clear hK K
         refine norm_ (a' := ?_) ?_ ?_
         rotate_left
         ·
          show Act.put _ (some 36) _ = _
          simp only [Act.put, List.setIfInBounds_toArray, List.set_cons_zero, List.set_cons_succ, i64_w, i32_w]
          rfl
         refine pure_ (i := 12) (N := some 4) (v := ?_) (a' := ?_) #[true, true, true, true, true, true, true, true, true, true, true, true, true] rfl rfl (any_of HT_.out (by kernel_rfl)) (fun _ _ _ h => h) (Or.inl ⟨by rfl, ?_⟩) ?_ ?_
         rotate_left
         ·
          intro w'
          go_simp
          with_reducible rfl
         rotate_left
         ·
          simp only [Act.put, List.setIfInBounds_toArray, List.set_cons_zero, List.set_cons_succ, i64_w, i32_w]
          rfl
         refine done_ (done_of HT_.out (by kernel_rfl)) ?_
         try go_wp2
         go_roundg k2
         case measure => have := HK1.out; have := HK2.out; omega
         case rel => exact ⟨(y193), (wrap64 (x6_2 + 1)), (by first | rfl | (simp; done) | (simp [*]; done)), H', ⟨by have := HK1.out; have := HK2.out; omega⟩, ⟨by (with_reducible repeat (first | apply Kd.N_alloc | apply Kd.N_drewN | apply Kd.N_drew)); exact Kd.N_mono HO_3.out (fun _ hk => ⟨hk.1.1, ⟨hk.2, hk.1.2.2⟩⟩)⟩, ⟨by (with_reducible repeat (first | apply Kd.N_alloc | apply Kd.N_drewN | apply Kd.N_drew)); exact HO195.out⟩, ⟨by (with_reducible repeat (first | refine blk_drewN ?_ _ | refine blk_drew ?_ | refine blk_alloc ?_ _)); exact BK185.out⟩, ⟨by repeat (first | (with_reducible first | exact HB.out | apply below_alloc | apply pw_below_drewN | apply below_drew1 | refine below_set ?_ GE185.out) | exact HB.out)⟩⟩
        ·
         rw [if_neg c12] at H
         exact absurd H (by simp)
       ·
        rw [if_neg c10] at H
        exact absurd H (by simp)
      ·
       rw [if_neg c9] at H
       have c9b0 : decide (x6_2 < (t186.length : Int)) = false := decide_eq_false c9
       clear c9
       have H' := Aside0.mk H
       clear H
       obtain ⟨Ao18, co18, eo18⟩ := Kd.N_slice HO_3.out
       subst eo18
       go_wp2
       go_roundg k2
       case measure => have := HK1.out; have := HK2.out; omega
       case rel => exact ⟨(x4_2), (wrap64 (x5_1 + 1)), (by first | rfl | (simp; done) | (simp [*]; done)), H', ⟨by have := HK1.out; have := HK2.out; omega⟩, ⟨by (with_reducible repeat (first | apply Kd.N_alloc | apply Kd.N_drewN | apply Kd.N_drew)); exact HO_3.out⟩, ⟨by (with_reducible repeat (first | apply Kd.N_alloc | apply Kd.N_drewN | apply Kd.N_drew)); exact HO_4.out⟩, ⟨by (with_reducible repeat (first | refine blk_drewN ?_ _ | refine blk_drew ?_ | refine blk_alloc ?_ _)); exact BK185.out⟩, ⟨by repeat (first | (with_reducible first | exact HB.out | apply below_alloc | apply pw_below_drewN | apply below_drew1 | refine below_set ?_ GE185.out) | exact HB.out)⟩⟩
   ·
    rw [if_neg c7] at H
    have c7b0 : decide (x5_1 ≤ a0_3) = false := decide_eq_false c7
    clear c7
    obtain rfl := Option.some.inj H
    have hcz19_0 : wr.cell? ⟨gb185, 0, none⟩ = some (.string a0_0) := (blk_cell BK185.out 0).trans rfl
    have hcz19_1 : wr.cell? ⟨gb185, 1, none⟩ = some (.int .i64 a0_1) := (blk_cell BK185.out 1).trans rfl
    have hcz19_2 : wr.cell? ⟨gb185, 2, none⟩ = some (.int .i64 a0_2) := (blk_cell BK185.out 2).trans rfl
    have hcz19_3 : wr.cell? ⟨gb185, 3, none⟩ = some (.int .i64 a0_3) := (blk_cell BK185.out 3).trans rfl
    have hcz19_4 : wr.cell? ⟨gb185, 4, none⟩ = some (.slice A0_4 l0_4.length c0_4) := (blk_cell BK185.out 4).trans rfl
    have hcz19_5 : wr.cell? ⟨gb185, 5, none⟩ = some (.slice A0_5 l0_5.length c0_5) := (blk_cell BK185.out 5).trans rfl
    have hfz19_0 := blk_frozen BK185.out 0
    have hfz19_1 := blk_frozen BK185.out 1
    have hfz19_2 := blk_frozen BK185.out 2
    have hfz19_3 := blk_frozen BK185.out 3
    have hfz19_4 := blk_frozen BK185.out 4
    have hfz19_5 := blk_frozen BK185.out 5
    go_wp2
    go_ret
    exact ⟨_, by first | rfl | (simp [errW_none, errW_some] <;> rfl) | (simp [*, errW_none, errW_some] <;> rfl), by (with_reducible repeat (first | apply Kd.N_alloc | apply Kd.N_drewN | apply Kd.N_drew)); exact Kd.N_mono HO_4.out (fun _ hk => hk.1), by repeat (first | (with_reducible first | exact HB.out | apply below_alloc | apply pw_below_drewN | apply below_drew1 | refine below_set ?_ GE185.out) | exact HB.out)⟩

def helioscoperef01_Has.l0 : Nat → List Int → Int → Int → Option (Bool)
 | 0, _, _, _ => none
 | k + 1, x0, x1, x5 => if x5 < (x0.length : Int) then (if 0 ≤ x5 then (if (rd x0 x5) = x1 then (some true) else (helioscoperef01_Has.l0 k x0 x1 (wrap64 (x5 + 1)))) else (none)) else (some false)
def helioscoperef01_Has.f (k : Nat) (l0 : List Int) (a1 : Int) : Option (Bool) := helioscoperef01_Has.l0 k l0 a1 0
set_option maxHeartbeats 8000000 in
set_option maxRecDepth 100000 in
theorem helioscoperef01_Has.calls (k : Nat) (A0 : Option Addr) (c0 : Nat) (l0 : List Int) (a1 : Int) (r : Bool) (w : World) (hr0 : Kd.C (Kd.int .i64) w A0 l0.length l0) (hc0 : l0.length ≤ c0) (h : helioscoperef01_Has.f k l0 a1 = some r) :
  Calls Try.prog 111 #[.slice A0 l0.length c0, .int .i64 a1] w fun e w' => e = .returned (.bool r) ∧ Drawn0 w w' := by
 have HR0 := Aside0.mk hr0
 have HC0 := Aside0.mk hc0
 clear hr0 hc0
 have H : (helioscoperef01_Has.l0 k l0 a1 0) = some r := h
 clear h
 have H' := Aside0.mk H
 clear H
 go_enter Try.func111, Try.ntmps111
 go_wp2
 go_loopg [5] k (fun kq v5 w' => ∃ (x5_1 : Int), v5 = .int .i64 x5_1 ∧ Aside0 (helioscoperef01_Has.l0 kq l0 a1 x5_1 = some r) ∧ Aside0 (kq ≤ k) ∧ Drawn0 w w')
 case atStart => exact ⟨(0), (by first | rfl | (simp; done) | (simp [*]; done)), H', ⟨Nat.le_refl _⟩, by repeat (first | exact Drawn0.refl _ | apply Drawn0.step)⟩
 case round =>
  clear H'
  try clear c1
  try clear p2
  obtain ⟨x5_1, rfl, HA, HK1, ⟨m1, rfl⟩⟩ := hrel
  cases gk with
  | zero => exact absurd HA.out (by simp [helioscoperef01_Has.l0])
  | succ k1 =>
   have H := HA.out
   clear HA
   simp only [helioscoperef01_Has.l0] at H
   by_cases c3 : x5_1 < (l0.length : Int)
   ·
    rw [if_pos c3] at H
    have c3b0 : decide (x5_1 < (l0.length : Int)) = true := decide_eq_true c3
    clear c3
    by_cases c4 : 0 ≤ x5_1
    ·
     rw [if_pos c4] at H
     have c4b0 : decide (0 ≤ x5_1) = true := decide_eq_true c4
     clear c4
     by_cases c5 : (rd l0 x5_1) = a1
     ·
      rw [if_pos c5] at H
      have c5b0 : ((rd l0 x5_1) == a1) = true := beq_iff_eq.mpr c5
      have c5b1 : ((rd l0 x5_1) != a1) = false := bne_eq_false_iff_eq.mpr c5
      clear c5
      obtain rfl := Option.some.inj H
      have p196 : 0 ≤ (x5_1 : Int) := of_decide_eq_true (by first | (with_reducible assumption) | assumption)
      have q196 : x5_1 < (l0.length : Int) := of_decide_eq_true (by first | (with_reducible assumption) | assumption)
      obtain ⟨ad196, e196, hx196_0⟩ := Kd.at_int HR0.out x5_1 p196 q196
      cases e196
      replace p196 := eq_true p196
      replace q196 := eq_true q196
      go_wp2
      go_ret
      exact ⟨by first | rfl | (simp; done) | (simp [*]; done), by repeat (first | exact Drawn0.refl _ | apply Drawn0.step)⟩
     ·
      rw [if_neg c5] at H
      have c5b0 : ((rd l0 x5_1) == a1) = false := beq_eq_false_iff_ne.mpr c5
      have c5b1 : ((rd l0 x5_1) != a1) = true := bne_iff_ne.mpr c5
      have H' := Aside0.mk H
      clear H
      have p196 : 0 ≤ (x5_1 : Int) := of_decide_eq_true (by first | (with_reducible assumption) | assumption)
      have q196 : x5_1 < (l0.length : Int) := of_decide_eq_true (by first | (with_reducible assumption) | assumption)
      obtain ⟨ad196, e196, hx196_0⟩ := Kd.at_int HR0.out x5_1 p196 q196
      cases e196
      replace p196 := eq_true p196
      replace q196 := eq_true q196
      go_wp2
      go_roundg k1
      case measure => have := HK1.out; omega
      case rel => exact ⟨(wrap64 (x5_1 + 1)), (by first | rfl | (simp; done) | (simp [*]; done)), H', ⟨by have := HK1.out; omega⟩, by repeat (first | exact Drawn0.refl _ | apply Drawn0.step)⟩
    ·
     rw [if_neg c4] at H
     exact absurd H (by simp)
   ·
    rw [if_neg c3] at H
    have c3b0 : decide (x5_1 < (l0.length : Int)) = false := decide_eq_false c3
    clear c3
    obtain rfl := Option.some.inj H
    go_wp2
    go_ret
    exact ⟨by first | rfl | (simp; done) | (simp [*]; done), by repeat (first | exact Drawn0.refl _ | apply Drawn0.step)⟩

end Go.Proofs.Ytemeapfnfegkiaa.PR
end
section
namespace Go.Proofs.Ytemeapfnfegkiaa.PR
open Go.RowKit Go.Proofs.YtemeapfnfegkiaaW.PrintWords Go.Proofs.YtemeapfnfegkiaaW.PrintLast Go.Proofs.YtemeapfnfegkiaaW.PrintMore
attribute [local go_sem] max2_int min2_int max_two min_two max_three min_three max_four min_four   -- for this text's walks alone
set_option linter.unusedVariables false
set_option linter.unusedSimpArgs false

mutual
def helioscoperef01_Truths.l0 : Nat → List Int → List (S57) → List (S57) → Int → ByteArray → Int → Int → Int → List (S80) → List (S52) → Option ((List (S57)))
 | 0, _, _, _, _, _, _, _, _, _, _ => none
 | k + 1, x1, x5, x6, x7, x198000, x198001, x198002, x198003, x198004, x198005 => if x7 < (x5.length : Int) then (helioscoperef01_Truths.l1 k x1 x5 x6 x7 true 0 x198000 x198001 x198002 x198003 x198004 x198005) else (some x6)
def helioscoperef01_Truths.l1 : Nat → List Int → List (S57) → List (S57) → Int → Bool → Int → ByteArray → Int → Int → Int → List (S80) → List (S52) → Option ((List (S57)))
 | 0, _, _, _, _, _, _, _, _, _, _, _, _ => none
 | k + 1, x1, x5, x6, x7, x8, x9, x198000, x198001, x198002, x198003, x198004, x198005 => if x9 < (x198005.length : Int) then (if 0 ≤ x9 then (if x8 = true then ((helioscoperef01_Has.f k x1 x9).bind fun t203 => (if t203 = true then (helioscoperef01_Truths.l1 k x1 x5 x6 x7 true (wrap64 (x9 + 1)) x198000 x198001 x198002 x198003 x198004 x198005) else (if 0 ≤ x7 then (if x7 < (x5.length : Int) then ((helioscoperef01_Together.f ((rd_T57 x5 x7).f0) ((rd_T57 x5 x7).f1) ((rd_T52 x198005 x9).f0) ((rd_T52 x198005 x9).f1)).bind fun t205 => (helioscoperef01_Truths.l1 k x1 x5 x6 x7 (t205 == ((rd_T52 x198005 x9).f2)) (wrap64 (x9 + 1)) x198000 x198001 x198002 x198003 x198004 x198005)) else (none)) else (none)))) else (helioscoperef01_Truths.l1 k x1 x5 x6 x7 false (wrap64 (x9 + 1)) x198000 x198001 x198002 x198003 x198004 x198005)) else (none)) else (if x8 = true then (if 0 ≤ x7 then (if x7 < (x5.length : Int) then (if x6.length < 4398046511104 then (helioscoperef01_Truths.l0 k x1 x5 (x6 ++ [(⟨(rd_T57 x5 x7).f0, (rd_T57 x5 x7).f1⟩ : S57)]) (wrap64 (x7 + 1)) x198000 x198001 x198002 x198003 x198004 x198005) else (none)) else (none)) else (none)) else (helioscoperef01_Truths.l0 k x1 x5 x6 (wrap64 (x7 + 1)) x198000 x198001 x198002 x198003 x198004 x198005))
end
def helioscoperef01_Truths.f (k : Nat) (a0_0 : ByteArray) (a0_1 : Int) (a0_2 : Int) (a0_3 : Int) (l0_4 : List (S80)) (l0_5 : List (S52)) (l1 : List Int) : Option ((List (S57))) := (helioscoperef01_All.f k a0_0 a0_1 a0_2 a0_3 l0_4 l0_5).bind fun t198 => (helioscoperef01_Truths.l0 k l1 t198 ([] : List (S57)) 0 a0_0 a0_1 a0_2 a0_3 l0_4 l0_5)
def helioscoperef01_Truths.T11 : Bool × List (List Nat × List Nat) := (true, [([], []), ([0], [0]), ([1], [1]), ([1], [1]), ([2, 3, 1, 1], [1, 2, 3]), ([4, 4, 1], [1, 4]), ([5], [5]), ([5], [5]), ([6, 7, 5], [5, 6, 7]), ([8, 5], [5, 8]), ([5], [5]), ([10, 5], [5, 10]), ([5], [5]), ([12, 5], [5, 12]), ([9, 11, 13, 5, 5], [5, 9, 11, 13]), ([5], [5]), ([15, 5], [5, 15]), ([14, 16, 5], [5, 14, 16]), ([5, 17, 1], [1, 5, 17]), ([1, 18], [1, 18]), ([19, 14, 0, 1, 2, 3, 4, 5, 6, 7, 8, 9, 10, 11, 12, 13, 14, 15, 16, 17, 18, 19], [0, 19])])
def helioscoperef01_Truths.B11 : List Nat := [0, 1, 3, 3, 15, 31, 63, 63, 255, 511, 63, 1087, 63, 4159, 16383, 63, 32831, 131071, 262143, 524287, 1048575]
theorem helioscoperef01_Truths.tab11 : rtab .any (opsOf Try.f50 11) = helioscoperef01_Truths.T11 := by kernel_rfl
theorem helioscoperef01_Truths.bits11 : waitsOk helioscoperef01_Truths.T11.2 helioscoperef01_Truths.B11 = true := by kernel_rfl
set_option maxHeartbeats 8000000 in
set_option maxRecDepth 100000 in
theorem helioscoperef01_Truths.calls (k : Nat) (a0_0 : ByteArray) (a0_1 : Int) (a0_2 : Int) (a0_3 : Int) (A0_4 : Option Addr) (c0_4 : Nat) (l0_4 : List (S80)) (A0_5 : Option Addr) (c0_5 : Nat) (l0_5 : List (S52)) (A1 : Option Addr) (c1 : Nat) (l1 : List Int) (r : List (S57)) (w : World) (hr0_4 : Kd.C k80 w A0_4 l0_4.length l0_4) (hc0_4 : l0_4.length ≤ c0_4) (hr0_5 : Kd.C k52 w A0_5 l0_5.length l0_5) (hc0_5 : l0_5.length ≤ c0_5) (hr1 : Kd.C (Kd.int .i64) w A1 l1.length l1) (hc1 : l1.length ≤ c1) (h : helioscoperef01_Truths.f k a0_0 a0_1 a0_2 a0_3 l0_4 l0_5 l1 = some r) :
  Calls Try.prog 50 #[.agg #[.string a0_0, .int .i64 a0_1, .int .i64 a0_2, .int .i64 a0_3, .slice A0_4 l0_4.length c0_4, .slice A0_5 l0_5.length c0_5], .slice A1 l1.length c1] w fun e w' => ∃ v0_ : Value, e = .returned (v0_) ∧ Kd.N k57 57 w' w.heap.size (fun k_ => (w.heap.size ≤ k_)) v0_ r ∧ Below w.heap.size w w' := by
 have hu27 := Try.underlying27
 have hu52 := Try.underlying52
 have hu57 := Try.underlying57
 have HR0_4 := Aside0.mk hr0_4
 have HC0_4 := Aside0.mk hc0_4
 clear hr0_4 hc0_4
 have HR0_5 := Aside0.mk hr0_5
 have HC0_5 := Aside0.mk hc0_5
 clear hr0_5 hc0_5
 have HR1 := Aside0.mk hr1
 have HC1 := Aside0.mk hc1
 clear hr1 hc1
 have HB := Aside0.mk (Below.refl w.heap.size w)
 have H : ((helioscoperef01_All.f k a0_0 a0_1 a0_2 a0_3 l0_4 l0_5).bind fun t198 => (helioscoperef01_Truths.l0 k l1 t198 ([] : List (S57)) 0 a0_0 a0_1 a0_2 a0_3 l0_4 l0_5)) = some r := h
 clear h
 replace H := Option.bind_eq_some_iff.mp H
 obtain ⟨t198, A30, H⟩ := H
 replace H : (helioscoperef01_Truths.l0 k l1 t198 ([] : List (S57)) 0 a0_0 a0_1 a0_2 a0_3 l0_4 l0_5) = some r := H
 have A3 := Aside0.mk A30
 clear A30
 have H' := Aside0.mk H
 clear H
 go_enter Try.func50, Try.ntmps50
 go_wp2_with (first | ((with_reducible refine gate_dst (N := 2) rfl ?_); refine box_event ?hg (N := 2) ?hd (cs := #[.string a0_0, .int .i64 a0_1, .int .i64 a0_2, .int .i64 a0_3, .slice A0_4 l0_4.length c0_4, .slice A0_5 l0_5.length c0_5]) (t := 27) ?hr ?_; (case hd => rfl); (case hg => rfl); (case hr => first | (go_simp; done) | (go_simp; rfl)); intro gb197 hg w4 hbox hb; have n0_ := Aside0.mk (below_step (by repeat (first | (with_reducible first | exact HB.out | apply below_alloc | apply pw_below_drewN | apply below_drew1) | exact HB.out)) hb); have n1_ := Aside0.mk (hbox); have n2_ := Aside0.mk ((by rw [hg]; exact (below_size (by repeat (first | (with_reducible first | exact HB.out | apply below_alloc | apply pw_below_drewN | apply below_drew1) | exact HB.out))) : w.heap.size ≤ gb197)); have n3_ := Aside0.mk ((by rw [hg]; exact (below_size (by repeat (first | (with_reducible first | exact HB.out | apply below_alloc | apply pw_below_drewN | apply below_drew1) | exact HB.out))) : w.heap.size ≤ gb197)); clear HB; have HB := n0_; have BK197 := n1_; have GW197 := n2_; have GE197 := n3_; clear n0_ n1_ n2_ n3_; clear hb hbox hg; have hcz5_0 : w4.cell? ⟨gb197, 0, none⟩ = some (.string a0_0) := (blk_cell BK197.out 0).trans rfl; have hcz5_1 : w4.cell? ⟨gb197, 1, none⟩ = some (.int .i64 a0_1) := (blk_cell BK197.out 1).trans rfl; have hcz5_2 : w4.cell? ⟨gb197, 2, none⟩ = some (.int .i64 a0_2) := (blk_cell BK197.out 2).trans rfl; have hcz5_3 : w4.cell? ⟨gb197, 3, none⟩ = some (.int .i64 a0_3) := (blk_cell BK197.out 3).trans rfl; have hcz5_4 : w4.cell? ⟨gb197, 4, none⟩ = some (.slice A0_4 l0_4.length c0_4) := (blk_cell BK197.out 4).trans rfl; have hcz5_5 : w4.cell? ⟨gb197, 5, none⟩ = some (.slice A0_5 l0_5.length c0_5) := (blk_cell BK197.out 5).trans rfl; have hfz5_0 := blk_frozen BK197.out 0; have hfz5_1 := blk_frozen BK197.out 1; have hfz5_2 := blk_frozen BK197.out 2; have hfz5_3 := blk_frozen BK197.out 3; have hfz5_4 := blk_frozen BK197.out 4; have hfz5_5 := blk_frozen BK197.out 5) | ((with_reducible refine gate_callee (f := 110) rfl ?_); refine goesL_ (some 12) rfl rfl Try.func110 (by kernel_rfl) rfl #[.agg #[.string a0_0, .int .i64 a0_1, .int .i64 a0_2, .int .i64 a0_3, .slice A0_4 l0_4.length c0_4, .slice A0_5 l0_5.length c0_5]] rfl (by (try simp only [List.map_toArray, List.map_cons, List.map_nil]); first | done | rfl | (simp only [List.length_drop, List.length_take]; rfl)) ?_; (with_reducible refine (helioscoperef01_All.calls k a0_0 a0_1 a0_2 a0_3 _ _ l0_4 _ _ l0_5 t198 _ ?side1 ?side2 ?side3 ?side4 A3.out).mono ?_); (case side1 => repeat (first | exact (Kd.C_below HR0_4.out HB.out) | (with_reducible refine Kd.C_alloc ?_ _) | (with_reducible refine Kd.C_drewN ?_ _) | (with_reducible refine Kd.C_drew ?_))); (case side2 => exact HC0_4.out); (case side3 => repeat (first | exact (Kd.C_below HR0_5.out HB.out) | (with_reducible refine Kd.C_alloc ?_ _) | (with_reducible refine Kd.C_drewN ?_ _) | (with_reducible refine Kd.C_drew ?_))); (case side4 => exact HC0_5.out); rintro e w6 ⟨v199, rfl, ho0, hb⟩; refine ⟨_, rfl, ?_⟩; have n0_ := Aside0.mk (Kd.N_lower (Kd.N_mono (ok' := fun k_ => (w.heap.size ≤ k_) ∧ k_ ≠ gb197) ho0 (fun k_ hk_ => ⟨(Nat.le_trans (below_size (by repeat (first | (with_reducible first | exact HB.out | apply below_alloc | apply pw_below_drewN | apply below_drew1 | refine below_set ?_ GE197.out) | exact HB.out))) hk_), (Kd.freshB (g := gb197) (o := .cells #[.string a0_0, .int .i64 a0_1, .int .i64 a0_2, .int .i64 a0_3, .slice A0_4 l0_4.length c0_4, .slice A0_5 l0_5.length c0_5] 27 (0, 0)) (by (with_reducible repeat (first | refine blk_drewN ?_ _ | refine blk_drew ?_ | refine blk_alloc ?_ _)); exact BK197.out) k_ hk_)⟩)) (below_size (by repeat (first | (with_reducible first | exact HB.out | apply below_alloc | apply pw_below_drewN | apply below_drew1 | refine below_set ?_ GE197.out) | exact HB.out)))); have n1_ := Aside0.mk (blk_below (g := gb197) (o := .cells #[.string a0_0, .int .i64 a0_1, .int .i64 a0_2, .int .i64 a0_3, .slice A0_4 l0_4.length c0_4, .slice A0_5 l0_5.length c0_5] 27 (0, 0)) (by (with_reducible repeat (first | refine blk_drewN ?_ _ | refine blk_drew ?_ | refine blk_alloc ?_ _)); exact BK197.out) hb); have n2_ := Aside0.mk (below_step (by repeat (first | (with_reducible first | exact HB.out | apply below_alloc | apply pw_below_drewN | apply below_drew1 | refine below_set ?_ GE197.out) | exact HB.out)) hb); clear BK197; clear HB; have HO200 := n0_; have BK197 := n1_; have HB := n2_; clear n0_ n1_ n2_; (try clear hb); (try clear hb2); (try clear hk); (try clear hi); (try clear ho0)))
 go_loopg [6, 7] k (fun kq v6 v7 w' => ∃ (x6_1 : List (S57)) (x7_1 : Int), v7 = .int .i64 x7_1 ∧ Aside0 (helioscoperef01_Truths.l0 kq l1 t198 x6_1 x7_1 a0_0 a0_1 a0_2 a0_3 l0_4 l0_5 = some r) ∧ Aside0 (kq ≤ k) ∧ Aside0 (Kd.N k57 57 w' w.heap.size (fun k_ => (w.heap.size ≤ k_) ∧ some k_ ≠ (v6 : Value).ownBlock ∧ k_ ≠ gb197) v199 t198) ∧ Aside0 (Kd.N k57 57 w' w.heap.size (fun k_ => (w.heap.size ≤ k_) ∧ some k_ ≠ (v199 : Value).ownBlock ∧ k_ ≠ gb197) v6 x6_1) ∧ Aside0 (w'.heap[gb197]? = some (.cells #[.string a0_0, .int .i64 a0_1, .int .i64 a0_2, .int .i64 a0_3, (.slice A0_4 l0_4.length c0_4), (.slice A0_5 l0_5.length c0_5)] 27 (0, 0))) ∧ Aside0 (Below w.heap.size w w'))
 case atStart => exact ⟨(([] : List (S57))), (0), (by first | rfl | (simp; done) | (simp [*]; done)), H', ⟨Nat.le_refl _⟩, ⟨by (with_reducible repeat (first | apply Kd.N_alloc | apply Kd.N_drewN | apply Kd.N_drew)); exact Kd.N_mono HO200.out (fun _ hk => ⟨hk.1, ⟨(by simp [Value.ownBlock]), hk.2⟩⟩)⟩, ⟨by first | exact Kd.S_nil _ _ _ _ _ | exact Kd.N_nil _ _ _ _ _ | exact Kd.V_nil _ _ _ _ _ | exact Kd.Q_nil _ _ _ _ _ | exact Kd.R_nil _ _ _ _ _⟩, ⟨by (with_reducible repeat (first | refine blk_drewN ?_ _ | refine blk_drew ?_ | refine blk_alloc ?_ _)); exact BK197.out⟩, ⟨by repeat (first | (with_reducible first | exact HB.out | apply below_alloc | apply pw_below_drewN | apply below_drew1 | refine below_set ?_ GE197.out) | exact HB.out)⟩⟩
 case round =>
  clear H'
  try clear c1
  try clear p2
  try clear c5
  try clear hcz5_0
  try clear hcz5_1
  try clear hcz5_2
  try clear hcz5_3
  try clear hcz5_4
  try clear hcz5_5
  try clear hfz5_0
  try clear hfz5_1
  try clear hfz5_2
  try clear hfz5_3
  try clear hfz5_4
  try clear hfz5_5
  obtain ⟨x6_1, x7_1, rfl, HA, HK1, HO_5, HO_6, BK197, HB⟩ := hrel
  cases gk with
  | zero => exact absurd HA.out (by simp [helioscoperef01_Truths.l0])
  | succ k1 =>
   have H := HA.out
   clear HA
   simp only [helioscoperef01_Truths.l0] at H
   by_cases c7 : x7_1 < (t198.length : Int)
   ·
    rw [if_pos c7] at H
    have c7b0 : decide (x7_1 < (t198.length : Int)) = true := decide_eq_true c7
    clear c7
    have H' := Aside0.mk H
    clear H
    obtain ⟨Ao8, co8, eo8⟩ := Kd.N_slice HO_5.out
    subst eo8
    go_wp2
    go_loopg [8, 9] k1 (fun kq v8 v9 w' => ∃ (x8_2 : Bool) (x9_2 : Int), v8 = .bool x8_2 ∧ v9 = .int .i64 x9_2 ∧ Aside0 (helioscoperef01_Truths.l1 kq l1 t198 x6_1 x7_1 x8_2 x9_2 a0_0 a0_1 a0_2 a0_3 l0_4 l0_5 = some r) ∧ Aside0 (kq ≤ k1) ∧ Aside0 (Kd.N k57 57 w' w.heap.size (fun k_ => (w.heap.size ≤ k_) ∧ some k_ ≠ (u6 : Value).ownBlock ∧ k_ ≠ gb197) (.slice Ao8 t198.length co8) t198) ∧ Aside0 (Kd.N k57 57 w' w.heap.size (fun k_ => (w.heap.size ≤ k_) ∧ some k_ ≠ ((.slice Ao8 t198.length co8) : Value).ownBlock ∧ k_ ≠ gb197) u6 x6_1) ∧ Aside0 (w'.heap[gb197]? = some (.cells #[.string a0_0, .int .i64 a0_1, .int .i64 a0_2, .int .i64 a0_3, (.slice A0_4 l0_4.length c0_4), (.slice A0_5 l0_5.length c0_5)] 27 (0, 0))) ∧ Aside0 (Below w.heap.size w w'))
    case atStart => exact ⟨(true), (0), (by first | rfl | (simp; done) | (simp [*]; done)), (by first | rfl | (simp; done) | (simp [*]; done)), H', ⟨Nat.le_refl _⟩, ⟨by (with_reducible repeat (first | apply Kd.N_alloc | apply Kd.N_drewN | apply Kd.N_drew)); exact HO_5.out⟩, ⟨by (with_reducible repeat (first | apply Kd.N_alloc | apply Kd.N_drewN | apply Kd.N_drew)); exact HO_6.out⟩, ⟨by (with_reducible repeat (first | refine blk_drewN ?_ _ | refine blk_drew ?_ | refine blk_alloc ?_ _)); exact BK197.out⟩, ⟨by repeat (first | (with_reducible first | exact HB.out | apply below_alloc | apply pw_below_drewN | apply below_drew1 | refine below_set ?_ GE197.out) | exact HB.out)⟩⟩
    case round =>
     clear H'
     try clear c1
     try clear p2
     try clear c5
     try clear c7
     try clear c7b0
     try clear hcz5_0
     try clear hcz5_1
     try clear hcz5_2
     try clear hcz5_3
     try clear hcz5_4
     try clear hcz5_5
     try clear hfz5_0
     try clear hfz5_1
     try clear hfz5_2
     try clear hfz5_3
     try clear hfz5_4
     try clear hfz5_5
     try clear p2
     obtain ⟨x8_2, x9_2, rfl, rfl, HA, HK2, HO_5, HO_6, BK197, HB⟩ := hrel
     cases gk with
     | zero => exact absurd HA.out (by simp [helioscoperef01_Truths.l1])
     | succ k2 =>
      have H := HA.out
      clear HA
      simp only [helioscoperef01_Truths.l1] at H
      by_cases c9 : x9_2 < (l0_5.length : Int)
      ·
       rw [if_pos c9] at H
       have c9b0 : decide (x9_2 < (l0_5.length : Int)) = true := decide_eq_true c9
       clear c9
       by_cases c10 : 0 ≤ x9_2
       ·
        rw [if_pos c10] at H
        have c10b0 : decide (0 ≤ x9_2) = true := decide_eq_true c10
        clear c10
        by_cases c11 : x8_2 = true
        ·
         subst c11
         have H1 : ((helioscoperef01_Has.f k2 l1 x9_2).bind fun t203 => (if t203 = true then (helioscoperef01_Truths.l1 k2 l1 t198 x6_1 x7_1 true (wrap64 (x9_2 + 1)) a0_0 a0_1 a0_2 a0_3 l0_4 l0_5) else (if 0 ≤ x7_1 then (if x7_1 < (t198.length : Int) then ((helioscoperef01_Together.f ((rd_T57 t198 x7_1).f0) ((rd_T57 t198 x7_1).f1) ((rd_T52 l0_5 x9_2).f0) ((rd_T52 l0_5 x9_2).f1)).bind fun t205 => (helioscoperef01_Truths.l1 k2 l1 t198 x6_1 x7_1 (t205 == ((rd_T52 l0_5 x9_2).f2)) (wrap64 (x9_2 + 1)) a0_0 a0_1 a0_2 a0_3 l0_4 l0_5)) else (none)) else (none)))) = some r := by rw [if_pos rfl] at H; exact H
         clear H
         have H := H1
         clear H1
         replace H := Option.bind_eq_some_iff.mp H
         obtain ⟨t203, A120, H⟩ := H
         replace H : (if t203 = true then (helioscoperef01_Truths.l1 k2 l1 t198 x6_1 x7_1 true (wrap64 (x9_2 + 1)) a0_0 a0_1 a0_2 a0_3 l0_4 l0_5) else (if 0 ≤ x7_1 then (if x7_1 < (t198.length : Int) then ((helioscoperef01_Together.f ((rd_T57 t198 x7_1).f0) ((rd_T57 t198 x7_1).f1) ((rd_T52 l0_5 x9_2).f0) ((rd_T52 l0_5 x9_2).f1)).bind fun t205 => (helioscoperef01_Truths.l1 k2 l1 t198 x6_1 x7_1 (t205 == ((rd_T52 l0_5 x9_2).f2)) (wrap64 (x9_2 + 1)) a0_0 a0_1 a0_2 a0_3 l0_4 l0_5)) else (none)) else (none))) = some r := H
         have A12 := Aside0.mk A120
         clear A120
         by_cases c13 : t203 = true
         ·
          subst c13
          have H1 : (helioscoperef01_Truths.l1 k2 l1 t198 x6_1 x7_1 true (wrap64 (x9_2 + 1)) a0_0 a0_1 a0_2 a0_3 l0_4 l0_5) = some r := by rw [if_pos rfl] at H; exact H
          clear H
          have H := H1
          clear H1
          have H' := Aside0.mk H
          clear H
          have hcz14_0 : wr.cell? ⟨gb197, 0, none⟩ = some (.string a0_0) := (blk_cell BK197.out 0).trans rfl
          have hcz14_1 : wr.cell? ⟨gb197, 1, none⟩ = some (.int .i64 a0_1) := (blk_cell BK197.out 1).trans rfl
          have hcz14_2 : wr.cell? ⟨gb197, 2, none⟩ = some (.int .i64 a0_2) := (blk_cell BK197.out 2).trans rfl
          have hcz14_3 : wr.cell? ⟨gb197, 3, none⟩ = some (.int .i64 a0_3) := (blk_cell BK197.out 3).trans rfl
          have hcz14_4 : wr.cell? ⟨gb197, 4, none⟩ = some (.slice A0_4 l0_4.length c0_4) := (blk_cell BK197.out 4).trans rfl
          have hcz14_5 : wr.cell? ⟨gb197, 5, none⟩ = some (.slice A0_5 l0_5.length c0_5) := (blk_cell BK197.out 5).trans rfl
          have hfz14_0 := blk_frozen BK197.out 0
          have hfz14_1 := blk_frozen BK197.out 1
          have hfz14_2 := blk_frozen BK197.out 2
          have hfz14_3 := blk_frozen BK197.out 3
          have hfz14_4 := blk_frozen BK197.out 4
          have hfz14_5 := blk_frozen BK197.out 5
          have p201 : 0 ≤ (x9_2 : Int) := of_decide_eq_true (by first | (with_reducible assumption) | assumption)
          have q201 : x9_2 < (l0_5.length : Int) := of_decide_eq_true (by first | (with_reducible assumption) | assumption)
          obtain ⟨ad201, e201, hx201_0, hx201_1, hx201_2⟩ := at_T52 HR0_5.out x9_2 p201 q201
          cases e201
          replace hx201_0 := (HB.out.cell (World.block_lt_of_cell? w _ hx201_0)).trans hx201_0
          replace hx201_1 := (HB.out.cell (World.block_lt_of_cell? w _ hx201_1)).trans hx201_1
          replace hx201_2 := (HB.out.cell (World.block_lt_of_cell? w _ hx201_2)).trans hx201_2
          replace p201 := eq_true p201
          replace q201 := eq_true q201
          try go_wp2_with (first | ((with_reducible refine gate_dst (N := 10) rfl ?_); refine box_event ?hg (N := 10) ?hd (cs := #[.int .i64 0, .int .i64 0, .bool false]) (t := 52) ?hr ?_; (case hd => rfl); (case hg => rfl); (case hr => first | (go_simp; done) | (go_simp; rfl)); intro gb202 hg w15 hbox hb; have n0_ := Aside0.mk (Kd.N_below (Kd.N_elderB (by (with_reducible repeat (first | apply Kd.N_alloc | apply Kd.N_drewN | apply Kd.N_drew)); exact HO_5.out) gb202 (Nat.le_of_eq hg.symm)) hb); have n1_ := Aside0.mk (Kd.N_below (Kd.N_elderB (by (with_reducible repeat (first | apply Kd.N_alloc | apply Kd.N_drewN | apply Kd.N_drew)); exact HO_6.out) gb202 (Nat.le_of_eq hg.symm)) hb); have n2_ := Aside0.mk (blk_below (g := gb197) (o := .cells #[.string a0_0, .int .i64 a0_1, .int .i64 a0_2, .int .i64 a0_3, .slice A0_4 l0_4.length c0_4, .slice (some ad201) l0_5.length c0_5] 27 (0, 0)) (by (with_reducible repeat (first | refine blk_drewN ?_ _ | refine blk_drew ?_ | refine blk_alloc ?_ _)); exact BK197.out) hb); have n3_ := Aside0.mk (below_step (by repeat (first | (with_reducible first | exact HB.out | apply below_alloc | apply pw_below_drewN | apply below_drew1 | refine below_set ?_ GE197.out) | exact HB.out)) hb); have n4_ := Aside0.mk (hbox); have n5_ := Aside0.mk ((by rw [hg]; exact (below_size (by repeat (first | (with_reducible first | exact HB.out | apply below_alloc | apply pw_below_drewN | apply below_drew1 | refine below_set ?_ GE197.out) | exact HB.out))) : w.heap.size ≤ gb202)); have n6_ := Aside0.mk ((by rw [hg]; exact (below_size (by repeat (first | (with_reducible first | exact HB.out | apply below_alloc | apply pw_below_drewN | apply below_drew1 | refine below_set ?_ GE197.out) | exact HB.out))) : w.heap.size ≤ gb202)); have n7_ := Aside0.mk ((by rw [hg]; exact Nat.ne_of_lt (blk_lt (g := gb197) (o := .cells #[.string a0_0, .int .i64 a0_1, .int .i64 a0_2, .int .i64 a0_3, .slice A0_4 l0_4.length c0_4, .slice (some ad201) l0_5.length c0_5] 27 (0, 0)) (by (with_reducible repeat (first | refine blk_drewN ?_ _ | refine blk_drew ?_ | refine blk_alloc ?_ _)); exact BK197.out)) : gb197 ≠ gb202)); have n8_ := Aside0.mk ((by rw [hg]; exact Nat.ne_of_gt (blk_lt (g := gb197) (o := .cells #[.string a0_0, .int .i64 a0_1, .int .i64 a0_2, .int .i64 a0_3, .slice A0_4 l0_4.length c0_4, .slice (some ad201) l0_5.length c0_5] 27 (0, 0)) (by (with_reducible repeat (first | refine blk_drewN ?_ _ | refine blk_drew ?_ | refine blk_alloc ?_ _)); exact BK197.out)) : gb202 ≠ gb197)); clear HO_5; clear HO_6; clear BK197; clear HB; have HO_5 := n0_; have HO_6 := n1_; have BK197 := n2_; have HB := n3_; have BK202 := n4_; have GW202 := n5_; have GE202 := n6_; have NB197_202 := n7_; have NB202_197 := n8_; clear n0_ n1_ n2_ n3_ n4_ n5_ n6_ n7_ n8_; clear hb hbox hg; have hnb16 := NB202_197.out; have hnc16 := NB197_202.out; have hcz17_0 : w15.cell? ⟨gb202, 0, none⟩ = some (.int .i64 0) := (blk_cell BK202.out 0).trans rfl; have hcz17_1 : w15.cell? ⟨gb202, 1, none⟩ = some (.int .i64 0) := (blk_cell BK202.out 1).trans rfl; have hcz17_2 : w15.cell? ⟨gb202, 2, none⟩ = some (.bool false) := (blk_cell BK202.out 2).trans rfl; have hfz17_0 := blk_frozen BK202.out 0; have hfz17_1 := blk_frozen BK202.out 1; have hfz17_2 := blk_frozen BK202.out 2))
          have n0_ : Aside0 (Kd.N k57 57 (((w15.setCell ⟨gb202, 0, none⟩ (.int .i64 ((rd_T52 l0_5 x9_2).f0))).setCell ⟨gb202, 1, none⟩ (.int .i64 ((rd_T52 l0_5 x9_2).f1))).setCell ⟨gb202, 2, none⟩ (.bool ((rd_T52 l0_5 x9_2).f2))) w.heap.size (fun k_ => (w.heap.size ≤ k_) ∧ some k_ ≠ (u6 : Value).ownBlock ∧ k_ ≠ gb197 ∧ k_ ≠ gb202) (.slice Ao8 t198.length co8) t198) := ⟨by (with_reducible repeat (first | apply Kd.N_alloc | apply Kd.N_drewN | apply Kd.N_drew)); exact Kd.N_mono (Kd.N_far (p := ⟨gb202, 2, none⟩) (Kd.N_far (p := ⟨gb202, 1, none⟩) (Kd.N_far (p := ⟨gb202, 0, none⟩) (Kd.N_mono HO_5.out (fun k_ hk => (⟨hk, hk.2⟩ : _ ∧ k_ ≠ gb202))) (fun _ hk => hk.2) (.int .i64 ((rd_T52 l0_5 x9_2).f0))) (fun _ hk => hk.2) (.int .i64 ((rd_T52 l0_5 x9_2).f1))) (fun _ hk => hk.2) (.bool ((rd_T52 l0_5 x9_2).f2))) (fun _ hk => ⟨hk.1.1.1, ⟨hk.1.1.2.1, ⟨hk.1.1.2.2, hk.1.2⟩⟩⟩)⟩
          have n1_ : Aside0 (Kd.N k57 57 (((w15.setCell ⟨gb202, 0, none⟩ (.int .i64 ((rd_T52 l0_5 x9_2).f0))).setCell ⟨gb202, 1, none⟩ (.int .i64 ((rd_T52 l0_5 x9_2).f1))).setCell ⟨gb202, 2, none⟩ (.bool ((rd_T52 l0_5 x9_2).f2))) w.heap.size (fun k_ => (w.heap.size ≤ k_) ∧ some k_ ≠ (.slice Ao8 t198.length co8 : Value).ownBlock ∧ k_ ≠ gb197 ∧ k_ ≠ gb202) u6 x6_1) := ⟨by (with_reducible repeat (first | apply Kd.N_alloc | apply Kd.N_drewN | apply Kd.N_drew)); exact Kd.N_mono (Kd.N_far (p := ⟨gb202, 2, none⟩) (Kd.N_far (p := ⟨gb202, 1, none⟩) (Kd.N_far (p := ⟨gb202, 0, none⟩) (Kd.N_mono HO_6.out (fun k_ hk => (⟨hk, hk.2⟩ : _ ∧ k_ ≠ gb202))) (fun _ hk => hk.2) (.int .i64 ((rd_T52 l0_5 x9_2).f0))) (fun _ hk => hk.2) (.int .i64 ((rd_T52 l0_5 x9_2).f1))) (fun _ hk => hk.2) (.bool ((rd_T52 l0_5 x9_2).f2))) (fun _ hk => ⟨hk.1.1.1, ⟨hk.1.1.2.1, ⟨hk.1.1.2.2, hk.1.2⟩⟩⟩)⟩
          have n2_ : Aside0 ((((w15.setCell ⟨gb202, 0, none⟩ (.int .i64 ((rd_T52 l0_5 x9_2).f0))).setCell ⟨gb202, 1, none⟩ (.int .i64 ((rd_T52 l0_5 x9_2).f1))).setCell ⟨gb202, 2, none⟩ (.bool ((rd_T52 l0_5 x9_2).f2))).heap[gb197]? = some (.cells #[.string a0_0, .int .i64 a0_1, .int .i64 a0_2, .int .i64 a0_3, .slice A0_4 l0_4.length c0_4, .slice (some ad201) l0_5.length c0_5] 27 (0, 0))) := ⟨by (with_reducible repeat (first | refine blk_drewN ?_ _ | refine blk_drew ?_ | refine blk_alloc ?_ _)); refine blk_far ?_ NB197_202.out _; (with_reducible repeat (first | refine blk_drewN ?_ _ | refine blk_drew ?_ | refine blk_alloc ?_ _)); refine blk_far ?_ NB197_202.out _; (with_reducible repeat (first | refine blk_drewN ?_ _ | refine blk_drew ?_ | refine blk_alloc ?_ _)); refine blk_far ?_ NB197_202.out _; (with_reducible repeat (first | refine blk_drewN ?_ _ | refine blk_drew ?_ | refine blk_alloc ?_ _)); exact BK197.out⟩
          have n3_ : Aside0 ((((w15.setCell ⟨gb202, 0, none⟩ (.int .i64 ((rd_T52 l0_5 x9_2).f0))).setCell ⟨gb202, 1, none⟩ (.int .i64 ((rd_T52 l0_5 x9_2).f1))).setCell ⟨gb202, 2, none⟩ (.bool ((rd_T52 l0_5 x9_2).f2))).heap[gb202]? = some (.cells #[.int .i64 ((rd_T52 l0_5 x9_2).f0), .int .i64 ((rd_T52 l0_5 x9_2).f1), .bool ((rd_T52 l0_5 x9_2).f2)] 52 (0, 0))) := ⟨by (with_reducible repeat (first | refine blk_drewN ?_ _ | refine blk_drew ?_ | refine blk_alloc ?_ _)); refine blk_put (cs := #[.int .i64 ((rd_T52 l0_5 x9_2).f0), .int .i64 ((rd_T52 l0_5 x9_2).f1), .bool false]) ?_ 2 _ rfl; (with_reducible repeat (first | refine blk_drewN ?_ _ | refine blk_drew ?_ | refine blk_alloc ?_ _)); refine blk_put (cs := #[.int .i64 ((rd_T52 l0_5 x9_2).f0), .int .i64 0, .bool false]) ?_ 1 _ rfl; (with_reducible repeat (first | refine blk_drewN ?_ _ | refine blk_drew ?_ | refine blk_alloc ?_ _)); refine blk_put (cs := #[.int .i64 0, .int .i64 0, .bool false]) ?_ 0 _ rfl; (with_reducible repeat (first | refine blk_drewN ?_ _ | refine blk_drew ?_ | refine blk_alloc ?_ _)); exact BK202.out⟩
          have n4_ : Aside0 (Below w.heap.size w (((w15.setCell ⟨gb202, 0, none⟩ (.int .i64 ((rd_T52 l0_5 x9_2).f0))).setCell ⟨gb202, 1, none⟩ (.int .i64 ((rd_T52 l0_5 x9_2).f1))).setCell ⟨gb202, 2, none⟩ (.bool ((rd_T52 l0_5 x9_2).f2)))) := ⟨by repeat (first | (with_reducible first | exact HB.out | apply below_alloc | apply pw_below_drewN | apply below_drew1 | refine below_set ?_ GE197.out | refine below_set ?_ GE202.out) | exact HB.out)⟩
          (try clear HO_5)
          (try clear HO_6)
          (try clear BK197)
          (try clear BK202)
          (try clear HB)
          generalize (((w15.setCell ⟨gb202, 0, none⟩ (.int .i64 ((rd_T52 l0_5 x9_2).f0))).setCell ⟨gb202, 1, none⟩ (.int .i64 ((rd_T52 l0_5 x9_2).f1))).setCell ⟨gb202, 2, none⟩ (.bool ((rd_T52 l0_5 x9_2).f2))) = w18 at n0_ n1_ n2_ n3_ n4_ ⊢
          have HO_5 := n0_
          have HO_6 := n1_
          have BK197 := n2_
          have BK202 := n3_
          have HB := n4_
          clear n0_ n1_ n2_ n3_ n4_
          have n0_ := Aside0.mk (Kd.N_drew HO_5.out)
          have n1_ := Aside0.mk (Kd.N_drew HO_6.out)
          have n2_ := Aside0.mk (blk_drew BK197.out)
          have n3_ := Aside0.mk (blk_drew BK202.out)
          have n4_ := Aside0.mk (below_drew1 HB.out)
          clear HO_5
          clear HO_6
          clear BK197
          clear BK202
          clear HB
          have HO_5 := n0_
          have HO_6 := n1_
          have BK197 := n2_
          have BK202 := n3_
          have HB := n4_
          clear n0_ n1_ n2_ n3_ n4_
          refine start_ (n := 21) (S := fun w' => True) (ds := []) #[false, false, false, false, false, false, false, false, false, false, false, false, false, false, false, false, false, false, false, false, false] (by kernel_rfl) rfl rfl trivial (fun hHeld => ?_); refine with_tabW helioscoperef01_Truths.tab11 helioscoperef01_Truths.bits11 (fun HT_ HW_ => ?_)
          generalize w18.drew = w19 at HO_5 HO_6 BK197 BK202 HB hHeld ⊢
          refine pure_ (i := 0) (N := some 31) (v := ?_) (a' := ?_) #[true, false, false, false, false, false, false, false, false, false, false, false, false, false, false, false, false, false, false, false, false] rfl rfl (any_of HT_.out (by kernel_rfl)) (fun _ _ _ h => h) (Or.inl ⟨by rfl, ?_⟩) ?_ ?_
          rotate_left
          ·
           intro w'
           go_simp
           with_reducible rfl
          rotate_left
          ·
           simp only [Act.put, List.setIfInBounds_toArray, List.set_cons_zero, List.set_cons_succ, i64_w, i32_w]
           rfl
          refine pure_ (i := 1) (N := some 32) (v := ?_) (a' := ?_) #[true, true, false, false, false, false, false, false, false, false, false, false, false, false, false, false, false, false, false, false, false] rfl rfl (any_of HT_.out (by kernel_rfl)) (fun _ _ _ h => h) (Or.inl ⟨by rfl, ?_⟩) ?_ ?_
          rotate_left
          ·
           intro w'
           go_simp
           with_reducible rfl
          rotate_left
          ·
           simp only [Act.put, List.setIfInBounds_toArray, List.set_cons_zero, List.set_cons_succ, i64_w, i32_w]
           rfl
          refine pure_ (i := 2) (N := some 33) (v := ?_) (a' := ?_) #[true, true, true, false, false, false, false, false, false, false, false, false, false, false, false, false, false, false, false, false, false] rfl rfl (any_of HT_.out (by kernel_rfl)) (fun _ _ _ h => h) (Or.inl ⟨by rfl, ?_⟩) ?_ ?_
          rotate_left
          ·
           intro w'
           go_simp
           with_reducible rfl
          rotate_left
          ·
           simp only [Act.put, List.setIfInBounds_toArray, List.set_cons_zero, List.set_cons_succ, i64_w, i32_w]
           rfl
          refine pure_ (i := 3) (N := some 34) (v := ?_) (a' := ?_) #[true, true, true, true, false, false, false, false, false, false, false, false, false, false, false, false, false, false, false, false, false] rfl rfl (any_of HT_.out (by kernel_rfl)) (fun _ _ _ h => h) (Or.inl ⟨by rfl, ?_⟩) ?_ ?_
          rotate_left
          ·
           intro w'
           go_simp
           with_reducible rfl
          rotate_left
          ·
           simp only [Act.put, List.setIfInBounds_toArray, List.set_cons_zero, List.set_cons_succ, i64_w, i32_w]
           rfl
          refine one_ (i := 4) (N := some 35) #[true, true, true, true, true, false, false, false, false, false, false, false, false, false, false, false, false, false, false, false, false] rfl rfl (one_of HT_.out (by kernel_rfl)) (by decide) (fun K hK => ?_)
          refine goes_ Try.func111 (by kernel_rfl) rfl #[.slice A1 l1.length c1, .int .i64 x9_2] (by rfl) rfl rfl (by (try simp only [List.map_toArray, List.map_cons, List.map_nil]); first | done | rfl | (simp only [List.length_drop, List.length_take]; rfl)) ?_
          with_reducible refine (helioscoperef01_Has.calls k2 _ _ l1 x9_2 true _ ?side1 ?side2 A12.out).mono ?_
          (case side1 => repeat (first | exact (Kd.C_below HR1.out HB.out) | (with_reducible refine Kd.C_alloc ?_ _) | (with_reducible refine Kd.C_drewN ?_ _) | (with_reducible refine Kd.C_drew ?_)))
          (case side2 => exact HC1.out)
          rintro e w' ⟨rfl, ⟨nd, rfl⟩⟩
          refine ⟨_, rfl, ?_⟩
          refine hK.out _ _ trivial (fun hHeld => ?_)
          clear hK K
          refine norm_ (a' := ?_) ?_ ?_
          rotate_left
          ·
           show Act.put _ (some 35) _ = _
           simp only [Act.put, List.setIfInBounds_toArray, List.set_cons_zero, List.set_cons_succ, i64_w, i32_w]
           rfl
          refine pure_ (i := 5) (N := some 36) (v := ?_) (a' := ?_) #[true, true, true, true, true, true, false, false, false, false, false, false, false, false, false, false, false, false, false, false, false] rfl rfl (any_of HT_.out (by kernel_rfl)) (fun _ _ _ h => h) (Or.inl ⟨by rfl, ?_⟩) ?_ ?_
          rotate_left
          ·
           intro w'
           go_simp
           with_reducible rfl
          rotate_left
          ·
           simp only [Act.put, List.setIfInBounds_toArray, List.set_cons_zero, List.set_cons_succ, i64_w, i32_w]
           rfl
          refine pure_ (i := 6) (N := some 37) (v := undef) (a' := ?_) #[true, true, true, true, true, true, true, false, false, false, false, false, false, false, false, false, false, false, false, false, false] rfl rfl (any_of HT_.out (by kernel_rfl)) (fun _ _ _ h => h) (Or.inr ⟨by rfl, rfl⟩) ?_ ?_
          rotate_left
          ·
           simp only [Act.put, List.setIfInBounds_toArray, List.set_cons_zero, List.set_cons_succ, i64_w, i32_w]
           rfl
          refine pure_ (i := 7) (N := some 38) (v := undef) (a' := ?_) #[true, true, true, true, true, true, true, true, false, false, false, false, false, false, false, false, false, false, false, false, false] rfl rfl (any_of HT_.out (by kernel_rfl)) (fun _ _ _ h => h) (Or.inr ⟨by rfl, rfl⟩) ?_ ?_
          rotate_left
          ·
           simp only [Act.put, List.setIfInBounds_toArray, List.set_cons_zero, List.set_cons_succ, i64_w, i32_w]
           rfl
          refine pure_ (i := 8) (N := some 39) (v := undef) (a' := ?_) #[true, true, true, true, true, true, true, true, true, false, false, false, false, false, false, false, false, false, false, false, false] rfl rfl (any_of HT_.out (by kernel_rfl)) (fun _ _ _ h => h) (Or.inr ⟨by rfl, rfl⟩) ?_ ?_
          rotate_left
          ·
           simp only [Act.put, List.setIfInBounds_toArray, List.set_cons_zero, List.set_cons_succ, i64_w, i32_w]
           rfl
          refine pure_ (i := 9) (N := some 40) (v := undef) (a' := ?_) #[true, true, true, true, true, true, true, true, true, true, false, false, false, false, false, false, false, false, false, false, false] rfl rfl (any_of HT_.out (by kernel_rfl)) (fun _ _ _ h => h) (Or.inr ⟨by rfl, rfl⟩) ?_ ?_
          rotate_left
          ·
           simp only [Act.put, List.setIfInBounds_toArray, List.set_cons_zero, List.set_cons_succ, i64_w, i32_w]
           rfl
          refine pure_ (i := 10) (N := some 41) (v := undef) (a' := ?_) #[true, true, true, true, true, true, true, true, true, true, true, false, false, false, false, false, false, false, false, false, false] rfl rfl (any_of HT_.out (by kernel_rfl)) (fun _ _ _ h => h) (Or.inr ⟨by rfl, rfl⟩) ?_ ?_
          rotate_left
          ·
           simp only [Act.put, List.setIfInBounds_toArray, List.set_cons_zero, List.set_cons_succ, i64_w, i32_w]
           rfl
          refine pure_ (i := 11) (N := some 42) (v := undef) (a' := ?_) #[true, true, true, true, true, true, true, true, true, true, true, true, false, false, false, false, false, false, false, false, false] rfl rfl (any_of HT_.out (by kernel_rfl)) (fun _ _ _ h => h) (Or.inr ⟨by rfl, rfl⟩) ?_ ?_
          rotate_left
          ·
           simp only [Act.put, List.setIfInBounds_toArray, List.set_cons_zero, List.set_cons_succ, i64_w, i32_w]
           rfl
          refine pure_ (i := 12) (N := some 43) (v := undef) (a' := ?_) #[true, true, true, true, true, true, true, true, true, true, true, true, true, false, false, false, false, false, false, false, false] rfl rfl (any_of HT_.out (by kernel_rfl)) (fun _ _ _ h => h) (Or.inr ⟨by rfl, rfl⟩) ?_ ?_
          rotate_left
          ·
           simp only [Act.put, List.setIfInBounds_toArray, List.set_cons_zero, List.set_cons_succ, i64_w, i32_w]
           rfl
          refine pure_ (i := 13) (N := some 44) (v := undef) (a' := ?_) #[true, true, true, true, true, true, true, true, true, true, true, true, true, true, false, false, false, false, false, false, false] rfl rfl (any_of HT_.out (by kernel_rfl)) (fun _ _ _ h => h) (Or.inr ⟨by rfl, rfl⟩) ?_ ?_
          rotate_left
          ·
           simp only [Act.put, List.setIfInBounds_toArray, List.set_cons_zero, List.set_cons_succ, i64_w, i32_w]
           rfl
          refine pure_ (i := 14) (N := some 45) (v := undef) (a' := ?_) #[true, true, true, true, true, true, true, true, true, true, true, true, true, true, true, false, false, false, false, false, false] rfl rfl (any_of HT_.out (by kernel_rfl)) (fun _ _ _ h => h) (Or.inr ⟨by rfl, rfl⟩) ?_ ?_
          rotate_left
          ·
           simp only [Act.put, List.setIfInBounds_toArray, List.set_cons_zero, List.set_cons_succ, i64_w, i32_w]
           rfl
          refine pure_ (i := 15) (N := some 46) (v := undef) (a' := ?_) #[true, true, true, true, true, true, true, true, true, true, true, true, true, true, true, true, false, false, false, false, false] rfl rfl (any_of HT_.out (by kernel_rfl)) (fun _ _ _ h => h) (Or.inr ⟨by rfl, rfl⟩) ?_ ?_
          rotate_left
          ·
           simp only [Act.put, List.setIfInBounds_toArray, List.set_cons_zero, List.set_cons_succ, i64_w, i32_w]
           rfl
          refine pure_ (i := 16) (N := some 47) (v := undef) (a' := ?_) #[true, true, true, true, true, true, true, true, true, true, true, true, true, true, true, true, true, false, false, false, false] rfl rfl (any_of HT_.out (by kernel_rfl)) (fun _ _ _ h => h) (Or.inr ⟨by rfl, rfl⟩) ?_ ?_
          rotate_left
          ·
           simp only [Act.put, List.setIfInBounds_toArray, List.set_cons_zero, List.set_cons_succ, i64_w, i32_w]
           rfl
          refine pure_ (i := 17) (N := some 48) (v := undef) (a' := ?_) #[true, true, true, true, true, true, true, true, true, true, true, true, true, true, true, true, true, true, false, false, false] rfl rfl (any_of HT_.out (by kernel_rfl)) (fun _ _ _ h => h) (Or.inr ⟨by rfl, rfl⟩) ?_ ?_
          rotate_left
          ·
           simp only [Act.put, List.setIfInBounds_toArray, List.set_cons_zero, List.set_cons_succ, i64_w, i32_w]
           rfl
          refine pure_ (i := 18) (N := some 49) (v := ?_) (a' := ?_) #[true, true, true, true, true, true, true, true, true, true, true, true, true, true, true, true, true, true, true, false, false] rfl rfl (any_of HT_.out (by kernel_rfl)) (fun _ _ _ h => h) (Or.inl ⟨by rfl, ?_⟩) ?_ ?_
          rotate_left
          ·
           intro w'
           go_simp
           with_reducible rfl
          rotate_left
          ·
           simp only [Act.put, List.setIfInBounds_toArray, List.set_cons_zero, List.set_cons_succ, i64_w, i32_w]
           rfl
          refine pure_ (i := 19) (N := some 50) (v := ?_) (a' := ?_) #[true, true, true, true, true, true, true, true, true, true, true, true, true, true, true, true, true, true, true, true, false] rfl rfl (any_of HT_.out (by kernel_rfl)) (fun _ _ _ h => h) (Or.inl ⟨by rfl, ?_⟩) ?_ ?_
          rotate_left
          ·
           intro w'
           go_simp
           with_reducible rfl
          rotate_left
          ·
           simp only [Act.put, List.setIfInBounds_toArray, List.set_cons_zero, List.set_cons_succ, i64_w, i32_w]
           rfl
          refine pure_ (i := 20) (N := some 8) (v := ?_) (a' := ?_) #[true, true, true, true, true, true, true, true, true, true, true, true, true, true, true, true, true, true, true, true, true] rfl rfl (any_of HT_.out (by kernel_rfl)) (fun _ _ _ h => h) (Or.inl ⟨by rfl, ?_⟩) ?_ ?_
          rotate_left
          ·
           intro w'
           go_simp
           with_reducible rfl
          rotate_left
          ·
           simp only [Act.put, List.setIfInBounds_toArray, List.set_cons_zero, List.set_cons_succ, i64_w, i32_w]
           rfl
          refine done_ (done_of HT_.out (by kernel_rfl)) ?_
          try go_wp2
          go_roundg k2
          case measure => have := HK1.out; have := HK2.out; omega
          case rel => exact ⟨(true), (wrap64 (x9_2 + 1)), (by first | rfl | (simp; done) | (simp [*]; done)), (by first | rfl | (simp; done) | (simp [*]; done)), H', ⟨by have := HK1.out; have := HK2.out; omega⟩, ⟨by (with_reducible repeat (first | apply Kd.N_alloc | apply Kd.N_drewN | apply Kd.N_drew)); exact Kd.N_mono HO_5.out (fun _ hk => ⟨hk.1, ⟨hk.2.1, hk.2.2.1⟩⟩)⟩, ⟨by (with_reducible repeat (first | apply Kd.N_alloc | apply Kd.N_drewN | apply Kd.N_drew)); exact Kd.N_mono HO_6.out (fun _ hk => ⟨hk.1, ⟨hk.2.1, hk.2.2.1⟩⟩)⟩, ⟨by (with_reducible repeat (first | refine blk_drewN ?_ _ | refine blk_drew ?_ | refine blk_alloc ?_ _)); exact BK197.out⟩, ⟨by repeat (first | (with_reducible first | exact HB.out | apply below_alloc | apply pw_below_drewN | apply below_drew1 | refine below_set ?_ GE197.out | refine below_set ?_ GE202.out) | exact HB.out)⟩⟩
         ·
          replace c13 := Bool.eq_false_iff.mpr c13
          subst c13
          have H1 : (if 0 ≤ x7_1 then (if x7_1 < (t198.length : Int) then ((helioscoperef01_Together.f ((rd_T57 t198 x7_1).f0) ((rd_T57 t198 x7_1).f1) ((rd_T52 l0_5 x9_2).f0) ((rd_T52 l0_5 x9_2).f1)).bind fun t205 => (helioscoperef01_Truths.l1 k2 l1 t198 x6_1 x7_1 (t205 == ((rd_T52 l0_5 x9_2).f2)) (wrap64 (x9_2 + 1)) a0_0 a0_1 a0_2 a0_3 l0_4 l0_5)) else (none)) else (none)) = some r := by rw [if_neg (show ¬ (false = true) by decide)] at H; exact H
          clear H
          have H := H1
          clear H1
          by_cases c20 : 0 ≤ x7_1
          ·
           rw [if_pos c20] at H
           have c20b0 : decide (0 ≤ x7_1) = true := decide_eq_true c20
           clear c20
           by_cases c21 : x7_1 < (t198.length : Int)
           ·
            rw [if_pos c21] at H
            have c21b0 : decide (x7_1 < (t198.length : Int)) = true := decide_eq_true c21
            clear c21
            replace H := Option.bind_eq_some_iff.mp H
            obtain ⟨t205, A220, H⟩ := H
            replace H : (helioscoperef01_Truths.l1 k2 l1 t198 x6_1 x7_1 (t205 == ((rd_T52 l0_5 x9_2).f2)) (wrap64 (x9_2 + 1)) a0_0 a0_1 a0_2 a0_3 l0_4 l0_5) = some r := H
            have A22 := Aside0.mk A220
            clear A220
            have H' := Aside0.mk H
            clear H
            have hcz23_0 : wr.cell? ⟨gb197, 0, none⟩ = some (.string a0_0) := (blk_cell BK197.out 0).trans rfl
            have hcz23_1 : wr.cell? ⟨gb197, 1, none⟩ = some (.int .i64 a0_1) := (blk_cell BK197.out 1).trans rfl
            have hcz23_2 : wr.cell? ⟨gb197, 2, none⟩ = some (.int .i64 a0_2) := (blk_cell BK197.out 2).trans rfl
            have hcz23_3 : wr.cell? ⟨gb197, 3, none⟩ = some (.int .i64 a0_3) := (blk_cell BK197.out 3).trans rfl
            have hcz23_4 : wr.cell? ⟨gb197, 4, none⟩ = some (.slice A0_4 l0_4.length c0_4) := (blk_cell BK197.out 4).trans rfl
            have hcz23_5 : wr.cell? ⟨gb197, 5, none⟩ = some (.slice A0_5 l0_5.length c0_5) := (blk_cell BK197.out 5).trans rfl
            have hfz23_0 := blk_frozen BK197.out 0
            have hfz23_1 := blk_frozen BK197.out 1
            have hfz23_2 := blk_frozen BK197.out 2
            have hfz23_3 := blk_frozen BK197.out 3
            have hfz23_4 := blk_frozen BK197.out 4
            have hfz23_5 := blk_frozen BK197.out 5
            have p201 : 0 ≤ (x9_2 : Int) := of_decide_eq_true (by first | (with_reducible assumption) | assumption)
            have q201 : x9_2 < (l0_5.length : Int) := of_decide_eq_true (by first | (with_reducible assumption) | assumption)
            obtain ⟨ad201, e201, hx201_0, hx201_1, hx201_2⟩ := at_T52 HR0_5.out x9_2 p201 q201
            cases e201
            replace hx201_0 := (HB.out.cell (World.block_lt_of_cell? w _ hx201_0)).trans hx201_0
            replace hx201_1 := (HB.out.cell (World.block_lt_of_cell? w _ hx201_1)).trans hx201_1
            replace hx201_2 := (HB.out.cell (World.block_lt_of_cell? w _ hx201_2)).trans hx201_2
            replace p201 := eq_true p201
            replace q201 := eq_true q201
            try go_wp2_with (first | ((with_reducible refine gate_dst (N := 10) rfl ?_); refine box_event ?hg (N := 10) ?hd (cs := #[.int .i64 0, .int .i64 0, .bool false]) (t := 52) ?hr ?_; (case hd => rfl); (case hg => rfl); (case hr => first | (go_simp; done) | (go_simp; rfl)); intro gb202 hg w24 hbox hb; have n0_ := Aside0.mk (Kd.N_below (Kd.N_elderB (by (with_reducible repeat (first | apply Kd.N_alloc | apply Kd.N_drewN | apply Kd.N_drew)); exact HO_5.out) gb202 (Nat.le_of_eq hg.symm)) hb); have n1_ := Aside0.mk (Kd.N_below (Kd.N_elderB (by (with_reducible repeat (first | apply Kd.N_alloc | apply Kd.N_drewN | apply Kd.N_drew)); exact HO_6.out) gb202 (Nat.le_of_eq hg.symm)) hb); have n2_ := Aside0.mk (blk_below (g := gb197) (o := .cells #[.string a0_0, .int .i64 a0_1, .int .i64 a0_2, .int .i64 a0_3, .slice A0_4 l0_4.length c0_4, .slice (some ad201) l0_5.length c0_5] 27 (0, 0)) (by (with_reducible repeat (first | refine blk_drewN ?_ _ | refine blk_drew ?_ | refine blk_alloc ?_ _)); exact BK197.out) hb); have n3_ := Aside0.mk (below_step (by repeat (first | (with_reducible first | exact HB.out | apply below_alloc | apply pw_below_drewN | apply below_drew1 | refine below_set ?_ GE197.out) | exact HB.out)) hb); have n4_ := Aside0.mk (hbox); have n5_ := Aside0.mk ((by rw [hg]; exact (below_size (by repeat (first | (with_reducible first | exact HB.out | apply below_alloc | apply pw_below_drewN | apply below_drew1 | refine below_set ?_ GE197.out) | exact HB.out))) : w.heap.size ≤ gb202)); have n6_ := Aside0.mk ((by rw [hg]; exact (below_size (by repeat (first | (with_reducible first | exact HB.out | apply below_alloc | apply pw_below_drewN | apply below_drew1 | refine below_set ?_ GE197.out) | exact HB.out))) : w.heap.size ≤ gb202)); have n7_ := Aside0.mk ((by rw [hg]; exact Nat.ne_of_lt (blk_lt (g := gb197) (o := .cells #[.string a0_0, .int .i64 a0_1, .int .i64 a0_2, .int .i64 a0_3, .slice A0_4 l0_4.length c0_4, .slice (some ad201) l0_5.length c0_5] 27 (0, 0)) (by (with_reducible repeat (first | refine blk_drewN ?_ _ | refine blk_drew ?_ | refine blk_alloc ?_ _)); exact BK197.out)) : gb197 ≠ gb202)); have n8_ := Aside0.mk ((by rw [hg]; exact Nat.ne_of_gt (blk_lt (g := gb197) (o := .cells #[.string a0_0, .int .i64 a0_1, .int .i64 a0_2, .int .i64 a0_3, .slice A0_4 l0_4.length c0_4, .slice (some ad201) l0_5.length c0_5] 27 (0, 0)) (by (with_reducible repeat (first | refine blk_drewN ?_ _ | refine blk_drew ?_ | refine blk_alloc ?_ _)); exact BK197.out)) : gb202 ≠ gb197)); clear HO_5; clear HO_6; clear BK197; clear HB; have HO_5 := n0_; have HO_6 := n1_; have BK197 := n2_; have HB := n3_; have BK202 := n4_; have GW202 := n5_; have GE202 := n6_; have NB197_202 := n7_; have NB202_197 := n8_; clear n0_ n1_ n2_ n3_ n4_ n5_ n6_ n7_ n8_; clear hb hbox hg; have hnb25 := NB202_197.out; have hnc25 := NB197_202.out; have hcz26_0 : w24.cell? ⟨gb202, 0, none⟩ = some (.int .i64 0) := (blk_cell BK202.out 0).trans rfl; have hcz26_1 : w24.cell? ⟨gb202, 1, none⟩ = some (.int .i64 0) := (blk_cell BK202.out 1).trans rfl; have hcz26_2 : w24.cell? ⟨gb202, 2, none⟩ = some (.bool false) := (blk_cell BK202.out 2).trans rfl; have hfz26_0 := blk_frozen BK202.out 0; have hfz26_1 := blk_frozen BK202.out 1; have hfz26_2 := blk_frozen BK202.out 2))
            have n0_ : Aside0 (Kd.N k57 57 (((w24.setCell ⟨gb202, 0, none⟩ (.int .i64 ((rd_T52 l0_5 x9_2).f0))).setCell ⟨gb202, 1, none⟩ (.int .i64 ((rd_T52 l0_5 x9_2).f1))).setCell ⟨gb202, 2, none⟩ (.bool ((rd_T52 l0_5 x9_2).f2))) w.heap.size (fun k_ => (w.heap.size ≤ k_) ∧ some k_ ≠ (u6 : Value).ownBlock ∧ k_ ≠ gb197 ∧ k_ ≠ gb202) (.slice Ao8 t198.length co8) t198) := ⟨by (with_reducible repeat (first | apply Kd.N_alloc | apply Kd.N_drewN | apply Kd.N_drew)); exact Kd.N_mono (Kd.N_far (p := ⟨gb202, 2, none⟩) (Kd.N_far (p := ⟨gb202, 1, none⟩) (Kd.N_far (p := ⟨gb202, 0, none⟩) (Kd.N_mono HO_5.out (fun k_ hk => (⟨hk, hk.2⟩ : _ ∧ k_ ≠ gb202))) (fun _ hk => hk.2) (.int .i64 ((rd_T52 l0_5 x9_2).f0))) (fun _ hk => hk.2) (.int .i64 ((rd_T52 l0_5 x9_2).f1))) (fun _ hk => hk.2) (.bool ((rd_T52 l0_5 x9_2).f2))) (fun _ hk => ⟨hk.1.1.1, ⟨hk.1.1.2.1, ⟨hk.1.1.2.2, hk.1.2⟩⟩⟩)⟩
            have n1_ : Aside0 (Kd.N k57 57 (((w24.setCell ⟨gb202, 0, none⟩ (.int .i64 ((rd_T52 l0_5 x9_2).f0))).setCell ⟨gb202, 1, none⟩ (.int .i64 ((rd_T52 l0_5 x9_2).f1))).setCell ⟨gb202, 2, none⟩ (.bool ((rd_T52 l0_5 x9_2).f2))) w.heap.size (fun k_ => (w.heap.size ≤ k_) ∧ some k_ ≠ (.slice Ao8 t198.length co8 : Value).ownBlock ∧ k_ ≠ gb197 ∧ k_ ≠ gb202) u6 x6_1) := ⟨by (with_reducible repeat (first | apply Kd.N_alloc | apply Kd.N_drewN | apply Kd.N_drew)); exact Kd.N_mono (Kd.N_far (p := ⟨gb202, 2, none⟩) (Kd.N_far (p := ⟨gb202, 1, none⟩) (Kd.N_far (p := ⟨gb202, 0, none⟩) (Kd.N_mono HO_6.out (fun k_ hk => (⟨hk, hk.2⟩ : _ ∧ k_ ≠ gb202))) (fun _ hk => hk.2) (.int .i64 ((rd_T52 l0_5 x9_2).f0))) (fun _ hk => hk.2) (.int .i64 ((rd_T52 l0_5 x9_2).f1))) (fun _ hk => hk.2) (.bool ((rd_T52 l0_5 x9_2).f2))) (fun _ hk => ⟨hk.1.1.1, ⟨hk.1.1.2.1, ⟨hk.1.1.2.2, hk.1.2⟩⟩⟩)⟩
            have n2_ : Aside0 ((((w24.setCell ⟨gb202, 0, none⟩ (.int .i64 ((rd_T52 l0_5 x9_2).f0))).setCell ⟨gb202, 1, none⟩ (.int .i64 ((rd_T52 l0_5 x9_2).f1))).setCell ⟨gb202, 2, none⟩ (.bool ((rd_T52 l0_5 x9_2).f2))).heap[gb197]? = some (.cells #[.string a0_0, .int .i64 a0_1, .int .i64 a0_2, .int .i64 a0_3, .slice A0_4 l0_4.length c0_4, .slice (some ad201) l0_5.length c0_5] 27 (0, 0))) := ⟨by (with_reducible repeat (first | refine blk_drewN ?_ _ | refine blk_drew ?_ | refine blk_alloc ?_ _)); refine blk_far ?_ NB197_202.out _; (with_reducible repeat (first | refine blk_drewN ?_ _ | refine blk_drew ?_ | refine blk_alloc ?_ _)); refine blk_far ?_ NB197_202.out _; (with_reducible repeat (first | refine blk_drewN ?_ _ | refine blk_drew ?_ | refine blk_alloc ?_ _)); refine blk_far ?_ NB197_202.out _; (with_reducible repeat (first | refine blk_drewN ?_ _ | refine blk_drew ?_ | refine blk_alloc ?_ _)); exact BK197.out⟩
            have n3_ : Aside0 ((((w24.setCell ⟨gb202, 0, none⟩ (.int .i64 ((rd_T52 l0_5 x9_2).f0))).setCell ⟨gb202, 1, none⟩ (.int .i64 ((rd_T52 l0_5 x9_2).f1))).setCell ⟨gb202, 2, none⟩ (.bool ((rd_T52 l0_5 x9_2).f2))).heap[gb202]? = some (.cells #[.int .i64 ((rd_T52 l0_5 x9_2).f0), .int .i64 ((rd_T52 l0_5 x9_2).f1), .bool ((rd_T52 l0_5 x9_2).f2)] 52 (0, 0))) := ⟨by (with_reducible repeat (first | refine blk_drewN ?_ _ | refine blk_drew ?_ | refine blk_alloc ?_ _)); refine blk_put (cs := #[.int .i64 ((rd_T52 l0_5 x9_2).f0), .int .i64 ((rd_T52 l0_5 x9_2).f1), .bool false]) ?_ 2 _ rfl; (with_reducible repeat (first | refine blk_drewN ?_ _ | refine blk_drew ?_ | refine blk_alloc ?_ _)); refine blk_put (cs := #[.int .i64 ((rd_T52 l0_5 x9_2).f0), .int .i64 0, .bool false]) ?_ 1 _ rfl; (with_reducible repeat (first | refine blk_drewN ?_ _ | refine blk_drew ?_ | refine blk_alloc ?_ _)); refine blk_put (cs := #[.int .i64 0, .int .i64 0, .bool false]) ?_ 0 _ rfl; (with_reducible repeat (first | refine blk_drewN ?_ _ | refine blk_drew ?_ | refine blk_alloc ?_ _)); exact BK202.out⟩
            have n4_ : Aside0 (Below w.heap.size w (((w24.setCell ⟨gb202, 0, none⟩ (.int .i64 ((rd_T52 l0_5 x9_2).f0))).setCell ⟨gb202, 1, none⟩ (.int .i64 ((rd_T52 l0_5 x9_2).f1))).setCell ⟨gb202, 2, none⟩ (.bool ((rd_T52 l0_5 x9_2).f2)))) := ⟨by repeat (first | (with_reducible first | exact HB.out | apply below_alloc | apply pw_below_drewN | apply below_drew1 | refine below_set ?_ GE197.out | refine below_set ?_ GE202.out) | exact HB.out)⟩
            (try clear HO_5)
            (try clear HO_6)
            (try clear BK197)
            (try clear BK202)
            (try clear HB)
            generalize (((w24.setCell ⟨gb202, 0, none⟩ (.int .i64 ((rd_T52 l0_5 x9_2).f0))).setCell ⟨gb202, 1, none⟩ (.int .i64 ((rd_T52 l0_5 x9_2).f1))).setCell ⟨gb202, 2, none⟩ (.bool ((rd_T52 l0_5 x9_2).f2))) = w27 at n0_ n1_ n2_ n3_ n4_ ⊢
            have HO_5 := n0_
            have HO_6 := n1_
            have BK197 := n2_
            have BK202 := n3_
            have HB := n4_
            clear n0_ n1_ n2_ n3_ n4_
            have n0_ := Aside0.mk (Kd.N_drew HO_5.out)
            have n1_ := Aside0.mk (Kd.N_drew HO_6.out)
            have n2_ := Aside0.mk (blk_drew BK197.out)
            have n3_ := Aside0.mk (blk_drew BK202.out)
            have n4_ := Aside0.mk (below_drew1 HB.out)
            clear HO_5
            clear HO_6
            clear BK197
            clear BK202
            clear HB
            have HO_5 := n0_
            have HO_6 := n1_
            have BK197 := n2_
            have BK202 := n3_
            have HB := n4_
            clear n0_ n1_ n2_ n3_ n4_
            have p204 : 0 ≤ (x7_1 : Int) := of_decide_eq_true (by first | (with_reducible assumption) | assumption)
            have q204 : x7_1 < (t198.length : Int) := of_decide_eq_true (by first | (with_reducible assumption) | assumption)
            obtain ⟨ad204, A204_1, c204_1, e204, hx204_0, hx204_1, hl204_1, hi204_1⟩ := at_T57 (Kd.N_reads' HO_5.out).2.2 x7_1 p204 q204
            cases e204
            obtain ⟨ce204, hce204, hMe204, hcc204⟩ := Kd.N_get HO_5.out z57 x7_1 p204 (by first | exact q204 | exact of_decide_eq_true (by first | (with_reducible assumption) | assumption) | (have e_ := (Kd.N_reads' HO_5.out).1; omega))
            obtain ⟨ua204_1, uc204_1, rfl, ul204_1, ge204_1⟩ := k57_openF hMe204
            have hv204_1 := hcc204 1 _ rfl
            rw [add_field _ _ 1 (by omega)] at hv204_1
            replace hv204_1 := Option.some.inj (hv204_1.symm.trans hx204_1)
            injection hv204_1 with hva_ hvn_ hvc_
            rw [hva_] at ge204_1
            rw [hvc_] at ul204_1
            have HL204_1 := Aside0.mk (show Kd.V (Kd.int .i64) 3 _ w.heap.size _ _ ((rd_T57 t198 x7_1).f1) from Kd.V_mk ul204_1 ge204_1)
            clear hva_ hvn_ hvc_ ge204_1 ul204_1
            clear hcc204 hce204
            have HR204_1 := Aside0.mk hi204_1
            have HC204_1 := Aside0.mk hl204_1
            clear hi204_1 hl204_1
            replace p204 := eq_true p204
            replace q204 := eq_true q204
            refine start_ (n := 21) (S := fun w' => w'.cell? ⟨gb202, 0, none⟩ = some (.int .i64 ((rd_T52 l0_5 x9_2).f0)) ∧ w'.cell? ⟨gb202, 1, none⟩ = some (.int .i64 ((rd_T52 l0_5 x9_2).f1)) ∧ w'.cell? ⟨gb202, 2, none⟩ = some (.bool ((rd_T52 l0_5 x9_2).f2)) ∧ w'.cell? (ad204.add ((x7_1).toNat * 2)) = some (.int .i64 ((rd_T57 t198 x7_1).f0)) ∧ w'.cell? ⟨(ad204.add ((x7_1).toNat * 2)).block, (ad204.add ((x7_1).toNat * 2)).off + 1, none⟩ = some (.slice A204_1 ((rd_T57 t198 x7_1).f1).length c204_1)) (ds := []) #[false, false, false, false, false, false, false, false, false, false, false, false, false, false, false, false, false, false, false, false, false] (by kernel_rfl) rfl rfl ⟨(blk_cell BK202.out 0).trans rfl, (blk_cell BK202.out 1).trans rfl, (blk_cell BK202.out 2).trans rfl, hx204_0, hx204_1⟩ (fun hHeld => ?_); refine with_tabW helioscoperef01_Truths.tab11 helioscoperef01_Truths.bits11 (fun HT_ HW_ => ?_)
            generalize w27.drew = w28 at HO_5 HO_6 BK197 BK202 HB HL204_1 HR204_1 hx204_0 hx204_1 hHeld ⊢
            refine pure_ (i := 0) (N := some 31) (v := ?_) (a' := ?_) #[true, false, false, false, false, false, false, false, false, false, false, false, false, false, false, false, false, false, false, false, false] rfl rfl (any_of HT_.out (by kernel_rfl)) (fun _ _ _ h => h) (Or.inl ⟨by rfl, ?_⟩) ?_ ?_
            rotate_left
            ·
             intro w'
             go_simp
             with_reducible rfl
            rotate_left
            ·
             simp only [Act.put, List.setIfInBounds_toArray, List.set_cons_zero, List.set_cons_succ, i64_w, i32_w]
             rfl
            refine pure_ (i := 1) (N := some 32) (v := ?_) (a' := ?_) #[true, true, false, false, false, false, false, false, false, false, false, false, false, false, false, false, false, false, false, false, false] rfl rfl (any_of HT_.out (by kernel_rfl)) (fun _ _ _ h => h) (Or.inl ⟨by rfl, ?_⟩) ?_ ?_
            rotate_left
            ·
             intro w'
             go_simp
             with_reducible rfl
            rotate_left
            ·
             simp only [Act.put, List.setIfInBounds_toArray, List.set_cons_zero, List.set_cons_succ, i64_w, i32_w]
             rfl
            refine pure_ (i := 2) (N := some 33) (v := ?_) (a' := ?_) #[true, true, true, false, false, false, false, false, false, false, false, false, false, false, false, false, false, false, false, false, false] rfl rfl (any_of HT_.out (by kernel_rfl)) (fun _ _ _ h => h) (Or.inl ⟨by rfl, ?_⟩) ?_ ?_
            rotate_left
            ·
             intro w'
             go_simp
             with_reducible rfl
            rotate_left
            ·
             simp only [Act.put, List.setIfInBounds_toArray, List.set_cons_zero, List.set_cons_succ, i64_w, i32_w]
             rfl
            refine pure_ (i := 3) (N := some 34) (v := ?_) (a' := ?_) #[true, true, true, true, false, false, false, false, false, false, false, false, false, false, false, false, false, false, false, false, false] rfl rfl (any_of HT_.out (by kernel_rfl)) (fun _ _ _ h => h) (Or.inl ⟨by rfl, ?_⟩) ?_ ?_
            rotate_left
            ·
             intro w'
             go_simp
             with_reducible rfl
            rotate_left
            ·
             simp only [Act.put, List.setIfInBounds_toArray, List.set_cons_zero, List.set_cons_succ, i64_w, i32_w]
             rfl
            refine one_ (i := 4) (N := some 35) #[true, true, true, true, true, false, false, false, false, false, false, false, false, false, false, false, false, false, false, false, false] rfl rfl (one_of HT_.out (by kernel_rfl)) (by decide) (fun K hK => ?_)
            refine goes_ Try.func111 (by kernel_rfl) rfl #[.slice A1 l1.length c1, .int .i64 x9_2] (by rfl) rfl rfl (by (try simp only [List.map_toArray, List.map_cons, List.map_nil]); first | done | rfl | (simp only [List.length_drop, List.length_take]; rfl)) ?_
            with_reducible refine (helioscoperef01_Has.calls k2 _ _ l1 x9_2 false _ ?side1 ?side2 A12.out).mono ?_
            (case side1 => repeat (first | exact (Kd.C_below HR1.out HB.out) | (with_reducible refine Kd.C_alloc ?_ _) | (with_reducible refine Kd.C_drewN ?_ _) | (with_reducible refine Kd.C_drew ?_)))
            (case side2 => exact HC1.out)
            rintro e w' ⟨rfl, ⟨nd, rfl⟩⟩
            refine ⟨_, rfl, ?_⟩
            refine hK.out _ _ ⟨(blk_cell BK202.out 0).trans rfl, (blk_cell BK202.out 1).trans rfl, (blk_cell BK202.out 2).trans rfl, hHeld.2.2.2.1, hHeld.2.2.2.2⟩ (fun hHeld => ?_)
            clear hK K
            refine norm_ (a' := ?_) ?_ ?_
            rotate_left
            ·
             show Act.put _ (some 35) _ = _
             simp only [Act.put, List.setIfInBounds_toArray, List.set_cons_zero, List.set_cons_succ, i64_w, i32_w]
             rfl
            refine pure_ (i := 5) (N := some 36) (v := ?_) (a' := ?_) #[true, true, true, true, true, true, false, false, false, false, false, false, false, false, false, false, false, false, false, false, false] rfl rfl (any_of HT_.out (by kernel_rfl)) (fun _ _ _ h => h) (Or.inl ⟨by rfl, ?_⟩) ?_ ?_
            rotate_left
            ·
             intro w'
             go_simp
             with_reducible rfl
            rotate_left
            ·
             simp only [Act.put, List.setIfInBounds_toArray, List.set_cons_zero, List.set_cons_succ, i64_w, i32_w]
             rfl
            refine pure_ (i := 6) (N := some 37) (v := ?_) (a' := ?_) #[true, true, true, true, true, true, true, false, false, false, false, false, false, false, false, false, false, false, false, false, false] rfl rfl (any_of HT_.out (by kernel_rfl)) (fun _ _ _ h => h) (Or.inl ⟨by rfl, ?_⟩) ?_ ?_
            rotate_left
            ·
             intro w'
             go_simp
             with_reducible rfl
            rotate_left
            ·
             simp only [Act.put, List.setIfInBounds_toArray, List.set_cons_zero, List.set_cons_succ, i64_w, i32_w]
             rfl
            refine pure_ (i := 7) (N := some 38) (v := ?_) (a' := ?_) #[true, true, true, true, true, true, true, true, false, false, false, false, false, false, false, false, false, false, false, false, false] rfl rfl (any_of HT_.out (by kernel_rfl)) (fun _ _ _ h => h) (Or.inl ⟨by rfl, ?_⟩) ?_ ?_
            rotate_left
            ·
             intro w'
             go_simp
             with_reducible rfl
            rotate_left
            ·
             simp only [Act.put, List.setIfInBounds_toArray, List.set_cons_zero, List.set_cons_succ, i64_w, i32_w]
             rfl
            refine pure_ (i := 8) (N := some 39) (v := ?_) (a' := ?_) #[true, true, true, true, true, true, true, true, true, false, false, false, false, false, false, false, false, false, false, false, false] rfl rfl (any_of HT_.out (by kernel_rfl)) (fun _ _ _ h => h) (Or.inl ⟨by rfl, ?_⟩) ?_ ?_
            rotate_left
            ·
             intro w'
             go_simp
             with_reducible rfl
            rotate_left
            ·
             simp only [Act.put, List.setIfInBounds_toArray, List.set_cons_zero, List.set_cons_succ, i64_w, i32_w]
             rfl
            refine pure_ (i := 10) (N := some 41) (v := ?_) (a' := ?_) #[true, true, true, true, true, true, true, true, true, false, true, false, false, false, false, false, false, false, false, false, false] rfl rfl (any_of HT_.out (by kernel_rfl)) (fun _ _ _ h => h) (Or.inl ⟨by rfl, ?_⟩) ?_ ?_
            rotate_left
            ·
             intro w'
             go_simp
             with_reducible rfl
            rotate_left
            ·
             simp only [Act.put, List.setIfInBounds_toArray, List.set_cons_zero, List.set_cons_succ, i64_w, i32_w]
             rfl
            refine pure_ (i := 12) (N := some 43) (v := ?_) (a' := ?_) #[true, true, true, true, true, true, true, true, true, false, true, false, true, false, false, false, false, false, false, false, false] rfl rfl (any_of HT_.out (by kernel_rfl)) (fun _ _ _ h => h) (Or.inl ⟨by rfl, ?_⟩) ?_ ?_
            rotate_left
            ·
             intro w'
             go_simp
             with_reducible rfl
            rotate_left
            ·
             simp only [Act.put, List.setIfInBounds_toArray, List.set_cons_zero, List.set_cons_succ, i64_w, i32_w]
             rfl
            refine pure_ (i := 15) (N := some 46) (v := ?_) (a' := ?_) #[true, true, true, true, true, true, true, true, true, false, true, false, true, false, false, true, false, false, false, false, false] rfl rfl (any_of HT_.out (by kernel_rfl)) (fun _ _ _ h => h) (Or.inl ⟨by rfl, ?_⟩) ?_ ?_
            rotate_left
            ·
             intro w'
             go_simp
             with_reducible rfl
            rotate_left
            ·
             simp only [Act.put, List.setIfInBounds_toArray, List.set_cons_zero, List.set_cons_succ, i64_w, i32_w]
             rfl
            refine take_ (i := 9) (N := some 40) (v := ?_) (a' := ?_) #[true, true, true, true, true, true, true, true, true, true, true, false, true, false, false, true, false, false, false, false, false] rfl rfl (take_ofW HT_.out HW_.out (by kernel_rfl)) (fun _ _ _ h => h) (Or.inl ⟨by rfl, ?_⟩) hHeld ?_ ?_
            rotate_left
            ·
             rintro w' ⟨s0, s1, s2, s3, s4⟩
             go_simp
             with_reducible rfl
            rotate_left
            ·
             simp only [Act.put, List.setIfInBounds_toArray, List.set_cons_zero, List.set_cons_succ, i64_w, i32_w]
             rfl
            refine take_ (i := 11) (N := some 42) (v := ?_) (a' := ?_) #[true, true, true, true, true, true, true, true, true, true, true, true, true, false, false, true, false, false, false, false, false] rfl rfl (take_ofW HT_.out HW_.out (by kernel_rfl)) (fun _ _ _ h => h) (Or.inl ⟨by rfl, ?_⟩) hHeld ?_ ?_
            rotate_left
            ·
             rintro w' ⟨s0, s1, s2, s3, s4⟩
             go_simp
             with_reducible rfl
            rotate_left
            ·
             simp only [Act.put, List.setIfInBounds_toArray, List.set_cons_zero, List.set_cons_succ, i64_w, i32_w]
             rfl
            refine take_ (i := 13) (N := some 44) (v := ?_) (a' := ?_) #[true, true, true, true, true, true, true, true, true, true, true, true, true, true, false, true, false, false, false, false, false] rfl rfl (take_ofW HT_.out HW_.out (by kernel_rfl)) (fun _ _ _ h => h) (Or.inl ⟨by rfl, ?_⟩) hHeld ?_ ?_
            rotate_left
            ·
             rintro w' ⟨s0, s1, s2, s3, s4⟩
             go_simp
             with_reducible rfl
            rotate_left
            ·
             simp only [Act.put, List.setIfInBounds_toArray, List.set_cons_zero, List.set_cons_succ, i64_w, i32_w]
             rfl
            refine take_ (i := 16) (N := some 47) (v := ?_) (a' := ?_) #[true, true, true, true, true, true, true, true, true, true, true, true, true, true, false, true, true, false, false, false, false] rfl rfl (take_ofW HT_.out HW_.out (by kernel_rfl)) (fun _ _ _ h => h) (Or.inl ⟨by rfl, ?_⟩) hHeld ?_ ?_
            rotate_left
            ·
             rintro w' ⟨s0, s1, s2, s3, s4⟩
             go_simp
             with_reducible rfl
            rotate_left
            ·
             simp only [Act.put, List.setIfInBounds_toArray, List.set_cons_zero, List.set_cons_succ, i64_w, i32_w]
             rfl
            refine one_ (i := 14) (N := some 45) #[true, true, true, true, true, true, true, true, true, true, true, true, true, true, true, true, true, false, false, false, false] rfl rfl (one_of HT_.out (by kernel_rfl)) (by decide) (fun K hK => ?_)
            refine goes_ Try.func46 (by kernel_rfl) rfl #[.agg #[.int .i64 ((rd_T57 t198 x7_1).f0), .slice A204_1 ((rd_T57 t198 x7_1).f1).length c204_1], .int .i64 ((rd_T52 l0_5 x9_2).f0), .int .i64 ((rd_T52 l0_5 x9_2).f1)] (by rfl) rfl rfl (by (try simp only [List.map_toArray, List.map_cons, List.map_nil]); first | done | rfl | (simp only [List.length_drop, List.length_take]; rfl)) ?_
            with_reducible refine (helioscoperef01_Together.calls ((rd_T57 t198 x7_1).f0) _ _ ((rd_T57 t198 x7_1).f1) ((rd_T52 l0_5 x9_2).f0) ((rd_T52 l0_5 x9_2).f1) t205 _ ?side1 ?side2 A22.out).mono ?_
            (case side1 => repeat (first | exact (by repeat (first | (with_reducible exact HR204_1.out) | (with_reducible refine Kd.C_alloc ?_ _) | (with_reducible refine Kd.C_drewN ?_ _) | (with_reducible refine Kd.C_drew ?_) | exact HR204_1.out)) | (with_reducible refine Kd.C_alloc ?_ _) | (with_reducible refine Kd.C_drewN ?_ _) | (with_reducible refine Kd.C_drew ?_)))
            (case side2 => exact HC204_1.out)
            rintro e w29 ⟨rfl, hb⟩
            have HS3_ := (hb.cell (World.block_lt_of_cell? _ _ (hHeld.2.2.2.1))).trans (hHeld.2.2.2.1)
            have HS4_ := (hb.cell (World.block_lt_of_cell? _ _ (hHeld.2.2.2.2))).trans (hHeld.2.2.2.2)
            refine ⟨_, rfl, ?_⟩
            have n0_ := Aside0.mk (Kd.N_below (by (with_reducible repeat (first | apply Kd.N_alloc | apply Kd.N_drewN | apply Kd.N_drew)); exact HO_5.out) hb)
            have n1_ := Aside0.mk (Kd.N_below (by (with_reducible repeat (first | apply Kd.N_alloc | apply Kd.N_drewN | apply Kd.N_drew)); exact HO_6.out) hb)
            have n2_ := Aside0.mk (Kd.V_below (by (with_reducible repeat (first | apply Kd.V_alloc | apply Kd.V_drewN | apply Kd.V_drew)); exact HL204_1.out) hb)
            have n3_ := Aside0.mk (blk_below (g := gb197) (o := .cells #[.string a0_0, .int .i64 a0_1, .int .i64 a0_2, .int .i64 a0_3, .slice A0_4 l0_4.length c0_4, .slice (some ad201) l0_5.length c0_5] 27 (0, 0)) (by (with_reducible repeat (first | refine blk_drewN ?_ _ | refine blk_drew ?_ | refine blk_alloc ?_ _)); exact BK197.out) hb)
            have n4_ := Aside0.mk (blk_below (g := gb202) (o := .cells #[.int .i64 ((rd_T52 l0_5 x9_2).f0), .int .i64 ((rd_T52 l0_5 x9_2).f1), .bool ((rd_T52 l0_5 x9_2).f2)] 52 (0, 0)) (by (with_reducible repeat (first | refine blk_drewN ?_ _ | refine blk_drew ?_ | refine blk_alloc ?_ _)); exact BK202.out) hb)
            have n5_ := Aside0.mk (Kd.C_below (by repeat (first | (with_reducible exact HR204_1.out) | (with_reducible refine Kd.C_alloc ?_ _) | (with_reducible refine Kd.C_drewN ?_ _) | (with_reducible refine Kd.C_drew ?_) | exact HR204_1.out)) hb)
            have n6_ := Aside0.mk (below_step (by repeat (first | (with_reducible first | exact HB.out | apply below_alloc | apply pw_below_drewN | apply below_drew1 | refine below_set ?_ GE197.out | refine below_set ?_ GE202.out) | exact HB.out)) hb)
            clear HO_5
            clear HO_6
            clear HL204_1
            clear BK197
            clear BK202
            clear HR204_1
            clear HB
            have HO_5 := n0_
            have HO_6 := n1_
            have HL204_1 := n2_
            have BK197 := n3_
            have BK202 := n4_
            have HR204_1 := n5_
            have HB := n6_
            clear n0_ n1_ n2_ n3_ n4_ n5_ n6_
            (try clear hb)
            (try clear hb2)
            (try clear hk)
            (try clear hi)
            refine hK.out _ _ ⟨(blk_cell BK202.out 0).trans rfl, (blk_cell BK202.out 1).trans rfl, (blk_cell BK202.out 2).trans rfl, HS3_, HS4_⟩ (fun hHeld => ?_)
            clear hK K
            refine norm_ (a' := ?_) ?_ ?_
            rotate_left
            ·
             show Act.put _ (some 45) _ = _
             simp only [Act.put, List.setIfInBounds_toArray, List.set_cons_zero, List.set_cons_succ, i64_w, i32_w]
             rfl
            refine pure_ (i := 17) (N := some 48) (v := ?_) (a' := ?_) #[true, true, true, true, true, true, true, true, true, true, true, true, true, true, true, true, true, true, false, false, false] rfl rfl (any_of HT_.out (by kernel_rfl)) (fun _ _ _ h => h) (Or.inl ⟨by rfl, ?_⟩) ?_ ?_
            rotate_left
            ·
             intro w'
             go_simp
             with_reducible rfl
            rotate_left
            ·
             simp only [Act.put, List.setIfInBounds_toArray, List.set_cons_zero, List.set_cons_succ, i64_w, i32_w]
             rfl
            refine pure_ (i := 18) (N := some 49) (v := ?_) (a' := ?_) #[true, true, true, true, true, true, true, true, true, true, true, true, true, true, true, true, true, true, true, false, false] rfl rfl (any_of HT_.out (by kernel_rfl)) (fun _ _ _ h => h) (Or.inl ⟨by rfl, ?_⟩) ?_ ?_
            rotate_left
            ·
             intro w'
             go_simp
             with_reducible rfl
            rotate_left
            ·
             simp only [Act.put, List.setIfInBounds_toArray, List.set_cons_zero, List.set_cons_succ, i64_w, i32_w]
             rfl
            refine pure_ (i := 19) (N := some 50) (v := ?_) (a' := ?_) #[true, true, true, true, true, true, true, true, true, true, true, true, true, true, true, true, true, true, true, true, false] rfl rfl (any_of HT_.out (by kernel_rfl)) (fun _ _ _ h => h) (Or.inl ⟨by rfl, ?_⟩) ?_ ?_
            rotate_left
            ·
             intro w'
             go_simp
             with_reducible rfl
            rotate_left
            ·
             simp only [Act.put, List.setIfInBounds_toArray, List.set_cons_zero, List.set_cons_succ, i64_w, i32_w]
             rfl
            refine pure_ (i := 20) (N := some 8) (v := ?_) (a' := ?_) #[true, true, true, true, true, true, true, true, true, true, true, true, true, true, true, true, true, true, true, true, true] rfl rfl (any_of HT_.out (by kernel_rfl)) (fun _ _ _ h => h) (Or.inl ⟨by rfl, ?_⟩) ?_ ?_
            rotate_left
            ·
             intro w'
             go_simp
             with_reducible rfl
            rotate_left
            ·
             simp only [Act.put, List.setIfInBounds_toArray, List.set_cons_zero, List.set_cons_succ, i64_w, i32_w]
             rfl
            refine done_ (done_of HT_.out (by kernel_rfl)) ?_
            try go_wp2
            go_roundg k2
            case measure => have := HK1.out; have := HK2.out; omega
            case rel => exact ⟨((t205 == ((rd_T52 l0_5 x9_2).f2))), (wrap64 (x9_2 + 1)), (by first | rfl | (simp; done) | (simp [*]; done)), (by first | rfl | (simp; done) | (simp [*]; done)), H', ⟨by have := HK1.out; have := HK2.out; omega⟩, ⟨by (with_reducible repeat (first | apply Kd.N_alloc | apply Kd.N_drewN | apply Kd.N_drew)); exact Kd.N_mono HO_5.out (fun _ hk => ⟨hk.1, ⟨hk.2.1, hk.2.2.1⟩⟩)⟩, ⟨by (with_reducible repeat (first | apply Kd.N_alloc | apply Kd.N_drewN | apply Kd.N_drew)); exact Kd.N_mono HO_6.out (fun _ hk => ⟨hk.1, ⟨hk.2.1, hk.2.2.1⟩⟩)⟩, ⟨by (with_reducible repeat (first | refine blk_drewN ?_ _ | refine blk_drew ?_ | refine blk_alloc ?_ _)); exact BK197.out⟩, ⟨by repeat (first | (with_reducible first | exact HB.out | apply below_alloc | apply pw_below_drewN | apply below_drew1 | refine below_set ?_ GE197.out | refine below_set ?_ GE202.out) | exact HB.out)⟩⟩
           ·
            rw [if_neg c21] at H
            exact absurd H (by simp)
          ·
           rw [if_neg c20] at H
           exact absurd H (by simp)
        ·
         replace c11 := Bool.eq_false_iff.mpr c11
         subst c11
         have H1 : (helioscoperef01_Truths.l1 k2 l1 t198 x6_1 x7_1 false (wrap64 (x9_2 + 1)) a0_0 a0_1 a0_2 a0_3 l0_4 l0_5) = some r := by rw [if_neg (show ¬ (false = true) by decide)] at H; exact H
         clear H
         have H := H1
         clear H1
         have H' := Aside0.mk H
         clear H
         have hcz30_0 : wr.cell? ⟨gb197, 0, none⟩ = some (.string a0_0) := (blk_cell BK197.out 0).trans rfl
         have hcz30_1 : wr.cell? ⟨gb197, 1, none⟩ = some (.int .i64 a0_1) := (blk_cell BK197.out 1).trans rfl
         have hcz30_2 : wr.cell? ⟨gb197, 2, none⟩ = some (.int .i64 a0_2) := (blk_cell BK197.out 2).trans rfl
         have hcz30_3 : wr.cell? ⟨gb197, 3, none⟩ = some (.int .i64 a0_3) := (blk_cell BK197.out 3).trans rfl
         have hcz30_4 : wr.cell? ⟨gb197, 4, none⟩ = some (.slice A0_4 l0_4.length c0_4) := (blk_cell BK197.out 4).trans rfl
         have hcz30_5 : wr.cell? ⟨gb197, 5, none⟩ = some (.slice A0_5 l0_5.length c0_5) := (blk_cell BK197.out 5).trans rfl
         have hfz30_0 := blk_frozen BK197.out 0
         have hfz30_1 := blk_frozen BK197.out 1
         have hfz30_2 := blk_frozen BK197.out 2
         have hfz30_3 := blk_frozen BK197.out 3
         have hfz30_4 := blk_frozen BK197.out 4
         have hfz30_5 := blk_frozen BK197.out 5
         have p201 : 0 ≤ (x9_2 : Int) := of_decide_eq_true (by first | (with_reducible assumption) | assumption)
         have q201 : x9_2 < (l0_5.length : Int) := of_decide_eq_true (by first | (with_reducible assumption) | assumption)
         obtain ⟨ad201, e201, hx201_0, hx201_1, hx201_2⟩ := at_T52 HR0_5.out x9_2 p201 q201
         cases e201
         replace hx201_0 := (HB.out.cell (World.block_lt_of_cell? w _ hx201_0)).trans hx201_0
         replace hx201_1 := (HB.out.cell (World.block_lt_of_cell? w _ hx201_1)).trans hx201_1
         replace hx201_2 := (HB.out.cell (World.block_lt_of_cell? w _ hx201_2)).trans hx201_2
         replace p201 := eq_true p201
         replace q201 := eq_true q201
         try go_wp2_with (first | ((with_reducible refine gate_dst (N := 10) rfl ?_); refine box_event ?hg (N := 10) ?hd (cs := #[.int .i64 0, .int .i64 0, .bool false]) (t := 52) ?hr ?_; (case hd => rfl); (case hg => rfl); (case hr => first | (go_simp; done) | (go_simp; rfl)); intro gb202 hg w31 hbox hb; have n0_ := Aside0.mk (Kd.N_below (Kd.N_elderB (by (with_reducible repeat (first | apply Kd.N_alloc | apply Kd.N_drewN | apply Kd.N_drew)); exact HO_5.out) gb202 (Nat.le_of_eq hg.symm)) hb); have n1_ := Aside0.mk (Kd.N_below (Kd.N_elderB (by (with_reducible repeat (first | apply Kd.N_alloc | apply Kd.N_drewN | apply Kd.N_drew)); exact HO_6.out) gb202 (Nat.le_of_eq hg.symm)) hb); have n2_ := Aside0.mk (blk_below (g := gb197) (o := .cells #[.string a0_0, .int .i64 a0_1, .int .i64 a0_2, .int .i64 a0_3, .slice A0_4 l0_4.length c0_4, .slice (some ad201) l0_5.length c0_5] 27 (0, 0)) (by (with_reducible repeat (first | refine blk_drewN ?_ _ | refine blk_drew ?_ | refine blk_alloc ?_ _)); exact BK197.out) hb); have n3_ := Aside0.mk (below_step (by repeat (first | (with_reducible first | exact HB.out | apply below_alloc | apply pw_below_drewN | apply below_drew1 | refine below_set ?_ GE197.out) | exact HB.out)) hb); have n4_ := Aside0.mk (hbox); have n5_ := Aside0.mk ((by rw [hg]; exact (below_size (by repeat (first | (with_reducible first | exact HB.out | apply below_alloc | apply pw_below_drewN | apply below_drew1 | refine below_set ?_ GE197.out) | exact HB.out))) : w.heap.size ≤ gb202)); have n6_ := Aside0.mk ((by rw [hg]; exact (below_size (by repeat (first | (with_reducible first | exact HB.out | apply below_alloc | apply pw_below_drewN | apply below_drew1 | refine below_set ?_ GE197.out) | exact HB.out))) : w.heap.size ≤ gb202)); have n7_ := Aside0.mk ((by rw [hg]; exact Nat.ne_of_lt (blk_lt (g := gb197) (o := .cells #[.string a0_0, .int .i64 a0_1, .int .i64 a0_2, .int .i64 a0_3, .slice A0_4 l0_4.length c0_4, .slice (some ad201) l0_5.length c0_5] 27 (0, 0)) (by (with_reducible repeat (first | refine blk_drewN ?_ _ | refine blk_drew ?_ | refine blk_alloc ?_ _)); exact BK197.out)) : gb197 ≠ gb202)); have n8_ := Aside0.mk ((by rw [hg]; exact Nat.ne_of_gt (blk_lt (g := gb197) (o := .cells #[.string a0_0, .int .i64 a0_1, .int .i64 a0_2, .int .i64 a0_3, .slice A0_4 l0_4.length c0_4, .slice (some ad201) l0_5.length c0_5] 27 (0, 0)) (by (with_reducible repeat (first | refine blk_drewN ?_ _ | refine blk_drew ?_ | refine blk_alloc ?_ _)); exact BK197.out)) : gb202 ≠ gb197)); clear HO_5; clear HO_6; clear BK197; clear HB; have HO_5 := n0_; have HO_6 := n1_; have BK197 := n2_; have HB := n3_; have BK202 := n4_; have GW202 := n5_; have GE202 := n6_; have NB197_202 := n7_; have NB202_197 := n8_; clear n0_ n1_ n2_ n3_ n4_ n5_ n6_ n7_ n8_; clear hb hbox hg; have hnb32 := NB202_197.out; have hnc32 := NB197_202.out; have hcz33_0 : w31.cell? ⟨gb202, 0, none⟩ = some (.int .i64 0) := (blk_cell BK202.out 0).trans rfl; have hcz33_1 : w31.cell? ⟨gb202, 1, none⟩ = some (.int .i64 0) := (blk_cell BK202.out 1).trans rfl; have hcz33_2 : w31.cell? ⟨gb202, 2, none⟩ = some (.bool false) := (blk_cell BK202.out 2).trans rfl; have hfz33_0 := blk_frozen BK202.out 0; have hfz33_1 := blk_frozen BK202.out 1; have hfz33_2 := blk_frozen BK202.out 2))
         have n0_ : Aside0 (Kd.N k57 57 (((w31.setCell ⟨gb202, 0, none⟩ (.int .i64 ((rd_T52 l0_5 x9_2).f0))).setCell ⟨gb202, 1, none⟩ (.int .i64 ((rd_T52 l0_5 x9_2).f1))).setCell ⟨gb202, 2, none⟩ (.bool ((rd_T52 l0_5 x9_2).f2))) w.heap.size (fun k_ => (w.heap.size ≤ k_) ∧ some k_ ≠ (u6 : Value).ownBlock ∧ k_ ≠ gb197 ∧ k_ ≠ gb202) (.slice Ao8 t198.length co8) t198) := ⟨by (with_reducible repeat (first | apply Kd.N_alloc | apply Kd.N_drewN | apply Kd.N_drew)); exact Kd.N_mono (Kd.N_far (p := ⟨gb202, 2, none⟩) (Kd.N_far (p := ⟨gb202, 1, none⟩) (Kd.N_far (p := ⟨gb202, 0, none⟩) (Kd.N_mono HO_5.out (fun k_ hk => (⟨hk, hk.2⟩ : _ ∧ k_ ≠ gb202))) (fun _ hk => hk.2) (.int .i64 ((rd_T52 l0_5 x9_2).f0))) (fun _ hk => hk.2) (.int .i64 ((rd_T52 l0_5 x9_2).f1))) (fun _ hk => hk.2) (.bool ((rd_T52 l0_5 x9_2).f2))) (fun _ hk => ⟨hk.1.1.1, ⟨hk.1.1.2.1, ⟨hk.1.1.2.2, hk.1.2⟩⟩⟩)⟩
         have n1_ : Aside0 (Kd.N k57 57 (((w31.setCell ⟨gb202, 0, none⟩ (.int .i64 ((rd_T52 l0_5 x9_2).f0))).setCell ⟨gb202, 1, none⟩ (.int .i64 ((rd_T52 l0_5 x9_2).f1))).setCell ⟨gb202, 2, none⟩ (.bool ((rd_T52 l0_5 x9_2).f2))) w.heap.size (fun k_ => (w.heap.size ≤ k_) ∧ some k_ ≠ (.slice Ao8 t198.length co8 : Value).ownBlock ∧ k_ ≠ gb197 ∧ k_ ≠ gb202) u6 x6_1) := ⟨by (with_reducible repeat (first | apply Kd.N_alloc | apply Kd.N_drewN | apply Kd.N_drew)); exact Kd.N_mono (Kd.N_far (p := ⟨gb202, 2, none⟩) (Kd.N_far (p := ⟨gb202, 1, none⟩) (Kd.N_far (p := ⟨gb202, 0, none⟩) (Kd.N_mono HO_6.out (fun k_ hk => (⟨hk, hk.2⟩ : _ ∧ k_ ≠ gb202))) (fun _ hk => hk.2) (.int .i64 ((rd_T52 l0_5 x9_2).f0))) (fun _ hk => hk.2) (.int .i64 ((rd_T52 l0_5 x9_2).f1))) (fun _ hk => hk.2) (.bool ((rd_T52 l0_5 x9_2).f2))) (fun _ hk => ⟨hk.1.1.1, ⟨hk.1.1.2.1, ⟨hk.1.1.2.2, hk.1.2⟩⟩⟩)⟩
         have n2_ : Aside0 ((((w31.setCell ⟨gb202, 0, none⟩ (.int .i64 ((rd_T52 l0_5 x9_2).f0))).setCell ⟨gb202, 1, none⟩ (.int .i64 ((rd_T52 l0_5 x9_2).f1))).setCell ⟨gb202, 2, none⟩ (.bool ((rd_T52 l0_5 x9_2).f2))).heap[gb197]? = some (.cells #[.string a0_0, .int .i64 a0_1, .int .i64 a0_2, .int .i64 a0_3, .slice A0_4 l0_4.length c0_4, .slice (some ad201) l0_5.length c0_5] 27 (0, 0))) := ⟨by (with_reducible repeat (first | refine blk_drewN ?_ _ | refine blk_drew ?_ | refine blk_alloc ?_ _)); refine blk_far ?_ NB197_202.out _; (with_reducible repeat (first | refine blk_drewN ?_ _ | refine blk_drew ?_ | refine blk_alloc ?_ _)); refine blk_far ?_ NB197_202.out _; (with_reducible repeat (first | refine blk_drewN ?_ _ | refine blk_drew ?_ | refine blk_alloc ?_ _)); refine blk_far ?_ NB197_202.out _; (with_reducible repeat (first | refine blk_drewN ?_ _ | refine blk_drew ?_ | refine blk_alloc ?_ _)); exact BK197.out⟩
         have n3_ : Aside0 ((((w31.setCell ⟨gb202, 0, none⟩ (.int .i64 ((rd_T52 l0_5 x9_2).f0))).setCell ⟨gb202, 1, none⟩ (.int .i64 ((rd_T52 l0_5 x9_2).f1))).setCell ⟨gb202, 2, none⟩ (.bool ((rd_T52 l0_5 x9_2).f2))).heap[gb202]? = some (.cells #[.int .i64 ((rd_T52 l0_5 x9_2).f0), .int .i64 ((rd_T52 l0_5 x9_2).f1), .bool ((rd_T52 l0_5 x9_2).f2)] 52 (0, 0))) := ⟨by (with_reducible repeat (first | refine blk_drewN ?_ _ | refine blk_drew ?_ | refine blk_alloc ?_ _)); refine blk_put (cs := #[.int .i64 ((rd_T52 l0_5 x9_2).f0), .int .i64 ((rd_T52 l0_5 x9_2).f1), .bool false]) ?_ 2 _ rfl; (with_reducible repeat (first | refine blk_drewN ?_ _ | refine blk_drew ?_ | refine blk_alloc ?_ _)); refine blk_put (cs := #[.int .i64 ((rd_T52 l0_5 x9_2).f0), .int .i64 0, .bool false]) ?_ 1 _ rfl; (with_reducible repeat (first | refine blk_drewN ?_ _ | refine blk_drew ?_ | refine blk_alloc ?_ _)); refine blk_put (cs := #[.int .i64 0, .int .i64 0, .bool false]) ?_ 0 _ rfl; (with_reducible repeat (first | refine blk_drewN ?_ _ | refine blk_drew ?_ | refine blk_alloc ?_ _)); exact BK202.out⟩
         have n4_ : Aside0 (Below w.heap.size w (((w31.setCell ⟨gb202, 0, none⟩ (.int .i64 ((rd_T52 l0_5 x9_2).f0))).setCell ⟨gb202, 1, none⟩ (.int .i64 ((rd_T52 l0_5 x9_2).f1))).setCell ⟨gb202, 2, none⟩ (.bool ((rd_T52 l0_5 x9_2).f2)))) := ⟨by repeat (first | (with_reducible first | exact HB.out | apply below_alloc | apply pw_below_drewN | apply below_drew1 | refine below_set ?_ GE197.out | refine below_set ?_ GE202.out) | exact HB.out)⟩
         (try clear HO_5)
         (try clear HO_6)
         (try clear BK197)
         (try clear BK202)
         (try clear HB)
         generalize (((w31.setCell ⟨gb202, 0, none⟩ (.int .i64 ((rd_T52 l0_5 x9_2).f0))).setCell ⟨gb202, 1, none⟩ (.int .i64 ((rd_T52 l0_5 x9_2).f1))).setCell ⟨gb202, 2, none⟩ (.bool ((rd_T52 l0_5 x9_2).f2))) = w34 at n0_ n1_ n2_ n3_ n4_ ⊢
         have HO_5 := n0_
         have HO_6 := n1_
         have BK197 := n2_
         have BK202 := n3_
         have HB := n4_
         clear n0_ n1_ n2_ n3_ n4_
         have n0_ := Aside0.mk (Kd.N_drew HO_5.out)
         have n1_ := Aside0.mk (Kd.N_drew HO_6.out)
         have n2_ := Aside0.mk (blk_drew BK197.out)
         have n3_ := Aside0.mk (blk_drew BK202.out)
         have n4_ := Aside0.mk (below_drew1 HB.out)
         clear HO_5
         clear HO_6
         clear BK197
         clear BK202
         clear HB
         have HO_5 := n0_
         have HO_6 := n1_
         have BK197 := n2_
         have BK202 := n3_
         have HB := n4_
         clear n0_ n1_ n2_ n3_ n4_
         refine start_ (n := 21) (S := fun w' => True) (ds := []) #[false, false, false, false, false, false, false, false, false, false, false, false, false, false, false, false, false, false, false, false, false] (by kernel_rfl) rfl rfl trivial (fun hHeld => ?_); refine with_tabW helioscoperef01_Truths.tab11 helioscoperef01_Truths.bits11 (fun HT_ HW_ => ?_)
         generalize w34.drew = w35 at HO_5 HO_6 BK197 BK202 HB hHeld ⊢
         refine pure_ (i := 0) (N := some 31) (v := ?_) (a' := ?_) #[true, false, false, false, false, false, false, false, false, false, false, false, false, false, false, false, false, false, false, false, false] rfl rfl (any_of HT_.out (by kernel_rfl)) (fun _ _ _ h => h) (Or.inl ⟨by rfl, ?_⟩) ?_ ?_
         rotate_left
         ·
          intro w'
          go_simp
          with_reducible rfl
         rotate_left
         ·
          simp only [Act.put, List.setIfInBounds_toArray, List.set_cons_zero, List.set_cons_succ, i64_w, i32_w]
          rfl
         refine pure_ (i := 1) (N := some 32) (v := ?_) (a' := ?_) #[true, true, false, false, false, false, false, false, false, false, false, false, false, false, false, false, false, false, false, false, false] rfl rfl (any_of HT_.out (by kernel_rfl)) (fun _ _ _ h => h) (Or.inl ⟨by rfl, ?_⟩) ?_ ?_
         rotate_left
         ·
          intro w'
          go_simp
          with_reducible rfl
         rotate_left
         ·
          simp only [Act.put, List.setIfInBounds_toArray, List.set_cons_zero, List.set_cons_succ, i64_w, i32_w]
          rfl
         refine pure_ (i := 2) (N := some 33) (v := undef) (a' := ?_) #[true, true, true, false, false, false, false, false, false, false, false, false, false, false, false, false, false, false, false, false, false] rfl rfl (any_of HT_.out (by kernel_rfl)) (fun _ _ _ h => h) (Or.inr ⟨by rfl, rfl⟩) ?_ ?_
         rotate_left
         ·
          simp only [Act.put, List.setIfInBounds_toArray, List.set_cons_zero, List.set_cons_succ, i64_w, i32_w]
          rfl
         refine pure_ (i := 3) (N := some 34) (v := undef) (a' := ?_) #[true, true, true, true, false, false, false, false, false, false, false, false, false, false, false, false, false, false, false, false, false] rfl rfl (any_of HT_.out (by kernel_rfl)) (fun _ _ _ h => h) (Or.inr ⟨by rfl, rfl⟩) ?_ ?_
         rotate_left
         ·
          simp only [Act.put, List.setIfInBounds_toArray, List.set_cons_zero, List.set_cons_succ, i64_w, i32_w]
          rfl
         refine pure_ (i := 4) (N := some 35) (v := undef) (a' := ?_) #[true, true, true, true, true, false, false, false, false, false, false, false, false, false, false, false, false, false, false, false, false] rfl rfl (any_of HT_.out (by kernel_rfl)) (fun _ _ _ h => h) (Or.inr ⟨by rfl, rfl⟩) ?_ ?_
         rotate_left
         ·
          simp only [Act.put, List.setIfInBounds_toArray, List.set_cons_zero, List.set_cons_succ, i64_w, i32_w]
          rfl
         refine pure_ (i := 5) (N := some 36) (v := undef) (a' := ?_) #[true, true, true, true, true, true, false, false, false, false, false, false, false, false, false, false, false, false, false, false, false] rfl rfl (any_of HT_.out (by kernel_rfl)) (fun _ _ _ h => h) (Or.inr ⟨by rfl, rfl⟩) ?_ ?_
         rotate_left
         ·
          simp only [Act.put, List.setIfInBounds_toArray, List.set_cons_zero, List.set_cons_succ, i64_w, i32_w]
          rfl
         refine pure_ (i := 6) (N := some 37) (v := undef) (a' := ?_) #[true, true, true, true, true, true, true, false, false, false, false, false, false, false, false, false, false, false, false, false, false] rfl rfl (any_of HT_.out (by kernel_rfl)) (fun _ _ _ h => h) (Or.inr ⟨by rfl, rfl⟩) ?_ ?_
         rotate_left
         ·
          simp only [Act.put, List.setIfInBounds_toArray, List.set_cons_zero, List.set_cons_succ, i64_w, i32_w]
          rfl
         refine pure_ (i := 7) (N := some 38) (v := undef) (a' := ?_) #[true, true, true, true, true, true, true, true, false, false, false, false, false, false, false, false, false, false, false, false, false] rfl rfl (any_of HT_.out (by kernel_rfl)) (fun _ _ _ h => h) (Or.inr ⟨by rfl, rfl⟩) ?_ ?_
         rotate_left
         ·
          simp only [Act.put, List.setIfInBounds_toArray, List.set_cons_zero, List.set_cons_succ, i64_w, i32_w]
          rfl
         refine pure_ (i := 8) (N := some 39) (v := undef) (a' := ?_) #[true, true, true, true, true, true, true, true, true, false, false, false, false, false, false, false, false, false, false, false, false] rfl rfl (any_of HT_.out (by kernel_rfl)) (fun _ _ _ h => h) (Or.inr ⟨by rfl, rfl⟩) ?_ ?_
         rotate_left
         ·
          simp only [Act.put, List.setIfInBounds_toArray, List.set_cons_zero, List.set_cons_succ, i64_w, i32_w]
          rfl
         refine pure_ (i := 9) (N := some 40) (v := undef) (a' := ?_) #[true, true, true, true, true, true, true, true, true, true, false, false, false, false, false, false, false, false, false, false, false] rfl rfl (any_of HT_.out (by kernel_rfl)) (fun _ _ _ h => h) (Or.inr ⟨by rfl, rfl⟩) ?_ ?_
         rotate_left
         ·
          simp only [Act.put, List.setIfInBounds_toArray, List.set_cons_zero, List.set_cons_succ, i64_w, i32_w]
          rfl
         refine pure_ (i := 10) (N := some 41) (v := undef) (a' := ?_) #[true, true, true, true, true, true, true, true, true, true, true, false, false, false, false, false, false, false, false, false, false] rfl rfl (any_of HT_.out (by kernel_rfl)) (fun _ _ _ h => h) (Or.inr ⟨by rfl, rfl⟩) ?_ ?_
         rotate_left
         ·
          simp only [Act.put, List.setIfInBounds_toArray, List.set_cons_zero, List.set_cons_succ, i64_w, i32_w]
          rfl
         refine pure_ (i := 11) (N := some 42) (v := undef) (a' := ?_) #[true, true, true, true, true, true, true, true, true, true, true, true, false, false, false, false, false, false, false, false, false] rfl rfl (any_of HT_.out (by kernel_rfl)) (fun _ _ _ h => h) (Or.inr ⟨by rfl, rfl⟩) ?_ ?_
         rotate_left
         ·
          simp only [Act.put, List.setIfInBounds_toArray, List.set_cons_zero, List.set_cons_succ, i64_w, i32_w]
          rfl
         refine pure_ (i := 12) (N := some 43) (v := undef) (a' := ?_) #[true, true, true, true, true, true, true, true, true, true, true, true, true, false, false, false, false, false, false, false, false] rfl rfl (any_of HT_.out (by kernel_rfl)) (fun _ _ _ h => h) (Or.inr ⟨by rfl, rfl⟩) ?_ ?_
         rotate_left
         ·
          simp only [Act.put, List.setIfInBounds_toArray, List.set_cons_zero, List.set_cons_succ, i64_w, i32_w]
          rfl
         refine pure_ (i := 13) (N := some 44) (v := undef) (a' := ?_) #[true, true, true, true, true, true, true, true, true, true, true, true, true, true, false, false, false, false, false, false, false] rfl rfl (any_of HT_.out (by kernel_rfl)) (fun _ _ _ h => h) (Or.inr ⟨by rfl, rfl⟩) ?_ ?_
         rotate_left
         ·
          simp only [Act.put, List.setIfInBounds_toArray, List.set_cons_zero, List.set_cons_succ, i64_w, i32_w]
          rfl
         refine pure_ (i := 14) (N := some 45) (v := undef) (a' := ?_) #[true, true, true, true, true, true, true, true, true, true, true, true, true, true, true, false, false, false, false, false, false] rfl rfl (any_of HT_.out (by kernel_rfl)) (fun _ _ _ h => h) (Or.inr ⟨by rfl, rfl⟩) ?_ ?_
         rotate_left
         ·
          simp only [Act.put, List.setIfInBounds_toArray, List.set_cons_zero, List.set_cons_succ, i64_w, i32_w]
          rfl
         refine pure_ (i := 15) (N := some 46) (v := undef) (a' := ?_) #[true, true, true, true, true, true, true, true, true, true, true, true, true, true, true, true, false, false, false, false, false] rfl rfl (any_of HT_.out (by kernel_rfl)) (fun _ _ _ h => h) (Or.inr ⟨by rfl, rfl⟩) ?_ ?_
         rotate_left
         ·
          simp only [Act.put, List.setIfInBounds_toArray, List.set_cons_zero, List.set_cons_succ, i64_w, i32_w]
          rfl
         refine pure_ (i := 16) (N := some 47) (v := undef) (a' := ?_) #[true, true, true, true, true, true, true, true, true, true, true, true, true, true, true, true, true, false, false, false, false] rfl rfl (any_of HT_.out (by kernel_rfl)) (fun _ _ _ h => h) (Or.inr ⟨by rfl, rfl⟩) ?_ ?_
         rotate_left
         ·
          simp only [Act.put, List.setIfInBounds_toArray, List.set_cons_zero, List.set_cons_succ, i64_w, i32_w]
          rfl
         refine pure_ (i := 17) (N := some 48) (v := undef) (a' := ?_) #[true, true, true, true, true, true, true, true, true, true, true, true, true, true, true, true, true, true, false, false, false] rfl rfl (any_of HT_.out (by kernel_rfl)) (fun _ _ _ h => h) (Or.inr ⟨by rfl, rfl⟩) ?_ ?_
         rotate_left
         ·
          simp only [Act.put, List.setIfInBounds_toArray, List.set_cons_zero, List.set_cons_succ, i64_w, i32_w]
          rfl
         refine pure_ (i := 18) (N := some 49) (v := undef) (a' := ?_) #[true, true, true, true, true, true, true, true, true, true, true, true, true, true, true, true, true, true, true, false, false] rfl rfl (any_of HT_.out (by kernel_rfl)) (fun _ _ _ h => h) (Or.inr ⟨by rfl, rfl⟩) ?_ ?_
         rotate_left
         ·
          simp only [Act.put, List.setIfInBounds_toArray, List.set_cons_zero, List.set_cons_succ, i64_w, i32_w]
          rfl
         refine pure_ (i := 19) (N := some 50) (v := ?_) (a' := ?_) #[true, true, true, true, true, true, true, true, true, true, true, true, true, true, true, true, true, true, true, true, false] rfl rfl (any_of HT_.out (by kernel_rfl)) (fun _ _ _ h => h) (Or.inl ⟨by rfl, ?_⟩) ?_ ?_
         rotate_left
         ·
          intro w'
          go_simp
          with_reducible rfl
         rotate_left
         ·
          simp only [Act.put, List.setIfInBounds_toArray, List.set_cons_zero, List.set_cons_succ, i64_w, i32_w]
          rfl
         refine pure_ (i := 20) (N := some 8) (v := ?_) (a' := ?_) #[true, true, true, true, true, true, true, true, true, true, true, true, true, true, true, true, true, true, true, true, true] rfl rfl (any_of HT_.out (by kernel_rfl)) (fun _ _ _ h => h) (Or.inl ⟨by rfl, ?_⟩) ?_ ?_
         rotate_left
         ·
          intro w'
          go_simp
          with_reducible rfl
         rotate_left
         ·
          simp only [Act.put, List.setIfInBounds_toArray, List.set_cons_zero, List.set_cons_succ, i64_w, i32_w]
          rfl
         refine done_ (done_of HT_.out (by kernel_rfl)) ?_
         try go_wp2
         go_roundg k2
         case measure => have := HK1.out; have := HK2.out; omega
         case rel => exact ⟨(false), (wrap64 (x9_2 + 1)), (by first | rfl | (simp; done) | (simp [*]; done)), (by first | rfl | (simp; done) | (simp [*]; done)), H', ⟨by have := HK1.out; have := HK2.out; omega⟩, ⟨by (with_reducible repeat (first | apply Kd.N_alloc | apply Kd.N_drewN | apply Kd.N_drew)); exact Kd.N_mono HO_5.out (fun _ hk => ⟨hk.1, ⟨hk.2.1, hk.2.2.1⟩⟩)⟩, ⟨by (with_reducible repeat (first | apply Kd.N_alloc | apply Kd.N_drewN | apply Kd.N_drew)); exact Kd.N_mono HO_6.out (fun _ hk => ⟨hk.1, ⟨hk.2.1, hk.2.2.1⟩⟩)⟩, ⟨by (with_reducible repeat (first | refine blk_drewN ?_ _ | refine blk_drew ?_ | refine blk_alloc ?_ _)); exact BK197.out⟩, ⟨by repeat (first | (with_reducible first | exact HB.out | apply below_alloc | apply pw_below_drewN | apply below_drew1 | refine below_set ?_ GE197.out | refine below_set ?_ GE202.out) | exact HB.out)⟩⟩
       ·
        rw [if_neg c10] at H
        exact absurd H (by simp)
      ·
       rw [if_neg c9] at H
       have c9b0 : decide (x9_2 < (l0_5.length : Int)) = false := decide_eq_false c9
       clear c9
       by_cases c36 : x8_2 = true
       ·
        subst c36
        have H1 : (if 0 ≤ x7_1 then (if x7_1 < (t198.length : Int) then (if x6_1.length < 4398046511104 then (helioscoperef01_Truths.l0 k2 l1 t198 (x6_1 ++ [(⟨(rd_T57 t198 x7_1).f0, (rd_T57 t198 x7_1).f1⟩ : S57)]) (wrap64 (x7_1 + 1)) a0_0 a0_1 a0_2 a0_3 l0_4 l0_5) else (none)) else (none)) else (none)) = some r := by rw [if_pos rfl] at H; exact H
        clear H
        have H := H1
        clear H1
        by_cases c37 : 0 ≤ x7_1
        ·
         rw [if_pos c37] at H
         have c37b0 : decide (0 ≤ x7_1) = true := decide_eq_true c37
         clear c37
         by_cases c38 : x7_1 < (t198.length : Int)
         ·
          rw [if_pos c38] at H
          have c38b0 : decide (x7_1 < (t198.length : Int)) = true := decide_eq_true c38
          clear c38
          by_cases c39 : x6_1.length < 4398046511104
          ·
           rw [if_pos c39] at H
           have LMc39 := Aside0.mk c39
           clear c39
           obtain ⟨y207, hy207⟩ : ∃ y_ : List (S57), y_ = (x6_1 ++ [(⟨(rd_T57 t198 x7_1).f0, (rd_T57 t198 x7_1).f1⟩ : S57)]) := ⟨_, rfl⟩
           replace H : (helioscoperef01_Truths.l0 k2 l1 t198 y207 (wrap64 (x7_1 + 1)) a0_0 a0_1 a0_2 a0_3 l0_4 l0_5) = some r := by first | (rw [hy207]; with_reducible exact H) | (have H2_ := (Option.bind_some _ _).symm.trans H; rw [hy207]; with_reducible exact H2_) | (have H2_ := (Option.bind_some _ _).symm.trans H; with_reducible exact H2_) | with_reducible exact H | (rw [hy207]; exact H) | exact H
           have Ny207 := Aside0.mk hy207
           clear hy207
           have H' := Aside0.mk H
           clear H
           have hcz40_0 : wr.cell? ⟨gb197, 0, none⟩ = some (.string a0_0) := (blk_cell BK197.out 0).trans rfl
           have hcz40_1 : wr.cell? ⟨gb197, 1, none⟩ = some (.int .i64 a0_1) := (blk_cell BK197.out 1).trans rfl
           have hcz40_2 : wr.cell? ⟨gb197, 2, none⟩ = some (.int .i64 a0_2) := (blk_cell BK197.out 2).trans rfl
           have hcz40_3 : wr.cell? ⟨gb197, 3, none⟩ = some (.int .i64 a0_3) := (blk_cell BK197.out 3).trans rfl
           have hcz40_4 : wr.cell? ⟨gb197, 4, none⟩ = some (.slice A0_4 l0_4.length c0_4) := (blk_cell BK197.out 4).trans rfl
           have hcz40_5 : wr.cell? ⟨gb197, 5, none⟩ = some (.slice A0_5 l0_5.length c0_5) := (blk_cell BK197.out 5).trans rfl
           have hfz40_0 := blk_frozen BK197.out 0
           have hfz40_1 := blk_frozen BK197.out 1
           have hfz40_2 := blk_frozen BK197.out 2
           have hfz40_3 := blk_frozen BK197.out 3
           have hfz40_4 := blk_frozen BK197.out 4
           have hfz40_5 := blk_frozen BK197.out 5
           have p206 : 0 ≤ (x7_1 : Int) := of_decide_eq_true (by first | (with_reducible assumption) | assumption)
           have q206 : x7_1 < (t198.length : Int) := of_decide_eq_true (by first | (with_reducible assumption) | assumption)
           obtain ⟨ad206, A206_1, c206_1, e206, hx206_0, hx206_1, hl206_1, hi206_1⟩ := at_T57 (Kd.N_reads' HO_5.out).2.2 x7_1 p206 q206
           cases e206
           obtain ⟨ce206, hce206, hMe206, hcc206⟩ := Kd.N_get HO_5.out z57 x7_1 p206 (by first | exact q206 | exact of_decide_eq_true (by first | (with_reducible assumption) | assumption) | (have e_ := (Kd.N_reads' HO_5.out).1; omega))
           obtain ⟨ua206_1, uc206_1, rfl, ul206_1, ge206_1⟩ := k57_openF hMe206
           have hv206_1 := hcc206 1 _ rfl
           rw [add_field _ _ 1 (by omega)] at hv206_1
           replace hv206_1 := Option.some.inj (hv206_1.symm.trans hx206_1)
           injection hv206_1 with hva_ hvn_ hvc_
           rw [hva_] at ge206_1
           rw [hvc_] at ul206_1
           have HL206_1 := Aside0.mk (show Kd.V (Kd.int .i64) 3 _ w.heap.size _ _ ((rd_T57 t198 x7_1).f1) from Kd.V_mk ul206_1 ge206_1)
           clear hva_ hvn_ hvc_ ge206_1 ul206_1
           clear hcc206 hce206
           have HR206_1 := Aside0.mk hi206_1
           have HC206_1 := Aside0.mk hl206_1
           clear hi206_1 hl206_1
           replace p206 := eq_true p206
           replace q206 := eq_true q206
           go_wp2_with (first | ((with_reducible refine gate_builtin (b := .append) (xs := #[.tmp 52, .tmp 57]) rfl ?_); at_builtin; refine Kd.N_append k57 (w0 := w) w.heap.size rfl (.tmp 52) (.tmp 57) 70 57 (.agg #[(.int .i64 0), (.slice none 0 0)]) 32 rfl Try.underlying70 info57 rfl (by decide) (by omega) u6 x6_1 (⟨(rd_T57 t198 x7_1).f0, (rd_T57 t198 x7_1).f1⟩ : S57) [.int .i64 ((rd_T57 t198 x7_1).f0), .slice A206_1 ((rd_T57 t198 x7_1).f1).length c206_1] (fun k_ => (w.heap.size ≤ k_) ∧ some k_ ≠ (.slice (some ad206) t198.length co8 : Value).ownBlock ∧ k_ ≠ gb197) (fun k_ => ((fun k_ => (w.heap.size ≤ k_) ∧ some k_ ≠ (.slice (some ad206) t198.length co8 : Value).ownBlock ∧ k_ ≠ gb197)) k_ ∧ some k_ ≠ (u6 : Value).ownBlock) rfl rfl ?aP (fun _ hk => hk) ?aF ?aO ?aB ?aS ?aL ?_; (case aP => exact (k57_mkF _ _ (⟨(rd_T57 t198 x7_1).f0, (rd_T57 t198 x7_1).f1⟩ : S57) (Kd.V_reads' (Kd.V_mono (ok' := (fun k_ => ((fun k_ => (w.heap.size ≤ k_) ∧ some k_ ≠ (.slice (some ad206) t198.length co8 : Value).ownBlock ∧ k_ ≠ gb197)) k_ ∧ some k_ ≠ (u6 : Value).ownBlock)) (HL206_1.out) (fun k_ hk => ⟨⟨hk.1.1, ⟨hk.2, hk.1.2.2⟩⟩, hk.1.2.1⟩))).2.1 (Kd.V_F (Kd.V_mono (ok' := (fun k_ => ((fun k_ => (w.heap.size ≤ k_) ∧ some k_ ≠ (.slice (some ad206) t198.length co8 : Value).ownBlock ∧ k_ ≠ gb197)) k_ ∧ some k_ ≠ (u6 : Value).ownBlock)) (HL206_1.out) (fun k_ hk => ⟨⟨hk.1.1, ⟨hk.2, hk.1.2.2⟩⟩, hk.1.2.1⟩))))); (case aB => exact (by repeat (first | (with_reducible first | exact HB.out | apply below_alloc | apply pw_below_drewN | apply below_drew1 | refine below_set ?_ GE197.out) | exact HB.out))); (case aF => exact (fun k_ hk => ⟨(Nat.le_trans (below_size (by repeat (first | (with_reducible first | exact HB.out | apply below_alloc | apply pw_below_drewN | apply below_drew1 | refine below_set ?_ GE197.out) | exact HB.out))) hk), Kd.fresh' (Kd.N_lt (by (with_reducible repeat (first | apply Kd.N_alloc | apply Kd.N_drewN | apply Kd.N_drew)); exact HO_5.out)) k_ hk, Kd.freshB (g := gb197) (o := .cells #[.string a0_0, .int .i64 a0_1, .int .i64 a0_2, .int .i64 a0_3, .slice A0_4 l0_4.length c0_4, .slice A0_5 l0_5.length c0_5] 27 (0, 0)) (by (with_reducible repeat (first | refine blk_drewN ?_ _ | refine blk_drew ?_ | refine blk_alloc ?_ _)); exact BK197.out) k_ hk⟩)); (case aO => exact (by (with_reducible repeat (first | apply Kd.N_alloc | apply Kd.N_drewN | apply Kd.N_drew)); exact HO_6.out)); (case aS => exact (below_size (by repeat (first | (with_reducible first | exact HB.out | apply below_alloc | apply pw_below_drewN | apply below_drew1 | refine below_set ?_ GE197.out) | exact HB.out)))); (case aL => have := LMc39.out; omega); intro v208 w41 ho hb hg hat; rw [← Ny207.out] at ho; have n0_ := Aside0.mk (Kd.N_afterv (ok := (fun k_ => (w.heap.size ≤ k_) ∧ k_ ≠ gb197)) (by (with_reducible repeat (first | apply Kd.N_alloc | apply Kd.N_drewN | apply Kd.N_drew)); exact Kd.N_mono HO_5.out (fun _ hk => ⟨⟨hk.1, hk.2.2⟩, hk.2.1⟩)) hg hat); have n1_ := Aside0.mk (blk_grown (g := gb197) (o := .cells #[.string a0_0, .int .i64 a0_1, .int .i64 a0_2, .int .i64 a0_3, .slice A0_4 l0_4.length c0_4, .slice A0_5 l0_5.length c0_5] 27 (0, 0)) (by (with_reducible repeat (first | refine blk_drewN ?_ _ | refine blk_drew ?_ | refine blk_alloc ?_ _)); exact BK197.out) hg (Kd.N_ne HO_6.out BK197.out (by decide))); have n2_ := Aside0.mk (Kd.V_afterv (ok := (fun k_ => (w.heap.size ≤ k_) ∧ some k_ ≠ (.slice (some ad206) t198.length co8 : Value).ownBlock ∧ k_ ≠ gb197)) (by (with_reducible repeat (first | apply Kd.V_alloc | apply Kd.V_drewN | apply Kd.V_drew)); exact Kd.V_mono HL206_1.out (fun _ hk => ⟨⟨hk.1.1, ⟨hk.2, hk.1.2.2⟩⟩, hk.1.2.1⟩)) hg hat); have n3_ := Aside0.mk (hb); have n4_ := Aside0.mk (ho); clear HO_5; clear BK197; clear HL206_1; clear HB; clear HO_6; have HO_5 := n0_; have BK197 := n1_; have HL206_1 := n2_; have HB := n3_; have HO209 := n4_; clear n0_ n1_ n2_ n3_ n4_; clear ho hb hg hat))
           go_roundg k2
           case measure => have := HK1.out; have := HK2.out; omega
           case rel => exact ⟨(y207), (wrap64 (x7_1 + 1)), (by first | rfl | (simp; done) | (simp [*]; done)), H', ⟨by have := HK1.out; have := HK2.out; omega⟩, ⟨by (with_reducible repeat (first | apply Kd.N_alloc | apply Kd.N_drewN | apply Kd.N_drew)); exact Kd.N_mono HO_5.out (fun _ hk => ⟨hk.1.1, ⟨hk.2, hk.1.2⟩⟩)⟩, ⟨by (with_reducible repeat (first | apply Kd.N_alloc | apply Kd.N_drewN | apply Kd.N_drew)); exact HO209.out⟩, ⟨by (with_reducible repeat (first | refine blk_drewN ?_ _ | refine blk_drew ?_ | refine blk_alloc ?_ _)); exact BK197.out⟩, ⟨by repeat (first | (with_reducible first | exact HB.out | apply below_alloc | apply pw_below_drewN | apply below_drew1 | refine below_set ?_ GE197.out) | exact HB.out)⟩⟩
          ·
           rw [if_neg c39] at H
           exact absurd H (by simp)
         ·
          rw [if_neg c38] at H
          exact absurd H (by simp)
        ·
         rw [if_neg c37] at H
         exact absurd H (by simp)
       ·
        replace c36 := Bool.eq_false_iff.mpr c36
        subst c36
        have H1 : (helioscoperef01_Truths.l0 k2 l1 t198 x6_1 (wrap64 (x7_1 + 1)) a0_0 a0_1 a0_2 a0_3 l0_4 l0_5) = some r := by rw [if_neg (show ¬ (false = true) by decide)] at H; exact H
        clear H
        have H := H1
        clear H1
        have H' := Aside0.mk H
        clear H
        have hcz42_0 : wr.cell? ⟨gb197, 0, none⟩ = some (.string a0_0) := (blk_cell BK197.out 0).trans rfl
        have hcz42_1 : wr.cell? ⟨gb197, 1, none⟩ = some (.int .i64 a0_1) := (blk_cell BK197.out 1).trans rfl
        have hcz42_2 : wr.cell? ⟨gb197, 2, none⟩ = some (.int .i64 a0_2) := (blk_cell BK197.out 2).trans rfl
        have hcz42_3 : wr.cell? ⟨gb197, 3, none⟩ = some (.int .i64 a0_3) := (blk_cell BK197.out 3).trans rfl
        have hcz42_4 : wr.cell? ⟨gb197, 4, none⟩ = some (.slice A0_4 l0_4.length c0_4) := (blk_cell BK197.out 4).trans rfl
        have hcz42_5 : wr.cell? ⟨gb197, 5, none⟩ = some (.slice A0_5 l0_5.length c0_5) := (blk_cell BK197.out 5).trans rfl
        have hfz42_0 := blk_frozen BK197.out 0
        have hfz42_1 := blk_frozen BK197.out 1
        have hfz42_2 := blk_frozen BK197.out 2
        have hfz42_3 := blk_frozen BK197.out 3
        have hfz42_4 := blk_frozen BK197.out 4
        have hfz42_5 := blk_frozen BK197.out 5
        go_wp2
        go_roundg k2
        case measure => have := HK1.out; have := HK2.out; omega
        case rel => exact ⟨(x6_1), (wrap64 (x7_1 + 1)), (by first | rfl | (simp; done) | (simp [*]; done)), H', ⟨by have := HK1.out; have := HK2.out; omega⟩, ⟨by (with_reducible repeat (first | apply Kd.N_alloc | apply Kd.N_drewN | apply Kd.N_drew)); exact HO_5.out⟩, ⟨by (with_reducible repeat (first | apply Kd.N_alloc | apply Kd.N_drewN | apply Kd.N_drew)); exact HO_6.out⟩, ⟨by (with_reducible repeat (first | refine blk_drewN ?_ _ | refine blk_drew ?_ | refine blk_alloc ?_ _)); exact BK197.out⟩, ⟨by repeat (first | (with_reducible first | exact HB.out | apply below_alloc | apply pw_below_drewN | apply below_drew1 | refine below_set ?_ GE197.out) | exact HB.out)⟩⟩
   ·
    rw [if_neg c7] at H
    have c7b0 : decide (x7_1 < (t198.length : Int)) = false := decide_eq_false c7
    clear c7
    obtain rfl := Option.some.inj H
    obtain ⟨Ao43, co43, eo43⟩ := Kd.N_slice HO_5.out
    subst eo43
    go_wp2
    go_ret
    exact ⟨_, by first | rfl | (simp [errW_none, errW_some] <;> rfl) | (simp [*, errW_none, errW_some] <;> rfl), by (with_reducible repeat (first | apply Kd.N_alloc | apply Kd.N_drewN | apply Kd.N_drew)); exact Kd.N_mono HO_6.out (fun _ hk => hk.1), by repeat (first | (with_reducible first | exact HB.out | apply below_alloc | apply pw_below_drewN | apply below_drew1 | refine below_set ?_ GE197.out) | exact HB.out)⟩

end Go.Proofs.Ytemeapfnfegkiaa.PR
end
section
/- Package disk: the truths, in the reference's order and in the program's. -/
namespace Go.Proofs.Ytemeapfnfegkiaa.D
open Go Go.RowKit Go.Proofs.YtemeapfnfegkiaaK Go.Proofs.YtemeapfnfegkiaaW.PrintWords Go.Proofs.YtemeapfnfegkiaaW.PrintLast Go.Proofs.YtemeapfnfegkiaaW.PrintMore Go.Proofs.Ytemeapfnfegkiaa.PR
set_option linter.unusedVariables false
set_option linter.unusedSimpArgs false

open Classical in
noncomputable def RG (D : Dat) (near : Int) (set : Nat) : List Int := if h : Valid D then Classical.choose (rgrouped h near set) else []
theorem RG_ref {D : Dat} (hV : Valid D) (near : Int) (set : Nat) : RefG (G D near set) D.spots.length (RG D near set) := by
  unfold RG; rw [dif_pos hV]; exact (Classical.choose_spec (rgrouped hV near set)).1
theorem RG_ev {D : Dat} (hV : Valid D) (near : Int) (set : Nat) : Ev (fun f => helioscoperef01_grouped.f f D.nm D.rad D.lo D.hi D.spots D.told near (natsI (bitsL set D.spots.length))) (RG D near set) := by
  unfold RG; rw [dif_pos hV]; exact (Classical.choose_spec (rgrouped hV near set)).2

noncomputable def toR (D : Dat) (x : Int × Nat) : S57 := ⟨x.1, RG D x.1 x.2⟩
def allUp (D : Dat) (i : Nat) : List (Int × Nat) := (List.range i).flatMap fun (i : Nat) => (setsN D D.spots.length).map fun s => (D.lo + (i : Int), s)
theorem allUp_succ (D : Dat) (i : Nat) : allUp D (i + 1) = allUp D i ++ (setsN D D.spots.length).map fun s => (D.lo + (i : Int), s) := by
  simp [allUp, List.range_succ]
def allN (D : Dat) : List (Int × Nat) := allUp D (D.hi - D.lo + 1).toNat
theorem allUp_len {D : Dat} (hV : Valid D) (i : Nat) : (allUp D i).length ≤ 128 * i := by
  have h7 := hV.n7
  have h1 := setsN_len D D.spots.length
  have h2 : 2 ^ D.spots.length ≤ 2 ^ 7 := Nat.pow_le_pow_right (by decide) h7
  induction i with
  | zero => simp [allUp]
  | succ i ih => rw [allUp_succ, List.length_append, List.length_map]; omega

theorem rA1 {D : Dat} (hV : Valid D) (near : Int) (hn : 0 ≤ near ∧ near ≤ 12) (res : List S57) (d : Nat) : ∀ (j : Nat) (acc : List S57), j + d = (setsN D D.spots.length).length → acc.length + d ≤ 2000 →
    Ev (fun f => helioscoperef01_All.l0 f (setsI D D.spots.length) (acc ++ ((setsN D D.spots.length).drop j).map fun s => toR D (near, s)) (near + 1) D.nm D.rad D.lo D.hi D.spots D.told) res →
    Ev (fun f => helioscoperef01_All.l1 f (setsI D D.spots.length) acc near (j : Int) D.nm D.rad D.lo D.hi D.spots D.told) res := by
  induction d with
  | zero =>
    intro j acc hd ha h
    rw [List.drop_eq_nil_of_le (by omega), List.map_nil, List.append_nil] at h
    refine Ev.step (fun f => ?_) h
    simp only [helioscoperef01_All.l1, setsI, List.length_map]
    rw [if_neg (by omega), wrap_in (by omega) (by omega)]
  | succ d ihd =>
    intro j acc hd ha h
    have hj : j < (setsN D D.spots.length).length := by omega
    have h7 := hV.n7
    have h1 := setsN_len D D.spots.length
    have h2 : 2 ^ D.spots.length ≤ 2 ^ 7 := Nat.pow_le_pow_right (by decide) h7
    have ih := ihd (j + 1) (acc ++ [toR D (near, (setsN D D.spots.length)[j])]) (by omega) (by simp only [List.length_append, List.length_singleton]; omega) (by
      rw [List.drop_eq_getElem_cons hj, List.map_cons] at h
      rw [List.append_assoc]; exact h)
    rw [show toR D (near, (setsN D D.spots.length)[j]) = (⟨near, RG D near (setsN D D.spots.length)[j]⟩ : S57) from rfl] at ih
    have hev := RG_ev hV near (setsN D D.spots.length)[j]
    generalize RG D near (setsN D D.spots.length)[j] = R at ih hev
    have hr : rd_L4 (setsI D D.spots.length) (j : Int) = natsI (bitsL (setsN D D.spots.length)[j] D.spots.length) := by
      rw [rd_L4_at _ j (by simpa [setsI] using hj)]; simp [setsI]
    refine Ev.step (f := fun f => (helioscoperef01_grouped.f f D.nm D.rad D.lo D.hi D.spots D.told near (natsI (bitsL (setsN D D.spots.length)[j] D.spots.length))).bind fun t => helioscoperef01_All.l1 f (setsI D D.spots.length) (acc ++ [(⟨near, t⟩ : S57)]) near ((j + 1 : Nat) : Int) D.nm D.rad D.lo D.hi D.spots D.told) (fun f => ?_) (Ev.bind (f := fun f t => helioscoperef01_All.l1 f (setsI D D.spots.length) (acc ++ [(⟨near, t⟩ : S57)]) near ((j + 1 : Nat) : Int) D.nm D.rad D.lo D.hi D.spots D.told) hev ih)
    simp only [helioscoperef01_All.l1, hr]
    rw [if_pos (by simp only [setsI, List.length_map]; omega), if_pos (by omega), wrapN (by omega)]
    refine congrArg (Option.bind _) (funext fun t => ?_)
    rw [if_pos (by omega)]

theorem rA0 {D : Dat} (hV : Valid D) : ∀ (d i : Nat), i + d = (D.hi - D.lo + 1).toNat → Ev (fun f => helioscoperef01_All.l0 f (setsI D D.spots.length) ((allUp D i).map (toR D)) (D.lo + (i : Int)) D.nm D.rad D.lo D.hi D.spots D.told) ((allN D).map (toR D))
  | 0, i, hd => by
    have hle := hV.le
    obtain rfl : i = (D.hi - D.lo + 1).toNat := by omega
    refine Ev.step (f := fun _ => some ((allN D).map (toR D))) (fun f => ?_) (Ev.now _)
    simp only [helioscoperef01_All.l0]
    rw [if_neg (by omega)]; rfl
  | d + 1, i, hd => by
    have hlo := hV.lo
    have hhi := hV.hi
    have h7 := hV.n7
    have h1 := setsN_len D D.spots.length
    have h2 : 2 ^ D.spots.length ≤ 2 ^ 7 := Nat.pow_le_pow_right (by decide) h7
    have h3 := allUp_len hV i
    have ih := rA0 hV d (i + 1) (by omega)
    have hh := rA1 hV (D.lo + (i : Int)) (by omega) ((allN D).map (toR D)) (setsN D D.spots.length).length 0 ((allUp D i).map (toR D)) (by omega) (by rw [List.length_map]; omega) (by
      rw [allUp_succ, List.map_append, List.map_map] at ih
      have e : D.lo + ((i + 1 : Nat) : Int) = D.lo + (i : Int) + 1 := by omega
      rw [e] at ih
      exact ih)
    refine Ev.step (fun f => ?_) hh
    simp only [helioscoperef01_All.l0]
    rw [if_pos (by omega)]; rfl
theorem rAll {D : Dat} (hV : Valid D) : Ev (fun f => helioscoperef01_All.f f D.nm D.rad D.lo D.hi D.spots D.told) ((allN D).map (toR D)) := by
  unfold helioscoperef01_All.f
  refine Ev.bind (rsets hV) ?_
  have := rA0 hV (D.hi - D.lo + 1).toNat 0 (by omega)
  have e : D.lo + ((0 : Nat) : Int) = D.lo := by omega
  rw [e] at this
  exact this

theorem rHas0 (but : List Int) (hb : but.length ≤ 1000) (x : Int) (d : Nat) : ∀ (j : Nat), j + d = but.length → Ev (fun f => helioscoperef01_Has.l0 f but x (j : Int)) ((but.drop j).any fun y => y == x) := by
  induction d with
  | zero =>
    intro j hd
    rw [List.drop_eq_nil_of_le (by omega)]
    refine Ev.step (f := fun _ => some false) (fun f => ?_) (Ev.now _)
    simp only [helioscoperef01_Has.l0]
    rw [if_neg (by omega)]
  | succ d ih =>
    intro j hd
    have hj : j < but.length := by omega
    have e : rd but (j : Int) = but[j] := by rw [rd_nat, List.getD_eq_getElem?_getD, List.getElem?_eq_getElem hj]; rfl
    rw [List.drop_eq_getElem_cons hj, List.any_cons]
    by_cases h : but[j] = x
    · rw [beq_iff_eq.2 h, Bool.true_or]
      refine Ev.step (f := fun _ => some true) (fun f => ?_) (Ev.now _)
      simp only [helioscoperef01_Has.l0, e]
      rw [if_pos (by omega), if_pos (by omega), if_pos h]
    · have hf : (but[j] == x) = false := by simpa using h
      rw [hf, Bool.false_or]
      refine Ev.step (f := fun f => helioscoperef01_Has.l0 f but x ((j + 1 : Nat) : Int)) (fun f => ?_) (ih (j + 1) (by omega))
      simp only [helioscoperef01_Has.l0, e]
      rw [if_pos (by omega), if_pos (by omega), if_neg h, wrapN (by omega)]
def hasB (but : List Int) (x : Nat) : Bool := but.any fun y => y == (x : Int)
theorem rHas (but : List Int) (hb : but.length ≤ 1000) (x : Nat) : Ev (fun f => helioscoperef01_Has.f f but (x : Int)) (hasB but x) := rHas0 but hb x but.length 0 (by omega)

theorem RefG.ge {g : Nat → Int} {n : Nat} {R : List Int} (h : RefG g n R) (hg : ∀ x, 0 ≤ g x) (x : Nat) (hx : x < n) : rd R (x : Int) ≥ 0 ↔ 0 < g x := by
  by_cases e : g x = 0
  · rw [h.no x hx e, e]; omega
  · obtain ⟨y, _, _, h3, _⟩ := h.yes x hx e
    rw [h3]
    have := hg x
    constructor <;> intro <;> omega
theorem RefG.eq {g : Nat → Int} {n : Nat} {R : List Int} (h : RefG g n R) (x y : Nat) (hx : x < n) (hy : y < n) (h0 : g x ≠ 0) : rd R (x : Int) = rd R (y : Int) ↔ g x = g y := by
  obtain ⟨a, a1, a2, a3, a4, a5⟩ := h.yes x hx h0
  by_cases e : g y = 0
  · rw [h.no y hy e, a3, e]
    constructor
    · intro; omega
    · intro h; exact absurd h h0
  · obtain ⟨b, b1, b2, b3, b4, b5⟩ := h.yes y hy e
    rw [a3, b3]
    constructor
    · intro hab
      have : a = b := by omega
      rw [← a4, this, b4]
    · intro hg
      have h1 := a5 b (by rw [b4, hg])
      have h2 := b5 a (by rw [a4, hg])
      omega
theorem rTogether {g : Nat → Int} {n : Nat} {R : List Int} (h : RefG g n R) (hg : ∀ x, 0 ≤ g x) (near a b : Int) (ha : 0 ≤ a ∧ a < n) (hb : 0 ≤ b ∧ b < n) :
    helioscoperef01_Together.f near R a b = some (decide (0 < g a.toNat) && g a.toNat == g b.toNat) := by
  obtain ⟨x, rfl⟩ : ∃ x : Nat, a = x := ⟨a.toNat, by omega⟩
  obtain ⟨y, rfl⟩ : ∃ y : Nat, b = y := ⟨b.toNat, by omega⟩
  have hl := h.len
  unfold helioscoperef01_Together.f
  simp only [Int.toNat_natCast]
  rw [if_pos (by omega), if_pos (by omega)]
  have h1 := h.ge hg x (by omega)
  by_cases hx : 0 < g x
  · rw [if_pos (h1.2 hx), if_pos (by omega), if_pos (by omega)]
    have h2 := h.eq x y (by omega) (by omega) (by omega)
    congr 1
    rw [decide_eq_true hx, Bool.true_and, Bool.eq_iff_iff, beq_iff_eq, beq_iff_eq]
    exact h2
  · rw [if_neg (fun x => hx (h1.1 x)), decide_eq_false hx]; rfl

def soR (D : Dat) (but : List Int) (g : Nat → Int) (k : Nat) : Bool := (List.range k).all fun i => hasB but i || sayB g (rd_T52 D.told i)
theorem soR_succ (D : Dat) (but : List Int) (g : Nat → Int) (k : Nat) : soR D but g (k + 1) = (soR D but g k && (hasB but k || sayB g (rd_T52 D.told k))) := by
  simp [soR, List.range_succ]
theorem G_nonneg {D : Dat} (hV : Valid D) (near : Int) (set : Nat) (x : Nat) : 0 ≤ G D near set x := ((G_spec D near set hV.n7).low x).1

theorem rd_T57_at (xs : List S57) (k : Nat) (hk : k < xs.length) : rd_T57 xs (k : Int) = xs[k] := by simp [rd_T57, hk]

theorem rT1 {D : Dat} (hV : Valid D) (but : List Int) (hb : but.length ≤ 1000) (X : List (Int × Nat)) (hX : X.length ≤ 2000) (i : Nat) (hi : i < X.length) (acc : List S57) (ha : acc.length ≤ 2000) (res : List S57)
    (h : Ev (fun f => helioscoperef01_Truths.l0 f but (X.map (toR D)) (if soR D but (G D X[i].1 X[i].2) D.told.length = true then acc ++ [toR D X[i]] else acc) ((i + 1 : Nat) : Int) D.nm D.rad D.lo D.hi D.spots D.told) res) (d : Nat) :
    ∀ (k : Nat), k + d = D.told.length → Ev (fun f => helioscoperef01_Truths.l1 f but (X.map (toR D)) acc (i : Int) (soR D but (G D X[i].1 X[i].2) k) (k : Int) D.nm D.rad D.lo D.hi D.spots D.told) res := by
  have hx : rd_T57 (X.map (toR D)) (i : Int) = ⟨X[i].1, RG D X[i].1 X[i].2⟩ := by
    rw [rd_T57_at _ i (by simpa using hi), List.getElem_map]; rfl
  have hR := RG_ref hV X[i].1 X[i].2
  have hG := G_nonneg hV X[i].1 X[i].2
  rw [show toR D X[i] = ⟨X[i].1, RG D X[i].1 X[i].2⟩ from rfl] at h
  generalize RG D X[i].1 X[i].2 = R at *
  generalize G D X[i].1 X[i].2 = g at *
  induction d with
  | zero =>
    intro k hd
    obtain rfl : k = D.told.length := by omega
    refine Ev.step (fun f => ?_) h
    simp only [helioscoperef01_Truths.l1, hx]
    rw [if_neg (by omega)]
    by_cases hs : soR D but g D.told.length = true
    · rw [if_pos hs, if_pos hs, if_pos (by omega), if_pos (by rw [List.length_map]; omega), if_pos (by omega), wrapN (by omega)]
    · rw [if_neg hs, if_neg hs, wrapN (by omega)]
  | succ d ih =>
    intro k hd
    have ht4 := hV.t4
    have hk : k < D.told.length := by omega
    have hab := hV.ab k hk
    have ih' := ih (k + 1) (by omega)
    rw [soR_succ] at ih'
    by_cases hs : soR D but g k = true
    · rw [hs, Bool.true_and] at ih'
      rw [hs]
      refine Ev.step (f := fun f => (helioscoperef01_Has.f f but (k : Int)).bind fun t => helioscoperef01_Truths.l1 f but (X.map (toR D)) acc (i : Int) (t || sayB g (rd_T52 D.told k)) ((k + 1 : Nat) : Int) D.nm D.rad D.lo D.hi D.spots D.told) (fun f => ?_)
        (Ev.bind (f := fun f t => helioscoperef01_Truths.l1 f but (X.map (toR D)) acc (i : Int) (t || sayB g (rd_T52 D.told k)) ((k + 1 : Nat) : Int) D.nm D.rad D.lo D.hi D.spots D.told) (rHas but hb k) ih')
      simp only [helioscoperef01_Truths.l1, hx]
      rw [if_pos (by omega), if_pos (by omega), if_pos True.intro]
      refine congrArg (Option.bind _) (funext fun t => ?_)
      rw [wrapN (by omega)]
      cases t
      · rw [if_neg (by decide), if_pos (by omega), if_pos (by rw [List.length_map]; omega), rTogether hR hG _ _ _ ⟨hab.1, hab.2.1⟩ ⟨hab.2.2.1, hab.2.2.2.1⟩]
        rfl
      · rw [if_pos rfl]; rfl
    · have hs' : soR D but g k = false := by simpa using hs
      rw [hs', Bool.false_and] at ih'
      rw [hs']
      refine Ev.step (fun f => ?_) ih'
      simp only [helioscoperef01_Truths.l1, hx]
      rw [if_pos (by omega), if_pos (by omega), wrapN (by omega)]
      rfl

def truthsN (D : Dat) (but : List Int) : List (Int × Nat) := (allN D).filter fun x => soR D but (G D x.1 x.2) D.told.length
theorem allN_len {D : Dat} (hV : Valid D) : (allN D).length ≤ 1664 := by
  have h1 := hV.lo
  have h2 := hV.hi
  have h3 := hV.le
  have := allUp_len hV (D.hi - D.lo + 1).toNat
  unfold allN
  omega
theorem rT0 {D : Dat} (hV : Valid D) (but : List Int) (hb : but.length ≤ 1000) (d : Nat) : ∀ (i : Nat), i + d = (allN D).length →
    Ev (fun f => helioscoperef01_Truths.l0 f but ((allN D).map (toR D)) ((((allN D).take i).filter fun x => soR D but (G D x.1 x.2) D.told.length).map (toR D)) (i : Int) D.nm D.rad D.lo D.hi D.spots D.told) ((truthsN D but).map (toR D)) := by
  have hX := allN_len hV
  induction d with
  | zero =>
    intro i hd
    rw [List.take_of_length_le (by omega)]
    refine Ev.step (f := fun _ => some ((truthsN D but).map (toR D))) (fun f => ?_) (Ev.now _)
    simp only [helioscoperef01_Truths.l0]
    rw [if_neg (by rw [List.length_map]; omega)]; rfl
  | succ d ih =>
    intro i hd
    have hi : i < (allN D).length := by omega
    have ih' := ih (i + 1) (by omega)
    have hl : ((((allN D).take i).filter fun x => soR D but (G D x.1 x.2) D.told.length).map (toR D)).length ≤ 2000 := by
      rw [List.length_map]
      have := List.length_filter_le (fun x : Int × Nat => soR D but (G D x.1 x.2) D.told.length) ((allN D).take i)
      rw [List.length_take] at this
      omega
    have hh := rT1 hV but hb (allN D) (by omega) i hi _ hl ((truthsN D but).map (toR D)) (by
      rw [List.take_add_one, List.getElem?_eq_getElem hi, List.filter_append, List.map_append] at ih'
      have e : ((Option.toList (some (allN D)[i])).filter fun x => soR D but (G D x.1 x.2) D.told.length).map (toR D) = if soR D but (G D (allN D)[i].1 (allN D)[i].2) D.told.length = true then [toR D (allN D)[i]] else [] := by
        simp only [Option.toList_some, List.filter_cons, List.filter_nil]
        split <;> simp
      rw [e] at ih'
      by_cases hs : soR D but (G D (allN D)[i].1 (allN D)[i].2) D.told.length = true
      · rw [if_pos hs] at ih' ⊢; exact ih'
      · rw [if_neg hs, List.append_nil] at ih'; rw [if_neg hs]; exact ih') D.told.length 0 (by omega)
    refine Ev.step (fun f => ?_) hh
    simp only [helioscoperef01_Truths.l0]
    rw [if_pos (by rw [List.length_map]; omega)]; rfl
theorem rTruths {D : Dat} (hV : Valid D) (but : List Int) (hb : but.length ≤ 1000) : Ev (fun f => helioscoperef01_Truths.f f D.nm D.rad D.lo D.hi D.spots D.told but) ((truthsN D but).map (toR D)) := by
  unfold helioscoperef01_Truths.f
  exact Ev.bind (rAll hV) (rT0 hV but hb (allN D).length 0 (by omega))

theorem perm_flat {α β : Type} {f g : α → List β} : ∀ {l : List α}, (∀ a ∈ l, (f a).Perm (g a)) → (l.flatMap f).Perm (l.flatMap g)
  | [], _ => List.Perm.refl _
  | a :: l, h => by
    rw [List.flatMap_cons, List.flatMap_cons]
    exact (h a (List.mem_cons_self ..)).append (perm_flat fun b hb => h b (List.mem_cons_of_mem _ hb))
theorem truths_perm (D : Dat) (but : List Int) (bits : Nat) (hb : ∀ i, i < D.told.length → hasB but i = bits.testBit i) : (truthsN D but).Perm (truthsL D bits) := by
  unfold truthsN allN allUp truthsL nearsTo
  rw [List.filter_flatMap]
  refine perm_flat fun i _ => ?_
  unfold setsTo
  rw [List.filter_map]
  refine List.Perm.map _ ?_
  refine ((setsN_perm D D.spots.length).filter _).trans ?_
  rw [List.filter_filter]
  refine List.Perm.of_eq (List.filter_congr fun s hs => ?_)
  have hlt := List.mem_range.1 hs
  unfold isTruth
  rw [okSet_upto D s hlt, Bool.and_comm]
  congr 1
  unfold soB soTo
  simp only [Function.comp, soR]
  rw [Bool.eq_iff_iff, List.all_eq_true, List.all_eq_true]
  constructor <;> intro h i hi <;> have := h i hi <;> have hil := List.mem_range.1 hi
  · rw [hb i hil] at this; exact this
  · rw [hb i hil]; exact this
theorem truths_perm0 (D : Dat) : (truthsN D []).Perm (truthsL D 0) := truths_perm D [] 0 fun i _ => by simp [hasB]

structure Fits (D : Dat) : Prop where
  nm : D.nm.size ≤ 9223372036854775807
  s : D.spots.length ≤ 9223372036854775807
  t : D.told.length ≤ 9223372036854775807
theorem Arg.fits {w : World} {D : Dat} {A4 : Option Addr} {c4 : Nat} {A5 : Option Addr} {c5 : Nat} (h : Arg w D A4 c4 A5 c5) : Fits D := ⟨h.nm, h.s.2.1, h.t.2.1⟩

end Go.Proofs.Ytemeapfnfegkiaa.D
end
section
/- Package disk: the reference's Is and One answer what the program's do. -/
namespace Go.Proofs.Ytemeapfnfegkiaa.D
open Go Go.RowKit Go.Proofs.YtemeapfnfegkiaaK Go.Proofs.YtemeapfnfegkiaaW.PrintWords Go.Proofs.YtemeapfnfegkiaaW.PrintLast Go.Proofs.YtemeapfnfegkiaaW.PrintMore Go.Proofs.Ytemeapfnfegkiaa.PR
set_option linter.unusedVariables false
set_option linter.unusedSimpArgs false

theorem enterE_one (D : Dat) (dot : Int) : enterE D [dot] = if (if (checkF D).2.2 ≠ 0 then (checkF D).2.2 else if outB 0 ((D.spots.length : Int) - 1) [dot, dot] = true then 4 else 0) ≠ 0 then (if (checkF D).2.2 ≠ 0 then (checkF D).2.2 else if outB 0 ((D.spots.length : Int) - 1) [dot, dot] = true then 4 else 0) else if (truthsL D 0).isEmpty = true then 8 else 0 := by
  unfold enterE
  have h1 : outB 0 ((D.spots.length : Int) - 1) [dot, dot] = outB 0 ((D.spots.length : Int) - 1) [dot] := by simp [outB]
  rw [h1]
  generalize (checkF D).2.2 = c
  generalize outB 0 ((D.spots.length : Int) - 1) [dot] = o
  by_cases h : c = 0
  · subst h
    cases o <;> simp
  · simp [h]

theorem enterE_two (D : Dat) (a b : Int) : enterE D [a, b] = if (checkF D).2.2 ≠ 0 then (checkF D).2.2 else if outB 0 ((D.spots.length : Int) - 1) [a, b] = true then 4 else if a = b then 2 else if (truthsL D 0).isEmpty = true then 8 else 0 := by
  unfold enterE
  have h : ([a, b].length = 2 ∧ rd [a, b] 0 = rd [a, b] 1) ↔ a = b := ⟨fun h => h.2, fun h => ⟨rfl, h⟩⟩
  simp only [h]

end Go.Proofs.Ytemeapfnfegkiaa.D
end
section
/- Package disk: how many groups and spots there are; the least and the greatest of what truths say. -/
namespace Go.Proofs.Ytemeapfnfegkiaa.D
open Go Go.RowKit Go.Proofs.YtemeapfnfegkiaaK Go.Proofs.YtemeapfnfegkiaaW.PrintWords Go.Proofs.YtemeapfnfegkiaaW.PrintLast Go.Proofs.YtemeapfnfegkiaaW.PrintMore Go.Proofs.Ytemeapfnfegkiaa.PR
set_option linter.unusedVariables false
set_option linter.unusedSimpArgs false

theorem foldMin : ∀ (xs : List Int) (x : Int), (xs.foldl min x ∈ x :: xs) ∧ ∀ y ∈ x :: xs, xs.foldl min x ≤ y
  | [], x => ⟨by simp, fun y hy => by simp at hy; simp [hy]⟩
  | a :: xs, x => by
    obtain ⟨h1, h2⟩ := foldMin xs (min x a)
    simp only [List.foldl_cons]
    refine ⟨?_, fun y hy => ?_⟩
    · rcases List.mem_cons.1 h1 with h | h
      · rw [h]; rcases Int.le_total x a with q | q
        · rw [Int.min_eq_left q]; simp
        · rw [Int.min_eq_right q]; simp
      · simp [h]
    · have h0 := h2 (min x a) (List.mem_cons_self ..)
      rcases List.mem_cons.1 hy with h | h
      · subst h; omega
      · rcases List.mem_cons.1 h with h | h
        · subst h; omega
        · exact h2 y (List.mem_cons_of_mem _ h)
theorem foldMax : ∀ (xs : List Int) (x : Int), (xs.foldl max x ∈ x :: xs) ∧ ∀ y ∈ x :: xs, y ≤ xs.foldl max x
  | [], x => ⟨by simp, fun y hy => by simp at hy; simp [hy]⟩
  | a :: xs, x => by
    obtain ⟨h1, h2⟩ := foldMax xs (max x a)
    simp only [List.foldl_cons]
    refine ⟨?_, fun y hy => ?_⟩
    · rcases List.mem_cons.1 h1 with h | h
      · rw [h]; rcases Int.le_total x a with q | q
        · rw [Int.max_eq_right q]; simp
        · rw [Int.max_eq_left q]; simp
      · simp [h]
    · have h0 := h2 (max x a) (List.mem_cons_self ..)
      rcases List.mem_cons.1 hy with h | h
      · subst h; omega
      · rcases List.mem_cons.1 h with h | h
        · subst h; omega
        · exact h2 y (List.mem_cons_of_mem _ h)
theorem minL_spec {l : List Int} (h : l ≠ []) : minL l ∈ l ∧ ∀ y ∈ l, minL l ≤ y := by
  cases l with
  | nil => exact absurd rfl h
  | cons x xs => exact foldMin xs x
theorem maxL_spec {l : List Int} (h : l ≠ []) : maxL l ∈ l ∧ ∀ y ∈ l, y ≤ maxL l := by
  cases l with
  | nil => exact absurd rfl h
  | cons x xs => exact foldMax xs x
theorem enterE_none (D : Dat) : enterE D [] = if (checkF D).2.2 ≠ 0 then (checkF D).2.2 else if (truthsL D 0).isEmpty = true then 8 else 0 := by
  unfold enterE
  have h1 : outB 0 ((D.spots.length : Int) - 1) [] = false := rfl
  simp [h1]

end Go.Proofs.Ytemeapfnfegkiaa.D
end
section
namespace Go.Proofs.Ytemeapfnfegkiaa.PR
open Go.RowKit Go.Proofs.YtemeapfnfegkiaaW.PrintWords Go.Proofs.YtemeapfnfegkiaaW.PrintLast Go.Proofs.YtemeapfnfegkiaaW.PrintMore
attribute [local go_sem] max2_int min2_int max_two min_two max_three min_three max_four min_four   -- for this text's walks alone
set_option linter.unusedVariables false
set_option linter.unusedSimpArgs false

def helioscopelaw01_valid.f (k : Nat) (a0_0 : ByteArray) (a0_1 : Int) (a0_2 : Int) (a0_3 : Int) (l0_4 : List (S80)) (l0_5 : List (S52)) : Option (Bool) := (helioscoperef01_Check.f k a0_0 a0_1 a0_2 a0_3 l0_4 l0_5).bind fun bt361 => (some (bt361.2.2 == 0))
set_option maxHeartbeats 8000000 in
set_option maxRecDepth 100000 in
theorem helioscopelaw01_valid.calls (k : Nat) (a0_0 : ByteArray) (a0_1 : Int) (a0_2 : Int) (a0_3 : Int) (A0_4 : Option Addr) (c0_4 : Nat) (l0_4 : List (S80)) (A0_5 : Option Addr) (c0_5 : Nat) (l0_5 : List (S52)) (r : Bool) (w : World) (hr0_4 : Kd.C k80 w A0_4 l0_4.length l0_4) (hc0_4 : l0_4.length ≤ c0_4) (hr0_5 : Kd.C k52 w A0_5 l0_5.length l0_5) (hc0_5 : l0_5.length ≤ c0_5) (h : helioscopelaw01_valid.f k a0_0 a0_1 a0_2 a0_3 l0_4 l0_5 = some r) :
  Calls Try.prog 41 #[.agg #[.string a0_0, .int .i64 a0_1, .int .i64 a0_2, .int .i64 a0_3, .slice A0_4 l0_4.length c0_4, .slice A0_5 l0_5.length c0_5]] w fun e w' => e = .returned (.bool r) ∧ Below w.heap.size w w' := by
 have hu27 := Try.underlying27
 have HR0_4 := Aside0.mk hr0_4
 have HC0_4 := Aside0.mk hc0_4
 clear hr0_4 hc0_4
 have HR0_5 := Aside0.mk hr0_5
 have HC0_5 := Aside0.mk hc0_5
 clear hr0_5 hc0_5
 have HB := Aside0.mk (Below.refl w.heap.size w)
 have H : ((helioscoperef01_Check.f k a0_0 a0_1 a0_2 a0_3 l0_4 l0_5).bind fun bt361 => (some (bt361.2.2 == 0))) = some r := h
 clear h
 replace H := Option.bind_eq_some_iff.mp H
 obtain ⟨⟨t361, t362, t363⟩, A20, H⟩ := H
 replace H : (some (t363 == 0)) = some r := H
 have A2 := Aside0.mk A20
 clear A20
 obtain rfl := Option.some.inj H
 go_enter Try.func41, Try.ntmps41
 go_wp2_with (first | ((with_reducible refine gate_dst (N := 1) rfl ?_); refine box_event ?hg (N := 1) ?hd (cs := #[.string a0_0, .int .i64 a0_1, .int .i64 a0_2, .int .i64 a0_3, .slice A0_4 l0_4.length c0_4, .slice A0_5 l0_5.length c0_5]) (t := 27) ?hr ?_; (case hd => rfl); (case hg => rfl); (case hr => first | (go_simp; done) | (go_simp; rfl)); intro gb360 hg w3 hbox hb; have n0_ := Aside0.mk (below_step (by repeat (first | (with_reducible first | exact HB.out | apply below_alloc | apply pw_below_drewN | apply below_drew1) | exact HB.out)) hb); have n1_ := Aside0.mk (hbox); have n2_ := Aside0.mk ((by rw [hg]; exact (below_size (by repeat (first | (with_reducible first | exact HB.out | apply below_alloc | apply pw_below_drewN | apply below_drew1) | exact HB.out))) : w.heap.size ≤ gb360)); have n3_ := Aside0.mk ((by rw [hg]; exact (below_size (by repeat (first | (with_reducible first | exact HB.out | apply below_alloc | apply pw_below_drewN | apply below_drew1) | exact HB.out))) : w.heap.size ≤ gb360)); clear HB; have HB := n0_; have BK360 := n1_; have GW360 := n2_; have GE360 := n3_; clear n0_ n1_ n2_ n3_; clear hb hbox hg; have hcz4_0 : w3.cell? ⟨gb360, 0, none⟩ = some (.string a0_0) := (blk_cell BK360.out 0).trans rfl; have hcz4_1 : w3.cell? ⟨gb360, 1, none⟩ = some (.int .i64 a0_1) := (blk_cell BK360.out 1).trans rfl; have hcz4_2 : w3.cell? ⟨gb360, 2, none⟩ = some (.int .i64 a0_2) := (blk_cell BK360.out 2).trans rfl; have hcz4_3 : w3.cell? ⟨gb360, 3, none⟩ = some (.int .i64 a0_3) := (blk_cell BK360.out 3).trans rfl; have hcz4_4 : w3.cell? ⟨gb360, 4, none⟩ = some (.slice A0_4 l0_4.length c0_4) := (blk_cell BK360.out 4).trans rfl; have hcz4_5 : w3.cell? ⟨gb360, 5, none⟩ = some (.slice A0_5 l0_5.length c0_5) := (blk_cell BK360.out 5).trans rfl; have hfz4_0 := blk_frozen BK360.out 0; have hfz4_1 := blk_frozen BK360.out 1; have hfz4_2 := blk_frozen BK360.out 2; have hfz4_3 := blk_frozen BK360.out 3; have hfz4_4 := blk_frozen BK360.out 4; have hfz4_5 := blk_frozen BK360.out 5) | ((with_reducible refine gate_callee (f := 19) rfl ?_); refine goesL_ (some 8) rfl rfl Try.func19 (by kernel_rfl) rfl #[.agg #[.string a0_0, .int .i64 a0_1, .int .i64 a0_2, .int .i64 a0_3, .slice A0_4 l0_4.length c0_4, .slice A0_5 l0_5.length c0_5]] rfl (by (try simp only [List.map_toArray, List.map_cons, List.map_nil]); first | done | rfl | (simp only [List.length_drop, List.length_take]; rfl)) ?_; (with_reducible refine (helioscoperef01_Check.calls k a0_0 a0_1 a0_2 a0_3 _ _ l0_4 _ _ l0_5 t361 t362 t363 _ ?side1 ?side2 ?side3 ?side4 A2.out).mono ?_); (case side1 => repeat (first | exact (Kd.C_below HR0_4.out HB.out) | (with_reducible refine Kd.C_alloc ?_ _) | (with_reducible refine Kd.C_drewN ?_ _) | (with_reducible refine Kd.C_drew ?_))); (case side2 => exact HC0_4.out); (case side3 => repeat (first | exact (Kd.C_below HR0_5.out HB.out) | (with_reducible refine Kd.C_alloc ?_ _) | (with_reducible refine Kd.C_drewN ?_ _) | (with_reducible refine Kd.C_drew ?_))); (case side4 => exact HC0_5.out); rintro e w5 ⟨rfl, hb⟩; refine ⟨_, rfl, ?_⟩; have n0_ := Aside0.mk (blk_below (g := gb360) (o := .cells #[.string a0_0, .int .i64 a0_1, .int .i64 a0_2, .int .i64 a0_3, .slice A0_4 l0_4.length c0_4, .slice A0_5 l0_5.length c0_5] 27 (0, 0)) (by (with_reducible repeat (first | refine blk_drewN ?_ _ | refine blk_drew ?_ | refine blk_alloc ?_ _)); exact BK360.out) hb); have n1_ := Aside0.mk (below_step (by repeat (first | (with_reducible first | exact HB.out | apply below_alloc | apply pw_below_drewN | apply below_drew1 | refine below_set ?_ GE360.out) | exact HB.out)) hb); clear BK360; clear HB; have BK360 := n0_; have HB := n1_; clear n0_ n1_; (try clear hb); (try clear hb2); (try clear hk); (try clear hi)))
 go_ret
 exact ⟨by first | rfl | (simp [errW_none, errW_some] <;> rfl) | (simp [*, errW_none, errW_some] <;> rfl), by repeat (first | (with_reducible first | exact HB.out | apply below_alloc | apply pw_below_drewN | apply below_drew1 | refine below_set ?_ GE360.out) | exact HB.out)⟩


def helioscopelaw01_some.f (k : Nat) (a0_0 : ByteArray) (a0_1 : Int) (a0_2 : Int) (a0_3 : Int) (l0_4 : List (S80)) (l0_5 : List (S52)) : Option (Bool) := (helioscopelaw01_valid.f k a0_0 a0_1 a0_2 a0_3 l0_4 l0_5).bind fun t365 => (if t365 = true then ((helioscoperef01_Truths.f k a0_0 a0_1 a0_2 a0_3 l0_4 l0_5 ([] : List Int)).bind fun t366 => (some (decide ((t366.length : Int) > 0)))) else (some false))
set_option maxHeartbeats 8000000 in
set_option maxRecDepth 100000 in
theorem helioscopelaw01_some.calls (k : Nat) (a0_0 : ByteArray) (a0_1 : Int) (a0_2 : Int) (a0_3 : Int) (A0_4 : Option Addr) (c0_4 : Nat) (l0_4 : List (S80)) (A0_5 : Option Addr) (c0_5 : Nat) (l0_5 : List (S52)) (r : Bool) (w : World) (hr0_4 : Kd.C k80 w A0_4 l0_4.length l0_4) (hc0_4 : l0_4.length ≤ c0_4) (hr0_5 : Kd.C k52 w A0_5 l0_5.length l0_5) (hc0_5 : l0_5.length ≤ c0_5) (h : helioscopelaw01_some.f k a0_0 a0_1 a0_2 a0_3 l0_4 l0_5 = some r) :
  Calls Try.prog 47 #[.agg #[.string a0_0, .int .i64 a0_1, .int .i64 a0_2, .int .i64 a0_3, .slice A0_4 l0_4.length c0_4, .slice A0_5 l0_5.length c0_5]] w fun e w' => e = .returned (.bool r) ∧ Below w.heap.size w w' := by
 have hu27 := Try.underlying27
 have HR0_4 := Aside0.mk hr0_4
 have HC0_4 := Aside0.mk hc0_4
 clear hr0_4 hc0_4
 have HR0_5 := Aside0.mk hr0_5
 have HC0_5 := Aside0.mk hc0_5
 clear hr0_5 hc0_5
 have HB := Aside0.mk (Below.refl w.heap.size w)
 have H : ((helioscopelaw01_valid.f k a0_0 a0_1 a0_2 a0_3 l0_4 l0_5).bind fun t365 => (if t365 = true then ((helioscoperef01_Truths.f k a0_0 a0_1 a0_2 a0_3 l0_4 l0_5 ([] : List Int)).bind fun t366 => (some (decide ((t366.length : Int) > 0)))) else (some false))) = some r := h
 clear h
 replace H := Option.bind_eq_some_iff.mp H
 obtain ⟨t365, A20, H⟩ := H
 replace H : (if t365 = true then ((helioscoperef01_Truths.f k a0_0 a0_1 a0_2 a0_3 l0_4 l0_5 ([] : List Int)).bind fun t366 => (some (decide ((t366.length : Int) > 0)))) else (some false)) = some r := H
 have A2 := Aside0.mk A20
 clear A20
 by_cases c3 : t365 = true
 ·
  subst c3
  have H1 : ((helioscoperef01_Truths.f k a0_0 a0_1 a0_2 a0_3 l0_4 l0_5 ([] : List Int)).bind fun t366 => (some (decide ((t366.length : Int) > 0)))) = some r := by rw [if_pos rfl] at H; exact H
  clear H
  have H := H1
  clear H1
  replace H := Option.bind_eq_some_iff.mp H
  obtain ⟨t366, A40, H⟩ := H
  replace H : (some (decide ((t366.length : Int) > 0))) = some r := H
  have A4 := Aside0.mk A40
  clear A40
  obtain rfl := Option.some.inj H
  go_enter Try.func47, Try.ntmps47
  go_wp2_with (first | ((with_reducible refine gate_dst (N := 1) rfl ?_); (try (refine gate_guard (by rfl) ?_; dsimp only)); refine box_event ?hg (N := 1) ?hd (cs := #[.string a0_0, .int .i64 a0_1, .int .i64 a0_2, .int .i64 a0_3, .slice A0_4 l0_4.length c0_4, .slice A0_5 l0_5.length c0_5]) (t := 27) ?hr ?_; (case hd => rfl); (case hg => rfl); (case hr => first | (go_simp; done) | (go_simp; rfl)); intro gb364 hg w5 hbox hb; have n0_ := Aside0.mk (below_step (by repeat (first | (with_reducible first | exact HB.out | apply below_alloc | apply pw_below_drewN | apply below_drew1) | exact HB.out)) hb); have n1_ := Aside0.mk (hbox); have n2_ := Aside0.mk ((by rw [hg]; exact (below_size (by repeat (first | (with_reducible first | exact HB.out | apply below_alloc | apply pw_below_drewN | apply below_drew1) | exact HB.out))) : w.heap.size ≤ gb364)); have n3_ := Aside0.mk ((by rw [hg]; exact (below_size (by repeat (first | (with_reducible first | exact HB.out | apply below_alloc | apply pw_below_drewN | apply below_drew1) | exact HB.out))) : w.heap.size ≤ gb364)); clear HB; have HB := n0_; have BK364 := n1_; have GW364 := n2_; have GE364 := n3_; clear n0_ n1_ n2_ n3_; clear hb hbox hg; have hcz6_0 : w5.cell? ⟨gb364, 0, none⟩ = some (.string a0_0) := (blk_cell BK364.out 0).trans rfl; have hcz6_1 : w5.cell? ⟨gb364, 1, none⟩ = some (.int .i64 a0_1) := (blk_cell BK364.out 1).trans rfl; have hcz6_2 : w5.cell? ⟨gb364, 2, none⟩ = some (.int .i64 a0_2) := (blk_cell BK364.out 2).trans rfl; have hcz6_3 : w5.cell? ⟨gb364, 3, none⟩ = some (.int .i64 a0_3) := (blk_cell BK364.out 3).trans rfl; have hcz6_4 : w5.cell? ⟨gb364, 4, none⟩ = some (.slice A0_4 l0_4.length c0_4) := (blk_cell BK364.out 4).trans rfl; have hcz6_5 : w5.cell? ⟨gb364, 5, none⟩ = some (.slice A0_5 l0_5.length c0_5) := (blk_cell BK364.out 5).trans rfl; have hfz6_0 := blk_frozen BK364.out 0; have hfz6_1 := blk_frozen BK364.out 1; have hfz6_2 := blk_frozen BK364.out 2; have hfz6_3 := blk_frozen BK364.out 3; have hfz6_4 := blk_frozen BK364.out 4; have hfz6_5 := blk_frozen BK364.out 5) | ((with_reducible refine gate_callee (f := 41) rfl ?_); refine goesL_ (some 4) rfl rfl Try.func41 (by kernel_rfl) rfl #[.agg #[.string a0_0, .int .i64 a0_1, .int .i64 a0_2, .int .i64 a0_3, .slice A0_4 l0_4.length c0_4, .slice A0_5 l0_5.length c0_5]] rfl (by (try simp only [List.map_toArray, List.map_cons, List.map_nil]); first | done | rfl | (simp only [List.length_drop, List.length_take]; rfl)) ?_; (with_reducible refine (helioscopelaw01_valid.calls k a0_0 a0_1 a0_2 a0_3 _ _ l0_4 _ _ l0_5 true _ ?side1 ?side2 ?side3 ?side4 A2.out).mono ?_); (case side1 => repeat (first | exact (Kd.C_below HR0_4.out HB.out) | (with_reducible refine Kd.C_alloc ?_ _) | (with_reducible refine Kd.C_drewN ?_ _) | (with_reducible refine Kd.C_drew ?_))); (case side2 => exact HC0_4.out); (case side3 => repeat (first | exact (Kd.C_below HR0_5.out HB.out) | (with_reducible refine Kd.C_alloc ?_ _) | (with_reducible refine Kd.C_drewN ?_ _) | (with_reducible refine Kd.C_drew ?_))); (case side4 => exact HC0_5.out); rintro e w7 ⟨rfl, hb⟩; refine ⟨_, rfl, ?_⟩; have n0_ := Aside0.mk (blk_below (g := gb364) (o := .cells #[.string a0_0, .int .i64 a0_1, .int .i64 a0_2, .int .i64 a0_3, .slice A0_4 l0_4.length c0_4, .slice A0_5 l0_5.length c0_5] 27 (0, 0)) (by (with_reducible repeat (first | refine blk_drewN ?_ _ | refine blk_drew ?_ | refine blk_alloc ?_ _)); exact BK364.out) hb); have n1_ := Aside0.mk (below_step (by repeat (first | (with_reducible first | exact HB.out | apply below_alloc | apply pw_below_drewN | apply below_drew1 | refine below_set ?_ GE364.out) | exact HB.out)) hb); clear BK364; clear HB; have BK364 := n0_; have HB := n1_; clear n0_ n1_; (try clear hb); (try clear hb2); (try clear hk); (try clear hi); have hcz8_0 : w7.cell? ⟨gb364, 0, none⟩ = some (.string a0_0) := (blk_cell BK364.out 0).trans rfl; have hcz8_1 : w7.cell? ⟨gb364, 1, none⟩ = some (.int .i64 a0_1) := (blk_cell BK364.out 1).trans rfl; have hcz8_2 : w7.cell? ⟨gb364, 2, none⟩ = some (.int .i64 a0_2) := (blk_cell BK364.out 2).trans rfl; have hcz8_3 : w7.cell? ⟨gb364, 3, none⟩ = some (.int .i64 a0_3) := (blk_cell BK364.out 3).trans rfl; have hcz8_4 : w7.cell? ⟨gb364, 4, none⟩ = some (.slice A0_4 l0_4.length c0_4) := (blk_cell BK364.out 4).trans rfl; have hcz8_5 : w7.cell? ⟨gb364, 5, none⟩ = some (.slice A0_5 l0_5.length c0_5) := (blk_cell BK364.out 5).trans rfl; have hfz8_0 := blk_frozen BK364.out 0; have hfz8_1 := blk_frozen BK364.out 1; have hfz8_2 := blk_frozen BK364.out 2; have hfz8_3 := blk_frozen BK364.out 3; have hfz8_4 := blk_frozen BK364.out 4; have hfz8_5 := blk_frozen BK364.out 5) | (go_at_call 50; (refine (helioscoperef01_Truths.calls k a0_0 a0_1 a0_2 a0_3 _ _ l0_4 _ _ l0_5 _ _ ([] : List Int) t366 _ ?side1 ?side2 ?side3 ?side4 ?side5 ?side6 A4.out).mono ?_); (case side1 => repeat (first | exact (Kd.C_below HR0_4.out HB.out) | (with_reducible refine Kd.C_alloc ?_ _) | (with_reducible refine Kd.C_drewN ?_ _) | (with_reducible refine Kd.C_drew ?_))); (case side2 => exact HC0_4.out); (case side3 => repeat (first | exact (Kd.C_below HR0_5.out HB.out) | (with_reducible refine Kd.C_alloc ?_ _) | (with_reducible refine Kd.C_drewN ?_ _) | (with_reducible refine Kd.C_drew ?_))); (case side4 => exact HC0_5.out); (case side5 => exact Kd.C_nil _ _); (case side6 => exact Nat.le_refl _); rintro e w9 ⟨v367, rfl, ho0, hb⟩; have n0_ := Aside0.mk (Kd.N_lower (Kd.N_mono (ok' := fun k_ => k_ ≠ gb364) ho0 (fun k_ hk_ => (Kd.freshB (g := gb364) (o := .cells #[.string a0_0, .int .i64 a0_1, .int .i64 a0_2, .int .i64 a0_3, .slice A0_4 l0_4.length c0_4, .slice A0_5 l0_5.length c0_5] 27 (0, 0)) (by (with_reducible repeat (first | refine blk_drewN ?_ _ | refine blk_drew ?_ | refine blk_alloc ?_ _)); exact BK364.out) k_ hk_))) (below_size (by repeat (first | (with_reducible first | exact HB.out | apply below_alloc | apply pw_below_drewN | apply below_drew1 | refine below_set ?_ GE364.out) | exact HB.out)))); have n1_ := Aside0.mk (blk_below (g := gb364) (o := .cells #[.string a0_0, .int .i64 a0_1, .int .i64 a0_2, .int .i64 a0_3, .slice A0_4 l0_4.length c0_4, .slice A0_5 l0_5.length c0_5] 27 (0, 0)) (by (with_reducible repeat (first | refine blk_drewN ?_ _ | refine blk_drew ?_ | refine blk_alloc ?_ _)); exact BK364.out) hb); have n2_ := Aside0.mk (below_step (by repeat (first | (with_reducible first | exact HB.out | apply below_alloc | apply pw_below_drewN | apply below_drew1 | refine below_set ?_ GE364.out) | exact HB.out)) hb); clear BK364; clear HB; have HO368 := n0_; have BK364 := n1_; have HB := n2_; clear n0_ n1_ n2_; (try clear hb); (try clear hb2); (try clear hk); (try clear hi); (try clear ho0); obtain ⟨Ao10, co10, eo10⟩ := Kd.N_slice HO368.out; subst eo10))
  go_ret
  exact ⟨by first | rfl | (simp [errW_none, errW_some] <;> rfl) | (simp [*, errW_none, errW_some] <;> rfl), by repeat (first | (with_reducible first | exact HB.out | apply below_alloc | apply pw_below_drewN | apply below_drew1 | refine below_set ?_ GE364.out) | exact HB.out)⟩
 ·
  replace c3 := Bool.eq_false_iff.mpr c3
  subst c3
  have H1 : (some false) = some r := by rw [if_neg (show ¬ (false = true) by decide)] at H; exact H
  clear H
  have H := H1
  clear H1
  obtain rfl := Option.some.inj H
  go_enter Try.func47, Try.ntmps47
  go_wp2_with (first | ((with_reducible refine gate_dst (N := 1) rfl ?_); (try (refine gate_guard (by rfl) ?_; dsimp only)); refine box_event ?hg (N := 1) ?hd (cs := #[.string a0_0, .int .i64 a0_1, .int .i64 a0_2, .int .i64 a0_3, .slice A0_4 l0_4.length c0_4, .slice A0_5 l0_5.length c0_5]) (t := 27) ?hr ?_; (case hd => rfl); (case hg => rfl); (case hr => first | (go_simp; done) | (go_simp; rfl)); intro gb364 hg w11 hbox hb; have n0_ := Aside0.mk (below_step (by repeat (first | (with_reducible first | exact HB.out | apply below_alloc | apply pw_below_drewN | apply below_drew1) | exact HB.out)) hb); have n1_ := Aside0.mk (hbox); have n2_ := Aside0.mk ((by rw [hg]; exact (below_size (by repeat (first | (with_reducible first | exact HB.out | apply below_alloc | apply pw_below_drewN | apply below_drew1) | exact HB.out))) : w.heap.size ≤ gb364)); have n3_ := Aside0.mk ((by rw [hg]; exact (below_size (by repeat (first | (with_reducible first | exact HB.out | apply below_alloc | apply pw_below_drewN | apply below_drew1) | exact HB.out))) : w.heap.size ≤ gb364)); clear HB; have HB := n0_; have BK364 := n1_; have GW364 := n2_; have GE364 := n3_; clear n0_ n1_ n2_ n3_; clear hb hbox hg; have hcz12_0 : w11.cell? ⟨gb364, 0, none⟩ = some (.string a0_0) := (blk_cell BK364.out 0).trans rfl; have hcz12_1 : w11.cell? ⟨gb364, 1, none⟩ = some (.int .i64 a0_1) := (blk_cell BK364.out 1).trans rfl; have hcz12_2 : w11.cell? ⟨gb364, 2, none⟩ = some (.int .i64 a0_2) := (blk_cell BK364.out 2).trans rfl; have hcz12_3 : w11.cell? ⟨gb364, 3, none⟩ = some (.int .i64 a0_3) := (blk_cell BK364.out 3).trans rfl; have hcz12_4 : w11.cell? ⟨gb364, 4, none⟩ = some (.slice A0_4 l0_4.length c0_4) := (blk_cell BK364.out 4).trans rfl; have hcz12_5 : w11.cell? ⟨gb364, 5, none⟩ = some (.slice A0_5 l0_5.length c0_5) := (blk_cell BK364.out 5).trans rfl; have hfz12_0 := blk_frozen BK364.out 0; have hfz12_1 := blk_frozen BK364.out 1; have hfz12_2 := blk_frozen BK364.out 2; have hfz12_3 := blk_frozen BK364.out 3; have hfz12_4 := blk_frozen BK364.out 4; have hfz12_5 := blk_frozen BK364.out 5) | ((with_reducible refine gate_callee (f := 41) rfl ?_); refine goesL_ (some 4) rfl rfl Try.func41 (by kernel_rfl) rfl #[.agg #[.string a0_0, .int .i64 a0_1, .int .i64 a0_2, .int .i64 a0_3, .slice A0_4 l0_4.length c0_4, .slice A0_5 l0_5.length c0_5]] rfl (by (try simp only [List.map_toArray, List.map_cons, List.map_nil]); first | done | rfl | (simp only [List.length_drop, List.length_take]; rfl)) ?_; (with_reducible refine (helioscopelaw01_valid.calls k a0_0 a0_1 a0_2 a0_3 _ _ l0_4 _ _ l0_5 false _ ?side1 ?side2 ?side3 ?side4 A2.out).mono ?_); (case side1 => repeat (first | exact (Kd.C_below HR0_4.out HB.out) | (with_reducible refine Kd.C_alloc ?_ _) | (with_reducible refine Kd.C_drewN ?_ _) | (with_reducible refine Kd.C_drew ?_))); (case side2 => exact HC0_4.out); (case side3 => repeat (first | exact (Kd.C_below HR0_5.out HB.out) | (with_reducible refine Kd.C_alloc ?_ _) | (with_reducible refine Kd.C_drewN ?_ _) | (with_reducible refine Kd.C_drew ?_))); (case side4 => exact HC0_5.out); rintro e w13 ⟨rfl, hb⟩; refine ⟨_, rfl, ?_⟩; have n0_ := Aside0.mk (blk_below (g := gb364) (o := .cells #[.string a0_0, .int .i64 a0_1, .int .i64 a0_2, .int .i64 a0_3, .slice A0_4 l0_4.length c0_4, .slice A0_5 l0_5.length c0_5] 27 (0, 0)) (by (with_reducible repeat (first | refine blk_drewN ?_ _ | refine blk_drew ?_ | refine blk_alloc ?_ _)); exact BK364.out) hb); have n1_ := Aside0.mk (below_step (by repeat (first | (with_reducible first | exact HB.out | apply below_alloc | apply pw_below_drewN | apply below_drew1 | refine below_set ?_ GE364.out) | exact HB.out)) hb); clear BK364; clear HB; have BK364 := n0_; have HB := n1_; clear n0_ n1_; (try clear hb); (try clear hb2); (try clear hk); (try clear hi)))
  go_ret
  exact ⟨by first | rfl | (simp [errW_none, errW_some] <;> rfl) | (simp [*, errW_none, errW_some] <;> rfl), by repeat (first | (with_reducible first | exact HB.out | apply below_alloc | apply pw_below_drewN | apply below_drew1 | refine below_set ?_ GE364.out) | exact HB.out)⟩


def helioscopelaw01_within.f (a0_0 : Int) (a0_1 : Int) (a1_0 : Int) (a1_1 : Int) : Option (Bool) := if a1_0 ≤ a0_0 then (some (decide (a0_1 ≤ a1_1))) else (some false)
set_option maxHeartbeats 8000000 in
set_option maxRecDepth 100000 in
theorem helioscopelaw01_within.calls (a0_0 : Int) (a0_1 : Int) (a1_0 : Int) (a1_1 : Int) (r : Bool) (w : World) (h : helioscopelaw01_within.f a0_0 a0_1 a1_0 a1_1 = some r) :
  Calls Try.prog 52 #[.agg #[.int .i64 a0_0, .int .i64 a0_1], .agg #[.int .i64 a1_0, .int .i64 a1_1]] w fun e w' => e = .returned (.bool r) ∧ Below w.heap.size w w' := by
 have hu23 := Try.underlying23
 have HB := Aside0.mk (Below.refl w.heap.size w)
 have H : (if a1_0 ≤ a0_0 then (some (decide (a0_1 ≤ a1_1))) else (some false)) = some r := h
 clear h
 by_cases c3 : a1_0 ≤ a0_0
 ·
  rw [if_pos c3] at H
  have c3b0 : decide (a1_0 ≤ a0_0) = true := decide_eq_true c3
  clear c3
  obtain rfl := Option.some.inj H
  go_enter Try.func52, Try.ntmps52
  go_wp2_with (first | ((with_reducible refine gate_dst (N := 2) rfl ?_); refine box_event ?hg (N := 2) ?hd (cs := #[.int .i64 a0_0, .int .i64 a0_1]) (t := 23) ?hr ?_; (case hd => rfl); (case hg => rfl); (case hr => first | (go_simp; done) | (go_simp; rfl)); intro gb369 hg w4 hbox hb; have n0_ := Aside0.mk (below_step (by repeat (first | (with_reducible first | exact HB.out | apply below_alloc | apply pw_below_drewN | apply below_drew1) | exact HB.out)) hb); have n1_ := Aside0.mk (hbox); have n2_ := Aside0.mk ((by rw [hg]; exact (below_size (by repeat (first | (with_reducible first | exact HB.out | apply below_alloc | apply pw_below_drewN | apply below_drew1) | exact HB.out))) : w.heap.size ≤ gb369)); have n3_ := Aside0.mk ((by rw [hg]; exact (below_size (by repeat (first | (with_reducible first | exact HB.out | apply below_alloc | apply pw_below_drewN | apply below_drew1) | exact HB.out))) : w.heap.size ≤ gb369)); clear HB; have HB := n0_; have BK369 := n1_; have GW369 := n2_; have GE369 := n3_; clear n0_ n1_ n2_ n3_; clear hb hbox hg) | ((with_reducible refine gate_dst (N := 3) rfl ?_); refine box_event ?hg (N := 3) ?hd (cs := #[.int .i64 a1_0, .int .i64 a1_1]) (t := 23) ?hr ?_; (case hd => rfl); (case hg => rfl); (case hr => first | (go_simp; done) | (go_simp; rfl)); intro gb370 hg w5 hbox hb; have n0_ := Aside0.mk (blk_below (g := gb369) (o := .cells #[.int .i64 a0_0, .int .i64 a0_1] 23 (0, 0)) (by (with_reducible repeat (first | refine blk_drewN ?_ _ | refine blk_drew ?_ | refine blk_alloc ?_ _)); exact BK369.out) hb); have n1_ := Aside0.mk (below_step (by repeat (first | (with_reducible first | exact HB.out | apply below_alloc | apply pw_below_drewN | apply below_drew1 | refine below_set ?_ GE369.out) | exact HB.out)) hb); have n2_ := Aside0.mk (hbox); have n3_ := Aside0.mk ((by rw [hg]; exact (below_size (by repeat (first | (with_reducible first | exact HB.out | apply below_alloc | apply pw_below_drewN | apply below_drew1 | refine below_set ?_ GE369.out) | exact HB.out))) : w.heap.size ≤ gb370)); have n4_ := Aside0.mk ((by rw [hg]; exact (below_size (by repeat (first | (with_reducible first | exact HB.out | apply below_alloc | apply pw_below_drewN | apply below_drew1 | refine below_set ?_ GE369.out) | exact HB.out))) : w.heap.size ≤ gb370)); have n5_ := Aside0.mk ((by rw [hg]; exact Nat.ne_of_lt (blk_lt (g := gb369) (o := .cells #[.int .i64 a0_0, .int .i64 a0_1] 23 (0, 0)) (by (with_reducible repeat (first | refine blk_drewN ?_ _ | refine blk_drew ?_ | refine blk_alloc ?_ _)); exact BK369.out)) : gb369 ≠ gb370)); have n6_ := Aside0.mk ((by rw [hg]; exact Nat.ne_of_gt (blk_lt (g := gb369) (o := .cells #[.int .i64 a0_0, .int .i64 a0_1] 23 (0, 0)) (by (with_reducible repeat (first | refine blk_drewN ?_ _ | refine blk_drew ?_ | refine blk_alloc ?_ _)); exact BK369.out)) : gb370 ≠ gb369)); clear BK369; clear HB; have BK369 := n0_; have HB := n1_; have BK370 := n2_; have GW370 := n3_; have GE370 := n4_; have NB369_370 := n5_; have NB370_369 := n6_; clear n0_ n1_ n2_ n3_ n4_ n5_ n6_; clear hb hbox hg; have hnb6 := NB370_369.out; have hnc6 := NB369_370.out; have hcz7_0 : w5.cell? ⟨gb370, 0, none⟩ = some (.int .i64 a1_0) := (blk_cell BK370.out 0).trans rfl; have hcz7_1 : w5.cell? ⟨gb370, 1, none⟩ = some (.int .i64 a1_1) := (blk_cell BK370.out 1).trans rfl; have hfz7_0 := blk_frozen BK370.out 0; have hfz7_1 := blk_frozen BK370.out 1; have hcz8_0 : w5.cell? ⟨gb369, 0, none⟩ = some (.int .i64 a0_0) := (blk_cell BK369.out 0).trans rfl; have hcz8_1 : w5.cell? ⟨gb369, 1, none⟩ = some (.int .i64 a0_1) := (blk_cell BK369.out 1).trans rfl; have hfz8_0 := blk_frozen BK369.out 0; have hfz8_1 := blk_frozen BK369.out 1))
  go_ret
  exact ⟨by first | rfl | (simp [errW_none, errW_some] <;> rfl) | (simp [*, errW_none, errW_some] <;> rfl), by repeat (first | (with_reducible first | exact HB.out | apply below_alloc | apply pw_below_drewN | apply below_drew1 | refine below_set ?_ GE369.out | refine below_set ?_ GE370.out) | exact HB.out)⟩
 ·
  rw [if_neg c3] at H
  have c3b0 : decide (a1_0 ≤ a0_0) = false := decide_eq_false c3
  clear c3
  obtain rfl := Option.some.inj H
  go_enter Try.func52, Try.ntmps52
  go_wp2_with (first | ((with_reducible refine gate_dst (N := 2) rfl ?_); refine box_event ?hg (N := 2) ?hd (cs := #[.int .i64 a0_0, .int .i64 a0_1]) (t := 23) ?hr ?_; (case hd => rfl); (case hg => rfl); (case hr => first | (go_simp; done) | (go_simp; rfl)); intro gb369 hg w9 hbox hb; have n0_ := Aside0.mk (below_step (by repeat (first | (with_reducible first | exact HB.out | apply below_alloc | apply pw_below_drewN | apply below_drew1) | exact HB.out)) hb); have n1_ := Aside0.mk (hbox); have n2_ := Aside0.mk ((by rw [hg]; exact (below_size (by repeat (first | (with_reducible first | exact HB.out | apply below_alloc | apply pw_below_drewN | apply below_drew1) | exact HB.out))) : w.heap.size ≤ gb369)); have n3_ := Aside0.mk ((by rw [hg]; exact (below_size (by repeat (first | (with_reducible first | exact HB.out | apply below_alloc | apply pw_below_drewN | apply below_drew1) | exact HB.out))) : w.heap.size ≤ gb369)); clear HB; have HB := n0_; have BK369 := n1_; have GW369 := n2_; have GE369 := n3_; clear n0_ n1_ n2_ n3_; clear hb hbox hg) | ((with_reducible refine gate_dst (N := 3) rfl ?_); refine box_event ?hg (N := 3) ?hd (cs := #[.int .i64 a1_0, .int .i64 a1_1]) (t := 23) ?hr ?_; (case hd => rfl); (case hg => rfl); (case hr => first | (go_simp; done) | (go_simp; rfl)); intro gb370 hg w10 hbox hb; have n0_ := Aside0.mk (blk_below (g := gb369) (o := .cells #[.int .i64 a0_0, .int .i64 a0_1] 23 (0, 0)) (by (with_reducible repeat (first | refine blk_drewN ?_ _ | refine blk_drew ?_ | refine blk_alloc ?_ _)); exact BK369.out) hb); have n1_ := Aside0.mk (below_step (by repeat (first | (with_reducible first | exact HB.out | apply below_alloc | apply pw_below_drewN | apply below_drew1 | refine below_set ?_ GE369.out) | exact HB.out)) hb); have n2_ := Aside0.mk (hbox); have n3_ := Aside0.mk ((by rw [hg]; exact (below_size (by repeat (first | (with_reducible first | exact HB.out | apply below_alloc | apply pw_below_drewN | apply below_drew1 | refine below_set ?_ GE369.out) | exact HB.out))) : w.heap.size ≤ gb370)); have n4_ := Aside0.mk ((by rw [hg]; exact (below_size (by repeat (first | (with_reducible first | exact HB.out | apply below_alloc | apply pw_below_drewN | apply below_drew1 | refine below_set ?_ GE369.out) | exact HB.out))) : w.heap.size ≤ gb370)); have n5_ := Aside0.mk ((by rw [hg]; exact Nat.ne_of_lt (blk_lt (g := gb369) (o := .cells #[.int .i64 a0_0, .int .i64 a0_1] 23 (0, 0)) (by (with_reducible repeat (first | refine blk_drewN ?_ _ | refine blk_drew ?_ | refine blk_alloc ?_ _)); exact BK369.out)) : gb369 ≠ gb370)); have n6_ := Aside0.mk ((by rw [hg]; exact Nat.ne_of_gt (blk_lt (g := gb369) (o := .cells #[.int .i64 a0_0, .int .i64 a0_1] 23 (0, 0)) (by (with_reducible repeat (first | refine blk_drewN ?_ _ | refine blk_drew ?_ | refine blk_alloc ?_ _)); exact BK369.out)) : gb370 ≠ gb369)); clear BK369; clear HB; have BK369 := n0_; have HB := n1_; have BK370 := n2_; have GW370 := n3_; have GE370 := n4_; have NB369_370 := n5_; have NB370_369 := n6_; clear n0_ n1_ n2_ n3_ n4_ n5_ n6_; clear hb hbox hg; have hnb11 := NB370_369.out; have hnc11 := NB369_370.out; have hcz12_0 : w10.cell? ⟨gb370, 0, none⟩ = some (.int .i64 a1_0) := (blk_cell BK370.out 0).trans rfl; have hcz12_1 : w10.cell? ⟨gb370, 1, none⟩ = some (.int .i64 a1_1) := (blk_cell BK370.out 1).trans rfl; have hfz12_0 := blk_frozen BK370.out 0; have hfz12_1 := blk_frozen BK370.out 1; have hcz13_0 : w10.cell? ⟨gb369, 0, none⟩ = some (.int .i64 a0_0) := (blk_cell BK369.out 0).trans rfl; have hcz13_1 : w10.cell? ⟨gb369, 1, none⟩ = some (.int .i64 a0_1) := (blk_cell BK369.out 1).trans rfl; have hfz13_0 := blk_frozen BK369.out 0; have hfz13_1 := blk_frozen BK369.out 1))
  go_ret
  exact ⟨by first | rfl | (simp [errW_none, errW_some] <;> rfl) | (simp [*, errW_none, errW_some] <;> rfl), by repeat (first | (with_reducible first | exact HB.out | apply below_alloc | apply pw_below_drewN | apply below_drew1 | refine below_set ?_ GE369.out | refine below_set ?_ GE370.out) | exact HB.out)⟩


end Go.Proofs.Ytemeapfnfegkiaa.PR
end
section
/- Package disk: whether there is a truth; the numbers of all truths, compared. -/
namespace Go.Proofs.Ytemeapfnfegkiaa.D
open Go Go.RowKit Go.Proofs.YtemeapfnfegkiaaK Go.Proofs.YtemeapfnfegkiaaW.PrintWords Go.Proofs.YtemeapfnfegkiaaW.PrintLast Go.Proofs.YtemeapfnfegkiaaW.PrintMore Go.Proofs.Ytemeapfnfegkiaa.PR
set_option linter.unusedVariables false
set_option linter.unusedSimpArgs false

theorem rValid {D : Dat} (hF : Fits D) : Ev (fun f => helioscopelaw01_valid.f f D.nm D.rad D.lo D.hi D.spots D.told) (decide ((checkF D).2.2 = 0)) := by
  unfold helioscopelaw01_valid.f
  refine Ev.bind (rCheck D hF.nm hF.s hF.t) (Ev.congr (f := fun _ => some (decide ((checkF D).2.2 = 0))) (fun f => ?_) (Ev.now _))
  generalize (checkF D).2.2 = c
  by_cases h : c = 0
  · subst h; rfl
  · have h1 : (c == 0) = false := by simpa using h
    rw [h1, decide_eq_false h]
theorem rSome {D : Dat} (hF : Fits D) : Ev (fun f => helioscopelaw01_some.f f D.nm D.rad D.lo D.hi D.spots D.told) (decide (enterE D [] = 0)) := by
  unfold helioscopelaw01_some.f
  have he := enterE_none D
  refine Ev.bind (rValid hF) ?_
  by_cases hc : (checkF D).2.2 = 0
  · have hV := (check_valid hc).1
    rw [if_neg (fun x => x hc)] at he
    simp only [decide_eq_true hc, if_true]
    refine Ev.bind (rTruths hV [] (by decide)) (Ev.congr (f := fun _ => some (decide (enterE D [] = 0))) (fun f => ?_) (Ev.now _))
    rw [List.length_map, (truths_perm0 D).length_eq, he]
    cases truthsL D 0 with
    | nil => rfl
    | cons a l => simp
  · rw [if_pos hc] at he
    simp only [decide_eq_false hc, Bool.false_eq_true, if_false]
    rw [he, decide_eq_false hc]
    exact Ev.now _

end Go.Proofs.Ytemeapfnfegkiaa.D
end
section
/- Package disk: as long as nothing was told: with more nears there are more truths, and the same spots. -/
namespace Go.Proofs.Ytemeapfnfegkiaa.D
open Go Go.RowKit Go.Proofs.YtemeapfnfegkiaaK Go.Proofs.YtemeapfnfegkiaaW.PrintWords Go.Proofs.YtemeapfnfegkiaaW.PrintLast Go.Proofs.YtemeapfnfegkiaaW.PrintMore Go.Proofs.Ytemeapfnfegkiaa.PR
set_option linter.unusedVariables false
set_option linter.unusedSimpArgs false

abbrev d0 (D : Dat) : Dat := ⟨D.nm, D.rad, D.lo, D.hi, D.spots, []⟩
theorem mem_valsL {D : Dat} {F : Int → (Nat → Int) → Int} {L : List (Int × Nat)} {y : Int} (h : y ∈ valsL D F L) : ∃ x ∈ L, y = F x.1 (G D x.1 x.2) := by
  obtain ⟨x, hx, rfl⟩ := List.mem_map.1 h
  exact ⟨x, hx, rfl⟩
theorem valsL_mem {D : Dat} (F : Int → (Nat → Int) → Int) {L : List (Int × Nat)} {x : Int × Nat} (h : x ∈ L) : F x.1 (G D x.1 x.2) ∈ valsL D F L := List.mem_map.2 ⟨x, h, rfl⟩
end Go.Proofs.Ytemeapfnfegkiaa.D
end
section
/- Package disk: what Must and Never say of all truths. -/
namespace Go.Proofs.Ytemeapfnfegkiaa.D
open Go Go.RowKit Go.Proofs.YtemeapfnfegkiaaK Go.Proofs.YtemeapfnfegkiaaW.PrintWords Go.Proofs.YtemeapfnfegkiaaW.PrintLast Go.Proofs.YtemeapfnfegkiaaW.PrintMore Go.Proofs.Ytemeapfnfegkiaa.PR
set_option linter.unusedVariables false
set_option linter.unusedSimpArgs false

theorem one_val {D : Dat} {a b : Nat} (h : enterE D [] = 0) (ha : a < D.spots.length) (hb : b < D.spots.length) (hne : a ≠ b) : oneF D a b = (toldF (cnt D (oneQ a b) (truthsL D 0)) (truthsL D 0).length, 0) := by
  have he := enterE_two D a b
  have h0 := enterE_none D
  rw [h] at h0
  have hc : (checkF D).2.2 = 0 := by
    by_cases hc : (checkF D).2.2 = 0
    · exact hc
    · rw [if_pos hc] at h0; exact absurd h0.symm hc
  rw [if_neg (fun x => x hc)] at h0 he
  have hz : ¬ (truthsL D 0).isEmpty = true := fun hz => by rw [if_pos hz] at h0; simp at h0
  rw [if_neg (fun x => (outB_two _ _ _ _).1 x ⟨by omega, by omega⟩), if_neg (by omega), if_neg hz] at he
  unfold oneF; rw [if_pos he, Int.toNat_natCast, Int.toNat_natCast]
theorem is_val {D : Dat} {a : Nat} (h : enterE D [] = 0) (ha : a < D.spots.length) : isF D a = (toldF (cnt D (isQ a) (truthsL D 0)) (truthsL D 0).length, 0) := by
  have he := enterE_one D a
  have h0 := enterE_none D
  rw [h] at h0
  have hc : (checkF D).2.2 = 0 := by
    by_cases hc : (checkF D).2.2 = 0
    · exact hc
    · rw [if_pos hc] at h0; exact absurd h0.symm hc
  rw [if_neg (fun x => x hc)] at h0
  have hz : ¬ (truthsL D 0).isEmpty = true := fun hz => by rw [if_pos hz] at h0; simp at h0
  have ho : ¬ outB 0 ((D.spots.length : Int) - 1) [(a : Int), (a : Int)] = true := fun x => (outB_two _ _ _ _).1 x ⟨by omega, by omega⟩
  simp only [ne_eq, hc, not_true_eq_false, if_false, if_neg ho, if_neg hz] at he
  unfold isF; rw [if_pos he, Int.toNat_natCast]
end Go.Proofs.Ytemeapfnfegkiaa.D
end
section
/- Package disk: one thing more told. -/
namespace Go.Proofs.Ytemeapfnfegkiaa.D
open Go Go.RowKit Go.Proofs.YtemeapfnfegkiaaK Go.Proofs.YtemeapfnfegkiaaW.PrintWords Go.Proofs.YtemeapfnfegkiaaW.PrintLast Go.Proofs.YtemeapfnfegkiaaW.PrintMore Go.Proofs.Ytemeapfnfegkiaa.PR
set_option linter.unusedVariables false
set_option linter.unusedSimpArgs false

abbrev dt (D : Dat) (t : Told) : Dat := ⟨D.nm, D.rad, D.lo, D.hi, D.spots, D.told ++ [t]⟩
theorem tl_old {l : List Told} {t : Told} {k : Nat} (hk : k < l.length) : rd_T52 (l ++ [t]) (k : Int) = rd_T52 l (k : Int) := by
  rw [told_at _ _ hk, told_at _ _ (by simp; omega)]; exact List.getElem_append_left hk
theorem tl_new (l : List Told) (t : Told) : rd_T52 (l ++ [t]) (l.length : Int) = t := by
  rw [told_at _ _ (by simp)]; simp
theorem so_more (D : Dat) (t : Told) (g : Nat → Int) : soB (dt D t) 0 g = (soB D 0 g && sayB g t) := by
  have key : ∀ k, k ≤ D.told.length → soTo (dt D t) 0 g k = soTo D 0 g k := by
    intro k
    induction k with
    | zero => intro _; rfl
    | succ k ih => intro hk; rw [soTo_succ, soTo_succ, ih (by omega), tl_old (by omega)]
  unfold soB
  rw [show (dt D t).told.length = D.told.length + 1 by simp, soTo_succ, key _ (Nat.le_refl _), tl_new]
  simp
theorem truth_more (D : Dat) (t : Told) (near : Int) (s : Nat) : isTruth (dt D t) 0 near s = (isTruth D 0 near s && sayB (G D near s) t) := by
  unfold isTruth
  have e1 : ∀ k, sureTo (dt D t) k = sureTo D k := fun k => by
    induction k with
    | zero => rfl
    | succ k ih => unfold sureTo; rw [ih]; rfl
  have e2 : ∀ k, mayTo (dt D t) k = mayTo D k := fun k => by
    induction k with
    | zero => rfl
    | succ k ih => unfold mayTo; rw [ih]; rfl
  have e3 : okSet (dt D t) s = okSet D s := by unfold okSet; rw [e1, e2]
  rw [so_more, ← Bool.and_assoc, e3]
  rfl
theorem truths_more (D : Dat) (t : Told) : truthsL (dt D t) 0 = (truthsL D 0).filter fun x => sayB (G D x.1 x.2) t := by
  unfold truthsL nearsTo
  rw [List.filter_flatMap]
  congr 1
  funext i
  unfold setsTo
  rw [List.filter_map]
  congr 1
  rw [List.filter_filter]
  refine List.filter_congr fun s _ => ?_
  rw [truth_more, Bool.and_comm]
  rfl
theorem told_less {α : Type} (L : List α) (p q : α → Bool) (hne : (L.filter p).length ≠ 0) (h : toldF (L.countP q) L.length ≠ 0) :
    toldF ((L.filter p).countP q) (L.filter p).length = toldF (L.countP q) L.length := by
  unfold toldF at h ⊢
  by_cases h1 : L.countP q = L.length
  · have h2 : (L.filter p).countP q = (L.filter p).length := by
      rw [List.countP_eq_length] at h1 ⊢
      exact fun a ha => h1 a (List.mem_filter.1 ha).1
    rw [h1, h2]; simp
  · by_cases h0 : L.countP q = 0
    · have h2 : (L.filter p).countP q = 0 := by
        rw [List.countP_eq_zero] at h0 ⊢
        exact fun a ha => h0 a (List.mem_filter.1 ha).1
      have hl : L.length ≠ 0 := fun e => h1 (h0.trans e.symm)
      rw [h0, h2]
      have n1 : ¬ (((0 : Nat) : Int) = (L.length : Int)) := by omega
      have n2 : ¬ (((0 : Nat) : Int) = ((L.filter p).length : Int)) := by omega
      rw [if_neg n1, if_neg n2]
    · rw [if_neg (by omega), if_neg (by omega)] at h
      exact absurd rfl h
theorem more_span {D : Dat} {t : Told} (e0 : enterE D [] = 0) (e1 : enterE (dt D t) [] = 0) (F : Int → (Nat → Int) → Int) :
    (spanF D F).1 ≤ (spanF (dt D t) F).1 ∧ (spanF (dt D t) F).2 ≤ (spanF D F).2 := by
  have hne : truthsL D 0 ≠ [] := fun x => by have := (enterE_ok e0).2.2.2.1; rw [x] at this; simp at this
  have hne1 : truthsL (dt D t) 0 ≠ [] := fun x => by have := (enterE_ok e1).2.2.2.1; rw [x] at this; simp at this
  have n0 : valsL D F (truthsL D 0) ≠ [] := fun x => hne (List.map_eq_nil_iff.1 x)
  have n1 : valsL (dt D t) F (truthsL (dt D t) 0) ≠ [] := fun x => hne1 (List.map_eq_nil_iff.1 x)
  have sub : ∀ y ∈ valsL (dt D t) F (truthsL (dt D t) 0), y ∈ valsL D F (truthsL D 0) := fun y hy => by
    obtain ⟨x, hx, rfl⟩ := mem_valsL hy
    rw [truths_more] at hx
    exact valsL_mem F (List.mem_filter.1 hx).1
  unfold spanF
  rw [if_pos e0, if_pos e1]
  exact ⟨(minL_spec n0).2 _ (sub _ (minL_spec n1).1), (maxL_spec n0).2 _ (sub _ (maxL_spec n1).1)⟩
theorem more_cnt {D : Dat} {t : Told} (e1 : enterE (dt D t) [] = 0) (Q : (Nat → Int) → Bool) (h : toldF (cnt D Q (truthsL D 0)) (truthsL D 0).length ≠ 0) :
    toldF (cnt D Q (truthsL D 0)) (truthsL D 0).length = toldF (cnt (dt D t) Q (truthsL (dt D t) 0)) (truthsL (dt D t) 0).length := by
  have hne1 : (truthsL (dt D t) 0).length ≠ 0 := fun x => by have := (enterE_ok e1).2.2.2.1; rw [List.length_eq_zero_iff.1 x] at this; simp at this
  rw [truths_more] at hne1 ⊢
  exact (told_less _ _ _ hne1 h).symm
theorem more_is {D : Dat} {t : Told} (e0 : enterE D [] = 0) (e1 : enterE (dt D t) [] = 0) {q : Nat} (hq : q < D.spots.length) :
    (isF D q).2 = 0 ∧ (isF (dt D t) q).2 = 0 ∧ ((isF D q).1 ≠ 0 → (isF D q).1 = (isF (dt D t) q).1) := by
  rw [is_val e0 hq, is_val e1 (show q < (dt D t).spots.length from hq)]
  exact ⟨rfl, rfl, fun h => more_cnt e1 _ h⟩
theorem more_one {D : Dat} {t : Told} (e0 : enterE D [] = 0) (e1 : enterE (dt D t) [] = 0) {q r : Nat} (hq : q < D.spots.length) (hr : r < q) :
    (oneF D q r).2 = 0 ∧ (oneF (dt D t) q r).2 = 0 ∧ ((oneF D q r).1 ≠ 0 → (oneF D q r).1 = (oneF (dt D t) q r).1) := by
  have hr2 : r < D.spots.length := by omega
  rw [one_val e0 hq hr2 (by omega), one_val e1 (show q < (dt D t).spots.length from hq) hr2 (by omega)]
  exact ⟨rfl, rfl, fun h => more_cnt e1 _ h⟩
end Go.Proofs.Ytemeapfnfegkiaa.D
end
section
/- Package disk: one dot more. -/
namespace Go.Proofs.Ytemeapfnfegkiaa.D
open Go Go.RowKit Go.Proofs.YtemeapfnfegkiaaK Go.Proofs.YtemeapfnfegkiaaW.PrintWords Go.Proofs.YtemeapfnfegkiaaW.PrintLast Go.Proofs.YtemeapfnfegkiaaW.PrintMore Go.Proofs.Ytemeapfnfegkiaa.PR
set_option linter.unusedVariables false
set_option linter.unusedSimpArgs false

abbrev shP (D : Dat) (A4 : Option Addr) (c4 : Nat) (A5 : Option Addr) (c5 : Nat) : Array Value := #[.string D.nm, .int .i64 D.rad, .int .i64 D.lo, .int .i64 D.hi, .slice A4 D.spots.length c4, .slice A5 D.told.length c5]
end Go.Proofs.Ytemeapfnfegkiaa.D
end
section
/- General lemmas of this session's own: rows of any plain kind that are copied by append. -/
namespace Go.Proofs.YtemeapfnfegkiaaK
open Go Go.RowKit Go.Proofs.YtemeapfnfegkiaaW.PrintWords Go.Proofs.YtemeapfnfegkiaaW.PrintLast Go.Proofs.YtemeapfnfegkiaaW.PrintMore
set_option linter.unusedVariables false
set_option linter.unusedSimpArgs false
variable {P : Program}

theorem flat_at {α : Type} (enc : α → List Value) {sz : Nat} (hl : ∀ x, (enc x).length = sz) : ∀ (xs : List α), (xs.flatMap enc).length = xs.length * sz ∧
    ∀ j u, (xs.flatMap enc)[j]? = some u → ∃ p i, xs[j / sz]? = some p ∧ (enc p)[i]? = some u ∧ i < sz ∧ j = j / sz * sz + i
  | [] => ⟨by simp, fun j u h => by simp at h⟩
  | x :: xs => by
    obtain ⟨h1, h2⟩ := flat_at enc hl xs
    refine ⟨by rw [List.flatMap_cons, List.length_append, h1, hl, List.length_cons, Nat.succ_mul]; omega, fun j u h => ?_⟩
    rw [List.flatMap_cons] at h
    by_cases hj : j < sz
    · rw [List.getElem?_append_left (by rw [hl]; exact hj)] at h
      have hd : j / sz = 0 := Nat.div_eq_of_lt hj
      exact ⟨x, j, by rw [hd]; rfl, h, hj, by rw [hd]; omega⟩
    · have hsz : 0 < sz := by
        rcases Nat.eq_zero_or_pos sz with e | e
        · subst e
          have h0 : (xs.flatMap enc).length = 0 := by rw [h1, Nat.mul_zero]
          rw [List.getElem?_append_right (by rw [hl]; omega), List.eq_nil_of_length_eq_zero h0] at h
          simp at h
        · exact e
      rw [List.getElem?_append_right (by rw [hl]; omega), hl] at h
      obtain ⟨p, i, a1, a2, a3, a4⟩ := h2 (j - sz) u h
      have hd : j / sz = (j - sz) / sz + 1 := by
        rw [Nat.div_eq_sub_div hsz (by omega)]
      exact ⟨p, i, by rw [hd]; simpa using a1, a2, a3, by rw [hd, Nat.succ_mul]; omega⟩

theorem C_news {α : Type} {d : Kd α} {enc : α → List Value} (hK : ∀ (w : World) x cs, d.K w x cs → cs = enc x) (hl : ∀ x, (enc x).length = d.sz) {w : World} {A : Option Addr} {xs : List α} (h : Kd.C d w A xs.length xs) {ad : Addr} (hA : A = some ad) :
    ∀ j u, (xs.flatMap enc)[j]? = some u → w.cell? (ad.add j) = some u := by
  intro j u hj
  obtain ⟨p, i, h1, h2, h3, h4⟩ := (flat_at enc hl xs).2 j u hj
  have hpos : 0 < xs.length := by
    have := (List.getElem?_eq_some_iff.1 h1).1
    exact Nat.lt_of_le_of_lt (Nat.zero_le _) this
  obtain ⟨ad', e, hc⟩ := h.2.2 hpos
  rw [hA] at e
  cases e
  obtain ⟨cs, hs, hk, hcell⟩ := hc _ p h1
  rw [hK w p cs hk] at hcell
  rw [h4]
  exact hcell i u h2
theorem C_some {α : Type} {d : Kd α} {w : World} {A : Option Addr} {xs : List α} (h : Kd.C d w A xs.length xs) (h0 : A = none) : xs = [] := by
  by_cases hp : 0 < xs.length
  · obtain ⟨ad, e, _⟩ := h.2.2 hp
    rw [h0] at e; cases e
  · exact List.eq_nil_of_length_eq_zero (by omega)

theorem append_row {α : Type} {d : Kd α} {enc : α → List Value} (hK : ∀ (w : World) x cs, d.K w x cs → cs = enc x) (hl : ∀ x, (enc x).length = d.sz) (h1 : ∀ x, ∀ u ∈ enc x, u.oneCell' = true) {w : World} {base e t ty : Nat} {i : TypeInfo} {z : Value} {bytes : Nat}
    (ht : P.underlying t = some (.slice e)) (hi : P.info? e = some i) (hz : i.zero = some z) (hsize : i.size = d.sz) (hby : i.bytes = bytes) (hzs : z.cells.size = d.sz) (hsz : 0 < d.sz) (hb : 0 < bytes)
    {v : Value} {ys : List α} (hown : w.ownsRow base e d.sz v ys.length (ys.flatMap enc)) {A : Option Addr} {c : Nat} {xs : List α} (h : Kd.C d w A xs.length xs) (hn : (ys.length + xs.length) * bytes ≤ 140737488355328) (hbase : base ≤ w.heap.size)
    (hno : A = none → (Builtin.append_ #[t, t] ty #[v, .slice none xs.length c]).run P w = .ok v w) :
    ∃ v' w', (Builtin.append_ #[t, t] ty #[v, .slice A xs.length c]).run P w = .ok v' w' ∧ w'.ownsRow base e d.sz v' (ys ++ xs).length ((ys ++ xs).flatMap enc) ∧ w.grownBy w' v.ownBlock ∧ (v'.ownBlock = v.ownBlock ∨ v'.ownBlock = some w.heap.size) := by
  cases A with
  | none =>
    have hx := C_some h rfl
    refine ⟨v, w, hno rfl, ?_, ⟨rfl, rfl, rfl, Nat.le_refl _, fun _ _ _ => rfl⟩, .inl rfl⟩
    subst hx
    rw [List.append_nil]
    exact hown
  | some ad =>
    obtain ⟨v', w', hr, ho, hg, _, hb'⟩ := run_append_own_at (P := P) w base t ty e i z d.sz bytes ht hi hz hsize hby hzs hsz v ys.length _ hown ad xs.length c (xs.flatMap enc) (flat_at enc hl xs).1 (C_news hK hl h rfl)
      (fun u hu => by obtain ⟨x, _, hx⟩ := List.mem_flatMap.1 hu; exact h1 x u hx) (by have := Nat.le_mul_of_pos_right (ys.length + xs.length) hb; simp only [maxLen]; omega) (by exact hn) hbase
    exact ⟨v', w', hr, by rw [List.length_append, List.flatMap_append]; exact ho, hg, hb'⟩
theorem row_read {α : Type} {d : Kd α} {enc : α → List Value} (hM : ∀ (w : World) x, d.K w x (enc x)) (hl : ∀ x, (enc x).length = d.sz) {w : World} {base e : Nat} {v : Value} {xs : List α} (h : w.ownsRow base e d.sz v xs.length (xs.flatMap enc)) (hn : xs.length ≤ 9223372036854775807) :
    ∃ A c, v = .slice A xs.length c ∧ xs.length ≤ c ∧ Kd.C d w A xs.length xs := by
  rcases h.2 with ⟨rfl, h0⟩ | ⟨g, cap, cur, rfl, hb, hg, hcap, hm, hs, ht⟩
  · have : xs = [] := List.eq_nil_of_length_eq_zero h0
    subst this
    exact ⟨none, 0, rfl, Nat.le_refl _, rfl, by simp, fun h => absurd h (by simp)⟩
  · refine ⟨_, cap, rfl, hcap, rfl, hn, fun _ => ⟨_, rfl, fun j p hj => ⟨enc p, hl p, hM w p, fun i u hu => ?_⟩⟩⟩
    have hadd : (⟨g, 0, none⟩ : Addr).add (j * d.sz + i) = ⟨g, j * d.sz + i, none⟩ := by unfold Addr.add; split <;> simp_all
    rw [hadd, cell_of_row w g _ cur e (0, 0) hg]
    have hjl := (List.getElem?_eq_some_iff.1 hj).1
    have hil : i < d.sz := by rw [← hl p]; exact (List.getElem?_eq_some_iff.1 hu).1
    have key : ∀ (xs : List α) (j : Nat), xs[j]? = some p → (xs.flatMap enc)[j * d.sz + i]? = some u := by
      intro xs
      induction xs with
      | nil => intro j hj; simp at hj
      | cons x xs ih =>
        intro j hj
        rw [List.flatMap_cons]
        cases j with
        | zero =>
          simp at hj
          subst hj
          rw [Nat.zero_mul, Nat.zero_add, List.getElem?_append_left (by rw [hl]; exact hil)]
          exact hu
        | succ j =>
          rw [List.getElem?_append_right (by rw [hl, Nat.succ_mul]; omega), hl, Nat.succ_mul]
          have := ih j (by simpa using hj)
          rw [← this]; congr 1; omega
    have hk := key xs j hj
    have hlt : j * d.sz + i < xs.length * d.sz := by
      have : (j + 1) * d.sz ≤ xs.length * d.sz := Nat.mul_le_mul_right _ hjl
      rw [Nat.succ_mul] at this; omega
    rw [← ht, List.getElem?_take_of_lt hlt] at hk
    rw [← Array.getElem?_toList]; exact hk
theorem append_none {w : World} {t ty e : TypeId} {i : TypeInfo} {z : Value} (ht : P.underlying t = some (.slice e)) (hi : P.info? e = some i) (g m c c' : Nat) (h : m ≤ c) :
    (Builtin.append_ #[t, t] ty #[.slice (some ⟨g, 0, none⟩) m c, .slice none 0 c']).run P w = .ok (.slice (some ⟨g, 0, none⟩) m c) w := by
  simp [Builtin.append_, run_underlying ht, sizeOf, typeInfo, hi, Builtin.lenOf, Builtin.firstCells, loadCells, loadCellsFrom, h, storeCells]

theorem step_run {ops : Array Oper} {o : Oper} {a : Act} {w : World} {K : Act → World → Prop} {Q : Exit → Act → World → Prop} {E : Prop} (hgd : o.guard = none) (s x : Operand) (t : TypeId)
    (ho : o.op = .call { callee := .builtin .append, args := #[s, x], argTypes := #[t, t] }) {v u : Value} (hs : a.eval s = v) (hx : a.eval x = u) {R : Value → World → Prop}
    (hrun : ∃ v' w', (Builtin.append_ #[t, t] o.type #[v, u]).run P w = .ok v' w' ∧ R v' w')
    (h : ∀ v' w', R v' w' → K (a.put o.dst v') w') : if Region.wanted o (yielded ops a.tmps) = true then Oper.wp P o a w K Q else E := by
  have hw : Region.wanted o (yielded ops a.tmps) = true := by simp [Region.wanted, hgd]
  rw [if_pos hw]
  obtain ⟨v', w', hr, h2⟩ := hrun
  unfold Oper.wp execOp
  simp only [ho, resolve, invoke, builtin, Sem.run_bind, Sem.run_pure, Result.andThen_ok, List.map_toArray, List.map_cons, List.map_nil, hs, hx, hr]
  exact h v' w' h2
def midQ (R : Act → World → Prop) : Exit → Act → World → Prop
  | .normal, a, w => R a w
  | _, _, _ => False
theorem region_mid {id : Nat} {ops : Array Oper} {b : Bool} {Q : Exit → Act → World → Prop} {a : Act} {w : World} {X : Type} (F : X → Act → Act) (S : X → World → Prop)
    (h : (Code.region id ops b).wp P (midQ fun a' w' => ∃ x, a' = F x a ∧ S x w') a w) (hk : ∀ x w', S x w' → Q .normal (F x a) w') : (Code.region id ops b).wp P Q a w :=
  Code.wp_mono (fun e a' w' h => by
    cases e <;> first | exact (h : False).elim | skip
    obtain ⟨x, rfl, hs⟩ := (h : ∃ x, a' = F x a ∧ S x w')
    exact hk x w' hs) h
theorem own_new0 {w : World} {base e sz : Nat} (hb : base ≤ w.heap.size) : (w.alloc (.cells #[] e)).ownsRow base e sz (.slice (some ⟨w.heap.size, 0, none⟩) 0 0) 0 [] :=
  World.ownsRow_lit w #[] 0 hb (by decide) (by simp)
theorem own_far {w : World} {base e sz n : Nat} {v : Value} {xs : List Value} (h : w.ownsRow base e sz v n xs) {p : Addr} (hp : p.block < base) (u : Value) : (w.setCell p u).ownsRow base e sz v n xs := by
  refine ⟨h.1, ?_⟩
  rcases h.2 with hn | ⟨g, cap, cur, rfl, hb, hg, rest⟩
  · exact .inl hn
  · exact .inr ⟨g, cap, cur, rfl, hb, (Below.heap_setCell w p u g (by omega)).trans hg, rest⟩
end Go.Proofs.YtemeapfnfegkiaaK
end
section
/- Package disk: rows of dots and of what was told, copied by append. -/
namespace Go.Proofs.Ytemeapfnfegkiaa.D
open Go Go.RowKit Go.Proofs.YtemeapfnfegkiaaK Go.Proofs.YtemeapfnfegkiaaW.PrintWords Go.Proofs.YtemeapfnfegkiaaW.PrintLast Go.Proofs.YtemeapfnfegkiaaW.PrintMore Go.Proofs.Ytemeapfnfegkiaa.PR
set_option linter.unusedVariables false
set_option linter.unusedSimpArgs false
def encD (x : Told) : List Value := [.int .i64 x.f0, .int .i64 x.f1, .bool x.f2]
theorem infoE (t : TypeId) (h : (Try.prog.info? t).map (fun i => (i.zero, i.size, i.bytes)) = some (some (.agg #[(.int .i64 0), (.int .i64 0), (.bool false)]), 3, 24)) : ∃ i, Try.prog.info? t = some i ∧ i.zero = some (.agg #[(.int .i64 0), (.int .i64 0), (.bool false)]) ∧ i.size = 3 ∧ i.bytes = 24 := by
  cases hi : Try.prog.info? t with
  | none => rw [hi] at h; cases h
  | some i => rw [hi] at h; simp at h; exact ⟨i, rfl, h.1, h.2.1, h.2.2⟩
theorem infoD : ∃ i, Try.prog.info? 52 = some i ∧ i.zero = some (.agg #[(.int .i64 0), (.int .i64 0), (.bool false)]) ∧ i.size = 3 ∧ i.bytes = 24 := infoE _ (by kernel_rfl)
theorem encD_one (x : Told) : ∀ u ∈ encD x, u.oneCell' = true := by simp [encD, Value.oneCell']
theorem own_form {w : World} {base e sz n k : Nat} {v : Value} {cs : List Value} (h : w.ownsRow base e sz v n cs) (hk : v.ownBlock = some k) : ∃ c, v = .slice (some ⟨k, 0, none⟩) n c := by
  rcases h.2 with ⟨rfl, _⟩ | ⟨g, cap, cur, rfl, _⟩
  · simp [Value.ownBlock] at hk
  · simp [Value.ownBlock] at hk
    subst hk
    exact ⟨_, rfl⟩
theorem append_tolds {w : World} {base ty g m c0 k0 : Nat} {ys : List Told} (hm : m = ys.length) (hown : w.ownsRow base 52 3 (.slice (some ⟨g, 0, none⟩) m c0) ys.length (ys.flatMap encD)) {A : Option Addr} {c n : Nat} {xs : List Told} (hx : n = xs.length)
    (h : Kd.C k52 w A xs.length xs) (hk0 : k0 = ys.length + xs.length) (hn : (ys.length + xs.length) * 24 ≤ 140737488355328) (hbase : base ≤ w.heap.size) :
    ∃ g' c' w', (Builtin.append_ #[25, 25] ty #[.slice (some ⟨g, 0, none⟩) m c0, .slice A n c]).run Try.prog w = .ok (.slice (some ⟨g', 0, none⟩) k0 c') w' ∧ base ≤ g' ∧ w'.ownsRow base 52 3 (.slice (some ⟨g', 0, none⟩) k0 c') (ys ++ xs).length ((ys ++ xs).flatMap encD) ∧ Below base w w' ∧ w.grownBy w' (some g) := by
  subst hm hx hk0
  obtain ⟨i, hi, hz, hs, hb⟩ := infoD
  obtain ⟨v', w', hr, ho, hg, hb'⟩ := append_row (ty := ty) (d := k52) (enc := encD) (fun w x cs hK => k52_open hK) (fun _ => rfl) encD_one Try.underlying25 hi hz hs hb rfl (by decide) (by decide) hown h hn hbase (fun hA => by
    have hx0 := C_some h hA
    have hle := own_le hown
    rw [hx0]
    exact append_none (z := .bool false) Try.underlying25 hi g _ c0 c hle)
  obtain ⟨k, hk⟩ : ∃ k, v'.ownBlock = some k := by rcases hb' with e | e <;> exact ⟨_, e⟩
  obtain ⟨c', rfl⟩ := own_form ho hk
  rw [List.length_append] at hr ho
  refine ⟨k, c', w', hr, own_base ho k rfl, by rw [List.length_append]; exact ho, (Below.refl base w).grown hg hbase (fun k' e => own_base hown k' e), hg⟩
theorem step_tolds {ops : Array Oper} {o : Oper} {a : Act} {W : World} {K : Act → World → Prop} {Q : Exit → Act → World → Prop} {E : Prop} {base g m c0 c n k0 : Nat} {A : Option Addr} {ys xs : List Told} (hgd : o.guard = none) (s x : Operand)
    (ho : o.op = .call { callee := .builtin .append, args := #[s, x], argTypes := #[25, 25] }) (hs : a.eval s = .slice (some ⟨g, 0, none⟩) m c0) (hx : a.eval x = .slice A n c) (hm : m = ys.length) (hn : n = xs.length) (hk0 : k0 = ys.length + xs.length)
    (hown : W.ownsRow base 52 3 (.slice (some ⟨g, 0, none⟩) m c0) ys.length (ys.flatMap encD)) (hC : Kd.C k52 W A xs.length xs) (hl : (ys.length + xs.length) * 24 ≤ 140737488355328) (hb : base ≤ W.heap.size)
    (hk : ∀ g' c' w', base ≤ g' → w'.ownsRow base 52 3 (.slice (some ⟨g', 0, none⟩) k0 c') (ys ++ xs).length ((ys ++ xs).flatMap encD) → Below base W w' → W.grownBy w' (some g) → K (a.put o.dst (.slice (some ⟨g', 0, none⟩) k0 c')) w') :
    if Region.wanted o (yielded ops a.tmps) = true then Oper.wp Try.prog o a W K Q else E := by
  obtain ⟨g', c', w', hr, h1, h2, h3, h4⟩ := append_tolds (ty := o.type) hm hown hn hC hk0 hl hb
  exact step_run (R := fun v' w'' => v' = .slice (some ⟨g', 0, none⟩) k0 c' ∧ w'' = w') hgd s x 25 ho hs hx ⟨_, _, hr, rfl, rfl⟩ (fun v' w'' ⟨e1, e2⟩ => by subst e1 e2; exact hk g' c' _ h1 h2 h3 h4)
theorem tolds_read {w : World} {base : Nat} {v : Value} {xs : List Told} (h : w.ownsRow base 52 3 v xs.length (xs.flatMap encD)) (hn : xs.length ≤ 9223372036854775807) : ∃ A c, v = .slice A xs.length c ∧ xs.length ≤ c ∧ Kd.C k52 w A xs.length xs :=
  row_read (d := k52) (enc := encD) (fun w x => k52_mk w x) (fun _ => rfl) h hn
theorem C_one_told {w : World} {g : Nat} (x : Told) (h : w.heap[g]? = some (.cells #[.int .i64 x.f0, .int .i64 x.f1, .bool x.f2] 52 (0, 0))) : Kd.C k52 w (some ⟨g, 0, none⟩) [x].length [x] := by
  refine ⟨rfl, by simp, fun _ => ⟨_, rfl, fun j p hj => ?_⟩⟩
  have hj5 : j < 1 := (List.getElem?_eq_some_iff.1 hj).1
  obtain rfl : j = 0 := by omega
  cases hj; refine ⟨_, rfl, k52_mk w _, fun i u hu => ?_⟩
  have hi := (List.getElem?_eq_some_iff.1 hu).1; simp at hi; have hh : i = 0 ∨ i = 1 ∨ i = 2 := by omega
  rcases hh with rfl | rfl | rfl <;> cases hu <;> exact cell3 h _ rfl
theorem own_new1 {w : World} {base e sz n : Nat} (hn : w.heap.size = n) (hb : base ≤ n) : (w.alloc (.cells #[] e)).ownsRow base e sz (.slice (some ⟨n, 0, none⟩) 0 0) 0 [] := by
  subst hn; exact own_new0 hb
end Go.Proofs.Ytemeapfnfegkiaa.D
end
section
/- Package disk: DiskMore. -/
namespace Go.Proofs.Ytemeapfnfegkiaa.D
open Go Go.RowKit Go.Proofs.YtemeapfnfegkiaaK Go.Proofs.YtemeapfnfegkiaaW.PrintWords Go.Proofs.YtemeapfnfegkiaaW.PrintLast Go.Proofs.YtemeapfnfegkiaaW.PrintMore Go.Proofs.Ytemeapfnfegkiaa.PR
set_option linter.unusedVariables false
set_option linter.unusedSimpArgs false

set_option maxRecDepth 100000 in
set_option maxHeartbeats 8000000 in
theorem DiskMore_calls (D : Dat) (A4 : Option Addr) (c4 : Nat) (A5 : Option Addr) (c5 : Nat) (d : Told) (w : World) (h : Arg w D A4 c4 A5 c5) (hz : D.spots.length * 24 ≤ 140737488351232 ∧ D.told.length * 24 ≤ 140737488351232) :
    Calls Try.prog 11 #[.agg #[.string D.nm, .int .i64 D.rad, .int .i64 D.lo, .int .i64 D.hi, .slice A4 D.spots.length c4, .slice A5 D.told.length c5], .agg #[.int .i64 d.f0, .int .i64 d.f1, .bool d.f2]] w
      fun e w' => e = .returned (.bool true) ∧ Below w.heap.size w w' := by
  have hb1 := below_alloc (below_alloc (below_alloc (Below.refl w.heap.size w) (.cells (shP D A4 c4 A5 c5) 27)) (.cells #[.int .i64 d.f0, .int .i64 d.f1, .bool d.f2] 52)) (.cells (shP D A4 c4 A5 c5) 27)
  have HB := Aside0.mk hb1
  have HA := Aside0.mk h
  have HZ := Aside0.mk hz
  clear h hz hb1
  obtain ⟨q, hq⟩ : ∃ q, w.heap.size = q := ⟨_, rfl⟩
  go_enter Try.func11, Try.ntmps11
  go_upto_region 2 with (fail)
  have HS := Aside0.mk (blk_alloc (blk_alloc (blk_new w (.cells (shP D A4 c4 A5 c5) 27)) (.cells #[.int .i64 d.f0, .int .i64 d.f1, .bool d.f2] 52)) (.cells (shP D A4 c4 A5 c5) 27))
  have HX := Aside0.mk (blk_alloc (new_at (W := w.alloc (.cells (shP D A4 c4 A5 c5) 27)) (n := w.heap.size + 1) (by simp) (.cells #[.int .i64 d.f0, .int .i64 d.f1, .bool d.f2] 52)) (.cells (shP D A4 c4 A5 c5) 27))
  have HM := Aside0.mk (new_at (W := (w.alloc (.cells (shP D A4 c4 A5 c5) 27)).alloc (.cells #[.int .i64 d.f0, .int .i64 d.f1, .bool d.f2] 52)) (n := w.heap.size + 1 + 1) (by simp) (.cells (shP D A4 c4 A5 c5) 27))
  have hws : (((w.alloc (.cells (shP D A4 c4 A5 c5) 27)).alloc (.cells #[.int .i64 d.f0, .int .i64 d.f1, .bool d.f2] 52)).alloc (.cells (shP D A4 c4 A5 c5) 27)).heap.size = w.heap.size + 3 := by simp
  generalize ((w.alloc (.cells (shP D A4 c4 A5 c5) 27)).alloc (.cells #[.int .i64 d.f0, .int .i64 d.f1, .bool d.f2] 52)).alloc (.cells (shP D A4 c4 A5 c5) 27) = w1 at HB HS HX HM hws ⊢
  rw [hq] at HS HX HM
  have HWS := Aside0.mk (hws.trans (by rw [hq]))
  have HQ := Aside0.mk hq
  clear hws hq
  have hk0 : Below w1.heap.size w1 w1.drew := below_drew1 (Below.refl _ _)
  have k4 : w1.drew.cell? ⟨q, 5, none⟩ = some (.slice A5 D.told.length c5) := (blk_cell HS.out 5).trans rfl
  have x0 : w1.drew.cell? ⟨q + 1, 0, none⟩ = some (.int .i64 d.f0) := (blk_cell HX.out 0).trans rfl
  have x1 : w1.drew.cell? ⟨q + 1, 1, none⟩ = some (.int .i64 d.f1) := (blk_cell HX.out 1).trans rfl
  have x2 : w1.drew.cell? ⟨q + 1, 2, none⟩ = some (.bool d.f2) := (blk_cell HX.out 2).trans rfl
  have HA1 := Aside0.mk (HA.out.below HB.out)
  have hln : D.told.length * 24 ≤ 140737488351232 := HZ.out.2
  refine region_mid (X := Nat × Nat × Nat × Nat × Nat × Nat) (fun x a => ((((((((a.put (some 27) (.slice (some ⟨x.1, 0, none⟩) 0 0)).put (some 28) (.pointer (some ⟨q, 5, none⟩))).put (some 29) (.slice A5 D.told.length c5)).put (some 30) (.slice (some ⟨x.2.1, 0, none⟩) D.told.length x.2.2.1)).put (some 31) (.agg #[.int .i64 d.f0, .int .i64 d.f1, .bool d.f2])).put (some 32) (.slice (some ⟨x.2.2.2.1, 0, none⟩) 1 1)).put (some 33) (.slice (some ⟨x.2.2.2.2.1, 0, none⟩) (D.told.length + 1) x.2.2.2.2.2)).put (some 34) (.pointer (some ⟨q + 1 + 1, 5, none⟩))))
      (fun x w' => ∃ w0, w' = w0.setCell ⟨q + 1 + 1, 5, none⟩ (.slice (some ⟨x.2.2.2.2.1, 0, none⟩) (D.told.length + 1) x.2.2.2.2.2) ∧ Below w1.heap.size w1 w0 ∧ w0.ownsRow w1.heap.size 52 3 (.slice (some ⟨x.2.2.2.2.1, 0, none⟩) (D.told.length + 1) x.2.2.2.2.2) (D.told ++ [d]).length ((D.told ++ [d]).flatMap encD)) ?_ ?_
  · go_region_held3 (fun w' => w'.cell? ⟨q, 5, none⟩ = some (.slice A5 D.told.length c5) ∧ w'.cell? ⟨q + 1, 0, none⟩ = some (.int .i64 d.f0) ∧ w'.cell? ⟨q + 1, 1, none⟩ = some (.int .i64 d.f1) ∧ w'.cell? ⟨q + 1, 2, none⟩ = some (.bool d.f2))
        (first | (refine ⟨(blk_cell (blk_far (p := ⟨q + 1 + 1, 5, none⟩) (blk_below HS.out hz31) (show q ≠ q + 1 + 1 by omega) _) 5).trans rfl, (blk_cell (blk_far (p := ⟨q + 1 + 1, 5, none⟩) (blk_below HX.out hz31) (show q + 1 ≠ q + 1 + 1 by omega) _) 0).trans rfl, (blk_cell (blk_far (p := ⟨q + 1 + 1, 5, none⟩) (blk_below HX.out hz31) (show q + 1 ≠ q + 1 + 1 by omega) _) 1).trans rfl, (blk_cell (blk_far (p := ⟨q + 1 + 1, 5, none⟩) (blk_below HX.out hz31) (show q + 1 ≠ q + 1 + 1 by omega) _) 2).trans rfl⟩) | (refine ⟨(blk_cell (blk_below HS.out (by repeat (first | assumption | exact Below.refl _ _ | apply below_alloc | apply below_drew1))) 5).trans rfl, (blk_cell (blk_below HX.out (by repeat (first | assumption | exact Below.refl _ _ | apply below_alloc | apply below_drew1))) 0).trans rfl, (blk_cell (blk_below HX.out (by repeat (first | assumption | exact Below.refl _ _ | apply below_alloc | apply below_drew1))) 1).trans rfl, (blk_cell (blk_below HX.out (by repeat (first | assumption | exact Below.refl _ _ | apply below_alloc | apply below_drew1))) 2).trans rfl⟩))
        (first
          | (refine step_tolds (base := w1.heap.size) (ys := []) (xs := D.told) (k0 := D.told.length) rfl (.tmp 27) (.tmp 29) rfl rfl rfl rfl rfl (by simp) (by first | exact pw_own_below (own_new0 (w := w1) (Nat.le_refl _)) (by repeat (first | assumption | exact Below.refl _ _ | apply below_alloc | apply below_drew1)) | exact pw_own_below (own_new1 (w := w1.alloc (.cells #[.int .i64 d.f0, .int .i64 d.f1, .bool d.f2] 52)) (n := w1.heap.size + 1) (by simp) (by omega)) (by repeat (first | assumption | exact Below.refl _ _ | apply below_alloc | apply below_drew1))) (Kd.C_below HA1.out.t (by repeat (first | assumption | exact Below.refl _ _ | apply below_alloc | apply below_drew1))) (by simp; omega) (Below.size (by repeat (first | assumption | exact Below.refl _ _ | apply below_alloc | apply below_drew1))) ?_
             intro g28 c28 w5 hg28 ho28 hz28 hr28
             replace hz28 := Below.trans (show Below w1.heap.size w1 _ from by repeat (first | assumption | exact Below.refl _ _ | apply below_alloc | apply below_drew1)) hz28)
          | (refine step_tolds (base := w1.heap.size) (ys := D.told) (xs := [d]) (n := 1) (k0 := D.told.length + 1) rfl (.tmp 30) (.tmp 32) rfl rfl rfl rfl rfl (by simp) (by first | exact ho28 | exact pw_own_below ho28 (by repeat (first | assumption | exact Below.refl _ _ | apply below_alloc | apply below_drew1))) (by first | exact C_one_told d (blk_new _ _) | exact C_one_told d ((hr28.block _ (by simp <;> omega) (by simp <;> omega)).trans (new_at (W := w1.alloc (.cells #[] 52)) (n := w1.heap.size + 1) (by simp) _)) | exact C_one_told d ((hr28.block _ (by simp <;> omega) (by simp <;> omega)).trans (blk_alloc (blk_new w1 _) _))) (by simp; omega) (Below.size (by repeat (first | assumption | exact Below.refl _ _ | apply below_alloc | apply below_drew1))) ?_
             intro g31 c31 w6 hg31 ho31 hz31 hr31
             replace hz31 := Below.trans (show Below w1.heap.size w1 _ from by repeat (first | assumption | exact Below.refl _ _ | apply below_alloc | apply below_drew1)) hz31
             have n31 := blk_below HM.out hz31
             have m4 := (blk_cell n31 5).trans rfl
             have f4 := blk_frozen n31 5
             have m31 := blk_lt n31
             clear n31))
    all_goals exact ⟨(_, _, _, _, _, _), rfl, _, rfl, hz31, ho31⟩
  · rintro ⟨g25, g28, c28, g30, g31, c31⟩ w' ⟨w0, rfl, hz0, ho31⟩
    simp only at ho31
    have hbase : w1.heap.size = q + 3 := HWS.out
    obtain ⟨A6, c6, e6, hc6, hR6⟩ := tolds_read (own_far ho31 (p := ⟨q + 1 + 1, 5, none⟩) (show q + 1 + 1 < w1.heap.size by omega) (.slice (some ⟨g31, 0, none⟩) (D.told.length + 1) c31)) (by simp; omega)
    have ee : ((.slice (some ⟨g31, 0, none⟩) (D.told.length + 1) c31) : Value) = .slice A6 (dt D d).told.length c6 := e6
    have n1 := blk_far (p := ⟨q + 1 + 1, 5, none⟩) (blk_below HS.out hz0) (show q ≠ q + 1 + 1 by omega) (.slice (some ⟨g31, 0, none⟩) (D.told.length + 1) c31)
    have n3 := blk_set (blk_below HM.out hz0) 5 (.slice (some ⟨g31, 0, none⟩) (D.told.length + 1) c31)
    have n4 : Below w.heap.size w (w0.setCell ⟨q + 1 + 1, 5, none⟩ (.slice (some ⟨g31, 0, none⟩) (D.told.length + 1) c31)) := below_set (HB.out.trans (hz0.mono HB.out.size)) (by rw [HQ.out]; omega)
    dsimp only
    rw [ee] at n1 n3 n4 hR6 ⊢
    clear e6 ee ho31 hz0 hbase HS HX HM HB HA1
    generalize w0.setCell ⟨q + 1 + 1, 5, none⟩ (.slice A6 (dt D d).told.length c6) = w2 at n1 n3 n4 hR6 ⊢
    have HS := Aside0.mk n1
    obtain ⟨D2, hD2⟩ : ∃ D2, D2 = dt D d := ⟨_, rfl⟩
    have HM : Aside0 (w2.heap[q + 1 + 1]? = some (.cells #[.string D2.nm, .int .i64 D2.rad, .int .i64 D2.lo, .int .i64 D2.hi, .slice A4 D2.spots.length c4, .slice A6 D2.told.length c6] 27 (0, 0))) := ⟨by rw [hD2]; exact n3⟩
    have HB := Aside0.mk n4
    have HA1 : Aside0 (Arg w2 D2 A4 c4 A6 c6) := ⟨by rw [hD2]; exact ⟨HA.out.nm, (HA.out.below n4).s, HA.out.sc, hR6, hc6⟩⟩
    have HD2 := Aside0.mk hD2
    have HLD : Aside0 (D2.spots.length = D.spots.length) := ⟨by rw [hD2]⟩
    clear n1 n3 n4 hR6 hc6 hD2
    clear hk0 k4 x0 x1 x2 hln HWS
    obtain ⟨K1, hK1⟩ := (rSome HA.out.fits).rounds
    obtain ⟨K2, hK2⟩ := (rSome HA1.out.fits).rounds
    have HK1 := Aside0.mk hK1
    have HK2 := Aside0.mk hK2
    clear hK1 hK2
    have k0 := (blk_cell HS.out 0).trans rfl
    have k1 := (blk_cell HS.out 1).trans rfl
    have k2 := (blk_cell HS.out 2).trans rfl
    have k3 := (blk_cell HS.out 3).trans rfl
    have k4 := (blk_cell HS.out 4).trans rfl
    have k5 := (blk_cell HS.out 5).trans rfl
    have kl := blk_lt HS.out
    go_wp2_with fail
    clear k0 k1 k2 k3 k4 k5 kl
    have hA := HA.out.below HB.out
    refine (helioscopelaw01_some.calls K1 D.nm D.rad D.lo D.hi A4 c4 D.spots A5 c5 D.told _ w2 hA.s hA.sc hA.t hA.tc HK1.out).mono ?_
    rintro e w3 ⟨rfl, hb⟩
    replace HA1 := Aside0.mk (HA1.out.below hb)
    replace HB := Aside0.mk (HB.out.trans (hb.mono HB.out.size))
    replace HS := Aside0.mk (blk_below HS.out hb)
    replace HM := Aside0.mk (blk_below HM.out hb)
    clear hb
    clear HK1 hA
    by_cases hc : enterE D [] = 0
    · rw [decide_eq_true hc]
      have E0 := Aside0.mk hc
      clear hc
      have k0 := (blk_cell HM.out 0).trans rfl
      have k1 := (blk_cell HM.out 1).trans rfl
      have k2 := (blk_cell HM.out 2).trans rfl
      have k3 := (blk_cell HM.out 3).trans rfl
      have k4 := (blk_cell HM.out 4).trans rfl
      have k5 := (blk_cell HM.out 5).trans rfl
      have kl := blk_lt HM.out
      go_wp2_with fail
      clear k0 k1 k2 k3 k4 k5 kl
      refine (helioscopelaw01_some.calls K2 D2.nm D2.rad D2.lo D2.hi A4 c4 D2.spots A6 c6 D2.told _ w3 HA1.out.s HA1.out.sc HA1.out.t HA1.out.tc HK2.out).mono ?_
      rintro e w4 ⟨rfl, hb⟩
      replace HA1 := Aside0.mk (HA1.out.below hb)
      replace HB := Aside0.mk (HB.out.trans (hb.mono HB.out.size))
      replace HS := Aside0.mk (blk_below HS.out hb)
      replace HM := Aside0.mk (blk_below HM.out hb)
      clear hb
      clear HK2
      by_cases hc2 : enterE D2 [] = 0
      · rw [decide_eq_true hc2]
        have E1 := Aside0.mk hc2
        clear hc2
        have l1 := more_span E0.out (by rw [← HD2.out]; exact E1.out) (fun _ g => manyF g)
        rw [← HD2.out] at l1
        obtain ⟨⟨a1, b1⟩, hs1⟩ : ∃ s, spanF D (fun _ g => manyF g) = s := ⟨_, rfl⟩
        obtain ⟨⟨x1, y1⟩, ht1⟩ : ∃ s, spanF D2 (fun _ g => manyF g) = s := ⟨_, rfl⟩
        rw [hs1, ht1] at l1
        have H1 := Aside0.mk hs1
        have G1 := Aside0.mk ht1
        have I1 : Aside0 (helioscopelaw01_within.f x1 y1 a1 b1 = some true) := ⟨by unfold helioscopelaw01_within.f; rw [if_pos l1.1]; simp [l1.2]⟩
        clear hs1 ht1 l1
        have l2 := more_span E0.out (by rw [← HD2.out]; exact E1.out) (fun _ g => spotsTo g 7)
        rw [← HD2.out] at l2
        obtain ⟨⟨a2, b2⟩, hs2⟩ : ∃ s, spanF D (fun _ g => spotsTo g 7) = s := ⟨_, rfl⟩
        obtain ⟨⟨x2, y2⟩, ht2⟩ : ∃ s, spanF D2 (fun _ g => spotsTo g 7) = s := ⟨_, rfl⟩
        rw [hs2, ht2] at l2
        have H2 := Aside0.mk hs2
        have G2 := Aside0.mk ht2
        have I2 : Aside0 (helioscopelaw01_within.f x2 y2 a2 b2 = some true) := ⟨by unfold helioscopelaw01_within.f; rw [if_pos l2.1]; simp [l2.2]⟩
        clear hs2 ht2 l2
        have l3 := more_span E0.out (by rw [← HD2.out]; exact E1.out) (fun _ g => 10 * manyF g + spotsTo g 7)
        rw [← HD2.out] at l3
        obtain ⟨⟨a3, b3⟩, hs3⟩ : ∃ s, spanF D (fun _ g => 10 * manyF g + spotsTo g 7) = s := ⟨_, rfl⟩
        obtain ⟨⟨x3, y3⟩, ht3⟩ : ∃ s, spanF D2 (fun _ g => 10 * manyF g + spotsTo g 7) = s := ⟨_, rfl⟩
        rw [hs3, ht3] at l3
        have H3 := Aside0.mk hs3
        have G3 := Aside0.mk ht3
        have I3 : Aside0 (helioscopelaw01_within.f x3 y3 a3 b3 = some true) := ⟨by unfold helioscopelaw01_within.f; rw [if_pos l3.1]; simp [l3.2]⟩
        clear hs3 ht3 l3
        have l4 := more_span E0.out (by rw [← HD2.out]; exact E1.out) (fun n _ => n)
        rw [← HD2.out] at l4
        obtain ⟨⟨a4, b4⟩, hs4⟩ : ∃ s, spanF D (fun n _ => n) = s := ⟨_, rfl⟩
        obtain ⟨⟨x4, y4⟩, ht4⟩ : ∃ s, spanF D2 (fun n _ => n) = s := ⟨_, rfl⟩
        rw [hs4, ht4] at l4
        have H4 := Aside0.mk hs4
        have G4 := Aside0.mk ht4
        have I4 : Aside0 (helioscopelaw01_within.f x4 y4 a4 b4 = some true) := ⟨by unfold helioscopelaw01_within.f; rw [if_pos l4.1]; simp [l4.2]⟩
        clear hs4 ht4 l4
        have k0 := (blk_cell HS.out 0).trans rfl
        have k1 := (blk_cell HS.out 1).trans rfl
        have k2 := (blk_cell HS.out 2).trans rfl
        have k3 := (blk_cell HS.out 3).trans rfl
        have k4 := (blk_cell HS.out 4).trans rfl
        have k5 := (blk_cell HS.out 5).trans rfl
        have kl := blk_lt HS.out
        go_wp2_with fail
        clear k0 k1 k2 k3 k4 k5 kl
        refine (Counts_calls D A4 c4 A5 c5 w4 (HA.out.below HB.out)).mono ?_
        rw [E0.out, H1.out, H2.out]
        rintro e w5 ⟨rfl, hb⟩
        replace HA1 := Aside0.mk (HA1.out.below hb)
        replace HB := Aside0.mk (HB.out.trans (hb.mono HB.out.size))
        replace HS := Aside0.mk (blk_below HS.out hb)
        replace HM := Aside0.mk (blk_below HM.out hb)
        clear hb
        go_upto_region 6 with (fail)
        have hb : Below w5.heap.size w5 ((w5.alloc (.cells #[.int .i64 a1, .int .i64 b1] 23)).alloc (.cells #[.int .i64 a2, .int .i64 b2] 23)) := (below_alloc (below_alloc (Below.refl _ _) _) _)
        have n0 : Aside0 (((w5.alloc (.cells #[.int .i64 a1, .int .i64 b1] 23)).alloc (.cells #[.int .i64 a2, .int .i64 b2] 23)).heap[w5.heap.size]? = some (.cells #[.int .i64 a1, .int .i64 b1] 23 (0, 0))) := ⟨blk_alloc (blk_new _ _) _⟩
        have n1 : Aside0 (((w5.alloc (.cells #[.int .i64 a1, .int .i64 b1] 23)).alloc (.cells #[.int .i64 a2, .int .i64 b2] 23)).heap[w5.heap.size + 1]? = some (.cells #[.int .i64 a2, .int .i64 b2] 23 (0, 0))) := ⟨new_at (by simp) _⟩
        replace HA1 := Aside0.mk (HA1.out.below hb)
        replace HB := Aside0.mk (HB.out.trans (hb.mono HB.out.size))
        replace HS := Aside0.mk (blk_below HS.out hb)
        replace HM := Aside0.mk (blk_below HM.out hb)
        clear hb
        generalize ((w5.alloc (.cells #[.int .i64 a1, .int .i64 b1] 23)).alloc (.cells #[.int .i64 a2, .int .i64 b2] 23)) = w6 at HA1 HB HS HM n0 n1 ⊢
        obtain ⟨P, hP⟩ : ∃ b, w5.heap.size = b := ⟨_, rfl⟩
        rw [hP] at n0 n1 ⊢
        clear hP
        have HP0 := n0
        have HP1 := n1
        clear n0 n1
        have k0 := (blk_cell HM.out 0).trans rfl
        have k1 := (blk_cell HM.out 1).trans rfl
        have k2 := (blk_cell HM.out 2).trans rfl
        have k3 := (blk_cell HM.out 3).trans rfl
        have k4 := (blk_cell HM.out 4).trans rfl
        have k5 := (blk_cell HM.out 5).trans rfl
        have kl := blk_lt HM.out
        go_wp2_with fail
        clear k0 k1 k2 k3 k4 k5 kl
        refine (Counts_calls D2 A4 c4 A6 c6 w6 HA1.out).mono ?_
        rw [E1.out, G1.out, G2.out]
        rintro e w7 ⟨rfl, hb⟩
        replace HA1 := Aside0.mk (HA1.out.below hb)
        replace HB := Aside0.mk (HB.out.trans (hb.mono HB.out.size))
        replace HS := Aside0.mk (blk_below HS.out hb)
        replace HM := Aside0.mk (blk_below HM.out hb)
        replace HP0 := Aside0.mk (blk_below HP0.out hb)
        replace HP1 := Aside0.mk (blk_below HP1.out hb)
        clear hb
        go_upto_region 7 with (fail)
        have hb : Below w7.heap.size w7 ((w7.alloc (.cells #[.int .i64 x1, .int .i64 y1] 23)).alloc (.cells #[.int .i64 x2, .int .i64 y2] 23)) := (below_alloc (below_alloc (Below.refl _ _) _) _)
        have n0 : Aside0 (((w7.alloc (.cells #[.int .i64 x1, .int .i64 y1] 23)).alloc (.cells #[.int .i64 x2, .int .i64 y2] 23)).heap[w7.heap.size]? = some (.cells #[.int .i64 x1, .int .i64 y1] 23 (0, 0))) := ⟨blk_alloc (blk_new _ _) _⟩
        have n1 : Aside0 (((w7.alloc (.cells #[.int .i64 x1, .int .i64 y1] 23)).alloc (.cells #[.int .i64 x2, .int .i64 y2] 23)).heap[w7.heap.size + 1]? = some (.cells #[.int .i64 x2, .int .i64 y2] 23 (0, 0))) := ⟨new_at (by simp) _⟩
        replace HA1 := Aside0.mk (HA1.out.below hb)
        replace HB := Aside0.mk (HB.out.trans (hb.mono HB.out.size))
        replace HS := Aside0.mk (blk_below HS.out hb)
        replace HM := Aside0.mk (blk_below HM.out hb)
        replace HP0 := Aside0.mk (blk_below HP0.out hb)
        replace HP1 := Aside0.mk (blk_below HP1.out hb)
        clear hb
        generalize ((w7.alloc (.cells #[.int .i64 x1, .int .i64 y1] 23)).alloc (.cells #[.int .i64 x2, .int .i64 y2] 23)) = w8 at HA1 HB HS HM HP0 HP1 n0 n1 ⊢
        obtain ⟨R, hR⟩ : ∃ b, w7.heap.size = b := ⟨_, rfl⟩
        rw [hR] at n0 n1 ⊢
        clear hR
        have HR0 := n0
        have HR1 := n1
        clear n0 n1
        have k0 := (blk_cell HS.out 0).trans rfl
        have k1 := (blk_cell HS.out 1).trans rfl
        have k2 := (blk_cell HS.out 2).trans rfl
        have k3 := (blk_cell HS.out 3).trans rfl
        have k4 := (blk_cell HS.out 4).trans rfl
        have k5 := (blk_cell HS.out 5).trans rfl
        have kl := blk_lt HS.out
        go_wp2_with fail
        clear k0 k1 k2 k3 k4 k5 kl
        refine (Number_calls D A4 c4 A5 c5 w8 (HA.out.below HB.out)).mono ?_
        rw [E0.out, H3.out]
        rintro e w9 ⟨rfl, hb⟩
        replace HA1 := Aside0.mk (HA1.out.below hb)
        replace HB := Aside0.mk (HB.out.trans (hb.mono HB.out.size))
        replace HS := Aside0.mk (blk_below HS.out hb)
        replace HM := Aside0.mk (blk_below HM.out hb)
        replace HP0 := Aside0.mk (blk_below HP0.out hb)
        replace HP1 := Aside0.mk (blk_below HP1.out hb)
        replace HR0 := Aside0.mk (blk_below HR0.out hb)
        replace HR1 := Aside0.mk (blk_below HR1.out hb)
        clear hb
        go_upto_region 8 with (fail)
        have hb : Below w9.heap.size w9 (w9.alloc (.cells #[.int .i64 a3, .int .i64 b3] 23)) := (below_alloc (Below.refl _ _) _)
        have n0 : Aside0 ((w9.alloc (.cells #[.int .i64 a3, .int .i64 b3] 23)).heap[w9.heap.size]? = some (.cells #[.int .i64 a3, .int .i64 b3] 23 (0, 0))) := ⟨blk_new _ _⟩
        replace HA1 := Aside0.mk (HA1.out.below hb)
        replace HB := Aside0.mk (HB.out.trans (hb.mono HB.out.size))
        replace HS := Aside0.mk (blk_below HS.out hb)
        replace HM := Aside0.mk (blk_below HM.out hb)
        replace HP0 := Aside0.mk (blk_below HP0.out hb)
        replace HP1 := Aside0.mk (blk_below HP1.out hb)
        replace HR0 := Aside0.mk (blk_below HR0.out hb)
        replace HR1 := Aside0.mk (blk_below HR1.out hb)
        clear hb
        generalize (w9.alloc (.cells #[.int .i64 a3, .int .i64 b3] 23)) = w10 at HA1 HB HS HM HP0 HP1 HR0 HR1 n0 ⊢
        obtain ⟨T, hT⟩ : ∃ b, w9.heap.size = b := ⟨_, rfl⟩
        rw [hT] at n0 ⊢
        clear hT
        have HT0 := n0
        clear n0
        have k0 := (blk_cell HM.out 0).trans rfl
        have k1 := (blk_cell HM.out 1).trans rfl
        have k2 := (blk_cell HM.out 2).trans rfl
        have k3 := (blk_cell HM.out 3).trans rfl
        have k4 := (blk_cell HM.out 4).trans rfl
        have k5 := (blk_cell HM.out 5).trans rfl
        have kl := blk_lt HM.out
        go_wp2_with fail
        clear k0 k1 k2 k3 k4 k5 kl
        refine (Number_calls D2 A4 c4 A6 c6 w10 HA1.out).mono ?_
        rw [E1.out, G3.out]
        rintro e w11 ⟨rfl, hb⟩
        replace HA1 := Aside0.mk (HA1.out.below hb)
        replace HB := Aside0.mk (HB.out.trans (hb.mono HB.out.size))
        replace HS := Aside0.mk (blk_below HS.out hb)
        replace HM := Aside0.mk (blk_below HM.out hb)
        replace HP0 := Aside0.mk (blk_below HP0.out hb)
        replace HP1 := Aside0.mk (blk_below HP1.out hb)
        replace HR0 := Aside0.mk (blk_below HR0.out hb)
        replace HR1 := Aside0.mk (blk_below HR1.out hb)
        replace HT0 := Aside0.mk (blk_below HT0.out hb)
        clear hb
        go_upto_region 9 with (fail)
        have hb : Below w11.heap.size w11 (w11.alloc (.cells #[.int .i64 x3, .int .i64 y3] 23)) := (below_alloc (Below.refl _ _) _)
        have n0 : Aside0 ((w11.alloc (.cells #[.int .i64 x3, .int .i64 y3] 23)).heap[w11.heap.size]? = some (.cells #[.int .i64 x3, .int .i64 y3] 23 (0, 0))) := ⟨blk_new _ _⟩
        replace HA1 := Aside0.mk (HA1.out.below hb)
        replace HB := Aside0.mk (HB.out.trans (hb.mono HB.out.size))
        replace HS := Aside0.mk (blk_below HS.out hb)
        replace HM := Aside0.mk (blk_below HM.out hb)
        replace HP0 := Aside0.mk (blk_below HP0.out hb)
        replace HP1 := Aside0.mk (blk_below HP1.out hb)
        replace HR0 := Aside0.mk (blk_below HR0.out hb)
        replace HR1 := Aside0.mk (blk_below HR1.out hb)
        replace HT0 := Aside0.mk (blk_below HT0.out hb)
        clear hb
        generalize (w11.alloc (.cells #[.int .i64 x3, .int .i64 y3] 23)) = w12 at HA1 HB HS HM HP0 HP1 HR0 HR1 HT0 n0 ⊢
        obtain ⟨U, hU⟩ : ∃ b, w11.heap.size = b := ⟨_, rfl⟩
        rw [hU] at n0 ⊢
        clear hU
        have HU0 := n0
        clear n0
        have k0 := (blk_cell HS.out 0).trans rfl
        have k1 := (blk_cell HS.out 1).trans rfl
        have k2 := (blk_cell HS.out 2).trans rfl
        have k3 := (blk_cell HS.out 3).trans rfl
        have k4 := (blk_cell HS.out 4).trans rfl
        have k5 := (blk_cell HS.out 5).trans rfl
        have kl := blk_lt HS.out
        go_wp2_with fail
        clear k0 k1 k2 k3 k4 k5 kl
        refine (Near_calls D A4 c4 A5 c5 w12 (HA.out.below HB.out)).mono ?_
        rw [E0.out, H4.out]
        rintro e w13 ⟨rfl, hb⟩
        replace HA1 := Aside0.mk (HA1.out.below hb)
        replace HB := Aside0.mk (HB.out.trans (hb.mono HB.out.size))
        replace HS := Aside0.mk (blk_below HS.out hb)
        replace HM := Aside0.mk (blk_below HM.out hb)
        replace HP0 := Aside0.mk (blk_below HP0.out hb)
        replace HP1 := Aside0.mk (blk_below HP1.out hb)
        replace HR0 := Aside0.mk (blk_below HR0.out hb)
        replace HR1 := Aside0.mk (blk_below HR1.out hb)
        replace HT0 := Aside0.mk (blk_below HT0.out hb)
        replace HU0 := Aside0.mk (blk_below HU0.out hb)
        clear hb
        go_upto_region 10 with (fail)
        have hb : Below w13.heap.size w13 (w13.alloc (.cells #[.int .i64 a4, .int .i64 b4] 23)) := (below_alloc (Below.refl _ _) _)
        have n0 : Aside0 ((w13.alloc (.cells #[.int .i64 a4, .int .i64 b4] 23)).heap[w13.heap.size]? = some (.cells #[.int .i64 a4, .int .i64 b4] 23 (0, 0))) := ⟨blk_new _ _⟩
        replace HA1 := Aside0.mk (HA1.out.below hb)
        replace HB := Aside0.mk (HB.out.trans (hb.mono HB.out.size))
        replace HS := Aside0.mk (blk_below HS.out hb)
        replace HM := Aside0.mk (blk_below HM.out hb)
        replace HP0 := Aside0.mk (blk_below HP0.out hb)
        replace HP1 := Aside0.mk (blk_below HP1.out hb)
        replace HR0 := Aside0.mk (blk_below HR0.out hb)
        replace HR1 := Aside0.mk (blk_below HR1.out hb)
        replace HT0 := Aside0.mk (blk_below HT0.out hb)
        replace HU0 := Aside0.mk (blk_below HU0.out hb)
        clear hb
        generalize (w13.alloc (.cells #[.int .i64 a4, .int .i64 b4] 23)) = w14 at HA1 HB HS HM HP0 HP1 HR0 HR1 HT0 HU0 n0 ⊢
        obtain ⟨V, hV⟩ : ∃ b, w13.heap.size = b := ⟨_, rfl⟩
        rw [hV] at n0 ⊢
        clear hV
        have HV0 := n0
        clear n0
        have k0 := (blk_cell HM.out 0).trans rfl
        have k1 := (blk_cell HM.out 1).trans rfl
        have k2 := (blk_cell HM.out 2).trans rfl
        have k3 := (blk_cell HM.out 3).trans rfl
        have k4 := (blk_cell HM.out 4).trans rfl
        have k5 := (blk_cell HM.out 5).trans rfl
        have kl := blk_lt HM.out
        go_wp2_with fail
        clear k0 k1 k2 k3 k4 k5 kl
        refine (Near_calls D2 A4 c4 A6 c6 w14 HA1.out).mono ?_
        rw [E1.out, G4.out]
        rintro e w15 ⟨rfl, hb⟩
        replace HA1 := Aside0.mk (HA1.out.below hb)
        replace HB := Aside0.mk (HB.out.trans (hb.mono HB.out.size))
        replace HS := Aside0.mk (blk_below HS.out hb)
        replace HM := Aside0.mk (blk_below HM.out hb)
        replace HP0 := Aside0.mk (blk_below HP0.out hb)
        replace HP1 := Aside0.mk (blk_below HP1.out hb)
        replace HR0 := Aside0.mk (blk_below HR0.out hb)
        replace HR1 := Aside0.mk (blk_below HR1.out hb)
        replace HT0 := Aside0.mk (blk_below HT0.out hb)
        replace HU0 := Aside0.mk (blk_below HU0.out hb)
        replace HV0 := Aside0.mk (blk_below HV0.out hb)
        clear hb
        go_upto_region 11 with (fail)
        have hb : Below w15.heap.size w15 (w15.alloc (.cells #[.int .i64 x4, .int .i64 y4] 23)) := (below_alloc (Below.refl _ _) _)
        have n0 : Aside0 ((w15.alloc (.cells #[.int .i64 x4, .int .i64 y4] 23)).heap[w15.heap.size]? = some (.cells #[.int .i64 x4, .int .i64 y4] 23 (0, 0))) := ⟨blk_new _ _⟩
        replace HA1 := Aside0.mk (HA1.out.below hb)
        replace HB := Aside0.mk (HB.out.trans (hb.mono HB.out.size))
        replace HS := Aside0.mk (blk_below HS.out hb)
        replace HM := Aside0.mk (blk_below HM.out hb)
        replace HP0 := Aside0.mk (blk_below HP0.out hb)
        replace HP1 := Aside0.mk (blk_below HP1.out hb)
        replace HR0 := Aside0.mk (blk_below HR0.out hb)
        replace HR1 := Aside0.mk (blk_below HR1.out hb)
        replace HT0 := Aside0.mk (blk_below HT0.out hb)
        replace HU0 := Aside0.mk (blk_below HU0.out hb)
        replace HV0 := Aside0.mk (blk_below HV0.out hb)
        clear hb
        generalize (w15.alloc (.cells #[.int .i64 x4, .int .i64 y4] 23)) = w16 at HA1 HB HS HM HP0 HP1 HR0 HR1 HT0 HU0 HV0 n0 ⊢
        obtain ⟨Y, hY⟩ : ∃ b, w15.heap.size = b := ⟨_, rfl⟩
        rw [hY] at n0 ⊢
        clear hY
        have HY0 := n0
        clear n0
        have p0 := (blk_cell HR0.out 0).trans rfl
        have p1 := (blk_cell HR0.out 1).trans rfl
        have pl := blk_lt HR0.out
        have r0 := (blk_cell HP0.out 0).trans rfl
        have r1 := (blk_cell HP0.out 1).trans rfl
        have rl := blk_lt HP0.out
        go_wp2_with fail
        clear p0 p1 pl
        clear r0 r1 rl
        refine (helioscopelaw01_within.calls _ _ _ _ true _ I1.out).mono ?_
        rintro e w17 ⟨rfl, hb⟩
        replace HA1 := Aside0.mk (HA1.out.below hb)
        replace HB := Aside0.mk (HB.out.trans (hb.mono HB.out.size))
        replace HS := Aside0.mk (blk_below HS.out hb)
        replace HM := Aside0.mk (blk_below HM.out hb)
        replace HP0 := Aside0.mk (blk_below HP0.out hb)
        replace HP1 := Aside0.mk (blk_below HP1.out hb)
        replace HR0 := Aside0.mk (blk_below HR0.out hb)
        replace HR1 := Aside0.mk (blk_below HR1.out hb)
        replace HT0 := Aside0.mk (blk_below HT0.out hb)
        replace HU0 := Aside0.mk (blk_below HU0.out hb)
        replace HV0 := Aside0.mk (blk_below HV0.out hb)
        replace HY0 := Aside0.mk (blk_below HY0.out hb)
        clear hb
        have p0 := (blk_cell HR1.out 0).trans rfl
        have p1 := (blk_cell HR1.out 1).trans rfl
        have pl := blk_lt HR1.out
        have r0 := (blk_cell HP1.out 0).trans rfl
        have r1 := (blk_cell HP1.out 1).trans rfl
        have rl := blk_lt HP1.out
        go_wp2_with fail
        clear p0 p1 pl
        clear r0 r1 rl
        refine (helioscopelaw01_within.calls _ _ _ _ true _ I2.out).mono ?_
        rintro e w18 ⟨rfl, hb⟩
        replace HA1 := Aside0.mk (HA1.out.below hb)
        replace HB := Aside0.mk (HB.out.trans (hb.mono HB.out.size))
        replace HS := Aside0.mk (blk_below HS.out hb)
        replace HM := Aside0.mk (blk_below HM.out hb)
        replace HP0 := Aside0.mk (blk_below HP0.out hb)
        replace HP1 := Aside0.mk (blk_below HP1.out hb)
        replace HR0 := Aside0.mk (blk_below HR0.out hb)
        replace HR1 := Aside0.mk (blk_below HR1.out hb)
        replace HT0 := Aside0.mk (blk_below HT0.out hb)
        replace HU0 := Aside0.mk (blk_below HU0.out hb)
        replace HV0 := Aside0.mk (blk_below HV0.out hb)
        replace HY0 := Aside0.mk (blk_below HY0.out hb)
        clear hb
        have p0 := (blk_cell HU0.out 0).trans rfl
        have p1 := (blk_cell HU0.out 1).trans rfl
        have pl := blk_lt HU0.out
        have r0 := (blk_cell HT0.out 0).trans rfl
        have r1 := (blk_cell HT0.out 1).trans rfl
        have rl := blk_lt HT0.out
        go_wp2_with fail
        clear p0 p1 pl
        clear r0 r1 rl
        refine (helioscopelaw01_within.calls _ _ _ _ true _ I3.out).mono ?_
        rintro e w19 ⟨rfl, hb⟩
        replace HA1 := Aside0.mk (HA1.out.below hb)
        replace HB := Aside0.mk (HB.out.trans (hb.mono HB.out.size))
        replace HS := Aside0.mk (blk_below HS.out hb)
        replace HM := Aside0.mk (blk_below HM.out hb)
        replace HP0 := Aside0.mk (blk_below HP0.out hb)
        replace HP1 := Aside0.mk (blk_below HP1.out hb)
        replace HR0 := Aside0.mk (blk_below HR0.out hb)
        replace HR1 := Aside0.mk (blk_below HR1.out hb)
        replace HT0 := Aside0.mk (blk_below HT0.out hb)
        replace HU0 := Aside0.mk (blk_below HU0.out hb)
        replace HV0 := Aside0.mk (blk_below HV0.out hb)
        replace HY0 := Aside0.mk (blk_below HY0.out hb)
        clear hb
        have p0 := (blk_cell HY0.out 0).trans rfl
        have p1 := (blk_cell HY0.out 1).trans rfl
        have pl := blk_lt HY0.out
        have r0 := (blk_cell HV0.out 0).trans rfl
        have r1 := (blk_cell HV0.out 1).trans rfl
        have rl := blk_lt HV0.out
        go_wp2_with fail
        clear p0 p1 pl
        clear r0 r1 rl
        refine (helioscopelaw01_within.calls _ _ _ _ true _ I4.out).mono ?_
        rintro e w20 ⟨rfl, hb⟩
        replace HA1 := Aside0.mk (HA1.out.below hb)
        replace HB := Aside0.mk (HB.out.trans (hb.mono HB.out.size))
        replace HS := Aside0.mk (blk_below HS.out hb)
        replace HM := Aside0.mk (blk_below HM.out hb)
        replace HP0 := Aside0.mk (blk_below HP0.out hb)
        replace HP1 := Aside0.mk (blk_below HP1.out hb)
        replace HR0 := Aside0.mk (blk_below HR0.out hb)
        replace HR1 := Aside0.mk (blk_below HR1.out hb)
        replace HT0 := Aside0.mk (blk_below HT0.out hb)
        replace HU0 := Aside0.mk (blk_below HU0.out hb)
        replace HV0 := Aside0.mk (blk_below HV0.out hb)
        replace HY0 := Aside0.mk (blk_below HY0.out hb)
        clear hb
        clear HP0 HP1 HR0 HR1 HT0 HU0 HV0 HY0
        go_upto_region 13 with (fail)
        have hn7 := (enterE_ok E0.out).1.n7
        go_wp2_with fail
        go_loopw [20] (fun j wr => ∃ k : Nat, k ≤ D.spots.length ∧ j = .int .i64 k ∧ Aside0 (Below w20.heap.size w20 wr)) (fun j _ => D.spots.length - (intOf j).toNat)
        case atStart => exact ⟨0, Nat.zero_le _, rfl, ⟨Below.refl _ _⟩⟩
        case round =>
          obtain ⟨k, hk, rfl, HR⟩ := hrel
          have HS1 := Aside0.mk (blk_below HS.out HR.out)
          have HM1 := Aside0.mk (blk_below HM.out HR.out)
          by_cases hlt : k < D.spots.length
          · have hi := more_is E0.out (by rw [← HD2.out]; exact E1.out) hlt
            rw [← HD2.out] at hi
            obtain ⟨⟨u, t0⟩, hu⟩ : ∃ s, isF D (k : Int) = s := ⟨_, rfl⟩
            obtain ⟨⟨v, t1⟩, hv⟩ : ∃ s, isF D2 (k : Int) = s := ⟨_, rfl⟩
            rw [hu, hv] at hi
            obtain ⟨m0, m1, m2⟩ := hi
            simp only at m0 m1 m2
            subst m0 m1
            have HU := Aside0.mk hu
            have HV := Aside0.mk hv
            have HM2 := Aside0.mk m2
            clear hu hv m2
            have k0 := (blk_cell HS1.out 0).trans rfl
            have k1 := (blk_cell HS1.out 1).trans rfl
            have k2 := (blk_cell HS1.out 2).trans rfl
            have k3 := (blk_cell HS1.out 3).trans rfl
            have k4 := (blk_cell HS1.out 4).trans rfl
            have k5 := (blk_cell HS1.out 5).trans rfl
            have kl := blk_lt HS1.out
            go_wp2_with fail
            clear k0 k1 k2 k3 k4 k5 kl
            refine (Is_calls D A4 c4 A5 c5 (k : Int) wr (HA.out.below (HB.out.trans (HR.out.mono HB.out.size)))).mono ?_
            rw [HU.out]
            rintro e v1 ⟨rfl, hb⟩
            replace HR := Aside0.mk (HR.out.trans (hb.mono HR.out.size))
            replace HS1 := Aside0.mk (blk_below HS1.out hb)
            replace HM1 := Aside0.mk (blk_below HM1.out hb)
            clear hb
            have k0 := (blk_cell HM1.out 0).trans rfl
            have k1 := (blk_cell HM1.out 1).trans rfl
            have k2 := (blk_cell HM1.out 2).trans rfl
            have k3 := (blk_cell HM1.out 3).trans rfl
            have k4 := (blk_cell HM1.out 4).trans rfl
            have k5 := (blk_cell HM1.out 5).trans rfl
            have kl := blk_lt HM1.out
            go_wp2_with fail
            clear k0 k1 k2 k3 k4 k5 kl
            refine (Is_calls D2 A4 c4 A6 c6 (k : Int) v1 (HA1.out.below HR.out)).mono ?_
            rw [HV.out]
            rintro e v2 ⟨rfl, hb⟩
            replace HR := Aside0.mk (HR.out.trans (hb.mono HR.out.size))
            replace HS1 := Aside0.mk (blk_below HS1.out hb)
            replace HM1 := Aside0.mk (blk_below HM1.out hb)
            clear hb
            clear HU HV
            have hcase : u = 0 ∨ (u ≠ 0 ∧ u = v) := (Classical.em (u = 0)).elim .inl (fun h => .inr ⟨h, HM2.out h⟩)
            clear HM2
            rcases hcase with rfl | ⟨hu0, rfl⟩
            · go_wp2_with fail
              go_loopw [25] (fun j wq => ∃ r : Nat, r ≤ k ∧ j = .int .i64 r ∧ Aside0 (Below w20.heap.size w20 wq)) (fun j _ => k - (intOf j).toNat)
              case atStart => exact ⟨0, Nat.zero_le _, rfl, HR⟩
              case round =>
                clear HR HS1 HM1
                obtain ⟨r, hr, rfl, HR⟩ := hrel
                have HS1 := Aside0.mk (blk_below HS.out HR.out)
                have HM1 := Aside0.mk (blk_below HM.out HR.out)
                by_cases hlr : r < k
                · have hi := more_one E0.out (by rw [← HD2.out]; exact E1.out) hlt hlr
                  rw [← HD2.out] at hi
                  obtain ⟨⟨u', t0⟩, hu⟩ : ∃ s, oneF D (k : Int) (r : Int) = s := ⟨_, rfl⟩
                  obtain ⟨⟨v', t1⟩, hv⟩ : ∃ s, oneF D2 (k : Int) (r : Int) = s := ⟨_, rfl⟩
                  rw [hu, hv] at hi
                  obtain ⟨m0, m1, m2⟩ := hi
                  simp only at m0 m1 m2
                  subst m0 m1
                  have HU := Aside0.mk hu
                  have HV := Aside0.mk hv
                  have HM2 := Aside0.mk m2
                  clear hu hv m2
                  have k0 := (blk_cell HS1.out 0).trans rfl
                  have k1 := (blk_cell HS1.out 1).trans rfl
                  have k2 := (blk_cell HS1.out 2).trans rfl
                  have k3 := (blk_cell HS1.out 3).trans rfl
                  have k4 := (blk_cell HS1.out 4).trans rfl
                  have k5 := (blk_cell HS1.out 5).trans rfl
                  have kl := blk_lt HS1.out
                  go_wp2_with fail
                  clear k0 k1 k2 k3 k4 k5 kl
                  refine (One_calls D A4 c4 A5 c5 (k : Int) (r : Int) wr (HA.out.below (HB.out.trans (HR.out.mono HB.out.size)))).mono ?_
                  rw [HU.out]
                  rintro e v3 ⟨rfl, hb⟩
                  replace HR := Aside0.mk (HR.out.trans (hb.mono HR.out.size))
                  replace HS1 := Aside0.mk (blk_below HS1.out hb)
                  replace HM1 := Aside0.mk (blk_below HM1.out hb)
                  clear hb
                  have k0 := (blk_cell HM1.out 0).trans rfl
                  have k1 := (blk_cell HM1.out 1).trans rfl
                  have k2 := (blk_cell HM1.out 2).trans rfl
                  have k3 := (blk_cell HM1.out 3).trans rfl
                  have k4 := (blk_cell HM1.out 4).trans rfl
                  have k5 := (blk_cell HM1.out 5).trans rfl
                  have kl := blk_lt HM1.out
                  go_wp2_with fail
                  clear k0 k1 k2 k3 k4 k5 kl
                  refine (One_calls D2 A4 c4 A6 c6 (k : Int) (r : Int) v3 (HA1.out.below HR.out)).mono ?_
                  rw [HV.out]
                  rintro e v4 ⟨rfl, hb⟩
                  replace HR := Aside0.mk (HR.out.trans (hb.mono HR.out.size))
                  clear hb HU HV HS1 HM1
                  have hcase : u' = 0 ∨ (u' ≠ 0 ∧ u' = v') := (Classical.em (u' = 0)).elim .inl (fun h => .inr ⟨h, HM2.out h⟩)
                  clear HM2
                  rcases hcase with rfl | ⟨hw0, rfl⟩
                  · go_wp2_with fail
                    go_roundw
                    case rel => exact ⟨r + 1, by omega, by go_num, HR⟩
                    case measure => simp [intOf]; omega
                  · have hw1 : (u' == 0) = false := by simpa using hw0
                    have hw2 : (u' != 0) = true := by simp [hw0]
                    clear hw0
                    go_wp2_with fail
                    go_roundw
                    case rel => exact ⟨r + 1, by omega, by go_num, HR⟩
                    case measure => simp [intOf]; omega
                · obtain rfl : r = k := by omega
                  go_wp2_with fail
                  go_roundw
                  case rel => exact ⟨r + 1, by omega, by go_num, HR⟩
                  case measure => simp [intOf]; omega
            · have hu1 : (u == 0) = false := by simpa using hu0
              have hu2 : (u != 0) = true := by simp [hu0]
              clear hu0
              go_wp2_with fail
              go_loopw [25] (fun j wq => ∃ r : Nat, r ≤ k ∧ j = .int .i64 r ∧ Aside0 (Below w20.heap.size w20 wq)) (fun j _ => k - (intOf j).toNat)
              case atStart => exact ⟨0, Nat.zero_le _, rfl, HR⟩
              case round =>
                clear HR HS1 HM1
                obtain ⟨r, hr, rfl, HR⟩ := hrel
                have HS1 := Aside0.mk (blk_below HS.out HR.out)
                have HM1 := Aside0.mk (blk_below HM.out HR.out)
                by_cases hlr : r < k
                · have hi := more_one E0.out (by rw [← HD2.out]; exact E1.out) hlt hlr
                  rw [← HD2.out] at hi
                  obtain ⟨⟨u', t0⟩, hu⟩ : ∃ s, oneF D (k : Int) (r : Int) = s := ⟨_, rfl⟩
                  obtain ⟨⟨v', t1⟩, hv⟩ : ∃ s, oneF D2 (k : Int) (r : Int) = s := ⟨_, rfl⟩
                  rw [hu, hv] at hi
                  obtain ⟨m0, m1, m2⟩ := hi
                  simp only at m0 m1 m2
                  subst m0 m1
                  have HU := Aside0.mk hu
                  have HV := Aside0.mk hv
                  have HM2 := Aside0.mk m2
                  clear hu hv m2
                  have k0 := (blk_cell HS1.out 0).trans rfl
                  have k1 := (blk_cell HS1.out 1).trans rfl
                  have k2 := (blk_cell HS1.out 2).trans rfl
                  have k3 := (blk_cell HS1.out 3).trans rfl
                  have k4 := (blk_cell HS1.out 4).trans rfl
                  have k5 := (blk_cell HS1.out 5).trans rfl
                  have kl := blk_lt HS1.out
                  go_wp2_with fail
                  clear k0 k1 k2 k3 k4 k5 kl
                  refine (One_calls D A4 c4 A5 c5 (k : Int) (r : Int) wr (HA.out.below (HB.out.trans (HR.out.mono HB.out.size)))).mono ?_
                  rw [HU.out]
                  rintro e v3 ⟨rfl, hb⟩
                  replace HR := Aside0.mk (HR.out.trans (hb.mono HR.out.size))
                  replace HS1 := Aside0.mk (blk_below HS1.out hb)
                  replace HM1 := Aside0.mk (blk_below HM1.out hb)
                  clear hb
                  have k0 := (blk_cell HM1.out 0).trans rfl
                  have k1 := (blk_cell HM1.out 1).trans rfl
                  have k2 := (blk_cell HM1.out 2).trans rfl
                  have k3 := (blk_cell HM1.out 3).trans rfl
                  have k4 := (blk_cell HM1.out 4).trans rfl
                  have k5 := (blk_cell HM1.out 5).trans rfl
                  have kl := blk_lt HM1.out
                  go_wp2_with fail
                  clear k0 k1 k2 k3 k4 k5 kl
                  refine (One_calls D2 A4 c4 A6 c6 (k : Int) (r : Int) v3 (HA1.out.below HR.out)).mono ?_
                  rw [HV.out]
                  rintro e v4 ⟨rfl, hb⟩
                  replace HR := Aside0.mk (HR.out.trans (hb.mono HR.out.size))
                  clear hb HU HV HS1 HM1
                  have hcase : u' = 0 ∨ (u' ≠ 0 ∧ u' = v') := (Classical.em (u' = 0)).elim .inl (fun h => .inr ⟨h, HM2.out h⟩)
                  clear HM2
                  rcases hcase with rfl | ⟨hw0, rfl⟩
                  · go_wp2_with fail
                    go_roundw
                    case rel => exact ⟨r + 1, by omega, by go_num, HR⟩
                    case measure => simp [intOf]; omega
                  · have hw1 : (u' == 0) = false := by simpa using hw0
                    have hw2 : (u' != 0) = true := by simp [hw0]
                    clear hw0
                    go_wp2_with fail
                    go_roundw
                    case rel => exact ⟨r + 1, by omega, by go_num, HR⟩
                    case measure => simp [intOf]; omega
                · obtain rfl : r = k := by omega
                  go_wp2_with fail
                  go_roundw
                  case rel => exact ⟨r + 1, by omega, by go_num, HR⟩
                  case measure => simp [intOf]; omega
          · obtain rfl : k = D.spots.length := by omega
            replace HB := Aside0.mk (HB.out.trans (HR.out.mono HB.out.size))
            have k0 := (blk_cell HS1.out 0).trans rfl
            have k1 := (blk_cell HS1.out 1).trans rfl
            have k2 := (blk_cell HS1.out 2).trans rfl
            have k3 := (blk_cell HS1.out 3).trans rfl
            have k4 := (blk_cell HS1.out 4).trans rfl
            have k5 := (blk_cell HS1.out 5).trans rfl
            have kl := blk_lt HS1.out
            go_wp2_with fail
            refine (Awake_calls _).mono ?_
            rintro e wA ⟨rfl, hb⟩
            replace HB := Aside0.mk (HB.out.trans (hb.mono HB.out.size))
            clear hb
            go_wp2
            go_ret
            exact ⟨rfl, HB.out⟩
      · rw [decide_eq_false hc2]
        clear hc2
        go_wp2_with fail
        refine (Awake_calls _).mono ?_
        rintro e wA ⟨rfl, hb⟩
        replace HB := Aside0.mk (HB.out.trans (hb.mono HB.out.size))
        clear hb
        go_wp2
        go_ret
        exact ⟨rfl, HB.out⟩
    · rw [decide_eq_false hc]
      clear hc
      go_wp2_with fail
      refine (Awake_calls _).mono ?_
      rintro e wA ⟨rfl, hb⟩
      replace HB := Aside0.mk (HB.out.trans (hb.mono HB.out.size))
      clear hb
      go_wp2
      go_ret
      exact ⟨rfl, HB.out⟩
end Go.Proofs.Ytemeapfnfegkiaa.D
end
section
/- Package disk: how long the slices of a sheet that came in can be. -/
namespace Go.Proofs.Ytemeapfnfegkiaa.D
open Go Go.RowKit Go.ChangeShapes Go.WideShapes Go.Deep Go.Proofs.YtemeapfnfegkiaaK Go.Proofs.YtemeapfnfegkiaaW.PrintWords Go.Proofs.YtemeapfnfegkiaaW.PrintLast Go.Proofs.YtemeapfnfegkiaaW.PrintMore Go.Proofs.Ytemeapfnfegkiaa.PR
set_option linter.unusedVariables false
set_option linter.unusedSimpArgs false
set_option linter.unusedSectionVars false

section
variable {H : Type} {enc : TypeId × Value → H} {P : Program} {w : World} {base : Nat} {spare : Nat → Bool} {held : Bool}
theorem slice_reach {t e : TypeId} {fuel n c L : Nat} {A : Option Addr} {x : DataW H × List MemPlace} (ht : P.underlying t = some (.slice e)) (h : DataW.trod enc P w base spare held fuel t [.slice A n c] = some x)
    (hw : ∀ m ∈ x.1.weights P t, m ≤ L) : n * P.bytesOf e ≤ L := by
  rcases open_slice ht h with ⟨h1, h2⟩ | ⟨a, len, cap, m, k, D, Pl, h1, hb, hl, hm, hmm, rfl, hx⟩
  · cases h1; simp
  · cases h1
    have := hw ((((List.range n).map D).length + ((List.range (m - n)).map fun j => D (n + j)).length) * P.bytesOf e) (by simp [DataW.weights, ht])
    exact Nat.le_trans (Nat.mul_le_mul_right _ (by simp)) this
end
section
variable {H : Type} {enc : TypeId × Value → H} {w : World} {base : Nat} {spare : Nat → Bool} {held : Bool}
theorem sheet_reach {D : Dat} {A4 : Option Addr} {c4 : Nat} {A5 : Option Addr} {c5 : Nat} {d : DataW H} {p : List MemPlace}
    (h : DataW.Trod enc Try.prog w base spare held 27 (.agg #[.string D.nm, .int .i64 D.rad, .int .i64 D.lo, .int .i64 D.hi, .slice A4 D.spots.length c4, .slice A5 D.told.length c5]) d p)
    (hw : ∀ m ∈ d.weights Try.prog 27, m ≤ reachBytes) : D.spots.length * 24 ≤ 140737488351232 ∧ D.told.length * 24 ≤ 140737488351232 := by
  have hC : Try.prog.cellsOf 27 = 6 := by kernel_rfl
  have hS : Try.prog.cellsOf 23 = 2 := by kernel_rfl
  have hI : Try.prog.cellsOf 3 = 1 := by kernel_rfl
  have hN : Try.prog.cellsOf 9 = 1 := by kernel_rfl
  have h4 : Try.prog.cellsOf 24 = 1 := by kernel_rfl
  have h5 : Try.prog.cellsOf 25 = 1 := by kernel_rfl
  have b4 : Try.prog.bytesOf 80 = 24 := by kernel_rfl
  have b5 : Try.prog.bytesOf 52 = 24 := by kernel_rfl
  have e27 := Try.underlying27
  have e24 := Try.underlying24
  have e25 := Try.underlying25
  generalize Try.prog = P at h hw hC hS hI hN h4 h5 b4 b5 e27 e24 e25
  obtain ⟨fuel, hf⟩ := h
  obtain ⟨xs, n, _, hx, _, hlen, hg⟩ := DataW.trod_struct e27 hf
  have g3 := hg 3 _ rfl
  have g4 := hg 4 _ rfl
  have hl5 : xs.length = 5 := hlen
  rw [List.getElem?_eq_getElem (by omega)] at g3 g4
  simp only [Value.cells, List.getElem_toArray, List.getElem_cons_zero, List.getElem_cons_succ, hN, hI, hS, h4, h5, List.drop_zero, List.drop_succ_cons, List.take_succ_cons, List.take_zero] at g3 g4
  obtain ⟨rfl, _⟩ := Prod.mk.inj hx
  have w3 := slice_reach e24 g3 (L := reachBytes) (fun m hm => hw m (by
    simp only [DataW.weights, e27]
    exact DataW.weights_mem_each (j := 3) (t := 24) rfl (by rw [List.getElem?_map, List.getElem?_eq_getElem (by omega)]; rfl) m hm))
  have w4 := slice_reach e25 g4 (L := reachBytes) (fun m hm => hw m (by
    simp only [DataW.weights, e27]
    exact DataW.weights_mem_each (j := 4) (t := 25) rfl (by rw [List.getElem?_map, List.getElem?_eq_getElem (by omega)]; rfl) m hm))
  rw [b4] at w3
  rw [b5] at w4
  exact ⟨w3, w4⟩
end
section
variable {H : Type} {enc : TypeId × Value → H} {w : World} {base : Nat} {spare : Nat → Bool} {held : Bool}
set_option maxRecDepth 100000 in
theorem open_told {r : Reach} {b0 : Nat} {v : Value} {d : DataW H} {p : List MemPlace} (hv : Value.okWide Try.prog w r b0 52 v) (h : DataW.Trod enc Try.prog w base spare held 52 v d p) :
    ∃ x : Told, v = .agg #[.int .i64 x.f0, .int .i64 x.f1, .bool x.f2] ∧ (Lit.int .i64 x.f0).wf = true ∧ (Lit.int .i64 x.f1).wf = true := by
  have hC : Try.prog.cellsOf 52 = 3 := by kernel_rfl
  have hI : Try.prog.cellsOf 3 = 1 := by kernel_rfl
  have hB : Try.prog.cellsOf 4 = 1 := by kernel_rfl
  have e3 := Try.underlying3
  have e4 := Try.underlying4
  have e52 := Try.underlying52
  generalize Try.prog = P at hv h hC hI hB e3 e4 e52
  obtain ⟨cs, rfl, hsz⟩ := okWide_struct e52 hv
  obtain ⟨l⟩ := cs
  obtain ⟨fuel, hf⟩ := h
  obtain ⟨a, b, c, e, wa, wb⟩ := open_three e52 ⟨_, rfl, rfl, e3, hI⟩ ⟨_, rfl, rfl, e3, hI⟩ ⟨_, rfl, rfl, e4, hB⟩ hC hf
  simp only [Value.cells] at e
  exact ⟨⟨a, b, c⟩, by rw [show l = _ from e], wa, wb⟩
end
end Go.Proofs.Ytemeapfnfegkiaa.D
end
