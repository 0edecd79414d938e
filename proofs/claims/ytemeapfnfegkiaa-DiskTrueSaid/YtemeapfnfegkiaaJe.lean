/- Contracts of the functions that this claim reaches, with the words for them: pruned and packed by wip/tools/prune.py. -/
import Derived.Test.YtemeapfnfegkiaaUd
import Derived.Below
import Derived.Deep.Draws
import Derived.Deep.AppendLies
import Derived.Maps.AppendAt
import Derived.OwnWalk
import Derived.Laws.BytesArg
import Derived.Laws.MakeOwn
import Derived.Laws.OwnMore
import Derived.Deep.OwnRows
import Derived.Tactics
import Derived.Lib.ConvBytes
import Derived.Laws.Slices
import Derived.WalkKit
import Derived.KernelRfl
import Derived.RowKit3
import Derived.Deep.LoopGhost
import Derived.Deep.QuietTactic
import Derived.BigQuiet
import Derived.WideLaws
import Derived.Deep.DeepCutAuto
import Derived.Deep.CutBlock
import Derived.Deep.RegionHeld3
import Derived.Laws.Rows
import Derived.Lib.AppendStr
import Derived.ArgAppend
import Derived.Laws.IdiomCopy
import Derived.RowKit
import Derived.Laws.World
section
set_option linter.unusedVariables false
set_option linter.unusedSimpArgs false
namespace Go.Proofs.YtemeapfnfegkiaaW.PrintWords
open Go.RowKit

def nums (k : IntKind) (xs : List Int) : List Value := xs.map fun x => .int k x
section
variable {P : Program} {ops : Array Oper} {rest : List Oper} {o : Oper} {a : Act} {Q : Exit → Act → World → Prop}

end

section
variable {P : Program}
end
theorem own_at {W : World} {base g n cap : Nat} {e : TypeId} {k : IntKind} {xs : List Int} (h : W.ownsRow base e 1 (.slice (some ⟨g, 0, none⟩) n cap) n (nums k xs)) (i : Int) (h0 : 0 ≤ i) (h1 : i < n) :
    W.cell? ⟨g, i.toNat, none⟩ = some (.int k (rd xs i)) ∧ W.frozen? ⟨g, i.toNat, none⟩ = false := by
  have hl : xs.length = n := by have := h.1; simp [nums] at this; exact this
  constructor
  · have hc := h.cells (g := g) rfl i.toNat (.int k (rd xs i)) (by simp [nums, rd, List.getElem?_eq_getElem (show i.toNat < xs.length by omega), List.getD_eq_getElem?_getD])
    rwa [add_plain] at hc
  · rcases h.2 with ⟨h', _⟩ | ⟨g', cap', cur, h', _, hh, _⟩
    · cases h'
    · have : g = g' := by injection h' with h'; injection h' with h'; injection h' with h'
      subst this
      simp [World.frozen?, hh]
section
variable {P : Program} {ops : Array Oper} {rest : List Oper} {o : Oper} {a : Act} {Q : Exit → Act → World → Prop}
end

section
variable {P : Program} {ops : Array Oper} {rest : List Oper} {o : Oper} {a : Act} {Q : Exit → Act → World → Prop}
end

theorem own_setCell {w : World} {base : Nat} {e : TypeId} {size n : Nat} {v : Value} {xs : List Value} (h : w.ownsRow base e size v n xs) {p : Addr} (hne : some p.block ≠ v.ownBlock) (u : Value) : (w.setCell p u).ownsRow base e size v n xs := by
  obtain ⟨h1, h2⟩ := h
  refine ⟨h1, ?_⟩
  rcases h2 with h2 | ⟨g, cap, cur, rfl, hg, hh, r⟩
  · exact .inl h2
  · exact .inr ⟨g, cap, cur, rfl, hg, by rw [Below.heap_setCell _ _ _ _ (fun e => hne (by rw [e]; rfl))]; exact hh, r⟩
section
variable {P : Program} {ops : Array Oper} {o : Oper} {a : Act} {Q : Exit → Act → World → Prop} {K : Act → World → Prop}
end
section
variable {α : Type} {enc : α → Value} {d : α}
end
section
variable {α : Type} {P : Program} {ops : Array Oper} {rest : List Oper} {o : Oper} {a : Act} {Q : Exit → Act → World → Prop}
end

section
variable {P : Program}
end
section
variable {α : Type} {R R' : α → List Value → Prop} {e : TypeId} {size : Nat} {w w1 : World} {base : Nat} {v : Value} {ps : List α}
end
section
variable {P : Program} {ops : Array Oper} {rest : List Oper} {o : Oper} {a : Act} {Q : Exit → Act → World → Prop} {α : Type} {R : α → List Value → Prop}
end
section
variable {P : Program} {ops : Array Oper} {o : Oper} {a : Act} {Q : Exit → Act → World → Prop} {K : Act → World → Prop} {α : Type} {R : α → List Value → Prop}
end
section
variable {α : Type} {P : Program}
end

section
variable {P : Program} {ops : Array Oper} {rest : List Oper} {o : Oper} {a : Act} {Q : Exit → Act → World → Prop}
end
namespace Kd
section
variable {α : Type} {d : Kd α} {e : Nat} {w w1 : World} {base : Nat} {ok ok' : Nat → Prop} {v : Value} {xs : List α}
end

section
variable {P : Program} {ops : Array Oper} {rest : List Oper} {o : Oper} {a : Act} {Q : Exit → Act → World → Prop} {α : Type}
end
section
variable {P : Program} {ops : Array Oper} {o : Oper} {a : Act} {Q : Exit → Act → World → Prop} {Kc : Act → World → Prop} {α : Type}
end
end Kd
namespace Kd
section
variable {α : Type} {F : Kd α → Kd α} {sz : Nat} {E : List Nat} {hs : ∀ n, (upto F sz E n).sz = sz} {hE : ∀ n q, q ∈ (upto F sz E n).E → q ∈ E}
end
end Kd
namespace Kd
end Kd
namespace Kd
section
variable {α β : Type} {d : Kd α} {d' : Kd β} {e e' : Nat} {w w1 W : World} {base b b' : Nat} {ok ok' okv oku : Nat → Prop} {v u : Value} {xs : List α} {ys : List β}
end
section
variable {w W : World} {A : Option Addr} {n : Nat}
variable {α : Type} {enc : α → Value} {h1 : ∀ x, (enc x).oneCell' = true} {e base g cap : Nat} {ok : Nat → Prop} {xs : List α}
end

section
variable {P : Program} {ops : Array Oper} {rest : List Oper} {o : Oper} {a : Act} {Q : Exit → Act → World → Prop}
variable {α : Type}
end
end Kd
section
variable {P : Program}
end
section
variable {w w1 : World} {base n size : Nat} {e : TypeId} {v : Value} {xs : List Value}
end
section
variable {P : Program}
end
namespace Kd
section
variable {α : Type} {d : Kd α} {e : Nat} {w w1 W : World} {base : Nat} {ok ok' : Nat → Prop} {v : Value} {xs : List α}
end
section
variable {P : Program} {ops : Array Oper} {rest : List Oper} {o : Oper} {a : Act} {Q' : Exit → Act → World → Prop} {Kc : Act → World → Prop} {α : Type}
end
end Kd
namespace Kd
section
variable {α : Type} {d : Kd α} {e e' : Nat} {w w1 W : World} {base : Nat} {ok : Nat → Prop} {u v : Value} {xs : List α}
end
end Kd
namespace Kd
section
variable {α : Type} {d : Kd α} {e base g n cap : Nat} {ok okp : Nat → Prop} {W : World} {xs : List α}
end
end Kd
namespace Kd
section
variable {α : Type} {F : Kd α → Kd α} {sz : Nat} {E : List Nat} {hs : ∀ n, (upto F sz E n).sz = sz} {hE : ∀ n q, q ∈ (upto F sz E n).E → q ∈ E}
end
end Kd
namespace Kd
section
variable {P : Program} {ops : Array Oper} {rest : List Oper} {o : Oper} {a : Act} {Q : Exit → Act → World → Prop} {α : Type}
end
end Kd
namespace Kd
section
variable {P : Program} {ops : Array Oper} {rest : List Oper} {o : Oper} {a : Act} {Q : Exit → Act → World → Prop} {α : Type}
end
end Kd
namespace Kd
section
variable {α : Type} {k : Kd α} {w : World} {A : Option Addr} {xs : List α} {m c : Nat}
end
end Kd
section
variable {P : Program}
end
namespace Kd
section
variable {α β : Type} {d : Kd α} {d' : Kd β} {e e' base base' n : Nat} {ok ok' : Nat → Prop} {w W w1 W1 : World} {v u : Value} {xs : List α} {ys : List β} {A : Option Addr} {c : Nat}
end
section
variable {α : Type} {enc : α → Value} {h1 : ∀ x, (enc x).oneCell' = true} {w W : World} {A : Option Addr} {n g : Nat} {xs : List α}
end
end Kd
namespace Kd
section
variable {α : Type} {d : Kd α} {e base g : Nat} {ok : Nat → Prop} {w w1 : World} {v : Value} {xs : List α} {o : Obj}
end
end Kd
section
variable {P : Program} {ops : Array Oper} {rest : List Oper} {o : Oper} {a : Act} {Q : Exit → Act → World → Prop}
end
namespace Kd
section
variable {α : Type} {enc : α → Value} {h1 : ∀ x, (enc x).oneCell' = true} {e base g n cap : Nat} {ok : Nat → Prop} {W : World} {xs : List α}
end
end Kd
section
variable {P : Program} {ops : Array Oper} {rest : List Oper} {o : Oper} {a : Act} {Q : Exit → Act → World → Prop}
end
namespace Kd
section
variable {α : Type} {enc : α → Value} {h1 : ∀ x, (enc x).oneCell' = true} {e base g n cap : Nat} {ok : Nat → Prop} {W : World} {xs : List α}
end
end Kd
section
variable {P : Program} {ops : Array Oper} {rest : List Oper} {o : Oper} {a : Act} {Q : Exit → Act → World → Prop} {W : World}
end
section
variable {P : Program} {ops : Array Oper} {o : Oper} {a : Act} {Q : Exit → Act → World → Prop} {Kc : Act → World → Prop}
namespace Kd
variable {α : Type}
end Kd
end
section
variable {P : Program} {tmps : Array Value} {w : World}
end
namespace Kd
section
variable {P : Program} {α : Type}
end
section
variable {P : Program} {ops : Array Oper} {rest : List Oper} {o : Oper} {a : Act} {Q : Exit → Act → World → Prop} {Kc : Act → World → Prop} {α : Type}
end
end Kd

end Go.Proofs.YtemeapfnfegkiaaW.PrintWords
end
section
namespace Go.Proofs.YtemeapfnfegkiaaW.PrintWords
open Go.RowKit
namespace Foot
variable {P Q : World → Prop} {W W1 : World} {ok ok' : Nat → Prop}
end Foot
namespace Kd
section
variable {α β : Type} {d : Kd α} {e base n n' cc g N : Nat} {ok ok' okp S : Nat → Prop} {w w0 w1 W W1 : World} {A A' : Option Addr} {u v v1 : Value} {xs : List α} {xs' : List β} {d' : Kd β} {x : α} {c : List Value}
theorem emptied (W : World) (g : Nat) : ∃ W' : World, (∀ k, k ≠ g → W'.heap[k]? = W.heap[k]?) ∧ ∀ a : Addr, a.block = g → W'.cell? a = none := by
  refine ⟨{ W with heap := W.heap.setIfInBounds g (.cells #[] 0) }, fun k hk => by simp [Ne.symm hk], fun a ha => ?_⟩
  subst ha
  by_cases hlt : a.block < W.heap.size
  · simp [World.cell?, hlt]
  · simp [World.cell?, hlt]
end
end Kd
end Go.Proofs.YtemeapfnfegkiaaW.PrintWords
end
section
namespace Go.Proofs.YtemeapfnfegkiaaW.PrintWords
open Go.RowKit
namespace Kd
section
variable {α : Type} {d : Kd α} {e base n cc g : Nat} {ok ok' okp S : Nat → Prop} {w w1 W W1 : World} {A : Option Addr} {u v v1 : Value} {xs : List α} {x : α} {c : List Value}
theorem F_get (h : F d W ok A n xs) (z : α) (i : Int) (h0 : 0 ≤ i) (h1 : i < n) :
    ∃ ad c, A = some ad ∧ c.length = d.sz ∧ FK d W ok (xs.getD i.toNat z) c ∧ (∀ j u, c[j]? = some u → W.cell? (ad.add (i.toNat * d.sz + j)) = some u) ∧ (0 < d.sz → ok ad.block) := by
  obtain ⟨ad, c, rfl, hcl, hK, hcc⟩ := C_get (F_now h) z i h0 h1
  have hin : 0 < d.sz → ok ad.block := by
    intro hs
    by_cases hk : ok ad.block
    · exact hk
    · obtain ⟨W', h2, h3⟩ := emptied W ad.block
      obtain ⟨ad', c', he, hcl', _, hcc'⟩ := C_get (h W' (fun k hk' _ => h2 k (fun e => hk (e ▸ hk')))) z i h0 h1
      injection he with he
      subst he
      have h4 := hcc' 0 _ (List.getElem?_eq_getElem (by omega))
      rw [h3 _ (add_block _ _)] at h4
      cases h4
  refine ⟨ad, c, rfl, hcl, fun W' hW => ?_, hcc, hin⟩
  obtain ⟨ad', c', he, hcl', hK', hcc'⟩ := C_get (h W' hW) z i h0 h1
  injection he with he
  subst he
  have hc : c = c' := by
    apply List.ext_getElem?
    intro j
    by_cases hj : j < d.sz
    · have hb : W'.heap[ad.block]? = W.heap[ad.block]? := by
        have h5 := hcc j _ (List.getElem?_eq_getElem (by omega))
        have h6 := World.block_lt_of_cell? W _ h5
        rw [add_block] at h6
        exact hW _ (hin (by omega)) h6
      have h5 := hcc j _ (List.getElem?_eq_getElem (by omega))
      have h6 := hcc' j _ (List.getElem?_eq_getElem (by omega))
      have h7 : W'.cell? (ad.add (i.toNat * d.sz + j)) = W.cell? (ad.add (i.toNat * d.sz + j)) := by simp [World.cell?, add_block, hb]
      rw [h7, h5] at h6
      rw [List.getElem?_eq_getElem (by omega), List.getElem?_eq_getElem (by omega)]
      exact h6
    · rw [List.getElem?_eq_none (by omega), List.getElem?_eq_none (by omega)]
  rw [hc]
  exact hK'
theorem N_F {n : Nat} (h : N d e w base ok (.slice A n cc) xs) : F d w ok A n xs := fun W' hW => by
  have h2 := N_reads' (N_step h hW)
  rw [h2.1]
  exact h2.2.2
end
end Kd
end Go.Proofs.YtemeapfnfegkiaaW.PrintWords
end
section
namespace Go.Proofs.Ytemeapfnfegkiaa.PR
open Go.RowKit Go.Proofs.YtemeapfnfegkiaaW.PrintWords Go.Proofs.YtemeapfnfegkiaaW.PrintLast Go.Proofs.YtemeapfnfegkiaaW.PrintMore
attribute [local go_sem] max2_int min2_int max_two min_two max_three min_three max_four min_four   -- for this text's walks alone
set_option linter.unusedVariables false
set_option linter.unusedSimpArgs false

mutual
def helioscoperef01_All.l0 : Nat → List (List Int) → List (S57) → Int → ByteArray → Int → Int → Int → List (S80) → List (S52) → Option ((List (S57)))
 | 0, _, _, _, _, _, _, _, _, _ => none
 | k + 1, x3, x4, x5, x186000, x186001, x186002, x186003, x186004, x186005 => if x5 ≤ x186003 then (helioscoperef01_All.l1 k x3 x4 x5 0 x186000 x186001 x186002 x186003 x186004 x186005) else (some x4)
def helioscoperef01_All.l1 : Nat → List (List Int) → List (S57) → Int → Int → ByteArray → Int → Int → Int → List (S80) → List (S52) → Option ((List (S57)))
 | 0, _, _, _, _, _, _, _, _, _, _ => none
 | k + 1, x3, x4, x5, x6, x186000, x186001, x186002, x186003, x186004, x186005 => if x6 < (x3.length : Int) then (if 0 ≤ x6 then ((helioscoperef01_grouped.f k x186000 x186001 x186002 x186003 x186004 x186005 x5 (rd_L4 x3 x6)).bind fun t190 => (if x4.length < 4398046511104 then (helioscoperef01_All.l1 k x3 (x4 ++ [(⟨x5, t190⟩ : S57)]) x5 (wrap64 (x6 + 1)) x186000 x186001 x186002 x186003 x186004 x186005) else (none))) else (none)) else (helioscoperef01_All.l0 k x3 x4 (wrap64 (x5 + 1)) x186000 x186001 x186002 x186003 x186004 x186005)
end
def helioscoperef01_All.f (k : Nat) (a0_0 : ByteArray) (a0_1 : Int) (a0_2 : Int) (a0_3 : Int) (l0_4 : List (S80)) (l0_5 : List (S52)) : Option ((List (S57))) := (helioscoperef01_sets.f k a0_0 a0_1 a0_2 a0_3 l0_4 l0_5).bind fun t186 => (helioscoperef01_All.l0 k t186 ([] : List (S57)) a0_2 a0_0 a0_1 a0_2 a0_3 l0_4 l0_5)
def helioscoperef01_All.T9 : Bool × List (List Nat × List Nat) := (true, [([], []), ([], []), ([], []), ([], []), ([], []), ([], []), ([4, 5], [4, 5]), ([6], [6]), ([2, 3, 7], [2, 3, 7]), ([1, 8], [1, 8]), ([9], [9]), ([0, 10, 8], [0, 10]), ([11, 11, 0, 1, 2, 3, 4, 5, 6, 7, 8, 9, 10, 11], [0, 11])])
def helioscoperef01_All.B9 : List Nat := [0, 0, 0, 0, 0, 0, 48, 112, 252, 510, 1022, 2047, 4095]
theorem helioscoperef01_All.tab9 : rtab .any (opsOf Try.f110 9) = helioscoperef01_All.T9 := by kernel_rfl
theorem helioscoperef01_All.bits9 : waitsOk helioscoperef01_All.T9.2 helioscoperef01_All.B9 = true := by kernel_rfl
set_option maxHeartbeats 8000000 in
set_option maxRecDepth 100000 in
theorem helioscoperef01_All.calls (k : Nat) (a0_0 : ByteArray) (a0_1 : Int) (a0_2 : Int) (a0_3 : Int) (A0_4 : Option Addr) (c0_4 : Nat) (l0_4 : List (S80)) (A0_5 : Option Addr) (c0_5 : Nat) (l0_5 : List (S52)) (r : List (S57)) (w : World) (hr0_4 : Kd.C k80 w A0_4 l0_4.length l0_4) (hc0_4 : l0_4.length ≤ c0_4) (hr0_5 : Kd.C k52 w A0_5 l0_5.length l0_5) (hc0_5 : l0_5.length ≤ c0_5) (h : helioscoperef01_All.f k a0_0 a0_1 a0_2 a0_3 l0_4 l0_5 = some r) :
  Calls Try.prog 110 #[.agg #[.string a0_0, .int .i64 a0_1, .int .i64 a0_2, .int .i64 a0_3, .slice A0_4 l0_4.length c0_4, .slice A0_5 l0_5.length c0_5]] w fun e w' => ∃ v0_ : Value, e = .returned (v0_) ∧ Kd.N k57 57 w' w.heap.size (fun k_ => (w.heap.size ≤ k_)) v0_ r ∧ Below w.heap.size w w' := by
 have hu27 := Try.underlying27
 have hu57 := Try.underlying57
 have HR0_4 := Aside0.mk hr0_4
 have HC0_4 := Aside0.mk hc0_4
 clear hr0_4 hc0_4
 have HR0_5 := Aside0.mk hr0_5
 have HC0_5 := Aside0.mk hc0_5
 clear hr0_5 hc0_5
 have HB := Aside0.mk (Below.refl w.heap.size w)
 have H : ((helioscoperef01_sets.f k a0_0 a0_1 a0_2 a0_3 l0_4 l0_5).bind fun t186 => (helioscoperef01_All.l0 k t186 ([] : List (S57)) a0_2 a0_0 a0_1 a0_2 a0_3 l0_4 l0_5)) = some r := h
 clear h
 replace H := Option.bind_eq_some_iff.mp H
 obtain ⟨t186, A20, H⟩ := H
 replace H : (helioscoperef01_All.l0 k t186 ([] : List (S57)) a0_2 a0_0 a0_1 a0_2 a0_3 l0_4 l0_5) = some r := H
 have A2 := Aside0.mk A20
 clear A20
 have H' := Aside0.mk H
 clear H
 go_enter Try.func110, Try.ntmps110
 go_wp2_with (first | ((with_reducible refine gate_dst (N := 1) rfl ?_); refine box_event ?hg (N := 1) ?hd (cs := #[.string a0_0, .int .i64 a0_1, .int .i64 a0_2, .int .i64 a0_3, .slice A0_4 l0_4.length c0_4, .slice A0_5 l0_5.length c0_5]) (t := 27) ?hr ?_; (case hd => rfl); (case hg => rfl); (case hr => first | (go_simp; done) | (go_simp; rfl)); intro gb185 hg w3 hbox hb; have n0_ := Aside0.mk (below_step (by repeat (first | (with_reducible first | exact HB.out | apply below_alloc | apply pw_below_drewN | apply below_drew1) | exact HB.out)) hb); have n1_ := Aside0.mk (hbox); have n2_ := Aside0.mk ((by rw [hg]; exact (below_size (by repeat (first | (with_reducible first | exact HB.out | apply below_alloc | apply pw_below_drewN | apply below_drew1) | exact HB.out))) : w.heap.size ≤ gb185)); have n3_ := Aside0.mk ((by rw [hg]; exact (below_size (by repeat (first | (with_reducible first | exact HB.out | apply below_alloc | apply pw_below_drewN | apply below_drew1) | exact HB.out))) : w.heap.size ≤ gb185)); clear HB; have HB := n0_; have BK185 := n1_; have GW185 := n2_; have GE185 := n3_; clear n0_ n1_ n2_ n3_; clear hb hbox hg; have hcz4_0 : w3.cell? ⟨gb185, 0, none⟩ = some (.string a0_0) := (blk_cell BK185.out 0).trans rfl; have hcz4_1 : w3.cell? ⟨gb185, 1, none⟩ = some (.int .i64 a0_1) := (blk_cell BK185.out 1).trans rfl; have hcz4_2 : w3.cell? ⟨gb185, 2, none⟩ = some (.int .i64 a0_2) := (blk_cell BK185.out 2).trans rfl; have hcz4_3 : w3.cell? ⟨gb185, 3, none⟩ = some (.int .i64 a0_3) := (blk_cell BK185.out 3).trans rfl; have hcz4_4 : w3.cell? ⟨gb185, 4, none⟩ = some (.slice A0_4 l0_4.length c0_4) := (blk_cell BK185.out 4).trans rfl; have hcz4_5 : w3.cell? ⟨gb185, 5, none⟩ = some (.slice A0_5 l0_5.length c0_5) := (blk_cell BK185.out 5).trans rfl; have hfz4_0 := blk_frozen BK185.out 0; have hfz4_1 := blk_frozen BK185.out 1; have hfz4_2 := blk_frozen BK185.out 2; have hfz4_3 := blk_frozen BK185.out 3; have hfz4_4 := blk_frozen BK185.out 4; have hfz4_5 := blk_frozen BK185.out 5) | ((with_reducible refine gate_callee (f := 125) rfl ?_); refine goesL_ (some 8) rfl rfl Try.func125 (by kernel_rfl) rfl #[.agg #[.string a0_0, .int .i64 a0_1, .int .i64 a0_2, .int .i64 a0_3, .slice A0_4 l0_4.length c0_4, .slice A0_5 l0_5.length c0_5]] rfl (by (try simp only [List.map_toArray, List.map_cons, List.map_nil]); first | done | rfl | (simp only [List.length_drop, List.length_take]; rfl)) ?_; (with_reducible refine (helioscoperef01_sets.calls k a0_0 a0_1 a0_2 a0_3 _ _ l0_4 _ _ l0_5 t186 _ ?side1 ?side2 ?side3 ?side4 A2.out).mono ?_); (case side1 => repeat (first | exact (Kd.C_below HR0_4.out HB.out) | (with_reducible refine Kd.C_alloc ?_ _) | (with_reducible refine Kd.C_drewN ?_ _) | (with_reducible refine Kd.C_drew ?_))); (case side2 => exact HC0_4.out); (case side3 => repeat (first | exact (Kd.C_below HR0_5.out HB.out) | (with_reducible refine Kd.C_alloc ?_ _) | (with_reducible refine Kd.C_drewN ?_ _) | (with_reducible refine Kd.C_drew ?_))); (case side4 => exact HC0_5.out); rintro e w5 ⟨v187, rfl, ho0, hb⟩; refine ⟨_, rfl, ?_⟩; have n0_ := Aside0.mk (Kd.N_lower (Kd.N_mono (ok' := fun k_ => (w.heap.size ≤ k_) ∧ k_ ≠ gb185) ho0 (fun k_ hk_ => ⟨(Nat.le_trans (below_size (by repeat (first | (with_reducible first | exact HB.out | apply below_alloc | apply pw_below_drewN | apply below_drew1 | refine below_set ?_ GE185.out) | exact HB.out))) hk_), (Kd.freshB (g := gb185) (o := .cells #[.string a0_0, .int .i64 a0_1, .int .i64 a0_2, .int .i64 a0_3, .slice A0_4 l0_4.length c0_4, .slice A0_5 l0_5.length c0_5] 27 (0, 0)) (by (with_reducible repeat (first | refine blk_drewN ?_ _ | refine blk_drew ?_ | refine blk_alloc ?_ _)); exact BK185.out) k_ hk_)⟩)) (below_size (by repeat (first | (with_reducible first | exact HB.out | apply below_alloc | apply pw_below_drewN | apply below_drew1 | refine below_set ?_ GE185.out) | exact HB.out)))); have n1_ := Aside0.mk (blk_below (g := gb185) (o := .cells #[.string a0_0, .int .i64 a0_1, .int .i64 a0_2, .int .i64 a0_3, .slice A0_4 l0_4.length c0_4, .slice A0_5 l0_5.length c0_5] 27 (0, 0)) (by (with_reducible repeat (first | refine blk_drewN ?_ _ | refine blk_drew ?_ | refine blk_alloc ?_ _)); exact BK185.out) hb); have n2_ := Aside0.mk (below_step (by repeat (first | (with_reducible first | exact HB.out | apply below_alloc | apply pw_below_drewN | apply below_drew1 | refine below_set ?_ GE185.out) | exact HB.out)) hb); clear BK185; clear HB; have HO188 := n0_; have BK185 := n1_; have HB := n2_; clear n0_ n1_ n2_; (try clear hb); (try clear hb2); (try clear hk); (try clear hi); (try clear ho0); have hcz6_0 : w5.cell? ⟨gb185, 0, none⟩ = some (.string a0_0) := (blk_cell BK185.out 0).trans rfl; have hcz6_1 : w5.cell? ⟨gb185, 1, none⟩ = some (.int .i64 a0_1) := (blk_cell BK185.out 1).trans rfl; have hcz6_2 : w5.cell? ⟨gb185, 2, none⟩ = some (.int .i64 a0_2) := (blk_cell BK185.out 2).trans rfl; have hcz6_3 : w5.cell? ⟨gb185, 3, none⟩ = some (.int .i64 a0_3) := (blk_cell BK185.out 3).trans rfl; have hcz6_4 : w5.cell? ⟨gb185, 4, none⟩ = some (.slice A0_4 l0_4.length c0_4) := (blk_cell BK185.out 4).trans rfl; have hcz6_5 : w5.cell? ⟨gb185, 5, none⟩ = some (.slice A0_5 l0_5.length c0_5) := (blk_cell BK185.out 5).trans rfl; have hfz6_0 := blk_frozen BK185.out 0; have hfz6_1 := blk_frozen BK185.out 1; have hfz6_2 := blk_frozen BK185.out 2; have hfz6_3 := blk_frozen BK185.out 3; have hfz6_4 := blk_frozen BK185.out 4; have hfz6_5 := blk_frozen BK185.out 5))
 go_loopg [4, 5] k (fun kq v4 v5 w' => ∃ (x4_1 : List (S57)) (x5_1 : Int), v5 = .int .i64 x5_1 ∧ Aside0 (helioscoperef01_All.l0 kq t186 x4_1 x5_1 a0_0 a0_1 a0_2 a0_3 l0_4 l0_5 = some r) ∧ Aside0 (kq ≤ k) ∧ Aside0 (Kd.N (Kd.slice 3 (Kd.int .i64)) 46 w' w.heap.size (fun k_ => (w.heap.size ≤ k_) ∧ some k_ ≠ (v4 : Value).ownBlock ∧ k_ ≠ gb185) v187 t186) ∧ Aside0 (Kd.N k57 57 w' w.heap.size (fun k_ => (w.heap.size ≤ k_) ∧ some k_ ≠ (v187 : Value).ownBlock ∧ k_ ≠ gb185) v4 x4_1) ∧ Aside0 (w'.heap[gb185]? = some (.cells #[.string a0_0, .int .i64 a0_1, .int .i64 a0_2, .int .i64 a0_3, (.slice A0_4 l0_4.length c0_4), (.slice A0_5 l0_5.length c0_5)] 27 (0, 0))) ∧ Aside0 (Below w.heap.size w w'))
 case atStart => exact ⟨(([] : List (S57))), (a0_2), (by first | rfl | (simp; done) | (simp [*]; done)), H', ⟨Nat.le_refl _⟩, ⟨by (with_reducible repeat (first | apply Kd.N_alloc | apply Kd.N_drewN | apply Kd.N_drew)); exact Kd.N_mono HO188.out (fun _ hk => ⟨hk.1, ⟨(by simp [Value.ownBlock]), hk.2⟩⟩)⟩, ⟨by first | exact Kd.S_nil _ _ _ _ _ | exact Kd.N_nil _ _ _ _ _ | exact Kd.V_nil _ _ _ _ _ | exact Kd.Q_nil _ _ _ _ _ | exact Kd.R_nil _ _ _ _ _⟩, ⟨by (with_reducible repeat (first | refine blk_drewN ?_ _ | refine blk_drew ?_ | refine blk_alloc ?_ _)); exact BK185.out⟩, ⟨by repeat (first | (with_reducible first | exact HB.out | apply below_alloc | apply pw_below_drewN | apply below_drew1 | refine below_set ?_ GE185.out) | exact HB.out)⟩⟩
 case round =>
  clear H'
  try clear c1
  try clear p2
  try clear hcz4_0
  try clear hcz4_1
  try clear hcz4_2
  try clear hcz4_3
  try clear hcz4_4
  try clear hcz4_5
  try clear hcz6_0
  try clear hcz6_1
  try clear hcz6_2
  try clear hcz6_3
  try clear hcz6_4
  try clear hcz6_5
  try clear hfz4_0
  try clear hfz4_1
  try clear hfz4_2
  try clear hfz4_3
  try clear hfz4_4
  try clear hfz4_5
  try clear hfz6_0
  try clear hfz6_1
  try clear hfz6_2
  try clear hfz6_3
  try clear hfz6_4
  try clear hfz6_5
  obtain ⟨x4_1, x5_1, rfl, HA, HK1, HO_3, HO_4, BK185, HB⟩ := hrel
  cases gk with
  | zero => exact absurd HA.out (by simp [helioscoperef01_All.l0])
  | succ k1 =>
   have H := HA.out
   clear HA
   simp only [helioscoperef01_All.l0] at H
   by_cases c7 : x5_1 ≤ a0_3
   ·
    rw [if_pos c7] at H
    have c7b0 : decide (x5_1 ≤ a0_3) = true := decide_eq_true c7
    clear c7
    have H' := Aside0.mk H
    clear H
    have hcz8_0 : wr.cell? ⟨gb185, 0, none⟩ = some (.string a0_0) := (blk_cell BK185.out 0).trans rfl
    have hcz8_1 : wr.cell? ⟨gb185, 1, none⟩ = some (.int .i64 a0_1) := (blk_cell BK185.out 1).trans rfl
    have hcz8_2 : wr.cell? ⟨gb185, 2, none⟩ = some (.int .i64 a0_2) := (blk_cell BK185.out 2).trans rfl
    have hcz8_3 : wr.cell? ⟨gb185, 3, none⟩ = some (.int .i64 a0_3) := (blk_cell BK185.out 3).trans rfl
    have hcz8_4 : wr.cell? ⟨gb185, 4, none⟩ = some (.slice A0_4 l0_4.length c0_4) := (blk_cell BK185.out 4).trans rfl
    have hcz8_5 : wr.cell? ⟨gb185, 5, none⟩ = some (.slice A0_5 l0_5.length c0_5) := (blk_cell BK185.out 5).trans rfl
    have hfz8_0 := blk_frozen BK185.out 0
    have hfz8_1 := blk_frozen BK185.out 1
    have hfz8_2 := blk_frozen BK185.out 2
    have hfz8_3 := blk_frozen BK185.out 3
    have hfz8_4 := blk_frozen BK185.out 4
    have hfz8_5 := blk_frozen BK185.out 5
    go_wp2
    go_loopg [4, 6] k1 (fun kq v4 v6 w' => ∃ (x4_2 : List (S57)) (x6_2 : Int), v6 = .int .i64 x6_2 ∧ Aside0 (helioscoperef01_All.l1 kq t186 x4_2 x5_1 x6_2 a0_0 a0_1 a0_2 a0_3 l0_4 l0_5 = some r) ∧ Aside0 (kq ≤ k1) ∧ Aside0 (Kd.N (Kd.slice 3 (Kd.int .i64)) 46 w' w.heap.size (fun k_ => (w.heap.size ≤ k_) ∧ some k_ ≠ (v4 : Value).ownBlock ∧ k_ ≠ gb185) v187 t186) ∧ Aside0 (Kd.N k57 57 w' w.heap.size (fun k_ => (w.heap.size ≤ k_) ∧ some k_ ≠ (v187 : Value).ownBlock ∧ k_ ≠ gb185) v4 x4_2) ∧ Aside0 (w'.heap[gb185]? = some (.cells #[.string a0_0, .int .i64 a0_1, .int .i64 a0_2, .int .i64 a0_3, (.slice A0_4 l0_4.length c0_4), (.slice A0_5 l0_5.length c0_5)] 27 (0, 0))) ∧ Aside0 (Below w.heap.size w w'))
    case atStart => exact ⟨(x4_1), (0), (by first | rfl | (simp; done) | (simp [*]; done)), H', ⟨Nat.le_refl _⟩, ⟨by (with_reducible repeat (first | apply Kd.N_alloc | apply Kd.N_drewN | apply Kd.N_drew)); exact HO_3.out⟩, ⟨by (with_reducible repeat (first | apply Kd.N_alloc | apply Kd.N_drewN | apply Kd.N_drew)); exact HO_4.out⟩, ⟨by (with_reducible repeat (first | refine blk_drewN ?_ _ | refine blk_drew ?_ | refine blk_alloc ?_ _)); exact BK185.out⟩, ⟨by repeat (first | (with_reducible first | exact HB.out | apply below_alloc | apply pw_below_drewN | apply below_drew1 | refine below_set ?_ GE185.out) | exact HB.out)⟩⟩
    case round =>
     clear H'
     try clear c1
     try clear p2
     try clear c7
     try clear c7b0
     try clear hcz4_0
     try clear hcz4_1
     try clear hcz4_2
     try clear hcz4_3
     try clear hcz4_4
     try clear hcz4_5
     try clear hcz6_0
     try clear hcz6_1
     try clear hcz6_2
     try clear hcz6_3
     try clear hcz6_4
     try clear hcz6_5
     try clear hcz8_0
     try clear hcz8_1
     try clear hcz8_2
     try clear hcz8_3
     try clear hcz8_4
     try clear hcz8_5
     try clear hfz4_0
     try clear hfz4_1
     try clear hfz4_2
     try clear hfz4_3
     try clear hfz4_4
     try clear hfz4_5
     try clear hfz6_0
     try clear hfz6_1
     try clear hfz6_2
     try clear hfz6_3
     try clear hfz6_4
     try clear hfz6_5
     try clear hfz8_0
     try clear hfz8_1
     try clear hfz8_2
     try clear hfz8_3
     try clear hfz8_4
     try clear hfz8_5
     try clear p2
     obtain ⟨x4_2, x6_2, rfl, HA, HK2, HO_3, HO_4, BK185, HB⟩ := hrel
     cases gk with
     | zero => exact absurd HA.out (by simp [helioscoperef01_All.l1])
     | succ k2 =>
      have H := HA.out
      clear HA
      simp only [helioscoperef01_All.l1] at H
      by_cases c9 : x6_2 < (t186.length : Int)
      ·
       rw [if_pos c9] at H
       have c9b0 : decide (x6_2 < (t186.length : Int)) = true := decide_eq_true c9
       clear c9
       by_cases c10 : 0 ≤ x6_2
       ·
        rw [if_pos c10] at H
        have c10b0 : decide (0 ≤ x6_2) = true := decide_eq_true c10
        clear c10
        replace H := Option.bind_eq_some_iff.mp H
        obtain ⟨t190, A110, H⟩ := H
        replace H : (if x4_2.length < 4398046511104 then (helioscoperef01_All.l1 k2 t186 (x4_2 ++ [(⟨x5_1, t190⟩ : S57)]) x5_1 (wrap64 (x6_2 + 1)) a0_0 a0_1 a0_2 a0_3 l0_4 l0_5) else (none)) = some r := H
        have A11 := Aside0.mk A110
        clear A110
        by_cases c12 : x4_2.length < 4398046511104
        ·
         rw [if_pos c12] at H
         have LMc12 := Aside0.mk c12
         clear c12
         obtain ⟨y193, hy193⟩ : ∃ y_ : List (S57), y_ = (x4_2 ++ [(⟨x5_1, t190⟩ : S57)]) := ⟨_, rfl⟩
         replace H : (helioscoperef01_All.l1 k2 t186 y193 x5_1 (wrap64 (x6_2 + 1)) a0_0 a0_1 a0_2 a0_3 l0_4 l0_5) = some r := by first | (rw [hy193]; with_reducible exact H) | (have H2_ := (Option.bind_some _ _).symm.trans H; rw [hy193]; with_reducible exact H2_) | (have H2_ := (Option.bind_some _ _).symm.trans H; with_reducible exact H2_) | with_reducible exact H | (rw [hy193]; exact H) | exact H
         have Ny193 := Aside0.mk hy193
         clear hy193
         have H' := Aside0.mk H
         clear H
         obtain ⟨Ao13, co13, eo13⟩ := Kd.N_slice HO_3.out
         subst eo13
         try go_wp2
         have n0_ := Aside0.mk (Kd.N_drew HO_3.out)
         have n1_ := Aside0.mk (Kd.N_drew HO_4.out)
         have n2_ := Aside0.mk (blk_drew BK185.out)
         have n3_ := Aside0.mk (below_drew1 HB.out)
         clear HO_3
         clear HO_4
         clear BK185
         clear HB
         have HO_3 := n0_
         have HO_4 := n1_
         have BK185 := n2_
         have HB := n3_
         clear n0_ n1_ n2_ n3_
         have p189 : 0 ≤ (x6_2 : Int) := of_decide_eq_true (by first | (with_reducible assumption) | assumption)
         have q189 : x6_2 < (t186.length : Int) := of_decide_eq_true (by first | (with_reducible assumption) | assumption)
         obtain ⟨ad189, A189_0, c189_0, e189, hx189_0, hl189_0, hi189_0⟩ := at_L4 (Kd.N_reads' HO_3.out).2.2 x6_2 p189 q189
         cases e189
         obtain ⟨ce189, hce189, hMe189, hcc189⟩ := Kd.N_get HO_3.out [] x6_2 p189 (by first | exact q189 | exact of_decide_eq_true (by first | (with_reducible assumption) | assumption) | (have e_ := (Kd.N_reads' HO_3.out).1; omega))
         obtain ⟨ua189_0, uc189_0, rfl, ul189_0, ge189_0⟩ := Kd.FK_slice_open hMe189
         have hv189_0 := hcc189 0 _ rfl
         rw [Nat.add_zero, show ((Kd.slice 3 (Kd.int .i64))).sz = 1 from rfl, Nat.mul_one] at hv189_0
         replace hv189_0 := Option.some.inj (hv189_0.symm.trans hx189_0)
         injection hv189_0 with hva_ hvn_ hvc_
         rw [hva_] at ge189_0
         rw [hvc_] at ul189_0
         have HL189_0 := Aside0.mk (show Kd.V (Kd.int .i64) 3 _ w.heap.size _ _ (rd_L4 t186 x6_2) from Kd.V_mk ul189_0 ge189_0)
         clear hva_ hvn_ hvc_ ge189_0 ul189_0
         clear hcc189 hce189
         have HR189_0 := Aside0.mk hi189_0
         have HC189_0 := Aside0.mk hl189_0
         clear hi189_0 hl189_0
         replace p189 := eq_true p189
         replace q189 := eq_true q189
         refine start_ (n := 13) (S := fun w' => w'.cell? ⟨gb185, 0, none⟩ = some (.string a0_0) ∧ w'.cell? ⟨gb185, 1, none⟩ = some (.int .i64 a0_1) ∧ w'.cell? ⟨gb185, 2, none⟩ = some (.int .i64 a0_2) ∧ w'.cell? ⟨gb185, 3, none⟩ = some (.int .i64 a0_3) ∧ w'.cell? ⟨gb185, 4, none⟩ = some (.slice A0_4 l0_4.length c0_4) ∧ w'.cell? ⟨gb185, 5, none⟩ = some (.slice A0_5 l0_5.length c0_5) ∧ w'.cell? (ad189.add (x6_2).toNat) = some (.slice A189_0 (rd_L4 t186 x6_2).length c189_0)) (ds := [10, 11]) #[false, false, false, false, false, false, false, false, false, false, false, false, false] (by kernel_rfl) rfl rfl ⟨(blk_cell BK185.out 0).trans rfl, (blk_cell BK185.out 1).trans rfl, (blk_cell BK185.out 2).trans rfl, (blk_cell BK185.out 3).trans rfl, (blk_cell BK185.out 4).trans rfl, (blk_cell BK185.out 5).trans rfl, hx189_0⟩ (fun hHeld => ?_); refine with_tabW helioscoperef01_All.tab9 helioscoperef01_All.bits9 (fun HT_ HW_ => ?_)
         generalize wr.drew = w14 at HO_3 HO_4 BK185 HB HL189_0 HR189_0 hx189_0 hHeld ⊢
         refine pure_ (i := 0) (N := some 25) (v := ?_) (a' := ?_) #[true, false, false, false, false, false, false, false, false, false, false, false, false] rfl rfl (any_of HT_.out (by kernel_rfl)) (fun _ _ _ h => h) (Or.inl ⟨by rfl, ?_⟩) ?_ ?_
         rotate_left
         ·
          intro w'
          go_simp
          with_reducible rfl
         rotate_left
         ·
          simp only [Act.put, List.setIfInBounds_toArray, List.set_cons_zero, List.set_cons_succ, i64_w, i32_w]
          rfl
         refine pure_ (i := 1) (N := some 26) (v := ?_) (a' := ?_) #[true, true, false, false, false, false, false, false, false, false, false, false, false] rfl rfl (any_of HT_.out (by kernel_rfl)) (fun _ _ _ h => h) (Or.inl ⟨by rfl, ?_⟩) ?_ ?_
         rotate_left
         ·
          intro w'
          go_simp
          with_reducible rfl
         rotate_left
         ·
          simp only [Act.put, List.setIfInBounds_toArray, List.set_cons_zero, List.set_cons_succ, i64_w, i32_w]
          rfl
         refine pure_ (i := 3) (N := some 28) (v := ?_) (a' := ?_) #[true, true, false, true, false, false, false, false, false, false, false, false, false] rfl rfl (any_of HT_.out (by kernel_rfl)) (fun _ _ _ h => h) (Or.inl ⟨by rfl, ?_⟩) ?_ ?_
         rotate_left
         ·
          intro w'
          go_simp
          with_reducible rfl
         rotate_left
         ·
          simp only [Act.put, List.setIfInBounds_toArray, List.set_cons_zero, List.set_cons_succ, i64_w, i32_w]
          rfl
         refine pure_ (i := 4) (N := some 29) (v := ?_) (a' := ?_) #[true, true, false, true, true, false, false, false, false, false, false, false, false] rfl rfl (any_of HT_.out (by kernel_rfl)) (fun _ _ _ h => h) (Or.inl ⟨by rfl, ?_⟩) ?_ ?_
         rotate_left
         ·
          intro w'
          go_simp
          with_reducible rfl
         rotate_left
         ·
          simp only [Act.put, List.setIfInBounds_toArray, List.set_cons_zero, List.set_cons_succ, i64_w, i32_w]
          rfl
         refine pure_ (i := 5) (N := some 30) (v := ?_) (a' := ?_) #[true, true, false, true, true, true, false, false, false, false, false, false, false] rfl rfl (any_of HT_.out (by kernel_rfl)) (fun _ _ _ h => h) (Or.inl ⟨by rfl, ?_⟩) ?_ ?_
         rotate_left
         ·
          intro w'
          go_simp
          with_reducible rfl
         rotate_left
         ·
          simp only [Act.put, List.setIfInBounds_toArray, List.set_cons_zero, List.set_cons_succ, i64_w, i32_w]
          rfl
         refine pure_ (i := 6) (N := some 31) (v := ?_) (a' := ?_) #[true, true, false, true, true, true, true, false, false, false, false, false, false] rfl rfl (any_of HT_.out (by kernel_rfl)) (fun _ _ _ h => h) (Or.inl ⟨by rfl, ?_⟩) ?_ ?_
         rotate_left
         ·
          intro w'
          go_simp
          with_reducible rfl
         rotate_left
         ·
          simp only [Act.put, List.setIfInBounds_toArray, List.set_cons_zero, List.set_cons_succ, i64_w, i32_w]
          rfl
         refine take_ (i := 2) (N := some 27) (v := ?_) (a' := ?_) #[true, true, true, true, true, true, true, false, false, false, false, false, false] rfl rfl (take_ofW HT_.out HW_.out (by kernel_rfl)) (fun _ _ _ h => h) (Or.inl ⟨by rfl, ?_⟩) hHeld ?_ ?_
         rotate_left
         ·
          rintro w' ⟨s0, s1, s2, s3, s4, s5, s6⟩
          go_simp
          with_reducible rfl
         rotate_left
         ·
          simp only [Act.put, List.setIfInBounds_toArray, List.set_cons_zero, List.set_cons_succ, i64_w, i32_w]
          rfl
         refine take_ (i := 7) (N := some 32) (v := ?_) (a' := ?_) #[true, true, true, true, true, true, true, true, false, false, false, false, false] rfl rfl (take_ofW HT_.out HW_.out (by kernel_rfl)) (fun _ _ _ h => h) (Or.inl ⟨by rfl, ?_⟩) hHeld ?_ ?_
         rotate_left
         ·
          rintro w' ⟨s0, s1, s2, s3, s4, s5, s6⟩
          go_simp
          with_reducible rfl
         rotate_left
         ·
          simp only [Act.put, List.setIfInBounds_toArray, List.set_cons_zero, List.set_cons_succ, i64_w, i32_w]
          rfl
         refine one_ (i := 8) (N := some 33) #[true, true, true, true, true, true, true, true, true, false, false, false, false] rfl rfl (one_of HT_.out (by kernel_rfl)) (by decide) (fun K hK => ?_)
         refine goes_ Try.func126 (by kernel_rfl) rfl #[.agg #[.string a0_0, .int .i64 a0_1, .int .i64 a0_2, .int .i64 a0_3, .slice A0_4 l0_4.length c0_4, .slice A0_5 l0_5.length c0_5], .int .i64 x5_1, .slice A189_0 (rd_L4 t186 x6_2).length c189_0] (by rfl) rfl rfl (by (try simp only [List.map_toArray, List.map_cons, List.map_nil]); first | done | rfl | (simp only [List.length_drop, List.length_take]; rfl)) ?_
         with_reducible refine (helioscoperef01_grouped.calls k2 a0_0 a0_1 a0_2 a0_3 _ _ l0_4 _ _ l0_5 x5_1 _ _ (rd_L4 t186 x6_2) t190 _ ?side1 ?side2 ?side3 ?side4 ?side5 ?side6 A11.out).mono ?_
         (case side1 => repeat (first | exact (Kd.C_below HR0_4.out HB.out) | (with_reducible refine Kd.C_alloc ?_ _) | (with_reducible refine Kd.C_drewN ?_ _) | (with_reducible refine Kd.C_drew ?_)))
         (case side2 => exact HC0_4.out)
         (case side3 => repeat (first | exact (Kd.C_below HR0_5.out HB.out) | (with_reducible refine Kd.C_alloc ?_ _) | (with_reducible refine Kd.C_drewN ?_ _) | (with_reducible refine Kd.C_drew ?_)))
         (case side4 => exact HC0_5.out)
         (case side5 => repeat (first | exact (by repeat (first | (with_reducible exact HR189_0.out) | (with_reducible refine Kd.C_alloc ?_ _) | (with_reducible refine Kd.C_drewN ?_ _) | (with_reducible refine Kd.C_drew ?_) | exact HR189_0.out)) | (with_reducible refine Kd.C_alloc ?_ _) | (with_reducible refine Kd.C_drewN ?_ _) | (with_reducible refine Kd.C_drew ?_)))
         (case side6 => exact HC189_0.out)
         rintro e w15 ⟨v191, rfl, ho0, hb⟩
         have HS6_ := (hb.cell (World.block_lt_of_cell? _ _ (hHeld.2.2.2.2.2.2))).trans (hHeld.2.2.2.2.2.2)
         refine ⟨_, rfl, ?_⟩
         have n0_ := Aside0.mk (Kd.N_elder' (by (with_reducible repeat (first | apply Kd.N_alloc | apply Kd.N_drewN | apply Kd.N_drew)); exact HO_3.out) (Kd.R_base ho0) hb)
         have n1_ := Aside0.mk (Kd.N_elder' (by (with_reducible repeat (first | apply Kd.N_alloc | apply Kd.N_drewN | apply Kd.N_drew)); exact HO_4.out) (Kd.R_base ho0) hb)
         have n2_ := Aside0.mk (Kd.V_elder' (by (with_reducible repeat (first | apply Kd.V_alloc | apply Kd.V_drewN | apply Kd.V_drew)); exact HL189_0.out) (Kd.R_base ho0) hb)
         have n3_ := Aside0.mk (Kd.R_lower (Kd.R_newM (M := fun k_ => (w.heap.size ≤ k_)) ho0 (below_size (by repeat (first | (with_reducible first | exact HB.out | apply below_alloc | apply pw_below_drewN | apply below_drew1 | refine below_set ?_ GE185.out) | exact HB.out))) (fun k_ h_ => h_)) (below_size (by repeat (first | (with_reducible first | exact HB.out | apply below_alloc | apply pw_below_drewN | apply below_drew1 | refine below_set ?_ GE185.out) | exact HB.out))))
         have n4_ := Aside0.mk (blk_below (g := gb185) (o := .cells #[.string a0_0, .int .i64 a0_1, .int .i64 a0_2, .int .i64 a0_3, .slice A0_4 l0_4.length c0_4, .slice A0_5 l0_5.length c0_5] 27 (0, 0)) (by (with_reducible repeat (first | refine blk_drewN ?_ _ | refine blk_drew ?_ | refine blk_alloc ?_ _)); exact BK185.out) hb)
         have n5_ := Aside0.mk (Kd.C_below (by repeat (first | (with_reducible exact HR189_0.out) | (with_reducible refine Kd.C_alloc ?_ _) | (with_reducible refine Kd.C_drewN ?_ _) | (with_reducible refine Kd.C_drew ?_) | exact HR189_0.out)) hb)
         have n6_ := Aside0.mk (below_step (by repeat (first | (with_reducible first | exact HB.out | apply below_alloc | apply pw_below_drewN | apply below_drew1 | refine below_set ?_ GE185.out) | exact HB.out)) hb)
         clear HO_3
         clear HO_4
         clear HL189_0
         clear BK185
         clear HR189_0
         clear HB
         have HO_3 := n0_
         have HO_4 := n1_
         have HL189_0 := n2_
         have HO192 := n3_
         have BK185 := n4_
         have HR189_0 := n5_
         have HB := n6_
         clear n0_ n1_ n2_ n3_ n4_ n5_ n6_
         (try clear hb)
         (try clear hb2)
         (try clear hk)
         (try clear hi)
         (try clear ho0)
         obtain ⟨Ao16, co16, eo16⟩ := Kd.R_slice HO192.out
         (first | subst eo16 | (injection eo16 with f1_ f2_ f3_; have f4_ := f1_.symm; have f5_ := f3_.symm; clear f1_ f2_ f3_; subst f4_; subst f5_))
         refine hK.out _ _ ⟨(blk_cell BK185.out 0).trans rfl, (blk_cell BK185.out 1).trans rfl, (blk_cell BK185.out 2).trans rfl, (blk_cell BK185.out 3).trans rfl, (blk_cell BK185.out 4).trans rfl, (blk_cell BK185.out 5).trans rfl, HS6_⟩ (fun hHeld => ?_)
         clear hK K
         refine norm_ (a' := ?_) ?_ ?_
         rotate_left
         ·
          show Act.put _ (some 33) _ = _
          simp only [Act.put, List.setIfInBounds_toArray, List.set_cons_zero, List.set_cons_succ, i64_w, i32_w]
          rfl
         refine pure_ (i := 9) (N := some 34) (v := ?_) (a' := ?_) #[true, true, true, true, true, true, true, true, true, true, false, false, false] rfl rfl (any_of HT_.out (by kernel_rfl)) (fun _ _ _ h => h) (Or.inl ⟨by rfl, ?_⟩) ?_ ?_
         rotate_left
         ·
          intro w'
          go_simp
          with_reducible rfl
         rotate_left
         ·
          simp only [Act.put, List.setIfInBounds_toArray, List.set_cons_zero, List.set_cons_succ, i64_w, i32_w]
          rfl
         refine last_ (i := 10) (N := some 35) #[true, true, true, true, true, true, true, true, true, true, true, false, false] rfl rfl (one_of HT_.out (by kernel_rfl)) (by decide) (fun K hK => ?_)
         refine value_ (w1 := ?_) (v := ?_) (by rfl) rfl ?_ ?_
         rotate_left 2
         ·
          go_simp
          constructor
          ·
           rfl
          ·
           rfl
         refine hK.out _ _ ?_
         clear hK K
         refine norm_ (a' := ?_) ?_ ?_
         rotate_left
         ·
          show Act.put _ (some 35) _ = _
          simp only [Act.put, List.setIfInBounds_toArray, List.set_cons_zero, List.set_cons_succ, i64_w, i32_w]
          rfl
         refine last_ (i := 11) (N := some 36) #[true, true, true, true, true, true, true, true, true, true, true, true, false] rfl rfl (one_of HT_.out (by kernel_rfl)) (by decide) (fun K hK => ?_)
         refine Kd.N_append_step k57 (w0 := w) w.heap.size (by rfl) (.tmp 25) (.tmp 35) 70 57 (.agg #[(.int .i64 0), (.slice none 0 0)]) 32 rfl Try.underlying70 info57 rfl (by decide) (by omega) u4 x4_2 (⟨x5_1, t190⟩ : S57) [.int .i64 x5_1, .slice Ao16 t190.length co16] (fun k_ => (w.heap.size ≤ k_) ∧ some k_ ≠ (.slice (some ad189) t186.length co13 : Value).ownBlock ∧ k_ ≠ gb185) (fun k_ => ((fun k_ => (w.heap.size ≤ k_) ∧ some k_ ≠ (.slice (some ad189) t186.length co13 : Value).ownBlock ∧ k_ ≠ gb185)) k_ ∧ some k_ ≠ (u4 : Value).ownBlock) rfl rfl ?aP (fun _ hk => hk) ?aF ?aO ?aB ?aS ?aL ?_
         (case aP => exact (k57_mkF _ _ (⟨x5_1, t190⟩ : S57) (Kd.R_reads' (Kd.R_mono (ok' := (fun k_ => ((fun k_ => (w.heap.size ≤ k_) ∧ some k_ ≠ (.slice (some ad189) t186.length co13 : Value).ownBlock ∧ k_ ≠ gb185)) k_ ∧ some k_ ≠ (u4 : Value).ownBlock)) (Kd.R_types (Kd.R_apart' (Kd.R_apart' (HO192.out) (Kd.N_typed HO_3.out) (by decide)) (Kd.N_typed HO_4.out) (by decide)) BK185.out (by decide)) (fun k_ hk => ⟨⟨hk.1.1.1.1, ⟨hk.1.1.2, hk.2⟩⟩, hk.1.2⟩))).2.1 (Kd.R_F (Kd.R_mono (ok' := (fun k_ => ((fun k_ => (w.heap.size ≤ k_) ∧ some k_ ≠ (.slice (some ad189) t186.length co13 : Value).ownBlock ∧ k_ ≠ gb185)) k_ ∧ some k_ ≠ (u4 : Value).ownBlock)) (Kd.R_types (Kd.R_apart' (Kd.R_apart' (HO192.out) (Kd.N_typed HO_3.out) (by decide)) (Kd.N_typed HO_4.out) (by decide)) BK185.out (by decide)) (fun k_ hk => ⟨⟨hk.1.1.1.1, ⟨hk.1.1.2, hk.2⟩⟩, hk.1.2⟩)))))
         (case aB => exact (by repeat (first | (with_reducible first | exact HB.out | apply below_alloc | apply pw_below_drewN | apply below_drew1 | refine below_set ?_ GE185.out) | exact HB.out)))
         (case aF => exact (fun k_ hk => ⟨(Nat.le_trans (below_size (by repeat (first | (with_reducible first | exact HB.out | apply below_alloc | apply pw_below_drewN | apply below_drew1 | refine below_set ?_ GE185.out) | exact HB.out))) hk), Kd.fresh' (Kd.N_lt (by (with_reducible repeat (first | apply Kd.N_alloc | apply Kd.N_drewN | apply Kd.N_drew)); exact HO_3.out)) k_ hk, Kd.freshB (g := gb185) (o := .cells #[.string a0_0, .int .i64 a0_1, .int .i64 a0_2, .int .i64 a0_3, .slice A0_4 l0_4.length c0_4, .slice A0_5 l0_5.length c0_5] 27 (0, 0)) (by (with_reducible repeat (first | refine blk_drewN ?_ _ | refine blk_drew ?_ | refine blk_alloc ?_ _)); exact BK185.out) k_ hk⟩))
         (case aO => exact (by (with_reducible repeat (first | apply Kd.N_alloc | apply Kd.N_drewN | apply Kd.N_drew)); exact Kd.N_mono HO_4.out (fun _ hk => ⟨hk.1.1, ⟨hk.1.2.1, hk.1.2.2⟩⟩)))
         (case aS => exact (below_size (by repeat (first | (with_reducible first | exact HB.out | apply below_alloc | apply pw_below_drewN | apply below_drew1 | refine below_set ?_ GE185.out) | exact HB.out))))
         (case aL => have := LMc12.out; omega)
         intro v194 w17 ho hb hg hat
         rw [← Ny193.out] at ho
         have n0_ := Aside0.mk (Kd.N_afterv (ok := (fun k_ => (w.heap.size ≤ k_) ∧ some k_ ≠ (.slice Ao16 t190.length co16 : Value).ownBlock ∧ k_ ≠ gb185)) (by (with_reducible repeat (first | apply Kd.N_alloc | apply Kd.N_drewN | apply Kd.N_drew)); exact Kd.N_mono HO_3.out (fun _ hk => ⟨⟨hk.1.1, ⟨hk.2, hk.1.2.2⟩⟩, hk.1.2.1⟩)) hg hat)
         have n1_ := Aside0.mk (blk_grown (g := gb185) (o := .cells #[.string a0_0, .int .i64 a0_1, .int .i64 a0_2, .int .i64 a0_3, .slice A0_4 l0_4.length c0_4, .slice A0_5 l0_5.length c0_5] 27 (0, 0)) (by (with_reducible repeat (first | refine blk_drewN ?_ _ | refine blk_drew ?_ | refine blk_alloc ?_ _)); exact BK185.out) hg (Kd.N_ne HO_4.out BK185.out (by decide)))
         have n2_ := Aside0.mk (Kd.V_afterv (ok := (fun k_ => (w.heap.size ≤ k_) ∧ some k_ ≠ (.slice (some ad189) t186.length co13 : Value).ownBlock ∧ some k_ ≠ (.slice Ao16 t190.length co16 : Value).ownBlock ∧ k_ ≠ gb185)) (by (with_reducible repeat (first | apply Kd.V_alloc | apply Kd.V_drewN | apply Kd.V_drew)); exact Kd.V_mono HL189_0.out (fun _ hk => ⟨⟨hk.1.1.1, ⟨hk.1.2, ⟨hk.2, hk.1.1.2.2⟩⟩⟩, hk.1.1.2.1⟩)) hg hat)
         have n3_ := Aside0.mk (hb)
         have n4_ := Aside0.mk (ho)
         clear HO_3
         clear BK185
         clear HL189_0
         clear HB
         clear HO_4
         clear HO192
         have HO_3 := n0_
         have BK185 := n1_
         have HL189_0 := n2_
         have HB := n3_
         have HO195 := n4_
         clear n0_ n1_ n2_ n3_ n4_
         clear ho hb hg hat
         refine hK.out _ _ ?_
         clear hK K
         refine norm_ (a' := ?_) ?_ ?_
         rotate_left
         ·
          show Act.put _ (some 36) _ = _
          simp only [Act.put, List.setIfInBounds_toArray, List.set_cons_zero, List.set_cons_succ, i64_w, i32_w]
          rfl
         refine pure_ (i := 12) (N := some 4) (v := ?_) (a' := ?_) #[true, true, true, true, true, true, true, true, true, true, true, true, true] rfl rfl (any_of HT_.out (by kernel_rfl)) (fun _ _ _ h => h) (Or.inl ⟨by rfl, ?_⟩) ?_ ?_
         rotate_left
         ·
          intro w'
          go_simp
          with_reducible rfl
         rotate_left
         ·
          simp only [Act.put, List.setIfInBounds_toArray, List.set_cons_zero, List.set_cons_succ, i64_w, i32_w]
          rfl
         refine done_ (done_of HT_.out (by kernel_rfl)) ?_
         try go_wp2
         go_roundg k2
         case measure => have := HK1.out; have := HK2.out; omega
         case rel => exact ⟨(y193), (wrap64 (x6_2 + 1)), (by first | rfl | (simp; done) | (simp [*]; done)), H', ⟨by have := HK1.out; have := HK2.out; omega⟩, ⟨by (with_reducible repeat (first | apply Kd.N_alloc | apply Kd.N_drewN | apply Kd.N_drew)); exact Kd.N_mono HO_3.out (fun _ hk => ⟨hk.1.1, ⟨hk.2, hk.1.2.2⟩⟩)⟩, ⟨by (with_reducible repeat (first | apply Kd.N_alloc | apply Kd.N_drewN | apply Kd.N_drew)); exact HO195.out⟩, ⟨by (with_reducible repeat (first | refine blk_drewN ?_ _ | refine blk_drew ?_ | refine blk_alloc ?_ _)); exact BK185.out⟩, ⟨by repeat (first | (with_reducible first | exact HB.out | apply below_alloc | apply pw_below_drewN | apply below_drew1 | refine below_set ?_ GE185.out) | exact HB.out)⟩⟩
        ·
         rw [if_neg c12] at H
         exact absurd H (by simp)
       ·
        rw [if_neg c10] at H
        exact absurd H (by simp)
      ·
       rw [if_neg c9] at H
       have c9b0 : decide (x6_2 < (t186.length : Int)) = false := decide_eq_false c9
       clear c9
       have H' := Aside0.mk H
       clear H
       obtain ⟨Ao18, co18, eo18⟩ := Kd.N_slice HO_3.out
       subst eo18
       go_wp2
       go_roundg k2
       case measure => have := HK1.out; have := HK2.out; omega
       case rel => exact ⟨(x4_2), (wrap64 (x5_1 + 1)), (by first | rfl | (simp; done) | (simp [*]; done)), H', ⟨by have := HK1.out; have := HK2.out; omega⟩, ⟨by (with_reducible repeat (first | apply Kd.N_alloc | apply Kd.N_drewN | apply Kd.N_drew)); exact HO_3.out⟩, ⟨by (with_reducible repeat (first | apply Kd.N_alloc | apply Kd.N_drewN | apply Kd.N_drew)); exact HO_4.out⟩, ⟨by (with_reducible repeat (first | refine blk_drewN ?_ _ | refine blk_drew ?_ | refine blk_alloc ?_ _)); exact BK185.out⟩, ⟨by repeat (first | (with_reducible first | exact HB.out | apply below_alloc | apply pw_below_drewN | apply below_drew1 | refine below_set ?_ GE185.out) | exact HB.out)⟩⟩
   ·
    rw [if_neg c7] at H
    have c7b0 : decide (x5_1 ≤ a0_3) = false := decide_eq_false c7
    clear c7
    obtain rfl := Option.some.inj H
    have hcz19_0 : wr.cell? ⟨gb185, 0, none⟩ = some (.string a0_0) := (blk_cell BK185.out 0).trans rfl
    have hcz19_1 : wr.cell? ⟨gb185, 1, none⟩ = some (.int .i64 a0_1) := (blk_cell BK185.out 1).trans rfl
    have hcz19_2 : wr.cell? ⟨gb185, 2, none⟩ = some (.int .i64 a0_2) := (blk_cell BK185.out 2).trans rfl
    have hcz19_3 : wr.cell? ⟨gb185, 3, none⟩ = some (.int .i64 a0_3) := (blk_cell BK185.out 3).trans rfl
    have hcz19_4 : wr.cell? ⟨gb185, 4, none⟩ = some (.slice A0_4 l0_4.length c0_4) := (blk_cell BK185.out 4).trans rfl
    have hcz19_5 : wr.cell? ⟨gb185, 5, none⟩ = some (.slice A0_5 l0_5.length c0_5) := (blk_cell BK185.out 5).trans rfl
    have hfz19_0 := blk_frozen BK185.out 0
    have hfz19_1 := blk_frozen BK185.out 1
    have hfz19_2 := blk_frozen BK185.out 2
    have hfz19_3 := blk_frozen BK185.out 3
    have hfz19_4 := blk_frozen BK185.out 4
    have hfz19_5 := blk_frozen BK185.out 5
    go_wp2
    go_ret
    exact ⟨_, by first | rfl | (simp [errW_none, errW_some] <;> rfl) | (simp [*, errW_none, errW_some] <;> rfl), by (with_reducible repeat (first | apply Kd.N_alloc | apply Kd.N_drewN | apply Kd.N_drew)); exact Kd.N_mono HO_4.out (fun _ hk => hk.1), by repeat (first | (with_reducible first | exact HB.out | apply below_alloc | apply pw_below_drewN | apply below_drew1 | refine below_set ?_ GE185.out) | exact HB.out)⟩

end Go.Proofs.Ytemeapfnfegkiaa.PR
end
section
/- Package disk: the truths, in the reference's order and in the program's. -/
namespace Go.Proofs.Ytemeapfnfegkiaa.D
open Go Go.RowKit Go.Proofs.YtemeapfnfegkiaaK Go.Proofs.YtemeapfnfegkiaaW.PrintWords Go.Proofs.YtemeapfnfegkiaaW.PrintLast Go.Proofs.YtemeapfnfegkiaaW.PrintMore Go.Proofs.Ytemeapfnfegkiaa.PR
set_option linter.unusedVariables false
set_option linter.unusedSimpArgs false

open Classical in
noncomputable def RG (D : Dat) (near : Int) (set : Nat) : List Int := if h : Valid D then Classical.choose (rgrouped h near set) else []
theorem RG_ref {D : Dat} (hV : Valid D) (near : Int) (set : Nat) : RefG (G D near set) D.spots.length (RG D near set) := by
  unfold RG; rw [dif_pos hV]; exact (Classical.choose_spec (rgrouped hV near set)).1
theorem RG_ev {D : Dat} (hV : Valid D) (near : Int) (set : Nat) : Ev (fun f => helioscoperef01_grouped.f f D.nm D.rad D.lo D.hi D.spots D.told near (natsI (bitsL set D.spots.length))) (RG D near set) := by
  unfold RG; rw [dif_pos hV]; exact (Classical.choose_spec (rgrouped hV near set)).2

noncomputable def toR (D : Dat) (x : Int × Nat) : S57 := ⟨x.1, RG D x.1 x.2⟩
def allUp (D : Dat) (i : Nat) : List (Int × Nat) := (List.range i).flatMap fun (i : Nat) => (setsN D D.spots.length).map fun s => (D.lo + (i : Int), s)
theorem allUp_succ (D : Dat) (i : Nat) : allUp D (i + 1) = allUp D i ++ (setsN D D.spots.length).map fun s => (D.lo + (i : Int), s) := by
  simp [allUp, List.range_succ]
def allN (D : Dat) : List (Int × Nat) := allUp D (D.hi - D.lo + 1).toNat
theorem allUp_len {D : Dat} (hV : Valid D) (i : Nat) : (allUp D i).length ≤ 128 * i := by
  have h7 := hV.n7
  have h1 := setsN_len D D.spots.length
  have h2 : 2 ^ D.spots.length ≤ 2 ^ 7 := Nat.pow_le_pow_right (by decide) h7
  induction i with
  | zero => simp [allUp]
  | succ i ih => rw [allUp_succ, List.length_append, List.length_map]; omega

theorem rA1 {D : Dat} (hV : Valid D) (near : Int) (hn : 0 ≤ near ∧ near ≤ 12) (res : List S57) (d : Nat) : ∀ (j : Nat) (acc : List S57), j + d = (setsN D D.spots.length).length → acc.length + d ≤ 2000 →
    Ev (fun f => helioscoperef01_All.l0 f (setsI D D.spots.length) (acc ++ ((setsN D D.spots.length).drop j).map fun s => toR D (near, s)) (near + 1) D.nm D.rad D.lo D.hi D.spots D.told) res →
    Ev (fun f => helioscoperef01_All.l1 f (setsI D D.spots.length) acc near (j : Int) D.nm D.rad D.lo D.hi D.spots D.told) res := by
  induction d with
  | zero =>
    intro j acc hd ha h
    rw [List.drop_eq_nil_of_le (by omega), List.map_nil, List.append_nil] at h
    refine Ev.step (fun f => ?_) h
    simp only [helioscoperef01_All.l1, setsI, List.length_map]
    rw [if_neg (by omega), wrap_in (by omega) (by omega)]
  | succ d ihd =>
    intro j acc hd ha h
    have hj : j < (setsN D D.spots.length).length := by omega
    have h7 := hV.n7
    have h1 := setsN_len D D.spots.length
    have h2 : 2 ^ D.spots.length ≤ 2 ^ 7 := Nat.pow_le_pow_right (by decide) h7
    have ih := ihd (j + 1) (acc ++ [toR D (near, (setsN D D.spots.length)[j])]) (by omega) (by simp only [List.length_append, List.length_singleton]; omega) (by
      rw [List.drop_eq_getElem_cons hj, List.map_cons] at h
      rw [List.append_assoc]; exact h)
    rw [show toR D (near, (setsN D D.spots.length)[j]) = (⟨near, RG D near (setsN D D.spots.length)[j]⟩ : S57) from rfl] at ih
    have hev := RG_ev hV near (setsN D D.spots.length)[j]
    generalize RG D near (setsN D D.spots.length)[j] = R at ih hev
    have hr : rd_L4 (setsI D D.spots.length) (j : Int) = natsI (bitsL (setsN D D.spots.length)[j] D.spots.length) := by
      rw [rd_L4_at _ j (by simpa [setsI] using hj)]; simp [setsI]
    refine Ev.step (f := fun f => (helioscoperef01_grouped.f f D.nm D.rad D.lo D.hi D.spots D.told near (natsI (bitsL (setsN D D.spots.length)[j] D.spots.length))).bind fun t => helioscoperef01_All.l1 f (setsI D D.spots.length) (acc ++ [(⟨near, t⟩ : S57)]) near ((j + 1 : Nat) : Int) D.nm D.rad D.lo D.hi D.spots D.told) (fun f => ?_) (Ev.bind (f := fun f t => helioscoperef01_All.l1 f (setsI D D.spots.length) (acc ++ [(⟨near, t⟩ : S57)]) near ((j + 1 : Nat) : Int) D.nm D.rad D.lo D.hi D.spots D.told) hev ih)
    simp only [helioscoperef01_All.l1, hr]
    rw [if_pos (by simp only [setsI, List.length_map]; omega), if_pos (by omega), wrapN (by omega)]
    refine congrArg (Option.bind _) (funext fun t => ?_)
    rw [if_pos (by omega)]

theorem rA0 {D : Dat} (hV : Valid D) : ∀ (d i : Nat), i + d = (D.hi - D.lo + 1).toNat → Ev (fun f => helioscoperef01_All.l0 f (setsI D D.spots.length) ((allUp D i).map (toR D)) (D.lo + (i : Int)) D.nm D.rad D.lo D.hi D.spots D.told) ((allN D).map (toR D))
  | 0, i, hd => by
    have hle := hV.le
    obtain rfl : i = (D.hi - D.lo + 1).toNat := by omega
    refine Ev.step (f := fun _ => some ((allN D).map (toR D))) (fun f => ?_) (Ev.now _)
    simp only [helioscoperef01_All.l0]
    rw [if_neg (by omega)]; rfl
  | d + 1, i, hd => by
    have hlo := hV.lo
    have hhi := hV.hi
    have h7 := hV.n7
    have h1 := setsN_len D D.spots.length
    have h2 : 2 ^ D.spots.length ≤ 2 ^ 7 := Nat.pow_le_pow_right (by decide) h7
    have h3 := allUp_len hV i
    have ih := rA0 hV d (i + 1) (by omega)
    have hh := rA1 hV (D.lo + (i : Int)) (by omega) ((allN D).map (toR D)) (setsN D D.spots.length).length 0 ((allUp D i).map (toR D)) (by omega) (by rw [List.length_map]; omega) (by
      rw [allUp_succ, List.map_append, List.map_map] at ih
      have e : D.lo + ((i + 1 : Nat) : Int) = D.lo + (i : Int) + 1 := by omega
      rw [e] at ih
      exact ih)
    refine Ev.step (fun f => ?_) hh
    simp only [helioscoperef01_All.l0]
    rw [if_pos (by omega)]; rfl
theorem rAll {D : Dat} (hV : Valid D) : Ev (fun f => helioscoperef01_All.f f D.nm D.rad D.lo D.hi D.spots D.told) ((allN D).map (toR D)) := by
  unfold helioscoperef01_All.f
  refine Ev.bind (rsets hV) ?_
  have := rA0 hV (D.hi - D.lo + 1).toNat 0 (by omega)
  have e : D.lo + ((0 : Nat) : Int) = D.lo := by omega
  rw [e] at this
  exact this

def hasB (but : List Int) (x : Nat) : Bool := but.any fun y => y == (x : Int)
theorem RefG.ge {g : Nat → Int} {n : Nat} {R : List Int} (h : RefG g n R) (hg : ∀ x, 0 ≤ g x) (x : Nat) (hx : x < n) : rd R (x : Int) ≥ 0 ↔ 0 < g x := by
  by_cases e : g x = 0
  · rw [h.no x hx e, e]; omega
  · obtain ⟨y, _, _, h3, _⟩ := h.yes x hx e
    rw [h3]
    have := hg x
    constructor <;> intro <;> omega
theorem RefG.eq {g : Nat → Int} {n : Nat} {R : List Int} (h : RefG g n R) (x y : Nat) (hx : x < n) (hy : y < n) (h0 : g x ≠ 0) : rd R (x : Int) = rd R (y : Int) ↔ g x = g y := by
  obtain ⟨a, a1, a2, a3, a4, a5⟩ := h.yes x hx h0
  by_cases e : g y = 0
  · rw [h.no y hy e, a3, e]
    constructor
    · intro; omega
    · intro h; exact absurd h h0
  · obtain ⟨b, b1, b2, b3, b4, b5⟩ := h.yes y hy e
    rw [a3, b3]
    constructor
    · intro hab
      have : a = b := by omega
      rw [← a4, this, b4]
    · intro hg
      have h1 := a5 b (by rw [b4, hg])
      have h2 := b5 a (by rw [a4, hg])
      omega
theorem rTogether {g : Nat → Int} {n : Nat} {R : List Int} (h : RefG g n R) (hg : ∀ x, 0 ≤ g x) (near a b : Int) (ha : 0 ≤ a ∧ a < n) (hb : 0 ≤ b ∧ b < n) :
    helioscoperef01_Together.f near R a b = some (decide (0 < g a.toNat) && g a.toNat == g b.toNat) := by
  obtain ⟨x, rfl⟩ : ∃ x : Nat, a = x := ⟨a.toNat, by omega⟩
  obtain ⟨y, rfl⟩ : ∃ y : Nat, b = y := ⟨b.toNat, by omega⟩
  have hl := h.len
  unfold helioscoperef01_Together.f
  simp only [Int.toNat_natCast]
  rw [if_pos (by omega), if_pos (by omega)]
  have h1 := h.ge hg x (by omega)
  by_cases hx : 0 < g x
  · rw [if_pos (h1.2 hx), if_pos (by omega), if_pos (by omega)]
    have h2 := h.eq x y (by omega) (by omega) (by omega)
    congr 1
    rw [decide_eq_true hx, Bool.true_and, Bool.eq_iff_iff, beq_iff_eq, beq_iff_eq]
    exact h2
  · rw [if_neg (fun x => hx (h1.1 x)), decide_eq_false hx]; rfl

def soR (D : Dat) (but : List Int) (g : Nat → Int) (k : Nat) : Bool := (List.range k).all fun i => hasB but i || sayB g (rd_T52 D.told i)
theorem G_nonneg {D : Dat} (hV : Valid D) (near : Int) (set : Nat) (x : Nat) : 0 ≤ G D near set x := ((G_spec D near set hV.n7).low x).1

theorem rd_T57_at (xs : List S57) (k : Nat) (hk : k < xs.length) : rd_T57 xs (k : Int) = xs[k] := by simp [rd_T57, hk]

def truthsN (D : Dat) (but : List Int) : List (Int × Nat) := (allN D).filter fun x => soR D but (G D x.1 x.2) D.told.length
theorem allN_len {D : Dat} (hV : Valid D) : (allN D).length ≤ 1664 := by
  have h1 := hV.lo
  have h2 := hV.hi
  have h3 := hV.le
  have := allUp_len hV (D.hi - D.lo + 1).toNat
  unfold allN
  omega
theorem perm_flat {α β : Type} {f g : α → List β} : ∀ {l : List α}, (∀ a ∈ l, (f a).Perm (g a)) → (l.flatMap f).Perm (l.flatMap g)
  | [], _ => List.Perm.refl _
  | a :: l, h => by
    rw [List.flatMap_cons, List.flatMap_cons]
    exact (h a (List.mem_cons_self ..)).append (perm_flat fun b hb => h b (List.mem_cons_of_mem _ hb))
theorem truths_perm (D : Dat) (but : List Int) (bits : Nat) (hb : ∀ i, i < D.told.length → hasB but i = bits.testBit i) : (truthsN D but).Perm (truthsL D bits) := by
  unfold truthsN allN allUp truthsL nearsTo
  rw [List.filter_flatMap]
  refine perm_flat fun i _ => ?_
  unfold setsTo
  rw [List.filter_map]
  refine List.Perm.map _ ?_
  refine ((setsN_perm D D.spots.length).filter _).trans ?_
  rw [List.filter_filter]
  refine List.Perm.of_eq (List.filter_congr fun s hs => ?_)
  have hlt := List.mem_range.1 hs
  unfold isTruth
  rw [okSet_upto D s hlt, Bool.and_comm]
  congr 1
  unfold soB soTo
  simp only [Function.comp, soR]
  rw [Bool.eq_iff_iff, List.all_eq_true, List.all_eq_true]
  constructor <;> intro h i hi <;> have := h i hi <;> have hil := List.mem_range.1 hi
  · rw [hb i hil] at this; exact this
  · rw [hb i hil]; exact this
theorem truths_perm0 (D : Dat) : (truthsN D []).Perm (truthsL D 0) := truths_perm D [] 0 fun i _ => by simp [hasB]

structure Fits (D : Dat) : Prop where
  nm : D.nm.size ≤ 9223372036854775807
  s : D.spots.length ≤ 9223372036854775807
  t : D.told.length ≤ 9223372036854775807
theorem Arg.fits {w : World} {D : Dat} {A4 : Option Addr} {c4 : Nat} {A5 : Option Addr} {c5 : Nat} (h : Arg w D A4 c4 A5 c5) : Fits D := ⟨h.nm, h.s.2.1, h.t.2.1⟩

end Go.Proofs.Ytemeapfnfegkiaa.D
end
section
namespace Go.Proofs.Ytemeapfnfegkiaa.PR
open Go.RowKit Go.Proofs.YtemeapfnfegkiaaW.PrintWords Go.Proofs.YtemeapfnfegkiaaW.PrintLast Go.Proofs.YtemeapfnfegkiaaW.PrintMore
attribute [local go_sem] max2_int min2_int max_two min_two max_three min_three max_four min_four   -- for this text's walks alone
set_option linter.unusedVariables false
set_option linter.unusedSimpArgs false

def helioscoperef01_Count.l0 : Nat → Int → Int → Int → Int → List Int → Option (Int × Int)
 | 0, _, _, _, _, _ => none
 | k + 1, x4, x5, x6, x240000, x240001 => if x6 < (x240001.length : Int) then (if 0 ≤ x6 then (if (rd x240001 x6) ≥ 0 then (if (rd x240001 x6) = x6 then (helioscoperef01_Count.l0 k (wrap64 (x4 + 1)) (wrap64 (x5 + 1)) (wrap64 (x6 + 1)) x240000 x240001) else (helioscoperef01_Count.l0 k x4 (wrap64 (x5 + 1)) (wrap64 (x6 + 1)) x240000 x240001)) else (if (rd x240001 x6) = x6 then (helioscoperef01_Count.l0 k (wrap64 (x4 + 1)) x5 (wrap64 (x6 + 1)) x240000 x240001) else (helioscoperef01_Count.l0 k x4 x5 (wrap64 (x6 + 1)) x240000 x240001))) else (none)) else (some (x4, x5))
def helioscoperef01_Count.f (k : Nat) (a0_0 : Int) (l0_1 : List Int) : Option (Int × Int) := helioscoperef01_Count.l0 k 0 0 0 a0_0 l0_1
set_option maxHeartbeats 8000000 in
set_option maxRecDepth 100000 in
theorem helioscoperef01_Count.calls (k : Nat) (a0_0 : Int) (A0_1 : Option Addr) (c0_1 : Nat) (l0_1 : List Int) (r1 : Int) (r2 : Int) (w : World) (hr0_1 : Kd.C (Kd.int .i64) w A0_1 l0_1.length l0_1) (hc0_1 : l0_1.length ≤ c0_1) (h : helioscoperef01_Count.f k a0_0 l0_1 = some (r1, r2)) :
  Calls Try.prog 43 #[.agg #[.int .i64 a0_0, .slice A0_1 l0_1.length c0_1]] w fun e w' => e = .returned (.tuple #[.int .i64 r1, .int .i64 r2]) ∧ Below w.heap.size w w' := by
 have hu57 := Try.underlying57
 have HR0_1 := Aside0.mk hr0_1
 have HC0_1 := Aside0.mk hc0_1
 clear hr0_1 hc0_1
 have HB := Aside0.mk (Below.refl w.heap.size w)
 have H : (helioscoperef01_Count.l0 k 0 0 0 a0_0 l0_1) = some (r1, r2) := h
 clear h
 have H' := Aside0.mk H
 clear H
 go_enter Try.func43, Try.ntmps43
 go_wp2_with (first | ((with_reducible refine gate_dst (N := 1) rfl ?_); refine box_event ?hg (N := 1) ?hd (cs := #[.int .i64 a0_0, .slice A0_1 l0_1.length c0_1]) (t := 57) ?hr ?_; (case hd => rfl); (case hg => rfl); (case hr => first | (go_simp; done) | (go_simp; rfl)); intro gb239 hg w2 hbox hb; have n0_ := Aside0.mk (below_step (by repeat (first | (with_reducible first | exact HB.out | apply below_alloc | apply pw_below_drewN | apply below_drew1) | exact HB.out)) hb); have n1_ := Aside0.mk (hbox); have n2_ := Aside0.mk ((by rw [hg]; exact (below_size (by repeat (first | (with_reducible first | exact HB.out | apply below_alloc | apply pw_below_drewN | apply below_drew1) | exact HB.out))) : w.heap.size ≤ gb239)); have n3_ := Aside0.mk ((by rw [hg]; exact (below_size (by repeat (first | (with_reducible first | exact HB.out | apply below_alloc | apply pw_below_drewN | apply below_drew1) | exact HB.out))) : w.heap.size ≤ gb239)); clear HB; have HB := n0_; have BK239 := n1_; have GW239 := n2_; have GE239 := n3_; clear n0_ n1_ n2_ n3_; clear hb hbox hg))
 go_loopg [4, 5, 6] k (fun kq v4 v5 v6 w' => ∃ (x4_1 : Int) (x5_1 : Int) (x6_1 : Int), v4 = .int .i64 x4_1 ∧ v5 = .int .i64 x5_1 ∧ v6 = .int .i64 x6_1 ∧ Aside0 (helioscoperef01_Count.l0 kq x4_1 x5_1 x6_1 a0_0 l0_1 = some (r1, r2)) ∧ Aside0 (kq ≤ k) ∧ Aside0 (w'.heap[gb239]? = some (.cells #[.int .i64 a0_0, (.slice A0_1 l0_1.length c0_1)] 57 (0, 0))) ∧ Aside0 (Below w.heap.size w w'))
 case atStart => exact ⟨(0), (0), (0), (by first | rfl | (simp; done) | (simp [*]; done)), (by first | rfl | (simp; done) | (simp [*]; done)), (by first | rfl | (simp; done) | (simp [*]; done)), H', ⟨Nat.le_refl _⟩, ⟨by (with_reducible repeat (first | refine blk_drewN ?_ _ | refine blk_drew ?_ | refine blk_alloc ?_ _)); exact BK239.out⟩, ⟨by repeat (first | (with_reducible first | exact HB.out | apply below_alloc | apply pw_below_drewN | apply below_drew1 | refine below_set ?_ GE239.out) | exact HB.out)⟩⟩
 case round =>
  clear H'
  try clear p2
  obtain ⟨x4_1, x5_1, x6_1, rfl, rfl, rfl, HA, HK1, BK239, HB⟩ := hrel
  cases gk with
  | zero => exact absurd HA.out (by simp [helioscoperef01_Count.l0])
  | succ k1 =>
   have H := HA.out
   clear HA
   simp only [helioscoperef01_Count.l0] at H
   by_cases c3 : x6_1 < (l0_1.length : Int)
   ·
    rw [if_pos c3] at H
    have c3b0 : decide (x6_1 < (l0_1.length : Int)) = true := decide_eq_true c3
    clear c3
    by_cases c4 : 0 ≤ x6_1
    ·
     rw [if_pos c4] at H
     have c4b0 : decide (0 ≤ x6_1) = true := decide_eq_true c4
     clear c4
     by_cases c5 : (rd l0_1 x6_1) ≥ 0
     ·
      rw [if_pos c5] at H
      have c5b0 : decide (0 ≤ (rd l0_1 x6_1)) = true := decide_eq_true c5
      clear c5
      by_cases c6 : (rd l0_1 x6_1) = x6_1
      ·
       rw [if_pos c6] at H
       have c6b0 : ((rd l0_1 x6_1) == x6_1) = true := beq_iff_eq.mpr c6
       have c6b1 : ((rd l0_1 x6_1) != x6_1) = false := bne_eq_false_iff_eq.mpr c6
       clear c6
       have H' := Aside0.mk H
       clear H
       have hcz7_0 : wr.cell? ⟨gb239, 0, none⟩ = some (.int .i64 a0_0) := (blk_cell BK239.out 0).trans rfl
       have hcz7_1 : wr.cell? ⟨gb239, 1, none⟩ = some (.slice A0_1 l0_1.length c0_1) := (blk_cell BK239.out 1).trans rfl
       have hfz7_0 := blk_frozen BK239.out 0
       have hfz7_1 := blk_frozen BK239.out 1
       have p240 : 0 ≤ (x6_1 : Int) := of_decide_eq_true (by first | (with_reducible assumption) | assumption)
       have q240 : x6_1 < (l0_1.length : Int) := of_decide_eq_true (by first | (with_reducible assumption) | assumption)
       obtain ⟨ad240, e240, hx240_0⟩ := Kd.at_int HR0_1.out x6_1 p240 q240
       cases e240
       replace hx240_0 := (HB.out.cell (World.block_lt_of_cell? w _ hx240_0)).trans hx240_0
       replace p240 := eq_true p240
       replace q240 := eq_true q240
       have p241 : 0 ≤ (x6_1 : Int) := of_decide_eq_true (by first | (with_reducible assumption) | assumption)
       have q241 : x6_1 < (l0_1.length : Int) := of_decide_eq_true (by first | (with_reducible assumption) | assumption)
       obtain ⟨ad241, e241, hx241_0⟩ := Kd.at_int HR0_1.out x6_1 p241 q241
       obtain rfl : ad240 = ad241 := (by injection e241)
       replace hx241_0 := (HB.out.cell (World.block_lt_of_cell? w _ hx241_0)).trans hx241_0
       replace p241 := eq_true p241
       replace q241 := eq_true q241
       go_wp2
       go_roundg k1
       case measure => have := HK1.out; omega
       case rel => exact ⟨(wrap64 (x4_1 + 1)), (wrap64 (x5_1 + 1)), (wrap64 (x6_1 + 1)), (by first | rfl | (simp; done) | (simp [*]; done)), (by first | rfl | (simp; done) | (simp [*]; done)), (by first | rfl | (simp; done) | (simp [*]; done)), H', ⟨by have := HK1.out; omega⟩, ⟨by (with_reducible repeat (first | refine blk_drewN ?_ _ | refine blk_drew ?_ | refine blk_alloc ?_ _)); exact BK239.out⟩, ⟨by repeat (first | (with_reducible first | exact HB.out | apply below_alloc | apply pw_below_drewN | apply below_drew1 | refine below_set ?_ GE239.out) | exact HB.out)⟩⟩
      ·
       rw [if_neg c6] at H
       have c6b0 : ((rd l0_1 x6_1) == x6_1) = false := beq_eq_false_iff_ne.mpr c6
       have c6b1 : ((rd l0_1 x6_1) != x6_1) = true := bne_iff_ne.mpr c6
       have H' := Aside0.mk H
       clear H
       have hcz8_0 : wr.cell? ⟨gb239, 0, none⟩ = some (.int .i64 a0_0) := (blk_cell BK239.out 0).trans rfl
       have hcz8_1 : wr.cell? ⟨gb239, 1, none⟩ = some (.slice A0_1 l0_1.length c0_1) := (blk_cell BK239.out 1).trans rfl
       have hfz8_0 := blk_frozen BK239.out 0
       have hfz8_1 := blk_frozen BK239.out 1
       have p240 : 0 ≤ (x6_1 : Int) := of_decide_eq_true (by first | (with_reducible assumption) | assumption)
       have q240 : x6_1 < (l0_1.length : Int) := of_decide_eq_true (by first | (with_reducible assumption) | assumption)
       obtain ⟨ad240, e240, hx240_0⟩ := Kd.at_int HR0_1.out x6_1 p240 q240
       cases e240
       replace hx240_0 := (HB.out.cell (World.block_lt_of_cell? w _ hx240_0)).trans hx240_0
       replace p240 := eq_true p240
       replace q240 := eq_true q240
       have p241 : 0 ≤ (x6_1 : Int) := of_decide_eq_true (by first | (with_reducible assumption) | assumption)
       have q241 : x6_1 < (l0_1.length : Int) := of_decide_eq_true (by first | (with_reducible assumption) | assumption)
       obtain ⟨ad241, e241, hx241_0⟩ := Kd.at_int HR0_1.out x6_1 p241 q241
       obtain rfl : ad240 = ad241 := (by injection e241)
       replace hx241_0 := (HB.out.cell (World.block_lt_of_cell? w _ hx241_0)).trans hx241_0
       replace p241 := eq_true p241
       replace q241 := eq_true q241
       go_wp2
       go_roundg k1
       case measure => have := HK1.out; omega
       case rel => exact ⟨(x4_1), (wrap64 (x5_1 + 1)), (wrap64 (x6_1 + 1)), (by first | rfl | (simp; done) | (simp [*]; done)), (by first | rfl | (simp; done) | (simp [*]; done)), (by first | rfl | (simp; done) | (simp [*]; done)), H', ⟨by have := HK1.out; omega⟩, ⟨by (with_reducible repeat (first | refine blk_drewN ?_ _ | refine blk_drew ?_ | refine blk_alloc ?_ _)); exact BK239.out⟩, ⟨by repeat (first | (with_reducible first | exact HB.out | apply below_alloc | apply pw_below_drewN | apply below_drew1 | refine below_set ?_ GE239.out) | exact HB.out)⟩⟩
     ·
      rw [if_neg c5] at H
      have c5b0 : decide (0 ≤ (rd l0_1 x6_1)) = false := decide_eq_false c5
      clear c5
      by_cases c9 : (rd l0_1 x6_1) = x6_1
      ·
       rw [if_pos c9] at H
       have c9b0 : ((rd l0_1 x6_1) == x6_1) = true := beq_iff_eq.mpr c9
       have c9b1 : ((rd l0_1 x6_1) != x6_1) = false := bne_eq_false_iff_eq.mpr c9
       clear c9
       have H' := Aside0.mk H
       clear H
       have hcz10_0 : wr.cell? ⟨gb239, 0, none⟩ = some (.int .i64 a0_0) := (blk_cell BK239.out 0).trans rfl
       have hcz10_1 : wr.cell? ⟨gb239, 1, none⟩ = some (.slice A0_1 l0_1.length c0_1) := (blk_cell BK239.out 1).trans rfl
       have hfz10_0 := blk_frozen BK239.out 0
       have hfz10_1 := blk_frozen BK239.out 1
       have p240 : 0 ≤ (x6_1 : Int) := of_decide_eq_true (by first | (with_reducible assumption) | assumption)
       have q240 : x6_1 < (l0_1.length : Int) := of_decide_eq_true (by first | (with_reducible assumption) | assumption)
       obtain ⟨ad240, e240, hx240_0⟩ := Kd.at_int HR0_1.out x6_1 p240 q240
       cases e240
       replace hx240_0 := (HB.out.cell (World.block_lt_of_cell? w _ hx240_0)).trans hx240_0
       replace p240 := eq_true p240
       replace q240 := eq_true q240
       have p242 : 0 ≤ (x6_1 : Int) := of_decide_eq_true (by first | (with_reducible assumption) | assumption)
       have q242 : x6_1 < (l0_1.length : Int) := of_decide_eq_true (by first | (with_reducible assumption) | assumption)
       obtain ⟨ad242, e242, hx242_0⟩ := Kd.at_int HR0_1.out x6_1 p242 q242
       obtain rfl : ad240 = ad242 := (by injection e242)
       replace hx242_0 := (HB.out.cell (World.block_lt_of_cell? w _ hx242_0)).trans hx242_0
       replace p242 := eq_true p242
       replace q242 := eq_true q242
       go_wp2
       go_roundg k1
       case measure => have := HK1.out; omega
       case rel => exact ⟨(wrap64 (x4_1 + 1)), (x5_1), (wrap64 (x6_1 + 1)), (by first | rfl | (simp; done) | (simp [*]; done)), (by first | rfl | (simp; done) | (simp [*]; done)), (by first | rfl | (simp; done) | (simp [*]; done)), H', ⟨by have := HK1.out; omega⟩, ⟨by (with_reducible repeat (first | refine blk_drewN ?_ _ | refine blk_drew ?_ | refine blk_alloc ?_ _)); exact BK239.out⟩, ⟨by repeat (first | (with_reducible first | exact HB.out | apply below_alloc | apply pw_below_drewN | apply below_drew1 | refine below_set ?_ GE239.out) | exact HB.out)⟩⟩
      ·
       rw [if_neg c9] at H
       have c9b0 : ((rd l0_1 x6_1) == x6_1) = false := beq_eq_false_iff_ne.mpr c9
       have c9b1 : ((rd l0_1 x6_1) != x6_1) = true := bne_iff_ne.mpr c9
       have H' := Aside0.mk H
       clear H
       have hcz11_0 : wr.cell? ⟨gb239, 0, none⟩ = some (.int .i64 a0_0) := (blk_cell BK239.out 0).trans rfl
       have hcz11_1 : wr.cell? ⟨gb239, 1, none⟩ = some (.slice A0_1 l0_1.length c0_1) := (blk_cell BK239.out 1).trans rfl
       have hfz11_0 := blk_frozen BK239.out 0
       have hfz11_1 := blk_frozen BK239.out 1
       have p240 : 0 ≤ (x6_1 : Int) := of_decide_eq_true (by first | (with_reducible assumption) | assumption)
       have q240 : x6_1 < (l0_1.length : Int) := of_decide_eq_true (by first | (with_reducible assumption) | assumption)
       obtain ⟨ad240, e240, hx240_0⟩ := Kd.at_int HR0_1.out x6_1 p240 q240
       cases e240
       replace hx240_0 := (HB.out.cell (World.block_lt_of_cell? w _ hx240_0)).trans hx240_0
       replace p240 := eq_true p240
       replace q240 := eq_true q240
       have p242 : 0 ≤ (x6_1 : Int) := of_decide_eq_true (by first | (with_reducible assumption) | assumption)
       have q242 : x6_1 < (l0_1.length : Int) := of_decide_eq_true (by first | (with_reducible assumption) | assumption)
       obtain ⟨ad242, e242, hx242_0⟩ := Kd.at_int HR0_1.out x6_1 p242 q242
       obtain rfl : ad240 = ad242 := (by injection e242)
       replace hx242_0 := (HB.out.cell (World.block_lt_of_cell? w _ hx242_0)).trans hx242_0
       replace p242 := eq_true p242
       replace q242 := eq_true q242
       go_wp2
       go_roundg k1
       case measure => have := HK1.out; omega
       case rel => exact ⟨(x4_1), (x5_1), (wrap64 (x6_1 + 1)), (by first | rfl | (simp; done) | (simp [*]; done)), (by first | rfl | (simp; done) | (simp [*]; done)), (by first | rfl | (simp; done) | (simp [*]; done)), H', ⟨by have := HK1.out; omega⟩, ⟨by (with_reducible repeat (first | refine blk_drewN ?_ _ | refine blk_drew ?_ | refine blk_alloc ?_ _)); exact BK239.out⟩, ⟨by repeat (first | (with_reducible first | exact HB.out | apply below_alloc | apply pw_below_drewN | apply below_drew1 | refine below_set ?_ GE239.out) | exact HB.out)⟩⟩
    ·
     rw [if_neg c4] at H
     exact absurd H (by simp)
   ·
    rw [if_neg c3] at H
    have c3b0 : decide (x6_1 < (l0_1.length : Int)) = false := decide_eq_false c3
    clear c3
    simp only [Option.some.injEq, Prod.mk.injEq] at H
    obtain ⟨rfl, rfl⟩ := H
    have hcz12_0 : wr.cell? ⟨gb239, 0, none⟩ = some (.int .i64 a0_0) := (blk_cell BK239.out 0).trans rfl
    have hcz12_1 : wr.cell? ⟨gb239, 1, none⟩ = some (.slice A0_1 l0_1.length c0_1) := (blk_cell BK239.out 1).trans rfl
    have hfz12_0 := blk_frozen BK239.out 0
    have hfz12_1 := blk_frozen BK239.out 1
    go_wp2
    go_ret2
    exact ⟨by first | rfl | (simp [errW_none, errW_some] <;> rfl) | (simp [*, errW_none, errW_some] <;> rfl), by repeat (first | (with_reducible first | exact HB.out | apply below_alloc | apply pw_below_drewN | apply below_drew1 | refine below_set ?_ GE239.out) | exact HB.out)⟩

end Go.Proofs.Ytemeapfnfegkiaa.PR
end
section
/- Package disk: the reference's Is and One answer what the program's do. -/
namespace Go.Proofs.Ytemeapfnfegkiaa.D
open Go Go.RowKit Go.Proofs.YtemeapfnfegkiaaK Go.Proofs.YtemeapfnfegkiaaW.PrintWords Go.Proofs.YtemeapfnfegkiaaW.PrintLast Go.Proofs.YtemeapfnfegkiaaW.PrintMore Go.Proofs.Ytemeapfnfegkiaa.PR
set_option linter.unusedVariables false
set_option linter.unusedSimpArgs false

theorem rd_toR {D : Dat} (X : List (Int × Nat)) (i : Nat) (hi : i < X.length) : rd_T57 (X.map (toR D)) (i : Int) = ⟨X[i].1, RG D X[i].1 X[i].2⟩ := by
  rw [rd_T57_at _ i (by simpa using hi), List.getElem_map]; rfl

theorem enterE_one (D : Dat) (dot : Int) : enterE D [dot] = if (if (checkF D).2.2 ≠ 0 then (checkF D).2.2 else if outB 0 ((D.spots.length : Int) - 1) [dot, dot] = true then 4 else 0) ≠ 0 then (if (checkF D).2.2 ≠ 0 then (checkF D).2.2 else if outB 0 ((D.spots.length : Int) - 1) [dot, dot] = true then 4 else 0) else if (truthsL D 0).isEmpty = true then 8 else 0 := by
  unfold enterE
  have h1 : outB 0 ((D.spots.length : Int) - 1) [dot, dot] = outB 0 ((D.spots.length : Int) - 1) [dot] := by simp [outB]
  rw [h1]
  generalize (checkF D).2.2 = c
  generalize outB 0 ((D.spots.length : Int) - 1) [dot] = o
  by_cases h : c = 0
  · subst h
    cases o <;> simp
  · simp [h]

theorem enterE_two (D : Dat) (a b : Int) : enterE D [a, b] = if (checkF D).2.2 ≠ 0 then (checkF D).2.2 else if outB 0 ((D.spots.length : Int) - 1) [a, b] = true then 4 else if a = b then 2 else if (truthsL D 0).isEmpty = true then 8 else 0 := by
  unfold enterE
  have h : ([a, b].length = 2 ∧ rd [a, b] 0 = rd [a, b] 1) ↔ a = b := ⟨fun h => h.2, fun h => ⟨rfl, h⟩⟩
  simp only [h]

end Go.Proofs.Ytemeapfnfegkiaa.D
end
section
/- Package disk: how many groups and spots there are; the least and the greatest of what truths say. -/
namespace Go.Proofs.Ytemeapfnfegkiaa.D
open Go Go.RowKit Go.Proofs.YtemeapfnfegkiaaK Go.Proofs.YtemeapfnfegkiaaW.PrintWords Go.Proofs.YtemeapfnfegkiaaW.PrintLast Go.Proofs.YtemeapfnfegkiaaW.PrintMore Go.Proofs.Ytemeapfnfegkiaa.PR
set_option linter.unusedVariables false
set_option linter.unusedSimpArgs false

theorem RefG.lead {g : Nat → Int} {n : Nat} {R : List Int} (h : RefG g n R) (hg : ∀ x, 0 ≤ g x) (x : Nat) (hx : x < n) : rd R (x : Int) = (x : Int) ↔ leader g x = true := by
  rw [leader_iff]
  by_cases e : g x = 0
  · rw [h.no x hx e, e]; omega
  · obtain ⟨y, h1, h2, h3, h4, h5⟩ := h.yes x hx e
    have h0 := hg x
    rw [h3]
    constructor
    · intro hy
      have : y = x := by omega
      subst this
      exact ⟨by omega, fun k hk hkx => by have := h5 k hkx; omega⟩
    · rintro ⟨_, hk⟩
      have : ¬ y < x := fun hlt => hk y hlt h4
      omega
def spotsG (g : Nat → Int) (n : Nat) : Nat := (List.range n).countP fun k => decide (0 < g k)
theorem rCount0 {g : Nat → Int} {n : Nat} {R : List Int} (h : RefG g n R) (hg : ∀ x, 0 ≤ g x) (hn : n ≤ 7) (near : Int) (d : Nat) : ∀ (i : Nat), i + d = n →
    Ev (fun f => helioscoperef01_Count.l0 f (((List.range i).countP (leader g) : Nat) : Int) (spotsG g i : Int) (i : Int) near R) ((((List.range n).countP (leader g) : Nat) : Int), (spotsG g n : Int)) := by
  have hlen := h.len
  induction d with
  | zero =>
    intro i hi
    obtain rfl : i = n := by omega
    refine Ev.step (f := fun _ => some ((((List.range i).countP (leader g) : Nat) : Int), (spotsG g i : Int))) (fun f => ?_) (Ev.now _)
    simp only [helioscoperef01_Count.l0]
    rw [if_neg (by omega)]
  | succ d ih =>
    intro i hi
    have hin : i < n := by omega
    have ih' := ih (i + 1) (by omega)
    have h1 := h.ge hg i hin
    have h2 := h.lead hg i hin
    have c1 := List.countP_le_length (p := leader g) (l := List.range i)
    have c2 := List.countP_le_length (p := fun k => decide (0 < g k)) (l := List.range i)
    rw [List.length_range] at c1 c2
    have hs : spotsG g (i + 1) = spotsG g i + if 0 < g i then 1 else 0 := by
      unfold spotsG; rw [List.range_succ, List.countP_append, List.countP_singleton]; simp
    have c2' : spotsG g i ≤ i := c2
    rw [hs, List.range_succ, List.countP_append, List.countP_singleton] at ih'
    generalize (List.range i).countP (leader g) = a at *
    generalize spotsG g i = b at *
    refine Ev.step (fun f => ?_) ih'
    simp only [helioscoperef01_Count.l0]
    rw [if_pos (by omega), if_pos (by omega), wrapN (n := i) (by omega)]
    by_cases hl : leader g i = true
    · have h0 := (leader_iff.1 hl).1
      rw [if_pos (h1.2 h0), if_pos (h2.2 hl), if_pos hl, if_pos h0, wrapN (by omega), wrapN (by omega)]
    · rw [if_neg hl]
      by_cases h0 : 0 < g i
      · rw [if_pos (h1.2 h0), if_neg (fun x => hl (h2.1 x)), if_pos h0, wrapN (by omega)]; rfl
      · rw [if_neg (fun x => h0 (h1.1 x)), if_neg (fun x => hl (h2.1 x)), if_neg h0]; rfl
theorem spots_eq (g : Nat → Int) (hg : ∀ x, 0 ≤ g x) : ∀ k, spotsTo g k = (spotsG g k : Int)
  | 0 => rfl
  | k + 1 => by
    have ih := spots_eq g hg k
    have h0 := hg k
    unfold spotsTo
    rw [ih]
    unfold spotsG
    rw [List.range_succ, List.countP_append, List.countP_singleton]
    by_cases h : 0 < g k
    · simp only [decide_eq_true h, if_true]; omega
    · simp only [decide_eq_false h, Bool.false_eq_true, if_false]; omega
theorem spotsG_up {g : Nat → Int} {n : Nat} (h : ∀ x, g x ≠ 0 → x < n) : ∀ d, spotsG g (n + d) = spotsG g n
  | 0 => rfl
  | d + 1 => by
    have ih := spotsG_up h d
    unfold spotsG at *
    rw [← Nat.add_assoc, List.range_succ, List.countP_append, ih, List.countP_singleton]
    have : g (n + d) = 0 := Classical.byContradiction fun x => by have := h _ x; omega
    simp [this]
theorem manyF_eq {D : Dat} (hV : Valid D) (near : Int) (set : Nat) : manyF (G D near set) = manyG D near set := by
  have S := G_spec D near set hV.n7
  have h7 := hV.n7
  generalize G D near set = g at S
  generalize manyG D near set = m at S
  have l0 := S.low 0
  have l1 := S.low 1
  have l2 := S.low 2
  have l3 := S.low 3
  have l4 := S.low 4
  have l5 := S.low 5
  have l6 := S.low 6
  have hh : m = 0 ∨ (g 0 = m ∨ g 1 = m ∨ g 2 = m ∨ g 3 = m ∨ g 4 = m ∨ g 5 = m ∨ g 6 = m) := by
    by_cases h : m = 0
    · exact .inl h
    · obtain ⟨x, hx, hv⟩ := S.has m (by omega) (Int.le_refl _)
      right
      have : x = 0 ∨ x = 1 ∨ x = 2 ∨ x = 3 ∨ x = 4 ∨ x = 5 ∨ x = 6 := by omega
      rcases this with rfl | rfl | rfl | rfl | rfl | rfl | rfl <;> simp [hv]
  simp only [manyF, maxL, foldL, List.foldl_cons, List.foldl_nil]
  omega
theorem rCount {D : Dat} (hV : Valid D) (near : Int) (set : Nat) (x : Int) : Ev (fun f => helioscoperef01_Count.f f x (RG D near set)) (manyF (G D near set), spotsTo (G D near set) 7) := by
  have S := G_spec D near set hV.n7
  have h7 := hV.n7
  have := rCount0 (RG_ref hV near set) (G_nonneg hV near set) hV.n7 x D.spots.length 0 (by omega)
  rw [manyF_eq hV, spots_eq _ (G_nonneg hV near set), ← S.lead]
  have e : spotsG (G D near set) 7 = spotsG (G D near set) D.spots.length := by
    have := spotsG_up (g := G D near set) (n := D.spots.length) (fun x hx => (S.in_ x hx).1) (7 - D.spots.length)
    rw [show D.spots.length + (7 - D.spots.length) = 7 by omega] at this
    exact this
  rw [e]
  exact this

theorem foldMin : ∀ (xs : List Int) (x : Int), (xs.foldl min x ∈ x :: xs) ∧ ∀ y ∈ x :: xs, xs.foldl min x ≤ y
  | [], x => ⟨by simp, fun y hy => by simp at hy; simp [hy]⟩
  | a :: xs, x => by
    obtain ⟨h1, h2⟩ := foldMin xs (min x a)
    simp only [List.foldl_cons]
    refine ⟨?_, fun y hy => ?_⟩
    · rcases List.mem_cons.1 h1 with h | h
      · rw [h]; rcases Int.le_total x a with q | q
        · rw [Int.min_eq_left q]; simp
        · rw [Int.min_eq_right q]; simp
      · simp [h]
    · have h0 := h2 (min x a) (List.mem_cons_self ..)
      rcases List.mem_cons.1 hy with h | h
      · subst h; omega
      · rcases List.mem_cons.1 h with h | h
        · subst h; omega
        · exact h2 y (List.mem_cons_of_mem _ h)
theorem foldMax : ∀ (xs : List Int) (x : Int), (xs.foldl max x ∈ x :: xs) ∧ ∀ y ∈ x :: xs, y ≤ xs.foldl max x
  | [], x => ⟨by simp, fun y hy => by simp at hy; simp [hy]⟩
  | a :: xs, x => by
    obtain ⟨h1, h2⟩ := foldMax xs (max x a)
    simp only [List.foldl_cons]
    refine ⟨?_, fun y hy => ?_⟩
    · rcases List.mem_cons.1 h1 with h | h
      · rw [h]; rcases Int.le_total x a with q | q
        · rw [Int.max_eq_right q]; simp
        · rw [Int.max_eq_left q]; simp
      · simp [h]
    · have h0 := h2 (max x a) (List.mem_cons_self ..)
      rcases List.mem_cons.1 hy with h | h
      · subst h; omega
      · rcases List.mem_cons.1 h with h | h
        · subst h; omega
        · exact h2 y (List.mem_cons_of_mem _ h)
theorem minL_spec {l : List Int} (h : l ≠ []) : minL l ∈ l ∧ ∀ y ∈ l, minL l ≤ y := by
  cases l with
  | nil => exact absurd rfl h
  | cons x xs => exact foldMin xs x
theorem maxL_spec {l : List Int} (h : l ≠ []) : maxL l ∈ l ∧ ∀ y ∈ l, y ≤ maxL l := by
  cases l with
  | nil => exact absurd rfl h
  | cons x xs => exact foldMax xs x
theorem enterE_none (D : Dat) : enterE D [] = if (checkF D).2.2 ≠ 0 then (checkF D).2.2 else if (truthsL D 0).isEmpty = true then 8 else 0 := by
  unfold enterE
  have h1 : outB 0 ((D.spots.length : Int) - 1) [] = false := rfl
  simp [h1]

end Go.Proofs.Ytemeapfnfegkiaa.D
end
section
namespace Go.Proofs.Ytemeapfnfegkiaa.PR
open Go.RowKit Go.Proofs.YtemeapfnfegkiaaW.PrintWords Go.Proofs.YtemeapfnfegkiaaW.PrintLast Go.Proofs.YtemeapfnfegkiaaW.PrintMore
attribute [local go_sem] max2_int min2_int max_two min_two max_three min_three max_four min_four   -- for this text's walks alone
set_option linter.unusedVariables false
set_option linter.unusedSimpArgs false

def helioscoperef01_Inside.f (a0 : Int) (a1_0 : Int) (a1_1 : Int) : Option (Bool) := (helioscoperef01_In.f a0 a1_0 a1_1).bind fun t350 => (some t350)
set_option maxHeartbeats 8000000 in
set_option maxRecDepth 100000 in
theorem helioscoperef01_Inside.calls (a0 : Int) (a1_0 : Int) (a1_1 : Int) (r : Bool) (w : World) (h : helioscoperef01_Inside.f a0 a1_0 a1_1 = some r) :
  Calls Try.prog 44 #[.int .i64 a0, .agg #[.int .i64 a1_0, .int .i64 a1_1]] w fun e w' => e = .returned (.bool r) ∧ Below w.heap.size w w' := by
 have hu23 := Try.underlying23
 have HB := Aside0.mk (Below.refl w.heap.size w)
 have H : ((helioscoperef01_In.f a0 a1_0 a1_1).bind fun t350 => (some t350)) = some r := h
 clear h
 replace H := Option.bind_eq_some_iff.mp H
 obtain ⟨t350, A30, H⟩ := H
 replace H : (some t350) = some r := H
 have A3 := Aside0.mk A30
 clear A30
 obtain rfl := Option.some.inj H
 go_enter Try.func44, Try.ntmps44
 go_wp2_with (first | ((with_reducible refine gate_dst (N := 3) rfl ?_); refine box_event ?hg (N := 3) ?hd (cs := #[.int .i64 a1_0, .int .i64 a1_1]) (t := 23) ?hr ?_; (case hd => rfl); (case hg => rfl); (case hr => first | (go_simp; done) | (go_simp; rfl)); intro gb349 hg w4 hbox hb; have n0_ := Aside0.mk (below_step (by repeat (first | (with_reducible first | exact HB.out | apply below_alloc | apply pw_below_drewN | apply below_drew1) | exact HB.out)) hb); have n1_ := Aside0.mk (hbox); have n2_ := Aside0.mk ((by rw [hg]; exact (below_size (by repeat (first | (with_reducible first | exact HB.out | apply below_alloc | apply pw_below_drewN | apply below_drew1) | exact HB.out))) : w.heap.size ≤ gb349)); have n3_ := Aside0.mk ((by rw [hg]; exact (below_size (by repeat (first | (with_reducible first | exact HB.out | apply below_alloc | apply pw_below_drewN | apply below_drew1) | exact HB.out))) : w.heap.size ≤ gb349)); clear HB; have HB := n0_; have BK349 := n1_; have GW349 := n2_; have GE349 := n3_; clear n0_ n1_ n2_ n3_; clear hb hbox hg; have hcz5_0 : w4.cell? ⟨gb349, 0, none⟩ = some (.int .i64 a1_0) := (blk_cell BK349.out 0).trans rfl; have hcz5_1 : w4.cell? ⟨gb349, 1, none⟩ = some (.int .i64 a1_1) := (blk_cell BK349.out 1).trans rfl; have hfz5_0 := blk_frozen BK349.out 0; have hfz5_1 := blk_frozen BK349.out 1) | ((with_reducible refine gate_callee (f := 54) rfl ?_); refine goesL_ (some 10) rfl rfl Try.func54 (by kernel_rfl) rfl #[.int .i64 a0, .int .i64 a1_0, .int .i64 a1_1] rfl (by (try simp only [List.map_toArray, List.map_cons, List.map_nil]); first | done | rfl | (simp only [List.length_drop, List.length_take]; rfl)) ?_; (with_reducible refine (helioscoperef01_In.calls a0 a1_0 a1_1 t350 _ A3.out).mono ?_); rintro e w' ⟨rfl, ⟨nd, rfl⟩⟩; refine ⟨_, rfl, ?_⟩))
 go_ret
 exact ⟨by first | rfl | (simp [errW_none, errW_some] <;> rfl) | (simp [*, errW_none, errW_some] <;> rfl), by repeat (first | (with_reducible first | exact HB.out | apply below_alloc | apply pw_below_drewN | apply below_drew1 | refine below_set ?_ GE349.out) | exact HB.out)⟩


def helioscopelaw01_denies.f (a0 : Int) (a1 : Bool) : Option (Bool) := if a0 = 1 then (if a1 = true then (if a0 = 2 then (some a1) else (some false)) else (some true)) else (if a0 = 2 then (some a1) else (some false))
set_option maxHeartbeats 8000000 in
set_option maxRecDepth 100000 in
theorem helioscopelaw01_denies.calls (a0 : Int) (a1 : Bool) (r : Bool) (w : World) (h : helioscopelaw01_denies.f a0 a1 = some r) :
  Calls Try.prog 45 #[.int .i64 a0, .bool a1] w fun e w' => e = .returned (.bool r) ∧ Drawn0 w w' := by
 have H : (if a0 = 1 then (if a1 = true then (if a0 = 2 then (some a1) else (some false)) else (some true)) else (if a0 = 2 then (some a1) else (some false))) = some r := h
 clear h
 by_cases c3 : a0 = 1
 ·
  rw [if_pos c3] at H
  have c3b0 : (a0 == 1) = true := beq_iff_eq.mpr c3
  have c3b1 : (a0 != 1) = false := bne_eq_false_iff_eq.mpr c3
  clear c3
  by_cases c4 : a1 = true
  ·
   subst c4
   have H1 : (if a0 = 2 then (some true) else (some false)) = some r := by rw [if_pos rfl] at H; exact H
   clear H
   have H := H1
   clear H1
   by_cases c5 : a0 = 2
   ·
    rw [if_pos c5] at H
    have c5b0 : (a0 == 2) = true := beq_iff_eq.mpr c5
    have c5b1 : (a0 != 2) = false := bne_eq_false_iff_eq.mpr c5
    clear c5
    obtain rfl := Option.some.inj H
    go_enter Try.func45, Try.ntmps45
    go_wp2
    go_ret
    exact ⟨by first | rfl | (simp; done) | (simp [*]; done), by repeat (first | exact Drawn0.refl _ | apply Drawn0.step)⟩
   ·
    rw [if_neg c5] at H
    have c5b0 : (a0 == 2) = false := beq_eq_false_iff_ne.mpr c5
    have c5b1 : (a0 != 2) = true := bne_iff_ne.mpr c5
    obtain rfl := Option.some.inj H
    go_enter Try.func45, Try.ntmps45
    go_wp2
    go_ret
    exact ⟨by first | rfl | (simp; done) | (simp [*]; done), by repeat (first | exact Drawn0.refl _ | apply Drawn0.step)⟩
  ·
   replace c4 := Bool.eq_false_iff.mpr c4
   subst c4
   have H1 : (some true) = some r := by rw [if_neg (show ¬ (false = true) by decide)] at H; exact H
   clear H
   have H := H1
   clear H1
   obtain rfl := Option.some.inj H
   go_enter Try.func45, Try.ntmps45
   go_wp2
   go_ret
   exact ⟨by first | rfl | (simp; done) | (simp [*]; done), by repeat (first | exact Drawn0.refl _ | apply Drawn0.step)⟩
 ·
  rw [if_neg c3] at H
  have c3b0 : (a0 == 1) = false := beq_eq_false_iff_ne.mpr c3
  have c3b1 : (a0 != 1) = true := bne_iff_ne.mpr c3
  by_cases c6 : a0 = 2
  ·
   rw [if_pos c6] at H
   have c6b0 : (a0 == 2) = true := beq_iff_eq.mpr c6
   have c6b1 : (a0 != 2) = false := bne_eq_false_iff_eq.mpr c6
   clear c6
   obtain rfl := Option.some.inj H
   go_enter Try.func45, Try.ntmps45
   go_wp2
   go_ret
   exact ⟨by first | rfl | (simp; done) | (simp [*]; done), by repeat (first | exact Drawn0.refl _ | apply Drawn0.step)⟩
  ·
   rw [if_neg c6] at H
   have c6b0 : (a0 == 2) = false := beq_eq_false_iff_ne.mpr c6
   have c6b1 : (a0 != 2) = true := bne_iff_ne.mpr c6
   obtain rfl := Option.some.inj H
   go_enter Try.func45, Try.ntmps45
   go_wp2
   go_ret
   exact ⟨by first | rfl | (simp; done) | (simp [*]; done), by repeat (first | exact Drawn0.refl _ | apply Drawn0.step)⟩

def helioscopelaw01_valid.f (k : Nat) (a0_0 : ByteArray) (a0_1 : Int) (a0_2 : Int) (a0_3 : Int) (l0_4 : List (S80)) (l0_5 : List (S52)) : Option (Bool) := (helioscoperef01_Check.f k a0_0 a0_1 a0_2 a0_3 l0_4 l0_5).bind fun bt361 => (some (bt361.2.2 == 0))
set_option maxHeartbeats 8000000 in
set_option maxRecDepth 100000 in
theorem helioscopelaw01_valid.calls (k : Nat) (a0_0 : ByteArray) (a0_1 : Int) (a0_2 : Int) (a0_3 : Int) (A0_4 : Option Addr) (c0_4 : Nat) (l0_4 : List (S80)) (A0_5 : Option Addr) (c0_5 : Nat) (l0_5 : List (S52)) (r : Bool) (w : World) (hr0_4 : Kd.C k80 w A0_4 l0_4.length l0_4) (hc0_4 : l0_4.length ≤ c0_4) (hr0_5 : Kd.C k52 w A0_5 l0_5.length l0_5) (hc0_5 : l0_5.length ≤ c0_5) (h : helioscopelaw01_valid.f k a0_0 a0_1 a0_2 a0_3 l0_4 l0_5 = some r) :
  Calls Try.prog 41 #[.agg #[.string a0_0, .int .i64 a0_1, .int .i64 a0_2, .int .i64 a0_3, .slice A0_4 l0_4.length c0_4, .slice A0_5 l0_5.length c0_5]] w fun e w' => e = .returned (.bool r) ∧ Below w.heap.size w w' := by
 have hu27 := Try.underlying27
 have HR0_4 := Aside0.mk hr0_4
 have HC0_4 := Aside0.mk hc0_4
 clear hr0_4 hc0_4
 have HR0_5 := Aside0.mk hr0_5
 have HC0_5 := Aside0.mk hc0_5
 clear hr0_5 hc0_5
 have HB := Aside0.mk (Below.refl w.heap.size w)
 have H : ((helioscoperef01_Check.f k a0_0 a0_1 a0_2 a0_3 l0_4 l0_5).bind fun bt361 => (some (bt361.2.2 == 0))) = some r := h
 clear h
 replace H := Option.bind_eq_some_iff.mp H
 obtain ⟨⟨t361, t362, t363⟩, A20, H⟩ := H
 replace H : (some (t363 == 0)) = some r := H
 have A2 := Aside0.mk A20
 clear A20
 obtain rfl := Option.some.inj H
 go_enter Try.func41, Try.ntmps41
 go_wp2_with (first | ((with_reducible refine gate_dst (N := 1) rfl ?_); refine box_event ?hg (N := 1) ?hd (cs := #[.string a0_0, .int .i64 a0_1, .int .i64 a0_2, .int .i64 a0_3, .slice A0_4 l0_4.length c0_4, .slice A0_5 l0_5.length c0_5]) (t := 27) ?hr ?_; (case hd => rfl); (case hg => rfl); (case hr => first | (go_simp; done) | (go_simp; rfl)); intro gb360 hg w3 hbox hb; have n0_ := Aside0.mk (below_step (by repeat (first | (with_reducible first | exact HB.out | apply below_alloc | apply pw_below_drewN | apply below_drew1) | exact HB.out)) hb); have n1_ := Aside0.mk (hbox); have n2_ := Aside0.mk ((by rw [hg]; exact (below_size (by repeat (first | (with_reducible first | exact HB.out | apply below_alloc | apply pw_below_drewN | apply below_drew1) | exact HB.out))) : w.heap.size ≤ gb360)); have n3_ := Aside0.mk ((by rw [hg]; exact (below_size (by repeat (first | (with_reducible first | exact HB.out | apply below_alloc | apply pw_below_drewN | apply below_drew1) | exact HB.out))) : w.heap.size ≤ gb360)); clear HB; have HB := n0_; have BK360 := n1_; have GW360 := n2_; have GE360 := n3_; clear n0_ n1_ n2_ n3_; clear hb hbox hg; have hcz4_0 : w3.cell? ⟨gb360, 0, none⟩ = some (.string a0_0) := (blk_cell BK360.out 0).trans rfl; have hcz4_1 : w3.cell? ⟨gb360, 1, none⟩ = some (.int .i64 a0_1) := (blk_cell BK360.out 1).trans rfl; have hcz4_2 : w3.cell? ⟨gb360, 2, none⟩ = some (.int .i64 a0_2) := (blk_cell BK360.out 2).trans rfl; have hcz4_3 : w3.cell? ⟨gb360, 3, none⟩ = some (.int .i64 a0_3) := (blk_cell BK360.out 3).trans rfl; have hcz4_4 : w3.cell? ⟨gb360, 4, none⟩ = some (.slice A0_4 l0_4.length c0_4) := (blk_cell BK360.out 4).trans rfl; have hcz4_5 : w3.cell? ⟨gb360, 5, none⟩ = some (.slice A0_5 l0_5.length c0_5) := (blk_cell BK360.out 5).trans rfl; have hfz4_0 := blk_frozen BK360.out 0; have hfz4_1 := blk_frozen BK360.out 1; have hfz4_2 := blk_frozen BK360.out 2; have hfz4_3 := blk_frozen BK360.out 3; have hfz4_4 := blk_frozen BK360.out 4; have hfz4_5 := blk_frozen BK360.out 5) | ((with_reducible refine gate_callee (f := 19) rfl ?_); refine goesL_ (some 8) rfl rfl Try.func19 (by kernel_rfl) rfl #[.agg #[.string a0_0, .int .i64 a0_1, .int .i64 a0_2, .int .i64 a0_3, .slice A0_4 l0_4.length c0_4, .slice A0_5 l0_5.length c0_5]] rfl (by (try simp only [List.map_toArray, List.map_cons, List.map_nil]); first | done | rfl | (simp only [List.length_drop, List.length_take]; rfl)) ?_; (with_reducible refine (helioscoperef01_Check.calls k a0_0 a0_1 a0_2 a0_3 _ _ l0_4 _ _ l0_5 t361 t362 t363 _ ?side1 ?side2 ?side3 ?side4 A2.out).mono ?_); (case side1 => repeat (first | exact (Kd.C_below HR0_4.out HB.out) | (with_reducible refine Kd.C_alloc ?_ _) | (with_reducible refine Kd.C_drewN ?_ _) | (with_reducible refine Kd.C_drew ?_))); (case side2 => exact HC0_4.out); (case side3 => repeat (first | exact (Kd.C_below HR0_5.out HB.out) | (with_reducible refine Kd.C_alloc ?_ _) | (with_reducible refine Kd.C_drewN ?_ _) | (with_reducible refine Kd.C_drew ?_))); (case side4 => exact HC0_5.out); rintro e w5 ⟨rfl, hb⟩; refine ⟨_, rfl, ?_⟩; have n0_ := Aside0.mk (blk_below (g := gb360) (o := .cells #[.string a0_0, .int .i64 a0_1, .int .i64 a0_2, .int .i64 a0_3, .slice A0_4 l0_4.length c0_4, .slice A0_5 l0_5.length c0_5] 27 (0, 0)) (by (with_reducible repeat (first | refine blk_drewN ?_ _ | refine blk_drew ?_ | refine blk_alloc ?_ _)); exact BK360.out) hb); have n1_ := Aside0.mk (below_step (by repeat (first | (with_reducible first | exact HB.out | apply below_alloc | apply pw_below_drewN | apply below_drew1 | refine below_set ?_ GE360.out) | exact HB.out)) hb); clear BK360; clear HB; have BK360 := n0_; have HB := n1_; clear n0_ n1_; (try clear hb); (try clear hb2); (try clear hk); (try clear hi)))
 go_ret
 exact ⟨by first | rfl | (simp [errW_none, errW_some] <;> rfl) | (simp [*, errW_none, errW_some] <;> rfl), by repeat (first | (with_reducible first | exact HB.out | apply below_alloc | apply pw_below_drewN | apply below_drew1 | refine below_set ?_ GE360.out) | exact HB.out)⟩



end Go.Proofs.Ytemeapfnfegkiaa.PR
end
section
/- Package disk: whether there is a truth; the numbers of all truths, compared. -/
namespace Go.Proofs.Ytemeapfnfegkiaa.D
open Go Go.RowKit Go.Proofs.YtemeapfnfegkiaaK Go.Proofs.YtemeapfnfegkiaaW.PrintWords Go.Proofs.YtemeapfnfegkiaaW.PrintLast Go.Proofs.YtemeapfnfegkiaaW.PrintMore Go.Proofs.Ytemeapfnfegkiaa.PR
set_option linter.unusedVariables false
set_option linter.unusedSimpArgs false

theorem rValid {D : Dat} (hF : Fits D) : Ev (fun f => helioscopelaw01_valid.f f D.nm D.rad D.lo D.hi D.spots D.told) (decide ((checkF D).2.2 = 0)) := by
  unfold helioscopelaw01_valid.f
  refine Ev.bind (rCheck D hF.nm hF.s hF.t) (Ev.congr (f := fun _ => some (decide ((checkF D).2.2 = 0))) (fun f => ?_) (Ev.now _))
  generalize (checkF D).2.2 = c
  by_cases h : c = 0
  · subst h; rfl
  · have h1 : (c == 0) = false := by simpa using h
    rw [h1, decide_eq_false h]
theorem groups_le {D : Dat} (hV : Valid D) (near : Int) (set : Nat) : 0 ≤ manyF (G D near set) ∧ manyF (G D near set) ≤ spotsTo (G D near set) 7 ∧ spotsTo (G D near set) 7 ≤ (D.spots.length : Int) := by
  have S := G_spec D near set hV.n7
  have h7 := hV.n7
  rw [manyF_eq hV, spots_eq _ (G_nonneg hV near set), ← S.lead]
  have e : spotsG (G D near set) 7 = spotsG (G D near set) D.spots.length := by
    have := spotsG_up (g := G D near set) (n := D.spots.length) (fun x hx => (S.in_ x hx).1) (7 - D.spots.length)
    rw [show D.spots.length + (7 - D.spots.length) = 7 by omega] at this
    exact this
  rw [e]
  have h1 : (List.range D.spots.length).countP (leader (G D near set)) ≤ spotsG (G D near set) D.spots.length :=
    List.countP_mono_left fun x _ hx => decide_eq_true (leader_iff.1 hx).1
  have h2 := List.countP_le_length (p := fun k => decide (0 < G D near set k)) (l := List.range D.spots.length)
  rw [List.length_range] at h2
  have h3 : spotsG (G D near set) D.spots.length ≤ D.spots.length := h2
  omega
end Go.Proofs.Ytemeapfnfegkiaa.D
end
section
/- Package disk: the fewest things that must be wrong: the program's way and the reference's name the same. -/
namespace Go.Proofs.Ytemeapfnfegkiaa.D
open Go Go.RowKit Go.Proofs.YtemeapfnfegkiaaK Go.Proofs.YtemeapfnfegkiaaW.PrintWords Go.Proofs.YtemeapfnfegkiaaW.PrintLast Go.Proofs.YtemeapfnfegkiaaW.PrintMore Go.Proofs.Ytemeapfnfegkiaa.PR
set_option linter.unusedVariables false
set_option linter.unusedSimpArgs false

def ordN : Nat → Nat → List Nat
  | 0, 0 => [0]
  | 1, 0 => [0] | 1, 1 => [1]
  | 2, 0 => [0] | 2, 1 => [1, 2] | 2, 2 => [3]
  | 3, 0 => [0] | 3, 1 => [1, 2, 4] | 3, 2 => [3, 5, 6] | 3, 3 => [7]
  | 4, 0 => [0] | 4, 1 => [1, 2, 4, 8] | 4, 2 => [3, 5, 9, 6, 10, 12] | 4, 3 => [7, 11, 13, 14] | 4, 4 => [15]
  | _, _ => []
def flatN (m : Nat) : List Nat := (List.range (m + 1)).flatMap (ordN m)
def kc (m a b : Nat) : Bool := decide ((bitsL a m).length < (bitsL b m).length) || ((bitsL b m).length == (bitsL a m).length && decide (0 < cmpL (ints (bitsL b m)) (ints (bitsL a m))))
def pairB (m : Nat) : List Nat → Bool
  | [] => true
  | a :: l => (l.all fun b => kc m a b && !kc m b a) && pairB m l
theorem pairB_spec {m : Nat} : ∀ {pre post : List Nat} {s : Nat}, pairB m (pre ++ s :: post) = true → ∀ b ∈ post, kc m s b = true ∧ kc m b s = false
  | [], post, s, h => by
    simp only [List.nil_append, pairB, Bool.and_eq_true, List.all_eq_true] at h
    intro b hb
    have := h.1 b hb
    simpa using this
  | a :: pre, post, s, h => by
    simp only [List.cons_append, pairB, Bool.and_eq_true] at h
    exact pairB_spec h.2
theorem pair_ok : ∀ m, m ≤ 4 → pairB m (flatN m) = true
  | 0, _ => by kernel_rfl
  | 1, _ => by kernel_rfl
  | 2, _ => by kernel_rfl
  | 3, _ => by kernel_rfl
  | 4, _ => by kernel_rfl
  | m + 5, h => by omega
theorem flat_all : ∀ m, m ≤ 4 → ∀ s, s < 2 ^ m → s ∈ flatN m
  | 0, _ => by decide
  | 1, _ => by decide
  | 2, _ => by decide
  | 3, _ => by decide
  | 4, _ => by decide
  | m + 5, h => by omega
theorem flat_lt : ∀ m, m ≤ 4 → ∀ s ∈ flatN m, s < 2 ^ m
  | 0, _ => by decide
  | 1, _ => by decide
  | 2, _ => by decide
  | 3, _ => by decide
  | 4, _ => by decide
  | m + 5, h => by omega

def someT (D : Dat) (set : Nat) : Bool := !(truthsL D set).isEmpty
theorem wrongStep_eq (D : Dat) (set b : Nat) : wrongStep D set (some (bitsL b D.told.length)) = if kc D.told.length b set = true then some (bitsL b D.told.length) else if someT D set = true then some (bitsL set D.told.length) else some (bitsL b D.told.length) := by
  unfold wrongStep kc someT
  have e : (List.range D.told.length).filter (keepP set) = bitsL set D.told.length := List.filter_congr fun i _ => by simp [keepP, outP]
  simp only [e]
  cases (truthsL D set).isEmpty <;> simp
theorem wrongStep_none (D : Dat) (set : Nat) : wrongStep D set none = if someT D set = true then some (bitsL set D.told.length) else none := by
  unfold wrongStep someT
  have e : (List.range D.told.length).filter (keepP set) = bitsL set D.told.length := List.filter_congr fun i _ => by simp [keepP, outP]
  simp only [e]
  cases (truthsL D set).isEmpty <;> simp
theorem wrong_first {D : Dat} (s n : Nat) (hs : someT D s = true) (hb : ∀ b, b < n → b ≠ s → someT D b = true → kc D.told.length s b = true ∧ kc D.told.length b s = false) : ∀ k, k ≤ n →
    (wrongTo D k = none ∨ ∃ b, b < k ∧ someT D b = true ∧ wrongTo D k = some (bitsL b D.told.length)) ∧ (s < k → wrongTo D k = some (bitsL s D.told.length))
  | 0, _ => ⟨.inl rfl, fun h => absurd h (by omega)⟩
  | k + 1, hk => by
    obtain ⟨h1, h2⟩ := wrong_first s n hs hb k (by omega)
    rw [wrongTo_succ]
    rcases Nat.lt_trichotomy s k with hlt | heq | hgt
    · rw [h2 hlt, wrongStep_eq]
      have e : (if kc D.told.length s k = true then some (bitsL s D.told.length) else if someT D k = true then some (bitsL k D.told.length) else some (bitsL s D.told.length)) = some (bitsL s D.told.length) := by
        by_cases hP : someT D k = true
        · rw [if_pos (hb k (by omega) (by omega) hP).1]
        · rw [if_neg hP]; split <;> rfl
      rw [e]
      exact ⟨.inr ⟨s, by omega, hs, rfl⟩, fun _ => rfl⟩
    · subst heq
      have e : wrongStep D s (wrongTo D s) = some (bitsL s D.told.length) := by
        rcases h1 with h | ⟨b, hb1, hb2, h⟩
        · rw [h, wrongStep_none, if_pos hs]
        · rw [h, wrongStep_eq, (hb b (by omega) (by omega) hb2).2, if_neg (by decide), if_pos hs]
      rw [e]
      exact ⟨.inr ⟨s, by omega, hs, rfl⟩, fun _ => rfl⟩
    · refine ⟨?_, fun h => absurd h (by omega)⟩
      rcases h1 with h | ⟨b, hb1, hb2, h⟩
      · rw [h, wrongStep_none]
        by_cases hP : someT D k = true
        · rw [if_pos hP]; exact .inr ⟨k, by omega, hP, rfl⟩
        · rw [if_neg hP]; exact .inl rfl
      · rw [h, wrongStep_eq]
        by_cases hk' : kc D.told.length b k = true
        · rw [if_pos hk']; exact .inr ⟨b, by omega, hb2, rfl⟩
        · rw [if_neg hk']
          by_cases hP : someT D k = true
          · rw [if_pos hP]; exact .inr ⟨k, by omega, hP, rfl⟩
          · rw [if_neg hP]; exact .inr ⟨b, by omega, hb2, rfl⟩
theorem wrong_eq {D : Dat} (hV : Valid D) {front back : List Nat} {s : Nat} (hf : flatN D.told.length = front ++ s :: back) (hn : ∀ b ∈ front, someT D b = false) (hs : someT D s = true) : wrongTo D (2 ^ D.told.length) = some (bitsL s D.told.length) := by
  have h4 := hV.t4
  have hp := pair_ok _ h4
  rw [hf] at hp
  have hsl := flat_lt _ h4 s (by rw [hf]; simp)
  refine (wrong_first s (2 ^ D.told.length) hs (fun b hb hne hP => ?_) _ (Nat.le_refl _)).2 hsl
  have hm := flat_all _ h4 b hb
  rw [hf] at hm
  rcases List.mem_append.1 hm with h | h
  · have := hn b h; rw [this] at hP; simp at hP
  · rcases List.mem_cons.1 h with h | h
    · exact absurd h hne
    · exact pairB_spec hp b h

theorem full_some {D : Dat} (hV : Valid D) : someT D (2 ^ D.told.length - 1) = true := by
  have hmem : (D.lo, sureTo D D.spots.length) ∈ truthsL D (2 ^ D.told.length - 1) := by
    unfold truthsL nearsTo
    refine List.mem_flatMap.2 ⟨0, List.mem_range.2 (by have := hV.le; omega), ?_⟩
    unfold setsTo
    refine List.mem_map.2 ⟨sureTo D D.spots.length, List.mem_filter.2 ⟨List.mem_range.2 (sureTo_lt D _), ?_⟩, by simp⟩
    unfold isTruth
    rw [Bool.and_eq_true]
    constructor
    · rw [okSet_upto D _ (sureTo_lt D _)]
      unfold okUpto
      rw [List.all_eq_true]
      intro i hi
      rw [sureTo_bit, decide_eq_true (List.mem_range.1 hi), Bool.true_and]
      cases onB D i <;> cases sureK D i <;> rfl
    · unfold soB soTo
      rw [List.all_eq_true]
      intro i hi
      rw [Nat.testBit_two_pow_sub_one, decide_eq_true (List.mem_range.1 hi)]; rfl
  unfold someT
  cases h : truthsL D (2 ^ D.told.length - 1) with
  | nil => rw [h] at hmem; simp at hmem
  | cons a l => rfl
theorem has_bits (s m i : Nat) (hi : i < m) : hasB (natsI (bitsL s m)) i = s.testBit i := by
  rw [Bool.eq_iff_iff]
  unfold hasB natsI
  simp only [List.any_map, List.any_eq_true, Function.comp, beq_iff_eq]
  constructor
  · rintro ⟨x, hx, he⟩
    have : x = i := by omega
    subst this
    exact (mem_bitsL.1 hx).2
  · intro h
    exact ⟨i, mem_bitsL.2 ⟨hi, h⟩, rfl⟩
end Go.Proofs.Ytemeapfnfegkiaa.D
end
section
/- Package disk: as long as nothing was told: with more nears there are more truths, and the same spots. -/
namespace Go.Proofs.Ytemeapfnfegkiaa.D
open Go Go.RowKit Go.Proofs.YtemeapfnfegkiaaK Go.Proofs.YtemeapfnfegkiaaW.PrintWords Go.Proofs.YtemeapfnfegkiaaW.PrintLast Go.Proofs.YtemeapfnfegkiaaW.PrintMore Go.Proofs.Ytemeapfnfegkiaa.PR
set_option linter.unusedVariables false
set_option linter.unusedSimpArgs false

abbrev d0 (D : Dat) : Dat := ⟨D.nm, D.rad, D.lo, D.hi, D.spots, []⟩
theorem valsL_mem {D : Dat} (F : Int → (Nat → Int) → Int) {L : List (Int × Nat)} {x : Int × Nat} (h : x ∈ L) : F x.1 (G D x.1 x.2) ∈ valsL D F L := List.mem_map.2 ⟨x, h, rfl⟩
end Go.Proofs.Ytemeapfnfegkiaa.D
end
section
/- Package disk: what Must and Never say of all truths. -/
namespace Go.Proofs.Ytemeapfnfegkiaa.D
open Go Go.RowKit Go.Proofs.YtemeapfnfegkiaaK Go.Proofs.YtemeapfnfegkiaaW.PrintWords Go.Proofs.YtemeapfnfegkiaaW.PrintLast Go.Proofs.YtemeapfnfegkiaaW.PrintMore Go.Proofs.Ytemeapfnfegkiaa.PR
set_option linter.unusedVariables false
set_option linter.unusedSimpArgs false

theorem one_val {D : Dat} {a b : Nat} (h : enterE D [] = 0) (ha : a < D.spots.length) (hb : b < D.spots.length) (hne : a ≠ b) : oneF D a b = (toldF (cnt D (oneQ a b) (truthsL D 0)) (truthsL D 0).length, 0) := by
  have he := enterE_two D a b
  have h0 := enterE_none D
  rw [h] at h0
  have hc : (checkF D).2.2 = 0 := by
    by_cases hc : (checkF D).2.2 = 0
    · exact hc
    · rw [if_pos hc] at h0; exact absurd h0.symm hc
  rw [if_neg (fun x => x hc)] at h0 he
  have hz : ¬ (truthsL D 0).isEmpty = true := fun hz => by rw [if_pos hz] at h0; simp at h0
  rw [if_neg (fun x => (outB_two _ _ _ _).1 x ⟨by omega, by omega⟩), if_neg (by omega), if_neg hz] at he
  unfold oneF; rw [if_pos he, Int.toNat_natCast, Int.toNat_natCast]
theorem is_val {D : Dat} {a : Nat} (h : enterE D [] = 0) (ha : a < D.spots.length) : isF D a = (toldF (cnt D (isQ a) (truthsL D 0)) (truthsL D 0).length, 0) := by
  have he := enterE_one D a
  have h0 := enterE_none D
  rw [h] at h0
  have hc : (checkF D).2.2 = 0 := by
    by_cases hc : (checkF D).2.2 = 0
    · exact hc
    · rw [if_pos hc] at h0; exact absurd h0.symm hc
  rw [if_neg (fun x => x hc)] at h0
  have hz : ¬ (truthsL D 0).isEmpty = true := fun hz => by rw [if_pos hz] at h0; simp at h0
  have ho : ¬ outB 0 ((D.spots.length : Int) - 1) [(a : Int), (a : Int)] = true := fun x => (outB_two _ _ _ _).1 x ⟨by omega, by omega⟩
  simp only [ne_eq, hc, not_true_eq_false, if_false, if_neg ho, if_neg hz] at he
  unfold isF; rw [if_pos he, Int.toNat_natCast]
end Go.Proofs.Ytemeapfnfegkiaa.D
end
section
/- Package disk: all dots moved. -/
namespace Go.Proofs.Ytemeapfnfegkiaa.D
open Go Go.RowKit Go.Proofs.YtemeapfnfegkiaaK Go.Proofs.YtemeapfnfegkiaaW.PrintWords Go.Proofs.YtemeapfnfegkiaaW.PrintLast Go.Proofs.YtemeapfnfegkiaaW.PrintMore Go.Proofs.Ytemeapfnfegkiaa.PR
set_option linter.unusedVariables false
set_option linter.unusedSimpArgs false

structure Mv (f : Spot → Spot) : Prop where
  zero : f z80 = z80
  sure : ∀ x, (f x).f2 = x.f2
  sq : ∀ x, (f x).f0 * (f x).f0 + (f x).f1 * (f x).f1 = x.f0 * x.f0 + x.f1 * x.f1
  out : ∀ n : Int, ∀ x y, outB (-n) n [(f x).f0 - (f y).f0, (f x).f1 - (f y).f1] = outB (-n) n [x.f0 - y.f0, x.f1 - y.f1]
  edge : ∀ n : Int, ∀ x, outB (-n) n [(f x).f0, (f x).f1] = outB (-n) n [x.f0, x.f1]
  same : ∀ x y, sameAs (f x) (f y) = sameAs x y
theorem Mv.comp {f g : Spot → Spot} (hf : Mv f) (hg : Mv g) : Mv fun x => f (g x) :=
  ⟨by rw [hg.zero, hf.zero], fun x => (hf.sure _).trans (hg.sure x), fun x => (hf.sq _).trans (hg.sq x), fun n x y => (hf.out n _ _).trans (hg.out n x y), fun n x => (hf.edge n _).trans (hg.edge n x), fun x y => (hf.same _ _).trans (hg.same x y)⟩
end Go.Proofs.Ytemeapfnfegkiaa.D
end
section
/- Package disk: a sheet told as a truth has it. -/
namespace Go.Proofs.Ytemeapfnfegkiaa.D
open Go Go.RowKit Go.Proofs.YtemeapfnfegkiaaK Go.Proofs.YtemeapfnfegkiaaW.PrintWords Go.Proofs.YtemeapfnfegkiaaW.PrintLast Go.Proofs.YtemeapfnfegkiaaW.PrintMore Go.Proofs.Ytemeapfnfegkiaa.PR
set_option linter.unusedVariables false
set_option linter.unusedSimpArgs false

def reT (g : Nat → Int) (x : Told) : Told := ⟨x.f0, x.f1, decide (0 < g x.f0.toNat) && g x.f0.toNat == g x.f1.toNat⟩
abbrev dg (D : Dat) (g : Nat → Int) : Dat := ⟨D.nm, D.rad, D.lo, D.hi, D.spots, D.told.map (reT g)⟩
theorem say_reT (g : Nat → Int) (x : Told) : sayB g (reT g x) = true := by unfold sayB reT; simp
theorem errT_re (g : Nat → Int) (n i : Nat) (x : Told) : errT n i (reT g x) = errT n i x := rfl
theorem firstT_re (g : Nat → Int) (n : Nat) : ∀ (l : List Told) (k : Nat), firstE (errT n) (l.map (reT g)) k = firstE (errT n) l k
  | [], _ => rfl
  | x :: l, k => by rw [List.map_cons]; unfold firstE; rw [errT_re, firstT_re g n l (k + 1)]
theorem check_re (D : Dat) (g : Nat → Int) : checkF (dg D g) = checkF D := by
  have e : firstL (dg D g).told 4 (errT D.spots.length) = firstL D.told 4 (errT D.spots.length) := by
    unfold firstL; rw [List.length_map, firstT_re]
  unfold checkF
  rw [e]
theorem setsN_re (D : Dat) (g : Nat → Int) : ∀ k, setsN (dg D g) k = setsN D k
  | 0 => rfl
  | k + 1 => by unfold setsN; rw [setsN_re D g k]; rfl
theorem allN_re (D : Dat) (g : Nat → Int) : allN (dg D g) = allN D := by
  unfold allN allUp; simp only [setsN_re]
theorem in_truths {D : Dat} {x : Int × Nat} (hx : x ∈ allN D) : x ∈ truthsN (dg D (G D x.1 x.2)) [] := by
  unfold truthsN
  rw [allN_re]
  refine List.mem_filter.2 ⟨hx, ?_⟩
  unfold soR
  rw [List.all_eq_true]
  intro i hi
  have hi2 := List.mem_range.1 hi
  rw [told_at _ _ hi2, List.getElem_map]
  show (hasB [] i || sayB (G D x.1 x.2) (reT (G D x.1 x.2) (D.told[i]'(by simpa using hi2)))) = true
  rw [say_reT]; simp
theorem denies_one {α : Type} (L : List α) (p : α → Bool) {x : α} (hx : x ∈ L) : helioscopelaw01_denies.f (toldF (L.countP p) L.length) (p x) = some false := by
  have hpos : 0 < L.length := List.length_pos_of_mem hx
  by_cases h1 : L.countP p = L.length
  · have h2 : p x = true := (List.countP_eq_length.1 h1) x hx
    have e : toldF (L.countP p) L.length = 1 := by unfold toldF; rw [if_pos (by omega)]
    rw [e, h2]; rfl
  · by_cases h0 : L.countP p = 0
    · have h2 : ¬ p x = true := (List.countP_eq_zero.1 h0) x hx
      have hf : p x = false := by simpa using h2
      have e : toldF (L.countP p) L.length = 2 := by unfold toldF; rw [if_neg (by omega), if_pos (by omega)]
      rw [e, hf]; rfl
    · have e : toldF (L.countP p) L.length = 0 := by unfold toldF; rw [if_neg (by omega), if_neg (by omega)]
      rw [e]; rfl
structure Trued (D D2 : Dat) (x : Int × Nat) : Prop where
  en : enterE D2 [] = 0
  wr : wrongF D2 = ([], 0)
  gr : (spanF D2 fun _ g => manyF g).1 ≤ manyF (G D x.1 x.2) ∧ manyF (G D x.1 x.2) ≤ (spanF D2 fun _ g => manyF g).2
  sp : (spanF D2 fun _ g => spotsTo g 7).1 ≤ spotsTo (G D x.1 x.2) 7 ∧ spotsTo (G D x.1 x.2) 7 ≤ (spanF D2 fun _ g => spotsTo g 7).2
  nu : (spanF D2 fun _ g => 10 * manyF g + spotsTo g 7).1 ≤ 10 * manyF (G D x.1 x.2) + spotsTo (G D x.1 x.2) 7 ∧ 10 * manyF (G D x.1 x.2) + spotsTo (G D x.1 x.2) 7 ≤ (spanF D2 fun _ g => 10 * manyF g + spotsTo g 7).2
  ne : (spanF D2 fun n _ => n).1 ≤ x.1 ∧ x.1 ≤ (spanF D2 fun n _ => n).2
  is : ∀ a : Nat, a < D.spots.length → (isF D2 (a : Int)).2 = 0 ∧ helioscopelaw01_denies.f (isF D2 (a : Int)).1 (isQ a (G D x.1 x.2)) = some false
  one : ∀ a b : Nat, a < D.spots.length → b < a → (oneF D2 (a : Int) (b : Int)).2 = 0 ∧ helioscopelaw01_denies.f (oneF D2 (a : Int) (b : Int)).1 (oneQ a b (G D x.1 x.2)) = some false
theorem flat_zero : ∀ m, m ≤ 4 → ∃ back, flatN m = [] ++ 0 :: back
  | 0, _ => ⟨_, rfl⟩
  | 1, _ => ⟨_, rfl⟩
  | 2, _ => ⟨_, rfl⟩
  | 3, _ => ⟨_, rfl⟩
  | 4, _ => ⟨_, rfl⟩
  | m + 5, h => by omega
theorem trued {D : Dat} (hc : (checkF D).2.2 = 0) {x : Int × Nat} (hx : x ∈ allN D) : Trued D (dg D (G D x.1 x.2)) x := by
  obtain ⟨D2, hD2⟩ : ∃ D2, dg D (G D x.1 x.2) = D2 := ⟨_, rfl⟩
  have hm := in_truths hx
  have hc2 : (checkF D2).2.2 = 0 := by rw [← hD2, check_re]; exact hc
  have hV2 := (check_valid hc2).1
  have hG : ∀ n s, G D2 n s = G D n s := fun n s => by rw [← hD2]; rfl
  have hsl : D2.spots.length = D.spots.length := by rw [← hD2]
  rw [hD2] at hm ⊢
  have hL : x ∈ truthsL D2 0 := (truths_perm0 D2).mem_iff.1 hm
  have hen : enterE D2 [] = 0 := by
    rw [enterE_none, hc2]
    simp
    intro h; rw [h] at hL; simp at hL
  have span : ∀ F : Int → (Nat → Int) → Int, (spanF D2 F).1 ≤ F x.1 (G D x.1 x.2) ∧ F x.1 (G D x.1 x.2) ≤ (spanF D2 F).2 := fun F => by
    have hv := valsL_mem (D := D2) F hL
    rw [hG] at hv
    have hne : valsL D2 F (truthsL D2 0) ≠ [] := fun h => by rw [h] at hv; simp at hv
    unfold spanF
    rw [if_pos hen]
    exact ⟨(minL_spec hne).2 _ hv, (maxL_spec hne).2 _ hv⟩
  refine ⟨hen, ?_, span _, span _, span _, span _, fun a ha => ?_, fun a b ha hb => ?_⟩
  · have hs : someT D2 0 = true := by
      unfold someT
      cases h : truthsL D2 0 with
      | nil => rw [h] at hL; simp at hL
      | cons _ _ => rfl
    obtain ⟨back, hb⟩ := flat_zero _ hV2.t4
    have := wrong_eq hV2 hb (fun b h => by simp at h) hs
    unfold wrongF
    rw [if_pos hc2, this]
    simp [bitsL]
  · rw [is_val hen (by omega)]
    refine ⟨rfl, ?_⟩
    have := denies_one (truthsL D2 0) (fun y => isQ a (G D2 y.1 y.2)) hL
    rw [hG] at this
    exact this
  · rw [one_val hen (by omega) (by omega) (by omega)]
    refine ⟨rfl, ?_⟩
    have := denies_one (truthsL D2 0) (fun y => oneQ a b (G D2 y.1 y.2)) hL
    rw [hG] at this
    exact this
theorem allN_pos {D : Dat} (hV : Valid D) : 0 < (allN D).length := by
  have hs := full_some hV
  have hp := (truths_perm D (natsI (bitsL (2 ^ D.told.length - 1) D.told.length)) (2 ^ D.told.length - 1) (fun i hi => has_bits _ _ i hi)).length_eq
  have hl : 0 < (truthsN D (natsI (bitsL (2 ^ D.told.length - 1) D.told.length))).length := by
    rw [hp]
    unfold someT at hs
    cases h : truthsL D (2 ^ D.told.length - 1) with
    | nil => rw [h] at hs; simp at hs
    | cons _ _ => simp
  unfold truthsN at hl
  exact Nat.lt_of_lt_of_le hl (List.length_filter_le _ _)
def mixT (g : Nat → Int) (l : List Told) (k : Nat) : List Told := (l.take k).map (reT g) ++ l.drop k
theorem mixT_len (g : Nat → Int) (l : List Told) (k : Nat) : (mixT g l k).length = l.length := by
  unfold mixT; simp; omega
theorem mixT_at (g : Nat → Int) (l : List Told) (k : Nat) (hk : k < l.length) : rd_T52 (mixT g l k) (k : Int) = l[k] := by
  rw [told_at _ _ (by rw [mixT_len]; exact hk)]
  unfold mixT
  rw [List.getElem_append_right (by simp; omega)]
  simp [Nat.min_eq_left (Nat.le_of_lt hk)]
theorem mixT_succ (g : Nat → Int) (l : List Told) (k : Nat) (hk : k < l.length) : (mixT g l k).set k (reT g l[k]) = mixT g l (k + 1) := by
  unfold mixT
  have e : (List.map (reT g) (l.take k)).length = k := by simp; omega
  rw [List.set_append_right _ _ (by omega), e, Nat.sub_self, List.drop_eq_getElem_cons hk, List.set_cons_zero, List.take_succ_eq_append_getElem hk, List.map_append, List.append_assoc]
  rfl
theorem mixT_zero (g : Nat → Int) (l : List Told) : mixT g l 0 = l := by simp [mixT]
theorem mixT_all (g : Nat → Int) (l : List Told) : mixT g l l.length = l.map (reT g) := by simp [mixT]
end Go.Proofs.Ytemeapfnfegkiaa.D
end
section
/- General lemmas of this session's own: rows of any plain kind that are copied by append. -/
namespace Go.Proofs.YtemeapfnfegkiaaK
open Go Go.RowKit Go.Proofs.YtemeapfnfegkiaaW.PrintWords Go.Proofs.YtemeapfnfegkiaaW.PrintLast Go.Proofs.YtemeapfnfegkiaaW.PrintMore
set_option linter.unusedVariables false
set_option linter.unusedSimpArgs false
variable {P : Program}

theorem flat_at {α : Type} (enc : α → List Value) {sz : Nat} (hl : ∀ x, (enc x).length = sz) : ∀ (xs : List α), (xs.flatMap enc).length = xs.length * sz ∧
    ∀ j u, (xs.flatMap enc)[j]? = some u → ∃ p i, xs[j / sz]? = some p ∧ (enc p)[i]? = some u ∧ i < sz ∧ j = j / sz * sz + i
  | [] => ⟨by simp, fun j u h => by simp at h⟩
  | x :: xs => by
    obtain ⟨h1, h2⟩ := flat_at enc hl xs
    refine ⟨by rw [List.flatMap_cons, List.length_append, h1, hl, List.length_cons, Nat.succ_mul]; omega, fun j u h => ?_⟩
    rw [List.flatMap_cons] at h
    by_cases hj : j < sz
    · rw [List.getElem?_append_left (by rw [hl]; exact hj)] at h
      have hd : j / sz = 0 := Nat.div_eq_of_lt hj
      exact ⟨x, j, by rw [hd]; rfl, h, hj, by rw [hd]; omega⟩
    · have hsz : 0 < sz := by
        rcases Nat.eq_zero_or_pos sz with e | e
        · subst e
          have h0 : (xs.flatMap enc).length = 0 := by rw [h1, Nat.mul_zero]
          rw [List.getElem?_append_right (by rw [hl]; omega), List.eq_nil_of_length_eq_zero h0] at h
          simp at h
        · exact e
      rw [List.getElem?_append_right (by rw [hl]; omega), hl] at h
      obtain ⟨p, i, a1, a2, a3, a4⟩ := h2 (j - sz) u h
      have hd : j / sz = (j - sz) / sz + 1 := by
        rw [Nat.div_eq_sub_div hsz (by omega)]
      exact ⟨p, i, by rw [hd]; simpa using a1, a2, a3, by rw [hd, Nat.succ_mul]; omega⟩

theorem C_news {α : Type} {d : Kd α} {enc : α → List Value} (hK : ∀ (w : World) x cs, d.K w x cs → cs = enc x) (hl : ∀ x, (enc x).length = d.sz) {w : World} {A : Option Addr} {xs : List α} (h : Kd.C d w A xs.length xs) {ad : Addr} (hA : A = some ad) :
    ∀ j u, (xs.flatMap enc)[j]? = some u → w.cell? (ad.add j) = some u := by
  intro j u hj
  obtain ⟨p, i, h1, h2, h3, h4⟩ := (flat_at enc hl xs).2 j u hj
  have hpos : 0 < xs.length := by
    have := (List.getElem?_eq_some_iff.1 h1).1
    exact Nat.lt_of_le_of_lt (Nat.zero_le _) this
  obtain ⟨ad', e, hc⟩ := h.2.2 hpos
  rw [hA] at e
  cases e
  obtain ⟨cs, hs, hk, hcell⟩ := hc _ p h1
  rw [hK w p cs hk] at hcell
  rw [h4]
  exact hcell i u h2
theorem C_some {α : Type} {d : Kd α} {w : World} {A : Option Addr} {xs : List α} (h : Kd.C d w A xs.length xs) (h0 : A = none) : xs = [] := by
  by_cases hp : 0 < xs.length
  · obtain ⟨ad, e, _⟩ := h.2.2 hp
    rw [h0] at e; cases e
  · exact List.eq_nil_of_length_eq_zero (by omega)

theorem append_row {α : Type} {d : Kd α} {enc : α → List Value} (hK : ∀ (w : World) x cs, d.K w x cs → cs = enc x) (hl : ∀ x, (enc x).length = d.sz) (h1 : ∀ x, ∀ u ∈ enc x, u.oneCell' = true) {w : World} {base e t ty : Nat} {i : TypeInfo} {z : Value} {bytes : Nat}
    (ht : P.underlying t = some (.slice e)) (hi : P.info? e = some i) (hz : i.zero = some z) (hsize : i.size = d.sz) (hby : i.bytes = bytes) (hzs : z.cells.size = d.sz) (hsz : 0 < d.sz) (hb : 0 < bytes)
    {v : Value} {ys : List α} (hown : w.ownsRow base e d.sz v ys.length (ys.flatMap enc)) {A : Option Addr} {c : Nat} {xs : List α} (h : Kd.C d w A xs.length xs) (hn : (ys.length + xs.length) * bytes ≤ 140737488355328) (hbase : base ≤ w.heap.size)
    (hno : A = none → (Builtin.append_ #[t, t] ty #[v, .slice none xs.length c]).run P w = .ok v w) :
    ∃ v' w', (Builtin.append_ #[t, t] ty #[v, .slice A xs.length c]).run P w = .ok v' w' ∧ w'.ownsRow base e d.sz v' (ys ++ xs).length ((ys ++ xs).flatMap enc) ∧ w.grownBy w' v.ownBlock ∧ (v'.ownBlock = v.ownBlock ∨ v'.ownBlock = some w.heap.size) := by
  cases A with
  | none =>
    have hx := C_some h rfl
    refine ⟨v, w, hno rfl, ?_, ⟨rfl, rfl, rfl, Nat.le_refl _, fun _ _ _ => rfl⟩, .inl rfl⟩
    subst hx
    rw [List.append_nil]
    exact hown
  | some ad =>
    obtain ⟨v', w', hr, ho, hg, _, hb'⟩ := run_append_own_at (P := P) w base t ty e i z d.sz bytes ht hi hz hsize hby hzs hsz v ys.length _ hown ad xs.length c (xs.flatMap enc) (flat_at enc hl xs).1 (C_news hK hl h rfl)
      (fun u hu => by obtain ⟨x, _, hx⟩ := List.mem_flatMap.1 hu; exact h1 x u hx) (by have := Nat.le_mul_of_pos_right (ys.length + xs.length) hb; simp only [maxLen]; omega) (by exact hn) hbase
    exact ⟨v', w', hr, by rw [List.length_append, List.flatMap_append]; exact ho, hg, hb'⟩
theorem row_read {α : Type} {d : Kd α} {enc : α → List Value} (hM : ∀ (w : World) x, d.K w x (enc x)) (hl : ∀ x, (enc x).length = d.sz) {w : World} {base e : Nat} {v : Value} {xs : List α} (h : w.ownsRow base e d.sz v xs.length (xs.flatMap enc)) (hn : xs.length ≤ 9223372036854775807) :
    ∃ A c, v = .slice A xs.length c ∧ xs.length ≤ c ∧ Kd.C d w A xs.length xs := by
  rcases h.2 with ⟨rfl, h0⟩ | ⟨g, cap, cur, rfl, hb, hg, hcap, hm, hs, ht⟩
  · have : xs = [] := List.eq_nil_of_length_eq_zero h0
    subst this
    exact ⟨none, 0, rfl, Nat.le_refl _, rfl, by simp, fun h => absurd h (by simp)⟩
  · refine ⟨_, cap, rfl, hcap, rfl, hn, fun _ => ⟨_, rfl, fun j p hj => ⟨enc p, hl p, hM w p, fun i u hu => ?_⟩⟩⟩
    have hadd : (⟨g, 0, none⟩ : Addr).add (j * d.sz + i) = ⟨g, j * d.sz + i, none⟩ := by unfold Addr.add; split <;> simp_all
    rw [hadd, cell_of_row w g _ cur e (0, 0) hg]
    have hjl := (List.getElem?_eq_some_iff.1 hj).1
    have hil : i < d.sz := by rw [← hl p]; exact (List.getElem?_eq_some_iff.1 hu).1
    have key : ∀ (xs : List α) (j : Nat), xs[j]? = some p → (xs.flatMap enc)[j * d.sz + i]? = some u := by
      intro xs
      induction xs with
      | nil => intro j hj; simp at hj
      | cons x xs ih =>
        intro j hj
        rw [List.flatMap_cons]
        cases j with
        | zero =>
          simp at hj
          subst hj
          rw [Nat.zero_mul, Nat.zero_add, List.getElem?_append_left (by rw [hl]; exact hil)]
          exact hu
        | succ j =>
          rw [List.getElem?_append_right (by rw [hl, Nat.succ_mul]; omega), hl, Nat.succ_mul]
          have := ih j (by simpa using hj)
          rw [← this]; congr 1; omega
    have hk := key xs j hj
    have hlt : j * d.sz + i < xs.length * d.sz := by
      have : (j + 1) * d.sz ≤ xs.length * d.sz := Nat.mul_le_mul_right _ hjl
      rw [Nat.succ_mul] at this; omega
    rw [← ht, List.getElem?_take_of_lt hlt] at hk
    rw [← Array.getElem?_toList]; exact hk
theorem append_none {w : World} {t ty e : TypeId} {i : TypeInfo} {z : Value} (ht : P.underlying t = some (.slice e)) (hi : P.info? e = some i) (g m c c' : Nat) (h : m ≤ c) :
    (Builtin.append_ #[t, t] ty #[.slice (some ⟨g, 0, none⟩) m c, .slice none 0 c']).run P w = .ok (.slice (some ⟨g, 0, none⟩) m c) w := by
  simp [Builtin.append_, run_underlying ht, sizeOf, typeInfo, hi, Builtin.lenOf, Builtin.firstCells, loadCells, loadCellsFrom, h, storeCells]

theorem list_run {ops : Array Oper} {rest : List Oper} {o : Oper} {a : Act} {w : World} {Q : Exit → Act → World → Prop} (hgd : o.guard = none) (s x : Operand) (t : TypeId)
    (ho : o.op = .call { callee := .builtin .append, args := #[s, x], argTypes := #[t, t] }) {v u : Value} (hs : a.eval s = v) (hx : a.eval x = u) {v' : Value} {w' : World}
    (hr : (Builtin.append_ #[t, t] o.type #[v, u]).run P w = .ok v' w') (h : wpList P ops Q rest (a.put o.dst v') w') : wpList P ops Q (o :: rest) a w := by
  refine wpList_plain hgd fun K hK => ?_
  unfold Oper.wp execOp
  simp only [ho, resolve, invoke, builtin, Sem.run_bind, Sem.run_pure, Result.andThen_ok, List.map_toArray, List.map_cons, List.map_nil, hs, hx, hr]
  exact hK _ _ h
theorem own_new0 {w : World} {base e sz : Nat} (hb : base ≤ w.heap.size) : (w.alloc (.cells #[] e)).ownsRow base e sz (.slice (some ⟨w.heap.size, 0, none⟩) 0 0) 0 [] :=
  World.ownsRow_lit w #[] 0 hb (by decide) (by simp)
theorem own_far {w : World} {base e sz n : Nat} {v : Value} {xs : List Value} (h : w.ownsRow base e sz v n xs) {p : Addr} (hp : p.block < base) (u : Value) : (w.setCell p u).ownsRow base e sz v n xs := by
  refine ⟨h.1, ?_⟩
  rcases h.2 with hn | ⟨g, cap, cur, rfl, hb, hg, rest⟩
  · exact .inl hn
  · exact .inr ⟨g, cap, cur, rfl, hb, (Below.heap_setCell w p u g (by omega)).trans hg, rest⟩
end Go.Proofs.YtemeapfnfegkiaaK
end
section
/- General lemmas of this session's own: an element of three cells written into a row of its own. -/
namespace Go.Proofs.YtemeapfnfegkiaaK
open Go Go.RowKit Go.Proofs.YtemeapfnfegkiaaW.PrintWords Go.Proofs.YtemeapfnfegkiaaW.PrintLast Go.Proofs.YtemeapfnfegkiaaW.PrintMore
set_option linter.unusedVariables false
set_option linter.unusedSimpArgs false

theorem flat_set3 {α : Type} {enc : α → List Value} (hl : ∀ x, (enc x).length = 3) {x : α} {c0 c1 c2 : Value} (hx : enc x = [c0, c1, c2]) : ∀ (xs : List α) (k : Nat), k < xs.length →
    (((xs.flatMap enc).set (k * 3) c0).set (k * 3 + 1) c1).set (k * 3 + 2) c2 = (xs.set k x).flatMap enc
  | [], k, h => by simp at h
  | y :: ys, 0, _ => by
    obtain ⟨a, b, c, e⟩ : ∃ a b c, enc y = [a, b, c] := by
      have := hl y
      match h : enc y, this with
      | [a, b, c], _ => exact ⟨a, b, c, rfl⟩
    simp [List.flatMap_cons, e, hx]
  | y :: ys, k + 1, h => by
    have ih := flat_set3 hl hx ys k (by simpa using h)
    rw [List.flatMap_cons, List.set_cons_succ, List.flatMap_cons, ← ih]
    have h3 := hl y
    rw [List.set_append_right _ _ (by omega), List.set_append_right _ _ (by omega), List.set_append_right _ _ (by omega)]
    rw [h3, show (k + 1) * 3 - 3 = k * 3 by omega, show (k + 1) * 3 + 1 - 3 = k * 3 + 1 by omega, show (k + 1) * 3 + 2 - 3 = k * 3 + 2 by omega]
theorem own_put3 {α : Type} {enc : α → List Value} (hl : ∀ x, (enc x).length = 3) {w : World} {base e m cap g : Nat} {xs : List α} (hm : xs.length = m) (h : w.ownsRow base e 3 (.slice (some ⟨g, 0, none⟩) m cap) m (xs.flatMap enc)) {k : Nat} (hk : k < m)
    {x : α} {c0 c1 c2 : Value} (hx : enc x = [c0, c1, c2]) :
    (((w.setCell ⟨g, k * 3, none⟩ c0).setCell ⟨g, k * 3 + 1, none⟩ c1).setCell ⟨g, k * 3 + 2, none⟩ c2).ownsRow base e 3 (.slice (some ⟨g, 0, none⟩) m cap) m ((xs.set k x).flatMap enc) := by
  subst hm
  refine ⟨by rw [(flat_at enc hl _).1, List.length_set], ?_⟩
  rcases h.2 with ⟨h1, _⟩ | ⟨g', cap', cur, h1, hb, hg, hcap, hm, hs, ht⟩
  · cases h1
  · cases h1
    refine .inr ⟨g, cap, _, rfl, hb, blk_set (blk_set (blk_set hg _ c0) _ c1) _ c2, hcap, hm, by simpa using hs, ?_⟩
    simp only [Array.toList_setIfInBounds, List.take_set, ht]
    exact flat_set3 hl hx xs k hk
theorem own_at {w : World} {base e sz n cap m : Nat} {A : Option Addr} {cs : List Value} (h : w.ownsRow base e sz (.slice A n cap) m cs) (h0 : 0 < m) : ∃ g, A = some ⟨g, 0, none⟩ ∧ base ≤ g ∧ n = m ∧ n ≤ cap ∧ g < w.heap.size ∧ ∃ cur, w.heap[g]? = some (.cells cur e (0, 0)) ∧ cur.toList.take (m * sz) = cs ∧ m * sz ≤ cur.size := by
  rcases h.2 with ⟨h1, h2⟩ | ⟨g', cap', cur, h1, hb, hg, hcap, hm, hs, ht⟩
  · omega
  · cases h1
    refine ⟨_, rfl, hb, rfl, hcap, blk_lt hg, cur, hg, ht, ?_⟩
    have := h.1
    have h2 := congrArg List.length ht
    rw [List.length_take, Array.length_toList] at h2
    omega
theorem add0 (g n : Nat) : (⟨g, 0, none⟩ : Addr).add n = ⟨g, n, none⟩ := by unfold Addr.add; split <;> simp_all
theorem far3 {w : World} {b g : Nat} {t : TypeId} {cs : Array Value} (h : w.heap[b]? = some (.cells cs t (0, 0))) (hne : b ≠ g) (j : Nat) (c0 c1 c2 : Value) : (((w.setCell ⟨g, j, none⟩ c0).setCell ⟨g, j + 1, none⟩ c1).setCell ⟨g, j + 2, none⟩ c2).heap[b]? = some (.cells cs t (0, 0)) :=
  blk_far (p := ⟨g, j + 2, none⟩) (blk_far (p := ⟨g, j + 1, none⟩) (blk_far (p := ⟨g, j, none⟩) h hne c0) hne c1) hne c2
theorem agree_set {w w0 : World} {a z g j : Nat} {v : Value} (h : ∀ k, a ≤ k → k < z → w.heap[k]? = w0.heap[k]?) (hg : g < a ∨ z ≤ g) : ∀ k, a ≤ k → k < z → (w.setCell ⟨g, j, none⟩ v).heap[k]? = w0.heap[k]? :=
  fun k h1 h2 => (Below.heap_setCell w ⟨g, j, none⟩ v k (by show k ≠ g; omega)).trans (h k h1 h2)
theorem agree_below {w w' w0 : World} {a z : Nat} (h : ∀ k, a ≤ k → k < z → w.heap[k]? = w0.heap[k]?) (hb : Below w.heap.size w w') (hz : z ≤ w.heap.size) : ∀ k, a ≤ k → k < z → w'.heap[k]? = w0.heap[k]? :=
  fun k h1 h2 => (hb.block k (Nat.lt_of_lt_of_le h2 hz)).trans (h k h1 h2)
end Go.Proofs.YtemeapfnfegkiaaK
end
section
/- Package disk: one dot more. -/
namespace Go.Proofs.Ytemeapfnfegkiaa.D
open Go Go.RowKit Go.Proofs.YtemeapfnfegkiaaK Go.Proofs.YtemeapfnfegkiaaW.PrintWords Go.Proofs.YtemeapfnfegkiaaW.PrintLast Go.Proofs.YtemeapfnfegkiaaW.PrintMore Go.Proofs.Ytemeapfnfegkiaa.PR
set_option linter.unusedVariables false
set_option linter.unusedSimpArgs false

abbrev shP (D : Dat) (A4 : Option Addr) (c4 : Nat) (A5 : Option Addr) (c5 : Nat) : Array Value := #[.string D.nm, .int .i64 D.rad, .int .i64 D.lo, .int .i64 D.hi, .slice A4 D.spots.length c4, .slice A5 D.told.length c5]
end Go.Proofs.Ytemeapfnfegkiaa.D
end
section
/- Package disk: rows of dots and of what was told, copied by append. -/
namespace Go.Proofs.Ytemeapfnfegkiaa.D
open Go Go.RowKit Go.Proofs.YtemeapfnfegkiaaK Go.Proofs.YtemeapfnfegkiaaW.PrintWords Go.Proofs.YtemeapfnfegkiaaW.PrintLast Go.Proofs.YtemeapfnfegkiaaW.PrintMore Go.Proofs.Ytemeapfnfegkiaa.PR
set_option linter.unusedVariables false
set_option linter.unusedSimpArgs false
def encD (x : Told) : List Value := [.int .i64 x.f0, .int .i64 x.f1, .bool x.f2]
theorem infoE (t : TypeId) (h : (Try.prog.info? t).map (fun i => (i.zero, i.size, i.bytes)) = some (some (.agg #[(.int .i64 0), (.int .i64 0), (.bool false)]), 3, 24)) : ∃ i, Try.prog.info? t = some i ∧ i.zero = some (.agg #[(.int .i64 0), (.int .i64 0), (.bool false)]) ∧ i.size = 3 ∧ i.bytes = 24 := by
  cases hi : Try.prog.info? t with
  | none => rw [hi] at h; cases h
  | some i => rw [hi] at h; simp at h; exact ⟨i, rfl, h.1, h.2.1, h.2.2⟩
theorem infoD : ∃ i, Try.prog.info? 52 = some i ∧ i.zero = some (.agg #[(.int .i64 0), (.int .i64 0), (.bool false)]) ∧ i.size = 3 ∧ i.bytes = 24 := infoE _ (by kernel_rfl)
theorem encD_one (x : Told) : ∀ u ∈ encD x, u.oneCell' = true := by simp [encD, Value.oneCell']
theorem own_form {w : World} {base e sz n k : Nat} {v : Value} {cs : List Value} (h : w.ownsRow base e sz v n cs) (hk : v.ownBlock = some k) : ∃ c, v = .slice (some ⟨k, 0, none⟩) n c := by
  rcases h.2 with ⟨rfl, _⟩ | ⟨g, cap, cur, rfl, _⟩
  · simp [Value.ownBlock] at hk
  · simp [Value.ownBlock] at hk
    subst hk
    exact ⟨_, rfl⟩
theorem append_tolds {w : World} {base ty g m c0 k0 : Nat} {ys : List Told} (hm : m = ys.length) (hown : w.ownsRow base 52 3 (.slice (some ⟨g, 0, none⟩) m c0) ys.length (ys.flatMap encD)) {A : Option Addr} {c n : Nat} {xs : List Told} (hx : n = xs.length)
    (h : Kd.C k52 w A xs.length xs) (hk0 : k0 = ys.length + xs.length) (hn : (ys.length + xs.length) * 24 ≤ 140737488355328) (hbase : base ≤ w.heap.size) :
    ∃ g' c' w', (Builtin.append_ #[25, 25] ty #[.slice (some ⟨g, 0, none⟩) m c0, .slice A n c]).run Try.prog w = .ok (.slice (some ⟨g', 0, none⟩) k0 c') w' ∧ base ≤ g' ∧ w'.ownsRow base 52 3 (.slice (some ⟨g', 0, none⟩) k0 c') (ys ++ xs).length ((ys ++ xs).flatMap encD) ∧ Below base w w' ∧ w.grownBy w' (some g) := by
  subst hm hx hk0
  obtain ⟨i, hi, hz, hs, hb⟩ := infoD
  obtain ⟨v', w', hr, ho, hg, hb'⟩ := append_row (ty := ty) (d := k52) (enc := encD) (fun w x cs hK => k52_open hK) (fun _ => rfl) encD_one Try.underlying25 hi hz hs hb rfl (by decide) (by decide) hown h hn hbase (fun hA => by
    have hx0 := C_some h hA
    have hle := own_le hown
    rw [hx0]
    exact append_none (z := .bool false) Try.underlying25 hi g _ c0 c hle)
  obtain ⟨k, hk⟩ : ∃ k, v'.ownBlock = some k := by rcases hb' with e | e <;> exact ⟨_, e⟩
  obtain ⟨c', rfl⟩ := own_form ho hk
  rw [List.length_append] at hr ho
  refine ⟨k, c', w', hr, own_base ho k rfl, by rw [List.length_append]; exact ho, (Below.refl base w).grown hg hbase (fun k' e => own_base hown k' e), hg⟩
theorem tolds_read {w : World} {base : Nat} {v : Value} {xs : List Told} (h : w.ownsRow base 52 3 v xs.length (xs.flatMap encD)) (hn : xs.length ≤ 9223372036854775807) : ∃ A c, v = .slice A xs.length c ∧ xs.length ≤ c ∧ Kd.C k52 w A xs.length xs :=
  row_read (d := k52) (enc := encD) (fun w x => k52_mk w x) (fun _ => rfl) h hn
theorem tolds_C {w : World} {base n c : Nat} {A : Option Addr} {xs : List Told} (h : w.ownsRow base 52 3 (.slice A n c) xs.length (xs.flatMap encD)) (hn : xs.length ≤ 9223372036854775807) : Kd.C k52 w A xs.length xs := by
  obtain ⟨A1, c1, e, _, h2⟩ := tolds_read h hn; cases e; exact h2
theorem list_tolds {ops : Array Oper} {rest : List Oper} {o : Oper} {a : Act} {W : World} {Q : Exit → Act → World → Prop} {base g m c0 c n k0 : Nat} {A : Option Addr} {ys xs : List Told} (hgd : o.guard = none) (s x : Operand)
    (ho : o.op = .call { callee := .builtin .append, args := #[s, x], argTypes := #[25, 25] }) (hs : a.eval s = .slice (some ⟨g, 0, none⟩) m c0) (hx : a.eval x = .slice A n c) (hm : m = ys.length) (hn : n = xs.length) (hk0 : k0 = ys.length + xs.length)
    (hown : W.ownsRow base 52 3 (.slice (some ⟨g, 0, none⟩) m c0) ys.length (ys.flatMap encD)) (hC : Kd.C k52 W A xs.length xs) (hl : (ys.length + xs.length) * 24 ≤ 140737488355328) (hb : base ≤ W.heap.size)
    (hk : ∀ g' c' w', base ≤ g' → w'.ownsRow base 52 3 (.slice (some ⟨g', 0, none⟩) k0 c') (ys ++ xs).length ((ys ++ xs).flatMap encD) → Below base W w' → W.grownBy w' (some g) → wpList Try.prog ops Q rest (a.put o.dst (.slice (some ⟨g', 0, none⟩) k0 c')) w') :
    wpList Try.prog ops Q (o :: rest) a W := by
  obtain ⟨g', c', w', hr, h1, h2, h3, h4⟩ := append_tolds (ty := o.type) hm hown hn hC hk0 hl hb
  exact list_run hgd s x 25 ho hs hx hr (hk g' c' w' h1 h2 h3 h4)
end Go.Proofs.Ytemeapfnfegkiaa.D
end
section
/- Package disk: the law's Told. -/
namespace Go.Proofs.Ytemeapfnfegkiaa.D
open Go Go.RowKit Go.Proofs.YtemeapfnfegkiaaK Go.Proofs.YtemeapfnfegkiaaW.PrintWords Go.Proofs.YtemeapfnfegkiaaW.PrintLast Go.Proofs.YtemeapfnfegkiaaW.PrintMore Go.Proofs.Ytemeapfnfegkiaa.PR
set_option linter.unusedVariables false
set_option linter.unusedSimpArgs false

theorem at_T57F {w : World} {A : Option Addr} {n : Nat} {xs : List S57} {ok : Nat → Prop} (h : Kd.F k57 w ok A n xs) (i : Int) (h0 : 0 ≤ i) (h1 : i < n) : ∃ ad A1 c1, A = some ad ∧ w.cell? (ad.add (i.toNat * 2)) = some (.int .i64 (rd_T57 xs i).f0) ∧ w.cell? ⟨(ad.add (i.toNat * 2)).block, (ad.add (i.toNat * 2)).off + 1, none⟩ = some (.slice A1 (rd_T57 xs i).f1.length c1) ∧ (rd_T57 xs i).f1.length ≤ c1 ∧
    ∀ W' : World, (∀ k, ok k → k < w.heap.size → W'.heap[k]? = w.heap[k]?) → Kd.C (Kd.int .i64) W' A1 (rd_T57 xs i).f1.length (rd_T57 xs i).f1 := by
  obtain ⟨ad, cs, e, _, hFK, hc0, _⟩ := Kd.F_get h z57 i h0 h1
  have hc : ∀ j u, cs[j]? = some u → w.cell? (ad.add (i.toNat * 2 + j)) = some u := hc0
  obtain ⟨A1, c1, rfl, l1, g1⟩ := k57_open (hFK w (fun _ _ _ => rfl))
  refine ⟨ad, A1, c1, e, hc 0 _ rfl, by rw [← add_field _ _ 1 (by omega)]; exact hc 1 _ rfl, l1, fun W' hW => ?_⟩
  obtain ⟨A1', c1', e', _, hC⟩ := k57_open (hFK W' hW)
  injection e' with _ e'
  injection e' with e' _
  injection e' with e1 _ _
  rw [e1]; exact hC
theorem results_row22 {P : Program} {fn : Func} {p p' : Tmp} {ty ty' : TypeId} (h : fn.results = #[.cell p ty, .cell p' ty']) (tmps : Array Value) (w : World) (g g' : Nat) (t t' : TypeId) (cs cs' : Array Value) (fr fr' : Nat × Nat) (d d' : TypeDesc)
    (hp : tmps.getD p undef = .pointer (some ⟨g, 0, none⟩)) (hp' : tmps.getD p' undef = .pointer (some ⟨g', 0, none⟩)) (hg : w.heap[g]? = some (.cells cs t fr)) (hg' : w.heap[g']? = some (.cells cs' t' fr'))
    (hu : P.underlying ty = some d) (hd : (match d with | .struct _ | .array _ _ => true | _ => false) = true) (hu' : P.underlying ty' = some d') (hd' : (match d' with | .struct _ | .array _ _ => true | _ => false) = true) (hi : (P.info? ty).map (·.size) = some cs.size) (hi' : (P.info? ty').map (·.size) = some cs'.size) :
    (results fn tmps).run P w = .ok (.tuple #[.agg cs, .agg cs']) w := by
  have h1 : tmps[p]?.getD undef = .pointer (some ⟨g, 0, none⟩) := by simpa using hp
  have h1' : tmps[p']?.getD undef = .pointer (some ⟨g', 0, none⟩) := by simpa using hp'
  simp [results, h, h1, h1', asAddr, run_loadVar_row w g t ty cs fr d hg hu hd hi, run_loadVar_row w g' t' ty' cs' fr' d' hg' hu' hd' hi']
theorem infoT57 : (Try.prog.info? 57).map (·.size) = some 2 := by kernel_rfl
def ToldPost (D : Dat) (A4 : Option Addr) (c4 : Nat) (w : World) (e : Ending) (w' : World) : Prop :=
  ∃ (x : Int × Nat) (A6 A1 : Option Addr) (c6 c1 : Nat), x ∈ allN D ∧ e = .returned (.tuple #[.agg #[.string D.nm, .int .i64 D.rad, .int .i64 D.lo, .int .i64 D.hi, .slice A4 D.spots.length c4, .slice A6 D.told.length c6], .agg #[.int .i64 x.1, .slice A1 (RG D x.1 x.2).length c1]]) ∧
    Arg w' (dg D (G D x.1 x.2)) A4 c4 A6 c6 ∧ Kd.C (Kd.int .i64) w' A1 (RG D x.1 x.2).length (RG D x.1 x.2) ∧ (RG D x.1 x.2).length ≤ c1 ∧ Below w.heap.size w w'
set_option maxRecDepth 100000 in
set_option maxHeartbeats 8000000 in
theorem Told_calls (D : Dat) (A4 : Option Addr) (c4 : Nat) (A5 : Option Addr) (c5 : Nat) (x : Int) (w : World) (h : Arg w D A4 c4 A5 c5) (hV : Valid D) (hx : 0 ≤ x ∧ x ≤ 65535) :
    Calls Try.prog 42 #[.agg #[.string D.nm, .int .i64 D.rad, .int .i64 D.lo, .int .i64 D.hi, .slice A4 D.spots.length c4, .slice A5 D.told.length c5], .int .u16 x] w (ToldPost D A4 c4 w) := by
  have hb1 := below_alloc (below_alloc (below_alloc (Below.refl w.heap.size w) (.cells (shP D A4 c4 A5 c5) 27)) (.cells #[.string ⟨#[]⟩, .int .i64 0, .int .i64 0, .int .i64 0, .slice none 0 0, .slice none 0 0] 27)) (.cells #[.int .i64 0, .slice none 0 0] 57)
  have HB := Aside0.mk hb1
  have HS := Aside0.mk (blk_alloc (blk_alloc (blk_new w (.cells (shP D A4 c4 A5 c5) 27)) (.cells #[.string ⟨#[]⟩, .int .i64 0, .int .i64 0, .int .i64 0, .slice none 0 0, .slice none 0 0] 27)) (.cells #[.int .i64 0, .slice none 0 0] 57))
  have H4 := Aside0.mk (blk_alloc (new_at (W := w.alloc (.cells (shP D A4 c4 A5 c5) 27)) (n := w.heap.size + 1) (by simp) (.cells #[.string ⟨#[]⟩, .int .i64 0, .int .i64 0, .int .i64 0, .slice none 0 0, .slice none 0 0] 27)) (.cells #[.int .i64 0, .slice none 0 0] 57))
  have H5 := Aside0.mk (new_at (W := (w.alloc (.cells (shP D A4 c4 A5 c5) 27)).alloc (.cells #[.string ⟨#[]⟩, .int .i64 0, .int .i64 0, .int .i64 0, .slice none 0 0, .slice none 0 0] 27)) (n := w.heap.size + 1 + 1) (by simp) (.cells #[.int .i64 0, .slice none 0 0] 57))
  have HA := Aside0.mk h
  have HV := Aside0.mk hV
  have HW := Aside0.mk hx
  have hm4 := hV.t4
  obtain ⟨K, hK⟩ := (rAll hV).rounds
  obtain ⟨rl, hrl⟩ : ∃ rl, (allN D).map (toR D) = rl := ⟨_, rfl⟩
  have hlen : rl.length = (allN D).length := by rw [← hrl, List.length_map]
  have hle : rl.length ≤ 1664 := by rw [hlen]; exact allN_len hV
  have hpos : 0 < rl.length := by rw [hlen]; exact allN_pos hV
  rw [hrl] at hK
  have HK := Aside0.mk hK
  have HRL := Aside0.mk hrl
  have HLEN := Aside0.mk hlen
  obtain ⟨q, hq⟩ : ∃ q, w.heap.size = q := ⟨_, rfl⟩
  clear h hb1 hx hK hV hrl hlen
  go_enter Try.func42, Try.ntmps42
  go_upto_region 1 with (fail)
  have hws : (((w.alloc (.cells (shP D A4 c4 A5 c5) 27)).alloc (.cells #[.string ⟨#[]⟩, .int .i64 0, .int .i64 0, .int .i64 0, .slice none 0 0, .slice none 0 0] 27)).alloc (.cells #[.int .i64 0, .slice none 0 0] 57)).heap.size = w.heap.size + 3 := by simp
  generalize ((w.alloc (.cells (shP D A4 c4 A5 c5) 27)).alloc (.cells #[.string ⟨#[]⟩, .int .i64 0, .int .i64 0, .int .i64 0, .slice none 0 0, .slice none 0 0] 27)).alloc (.cells #[.int .i64 0, .slice none 0 0] 57) = w1 at HB HS H4 H5 hws ⊢
  rw [hq] at HS H4 H5 hws
  have HWS := Aside0.mk hws
  clear hws
  have HQ := Aside0.mk hq
  clear hq
  have k0 := (blk_cell HS.out 0).trans rfl
  have k1 := (blk_cell HS.out 1).trans rfl
  have k2 := (blk_cell HS.out 2).trans rfl
  have k3 := (blk_cell HS.out 3).trans rfl
  have k4 := (blk_cell HS.out 4).trans rfl
  have k5 := (blk_cell HS.out 5).trans rfl
  have kl := blk_lt HS.out
  go_wp2_with fail
  clear k0 k1 k2 k3 k4 k5 kl
  have hA := HA.out.below HB.out
  refine (helioscoperef01_All.calls K D.nm D.rad D.lo D.hi A4 c4 D.spots A5 c5 D.told rl w1 hA.s hA.sc hA.t hA.tc HK.out).mono ?_
  rintro e w2 ⟨v0, rfl, hn, hb⟩
  obtain ⟨A, c, rfl⟩ := Kd.N_slice hn
  have HF := Aside0.mk (Kd.N_F hn)
  replace HB := Aside0.mk (HB.out.trans (hb.mono HB.out.size))
  replace HS := Aside0.mk (blk_below HS.out hb)
  replace H4 := Aside0.mk (blk_below H4.out hb)
  replace H5 := Aside0.mk (blk_below H5.out hb)
  clear hb
  clear hA hn HK
  obtain ⟨j, hj, hjm⟩ : ∃ j : Nat, j < rl.length ∧ Int.tmod x (rl.length : Int) = (j : Int) := by
    have h0 := HW.out.1
    refine ⟨x.toNat % rl.length, Nat.mod_lt _ hpos, ?_⟩
    obtain ⟨y, rfl⟩ : ∃ y : Nat, x = y := ⟨x.toNat, by omega⟩
    rw [Int.toNat_natCast]; exact (Int.ofNat_tmod _ _).symm
  obtain ⟨ad, A1, c1, hA', hx0, hx1, hA2, hA3⟩ := at_T57F HF.out (j : Int) (by omega) (by omega)
  subst hA'
  rw [Int.toNat_natCast] at hx0 hx1
  have hjt : j < (allN D).length := by rw [← HLEN.out]; exact hj
  obtain ⟨X, hX⟩ : ∃ X, (allN D)[j] = X := ⟨_, rfl⟩
  have hXm : X ∈ allN D := by rw [← hX]; exact List.getElem_mem _
  have hel : rd_T57 rl (j : Int) = ⟨X.1, RG D X.1 X.2⟩ := by
    have h9 := rd_toR (D := D) (allN D) j hjt
    rw [HRL.out, hX] at h9; exact h9
  rw [hel] at hx0 hx1 hA2 hA3
  dsimp only at hx0 hx1 hA2 hA3
  have HA2 := Aside0.mk hA2
  have HFT := Aside0.mk hA3
  have HXM := Aside0.mk hXm
  clear hel hA2 hA3 hjt hX hXm
  have hnz : ((rl.length : Int) == 0) = false := beq_eq_false_iff_ne.2 (by omega)
  have hnz0 : ¬ ((rl.length : Int) = 0) := by omega
  have hnz1 : ¬ (rl.length = 0) := by omega
  have hwx : IntKind.i64.wrap x = x := wrapI (by have := HW.out; omega) (by have := HW.out; omega)
  have hwx2 : wrap64 x = x := (by have := HW.out; unfold wrap64; omega)
  go_upto_region 3 with (fail)
  have hb : Below w2.heap.size w2 (w2.alloc (.cells #[.int .i64 X.1, .slice A1 (RG D X.1 X.2).length c1] 57)) := below_alloc (Below.refl _ _) _
  have n0 := Aside0.mk (blk_new w2 (.cells #[.int .i64 X.1, .slice A1 (RG D X.1 X.2).length c1] 57))
  have hqz := blk_lt HS.out
  have hqz5 := blk_lt H5.out
  have HAG : Aside0 (∀ k, q + 3 ≤ k → k < w2.heap.size → (w2.alloc (.cells #[.int .i64 X.1, .slice A1 (RG D X.1 X.2).length c1] 57)).heap[k]? = w2.heap[k]?) := ⟨fun k _ h2 => hb.block k h2⟩
  replace HB := Aside0.mk (HB.out.trans (hb.mono HB.out.size))
  replace HS := Aside0.mk (blk_below HS.out hb)
  replace H4 := Aside0.mk (blk_below H4.out hb)
  replace H5 := Aside0.mk (blk_below H5.out hb)
  clear hb
  generalize w2.alloc (.cells #[.int .i64 X.1, .slice A1 (RG D X.1 X.2).length c1] 57) = w3 at HB HS H4 H5 HAG n0 ⊢
  obtain ⟨Z, hZ⟩ : ∃ b, w2.heap.size = b := ⟨_, rfl⟩
  rw [hZ] at n0 hqz hqz5 HAG ⊢
  rw [HWS.out, hZ] at HFT
  have HT := n0
  have HQZ := Aside0.mk (And.intro hqz hqz5)
  clear n0 hZ HF hnz hnz0 hnz1 hwx hwx2 hjm hx0 hx1 hqz hqz5
  have HA3 := Aside0.mk (HA.out.below HB.out)
  have k0 := (blk_cell HS.out 0).trans rfl
  have k1 := (blk_cell HS.out 1).trans rfl
  have k2 := (blk_cell HS.out 2).trans rfl
  have k3 := (blk_cell HS.out 3).trans rfl
  have k4 := (blk_cell HS.out 4).trans rfl
  have k5 := (blk_cell HS.out 5).trans rfl
  have kl := blk_lt HS.out
  have hf5 := blk_frozen HS.out 5
  go_wp2_with (at_builtin; go_loud (refine list_tolds (base := w3.heap.size) (ys := []) (xs := D.told) (n := D.told.length) (k0 := D.told.length) rfl (.tmp 20) (.tmp 22) rfl rfl rfl rfl rfl (by simp) (own_new0 (Nat.le_refl _)) (Kd.C_below HA3.out.t (below_alloc (Below.refl _ _) _)) (by simp; omega) (by simp) ?_); intro g23 c23 w4 hg ho hz hr; have hz2 := (below_alloc (Below.refl w3.heap.size w3) (.cells #[] 52)).trans hz; have HR2 := Aside0.mk (blk_below HS.out hz2); have m5 := (blk_cell HR2.out 5).trans rfl; have f5 := blk_frozen HR2.out 5; have ml := blk_lt HR2.out)
  clear k0 k1 k2 k3 k4 k5 kl
  have hqB := blk_lt HS.out
  have hZB := blk_lt HT.out
  have n1 := blk_set HR2.out 5 (.slice (some ⟨g23, 0, none⟩) D.told.length c23)
  have n2 := blk_far (p := ⟨q, 5, none⟩) (blk_below HT.out hz2) (show Z ≠ q from Nat.ne_of_gt HQZ.out.1) (.slice (some ⟨g23, 0, none⟩) D.told.length c23)
  have n3 := own_far ho (p := ⟨q, 5, none⟩) (show q < w3.heap.size from hqB) (.slice (some ⟨g23, 0, none⟩) D.told.length c23)
  have n4 : Below w.heap.size w (w4.setCell ⟨q, 5, none⟩ (.slice (some ⟨g23, 0, none⟩) D.told.length c23)) := below_set (HB.out.trans (hz2.mono HB.out.size)) (by have := HQ.out; omega)
  have n5 := blk_far (p := ⟨q, 5, none⟩) (blk_below H4.out hz2) (show q + 1 ≠ q by omega) (.slice (some ⟨g23, 0, none⟩) D.told.length c23)
  have n6 := blk_far (p := ⟨q, 5, none⟩) (blk_below H5.out hz2) (show q + 1 + 1 ≠ q by omega) (.slice (some ⟨g23, 0, none⟩) D.told.length c23)
  have n7 := agree_set (g := q) (j := 5) (v := (.slice (some ⟨g23, 0, none⟩) D.told.length c23)) (agree_below HAG.out hz2 (Nat.le_of_lt hZB)) (.inl (by omega))
  obtain ⟨B, hB⟩ : ∃ b, w3.heap.size = b := ⟨_, rfl⟩
  rw [hB] at n3 hg hqB hZB ⊢
  generalize w4.setCell ⟨q, 5, none⟩ (.slice (some ⟨g23, 0, none⟩) D.told.length c23) = w5 at n1 n2 n3 n4 n5 n6 n7 ⊢
  clear m5 f5 hf5 ml HR2 ho hz hr hz2 HS HT H4 H5 HB hB HA3 HAG
  have HS : Aside0 (w5.heap[q]? = some (.cells #[.string D.nm, .int .i64 D.rad, .int .i64 D.lo, .int .i64 D.hi, .slice A4 D.spots.length c4, (.slice (some ⟨g23, 0, none⟩) D.told.length c23)] 27 (0, 0))) := ⟨n1⟩
  have HT := Aside0.mk n2
  have H4 := Aside0.mk n5
  have H5 := Aside0.mk n6
  have HO : Aside0 (w5.ownsRow B 52 3 (.slice (some ⟨g23, 0, none⟩) D.told.length c23) D.told.length (D.told.flatMap encD)) := ⟨n3⟩
  have HB := Aside0.mk n4
  have HAG := Aside0.mk n7
  have HGB := Aside0.mk (And.intro hg (And.intro hqB hZB))
  clear n1 n2 n3 n4 n5 n6 n7 hg hqB hZB
  obtain ⟨g, hgd⟩ : ∃ g, G D X.1 X.2 = g := ⟨_, rfl⟩
  obtain ⟨Rl, hRl⟩ : ∃ Rl, RG D X.1 X.2 = Rl := ⟨_, rfl⟩
  have hRG := RG_ref HV.out X.1 X.2
  have hgn : ∀ z, 0 ≤ g z := fun z => by rw [← hgd]; exact G_nonneg HV.out _ _ z
  rw [hgd, hRl] at hRG
  rw [hRl] at HT HFT HA2 ⊢
  have HRG := Aside0.mk hRG
  have HGN := Aside0.mk hgn
  have HGD := Aside0.mk hgd
  have HRL2 := Aside0.mk hRl
  clear hgd hRl hRG hgn
  go_loopw [8] (fun j wr => ∃ k : Nat, k ≤ D.told.length ∧ j = .int .i64 k ∧ Aside0 (wr.heap[q]? = some (.cells #[.string D.nm, .int .i64 D.rad, .int .i64 D.lo, .int .i64 D.hi, .slice A4 D.spots.length c4, (.slice (some ⟨g23, 0, none⟩) D.told.length c23)] 27 (0, 0))) ∧ Aside0 (wr.heap[Z]? = some (.cells #[.int .i64 X.1, .slice A1 Rl.length c1] 57 (0, 0))) ∧
      Aside0 (wr.heap[q + 1]? = some (.cells #[.string ⟨#[]⟩, .int .i64 0, .int .i64 0, .int .i64 0, .slice none 0 0, .slice none 0 0] 27 (0, 0))) ∧ Aside0 (wr.heap[q + 1 + 1]? = some (.cells #[.int .i64 0, .slice none 0 0] 57 (0, 0))) ∧ Aside0 (wr.ownsRow B 52 3 (.slice (some ⟨g23, 0, none⟩) D.told.length c23) D.told.length ((mixT g D.told k).flatMap encD)) ∧ Aside0 (Below w.heap.size w wr) ∧ Aside0 (∀ k, q + 3 ≤ k → k < Z → wr.heap[k]? = w2.heap[k]?)) (fun j _ => D.told.length - (intOf j).toNat)
  case atStart => exact ⟨0, Nat.zero_le _, rfl, HS, HT, H4, H5, ⟨by rw [mixT_zero]; exact HO.out⟩, HB, HAG⟩
  case round =>
    clear HS HT H4 H5 HO HB HAG
    obtain ⟨k, hk, rfl, HS, HT, H4, H5, HO, HB, HAG⟩ := hrel
    by_cases hlt : k < D.told.length
    · have HAB := Aside0.mk (HV.out.ab k hlt)
      have hC := tolds_C (by rw [mixT_len]; exact HO.out) (by rw [mixT_len]; omega)
      obtain ⟨ad2, e, y0, y1, y2⟩ := at_T52 hC (k : Int) (by omega) (by rw [mixT_len]; omega)
      cases e
      rw [mixT_at g D.told k hlt] at y0 y1 y2
      rw [Int.toNat_natCast, add0] at y0 y1 y2
      dsimp only at y1 y2
      clear hC
      have hab := HAB.out
      rw [told_at _ _ hlt] at hab
      obtain ⟨y, hy⟩ : ∃ y, D.told[k] = y := ⟨_, rfl⟩
      have HY := Aside0.mk hy
      rw [hy] at y0 y1 y2 hab
      have HXY := Aside0.mk hab
      clear hy hab HAB
      have m0 := (blk_cell HS.out 0).trans rfl
      have m1 := (blk_cell HS.out 1).trans rfl
      have m2 := (blk_cell HS.out 2).trans rfl
      have m3 := (blk_cell HS.out 3).trans rfl
      have m4 := (blk_cell HS.out 4).trans rfl
      have m5 := (blk_cell HS.out 5).trans rfl
      have ml := blk_lt HS.out
      go_upto_region 8 with (fail)
      have hgl : g23 < wr.heap.size := by
        obtain ⟨g', e, _, _, _, hl, _⟩ := own_at HO.out (by omega)
        cases e; exact hl
      have hql := blk_lt HS.out
      have hZl := blk_lt HT.out
      have hq5 := blk_lt H5.out
      have hwl : w.heap.size ≤ wr.heap.size := HB.out.size
      have hBl : Z < wr.heap.size := blk_lt HT.out
      have hb : Below wr.heap.size wr (wr.alloc (.cells #[.int .i64 y.f0, .int .i64 y.f1, .bool y.f2] 52)) := below_alloc (Below.refl _ _) _
      have hd := Aside0.mk (blk_new wr (.cells #[.int .i64 y.f0, .int .i64 y.f1, .bool y.f2] 52))
      replace HAG := Aside0.mk (agree_below HAG.out hb (Nat.le_of_lt hBl))
      replace HB := Aside0.mk (HB.out.trans (hb.mono HB.out.size))
      replace HS := Aside0.mk (blk_below HS.out hb)
      replace HT := Aside0.mk (blk_below HT.out hb)
      replace H4 := Aside0.mk (blk_below H4.out hb)
      replace H5 := Aside0.mk (blk_below H5.out hb)
      replace HO := Aside0.mk (pw_own_below HO.out hb)
      clear hb
      generalize wr.alloc (.cells #[.int .i64 y.f0, .int .i64 y.f1, .bool y.f2] 52) = W at HB HS HT H4 H5 HO HAG hd ⊢
      obtain ⟨b, hb⟩ : ∃ b, wr.heap.size = b := ⟨_, rfl⟩
      rw [hb] at hd hgl hql hZl hq5 hwl hBl ⊢
      clear hb m0 m1 m2 m3 m4 m5 ml
      have HLT := Aside0.mk (And.intro hgl (And.intro hql (And.intro hZl (And.intro hq5 (And.intro hwl hBl)))))
      clear hgl hql hZl hq5 hwl hBl y0 y1 y2
      have HD := hd
      clear hd
      obtain ⟨r, hr⟩ : ∃ r, (decide (0 < g y.f0.toNat) && g y.f0.toNat == g y.f1.toNat) = r := ⟨_, rfl⟩
      have htog : helioscoperef01_Together.f X.1 Rl y.f0 y.f1 = some r := by
        rw [← hr]; exact rTogether HRG.out HGN.out X.1 y.f0 y.f1 ⟨HXY.out.1, HXY.out.2.1⟩ ⟨HXY.out.2.2.1, HXY.out.2.2.2.1⟩
      have HTOG := Aside0.mk htog
      have HRE : Aside0 (reT g y = ⟨y.f0, y.f1, r⟩) := ⟨by unfold reT; rw [hr]⟩
      clear htog hr
      have t0 := (blk_cell HT.out 0).trans rfl
      have t1 := (blk_cell HT.out 1).trans rfl
      have tl := blk_lt HT.out
      have d0 := (blk_cell HD.out 0).trans rfl
      have d1 := (blk_cell HD.out 1).trans rfl
      have d2 := (blk_cell HD.out 2).trans rfl
      have dl := blk_lt HD.out
      go_wp2_with fail
      clear t0 t1 tl
      clear d0 d1 d2 dl
      refine (helioscoperef01_Together.calls X.1 A1 c1 Rl y.f0 y.f1 r W (HFT.out W HAG.out) HA2.out HTOG.out).mono ?_
      rintro e W2 ⟨rfl, hb⟩
      replace HAG := Aside0.mk (agree_below HAG.out hb (Nat.le_of_lt (blk_lt HT.out)))
      replace HB := Aside0.mk (HB.out.trans (hb.mono HB.out.size))
      replace HS := Aside0.mk (blk_below HS.out hb)
      replace HT := Aside0.mk (blk_below HT.out hb)
      replace H4 := Aside0.mk (blk_below H4.out hb)
      replace H5 := Aside0.mk (blk_below H5.out hb)
      replace HO := Aside0.mk (pw_own_below HO.out hb)
      replace HD := Aside0.mk (blk_below HD.out hb)
      clear hb
      have d2 := (blk_cell HD.out 2).trans rfl
      have fd2 := blk_frozen HD.out 2
      have dl := blk_lt HD.out
      go_upto_region 9 with (fail)
      clear d2 fd2 dl
      have z0 := blk_set HD.out 2 (.bool r)
      have z1 := blk_far (p := ⟨b, 2, none⟩) HS.out (show q ≠ b from Nat.ne_of_lt HLT.out.2.1) (.bool r)
      have z2 := blk_far (p := ⟨b, 2, none⟩) HT.out (show Z ≠ b from Nat.ne_of_lt HLT.out.2.2.1) (.bool r)
      have z3 := blk_far (p := ⟨b, 2, none⟩) H4.out (show q + 1 ≠ b by have := HLT.out.2.2.2.1; omega) (.bool r)
      have z4 := blk_far (p := ⟨b, 2, none⟩) H5.out (show q + 1 + 1 ≠ b by have := HLT.out.2.2.2.1; omega) (.bool r)
      have z5 := own_setCell HO.out (p := ⟨b, 2, none⟩) (fun e => by simp [Value.ownBlock] at e; have := HLT.out.1; omega) (.bool r)
      have z6 := below_set (j := 2) (v := .bool r) HB.out (show w.heap.size ≤ b from HLT.out.2.2.2.2.1)
      have z7 := agree_set (g := b) (j := 2) (v := .bool r) HAG.out (.inr (Nat.le_of_lt HLT.out.2.2.2.2.2))
      clear HS HT H4 H5 HO HB HAG HD
      generalize W2.setCell ⟨b, 2, none⟩ (.bool r) = W3 at z0 z1 z2 z3 z4 z5 z6 z7 ⊢
      have HS := Aside0.mk z1
      have HT := Aside0.mk z2
      have H4 := Aside0.mk z3
      have H5 := Aside0.mk z4
      have HO := Aside0.mk z5
      have HB := Aside0.mk z6
      have HAG := Aside0.mk z7
      have HD : Aside0 (W3.heap[b]? = some (.cells #[.int .i64 y.f0, .int .i64 y.f1, .bool r] 52 (0, 0))) := ⟨z0⟩
      have hC := tolds_C (by rw [mixT_len]; exact z5) (by rw [mixT_len]; omega)
      obtain ⟨ad3, e, y0, y1, y2⟩ := at_T52 hC (k : Int) (by omega) (by rw [mixT_len]; omega)
      cases e
      rw [Int.toNat_natCast, add0] at y0 y1 y2
      dsimp only at y1 y2
      clear hC
      obtain ⟨g', e, _, _, _, hgl, cur, hcur, _, _⟩ := own_at z5 (by omega)
      cases e
      have f0 := blk_frozen hcur (k * 3)
      have f1 := blk_frozen hcur (k * 3 + 1)
      have f2 := blk_frozen hcur (k * 3 + 2)
      clear hcur z0 z1 z2 z3 z4 z5 z6 z7
      have m0 := (blk_cell HS.out 0).trans rfl
      have m1 := (blk_cell HS.out 1).trans rfl
      have m2 := (blk_cell HS.out 2).trans rfl
      have m3 := (blk_cell HS.out 3).trans rfl
      have m4 := (blk_cell HS.out 4).trans rfl
      have m5 := (blk_cell HS.out 5).trans rfl
      have ml := blk_lt HS.out
      have d0 := (blk_cell HD.out 0).trans rfl
      have d1 := (blk_cell HD.out 1).trans rfl
      have d2 := (blk_cell HD.out 2).trans rfl
      have dl := blk_lt HD.out
      go_wp2_with fail
      have o1 := HGB.out
      have o3 := HQ.out
      have o4 := HQZ.out
      have p1 := far3 HS.out (show q ≠ g23 by omega) (k * 3) (.int .i64 y.f0) (.int .i64 y.f1) (.bool r)
      have p2 := far3 HT.out (show Z ≠ g23 by omega) (k * 3) (.int .i64 y.f0) (.int .i64 y.f1) (.bool r)
      have p3 := far3 H4.out (show q + 1 ≠ g23 by omega) (k * 3) (.int .i64 y.f0) (.int .i64 y.f1) (.bool r)
      have p4 := far3 H5.out (show q + 1 + 1 ≠ g23 by omega) (k * 3) (.int .i64 y.f0) (.int .i64 y.f1) (.bool r)
      have p5 := own_put3 (enc := encD) (fun _ => rfl) (mixT_len g D.told k) HO.out hlt (x := reT g y) (c0 := (.int .i64 y.f0)) (c1 := (.int .i64 y.f1)) (c2 := (.bool r)) (by rw [HRE.out]; rfl)
      have hms := mixT_succ g D.told k hlt
      rw [HY.out] at hms
      rw [hms] at p5
      have p6 := below_set (j := k * 3 + 2) (v := (.bool r)) (below_set (j := k * 3 + 1) (v := (.int .i64 y.f1)) (below_set (j := k * 3) (v := (.int .i64 y.f0)) HB.out (show w.heap.size ≤ g23 by omega)) (show w.heap.size ≤ g23 by omega)) (show w.heap.size ≤ g23 by omega)
      have p7 := agree_set (g := g23) (j := k * 3 + 2) (v := (.bool r)) (agree_set (g := g23) (j := k * 3 + 1) (v := (.int .i64 y.f1)) (agree_set (g := g23) (j := k * 3) (v := (.int .i64 y.f0)) HAG.out (.inr (by omega))) (.inr (by omega))) (.inr (by omega))
      go_roundw
      case rel => exact ⟨k + 1, by omega, by go_num, ⟨p1⟩, ⟨p2⟩, ⟨p3⟩, ⟨p4⟩, ⟨p5⟩, ⟨p6⟩, ⟨p7⟩⟩
      case measure => simp [intOf]; omega
    · obtain rfl : k = D.told.length := by omega
      have m0 := (blk_cell HS.out 0).trans rfl
      have m1 := (blk_cell HS.out 1).trans rfl
      have m2 := (blk_cell HS.out 2).trans rfl
      have m3 := (blk_cell HS.out 3).trans rfl
      have m4 := (blk_cell HS.out 4).trans rfl
      have m5 := (blk_cell HS.out 5).trans rfl
      have ml := blk_lt HS.out
      go_upto_region 10 with (fail)
      have t0 := (blk_cell HT.out 0).trans rfl
      have t1 := (blk_cell HT.out 1).trans rfl
      have tl := blk_lt HT.out
      have a0 := (blk_cell H4.out 0).trans rfl
      have a1 := (blk_cell H4.out 1).trans rfl
      have a2 := (blk_cell H4.out 2).trans rfl
      have a3 := (blk_cell H4.out 3).trans rfl
      have a4 := (blk_cell H4.out 4).trans rfl
      have a5 := (blk_cell H4.out 5).trans rfl
      have al := blk_lt H4.out
      have b0 := (blk_cell H5.out 0).trans rfl
      have b1 := (blk_cell H5.out 1).trans rfl
      have bl := blk_lt H5.out
      have f40 := blk_frozen H4.out 0
      have f41 := blk_frozen H4.out 1
      have f42 := blk_frozen H4.out 2
      have f43 := blk_frozen H4.out 3
      have f44 := blk_frozen H4.out 4
      have f45 := blk_frozen H4.out 5
      have f50 := blk_frozen H5.out 0
      have f51 := blk_frozen H5.out 1
      have hqz := HQZ.out
      have e1 : ¬ (Z = q + 1) := by omega
      have e2 : ¬ (q + 1 = Z) := by omega
      have e3 : ¬ (Z = q + 1 + 1) := by omega
      have e4 : ¬ (q + 1 + 1 = Z) := by omega
      clear hqz
      go_region
      go_wp2
      have o1 := HGB.out
      have o3 := HQ.out
      have o4 := HQZ.out
      have hrow := (own_far (own_far (own_far (own_far (own_far (own_far (own_far (own_far HO.out (p := ⟨q + 1, 0, none⟩) (show q + 1 < B by omega) (.string D.nm)) (p := ⟨q + 1, 1, none⟩) (show q + 1 < B by omega) (.int .i64 D.rad)) (p := ⟨q + 1, 2, none⟩) (show q + 1 < B by omega) (.int .i64 D.lo)) (p := ⟨q + 1, 3, none⟩) (show q + 1 < B by omega) (.int .i64 D.hi)) (p := ⟨q + 1, 4, none⟩) (show q + 1 < B by omega) (.slice A4 D.spots.length c4)) (p := ⟨q + 1, 5, none⟩) (show q + 1 < B by omega) (.slice (some ⟨g23, 0, none⟩) D.told.length c23)) (p := ⟨q + 1 + 1, 0, none⟩) (show q + 1 + 1 < B by omega) (.int .i64 X.1)) (p := ⟨q + 1 + 1, 1, none⟩) (show q + 1 + 1 < B by omega) (.slice A1 Rl.length c1))
      rw [mixT_all] at hrow
      have hcl := own_le HO.out
      have hbf := below_drew1 (below_set (j := 1) (v := (.slice A1 Rl.length c1)) (below_set (j := 0) (v := (.int .i64 X.1)) (below_set (j := 5) (v := (.slice (some ⟨g23, 0, none⟩) D.told.length c23)) (below_set (j := 4) (v := (.slice A4 D.spots.length c4)) (below_set (j := 3) (v := (.int .i64 D.hi)) (below_set (j := 2) (v := (.int .i64 D.lo)) (below_set (j := 1) (v := (.int .i64 D.rad)) (below_set (j := 0) (v := (.string D.nm)) HB.out (show w.heap.size ≤ q + 1 by omega)) (show w.heap.size ≤ q + 1 by omega)) (show w.heap.size ≤ q + 1 by omega)) (show w.heap.size ≤ q + 1 by omega)) (show w.heap.size ≤ q + 1 by omega)) (show w.heap.size ≤ q + 1 by omega)) (show w.heap.size ≤ q + 1 + 1 by omega)) (show w.heap.size ≤ q + 1 + 1 by omega))
      have hC := tolds_C (by rw [List.length_map]; exact hrow) (by simp; omega)
      have hfoot := HFT.out _ (agree_set (g := q + 1 + 1) (j := 1) (v := (.slice A1 Rl.length c1)) (agree_set (g := q + 1 + 1) (j := 0) (v := (.int .i64 X.1)) (agree_set (g := q + 1) (j := 5) (v := (.slice (some ⟨g23, 0, none⟩) D.told.length c23)) (agree_set (g := q + 1) (j := 4) (v := (.slice A4 D.spots.length c4)) (agree_set (g := q + 1) (j := 3) (v := (.int .i64 D.hi)) (agree_set (g := q + 1) (j := 2) (v := (.int .i64 D.lo)) (agree_set (g := q + 1) (j := 1) (v := (.int .i64 D.rad)) (agree_set (g := q + 1) (j := 0) (v := (.string D.nm)) HAG.out (.inl (by omega))) (.inl (by omega))) (.inl (by omega))) (.inl (by omega))) (.inl (by omega))) (.inl (by omega))) (.inl (by omega))) (.inl (by omega)))
      have hC2 := Kd.C_below hC (below_drew1 (Below.refl _ _))
      have hfoot2 := Kd.C_below hfoot (below_drew1 (Below.refl _ _))
      clear hC hfoot hrow
      refine bodyPost_ret (v := .tuple #[.agg #[.string D.nm, .int .i64 D.rad, .int .i64 D.lo, .int .i64 D.hi, .slice A4 D.spots.length c4, .slice (some ⟨g23, 0, none⟩) D.told.length c23], .agg #[.int .i64 X.1, .slice A1 Rl.length c1]])
        (results_row22 rfl _ _ (q + 1) (q + 1 + 1) 27 57 _ _ (0, 0) (0, 0) _ _ rfl rfl (blk_drew (blk_far (p := ⟨q + 1 + 1, 1, none⟩) (blk_far (p := ⟨q + 1 + 1, 0, none⟩) (blk_set (blk_set (blk_set (blk_set (blk_set (blk_set H4.out 0 (.string D.nm)) 1 (.int .i64 D.rad)) 2 (.int .i64 D.lo)) 3 (.int .i64 D.hi)) 4 (.slice A4 D.spots.length c4)) 5 (.slice (some ⟨g23, 0, none⟩) D.told.length c23)) (show q + 1 ≠ q + 1 + 1 by omega) (.int .i64 X.1)) (show q + 1 ≠ q + 1 + 1 by omega) (.slice A1 Rl.length c1))) (blk_drew (blk_set (blk_set (blk_far (p := ⟨q + 1, 5, none⟩) (blk_far (p := ⟨q + 1, 4, none⟩) (blk_far (p := ⟨q + 1, 3, none⟩) (blk_far (p := ⟨q + 1, 2, none⟩) (blk_far (p := ⟨q + 1, 1, none⟩) (blk_far (p := ⟨q + 1, 0, none⟩) H5.out (show q + 1 + 1 ≠ q + 1 by omega) (.string D.nm)) (show q + 1 + 1 ≠ q + 1 by omega) (.int .i64 D.rad)) (show q + 1 + 1 ≠ q + 1 by omega) (.int .i64 D.lo)) (show q + 1 + 1 ≠ q + 1 by omega) (.int .i64 D.hi)) (show q + 1 + 1 ≠ q + 1 by omega) (.slice A4 D.spots.length c4)) (show q + 1 + 1 ≠ q + 1 by omega) (.slice (some ⟨g23, 0, none⟩) D.told.length c23)) 0 (.int .i64 X.1)) 1 (.slice A1 Rl.length c1))) Try.underlying27 rfl Try.underlying57 rfl info27s infoT57) rfl
        ⟨X, some ⟨g23, 0, none⟩, A1, c23, c1, HXM.out, by rw [HRL2.out], ?_, ?_, ?_, hbf⟩
      · rw [HGD.out]
        exact ⟨HA.out.nm, (HA.out.below hbf).s, HA.out.sc, hC2, by rw [List.length_map]; exact hcl⟩
      · rw [HRL2.out]; exact hfoot2
      · rw [HRL2.out]; exact HA2.out
end Go.Proofs.Ytemeapfnfegkiaa.D
end
section
/- Package disk: DiskTrue. -/
namespace Go.Proofs.Ytemeapfnfegkiaa.D
open Go Go.RowKit Go.Proofs.YtemeapfnfegkiaaK Go.Proofs.YtemeapfnfegkiaaW.PrintWords Go.Proofs.YtemeapfnfegkiaaW.PrintLast Go.Proofs.YtemeapfnfegkiaaW.PrintMore Go.Proofs.Ytemeapfnfegkiaa.PR
set_option linter.unusedVariables false
set_option linter.unusedSimpArgs false

set_option maxRecDepth 100000 in
set_option maxHeartbeats 4000000 in
theorem DiskTrue_calls (D : Dat) (A4 : Option Addr) (c4 : Nat) (A5 : Option Addr) (c5 : Nat) (x : Int) (w : World) (h : Arg w D A4 c4 A5 c5) (hx : 0 ≤ x ∧ x ≤ 65535) :
    Calls Try.prog 8 #[.agg #[.string D.nm, .int .i64 D.rad, .int .i64 D.lo, .int .i64 D.hi, .slice A4 D.spots.length c4, .slice A5 D.told.length c5], .int .u16 x] w
      fun e w' => e = .returned (.bool true) ∧ Below w.heap.size w w' := by
  have hb1 := below_alloc (Below.refl w.heap.size w) (.cells (shP D A4 c4 A5 c5) 27)
  have HB := Aside0.mk hb1
  have HS := Aside0.mk (blk_new w (.cells (shP D A4 c4 A5 c5) 27))
  have HA := Aside0.mk h
  have HW := Aside0.mk hx
  obtain ⟨K1, hK1⟩ := (rValid h.fits).rounds
  have HK1 := Aside0.mk hK1
  obtain ⟨q, hq⟩ : ∃ q, w.heap.size = q := ⟨_, rfl⟩
  clear h hb1 hx hK1
  go_enter Try.func8, Try.ntmps8
  go_upto_region 1 with (fail)
  generalize w.alloc (.cells (shP D A4 c4 A5 c5) 27) = w1 at HB HS ⊢
  rw [hq] at HS
  clear hq
  have k0 := (blk_cell HS.out 0).trans rfl
  have k1 := (blk_cell HS.out 1).trans rfl
  have k2 := (blk_cell HS.out 2).trans rfl
  have k3 := (blk_cell HS.out 3).trans rfl
  have k4 := (blk_cell HS.out 4).trans rfl
  have k5 := (blk_cell HS.out 5).trans rfl
  have kl := blk_lt HS.out
  go_wp2_with fail
  clear k0 k1 k2 k3 k4 k5 kl
  have hA := HA.out.below HB.out
  refine (helioscopelaw01_valid.calls K1 D.nm D.rad D.lo D.hi A4 c4 D.spots A5 c5 D.told _ w1 hA.s hA.sc hA.t hA.tc HK1.out).mono ?_
  rintro e w2 ⟨rfl, hb⟩
  replace HB := Aside0.mk (HB.out.trans (hb.mono HB.out.size))
  replace HS := Aside0.mk (blk_below HS.out hb)
  clear hb
  clear HK1 hA
  by_cases hc : (checkF D).2.2 = 0
  · rw [decide_eq_true hc]
    have hV := (check_valid hc).1
    have HV := Aside0.mk hV
    have hn7 := hV.n7
    have HC := Aside0.mk hc
    clear hc hV
    have k0 := (blk_cell HS.out 0).trans rfl
    have k1 := (blk_cell HS.out 1).trans rfl
    have k2 := (blk_cell HS.out 2).trans rfl
    have k3 := (blk_cell HS.out 3).trans rfl
    have k4 := (blk_cell HS.out 4).trans rfl
    have k5 := (blk_cell HS.out 5).trans rfl
    have kl := blk_lt HS.out
    go_wp2_with fail
    clear k0 k1 k2 k3 k4 k5 kl
    refine (Told_calls D A4 c4 A5 c5 x w2 (HA.out.below HB.out) HV.out HW.out).mono ?_
    rintro e w3 ⟨X, A6, A1, c6, c1, hXm, rfl, hA1, hrow, hrl, hb⟩
    clear HS
    replace HB := Aside0.mk (HB.out.trans (hb.mono HB.out.size))
    clear hb
    have hTR := trued HC.out hXm
    obtain ⟨g, hg⟩ : ∃ g, G D X.1 X.2 = g := ⟨_, rfl⟩
    obtain ⟨Rl, hRl⟩ : ∃ Rl, RG D X.1 X.2 = Rl := ⟨_, rfl⟩
    have hRG := RG_ref HV.out X.1 X.2
    have hgn : ∀ z, 0 ≤ g z := fun z => by rw [← hg]; exact G_nonneg HV.out _ _ z
    have hgl := groups_le HV.out X.1 X.2
    obtain ⟨K2, hK2⟩ := (rCount HV.out X.1 X.2 X.1).rounds
    rw [hg, hRl] at hRG hK2
    rw [hg] at hTR hgl hA1
    rw [hRl] at hrow hrl ⊢
    obtain ⟨D2, hD2⟩ : ∃ D2, dg D g = D2 := ⟨_, rfl⟩
    have hld : D2.told.length = D.told.length := by rw [← hD2]; simp
    have hls : D2.spots.length = D.spots.length := by rw [← hD2]
    obtain ⟨m, hm⟩ : ∃ m, manyF g = m := ⟨_, rfl⟩
    obtain ⟨n, hn⟩ : ∃ n, spotsTo g 7 = n := ⟨_, rfl⟩
    have t1 := hTR.en
    have t2 := hTR.wr
    have t3 := hTR.gr
    have t4 := hTR.sp
    have t5 := hTR.nu
    have t6 := hTR.ne
    have t7 := hTR.is
    have t8 := hTR.one
    rw [hg] at t3 t4 t5 t7 t8
    rw [hD2] at t1 t2 t3 t4 t5 t6 t7 t8 hA1
    rw [hm] at t3 t5 hK2 hgl
    rw [hn] at t4 t5 hK2 hgl
    have EN := Aside0.mk t1
    have WR := Aside0.mk t2
    have IS := Aside0.mk t7
    have ON := Aside0.mk t8
    obtain ⟨⟨a1, b1⟩, hs1⟩ : ∃ s, spanF D2 (fun _ g => manyF g) = s := ⟨_, rfl⟩
    rw [hs1] at t3
    have H1 := Aside0.mk hs1
    have I1 : Aside0 (helioscoperef01_Inside.f (m) a1 b1 = some true) := ⟨by unfold helioscoperef01_Inside.f; rw [rIn, Option.bind_some]; simp [t3.1, t3.2]⟩
    clear hs1
    obtain ⟨⟨a2, b2⟩, hs2⟩ : ∃ s, spanF D2 (fun _ g => spotsTo g 7) = s := ⟨_, rfl⟩
    rw [hs2] at t4
    have H2 := Aside0.mk hs2
    have I2 : Aside0 (helioscoperef01_Inside.f (n) a2 b2 = some true) := ⟨by unfold helioscoperef01_Inside.f; rw [rIn, Option.bind_some]; simp [t4.1, t4.2]⟩
    clear hs2
    obtain ⟨⟨a3, b3⟩, hs3⟩ : ∃ s, spanF D2 (fun _ g => 10 * manyF g + spotsTo g 7) = s := ⟨_, rfl⟩
    rw [hs3] at t5
    have H3 := Aside0.mk hs3
    have I3 : Aside0 (helioscoperef01_Inside.f (10 * m + n) a3 b3 = some true) := ⟨by unfold helioscoperef01_Inside.f; rw [rIn, Option.bind_some]; simp [t5.1, t5.2]⟩
    clear hs3
    obtain ⟨⟨a4, b4⟩, hs4⟩ : ∃ s, spanF D2 (fun n _ => n) = s := ⟨_, rfl⟩
    rw [hs4] at t6
    have H4 := Aside0.mk hs4
    have I4 : Aside0 (helioscoperef01_Inside.f (X.1) a4 b4 = some true) := ⟨by unfold helioscoperef01_Inside.f; rw [rIn, Option.bind_some]; simp [t6.1, t6.2]⟩
    clear hs4
    have HRG := Aside0.mk hRG
    have HGN := Aside0.mk hgn
    have HK2 := Aside0.mk hK2
    have HA1 := Aside0.mk hA1
    have HROW := Aside0.mk hrow
    have HRL := Aside0.mk hrl
    have hmn : 0 ≤ m ∧ m ≤ 7 ∧ 0 ≤ n ∧ n ≤ 7 := by omega
    have HMN := Aside0.mk hmn
    have HLD := Aside0.mk hld
    have HLS := Aside0.mk hls
    have HD2 := Aside0.mk hD2
    clear t1 t2 t3 t4 t5 t6 t7 t8 hTR hRG hgn hgl hK2 hA1 hrow hrl hld hls hD2 hm hn hmn hg hRl hXm
    go_upto_region 5 with (fail)
    have hb : Below w3.heap.size w3 ((w3.alloc (.cells #[.string D.nm, .int .i64 D.rad, .int .i64 D.lo, .int .i64 D.hi, .slice A4 D.spots.length c4, .slice A6 D.told.length c6] 27)).alloc (.cells #[.int .i64 X.1, .slice A1 Rl.length c1] 57)) := below_alloc (below_alloc (Below.refl _ _) _) _
    have n0 := Aside0.mk (blk_alloc (blk_new w3 (.cells #[.string D.nm, .int .i64 D.rad, .int .i64 D.lo, .int .i64 D.hi, .slice A4 D.spots.length c4, .slice A6 D.told.length c6] 27)) (.cells #[.int .i64 X.1, .slice A1 Rl.length c1] 57))
    have n1 := Aside0.mk (new_at (W := w3.alloc (.cells #[.string D.nm, .int .i64 D.rad, .int .i64 D.lo, .int .i64 D.hi, .slice A4 D.spots.length c4, .slice A6 D.told.length c6] 27)) (n := w3.heap.size + 1) (by simp) (.cells #[.int .i64 X.1, .slice A1 Rl.length c1] 57))
    replace HA1 := Aside0.mk (HA1.out.below hb)
    replace HB := Aside0.mk (HB.out.trans (hb.mono HB.out.size))
    replace HROW := Aside0.mk (Kd.C_below HROW.out hb)
    clear hb
    generalize (w3.alloc (.cells #[.string D.nm, .int .i64 D.rad, .int .i64 D.lo, .int .i64 D.hi, .slice A4 D.spots.length c4, .slice A6 D.told.length c6] 27)).alloc (.cells #[.int .i64 X.1, .slice A1 Rl.length c1] 57) = w4 at HB HA1 HROW n0 n1 ⊢
    obtain ⟨M, hM⟩ : ∃ b, w3.heap.size = b := ⟨_, rfl⟩
    rw [hM] at n0 n1 ⊢
    clear hM
    have HT := n1
    have HM : Aside0 (w4.heap[M]? = some (.cells #[.string D2.nm, .int .i64 D2.rad, .int .i64 D2.lo, .int .i64 D2.hi, .slice A4 D2.spots.length c4, .slice A6 D2.told.length c6] 27 (0, 0))) := ⟨by rw [← HD2.out]; simp only [List.length_map]; exact n0.out⟩
    clear n0 n1

    have k0 := (blk_cell HM.out 0).trans rfl
    have k1 := (blk_cell HM.out 1).trans rfl
    have k2 := (blk_cell HM.out 2).trans rfl
    have k3 := (blk_cell HM.out 3).trans rfl
    have k4 := (blk_cell HM.out 4).trans rfl
    have k5 := (blk_cell HM.out 5).trans rfl
    have kl := blk_lt HM.out
    go_wp2_with fail
    clear k0 k1 k2 k3 k4 k5 kl
    refine (Wrong_calls D2 A4 c4 A6 c6 w4 HA1.out).mono ?_
    rw [WR.out]
    rintro e w5 ⟨⟨vw, rfl, hn⟩, hb⟩
    replace HA1 := Aside0.mk (HA1.out.below hb)
    replace HB := Aside0.mk (HB.out.trans (hb.mono HB.out.size))
    replace HM := Aside0.mk (blk_below HM.out hb)
    replace HT := Aside0.mk (blk_below HT.out hb)
    replace HROW := Aside0.mk (Kd.C_below HROW.out hb)
    clear hb
    obtain ⟨A8, c8, rfl, _, _⟩ := hn.shape
    clear hn
    go_upto_region 6 with (fail)
    have k0 := (blk_cell HM.out 0).trans rfl
    have k1 := (blk_cell HM.out 1).trans rfl
    have k2 := (blk_cell HM.out 2).trans rfl
    have k3 := (blk_cell HM.out 3).trans rfl
    have k4 := (blk_cell HM.out 4).trans rfl
    have k5 := (blk_cell HM.out 5).trans rfl
    have kl := blk_lt HM.out
    go_wp2_with fail
    clear k0 k1 k2 k3 k4 k5 kl
    refine (Counts_calls D2 A4 c4 A6 c6 w5 HA1.out).mono ?_
    rw [EN.out, H1.out, H2.out]
    rintro e w6 ⟨rfl, hb⟩
    replace HA1 := Aside0.mk (HA1.out.below hb)
    replace HB := Aside0.mk (HB.out.trans (hb.mono HB.out.size))
    replace HM := Aside0.mk (blk_below HM.out hb)
    replace HT := Aside0.mk (blk_below HT.out hb)
    replace HROW := Aside0.mk (Kd.C_below HROW.out hb)
    clear hb
    go_upto_region 7 with (fail)
    have hb : Below w6.heap.size w6 ((w6.alloc (.cells #[.int .i64 a1, .int .i64 b1] 23)).alloc (.cells #[.int .i64 a2, .int .i64 b2] 23)) := (below_alloc (below_alloc (Below.refl _ _) _) _)
    have n0 : Aside0 (((w6.alloc (.cells #[.int .i64 a1, .int .i64 b1] 23)).alloc (.cells #[.int .i64 a2, .int .i64 b2] 23)).heap[w6.heap.size]? = some (.cells #[.int .i64 a1, .int .i64 b1] 23 (0, 0))) := ⟨blk_alloc (blk_new _ _) _⟩
    have n1 : Aside0 (((w6.alloc (.cells #[.int .i64 a1, .int .i64 b1] 23)).alloc (.cells #[.int .i64 a2, .int .i64 b2] 23)).heap[w6.heap.size + 1]? = some (.cells #[.int .i64 a2, .int .i64 b2] 23 (0, 0))) := ⟨new_at (by simp) _⟩
    replace HA1 := Aside0.mk (HA1.out.below hb)
    replace HB := Aside0.mk (HB.out.trans (hb.mono HB.out.size))
    replace HM := Aside0.mk (blk_below HM.out hb)
    replace HT := Aside0.mk (blk_below HT.out hb)
    replace HROW := Aside0.mk (Kd.C_below HROW.out hb)
    clear hb
    generalize ((w6.alloc (.cells #[.int .i64 a1, .int .i64 b1] 23)).alloc (.cells #[.int .i64 a2, .int .i64 b2] 23)) = w7 at HA1 HB HM HT HROW n0 n1 ⊢
    obtain ⟨P, hP⟩ : ∃ b, w6.heap.size = b := ⟨_, rfl⟩
    rw [hP] at n0 n1 ⊢
    clear hP
    have HP0 := n0
    have HP1 := n1
    clear n0 n1
    have k0 := (blk_cell HM.out 0).trans rfl
    have k1 := (blk_cell HM.out 1).trans rfl
    have k2 := (blk_cell HM.out 2).trans rfl
    have k3 := (blk_cell HM.out 3).trans rfl
    have k4 := (blk_cell HM.out 4).trans rfl
    have k5 := (blk_cell HM.out 5).trans rfl
    have kl := blk_lt HM.out
    go_wp2_with fail
    clear k0 k1 k2 k3 k4 k5 kl
    refine (Number_calls D2 A4 c4 A6 c6 w7 HA1.out).mono ?_
    rw [EN.out, H3.out]
    rintro e w8 ⟨rfl, hb⟩
    replace HA1 := Aside0.mk (HA1.out.below hb)
    replace HB := Aside0.mk (HB.out.trans (hb.mono HB.out.size))
    replace HM := Aside0.mk (blk_below HM.out hb)
    replace HT := Aside0.mk (blk_below HT.out hb)
    replace HROW := Aside0.mk (Kd.C_below HROW.out hb)
    replace HP0 := Aside0.mk (blk_below HP0.out hb)
    replace HP1 := Aside0.mk (blk_below HP1.out hb)
    clear hb
    go_upto_region 8 with (fail)
    have hb : Below w8.heap.size w8 (w8.alloc (.cells #[.int .i64 a3, .int .i64 b3] 23)) := (below_alloc (Below.refl _ _) _)
    have n0 : Aside0 ((w8.alloc (.cells #[.int .i64 a3, .int .i64 b3] 23)).heap[w8.heap.size]? = some (.cells #[.int .i64 a3, .int .i64 b3] 23 (0, 0))) := ⟨blk_new _ _⟩
    replace HA1 := Aside0.mk (HA1.out.below hb)
    replace HB := Aside0.mk (HB.out.trans (hb.mono HB.out.size))
    replace HM := Aside0.mk (blk_below HM.out hb)
    replace HT := Aside0.mk (blk_below HT.out hb)
    replace HROW := Aside0.mk (Kd.C_below HROW.out hb)
    replace HP0 := Aside0.mk (blk_below HP0.out hb)
    replace HP1 := Aside0.mk (blk_below HP1.out hb)
    clear hb
    generalize (w8.alloc (.cells #[.int .i64 a3, .int .i64 b3] 23)) = w9 at HA1 HB HM HT HROW HP0 HP1 n0 ⊢
    obtain ⟨R, hR⟩ : ∃ b, w8.heap.size = b := ⟨_, rfl⟩
    rw [hR] at n0 ⊢
    clear hR
    have HR0 := n0
    clear n0
    have k0 := (blk_cell HM.out 0).trans rfl
    have k1 := (blk_cell HM.out 1).trans rfl
    have k2 := (blk_cell HM.out 2).trans rfl
    have k3 := (blk_cell HM.out 3).trans rfl
    have k4 := (blk_cell HM.out 4).trans rfl
    have k5 := (blk_cell HM.out 5).trans rfl
    have kl := blk_lt HM.out
    go_wp2_with fail
    clear k0 k1 k2 k3 k4 k5 kl
    refine (Near_calls D2 A4 c4 A6 c6 w9 HA1.out).mono ?_
    rw [EN.out, H4.out]
    rintro e w10 ⟨rfl, hb⟩
    replace HA1 := Aside0.mk (HA1.out.below hb)
    replace HB := Aside0.mk (HB.out.trans (hb.mono HB.out.size))
    replace HM := Aside0.mk (blk_below HM.out hb)
    replace HT := Aside0.mk (blk_below HT.out hb)
    replace HROW := Aside0.mk (Kd.C_below HROW.out hb)
    replace HP0 := Aside0.mk (blk_below HP0.out hb)
    replace HP1 := Aside0.mk (blk_below HP1.out hb)
    replace HR0 := Aside0.mk (blk_below HR0.out hb)
    clear hb
    go_upto_region 9 with (fail)
    have hb : Below w10.heap.size w10 (w10.alloc (.cells #[.int .i64 a4, .int .i64 b4] 23)) := (below_alloc (Below.refl _ _) _)
    have n0 : Aside0 ((w10.alloc (.cells #[.int .i64 a4, .int .i64 b4] 23)).heap[w10.heap.size]? = some (.cells #[.int .i64 a4, .int .i64 b4] 23 (0, 0))) := ⟨blk_new _ _⟩
    replace HA1 := Aside0.mk (HA1.out.below hb)
    replace HB := Aside0.mk (HB.out.trans (hb.mono HB.out.size))
    replace HM := Aside0.mk (blk_below HM.out hb)
    replace HT := Aside0.mk (blk_below HT.out hb)
    replace HROW := Aside0.mk (Kd.C_below HROW.out hb)
    replace HP0 := Aside0.mk (blk_below HP0.out hb)
    replace HP1 := Aside0.mk (blk_below HP1.out hb)
    replace HR0 := Aside0.mk (blk_below HR0.out hb)
    clear hb
    generalize (w10.alloc (.cells #[.int .i64 a4, .int .i64 b4] 23)) = w11 at HA1 HB HM HT HROW HP0 HP1 HR0 n0 ⊢
    obtain ⟨U, hU⟩ : ∃ b, w10.heap.size = b := ⟨_, rfl⟩
    rw [hU] at n0 ⊢
    clear hU
    have HU0 := n0
    clear n0
    have t0 := (blk_cell HT.out 0).trans rfl
    have t1 := (blk_cell HT.out 1).trans rfl
    have tl := blk_lt HT.out
    go_wp2_with fail
    clear t0 t1 tl
    refine (helioscoperef01_Count.calls K2 X.1 A1 c1 Rl m n w11 HROW.out HRL.out HK2.out).mono ?_
    rintro e w12 ⟨rfl, hb⟩
    replace HA1 := Aside0.mk (HA1.out.below hb)
    replace HB := Aside0.mk (HB.out.trans (hb.mono HB.out.size))
    replace HM := Aside0.mk (blk_below HM.out hb)
    replace HT := Aside0.mk (blk_below HT.out hb)
    replace HROW := Aside0.mk (Kd.C_below HROW.out hb)
    replace HP0 := Aside0.mk (blk_below HP0.out hb)
    replace HP1 := Aside0.mk (blk_below HP1.out hb)
    replace HR0 := Aside0.mk (blk_below HR0.out hb)
    replace HU0 := Aside0.mk (blk_below HU0.out hb)
    clear hb
    have h10 : IntKind.i64.wrap (10 * m) = 10 * m := wrapI (by have := HMN.out; omega) (by have := HMN.out; omega)
    have h11 : IntKind.i64.wrap (10 * m + n) = 10 * m + n := wrapI (by have := HMN.out; omega) (by have := HMN.out; omega)
    have h12 : wrap64 (10 * m) = 10 * m := (by have := HMN.out; unfold wrap64; omega)
    have h13 : wrap64 (10 * m + n) = 10 * m + n := (by have := HMN.out; unfold wrap64; omega)
    have p0 := (blk_cell HP0.out 0).trans rfl
    have p1 := (blk_cell HP0.out 1).trans rfl
    have pl := blk_lt HP0.out
    go_wp2_with fail
    clear p0 p1 pl
    refine (helioscoperef01_Inside.calls _ _ _ _ _ I1.out).mono ?_
    rintro e w13 ⟨rfl, hb⟩
    replace HA1 := Aside0.mk (HA1.out.below hb)
    replace HB := Aside0.mk (HB.out.trans (hb.mono HB.out.size))
    replace HM := Aside0.mk (blk_below HM.out hb)
    replace HT := Aside0.mk (blk_below HT.out hb)
    replace HROW := Aside0.mk (Kd.C_below HROW.out hb)
    replace HP0 := Aside0.mk (blk_below HP0.out hb)
    replace HP1 := Aside0.mk (blk_below HP1.out hb)
    replace HR0 := Aside0.mk (blk_below HR0.out hb)
    replace HU0 := Aside0.mk (blk_below HU0.out hb)
    clear hb
    have p0 := (blk_cell HP1.out 0).trans rfl
    have p1 := (blk_cell HP1.out 1).trans rfl
    have pl := blk_lt HP1.out
    go_wp2_with fail
    clear p0 p1 pl
    refine (helioscoperef01_Inside.calls _ _ _ _ _ I2.out).mono ?_
    rintro e w14 ⟨rfl, hb⟩
    replace HA1 := Aside0.mk (HA1.out.below hb)
    replace HB := Aside0.mk (HB.out.trans (hb.mono HB.out.size))
    replace HM := Aside0.mk (blk_below HM.out hb)
    replace HT := Aside0.mk (blk_below HT.out hb)
    replace HROW := Aside0.mk (Kd.C_below HROW.out hb)
    replace HP0 := Aside0.mk (blk_below HP0.out hb)
    replace HP1 := Aside0.mk (blk_below HP1.out hb)
    replace HR0 := Aside0.mk (blk_below HR0.out hb)
    replace HU0 := Aside0.mk (blk_below HU0.out hb)
    clear hb
    have p0 := (blk_cell HR0.out 0).trans rfl
    have p1 := (blk_cell HR0.out 1).trans rfl
    have pl := blk_lt HR0.out
    go_wp2_with fail
    clear p0 p1 pl
    refine (helioscoperef01_Inside.calls _ _ _ _ _ I3.out).mono ?_
    rintro e w15 ⟨rfl, hb⟩
    replace HA1 := Aside0.mk (HA1.out.below hb)
    replace HB := Aside0.mk (HB.out.trans (hb.mono HB.out.size))
    replace HM := Aside0.mk (blk_below HM.out hb)
    replace HT := Aside0.mk (blk_below HT.out hb)
    replace HROW := Aside0.mk (Kd.C_below HROW.out hb)
    replace HP0 := Aside0.mk (blk_below HP0.out hb)
    replace HP1 := Aside0.mk (blk_below HP1.out hb)
    replace HR0 := Aside0.mk (blk_below HR0.out hb)
    replace HU0 := Aside0.mk (blk_below HU0.out hb)
    clear hb
    have p0 := (blk_cell HU0.out 0).trans rfl
    have p1 := (blk_cell HU0.out 1).trans rfl
    have pl := blk_lt HU0.out
    have t0 := (blk_cell HT.out 0).trans rfl
    have t1 := (blk_cell HT.out 1).trans rfl
    have tl := blk_lt HT.out
    go_wp2_with fail
    clear p0 p1 pl
    clear t0 t1 tl
    refine (helioscoperef01_Inside.calls _ _ _ _ _ I4.out).mono ?_
    rintro e w16 ⟨rfl, hb⟩
    replace HA1 := Aside0.mk (HA1.out.below hb)
    replace HB := Aside0.mk (HB.out.trans (hb.mono HB.out.size))
    replace HM := Aside0.mk (blk_below HM.out hb)
    replace HT := Aside0.mk (blk_below HT.out hb)
    replace HROW := Aside0.mk (Kd.C_below HROW.out hb)
    replace HP0 := Aside0.mk (blk_below HP0.out hb)
    replace HP1 := Aside0.mk (blk_below HP1.out hb)
    replace HR0 := Aside0.mk (blk_below HR0.out hb)
    replace HU0 := Aside0.mk (blk_below HU0.out hb)
    clear hb
    clear HP0 HP1 HR0 HU0 h10 h11 h12 h13
    go_upto_region 12 with (fail)
    have hn72 : D2.spots.length ≤ 7 := by rw [HLS.out]; exact hn7
    clear hn7
    go_wp2_with fail
    go_loopw [20] (fun j wr => ∃ k : Nat, k ≤ D2.spots.length ∧ j = .int .i64 k ∧ Aside0 (Below w16.heap.size w16 wr)) (fun j _ => D2.spots.length - (intOf j).toNat)
    case atStart => exact ⟨0, Nat.zero_le _, rfl, ⟨Below.refl _ _⟩⟩
    case round =>
      obtain ⟨k, hk, rfl, HR⟩ := hrel
      have HM1 := Aside0.mk (blk_below HM.out HR.out)
      have HT1 := Aside0.mk (blk_below HT.out HR.out)
      by_cases hlt : k < D2.spots.length
      · obtain ⟨⟨u, t0⟩, hu⟩ : ∃ s, isF D2 (k : Int) = s := ⟨_, rfl⟩
        have hi := IS.out k (by rw [← HLS.out]; exact hlt)
        rw [hu] at hi
        obtain ⟨m0, m1⟩ := hi
        simp only at m0 m1
        subst m0
        have hge := HRG.out.ge HGN.out k (by rw [← HLS.out]; exact hlt)
        have hdec : isQ k g = decide (0 ≤ rd Rl (k : Int)) := by
          unfold isQ; rw [Bool.eq_iff_iff, decide_eq_true_eq, decide_eq_true_eq]; exact hge.symm
        rw [hdec] at m1
        have HU := Aside0.mk hu
        have HDN := Aside0.mk m1
        have hrl : k < Rl.length := by have := HRG.out.len; have := HLS.out; omega
        clear hu m1 hge hdec
        have m0 := (blk_cell HM1.out 0).trans rfl
        have m1 := (blk_cell HM1.out 1).trans rfl
        have m2 := (blk_cell HM1.out 2).trans rfl
        have m3 := (blk_cell HM1.out 3).trans rfl
        have m4 := (blk_cell HM1.out 4).trans rfl
        have m5 := (blk_cell HM1.out 5).trans rfl
        have ml := blk_lt HM1.out
        go_wp2_with fail
        clear m0 m1 m2 m3 m4 m5 ml
        refine (Is_calls D2 A4 c4 A6 c6 (k : Int) wr (HA1.out.below HR.out)).mono ?_
        rw [HU.out]
        rintro e v1 ⟨rfl, hb⟩
        replace HR := Aside0.mk (HR.out.trans (hb.mono HR.out.size))
        replace HM1 := Aside0.mk (blk_below HM1.out hb)
        replace HT1 := Aside0.mk (blk_below HT1.out hb)
        clear hb
        obtain ⟨ad, ea, ex⟩ := Kd.at_int (Kd.C_below HROW.out HR.out) (k : Int) (by omega) (by omega)
        rw [Int.toNat_natCast] at ex
        have p1 : (0 ≤ (k : Int)) = True := eq_true (by omega)
        have q1 : ((k : Int) < (Rl.length : Int)) = True := eq_true (by omega)
        subst ea
        have t0 := (blk_cell HT1.out 0).trans rfl
        have t1 := (blk_cell HT1.out 1).trans rfl
        have tl := blk_lt HT1.out
        go_wp2_with fail
        refine (helioscopelaw01_denies.calls _ _ false _ HDN.out).mono ?_
        rintro e v2 ⟨rfl, nd, rfl⟩
        go_wp2_with fail
        replace HR := Aside0.mk (pw_below_drewN HR.out nd)
        clear HU HDN ex t0 t1 tl p1 q1 HM1 HT1
        go_loopw [23] (fun j wq => ∃ r : Nat, r ≤ k ∧ j = .int .i64 r ∧ Aside0 (Below w16.heap.size w16 wq)) (fun j _ => k - (intOf j).toNat)
        case atStart => exact ⟨0, Nat.zero_le _, rfl, HR⟩
        case round =>
          clear HR
          obtain ⟨r, hr, rfl, HR⟩ := hrel
          have HM1 := Aside0.mk (blk_below HM.out HR.out)
          have HT1 := Aside0.mk (blk_below HT.out HR.out)
          by_cases hlr : r < k
          · obtain ⟨⟨u', t0⟩, hu⟩ : ∃ s, oneF D2 (k : Int) (r : Int) = s := ⟨_, rfl⟩
            have hi := ON.out k r (by rw [← HLS.out]; exact hlt) hlr
            rw [hu] at hi
            obtain ⟨m0, m1⟩ := hi
            simp only at m0 m1
            subst m0
            have HU := Aside0.mk hu
            have HDN := Aside0.mk m1
            have htog : helioscoperef01_Together.f X.1 Rl (k : Int) (r : Int) = some (oneQ k r g) :=
              rTogether HRG.out HGN.out X.1 (k : Int) (r : Int) (by have := HLS.out; omega) (by have := HLS.out; omega)
            have HTOG := Aside0.mk htog
            clear hu m1 htog
            obtain ⟨ob, hob⟩ : ∃ ob, oneQ k r g = ob := ⟨_, rfl⟩
            rw [hob] at HDN HTOG
            clear hob
            have m0 := (blk_cell HM1.out 0).trans rfl
            have m1 := (blk_cell HM1.out 1).trans rfl
            have m2 := (blk_cell HM1.out 2).trans rfl
            have m3 := (blk_cell HM1.out 3).trans rfl
            have m4 := (blk_cell HM1.out 4).trans rfl
            have m5 := (blk_cell HM1.out 5).trans rfl
            have ml := blk_lt HM1.out
            go_wp2_with fail
            clear m0 m1 m2 m3 m4 m5 ml
            refine (One_calls D2 A4 c4 A6 c6 (k : Int) (r : Int) wr (HA1.out.below HR.out)).mono ?_
            rw [HU.out]
            rintro e v3 ⟨rfl, hb⟩
            replace HR := Aside0.mk (HR.out.trans (hb.mono HR.out.size))
            replace HM1 := Aside0.mk (blk_below HM1.out hb)
            replace HT1 := Aside0.mk (blk_below HT1.out hb)
            clear hb
            have t0 := (blk_cell HT1.out 0).trans rfl
            have t1 := (blk_cell HT1.out 1).trans rfl
            have tl := blk_lt HT1.out
            go_wp2_with fail
            clear t0 t1 tl
            refine (helioscoperef01_Together.calls X.1 _ c1 Rl (k : Int) (r : Int) ob v3 (Kd.C_below HROW.out HR.out) HRL.out HTOG.out).mono ?_
            rintro e v4 ⟨rfl, hb⟩
            replace HR := Aside0.mk (HR.out.trans (hb.mono HR.out.size))
            clear hb
            go_wp2_with fail
            refine (helioscopelaw01_denies.calls _ _ false _ HDN.out).mono ?_
            rintro e v5 ⟨rfl, nd2, rfl⟩
            replace HR := Aside0.mk (pw_below_drewN HR.out nd2)
            go_wp2_with fail
            go_roundw
            case rel => exact ⟨r + 1, by omega, by go_num, HR⟩
            case measure => simp [intOf]; omega
          · obtain rfl : r = k := by omega
            go_wp2_with fail
            go_roundw
            case rel => exact ⟨r + 1, by omega, by go_num, HR⟩
            case measure => simp [intOf]; omega
      · obtain rfl : k = D2.spots.length := by omega
        replace HB := Aside0.mk (HB.out.trans (HR.out.mono HB.out.size))
        have k0 := (blk_cell HM1.out 0).trans rfl
        have k1 := (blk_cell HM1.out 1).trans rfl
        have k2 := (blk_cell HM1.out 2).trans rfl
        have k3 := (blk_cell HM1.out 3).trans rfl
        have k4 := (blk_cell HM1.out 4).trans rfl
        have k5 := (blk_cell HM1.out 5).trans rfl
        have kl := blk_lt HM1.out
        go_wp2_with fail
        refine (Awake_calls _).mono ?_
        rintro e wA ⟨rfl, hb⟩
        replace HB := Aside0.mk (HB.out.trans (hb.mono HB.out.size))
        clear hb
        go_wp2
        go_ret
        exact ⟨rfl, HB.out⟩
  · rw [decide_eq_false hc]
    obtain ⟨cc, hcc⟩ : ∃ cc, (checkF D).2.2 = cc := ⟨_, rfl⟩
    rw [hcc] at hc
    have e0 : wrongF D = ([], cc) := by unfold wrongF; rw [hcc, if_neg hc]
    have HE := Aside0.mk e0
    have hz1 : (cc == 0) = false := by simpa using hc
    have hz2 : (cc != 0) = true := by simp [hc]
    clear hc hcc e0
    have k0 := (blk_cell HS.out 0).trans rfl
    have k1 := (blk_cell HS.out 1).trans rfl
    have k2 := (blk_cell HS.out 2).trans rfl
    have k3 := (blk_cell HS.out 3).trans rfl
    have k4 := (blk_cell HS.out 4).trans rfl
    have k5 := (blk_cell HS.out 5).trans rfl
    have kl := blk_lt HS.out
    go_wp2_with fail
    clear k0 k1 k2 k3 k4 k5 kl
    refine (Wrong_calls D A4 c4 A5 c5 w2 (HA.out.below HB.out)).mono ?_
    rw [HE.out]
    rintro e w3 ⟨⟨vw, rfl, hn⟩, hb⟩
    replace HB := Aside0.mk (HB.out.trans (hb.mono HB.out.size))
    clear hb
    go_wp2_with fail
    refine (Awake_calls _).mono ?_
    rintro e wA ⟨rfl, hb⟩
    replace HB := Aside0.mk (HB.out.trans (hb.mono HB.out.size))
    clear hb
    go_wp2
    go_ret
    exact ⟨rfl, HB.out⟩
end Go.Proofs.Ytemeapfnfegkiaa.D
end
