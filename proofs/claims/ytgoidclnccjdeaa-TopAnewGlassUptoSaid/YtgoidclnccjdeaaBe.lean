/- Contracts of the functions that this claim reaches, with the words for them: pruned and packed by wip/tools/prune.py. -/
import Derived.Test.YtgoidclnccjdeaaVc
import Derived.RangeFuncNested
import Derived.RangeFuncBound
import Derived.RangeFuncCalls
import Derived.RangeFuncLeaves
import Derived.Below
import Derived.Deep.Draws
import Derived.Deep.AppendLies
import Derived.Maps.AppendAt
import Derived.OwnWalk
import Derived.Laws.BytesArg
import Derived.Laws.MakeOwn
import Derived.Laws.OwnMore
import Derived.Deep.OwnRows
import Derived.Tactics
import Derived.Lib.ConvBytes
import Derived.Laws.Slices
import Derived.WalkKit
import Derived.KernelRfl
import Derived.RowKit3
import Derived.Deep.LoopGhost
import Derived.Deep.QuietTactic
import Derived.BigQuiet
import Derived.WideLaws
import Derived.Deep.DeepCutAuto
import Derived.Deep.CutBlock
import Derived.Deep.RegionHeld3
import Derived.Laws.Rows
import Derived.Lib.AppendStr
import Derived.ArgAppend
import Derived.Laws.IdiomCopy
import Derived.RowKit
import Derived.OrdersHeld
import Derived.Laws.BitsLemmas
import Derived.Laws.World
import Derived.Shelf.Abstract
import Derived.Deep.Slices
import Derived.Deep.Fields
import Derived.ChangeSame
import Derived.ProofKit
import Derived.SizedLaws
section
/- General lemmas of this session's own: what a call may change ('Chg'), an iterator's contract ('Iter'), and the law of a range over a function by it. -/
namespace Go.Proofs.YtgoidclnccjdeaaK
open Go Go.RowKit
set_option linter.unusedVariables false

namespace Chg
variable {S S' : Nat → Prop} {w w1 w2 : World}
theorem of_new (h : Below w.heap.size w w1) (S : Nat → Prop) : Chg S w w1 := ⟨h.os, h.tape, h.output, h.size, fun i hi _ => h.block i hi⟩
end Chg

end Go.Proofs.YtgoidclnccjdeaaK
end
section
set_option linter.unusedVariables false
set_option linter.unusedSimpArgs false
namespace Go.Proofs.YtgoidclnccjdeaaW.PrintWords
open Go.RowKit

section
variable {P : Program} {ops : Array Oper} {rest : List Oper} {o : Oper} {a : Act} {Q : Exit → Act → World → Prop}

end

section
variable {P : Program}
end
section
variable {P : Program} {ops : Array Oper} {rest : List Oper} {o : Oper} {a : Act} {Q : Exit → Act → World → Prop}
end

section
variable {P : Program} {ops : Array Oper} {rest : List Oper} {o : Oper} {a : Act} {Q : Exit → Act → World → Prop}
end

theorem own_setCell {w : World} {base : Nat} {e : TypeId} {size n : Nat} {v : Value} {xs : List Value} (h : w.ownsRow base e size v n xs) {p : Addr} (hne : some p.block ≠ v.ownBlock) (u : Value) : (w.setCell p u).ownsRow base e size v n xs := by
 obtain ⟨h1, h2⟩ := h
 refine ⟨h1, ?_⟩
 rcases h2 with h2 | ⟨g, cap, cur, rfl, hg, hh, r⟩
 ·
  exact .inl h2
 ·
  exact .inr ⟨g, cap, cur, rfl, hg, by rw [Below.heap_setCell _ _ _ _ (fun e => hne (by rw [e]; rfl))]; exact hh, r⟩
section
variable {P : Program} {ops : Array Oper} {o : Oper} {a : Act} {Q : Exit → Act → World → Prop} {K : Act → World → Prop}
end
section
variable {α : Type} {enc : α → Value} {d : α}
end
section
variable {α : Type} {P : Program} {ops : Array Oper} {rest : List Oper} {o : Oper} {a : Act} {Q : Exit → Act → World → Prop}
end

section
variable {P : Program}
end
section
variable {α : Type} {R R' : α → List Value → Prop} {e : TypeId} {size : Nat} {w w1 : World} {base : Nat} {v : Value} {ps : List α}
theorem OwnRow.keep (h : OwnRow R e size w base v ps) {g : Nat} {t : TypeId} {cells : Array Value} (hb : w.heap[g]? = some (.cells cells t (0, 0))) (ht : e ≠ t) (hk : KeepBut w w1 g none) : OwnRow R e size w1 base v ps := by
 obtain ⟨inner, ho, hr⟩ := h
 exact ⟨inner, hk.own ho (Ne.symm (own_ne ho hb ht)) (by cases v.ownBlock <;> simp), hr⟩
end
section
variable {P : Program} {ops : Array Oper} {rest : List Oper} {o : Oper} {a : Act} {Q : Exit → Act → World → Prop} {α : Type} {R : α → List Value → Prop}
end
section
variable {P : Program} {ops : Array Oper} {o : Oper} {a : Act} {Q : Exit → Act → World → Prop} {K : Act → World → Prop} {α : Type} {R : α → List Value → Prop}
end
section
variable {α : Type} {P : Program}
end

section
variable {P : Program} {ops : Array Oper} {rest : List Oper} {o : Oper} {a : Act} {Q : Exit → Act → World → Prop}
end
namespace Kd
section
variable {α : Type} {d : Kd α} {e : Nat} {w w1 : World} {base : Nat} {ok ok' : Nat → Prop} {v : Value} {xs : List α}
end

section
variable {P : Program} {ops : Array Oper} {rest : List Oper} {o : Oper} {a : Act} {Q : Exit → Act → World → Prop} {α : Type}
end
section
variable {P : Program} {ops : Array Oper} {o : Oper} {a : Act} {Q : Exit → Act → World → Prop} {Kc : Act → World → Prop} {α : Type}
end
end Kd
namespace Kd
section
variable {α : Type} {F : Kd α → Kd α} {sz : Nat} {E : List Nat} {hs : ∀ n, (upto F sz E n).sz = sz} {hE : ∀ n q, q ∈ (upto F sz E n).E → q ∈ E}
end
end Kd
namespace Kd
end Kd
namespace Kd
section
variable {α β : Type} {d : Kd α} {d' : Kd β} {e e' : Nat} {w w1 W : World} {base b b' : Nat} {ok ok' okv oku : Nat → Prop} {v u : Value} {xs : List α} {ys : List β}
end
section
variable {w W : World} {A : Option Addr} {n : Nat}
theorem at_string {xs : List ByteArray} (h : Kd.string.C w A n xs) (i : Int) (h0 : 0 ≤ i) (h1 : i < n) : ∃ ad, A = some ad ∧ w.cell? (ad.add i.toNat) = some (.string (rdOf ByteArray.empty xs i)) :=
 ReadsOf.at_ (reads_of_C (enc := Value.string) (d := ByteArray.empty) (h1 := fun _ => rfl) h) i h0 h1
variable {α : Type} {enc : α → Value} {h1 : ∀ x, (enc x).oneCell' = true} {e base g cap : Nat} {ok : Nat → Prop} {xs : List α}
end

section
variable {P : Program} {ops : Array Oper} {rest : List Oper} {o : Oper} {a : Act} {Q : Exit → Act → World → Prop}
variable {α : Type}
end
end Kd
section
variable {P : Program}
end
section
variable {w w1 : World} {base n size : Nat} {e : TypeId} {v : Value} {xs : List Value}
end
section
variable {P : Program}
end
namespace Kd
section
variable {α : Type} {d : Kd α} {e : Nat} {w w1 W : World} {base : Nat} {ok ok' : Nat → Prop} {v : Value} {xs : List α}
end
section
variable {P : Program} {ops : Array Oper} {rest : List Oper} {o : Oper} {a : Act} {Q' : Exit → Act → World → Prop} {Kc : Act → World → Prop} {α : Type}
end
end Kd
namespace Kd
section
variable {α : Type} {d : Kd α} {e e' : Nat} {w w1 W : World} {base : Nat} {ok : Nat → Prop} {u v : Value} {xs : List α}
end
end Kd
namespace Kd
section
variable {α : Type} {d : Kd α} {e base g n cap : Nat} {ok okp : Nat → Prop} {W : World} {xs : List α}
end
end Kd
namespace Kd
section
variable {α : Type} {F : Kd α → Kd α} {sz : Nat} {E : List Nat} {hs : ∀ n, (upto F sz E n).sz = sz} {hE : ∀ n q, q ∈ (upto F sz E n).E → q ∈ E}
end
end Kd
namespace Kd
section
variable {P : Program} {ops : Array Oper} {rest : List Oper} {o : Oper} {a : Act} {Q : Exit → Act → World → Prop} {α : Type}
end
end Kd
namespace Kd
section
variable {P : Program} {ops : Array Oper} {rest : List Oper} {o : Oper} {a : Act} {Q : Exit → Act → World → Prop} {α : Type}
end
end Kd
theorem add_add (a : Addr) (i j : Nat) : (a.add i).add j = a.add (i + j) := by
 unfold Addr.add
 by_cases h1 : i = 0 <;> by_cases h2 : j = 0 <;> simp [h1, h2, Nat.add_assoc]
namespace Kd
section
variable {α : Type} {k : Kd α} {w : World} {A : Option Addr} {xs : List α} {m c : Nat}
end
end Kd
section
variable {P : Program}
end
theorem keep_cell {w W : World} {g : Nat} (h : KeepBut w W g none) {a : Addr} {v : Value} (hc : w.cell? a = some v) (hne : a.block ≠ g) : W.cell? a = some v := by
 have := h.2 a.block (World.block_lt_of_cell? w a hc) hne (by simp)
 simpa [World.cell?, this] using hc
theorem add_block (a : Addr) (i : Nat) : (a.add i).block = a.block := by unfold Addr.add; split <;> rfl
theorem ReadsInt.keep {w W : World} {k : IntKind} {A : Option Addr} {n g : Nat} {xs : List Int} (h : ReadsInt w k A n xs) (hk : KeepBut w W g none) (hf : ∀ ad, A = some ad → 0 < n → ad.block ≠ g) : ReadsInt W k A n xs :=
 ⟨h.1, h.2.1, fun hn => by
  obtain ⟨ad, e, hc⟩ := h.2.2 hn
  exact ⟨ad, e, fun j hj => keep_cell hk (hc j hj) (by rw [add_block]; exact hf ad e hn)⟩⟩
theorem ReadsOf.keep {α : Type} {enc : α → Value} {d : α} {w W : World} {A : Option Addr} {n g : Nat} {xs : List α} (h : ReadsOf enc d w A n xs) (hk : KeepBut w W g none) (hf : ∀ ad, A = some ad → 0 < n → ad.block ≠ g) : ReadsOf enc d W A n xs :=
 ⟨h.1, h.2.1, fun hn => by
  obtain ⟨ad, e, hc⟩ := h.2.2 hn
  exact ⟨ad, e, fun j hj => keep_cell hk (hc j hj) (by rw [add_block]; exact hf ad e hn)⟩⟩
namespace Kd
section
variable {α β : Type} {d : Kd α} {d' : Kd β} {e e' base base' n : Nat} {ok ok' : Nat → Prop} {w W w1 W1 : World} {v u : Value} {xs : List α} {ys : List β} {A : Option Addr} {c : Nat}
end
section
variable {α : Type} {enc : α → Value} {h1 : ∀ x, (enc x).oneCell' = true} {w W : World} {A : Option Addr} {n g : Nat} {xs : List α}
end
end Kd
namespace Kd
section
variable {α : Type} {d : Kd α} {e base g : Nat} {ok : Nat → Prop} {w w1 : World} {v : Value} {xs : List α} {o : Obj}
end
end Kd
section
variable {P : Program} {ops : Array Oper} {rest : List Oper} {o : Oper} {a : Act} {Q : Exit → Act → World → Prop}
end
namespace Kd
section
variable {α : Type} {enc : α → Value} {h1 : ∀ x, (enc x).oneCell' = true} {e base g n cap : Nat} {ok : Nat → Prop} {W : World} {xs : List α}
end
end Kd
section
variable {P : Program} {ops : Array Oper} {rest : List Oper} {o : Oper} {a : Act} {Q : Exit → Act → World → Prop}
end
namespace Kd
section
variable {α : Type} {enc : α → Value} {h1 : ∀ x, (enc x).oneCell' = true} {e base g n cap : Nat} {ok : Nat → Prop} {W : World} {xs : List α}
end
end Kd
section
variable {P : Program} {ops : Array Oper} {rest : List Oper} {o : Oper} {a : Act} {Q : Exit → Act → World → Prop} {W : World}
end
section
variable {P : Program} {ops : Array Oper} {o : Oper} {a : Act} {Q : Exit → Act → World → Prop} {Kc : Act → World → Prop}
namespace Kd
variable {α : Type}
end Kd
end
section
variable {P : Program} {tmps : Array Value} {w : World}
end
namespace Kd
section
variable {P : Program} {α : Type}
end
section
variable {P : Program} {ops : Array Oper} {rest : List Oper} {o : Oper} {a : Act} {Q : Exit → Act → World → Prop} {Kc : Act → World → Prop} {α : Type}
end
end Kd

end Go.Proofs.YtgoidclnccjdeaaW.PrintWords
end
section
namespace Go.Proofs.YtgoidclnccjdeaaW.PrintWords
open Go.RowKit
section
variable {w W W2 : World} {S S2 S' : Nat → Prop}
theorem Kept.keep {g : Nat} (h : KeepBut w W g none) (k : Kept W W2 S2) (hs : ∀ k, S2 k → w.heap.size ≤ k) : KeepBut w W2 g none :=
 ⟨Nat.le_trans h.1 k.1, fun i hi hg hr => (k.2 i (Nat.lt_of_lt_of_le hi h.1) (fun h2 => by have := hs i h2; omega)).trans (h.2 i hi hg hr)⟩
end
namespace Kd
section
variable {α : Type} {d : Kd α} {e base n c : Nat} {ok oki S S2 : Nat → Prop} {w w0 W W1 W2 : World} {v : Value} {A : Option Addr} {xs : List α} {i : Int} {cs : List Value}
end
end Kd
end Go.Proofs.YtgoidclnccjdeaaW.PrintWords
end
section
namespace Go.Proofs.Ytgoidclnccjdeaa.PR
open Go.RowKit Go.Proofs.YtgoidclnccjdeaaW.PrintWords Go.Proofs.YtgoidclnccjdeaaW.PrintLast Go.Proofs.YtgoidclnccjdeaaW.PrintMore
attribute [local go_sem] max2_int min2_int max_two min_two max_three min_three max_four min_four   -- for this text's walks alone
set_option linter.unusedVariables false
set_option linter.unusedSimpArgs false



theorem k24_mk (w : World) (x : S24)  : k24.K w x [.int .i64 x.f0, .int .i64 x.f1] := ⟨[.int .i64 x.f0], [.int .i64 x.f1], rfl, rfl, rfl⟩
theorem k95_mk (w : World) (x : S95)  : k95.K w x [.string x.f0, .int .i64 x.f1.f0, .int .i64 x.f1.f1] := ⟨[.string x.f0], [.int .i64 x.f1.f0, .int .i64 x.f1.f1], rfl, rfl, (k24_mk w x.f1 )⟩
theorem k72_mk (w : World) (x : S72)  : k72.K w x [.int .i64 x.f0, .int .i64 x.f1, .int .i64 x.f2] := ⟨[.int .i64 x.f0], [.int .i64 x.f1, .int .i64 x.f2], rfl, rfl, ⟨[.int .i64 x.f1], [.int .i64 x.f2], rfl, rfl, rfl⟩⟩
end Go.Proofs.Ytgoidclnccjdeaa.PR
end
section
/- General lemmas of this session's own: rows of any plain kind that are copied by append. -/
namespace Go.Proofs.YtgoidclnccjdeaaK
open Go Go.RowKit Go.Proofs.YtgoidclnccjdeaaW.PrintWords Go.Proofs.YtgoidclnccjdeaaW.PrintLast Go.Proofs.YtgoidclnccjdeaaW.PrintMore
set_option linter.unusedVariables false
set_option linter.unusedSimpArgs false
variable {P : Program}

theorem row_read {α : Type} {d : Kd α} {enc : α → List Value} (hM : ∀ (w : World) x, d.K w x (enc x)) (hl : ∀ x, (enc x).length = d.sz) {w : World} {base e : Nat} {v : Value} {xs : List α} (h : w.ownsRow base e d.sz v xs.length (xs.flatMap enc)) (hn : xs.length ≤ 9223372036854775807) :
  ∃ A c, v = .slice A xs.length c ∧ xs.length ≤ c ∧ Kd.C d w A xs.length xs := by
 rcases h.2 with ⟨rfl, h0⟩ | ⟨g, cap, cur, rfl, hb, hg, hcap, hm, hs, ht⟩
 ·
  have : xs = [] := List.eq_nil_of_length_eq_zero h0
  subst this
  exact ⟨none, 0, rfl, Nat.le_refl _, rfl, by simp, fun h => absurd h (by simp)⟩
 ·
  refine ⟨_, cap, rfl, hcap, rfl, hn, fun _ => ⟨_, rfl, fun j p hj => ⟨enc p, hl p, hM w p, fun i u hu => ?_⟩⟩⟩
  have hadd : (⟨g, 0, none⟩ : Addr).add (j * d.sz + i) = ⟨g, j * d.sz + i, none⟩ := by unfold Addr.add; split <;> simp_all
  rw [hadd, cell_of_row w g _ cur e (0, 0) hg]
  have hjl := (List.getElem?_eq_some_iff.1 hj).1
  have hil : i < d.sz := by rw [← hl p]; exact (List.getElem?_eq_some_iff.1 hu).1
  have key : ∀ (xs : List α) (j : Nat), xs[j]? = some p → (xs.flatMap enc)[j * d.sz + i]? = some u := by
   intro xs
   induction xs with
   | nil => intro j hj; simp at hj
   | cons x xs ih =>
    intro j hj
    rw [List.flatMap_cons]
    cases j with
    | zero =>
     simp at hj
     subst hj
     rw [Nat.zero_mul, Nat.zero_add, List.getElem?_append_left (by rw [hl]; exact hil)]
     exact hu
    | succ j =>
     rw [List.getElem?_append_right (by rw [hl, Nat.succ_mul]; omega), hl, Nat.succ_mul]
     have := ih j (by simpa using hj)
     rw [← this]; congr 1; omega
  have hk := key xs j hj
  have hlt : j * d.sz + i < xs.length * d.sz := by
   have : (j + 1) * d.sz ≤ xs.length * d.sz := Nat.mul_le_mul_right _ hjl
   rw [Nat.succ_mul] at this; omega
  rw [← ht, List.getElem?_take_of_lt hlt] at hk
  rw [← Array.getElem?_toList]; exact hk
end Go.Proofs.YtgoidclnccjdeaaK
end
section
/- General lemmas of this session's own: an element of three cells written into a row of its own. -/
namespace Go.Proofs.YtgoidclnccjdeaaK
open Go Go.RowKit Go.Proofs.YtgoidclnccjdeaaW.PrintWords Go.Proofs.YtgoidclnccjdeaaW.PrintLast Go.Proofs.YtgoidclnccjdeaaW.PrintMore
set_option linter.unusedVariables false
set_option linter.unusedSimpArgs false

theorem own_chg {w w' : World} {base e sz n : Nat} {v : Value} {xs : List Value} {S : Nat → Prop} (h : w.ownsRow base e sz v n xs) (hc : Chg S w w') (hs : ∀ k, v.ownBlock = some k → ¬ S k) : w'.ownsRow base e sz v n xs := by
 refine ⟨h.1, ?_⟩
 rcases h.2 with hn | ⟨g, cap, cur, rfl, hb, hgg, rest⟩
 ·
  exact .inl hn
 ·
  exact .inr ⟨g, cap, cur, rfl, hb, hc.heap hgg (hs g rfl), rest⟩
end Go.Proofs.YtgoidclnccjdeaaK
end
section
/- The statements 'TopAnew..': a heap that is put into, by functions alike in all packages. -/
namespace Go.Proofs.YtgoidclnccjdeaaK
open Go Go.RowKit Go.Proofs.YtgoidclnccjdeaaW.PrintWords Go.Proofs.YtgoidclnccjdeaaW.PrintLast Go.Proofs.YtgoidclnccjdeaaW.PrintMore
set_option linter.unusedVariables false
set_option linter.unusedSimpArgs false

theorem jint : ∃ i, Try.prog.info? 3 = some i ∧ i.zero = some (.int .i64 0) ∧ i.size = 1 ∧ i.bytes = 8 := by
 have h : (Try.prog.info? 3).map (fun i => (i.zero, i.size, i.bytes)) = some (some (.int .i64 0), 1, 8) := by kernel_rfl
 cases hi : Try.prog.info? 3 with
 | none => rw [hi] at h; cases h
 | some i => rw [hi] at h; simp at h; exact ⟨i, rfl, h.1, h.2.1, h.2.2⟩
theorem jstr : ∃ i, Try.prog.info? 9 = some i ∧ i.zero = some (.string ⟨#[]⟩) ∧ i.size = 1 ∧ i.bytes = 16 := by
 have h : (Try.prog.info? 9).map (fun i => (i.zero, i.size, i.bytes)) = some (some (.string ⟨#[]⟩), 1, 16) := by kernel_rfl
 cases hi : Try.prog.info? 9 with
 | none => rw [hi] at h; cases h
 | some i => rw [hi] at h; simp at h; exact ⟨i, rfl, h.1, h.2.1, h.2.2⟩
def SRow (w : World) (u : Value) (ss : List ByteArray) : Prop := w.ownsRow 0 9 1 u ss.length (ss.map Value.string)
structure HP (T : Nat → Prop) (w : World) (b : Nat) (ns : List Int) (ss : List ByteArray) : Prop where
 ex : ∃ v u, w.heap[b]? = some (.cells #[v, u] 79 (0, 0)) ∧ Row w 0 3 v ns ∧ SRow w u ss ∧ (∀ k, v.ownBlock = some k → T k) ∧ (∀ k, u.ownBlock = some k → T k)
 sb : T b
 lt : ∀ k, T k → k < w.heap.size
def PutPost (T : Nat → Prop) (w : World) (b : Nat) (ns' : List Int) (ss' : List ByteArray) (e : Ending) (w' : World) : Prop :=
 (∃ v, e = .returned v) ∧ ∃ T' : Nat → Prop, (∀ k, T' k → T k ∨ w.heap.size ≤ k) ∧ HP T' w' b ns' ss' ∧ Chg T w w'
theorem HP.chg {T U : Nat → Prop} {w w' : World} {b : Nat} {ns : List Int} {ss : List ByteArray} (h : HP T w b ns ss) (hc : Chg U w w') (hT : ∀ k, T k → ¬ U k) : HP T w' b ns ss := by
 obtain ⟨v, u, h1, h2, h3, h4, h5⟩ := h.ex
 exact ⟨⟨v, u, hc.heap h1 (hT b h.sb), own_chg h2 hc (fun k hk => hT k (h4 k hk)), own_chg h3 hc (fun k hk => hT k (h5 k hk)), h4, h5⟩, h.sb, fun k hk => Nat.lt_of_lt_of_le (h.lt k hk) hc.size⟩
theorem HP.new {T : Nat → Prop} {w w' : World} {b : Nat} {ns : List Int} {ss : List ByteArray} (h : HP T w b ns ss) (hb : Below w.heap.size w w') : HP T w' b ns ss :=
 h.chg (Chg.of_new hb (fun _ => False)) (fun _ _ x => x)
structure St (T : Nat → Prop) (w : World) (U : Nat → Prop) (W : World) (b : Nat) (ns : List Int) (ss : List ByteArray) (X : Nat) (cs : Array Value) (t : TypeId) : Prop where
 hp : HP U W b ns ss
 grow : ∀ k, U k → T k ∨ w.heap.size ≤ k
 chg : Chg T w W
 box : W.heap[X]? = some (.cells cs t (0, 0))
 nx : ¬ U X
theorem St.start {T : Nat → Prop} {w : World} {b : Nat} {ns : List Int} {ss : List ByteArray} (h : HP T w b ns ss) (cs : Array Value) (t : TypeId) : St T w T (w.alloc (.cells cs t)) b ns ss w.heap.size cs t :=
 ⟨h.new (below_alloc (Below.refl _ _) _), fun k hk => .inl hk, (Chg.refl _ _).alloc _, blk_new _ _, fun hX => Nat.lt_irrefl _ (h.lt _ hX)⟩
theorem St.step {T U : Nat → Prop} {w W W' : World} {b X : Nat} {ns ns' : List Int} {ss ss' : List ByteArray} {cs : Array Value} {t : TypeId} {e : Ending} (h : St T w U W b ns ss X cs t) (hp : PutPost U W b ns' ss' e W') : ∃ U', St T w U' W' b ns' ss' X cs t := by
 obtain ⟨_, U', h1, h2, h3⟩ := hp
 refine ⟨U', h2, fun k hk => ?_, h.chg.then_ h3 (fun k hk hu => (h.grow k hu).elim id (fun x => absurd hk (by omega))), h3.heap h.box h.nx, fun hX => ?_⟩
 ·
  rcases h1 k hk with x | x
  ·
   exact h.grow k x
  ·
   exact .inr (Nat.le_trans h.chg.size x)
 ·
  rcases h1 X hX with x | x
  ·
   exact h.nx x
  ·
   exact absurd (blk_lt h.box) (by omega)
theorem St.done {T U : Nat → Prop} {w W : World} {b X : Nat} {ns : List Int} {ss : List ByteArray} {cs : Array Value} {t : TypeId} {e : Ending} (h : St T w U W b ns ss X cs t) (he : ∃ v, e = .returned v) : PutPost T w b ns ss e W :=
 ⟨he, U, h.grow, h.hp, h.chg⟩
theorem new_at' {W : World} {n : Nat} (h : W.heap.size = n) (o : Obj) : (W.alloc o).heap[n]? = some o := by subst h; exact blk_new _ _
theorem jrow_ne {w : World} {n0 e sz n : Nat} {v : Value} {xs : List Value} (h : w.ownsRow n0 e sz v n xs) {B : Nat} {cs : Array Value} {t : TypeId} {fr : Nat × Nat} (hB : w.heap[B]? = some (.cells cs t fr)) (ht : t ≠ e) : v.ownBlock ≠ some B := fun hv => by
 rcases h.2 with ⟨rfl, _⟩ | ⟨g, cap, cur, rfl, hb, hgg, rest⟩
 ·
  simp [Value.ownBlock] at hv
 ·
  simp [Value.ownBlock] at hv
  subst hv
  rw [hgg] at hB
  injection hB with hB
  injection hB with h1 h2
  exact ht h2.symm
theorem jown_slice {w : World} {n0 e sz n : Nat} {v : Value} {xs : List Value} (h : w.ownsRow n0 e sz v n xs) : ∃ A c, v = .slice A n c := by
 rcases h.2 with ⟨rfl, h0⟩ | ⟨g, cap, cur, rfl, _⟩
 ·
  exact ⟨none, 0, by rw [h0]⟩
 ·
  exact ⟨_, _, rfl⟩
set_option maxHeartbeats 1000000 in
theorem putInt_calls {T : Nat → Prop} {w : World} {b : Nat} {ns : List Int} {ss : List ByteArray} (h : HP T w b ns ss) (hl : ns.length ≤ 100000000) (x : Int) :
  Calls Try.prog 55 #[.pointer (some ⟨b, 0, none⟩), .int .i64 x] w (PutPost T w b (ns ++ [x]) ss) := by
 obtain ⟨v, u, h1, h2, h3, h4, h5⟩ := h.ex
 obtain ⟨i, hi, hz, hsz, hby⟩ := jint
 have HI := Aside0.mk hi
 have H1 := Aside0.mk h1
 have H2 := Aside0.mk h2
 have H3 := Aside0.mk h3
 have H4 := Aside0.mk h4
 have H5 := Aside0.mk h5
 have HSB := Aside0.mk h.sb
 have HLT := Aside0.mk h.lt
 clear h hi h1 h2 h3 h4 h5
 have c0 : w.cell? ⟨b, 0, none⟩ = some v := (blk_cell H1.out 0).trans rfl
 have c1 : w.cell? ⟨b, 1, none⟩ = some u := (blk_cell H1.out 1).trans rfl
 have hlt := blk_lt H1.out
 go_enter Try.func55, Try.ntmps55
 go_wp2_with (at_builtin; go_loud (refine wpList_append_own_at _ rfl (.tmp 8) (.tmp 10) 39 rfl 0 3 i (.int .i64 0) 1 8 Try.underlying39 HI.out hz hsz hby rfl (by decide) v _ _ rfl (pw_own_below H2.out (below_alloc (Below.refl _ _) _)) ⟨w.heap.size, 0, none⟩ 1 1 [.int .i64 x] rfl rfl (World.news_of_block (blk_new w (.cells #[.int .i64 x] 3))) (by simp [Value.oneCell']) (by simp only [maxLen]; omega) (by omega) (Nat.zero_le _) ?_); intro v' w' ho hg _ hb'; obtain ⟨A', c', rfl⟩ := jown_slice ho; have n1 := blk_grown (blk_alloc H1.out (.cells #[.int .i64 x] 3)) hg (fun e => jrow_ne H2.out H1.out (by decide) e.symm); have n4 := (blk_cell n1 0).trans rfl; have n5 := blk_frozen n1 0; have n6 := blk_lt n1; have N1 := Aside0.mk n1; have N2 := Aside0.mk ho; have N3 := Aside0.mk hg; have N4 := Aside0.mk hb'; clear n1 ho hg hb')
 have n2 := blk_set N1.out 0 (.slice A' (ns.length + 1) c')
 have hne : ∀ k, (Value.slice A' (ns.length + 1) c').ownBlock = some k → v.ownBlock = some k ∨ w.heap.size ≤ k := fun k hk => by
  rcases N4.out with e | e
  ·
   exact .inl (e ▸ hk)
  ·
   right; rw [e] at hk; injection hk with hk; rw [← hk]; simp
 have hcg : Chg (fun k => k = b ∨ v.ownBlock = some k) w w' :=
  (((Chg.refl _ w).alloc (.cells #[.int .i64 x] 3)).trans ((Chg.grown N3.out).mono (fun k _ hk => .inr hk.symm)))
 have hcb := hcg.setCell (p := ⟨b, 0, none⟩) (fun _ => .inl rfl) (.slice A' (ns.length + 1) c')
 have r2 : Row (w'.setCell ⟨b, 0, none⟩ (.slice A' (ns.length + 1) c')) 0 3 (.slice A' (ns.length + 1) c') (ns ++ [x]) := by
  have := own_setCell N2.out (p := ⟨b, 0, none⟩) (fun e => jrow_ne N2.out N1.out (by decide) e.symm) (.slice A' (ns.length + 1) c')
  unfold Row; rw [List.length_append, List.map_append]; exact this
 have hub : ¬ u.ownBlock = some b := jrow_ne H3.out H1.out (by decide)
 have huv : ∀ k, u.ownBlock = some k → ¬ v.ownBlock = some k := fun k hk hv => by
  obtain ⟨_, hr⟩ := H3.out
  rcases hr with ⟨e, _⟩ | ⟨g, cap, cur, e, _, hg, _⟩
  ·
   rw [e] at hk; simp [Value.ownBlock] at hk
  ·
   rw [e] at hk; simp [Value.ownBlock] at hk; subst hk
   exact jrow_ne H2.out hg (by decide) hv
 have r3 := own_chg H3.out hcb (fun k hk e => by
  rcases e with e | e
  ·
   exact hub (e ▸ hk)
  ·
   exact huv k hk e)
 go_end0
 refine ⟨?_, fun k => k = b ∨ (Value.slice A' (ns.length + 1) c').ownBlock = some k ∨ u.ownBlock = some k, fun k hk => ?_, ⟨⟨_, _, n2, r2, r3, fun k hk => .inr (.inl hk), fun k hk => .inr (.inr hk)⟩, .inl rfl, fun k hk => ?_⟩, hcb.mono (fun k _ e => e.elim (fun e => e ▸ HSB.out) (H4.out k))⟩
 ·
  first | exact ⟨_, rfl⟩ | trivial | simp
 ·
  rcases hk with rfl | hk | hk
  ·
   exact .inl HSB.out
  ·
   exact (hne k hk).imp (H4.out k) id
  ·
   exact .inl (H5.out k hk)
 ·
  rcases hk with rfl | hk | hk
  ·
   exact blk_lt n2
  ·
   exact (World.ownsRow.lt r2 k hk).2
  ·
   exact (World.ownsRow.lt r3 k hk).2
set_option maxHeartbeats 1000000 in
theorem putText_calls {T : Nat → Prop} {w : World} {b : Nat} {ns : List Int} {ss : List ByteArray} (h : HP T w b ns ss) (hl : ss.length ≤ 100000000) (x : ByteArray) :
  Calls Try.prog 148 #[.pointer (some ⟨b, 0, none⟩), .string x] w (PutPost T w b ns (ss ++ [x])) := by
 obtain ⟨v, u, h1, h2, h3, h4, h5⟩ := h.ex
 obtain ⟨i, hi, hz, hsz, hby⟩ := jstr
 have HI := Aside0.mk hi
 have H1 := Aside0.mk h1
 have H2 := Aside0.mk h2
 have H3 := Aside0.mk h3
 have H4 := Aside0.mk h4
 have H5 := Aside0.mk h5
 have HSB := Aside0.mk h.sb
 have HLT := Aside0.mk h.lt
 clear h hi h1 h2 h3 h4 h5
 have c0 : w.cell? ⟨b, 0, none⟩ = some v := (blk_cell H1.out 0).trans rfl
 have c1 : w.cell? ⟨b, 1, none⟩ = some u := (blk_cell H1.out 1).trans rfl
 have hlt := blk_lt H1.out
 go_enter Try.func148, Try.ntmps148
 go_wp2_with (at_builtin; go_loud (refine wpList_append_own_at _ rfl (.tmp 8) (.tmp 10) 77 rfl 0 9 i (.string ⟨#[]⟩) 1 16 Try.underlying77 HI.out hz hsz hby rfl (by decide) u _ _ rfl (pw_own_below H3.out (below_alloc (Below.refl _ _) _)) ⟨w.heap.size, 0, none⟩ 1 1 [.string x] rfl rfl (World.news_of_block (blk_new w (.cells #[.string x] 9))) (by simp [Value.oneCell']) (by simp only [maxLen]; omega) (by omega) (Nat.zero_le _) ?_); intro v' w' ho hg _ hb'; obtain ⟨A', c', rfl⟩ := jown_slice ho; have n1 := blk_grown (blk_alloc H1.out (.cells #[.string x] 9)) hg (fun e => jrow_ne H3.out H1.out (by decide) e.symm); have n4 := (blk_cell n1 1).trans rfl; have n5 := blk_frozen n1 1; have n6 := blk_lt n1; have N1 := Aside0.mk n1; have N2 := Aside0.mk ho; have N3 := Aside0.mk hg; have N4 := Aside0.mk hb'; clear n1 ho hg hb')
 have n2 := blk_set N1.out 1 (.slice A' (ss.length + 1) c')
 have hne : ∀ k, (Value.slice A' (ss.length + 1) c').ownBlock = some k → u.ownBlock = some k ∨ w.heap.size ≤ k := fun k hk => by
  rcases N4.out with e | e
  ·
   exact .inl (e ▸ hk)
  ·
   right; rw [e] at hk; injection hk with hk; rw [← hk]; simp
 have hcg : Chg (fun k => k = b ∨ u.ownBlock = some k) w w' :=
  (((Chg.refl _ w).alloc (.cells #[.string x] 9)).trans ((Chg.grown N3.out).mono (fun k _ hk => .inr hk.symm)))
 have hcb := hcg.setCell (p := ⟨b, 1, none⟩) (fun _ => .inl rfl) (.slice A' (ss.length + 1) c')
 have r3 : SRow (w'.setCell ⟨b, 1, none⟩ (.slice A' (ss.length + 1) c')) (.slice A' (ss.length + 1) c') (ss ++ [x]) := by
  have := own_setCell N2.out (p := ⟨b, 1, none⟩) (fun e => jrow_ne N2.out N1.out (by decide) e.symm) (.slice A' (ss.length + 1) c')
  unfold SRow; rw [List.length_append, List.map_append]; exact this
 have hub : ¬ v.ownBlock = some b := jrow_ne H2.out H1.out (by decide)
 have huv : ∀ k, v.ownBlock = some k → ¬ u.ownBlock = some k := fun k hk hv => by
  obtain ⟨_, hr⟩ := H2.out
  rcases hr with ⟨e, _⟩ | ⟨g, cap, cur, e, _, hg, _⟩
  ·
   rw [e] at hk; simp [Value.ownBlock] at hk
  ·
   rw [e] at hk; simp [Value.ownBlock] at hk; subst hk
   exact jrow_ne H3.out hg (by decide) hv
 have r2 := own_chg H2.out hcb (fun k hk e => by
  rcases e with e | e
  ·
   exact hub (e ▸ hk)
  ·
   exact huv k hk e)
 go_end0
 refine ⟨?_, fun k => k = b ∨ v.ownBlock = some k ∨ (Value.slice A' (ss.length + 1) c').ownBlock = some k, fun k hk => ?_, ⟨⟨_, _, n2, r2, r3, fun k hk => .inr (.inl hk), fun k hk => .inr (.inr hk)⟩, .inl rfl, fun k hk => ?_⟩, hcb.mono (fun k _ e => e.elim (fun e => e ▸ HSB.out) (H5.out k))⟩
 ·
  first | exact ⟨_, rfl⟩ | trivial | simp
 ·
  rcases hk with rfl | hk | hk
  ·
   exact .inl HSB.out
  ·
   exact .inl (H4.out k hk)
  ·
   exact (hne k hk).imp (H5.out k) id
 ·
  rcases hk with rfl | hk | hk
  ·
   exact blk_lt n2
  ·
   exact (World.ownsRow.lt r2 k hk).2
  ·
   exact (World.ownsRow.lt r3 k hk).2
set_option maxHeartbeats 1000000 in
theorem putErrno_calls {T : Nat → Prop} {w : World} {b : Nat} {ns : List Int} {ss : List ByteArray} (h : HP T w b ns ss) (hl : ns.length ≤ 100000000) (x : Int) :
  Calls Try.prog 56 #[.pointer (some ⟨b, 0, none⟩), .int .i64 x] w (PutPost T w b (ns ++ [x]) ss) := by
 obtain ⟨v, u, h1, h2, h3, h4, h5⟩ := h.ex
 obtain ⟨i, hi, hz, hsz, hby⟩ := jint
 have HI := Aside0.mk hi
 have H1 := Aside0.mk h1
 have H2 := Aside0.mk h2
 have H3 := Aside0.mk h3
 have H4 := Aside0.mk h4
 have H5 := Aside0.mk h5
 have HSB := Aside0.mk h.sb
 have HLT := Aside0.mk h.lt
 clear h hi h1 h2 h3 h4 h5
 have c0 : w.cell? ⟨b, 0, none⟩ = some v := (blk_cell H1.out 0).trans rfl
 have c1 : w.cell? ⟨b, 1, none⟩ = some u := (blk_cell H1.out 1).trans rfl
 have hlt := blk_lt H1.out
 go_enter Try.func56, Try.ntmps56
 go_wp2_with (at_builtin; go_loud (refine wpList_append_own_at _ rfl (.tmp 8) (.tmp 10) 39 rfl 0 3 i (.int .i64 0) 1 8 Try.underlying39 HI.out hz hsz hby rfl (by decide) v _ _ rfl (pw_own_below H2.out (below_alloc (Below.refl _ _) _)) ⟨w.heap.size, 0, none⟩ 1 1 [.int .i64 x] rfl rfl (World.news_of_block (blk_new w (.cells #[.int .i64 x] 3))) (by simp [Value.oneCell']) (by simp only [maxLen]; omega) (by omega) (Nat.zero_le _) ?_); intro v' w' ho hg _ hb'; obtain ⟨A', c', rfl⟩ := jown_slice ho; have n1 := blk_grown (blk_alloc H1.out (.cells #[.int .i64 x] 3)) hg (fun e => jrow_ne H2.out H1.out (by decide) e.symm); have n4 := (blk_cell n1 0).trans rfl; have n5 := blk_frozen n1 0; have n6 := blk_lt n1; have N1 := Aside0.mk n1; have N2 := Aside0.mk ho; have N3 := Aside0.mk hg; have N4 := Aside0.mk hb'; clear n1 ho hg hb')
 have n2 := blk_set N1.out 0 (.slice A' (ns.length + 1) c')
 have hne : ∀ k, (Value.slice A' (ns.length + 1) c').ownBlock = some k → v.ownBlock = some k ∨ w.heap.size ≤ k := fun k hk => by
  rcases N4.out with e | e
  ·
   exact .inl (e ▸ hk)
  ·
   right; rw [e] at hk; injection hk with hk; rw [← hk]; simp
 have hcg : Chg (fun k => k = b ∨ v.ownBlock = some k) w w' :=
  (((Chg.refl _ w).alloc (.cells #[.int .i64 x] 3)).trans ((Chg.grown N3.out).mono (fun k _ hk => .inr hk.symm)))
 have hcb := hcg.setCell (p := ⟨b, 0, none⟩) (fun _ => .inl rfl) (.slice A' (ns.length + 1) c')
 have r2 : Row (w'.setCell ⟨b, 0, none⟩ (.slice A' (ns.length + 1) c')) 0 3 (.slice A' (ns.length + 1) c') (ns ++ [x]) := by
  have := own_setCell N2.out (p := ⟨b, 0, none⟩) (fun e => jrow_ne N2.out N1.out (by decide) e.symm) (.slice A' (ns.length + 1) c')
  unfold Row; rw [List.length_append, List.map_append]; exact this
 have hub : ¬ u.ownBlock = some b := jrow_ne H3.out H1.out (by decide)
 have huv : ∀ k, u.ownBlock = some k → ¬ v.ownBlock = some k := fun k hk hv => by
  obtain ⟨_, hr⟩ := H3.out
  rcases hr with ⟨e, _⟩ | ⟨g, cap, cur, e, _, hg, _⟩
  ·
   rw [e] at hk; simp [Value.ownBlock] at hk
  ·
   rw [e] at hk; simp [Value.ownBlock] at hk; subst hk
   exact jrow_ne H2.out hg (by decide) hv
 have r3 := own_chg H3.out hcb (fun k hk e => by
  rcases e with e | e
  ·
   exact hub (e ▸ hk)
  ·
   exact huv k hk e)
 go_end0
 refine ⟨?_, fun k => k = b ∨ (Value.slice A' (ns.length + 1) c').ownBlock = some k ∨ u.ownBlock = some k, fun k hk => ?_, ⟨⟨_, _, n2, r2, r3, fun k hk => .inr (.inl hk), fun k hk => .inr (.inr hk)⟩, .inl rfl, fun k hk => ?_⟩, hcb.mono (fun k _ e => e.elim (fun e => e ▸ HSB.out) (H4.out k))⟩
 ·
  first | exact ⟨_, rfl⟩ | trivial | simp
 ·
  rcases hk with rfl | hk | hk
  ·
   exact .inl HSB.out
  ·
   exact (hne k hk).imp (H4.out k) id
  ·
   exact .inl (H5.out k hk)
 ·
  rcases hk with rfl | hk | hk
  ·
   exact blk_lt n2
  ·
   exact (World.ownsRow.lt r2 k hk).2
  ·
   exact (World.ownsRow.lt r3 k hk).2
set_option maxHeartbeats 1000000 in
theorem putSpan_calls {T : Nat → Prop} {w : World} {b : Nat} {ns : List Int} {ss : List ByteArray} (h : HP T w b ns ss) (hl : ns.length ≤ 90000000) (x y : Int) :
  Calls Try.prog 59 #[.pointer (some ⟨b, 0, none⟩), .agg #[.int .i64 x, .int .i64 y]] w (PutPost T w b (ns ++ [x, y]) ss) := by
 have HST := Aside0.mk (St.start h #[.int .i64 x, .int .i64 y] 24)
 obtain ⟨X, hX⟩ : ∃ X, w.heap.size = X := ⟨_, rfl⟩
 rw [hX] at HST
 clear h
 go_enter Try.func59, Try.ntmps59
 go_upto_region 1 with (fail)
 generalize w.alloc (.cells #[.int .i64 x, .int .i64 y] 24) = w1 at HST ⊢
 have c0 := (blk_cell HST.out.box 0).trans rfl
 have c1 := (blk_cell HST.out.box 1).trans rfl
 go_wp2_with fail
 refine (putInt_calls HST.out.hp (by omega) x).mono ?_
 intro e w2 hp
 obtain ⟨U, hs⟩ := HST.out.step hp
 obtain ⟨⟨v, rfl⟩, _⟩ := hp
 clear HST c0 c1
 have HST := Aside0.mk hs
 clear hs
 have c0 := (blk_cell HST.out.box 0).trans rfl
 have c1 := (blk_cell HST.out.box 1).trans rfl
 go_wp2_with fail
 refine (putInt_calls HST.out.hp (by simp; omega) y).mono ?_
 intro e w3 hp
 obtain ⟨U2, hs⟩ := HST.out.step hp
 obtain ⟨⟨v2, rfl⟩, _⟩ := hp
 clear HST c0 c1
 have HST := Aside0.mk hs
 go_wp2
 go_end0
 have := HST.out.done (e := .returned (.tuple #[])) ⟨_, rfl⟩
 rw [List.append_assoc] at this
 exact this
theorem put_done {T : Nat → Prop} {w w' : World} {b : Nat} {ns : List Int} {ss : List ByteArray} {v u : Value} {x : Int} {t' : TypeId} {A' : Option Addr} {c' : Nat}
  (h1 : w.heap[b]? = some (.cells #[v, u] 79 (0, 0))) (h2 : Row w 0 3 v ns) (h3 : SRow w u ss) (h4 : ∀ k, v.ownBlock = some k → T k) (h5 : ∀ k, u.ownBlock = some k → T k) (sb : T b)
  (n1 : w'.heap[b]? = some (.cells #[v, u] 79 (0, 0))) (ho : w'.ownsRow 0 3 1 (.slice A' (ns.length + 1) c') (ns.length + 1) (ns.map (Value.int .i64) ++ [.int .i64 x])) (hg : (w.alloc (.cells #[.int .i64 x] t')).grownBy w' v.ownBlock)
  (hb' : (Value.slice A' (ns.length + 1) c').ownBlock = v.ownBlock ∨ (Value.slice A' (ns.length + 1) c').ownBlock = some (w.alloc (.cells #[.int .i64 x] t')).heap.size) :
  ∃ T' : Nat → Prop, (∀ k, T' k → T k ∨ w.heap.size ≤ k) ∧ HP T' (w'.setCell ⟨b, 0, none⟩ (.slice A' (ns.length + 1) c')) b (ns ++ [x]) ss ∧ Chg T w (w'.setCell ⟨b, 0, none⟩ (.slice A' (ns.length + 1) c')) := by
 have n2 := blk_set n1 0 (.slice A' (ns.length + 1) c')
 have hne : ∀ k, (Value.slice A' (ns.length + 1) c').ownBlock = some k → v.ownBlock = some k ∨ w.heap.size ≤ k := fun k hk => by
  rcases hb' with e | e
  ·
   exact .inl (e ▸ hk)
  ·
   right; rw [e] at hk; injection hk with hk; rw [← hk]; simp
 have hcg : Chg (fun k => k = b ∨ v.ownBlock = some k) w w' :=
  (((Chg.refl _ w).alloc (.cells #[.int .i64 x] t')).trans ((Chg.grown hg).mono (fun k _ hk => .inr hk.symm)))
 have hcb := hcg.setCell (p := ⟨b, 0, none⟩) (fun _ => .inl rfl) (.slice A' (ns.length + 1) c')
 have r2 : Row (w'.setCell ⟨b, 0, none⟩ (.slice A' (ns.length + 1) c')) 0 3 (.slice A' (ns.length + 1) c') (ns ++ [x]) := by
  have := own_setCell ho (p := ⟨b, 0, none⟩) (fun e => jrow_ne ho n1 (by decide) e.symm) (.slice A' (ns.length + 1) c')
  unfold Row; rw [List.length_append, List.map_append]; exact this
 have hub : ¬ u.ownBlock = some b := jrow_ne h3 h1 (by decide)
 have huv : ∀ k, u.ownBlock = some k → ¬ v.ownBlock = some k := fun k hk hv => by
  obtain ⟨_, hr⟩ := h3
  rcases hr with ⟨e, _⟩ | ⟨g, cap, cur, e, _, hg, _⟩
  ·
   rw [e] at hk; simp [Value.ownBlock] at hk
  ·
   rw [e] at hk; simp [Value.ownBlock] at hk; subst hk
   exact jrow_ne h2 hg (by decide) hv
 have r3 := own_chg h3 hcb (fun k hk e => by
  rcases e with e | e
  ·
   exact hub (e ▸ hk)
  ·
   exact huv k hk e)
 refine ⟨fun k => k = b ∨ (Value.slice A' (ns.length + 1) c').ownBlock = some k ∨ u.ownBlock = some k, fun k hk => ?_, ⟨⟨_, _, n2, r2, r3, fun k hk => .inr (.inl hk), fun k hk => .inr (.inr hk)⟩, .inl rfl, fun k hk => ?_⟩, hcb.mono (fun k _ e => e.elim (fun e => e ▸ sb) (h4 k))⟩
 ·
  rcases hk with rfl | hk | hk
  ·
   exact .inl sb
  ·
   exact (hne k hk).imp (h4 k) id
  ·
   exact .inl (h5 k hk)
 ·
  rcases hk with rfl | hk | hk
  ·
   exact blk_lt n2
  ·
   exact (World.ownsRow.lt r2 k hk).2
  ·
   exact (World.ownsRow.lt r3 k hk).2
set_option maxHeartbeats 2000000 in
theorem putsInt_calls {T : Nat → Prop} {w : World} {b : Nat} {ns : List Int} {ss : List ByteArray} (h : HP T w b ns ss) (l : List Int) (hl : ns.length + l.length ≤ 80000000) (A : Option Addr) (c : Nat) (hF : ∀ w', Chg T w w' → Kd.C (Kd.int .i64) w' A l.length l) :
  Calls Try.prog 118 #[.pointer (some ⟨b, 0, none⟩), .slice A l.length c, .func (.func 55) #[] #[]] w (PutPost T w b (ns ++ ((l.length : Int) :: l)) ss) := by
 obtain ⟨v, u, h1, h2, h3, h4, h5⟩ := h.ex
 obtain ⟨i, hi, hz, hsz, hby⟩ := jint
 have HI := Aside0.mk hi
 have H1 := Aside0.mk h1
 have H2 := Aside0.mk h2
 have H3 := Aside0.mk h3
 have H4 := Aside0.mk h4
 have H5 := Aside0.mk h5
 have HSB := Aside0.mk h.sb
 have HLT := Aside0.mk h.lt
 have HF := Aside0.mk hF
 clear h hi h1 h2 h3 h4 h5 hF
 have c0 : w.cell? ⟨b, 0, none⟩ = some v := (blk_cell H1.out 0).trans rfl
 have hlt := blk_lt H1.out
 go_enter Try.func118, Try.ntmps118
 go_wp2_with (at_builtin; go_loud (refine wpList_append_own_at _ rfl (.tmp 11) (.tmp 14) 39 rfl 0 3 i (.int .i64 0) 1 8 Try.underlying39 HI.out hz hsz hby rfl (by decide) v _ _ rfl (pw_own_below H2.out (below_alloc (Below.refl _ _) _)) ⟨w.heap.size, 0, none⟩ 1 1 [.int .i64 l.length] rfl rfl (World.news_of_block (blk_new w (.cells #[.int .i64 (l.length : Int)] 3))) (by simp [Value.oneCell']) (by simp only [maxLen]; omega) (by omega) (Nat.zero_le _) ?_); intro v' w' ho hg _ hb'; obtain ⟨A', c', rfl⟩ := jown_slice ho; have n1 := blk_grown (blk_alloc H1.out (.cells #[.int .i64 (l.length : Int)] 3)) hg (fun e => jrow_ne H2.out H1.out (by decide) e.symm); have n4 := (blk_cell n1 0).trans rfl; have n5 := blk_frozen n1 0; have n6 := blk_lt n1; have N1 := Aside0.mk n1; have N2 := Aside0.mk ho; have N3 := Aside0.mk hg; have N4 := Aside0.mk hb'; clear n1 ho hg hb')
 obtain ⟨U, hg1, hg2, hg3⟩ := put_done H1.out H2.out H3.out H4.out H5.out HSB.out N1.out N2.out N3.out N4.out
 have HU : Aside0 (∃ U : Nat → Prop, (∀ q, U q → T q ∨ w.heap.size ≤ q) ∧ HP U (w'.setCell ⟨b, 0, none⟩ (.slice A' (ns.length + 1) c')) b (ns ++ ((l.length : Int) :: l.take 0)) ss ∧ Chg T w (w'.setCell ⟨b, 0, none⟩ (.slice A' (ns.length + 1) c'))) := ⟨U, hg1, by simpa using hg2, hg3⟩
 clear hg1 hg2 hg3 n4 n5 n6 N1 N2 N3 N4 H1 H2 H3 H4 H5 c0
 generalize w'.setCell ⟨b, 0, none⟩ (.slice A' (ns.length + 1) c') = w2 at HU ⊢
 go_loopw [6] (fun j wr => ∃ k : Nat, k ≤ l.length ∧ j = .int .i64 k ∧ Aside0 (∃ U : Nat → Prop, (∀ q, U q → T q ∨ w.heap.size ≤ q) ∧ HP U wr b (ns ++ ((l.length : Int) :: l.take k)) ss ∧ Chg T w wr)) (fun j _ => l.length - (intOf j).toNat)
 case atStart => exact ⟨0, Nat.zero_le _, rfl, HU⟩
 case round =>
  clear HU
  obtain ⟨k, hk, rfl, HU⟩ := hrel
  by_cases hlt : k < l.length
  ·
   obtain ⟨U, hg1, hg2, hg3⟩ := HU.out
   obtain ⟨ad, e, hx⟩ := Kd.at_int (HF.out wr hg3) (k : Int) (by omega) (by omega)
   cases e
   rw [Int.toNat_natCast] at hx
   have HP0 := Aside0.mk hg2
   have HG := Aside0.mk hg1
   have HCh := Aside0.mk hg3
   clear hg1 hg2 hg3 HU
   go_wp2_with fail
   refine (putInt_calls HP0.out (by simp; omega) _).mono ?_
   rintro e w3 ⟨⟨v2, rfl⟩, U', g1, g2, g3⟩
   have g4 : ∀ q, U' q → T q ∨ w.heap.size ≤ q := fun q hq => (g1 q hq).elim (HG.out q) (fun x => .inr (Nat.le_trans HCh.out.size x))
   have g5 := HCh.out.then_ g3 (fun q hq hu => (HG.out q hu).elim id (fun x => absurd hq (by omega)))
   have g6 : (ns ++ ((l.length : Int) :: l.take k)) ++ [rd l (k : Int)] = ns ++ ((l.length : Int) :: l.take (k + 1)) := by
    rw [List.append_assoc, List.cons_append, List.take_succ_eq_append_getElem hlt]
    simp [rd, hlt]
   rw [g6] at g2
   have HU : Aside0 (∃ U : Nat → Prop, (∀ q, U q → T q ∨ w.heap.size ≤ q) ∧ HP U w3 b (ns ++ ((l.length : Int) :: l.take (k + 1))) ss ∧ Chg T w w3) := ⟨U', g4, g2, g5⟩
   clear g1 g2 g3 g4 g5 g6 hx
   go_wp2_with fail
   go_roundw
   case rel => exact ⟨k + 1, by omega, by go_num, HU⟩
   case measure => simp [intOf]; omega
  ·
   obtain rfl : k = l.length := by omega
   go_wp2
   go_end0
   obtain ⟨U, hg1, hg2, hg3⟩ := HU.out
   rw [List.take_length] at hg2
   exact ⟨⟨_, rfl⟩, U, hg1, hg2, hg3⟩
theorem putInts_calls {T : Nat → Prop} {w : World} {b : Nat} {ns : List Int} {ss : List ByteArray} (h : HP T w b ns ss) (l : List Int) (hl : ns.length + l.length ≤ 80000000) (A : Option Addr) (n c : Nat) (hn : n = l.length) (hF : ∀ w', Chg T w w' → Kd.C (Kd.int .i64) w' A l.length l) :
  Calls Try.prog 63 #[.pointer (some ⟨b, 0, none⟩), .slice A n c] w (PutPost T w b (ns ++ ((l.length : Int) :: l)) ss) := by
 subst hn
 have HC := Aside0.mk (putsInt_calls h l hl A c hF)
 clear h hF
 go_enter Try.func63, Try.ntmps63
 go_wp2_with fail
 refine HC.out.mono ?_
 rintro e w2 ⟨⟨v, rfl⟩, h2⟩
 go_wp2
 go_end0
 exact ⟨⟨_, rfl⟩, h2⟩
theorem wipeInt_calls {w : World} {g k : Nat} {cs : Array Value} {t : TypeId} (h : w.heap[g]? = some (.cells cs t (0, 0))) (hk : k < cs.size) :
  Calls Try.prog 120 #[.pointer (some ⟨g, k, none⟩)] w fun e w' => (∃ v, e = .returned v) ∧ w' = w.setCell ⟨g, k, none⟩ (.int .i64 (-77)) := by
 obtain ⟨v, hv⟩ : ∃ v, cs[k]? = some v := ⟨_, Array.getElem?_eq_getElem hk⟩
 have c0 : w.cell? ⟨g, k, none⟩ = some v := (blk_cell h k).trans hv
 have f0 := blk_frozen h k
 have hl := blk_lt h
 clear h hv hk
 go_enter Try.func120, Try.ntmps120
 go_wp2
 go_end0
 exact ⟨⟨_, rfl⟩, rfl⟩
set_option maxHeartbeats 1000000 in
theorem wipesInt_calls {w : World} {A : Option Addr} {n c : Nat} (h : (A = none ∧ n = 0) ∨ ∃ g cs t, A = some ⟨g, 0, none⟩ ∧ w.heap[g]? = some (.cells cs t (0, 0)) ∧ n ≤ cs.size) (hn : n ≤ 80000000) :
  Calls Try.prog 119 #[.slice A n c, .func (.func 120) #[] #[]] w fun e w' => (∃ v, e = .returned v) ∧ Chg (fun k => ∃ a, A = some a ∧ a.block = k) w w' := by
 rcases h with ⟨rfl, rfl⟩ | ⟨g, cs, t, rfl, hg, hcs⟩
 ·
  go_enter Try.func119, Try.ntmps119
  go_wp2
  go_loopw [4] (fun j wr => j = .int .i64 (0 : Nat) ∧ Aside0 (Chg (fun k => ∃ a, (none : Option Addr) = some a ∧ a.block = k) w wr)) (fun j _ => 0)
  case atStart => exact ⟨rfl, ⟨Chg.refl _ _⟩⟩
  case round =>
   obtain ⟨rfl, HC⟩ := hrel
   go_wp2
   go_end0
   exact ⟨⟨_, rfl⟩, HC.out⟩
 ·
  have HG := Aside0.mk hg
  have HCS := Aside0.mk hcs
  clear hg hcs
  go_enter Try.func119, Try.ntmps119
  go_wp2
  go_loopw [4] (fun j wr => ∃ k : Nat, k ≤ n ∧ j = .int .i64 k ∧ Aside0 (∃ cs', wr.heap[g]? = some (.cells cs' t (0, 0)) ∧ cs'.size = cs.size) ∧ Aside0 (Chg (fun k => ∃ a : Addr, (some ⟨g, 0, none⟩ : Option Addr) = some a ∧ a.block = k) w wr)) (fun j _ => n - (intOf j).toNat)
  case atStart => exact ⟨0, Nat.zero_le _, rfl, ⟨cs, HG.out, rfl⟩, ⟨Chg.refl _ _⟩⟩
  case round =>
   obtain ⟨k, hk, rfl, HH, HC⟩ := hrel
   by_cases hlt : k < n
   ·
    obtain ⟨cs', h1, h2⟩ := HH.out
    have H1 := Aside0.mk h1
    have H2 := Aside0.mk h2
    clear h1 h2
    go_wp2_with fail
    refine (wipeInt_calls H1.out (by have := H2.out; have := HCS.out; omega)).mono ?_
    rintro e w2 ⟨⟨v, rfl⟩, rfl⟩
    go_wp2_with fail
    go_roundw
    case rel => exact ⟨k + 1, by omega, by go_num, ⟨_, blk_set H1.out k _, by simp [H2.out]⟩, ⟨HC.out.setCell (p := ⟨g, k, none⟩) (fun _ => ⟨_, rfl, rfl⟩) _⟩⟩
    case measure => simp [intOf]; omega
   ·
    obtain rfl : k = n := by omega
    go_wp2
    go_end0
    exact ⟨⟨_, rfl⟩, HC.out⟩
theorem nothing_calls (w : World) : Calls Try.prog 57 #[] w fun e w' => (∃ v, e = .returned v) ∧ w = w' := by
 go_enter Try.func57, Try.ntmps57
 go_wp2
 go_end0
 exact ⟨⟨_, rfl⟩, rfl⟩
theorem wipeInts_calls {w : World} {P : Nat} {A : Option Addr} {n c : Nat} (hP : w.cell? ⟨P, 0, none⟩ = some (.slice A n c)) (h : (A = none ∧ n = 0) ∨ ∃ g cs t, A = some ⟨g, 0, none⟩ ∧ w.heap[g]? = some (.cells cs t (0, 0)) ∧ n ≤ cs.size) (hn : n ≤ 80000000) :
  Calls Try.prog 65 #[.pointer (some ⟨P, 0, none⟩)] w fun e w' => (∃ v, e = .returned v) ∧ Chg (fun k => ∃ a, A = some a ∧ a.block = k) w w' := by
 have HW := Aside0.mk (wipesInt_calls (c := c) h hn)
 clear h
 go_enter Try.func65, Try.ntmps65
 go_wp2_with fail
 refine HW.out.mono ?_
 rintro e w2 ⟨⟨v, rfl⟩, h2⟩
 go_wp2
 go_end0
 exact ⟨⟨_, rfl⟩, h2⟩
theorem map_flat {α β : Type} (f : α → β) : ∀ l : List α, l.map f = l.flatMap fun x => [f x]
 | [] => rfl
 | x :: l => by rw [List.map_cons, List.flatMap_cons, map_flat f l]; rfl
theorem srow_C {w : World} {u : Value} {ss : List ByteArray} (h : SRow w u ss) (hl : ss.length ≤ 9223372036854775807) : ∃ A c, u = .slice A ss.length c ∧ ss.length ≤ c ∧ Kd.C Kd.string w A ss.length ss := by
 have e : ss.map Value.string = ss.flatMap fun x => [Value.string x] := map_flat _ ss
 unfold SRow at h
 rw [e] at h
 exact row_read (d := Kd.string) (enc := fun x => [Value.string x]) (fun _ _ => rfl) (fun _ => rfl) h hl
set_option maxHeartbeats 2000000 in
theorem same_calls {w : World} {v1 u1 v2 u2 : Value} {ns : List Int} {ss : List ByteArray} (h1 : Row w 0 3 v1 ns) (g1 : SRow w u1 ss) (h2 : Row w 0 3 v2 ns) (g2 : SRow w u2 ss) (hl : ns.length ≤ 100000000) (hs : ss.length ≤ 100000000) :
  Calls Try.prog 73 #[.agg #[v1, u1], .agg #[v2, u2]] w fun e w' => e = .returned (.bool true) ∧ Below w.heap.size w w' := by
 have C1 := Aside0.mk (Row.shape h1)
 obtain ⟨A1, c1, rfl, _⟩ := C1.out
 obtain ⟨A2, c2, rfl, _⟩ := Row.shape h2
 have D1 := Aside0.mk (Row.read h1 rfl (by omega))
 have D2 := Aside0.mk (Row.read h2 rfl (by omega))
 obtain ⟨B1, e1, rfl, _, E1⟩ := srow_C g1 (by omega)
 obtain ⟨B2, e2, rfl, _, E2⟩ := srow_C g2 (by omega)
 have F1 := Aside0.mk E1
 have F2 := Aside0.mk E2
 clear h1 h2 g1 g2 E1 E2 C1
 obtain ⟨m, hm⟩ : ∃ m, ns.length = m := ⟨_, rfl⟩
 obtain ⟨n, hn⟩ : ∃ n, ss.length = n := ⟨_, rfl⟩
 rw [hm] at hl D1 D2 ⊢
 rw [hn] at hs F1 F2 ⊢
 have HM := Aside0.mk hm
 have HN := Aside0.mk hn
 clear hm hn
 have hb := below_alloc (below_alloc (Below.refl w.heap.size w) (.cells #[.slice A1 m c1, .slice B1 n e1] 79)) (.cells #[.slice A2 m c2, .slice B2 n e2] 79)
 have HB := Aside0.mk hb
 have HX := Aside0.mk (blk_alloc (blk_new w (.cells #[.slice A1 m c1, .slice B1 n e1] 79)) (.cells #[.slice A2 m c2, .slice B2 n e2] 79))
 have HY := Aside0.mk (new_at' (W := w.alloc (.cells #[.slice A1 m c1, .slice B1 n e1] 79)) (n := w.heap.size + 1) (by simp) (.cells #[.slice A2 m c2, .slice B2 n e2] 79))
 clear hb
 go_enter Try.func73, Try.ntmps73
 go_upto_region 1 with (fail)
 generalize (w.alloc (.cells #[.slice A1 m c1, .slice B1 n e1] 79)).alloc (.cells #[.slice A2 m c2, .slice B2 n e2] 79) = w1 at HB HX HY ⊢
 have x0 := (blk_cell HX.out 0).trans rfl
 have x1 := (blk_cell HX.out 1).trans rfl
 have y0 := (blk_cell HY.out 0).trans rfl
 have y1 := (blk_cell HY.out 1).trans rfl
 go_wp2_with fail
 clear x0 x1 y0 y1
 go_loopw [5] (fun j wr => ∃ k : Nat, k ≤ m ∧ j = .int .i64 k ∧ Aside0 (Below w1.heap.size w1 wr)) (fun j _ => m - (intOf j).toNat)
 case atStart => exact ⟨0, Nat.zero_le _, rfl, ⟨Below.refl _ _⟩⟩
 case round =>
  obtain ⟨k, hk, rfl, HQ⟩ := hrel
  have x0 := (blk_cell (blk_below HX.out HQ.out) 0).trans rfl
  have y0 := (blk_cell (blk_below HY.out HQ.out) 0).trans rfl
  by_cases hlt : k < m
  ·
   obtain ⟨ad1, a1, z1⟩ := Kd.at_int (Kd.C_below D1.out (HB.out.trans (HQ.out.mono HB.out.size))) (k : Int) (by omega) (by omega)
   obtain ⟨ad2, a2, z2⟩ := Kd.at_int (Kd.C_below D2.out (HB.out.trans (HQ.out.mono HB.out.size))) (k : Int) (by omega) (by omega)
   subst a1 a2
   rw [Int.toNat_natCast] at z1 z2
   go_wp2_with fail
   go_quiet (fail)
   go_wp2
   go_roundw
   case rel => exact ⟨k + 1, by omega, by go_num, ⟨pw_below_drewN HQ.out _⟩⟩
   case measure => simp [intOf]; omega
  ·
   obtain rfl : k = m := by omega
   go_wp2_with fail
   clear x0 y0
   go_loopw [6] (fun j wr => ∃ k : Nat, k ≤ n ∧ j = .int .i64 k ∧ Aside0 (Below w1.heap.size w1 wr)) (fun j _ => n - (intOf j).toNat)
   case atStart => exact ⟨0, Nat.zero_le _, rfl, HQ⟩
   case round =>
    obtain ⟨k2, hk2, rfl, HQ⟩ := hrel
    have x1 := (blk_cell (blk_below HX.out HQ.out) 1).trans rfl
    have y1 := (blk_cell (blk_below HY.out HQ.out) 1).trans rfl
    by_cases hlt2 : k2 < n
    ·
     obtain ⟨ad1, a1, z1⟩ := Kd.at_string (Kd.C_below F1.out (HB.out.trans (HQ.out.mono HB.out.size))) (k2 : Int) (by omega) (by omega)
     obtain ⟨ad2, a2, z2⟩ := Kd.at_string (Kd.C_below F2.out (HB.out.trans (HQ.out.mono HB.out.size))) (k2 : Int) (by omega) (by omega)
     subst a1 a2
     rw [Int.toNat_natCast] at z1 z2
     go_wp2_with fail
     go_quiet (fail)
     go_wp2
     go_roundw
     case rel => exact ⟨k2 + 1, by omega, by go_num, ⟨pw_below_drewN HQ.out _⟩⟩
     case measure => simp [intOf]; omega
    ·
     obtain rfl : k2 = n := by omega
     go_wp2
     go_ret
     exact ⟨rfl, HB.out.trans (HQ.out.mono HB.out.size)⟩
structure Puts (w0 : World) (F X : Nat) (N : List Int) (SS : List ByteArray) : Prop where
 enters : ∀ args w, (callFunc F args).run Try.prog w = .ok (.enter F args) w
 calls : ∀ (T : Nat → Prop) (w : World) (b : Nat), HP T w b [] [] → (∀ k, T k → w0.heap.size ≤ k) → Below w0.heap.size w0 w →
  Calls Try.prog F #[.pointer (some ⟨b, 0, none⟩), .pointer (some ⟨X, 0, none⟩)] w fun e w' => ∃ (T' : Nat → Prop) (wf : Nat) (caps : Array Value), e = .returned (.func (.func wf) #[] caps) ∧ (∀ k, T' k → T k ∨ w.heap.size ≤ k) ∧ HP T' w' b N SS ∧ Chg T w w' ∧
   (∀ args w, (callFunc wf args).run Try.prog w = .ok (.enter wf args) w) ∧ Calls Try.prog wf caps w' fun e2 w2 => (∃ v, e2 = .returned v) ∧ ∃ U : Nat → Prop, Chg U w' w2 ∧ ∀ k, U k → w.heap.size ≤ k ∧ ¬ T' k
 n8 : N.length ≤ 100000000
 s8 : SS.length ≤ 100000000
theorem HP.empty {w : World} {b : Nat} (h : w.heap[b]? = some (.cells #[.slice none 0 0, .slice none 0 0] 79 (0, 0))) : HP (fun k => k = b) w b [] [] :=
 ⟨⟨_, _, h, World.ownsRow_nil _ _ _ _, World.ownsRow_nil _ _ _ _, fun k hk => by simp [Value.ownBlock] at hk, fun k hk => by simp [Value.ownBlock] at hk⟩, rfl, fun k hk => by rw [hk]; exact blk_lt h⟩
set_option maxHeartbeats 2000000 in
theorem again_calls {w0 : World} {F X : Nat} {N : List Int} {SS : List ByteArray} (h : Puts w0 F X N SS) (w : World) (hB : Below w0.heap.size w0 w) :
  Calls Try.prog 53 #[.func (.func F) #[] #[.pointer (some ⟨X, 0, none⟩)]] w fun e w' => e = .returned (.bool true) ∧ Below w.heap.size w w' := by
 have HPU := Aside0.mk h
 have HB0 := Aside0.mk hB
 have he := h.enters
 clear h hB
 have hb := below_alloc (below_alloc (Below.refl w.heap.size w) (.cells #[.slice none 0 0, .slice none 0 0] 79)) (.cells #[.slice none 0 0, .slice none 0 0] 79)
 have HB := Aside0.mk hb
 have HX := Aside0.mk (blk_alloc (blk_new w (.cells #[.slice none 0 0, .slice none 0 0] 79)) (.cells #[.slice none 0 0, .slice none 0 0] 79))
 have HY := Aside0.mk (new_at' (W := w.alloc (.cells #[.slice none 0 0, .slice none 0 0] 79)) (n := w.heap.size + 1) (by simp) (.cells #[.slice none 0 0, .slice none 0 0] 79))
 clear hb
 go_enter Try.func53, Try.ntmps53
 go_upto_region 2 with (fail)
 generalize (w.alloc (.cells #[.slice none 0 0, .slice none 0 0] 79)).alloc (.cells #[.slice none 0 0, .slice none 0 0] 79) = w1 at HB HX HY ⊢
 go_wp2_with fail
 have hle0 := HB0.out.size
 have hxl := blk_lt HY.out
 have hb1 : Below w.heap.size w0 w1 → True := fun _ => trivial
 clear hb1
 refine (HPU.out.calls _ w1 w.heap.size (HP.empty HX.out) (fun k hk => by rw [hk]; exact hle0) (HB0.out.trans (HB.out.mono hle0))).mono ?_
 rintro e w2 ⟨T1, wf, caps, rfl, hg, hp, hc, hwe, hwc⟩
 have HP1 := Aside0.mk hp
 have HG1 := Aside0.mk hg
 have HC1 := Aside0.mk hc
 have HWC := Aside0.mk hwc
 clear hg hp hc hwc
 go_wp2_with fail
 refine HWC.out.mono ?_
 rintro e2 w3 ⟨⟨v, rfl⟩, U, hU, hUd⟩
 have hp3 := HP1.out.chg hU (fun k hk hu => (hUd k hu).2 hk)
 have hy3 := hU.heap (HC1.out.heap HY.out (by simp)) (fun hu => by have := (hUd _ hu).1; omega)
 have hb3 : Below w.heap.size w w3 := (HB.out.trans (HC1.out.below (fun k _ hk => by rw [hk]; exact Nat.le_refl _) HB.out.size)).trans (hU.below (fun k _ hu => by have := (hUd k hu).1; omega) (by have := HC1.out.size; omega))
 have HP3 := Aside0.mk hp3
 have HY3 := Aside0.mk hy3
 have HB3 := Aside0.mk hb3
 clear hp3 hy3 hb3 hU hUd HWC HP1 HC1 hwe
 go_wp2_with fail
 refine (HPU.out.calls _ w3 (w.heap.size + 1) (HP.empty HY3.out) (fun k hk => by rw [hk]; omega) (HB0.out.trans (HB3.out.mono hle0))).mono ?_
 rintro e w4 ⟨T2, wf2, caps2, rfl, hg2, hp4, hc4, _, _⟩
 have hp5 := HP3.out.chg hc4 (fun k hk hu => by have := HG1.out k hk; omega)
 have hb5 := HB3.out.trans (hc4.below (fun k _ hk => by rw [hk]; exact Nat.le_succ _) HB3.out.size)
 obtain ⟨v1, u1, p1, p2, p3, _, _⟩ := hp5.ex
 obtain ⟨v2, u2, q1, q2, q3, _, _⟩ := hp4.ex
 have hsame := same_calls p2 p3 q2 q3 HPU.out.n8 HPU.out.s8
 have HSAME := Aside0.mk hsame
 have HB5 := Aside0.mk hb5
 have c0 := (blk_cell p1 0).trans rfl
 have c1 := (blk_cell p1 1).trans rfl
 have d0 := (blk_cell q1 0).trans rfl
 have d1 := (blk_cell q1 1).trans rfl
 clear hg2 hp4 hc4 hp5 hb5 p1 p2 p3 q1 q2 q3 hsame HP3 HG1 HY3 HB3 hle0 hxl
 go_wp2_with fail
 refine HSAME.out.mono ?_
 rintro e w5 ⟨rfl, hb⟩
 have hb6 := HB5.out.trans (hb.mono HB5.out.size)
 clear c0 c1 d0 d1
 go_wp2
 go_ret
 exact ⟨rfl, hb6⟩
end Go.Proofs.YtgoidclnccjdeaaK
end
section
/- The statements 'TopAnew..': on the way through a function that puts, package independent (Sn of XFl, for glass, mirror, area). -/
namespace Go.Proofs.YtgoidclnccjdeaaK
open Go Go.RowKit Go.Proofs.YtgoidclnccjdeaaW.PrintWords Go.Proofs.YtgoidclnccjdeaaW.PrintLast Go.Proofs.YtgoidclnccjdeaaW.PrintMore
set_option linter.unusedVariables false
set_option linter.unusedSimpArgs false

structure Sn (T : Nat → Prop) (w : World) (U : Nat → Prop) (W : World) (b : Nat) (ns : List Int) (ss : List ByteArray) (K : List (Nat × Array Value × TypeId)) : Prop where
 hp : HP U W b ns ss
 grow : ∀ k, U k → T k ∨ w.heap.size ≤ k
 chg : Chg T w W
 keep : ∀ g cs t, (g, cs, t) ∈ K → W.heap[g]? = some (.cells cs t (0, 0)) ∧ ¬ U g
theorem Sn.start {T : Nat → Prop} {w : World} {b : Nat} {ns : List Int} {ss : List ByteArray} (h : HP T w b ns ss) : Sn T w T w b ns ss [] :=
 ⟨h, fun k hk => .inl hk, Chg.refl _ _, fun _ _ _ hm => nomatch hm⟩
theorem Sn.new {T U : Nat → Prop} {w W W' : World} {b : Nat} {ns : List Int} {ss : List ByteArray} {K : List (Nat × Array Value × TypeId)} (h : Sn T w U W b ns ss K) (hb : Below W.heap.size W W') : Sn T w U W' b ns ss K :=
 ⟨h.hp.new hb, h.grow, h.chg.then_ (Chg.of_new hb (fun _ => False)) (fun k _ hf => hf.elim), fun g cs t hm => ⟨blk_below (h.keep g cs t hm).1 hb, (h.keep g cs t hm).2⟩⟩
theorem Sn.add {T U : Nat → Prop} {w W W' : World} {b : Nat} {ns : List Int} {ss : List ByteArray} {K : List (Nat × Array Value × TypeId)} (h : Sn T w U W b ns ss K) (hb : Below W.heap.size W W') {g : Nat} {cs : Array Value} {t : TypeId} (hg : W'.heap[g]? = some (.cells cs t (0, 0))) (hs : W.heap.size ≤ g) : Sn T w U W' b ns ss ((g, cs, t) :: K) :=
 ⟨(h.new hb).hp, h.grow, (h.new hb).chg, fun g' cs' t' hm => by
  rcases List.mem_cons.1 hm with e | e
  ·
   injection e with e1 e2; injection e2 with e2 e3; subst e1 e2 e3
   exact ⟨hg, fun hu => by have := h.hp.lt _ hu; omega⟩
  ·
   exact (h.new hb).keep g' cs' t' e⟩
theorem Sn.step {T U : Nat → Prop} {w W W' : World} {b : Nat} {ns ns' : List Int} {ss ss' : List ByteArray} {K : List (Nat × Array Value × TypeId)} {e : Ending} (h : Sn T w U W b ns ss K) (hp : PutPost U W b ns' ss' e W') : ∃ U', Sn T w U' W' b ns' ss' K := by
 obtain ⟨_, U', h1, h2, h3⟩ := hp
 refine ⟨U', h2, fun k hk => ?_, h.chg.then_ h3 (fun k hk hu => (h.grow k hu).elim id (fun x => absurd hk (by omega))), fun g cs t hm => ⟨h3.heap (h.keep g cs t hm).1 (h.keep g cs t hm).2, fun hX => ?_⟩⟩
 ·
  rcases h1 k hk with x | x
  ·
   exact h.grow k x
  ·
   exact .inr (Nat.le_trans h.chg.size x)
 ·
  rcases h1 g hX with x | x
  ·
   exact (h.keep g cs t hm).2 x
  ·
   exact absurd (blk_lt (h.keep g cs t hm).1) (by omega)
theorem enters_nothing (args : Array Value) (w : World) : (callFunc 57 args).run Try.prog w = .ok (.enter 57 args) w := enters_of Try.func57 (by kernel_rfl) rfl args w
theorem Sn.nothing {T U : Nat → Prop} {w W : World} {b : Nat} {ns : List Int} {ss : List ByteArray} {K : List (Nat × Array Value × TypeId)} (h : Sn T w U W b ns ss K) :
  ∃ (T' : Nat → Prop) (wf : Nat) (caps : Array Value), Ending.returned (.func (.func 57) #[] #[]) = .returned (.func (.func wf) #[] caps) ∧ (∀ k, T' k → T k ∨ w.heap.size ≤ k) ∧ HP T' W b ns ss ∧ Chg T w W ∧
   (∀ args w, (callFunc wf args).run Try.prog w = .ok (.enter wf args) w) ∧ Calls Try.prog wf caps W fun e2 w2 => (∃ v, e2 = .returned v) ∧ ∃ U : Nat → Prop, Chg U W w2 ∧ ∀ k, U k → w.heap.size ≤ k ∧ ¬ T' k :=
 ⟨U, 57, #[], rfl, h.grow, h.hp, h.chg, enters_nothing, (nothing_calls W).mono fun e w' ⟨hv, hw⟩ => ⟨hv, fun _ => False, hw ▸ Chg.refl _ _, fun k hk => hk.elim⟩⟩
end Go.Proofs.YtgoidclnccjdeaaK
end
section
/- Package glass: TopAnewGlass: lists that are put. -/
namespace Go.Proofs.Ytgoidclnccjdeaa.D
open Go Go.RowKit Go.Proofs.YtgoidclnccjdeaaK Go.Proofs.YtgoidclnccjdeaaW.PrintWords Go.Proofs.YtgoidclnccjdeaaW.PrintLast Go.Proofs.YtgoidclnccjdeaaW.PrintMore Go.Proofs.Ytgoidclnccjdeaa.PR
set_option linter.unusedVariables false
set_option linter.unusedSimpArgs false

theorem flatN {α : Type} (f : α → List Int) (m : Nat) (hf : ∀ x, (f x).length = m) : ∀ l : List α, (l.flatMap f).length = m * l.length
 | [] => rfl
 | x :: l => by rw [List.flatMap_cons, List.length_append, hf, flatN f m hf l, List.length_cons, Nat.mul_add, Nat.mul_one, Nat.add_comm]
def nGl (x : Gl) : List Int := [x.f1.f0, x.f1.f1]
def nSp (x : Sp) : List Int := [x.f0, x.f1]
def nDr (x : Dr) : List Int := [x.f0, x.f1, x.f2]
set_option maxHeartbeats 1000000 in
theorem putGlGlass_calls {T : Nat → Prop} {w : World} {b : Nat} {ns : List Int} {ss : List ByteArray} (h : HP T w b ns ss) (hl : ns.length ≤ 90000000) (hs : ss.length ≤ 90000000) (x : Gl) :
  Calls Try.prog 144 #[.pointer (some ⟨b, 0, none⟩), .agg #[.string x.f0, .int .i64 x.f1.f0, .int .i64 x.f1.f1]] w (PutPost T w b (ns ++ nGl x) (ss ++ [x.f0])) := by
 have HST := Aside0.mk (St.start h #[.string x.f0, .int .i64 x.f1.f0, .int .i64 x.f1.f1] 95)
 obtain ⟨X, hX⟩ : ∃ X, w.heap.size = X := ⟨_, rfl⟩
 rw [hX] at HST
 clear h
 go_enter Try.func144, Try.ntmps144
 go_upto_region 1 with (fail)
 generalize w.alloc (.cells #[.string x.f0, .int .i64 x.f1.f0, .int .i64 x.f1.f1] 95) = w1 at HST ⊢
 have c0 := (blk_cell HST.out.box 0).trans rfl
 have c1 := (blk_cell HST.out.box 1).trans rfl
 have c2 := (blk_cell HST.out.box 2).trans rfl
 go_wp2_with fail
 refine (putText_calls HST.out.hp (by omega) _).mono ?_
 intro e w2 hp
 obtain ⟨U0, hs1⟩ := HST.out.step hp
 obtain ⟨⟨v0, rfl⟩, _⟩ := hp
 clear HST c0 c1 c2
 have HST := Aside0.mk hs1
 clear hs1
 have c0 := (blk_cell HST.out.box 0).trans rfl
 have c1 := (blk_cell HST.out.box 1).trans rfl
 have c2 := (blk_cell HST.out.box 2).trans rfl
 go_wp2_with fail
 refine (putSpan_calls HST.out.hp (by omega) _ _).mono ?_
 intro e w3 hp
 obtain ⟨U1, hs1⟩ := HST.out.step hp
 obtain ⟨⟨v1, rfl⟩, _⟩ := hp
 clear HST c0 c1 c2
 have HST := Aside0.mk hs1
 clear hs1
 go_wp2
 go_end0
 have := HST.out.done (e := .returned (.tuple #[])) ⟨_, rfl⟩
 try simp only [List.append_assoc, List.cons_append, List.nil_append] at this
 exact this
set_option maxHeartbeats 1000000 in
theorem putGlDrawing_calls {T : Nat → Prop} {w : World} {b : Nat} {ns : List Int} {ss : List ByteArray} (h : HP T w b ns ss) (hl : ns.length ≤ 90000000) (hs : ss.length ≤ 90000000) (x : Dr) :
  Calls Try.prog 147 #[.pointer (some ⟨b, 0, none⟩), .agg #[.int .i64 x.f0, .int .i64 x.f1, .int .i64 x.f2]] w (PutPost T w b (ns ++ nDr x) (ss)) := by
 have HST := Aside0.mk (St.start h #[.int .i64 x.f0, .int .i64 x.f1, .int .i64 x.f2] 72)
 obtain ⟨X, hX⟩ : ∃ X, w.heap.size = X := ⟨_, rfl⟩
 rw [hX] at HST
 clear h
 go_enter Try.func147, Try.ntmps147
 go_upto_region 1 with (fail)
 generalize w.alloc (.cells #[.int .i64 x.f0, .int .i64 x.f1, .int .i64 x.f2] 72) = w1 at HST ⊢
 have c0 := (blk_cell HST.out.box 0).trans rfl
 have c1 := (blk_cell HST.out.box 1).trans rfl
 have c2 := (blk_cell HST.out.box 2).trans rfl
 go_wp2_with fail
 refine (putInt_calls HST.out.hp (by omega) _).mono ?_
 intro e w2 hp
 obtain ⟨U0, hs1⟩ := HST.out.step hp
 obtain ⟨⟨v0, rfl⟩, _⟩ := hp
 clear HST c0 c1 c2
 have HST := Aside0.mk hs1
 clear hs1
 have c0 := (blk_cell HST.out.box 0).trans rfl
 have c1 := (blk_cell HST.out.box 1).trans rfl
 have c2 := (blk_cell HST.out.box 2).trans rfl
 go_wp2_with fail
 refine (putInt_calls HST.out.hp (by first | omega | (simp only [List.length_append, List.length_cons, List.length_nil]; omega)) _).mono ?_
 intro e w3 hp
 obtain ⟨U1, hs1⟩ := HST.out.step hp
 obtain ⟨⟨v1, rfl⟩, _⟩ := hp
 clear HST c0 c1 c2
 have HST := Aside0.mk hs1
 clear hs1
 have c0 := (blk_cell HST.out.box 0).trans rfl
 have c1 := (blk_cell HST.out.box 1).trans rfl
 have c2 := (blk_cell HST.out.box 2).trans rfl
 go_wp2_with fail
 refine (putInt_calls HST.out.hp (by first | omega | (simp only [List.length_append, List.length_cons, List.length_nil]; omega)) _).mono ?_
 intro e w4 hp
 obtain ⟨U2, hs1⟩ := HST.out.step hp
 obtain ⟨⟨v2, rfl⟩, _⟩ := hp
 clear HST c0 c1 c2
 have HST := Aside0.mk hs1
 clear hs1
 go_wp2
 go_end0
 have := HST.out.done (e := .returned (.tuple #[])) ⟨_, rfl⟩
 try simp only [List.append_assoc, List.cons_append, List.nil_append] at this
 exact this
set_option maxRecDepth 100000 in
set_option maxHeartbeats 2000000 in
theorem putsGlGlass_calls {T : Nat → Prop} {w : World} {b : Nat} {ns : List Int} {ss : List ByteArray} (h : HP T w b ns ss) (l : List Gl) (hl : ns.length + 2 * l.length ≤ 80000000) (hs : ss.length + l.length ≤ 80000000) (A : Option Addr) (c : Nat) (hF : ∀ w', Chg T w w' → Kd.C k95 w' A l.length l) :
  Calls Try.prog 143 #[.pointer (some ⟨b, 0, none⟩), .slice A l.length c, .func (.func 144) #[] #[]] w (PutPost T w b (ns ++ ((l.length : Int) :: (l).flatMap nGl)) (ss ++ (l).map S95.f0)) := by
 obtain ⟨v, u, h1, h2, h3, h4, h5⟩ := h.ex
 obtain ⟨i, hi, hz, hsz, hby⟩ := jint
 have HI := Aside0.mk hi
 have H1 := Aside0.mk h1
 have H2 := Aside0.mk h2
 have H3 := Aside0.mk h3
 have H4 := Aside0.mk h4
 have H5 := Aside0.mk h5
 have HSB := Aside0.mk h.sb
 have HLT := Aside0.mk h.lt
 have HF := Aside0.mk hF
 have HLN := Aside0.mk hl
 have HLS := Aside0.mk hs
 clear h hi h1 h2 h3 h4 h5 hF hs
 have c0 : w.cell? ⟨b, 0, none⟩ = some v := (blk_cell H1.out 0).trans rfl
 have hlt := blk_lt H1.out
 go_enter Try.func143, Try.ntmps143
 go_wp2_with (at_builtin; go_loud (refine wpList_append_own_at _ rfl (.tmp 11) (.tmp 14) 39 rfl 0 3 i (.int .i64 0) 1 8 Try.underlying39 HI.out hz hsz hby rfl (by decide) v _ _ rfl (pw_own_below H2.out (below_alloc (Below.refl _ _) _)) ⟨w.heap.size, 0, none⟩ 1 1 [.int .i64 l.length] rfl rfl (World.news_of_block (blk_new w (.cells #[.int .i64 (l.length : Int)] 3))) (by simp [Value.oneCell']) (by simp only [maxLen]; omega) (by omega) (Nat.zero_le _) ?_); intro v' w' ho hg _ hb'; obtain ⟨A', c', rfl⟩ := jown_slice ho; have n1 := blk_grown (blk_alloc H1.out (.cells #[.int .i64 (l.length : Int)] 3)) hg (fun e => jrow_ne H2.out H1.out (by decide) e.symm); have n4 := (blk_cell n1 0).trans rfl; have n5 := blk_frozen n1 0; have n6 := blk_lt n1; have N1 := Aside0.mk n1; have N2 := Aside0.mk ho; have N3 := Aside0.mk hg; have N4 := Aside0.mk hb'; clear n1 ho hg hb')
 obtain ⟨U, hg1, hg2, hg3⟩ := put_done H1.out H2.out H3.out H4.out H5.out HSB.out N1.out N2.out N3.out N4.out
 have HU : Aside0 (∃ U : Nat → Prop, (∀ q, U q → T q ∨ w.heap.size ≤ q) ∧ HP U (w'.setCell ⟨b, 0, none⟩ (.slice A' (ns.length + 1) c')) b (ns ++ ((l.length : Int) :: (l.take 0).flatMap nGl)) (ss ++ (l.take 0).map S95.f0) ∧ Chg T w (w'.setCell ⟨b, 0, none⟩ (.slice A' (ns.length + 1) c'))) := ⟨U, hg1, by simpa using hg2, hg3⟩
 clear hg1 hg2 hg3 n4 n5 n6 N1 N2 N3 N4 H1 H2 H3 H4 H5 c0
 generalize w'.setCell ⟨b, 0, none⟩ (.slice A' (ns.length + 1) c') = w2 at HU ⊢
 go_loopw [6] (fun j wr => ∃ k : Nat, k ≤ l.length ∧ j = .int .i64 k ∧ Aside0 (∃ U : Nat → Prop, (∀ q, U q → T q ∨ w.heap.size ≤ q) ∧ HP U wr b (ns ++ ((l.length : Int) :: (l.take k).flatMap nGl)) (ss ++ (l.take k).map S95.f0) ∧ Chg T w wr)) (fun j _ => l.length - (intOf j).toNat)
 case atStart => exact ⟨0, Nat.zero_le _, rfl, HU⟩
 case round =>
  clear HU
  obtain ⟨k, hk, rfl, HU⟩ := hrel
  by_cases hlt : k < l.length
  ·
   obtain ⟨U, hg1, hg2, hg3⟩ := HU.out
   obtain ⟨ad, e, hx0, hx1, hx2⟩ := at_T95 (HF.out wr hg3) (k : Int) (by omega) (by omega)
   cases e
   rw [Int.toNat_natCast] at hx0 hx1 hx2
   obtain ⟨y, hy⟩ : ∃ y, rd_T95 l (k : Int) = y := ⟨_, rfl⟩
   rw [hy] at hx0 hx1 hx2
   have HY := Aside0.mk hy
   clear hy
   have HP0 := Aside0.mk hg2
   have HG := Aside0.mk hg1
   have HCh := Aside0.mk hg3
   clear hg1 hg2 hg3 HU
   go_wp2_with fail
   have hfl := flatN nGl 2 (fun _ => rfl) (l.take k)
   have hln := HLN.out
   have hls := HLS.out
   refine (putGlGlass_calls HP0.out (by simp only [List.length_append, List.length_cons, hfl, List.length_take]; omega) (by first | omega | (simp only [List.length_append, List.length_map, List.length_take]; omega)) y).mono ?_
   rintro e w3 ⟨⟨v2, rfl⟩, U', g1, g2, g3⟩
   have g4 : ∀ q, U' q → T q ∨ w.heap.size ≤ q := fun q hq => (g1 q hq).elim (HG.out q) (fun x => .inr (Nat.le_trans HCh.out.size x))
   have g5 := HCh.out.then_ g3 (fun q hq hu => (HG.out q hu).elim id (fun x => absurd hq (by omega)))
   have g6 : (ns ++ ((l.length : Int) :: (l.take k).flatMap nGl)) ++ nGl y = ns ++ ((l.length : Int) :: (l.take (k + 1)).flatMap nGl) := by
    rw [List.append_assoc, List.cons_append, List.take_succ_eq_append_getElem hlt, List.flatMap_append, ← HY.out, gl_at _ _ hlt]
    simp
   replace g2 : HP U' w3 b (ns ++ ((l.length : Int) :: (l.take (k + 1)).flatMap nGl)) (ss ++ (l.take (k + 1)).map S95.f0) := by
    rw [← g6]
    first | exact g2 | (rw [List.take_succ_eq_append_getElem hlt, List.map_append, ← gl_at _ _ hlt, HY.out, ← List.append_assoc]; exact g2)
   have HU : Aside0 (∃ U : Nat → Prop, (∀ q, U q → T q ∨ w.heap.size ≤ q) ∧ HP U w3 b (ns ++ ((l.length : Int) :: (l.take (k + 1)).flatMap nGl)) (ss ++ (l.take (k + 1)).map S95.f0) ∧ Chg T w w3) := ⟨U', g4, g2, g5⟩
   clear g1 g2 g3 g4 g5 g6 hx0 hx1 hx2 hfl hln hls
   go_wp2_with fail
   go_roundw
   case rel => exact ⟨k + 1, by omega, by go_num, HU⟩
   case measure => simp [intOf]; omega
  ·
   obtain rfl : k = l.length := by omega
   go_wp2
   go_end0
   obtain ⟨U, hg1, hg2, hg3⟩ := HU.out
   rw [List.take_length] at hg2
   exact ⟨⟨_, rfl⟩, U, hg1, hg2, hg3⟩
theorem putGlGlasss_calls {T : Nat → Prop} {w : World} {b : Nat} {ns : List Int} {ss : List ByteArray} (h : HP T w b ns ss) (l : List Gl) (hl : ns.length + 2 * l.length ≤ 80000000) (hs : ss.length + l.length ≤ 80000000) (A : Option Addr) (c : Nat) (hF : ∀ w', Chg T w w' → Kd.C k95 w' A l.length l) :
  Calls Try.prog 136 #[.pointer (some ⟨b, 0, none⟩), .slice A l.length c] w (PutPost T w b (ns ++ ((l.length : Int) :: (l).flatMap nGl)) (ss ++ (l).map S95.f0)) := by
 have HC := Aside0.mk (putsGlGlass_calls h l hl hs A c hF)
 clear h hF
 go_enter Try.func136, Try.ntmps136
 go_wp2_with fail
 refine HC.out.mono ?_
 rintro e w2 ⟨⟨v, rfl⟩, h2⟩
 go_wp2
 go_end0
 exact ⟨⟨_, rfl⟩, h2⟩
set_option maxRecDepth 100000 in
set_option maxHeartbeats 2000000 in
theorem putsSpan_calls {T : Nat → Prop} {w : World} {b : Nat} {ns : List Int} {ss : List ByteArray} (h : HP T w b ns ss) (l : List Sp) (hl : ns.length + 2 * l.length ≤ 80000000) (hs : ss.length + l.length ≤ 80000000) (A : Option Addr) (c : Nat) (hF : ∀ w', Chg T w w' → Kd.C k24 w' A l.length l) :
  Calls Try.prog 145 #[.pointer (some ⟨b, 0, none⟩), .slice A l.length c, .func (.func 59) #[] #[]] w (PutPost T w b (ns ++ ((l.length : Int) :: (l).flatMap nSp)) (ss)) := by
 obtain ⟨v, u, h1, h2, h3, h4, h5⟩ := h.ex
 obtain ⟨i, hi, hz, hsz, hby⟩ := jint
 have HI := Aside0.mk hi
 have H1 := Aside0.mk h1
 have H2 := Aside0.mk h2
 have H3 := Aside0.mk h3
 have H4 := Aside0.mk h4
 have H5 := Aside0.mk h5
 have HSB := Aside0.mk h.sb
 have HLT := Aside0.mk h.lt
 have HF := Aside0.mk hF
 have HLN := Aside0.mk hl
 have HLS := Aside0.mk hs
 clear h hi h1 h2 h3 h4 h5 hF hs
 have c0 : w.cell? ⟨b, 0, none⟩ = some v := (blk_cell H1.out 0).trans rfl
 have hlt := blk_lt H1.out
 go_enter Try.func145, Try.ntmps145
 go_wp2_with (at_builtin; go_loud (refine wpList_append_own_at _ rfl (.tmp 11) (.tmp 14) 39 rfl 0 3 i (.int .i64 0) 1 8 Try.underlying39 HI.out hz hsz hby rfl (by decide) v _ _ rfl (pw_own_below H2.out (below_alloc (Below.refl _ _) _)) ⟨w.heap.size, 0, none⟩ 1 1 [.int .i64 l.length] rfl rfl (World.news_of_block (blk_new w (.cells #[.int .i64 (l.length : Int)] 3))) (by simp [Value.oneCell']) (by simp only [maxLen]; omega) (by omega) (Nat.zero_le _) ?_); intro v' w' ho hg _ hb'; obtain ⟨A', c', rfl⟩ := jown_slice ho; have n1 := blk_grown (blk_alloc H1.out (.cells #[.int .i64 (l.length : Int)] 3)) hg (fun e => jrow_ne H2.out H1.out (by decide) e.symm); have n4 := (blk_cell n1 0).trans rfl; have n5 := blk_frozen n1 0; have n6 := blk_lt n1; have N1 := Aside0.mk n1; have N2 := Aside0.mk ho; have N3 := Aside0.mk hg; have N4 := Aside0.mk hb'; clear n1 ho hg hb')
 obtain ⟨U, hg1, hg2, hg3⟩ := put_done H1.out H2.out H3.out H4.out H5.out HSB.out N1.out N2.out N3.out N4.out
 have HU : Aside0 (∃ U : Nat → Prop, (∀ q, U q → T q ∨ w.heap.size ≤ q) ∧ HP U (w'.setCell ⟨b, 0, none⟩ (.slice A' (ns.length + 1) c')) b (ns ++ ((l.length : Int) :: (l.take 0).flatMap nSp)) (ss) ∧ Chg T w (w'.setCell ⟨b, 0, none⟩ (.slice A' (ns.length + 1) c'))) := ⟨U, hg1, by simpa using hg2, hg3⟩
 clear hg1 hg2 hg3 n4 n5 n6 N1 N2 N3 N4 H1 H2 H3 H4 H5 c0
 generalize w'.setCell ⟨b, 0, none⟩ (.slice A' (ns.length + 1) c') = w2 at HU ⊢
 go_loopw [6] (fun j wr => ∃ k : Nat, k ≤ l.length ∧ j = .int .i64 k ∧ Aside0 (∃ U : Nat → Prop, (∀ q, U q → T q ∨ w.heap.size ≤ q) ∧ HP U wr b (ns ++ ((l.length : Int) :: (l.take k).flatMap nSp)) (ss) ∧ Chg T w wr)) (fun j _ => l.length - (intOf j).toNat)
 case atStart => exact ⟨0, Nat.zero_le _, rfl, HU⟩
 case round =>
  clear HU
  obtain ⟨k, hk, rfl, HU⟩ := hrel
  by_cases hlt : k < l.length
  ·
   obtain ⟨U, hg1, hg2, hg3⟩ := HU.out
   obtain ⟨ad, e, hx0, hx1⟩ := at_T24 (HF.out wr hg3) (k : Int) (by omega) (by omega)
   cases e
   rw [Int.toNat_natCast] at hx0 hx1
   obtain ⟨y, hy⟩ : ∃ y, rd_T24 l (k : Int) = y := ⟨_, rfl⟩
   rw [hy] at hx0 hx1
   have HY := Aside0.mk hy
   clear hy
   have HP0 := Aside0.mk hg2
   have HG := Aside0.mk hg1
   have HCh := Aside0.mk hg3
   clear hg1 hg2 hg3 HU
   go_wp2_with fail
   have hfl := flatN nSp 2 (fun _ => rfl) (l.take k)
   have hln := HLN.out
   have hls := HLS.out
   refine (putSpan_calls HP0.out (by simp only [List.length_append, List.length_cons, hfl, List.length_take]; omega) y.f0 y.f1).mono ?_
   rintro e w3 ⟨⟨v2, rfl⟩, U', g1, g2, g3⟩
   have g4 : ∀ q, U' q → T q ∨ w.heap.size ≤ q := fun q hq => (g1 q hq).elim (HG.out q) (fun x => .inr (Nat.le_trans HCh.out.size x))
   have g5 := HCh.out.then_ g3 (fun q hq hu => (HG.out q hu).elim id (fun x => absurd hq (by omega)))
   have g6 : (ns ++ ((l.length : Int) :: (l.take k).flatMap nSp)) ++ nSp y = ns ++ ((l.length : Int) :: (l.take (k + 1)).flatMap nSp) := by
    rw [List.append_assoc, List.cons_append, List.take_succ_eq_append_getElem hlt, List.flatMap_append, ← HY.out, sp_at _ _ hlt]
    simp
   replace g2 : HP U' w3 b (ns ++ ((l.length : Int) :: (l.take (k + 1)).flatMap nSp)) (ss) := by
    rw [← g6]
    first | exact g2 | (rw [List.take_succ_eq_append_getElem hlt, List.map_append, ← sp_at _ _ hlt, HY.out, ← List.append_assoc]; exact g2)
   have HU : Aside0 (∃ U : Nat → Prop, (∀ q, U q → T q ∨ w.heap.size ≤ q) ∧ HP U w3 b (ns ++ ((l.length : Int) :: (l.take (k + 1)).flatMap nSp)) (ss) ∧ Chg T w w3) := ⟨U', g4, g2, g5⟩
   clear g1 g2 g3 g4 g5 g6 hx0 hx1 hfl hln hls
   go_wp2_with fail
   go_roundw
   case rel => exact ⟨k + 1, by omega, by go_num, HU⟩
   case measure => simp [intOf]; omega
  ·
   obtain rfl : k = l.length := by omega
   go_wp2
   go_end0
   obtain ⟨U, hg1, hg2, hg3⟩ := HU.out
   rw [List.take_length] at hg2
   exact ⟨⟨_, rfl⟩, U, hg1, hg2, hg3⟩
theorem putSpans_calls {T : Nat → Prop} {w : World} {b : Nat} {ns : List Int} {ss : List ByteArray} (h : HP T w b ns ss) (l : List Sp) (hl : ns.length + 2 * l.length ≤ 80000000) (hs : ss.length + l.length ≤ 80000000) (A : Option Addr) (c : Nat) (hF : ∀ w', Chg T w w' → Kd.C k24 w' A l.length l) :
  Calls Try.prog 137 #[.pointer (some ⟨b, 0, none⟩), .slice A l.length c] w (PutPost T w b (ns ++ ((l.length : Int) :: (l).flatMap nSp)) (ss)) := by
 have HC := Aside0.mk (putsSpan_calls h l hl hs A c hF)
 clear h hF
 go_enter Try.func137, Try.ntmps137
 go_wp2_with fail
 refine HC.out.mono ?_
 rintro e w2 ⟨⟨v, rfl⟩, h2⟩
 go_wp2
 go_end0
 exact ⟨⟨_, rfl⟩, h2⟩
set_option maxRecDepth 100000 in
set_option maxHeartbeats 2000000 in
theorem putsGlDrawing_calls {T : Nat → Prop} {w : World} {b : Nat} {ns : List Int} {ss : List ByteArray} (h : HP T w b ns ss) (l : List Dr) (hl : ns.length + 3 * l.length ≤ 80000000) (hs : ss.length + l.length ≤ 80000000) (A : Option Addr) (c : Nat) (hF : ∀ w', Chg T w w' → Kd.C k72 w' A l.length l) :
  Calls Try.prog 146 #[.pointer (some ⟨b, 0, none⟩), .slice A l.length c, .func (.func 147) #[] #[]] w (PutPost T w b (ns ++ ((l.length : Int) :: (l).flatMap nDr)) (ss)) := by
 obtain ⟨v, u, h1, h2, h3, h4, h5⟩ := h.ex
 obtain ⟨i, hi, hz, hsz, hby⟩ := jint
 have HI := Aside0.mk hi
 have H1 := Aside0.mk h1
 have H2 := Aside0.mk h2
 have H3 := Aside0.mk h3
 have H4 := Aside0.mk h4
 have H5 := Aside0.mk h5
 have HSB := Aside0.mk h.sb
 have HLT := Aside0.mk h.lt
 have HF := Aside0.mk hF
 have HLN := Aside0.mk hl
 have HLS := Aside0.mk hs
 clear h hi h1 h2 h3 h4 h5 hF hs
 have c0 : w.cell? ⟨b, 0, none⟩ = some v := (blk_cell H1.out 0).trans rfl
 have hlt := blk_lt H1.out
 go_enter Try.func146, Try.ntmps146
 go_wp2_with (at_builtin; go_loud (refine wpList_append_own_at _ rfl (.tmp 11) (.tmp 14) 39 rfl 0 3 i (.int .i64 0) 1 8 Try.underlying39 HI.out hz hsz hby rfl (by decide) v _ _ rfl (pw_own_below H2.out (below_alloc (Below.refl _ _) _)) ⟨w.heap.size, 0, none⟩ 1 1 [.int .i64 l.length] rfl rfl (World.news_of_block (blk_new w (.cells #[.int .i64 (l.length : Int)] 3))) (by simp [Value.oneCell']) (by simp only [maxLen]; omega) (by omega) (Nat.zero_le _) ?_); intro v' w' ho hg _ hb'; obtain ⟨A', c', rfl⟩ := jown_slice ho; have n1 := blk_grown (blk_alloc H1.out (.cells #[.int .i64 (l.length : Int)] 3)) hg (fun e => jrow_ne H2.out H1.out (by decide) e.symm); have n4 := (blk_cell n1 0).trans rfl; have n5 := blk_frozen n1 0; have n6 := blk_lt n1; have N1 := Aside0.mk n1; have N2 := Aside0.mk ho; have N3 := Aside0.mk hg; have N4 := Aside0.mk hb'; clear n1 ho hg hb')
 obtain ⟨U, hg1, hg2, hg3⟩ := put_done H1.out H2.out H3.out H4.out H5.out HSB.out N1.out N2.out N3.out N4.out
 have HU : Aside0 (∃ U : Nat → Prop, (∀ q, U q → T q ∨ w.heap.size ≤ q) ∧ HP U (w'.setCell ⟨b, 0, none⟩ (.slice A' (ns.length + 1) c')) b (ns ++ ((l.length : Int) :: (l.take 0).flatMap nDr)) (ss) ∧ Chg T w (w'.setCell ⟨b, 0, none⟩ (.slice A' (ns.length + 1) c'))) := ⟨U, hg1, by simpa using hg2, hg3⟩
 clear hg1 hg2 hg3 n4 n5 n6 N1 N2 N3 N4 H1 H2 H3 H4 H5 c0
 generalize w'.setCell ⟨b, 0, none⟩ (.slice A' (ns.length + 1) c') = w2 at HU ⊢
 go_loopw [6] (fun j wr => ∃ k : Nat, k ≤ l.length ∧ j = .int .i64 k ∧ Aside0 (∃ U : Nat → Prop, (∀ q, U q → T q ∨ w.heap.size ≤ q) ∧ HP U wr b (ns ++ ((l.length : Int) :: (l.take k).flatMap nDr)) (ss) ∧ Chg T w wr)) (fun j _ => l.length - (intOf j).toNat)
 case atStart => exact ⟨0, Nat.zero_le _, rfl, HU⟩
 case round =>
  clear HU
  obtain ⟨k, hk, rfl, HU⟩ := hrel
  by_cases hlt : k < l.length
  ·
   obtain ⟨U, hg1, hg2, hg3⟩ := HU.out
   obtain ⟨ad, e, hx0, hx1, hx2⟩ := at_T72 (HF.out wr hg3) (k : Int) (by omega) (by omega)
   cases e
   rw [Int.toNat_natCast] at hx0 hx1 hx2
   obtain ⟨y, hy⟩ : ∃ y, rd_T72 l (k : Int) = y := ⟨_, rfl⟩
   rw [hy] at hx0 hx1 hx2
   have HY := Aside0.mk hy
   clear hy
   have HP0 := Aside0.mk hg2
   have HG := Aside0.mk hg1
   have HCh := Aside0.mk hg3
   clear hg1 hg2 hg3 HU
   go_wp2_with fail
   have hfl := flatN nDr 3 (fun _ => rfl) (l.take k)
   have hln := HLN.out
   have hls := HLS.out
   refine (putGlDrawing_calls HP0.out (by simp only [List.length_append, List.length_cons, hfl, List.length_take]; omega) (by first | omega | (simp only [List.length_append, List.length_map, List.length_take]; omega)) y).mono ?_
   rintro e w3 ⟨⟨v2, rfl⟩, U', g1, g2, g3⟩
   have g4 : ∀ q, U' q → T q ∨ w.heap.size ≤ q := fun q hq => (g1 q hq).elim (HG.out q) (fun x => .inr (Nat.le_trans HCh.out.size x))
   have g5 := HCh.out.then_ g3 (fun q hq hu => (HG.out q hu).elim id (fun x => absurd hq (by omega)))
   have g6 : (ns ++ ((l.length : Int) :: (l.take k).flatMap nDr)) ++ nDr y = ns ++ ((l.length : Int) :: (l.take (k + 1)).flatMap nDr) := by
    rw [List.append_assoc, List.cons_append, List.take_succ_eq_append_getElem hlt, List.flatMap_append, ← HY.out, dr_at _ _ hlt]
    simp
   replace g2 : HP U' w3 b (ns ++ ((l.length : Int) :: (l.take (k + 1)).flatMap nDr)) (ss) := by
    rw [← g6]
    first | exact g2 | (rw [List.take_succ_eq_append_getElem hlt, List.map_append, ← dr_at _ _ hlt, HY.out, ← List.append_assoc]; exact g2)
   have HU : Aside0 (∃ U : Nat → Prop, (∀ q, U q → T q ∨ w.heap.size ≤ q) ∧ HP U w3 b (ns ++ ((l.length : Int) :: (l.take (k + 1)).flatMap nDr)) (ss) ∧ Chg T w w3) := ⟨U', g4, g2, g5⟩
   clear g1 g2 g3 g4 g5 g6 hx0 hx1 hx2 hfl hln hls
   go_wp2_with fail
   go_roundw
   case rel => exact ⟨k + 1, by omega, by go_num, HU⟩
   case measure => simp [intOf]; omega
  ·
   obtain rfl : k = l.length := by omega
   go_wp2
   go_end0
   obtain ⟨U, hg1, hg2, hg3⟩ := HU.out
   rw [List.take_length] at hg2
   exact ⟨⟨_, rfl⟩, U, hg1, hg2, hg3⟩
theorem putGlDrawings_calls {T : Nat → Prop} {w : World} {b : Nat} {ns : List Int} {ss : List ByteArray} (h : HP T w b ns ss) (l : List Dr) (hl : ns.length + 3 * l.length ≤ 80000000) (hs : ss.length + l.length ≤ 80000000) (A : Option Addr) (c : Nat) (hF : ∀ w', Chg T w w' → Kd.C k72 w' A l.length l) :
  Calls Try.prog 138 #[.pointer (some ⟨b, 0, none⟩), .slice A l.length c] w (PutPost T w b (ns ++ ((l.length : Int) :: (l).flatMap nDr)) (ss)) := by
 have HC := Aside0.mk (putsGlDrawing_calls h l hl hs A c hF)
 clear h hF
 go_enter Try.func138, Try.ntmps138
 go_wp2_with fail
 refine HC.out.mono ?_
 rintro e w2 ⟨⟨v, rfl⟩, h2⟩
 go_wp2
 go_end0
 exact ⟨⟨_, rfl⟩, h2⟩
end Go.Proofs.Ytgoidclnccjdeaa.D
end
section
/- Package glass: TopAnewGlass: the shelf and all arguments put. -/
namespace Go.Proofs.Ytgoidclnccjdeaa.D
open Go Go.RowKit Go.Proofs.YtgoidclnccjdeaaK Go.Proofs.YtgoidclnccjdeaaW.PrintWords Go.Proofs.YtgoidclnccjdeaaW.PrintLast Go.Proofs.YtgoidclnccjdeaaW.PrintMore Go.Proofs.Ytgoidclnccjdeaa.PR
set_option linter.unusedVariables false
set_option linter.unusedSimpArgs false

theorem foot_step {α : Type} {d : Kd α} {T U : Nat → Prop} {w W : World} {A : Option Addr} {n : Nat} {xs : List α} (h : ∀ w', Chg T w w' → Kd.C d w' A n xs) (hc : Chg T w W) (hg : ∀ k, U k → T k ∨ w.heap.size ≤ k) : ∀ w', Chg U W w' → Kd.C d w' A n xs :=
 fun w' h2 => h w' (hc.then_ h2 (fun k hk hu => (hg k hu).elim id (fun x => absurd hk (by omega))))
def shelfN (D : Dat) : List Int := ((D.gl.length : Int) :: D.gl.flatMap nGl) ++ (D.lo :: D.hi :: (((D.sp.length : Int) :: D.sp.flatMap nSp) ++ ((D.dr.length : Int) :: D.dr.flatMap nDr)))
theorem shelfN_len (D : Dat) : (shelfN D).length = 2 * D.gl.length + 2 * D.sp.length + 3 * D.dr.length + 5 := by
 unfold shelfN; simp only [List.length_append, List.length_cons, flatN nGl 2 (fun _ => rfl), flatN nSp 2 (fun _ => rfl), flatN nDr 3 (fun _ => rfl)]; omega
set_option maxRecDepth 100000 in
set_option maxHeartbeats 4000000 in
theorem putGlShelf_calls {T : Nat → Prop} {w : World} {b : Nat} {ns : List Int} {ss : List ByteArray} (h : HP T w b ns ss) (D : Dat) (A0 : Option Addr) (c0 : Nat) (A3 : Option Addr) (c3 : Nat) (A4 : Option Addr) (c4 : Nat) (hl : ns.length = 0 ∧ ss.length = 0 ∧ 2 * D.gl.length + 2 * D.sp.length + 3 * D.dr.length ≤ 60000000)
  (hF0 : ∀ w', Chg T w w' → Kd.C k95 w' A0 D.gl.length D.gl) (hF3 : ∀ w', Chg T w w' → Kd.C k24 w' A3 D.sp.length D.sp) (hF4 : ∀ w', Chg T w w' → Kd.C k72 w' A4 D.dr.length D.dr) :
  Calls Try.prog 117 #[.pointer (some ⟨b, 0, none⟩), .agg #[.slice A0 D.gl.length c0, .int .i64 D.lo, .int .i64 D.hi, .slice A3 D.sp.length c3, .slice A4 D.dr.length c4]] w (PutPost T w b (ns ++ shelfN D) (ss ++ D.gl.map S95.f0)) := by
 have HST := Aside0.mk (St.start h #[.slice A0 D.gl.length c0, .int .i64 D.lo, .int .i64 D.hi, .slice A3 D.sp.length c3, .slice A4 D.dr.length c4] 28)
 have HF0 := Aside0.mk hF0
 have HF3 := Aside0.mk hF3
 have HF4 := Aside0.mk hF4
 have HL := Aside0.mk hl
 obtain ⟨X, hX⟩ : ∃ X, w.heap.size = X := ⟨_, rfl⟩
 rw [hX] at HST
 clear h hF0 hF3 hF4 hl
 go_enter Try.func117, Try.ntmps117
 go_upto_region 1 with (fail)
 generalize w.alloc (.cells #[.slice A0 D.gl.length c0, .int .i64 D.lo, .int .i64 D.hi, .slice A3 D.sp.length c3, .slice A4 D.dr.length c4] 28) = w1 at HST ⊢
 have kk0 := (blk_cell HST.out.box 0).trans rfl
 have kk1 := (blk_cell HST.out.box 1).trans rfl
 have kk2 := (blk_cell HST.out.box 2).trans rfl
 have kk3 := (blk_cell HST.out.box 3).trans rfl
 have kk4 := (blk_cell HST.out.box 4).trans rfl
 go_wp2_with fail
 refine (putGlGlasss_calls HST.out.hp D.gl (by have := HL.out; have f1 := flatN nGl 2 (fun _ => rfl) D.gl; have f2 := flatN nSp 2 (fun _ => rfl) D.sp; first | omega | (simp only [List.length_append, List.length_cons, List.length_nil, f1, f2]; omega)) (by have := HL.out; first | omega | (simp only [List.length_append, List.length_map]; omega)) A0 c0 (foot_step HF0.out HST.out.chg HST.out.grow)).mono ?_
 intro e w2 hp
 obtain ⟨U0, hs⟩ := HST.out.step hp
 obtain ⟨⟨v0, rfl⟩, _⟩ := hp
 clear HST kk0 kk1 kk2 kk3 kk4
 have HST := Aside0.mk hs
 clear hs
 have kk0 := (blk_cell HST.out.box 0).trans rfl
 have kk1 := (blk_cell HST.out.box 1).trans rfl
 have kk2 := (blk_cell HST.out.box 2).trans rfl
 have kk3 := (blk_cell HST.out.box 3).trans rfl
 have kk4 := (blk_cell HST.out.box 4).trans rfl
 go_wp2_with fail
 refine (putSpan_calls HST.out.hp (by have := HL.out; have f1 := flatN nGl 2 (fun _ => rfl) D.gl; have f2 := flatN nSp 2 (fun _ => rfl) D.sp; first | omega | (simp only [List.length_append, List.length_cons, List.length_nil, f1, f2]; omega)) _ _).mono ?_
 intro e w3 hp
 obtain ⟨U1, hs⟩ := HST.out.step hp
 obtain ⟨⟨v1, rfl⟩, _⟩ := hp
 clear HST kk0 kk1 kk2 kk3 kk4
 have HST := Aside0.mk hs
 clear hs
 have kk0 := (blk_cell HST.out.box 0).trans rfl
 have kk1 := (blk_cell HST.out.box 1).trans rfl
 have kk2 := (blk_cell HST.out.box 2).trans rfl
 have kk3 := (blk_cell HST.out.box 3).trans rfl
 have kk4 := (blk_cell HST.out.box 4).trans rfl
 go_wp2_with fail
 refine (putSpans_calls HST.out.hp D.sp (by have := HL.out; have f1 := flatN nGl 2 (fun _ => rfl) D.gl; have f2 := flatN nSp 2 (fun _ => rfl) D.sp; first | omega | (simp only [List.length_append, List.length_cons, List.length_nil, f1, f2]; omega)) (by have := HL.out; first | omega | (simp only [List.length_append, List.length_map]; omega)) A3 c3 (foot_step HF3.out HST.out.chg HST.out.grow)).mono ?_
 intro e w4 hp
 obtain ⟨U2, hs⟩ := HST.out.step hp
 obtain ⟨⟨v2, rfl⟩, _⟩ := hp
 clear HST kk0 kk1 kk2 kk3 kk4
 have HST := Aside0.mk hs
 clear hs
 have kk0 := (blk_cell HST.out.box 0).trans rfl
 have kk1 := (blk_cell HST.out.box 1).trans rfl
 have kk2 := (blk_cell HST.out.box 2).trans rfl
 have kk3 := (blk_cell HST.out.box 3).trans rfl
 have kk4 := (blk_cell HST.out.box 4).trans rfl
 go_wp2_with fail
 refine (putGlDrawings_calls HST.out.hp D.dr (by have := HL.out; have f1 := flatN nGl 2 (fun _ => rfl) D.gl; have f2 := flatN nSp 2 (fun _ => rfl) D.sp; first | omega | (simp only [List.length_append, List.length_cons, List.length_nil, f1, f2]; omega)) (by have := HL.out; first | omega | (simp only [List.length_append, List.length_map]; omega)) A4 c4 (foot_step HF4.out HST.out.chg HST.out.grow)).mono ?_
 intro e w5 hp
 obtain ⟨U3, hs⟩ := HST.out.step hp
 obtain ⟨⟨v3, rfl⟩, _⟩ := hp
 clear HST kk0 kk1 kk2 kk3 kk4
 have HST := Aside0.mk hs
 clear hs
 go_wp2
 go_end0
 have h9 := HST.out.done (e := .returned (.tuple #[])) ⟨_, rfl⟩
 try simp only [List.append_assoc, List.cons_append, List.nil_append] at h9
 unfold shelfN
 simp only [List.append_assoc, List.cons_append, List.nil_append]
 exact h9
set_option maxRecDepth 100000 in
set_option maxHeartbeats 4000000 in
theorem all_calls {T : Nat → Prop} {w : World} {b : Nat} (h : HP T w b [] []) (D : Dat) (A0 : Option Addr) (c0 : Nat) (A3 : Option Addr) (c3 : Nat) (A4 : Option Addr) (c4 : Nat) (sp_ gl_ dr_ yr a b' : Int) (hl : 2 * D.gl.length + 2 * D.sp.length + 3 * D.dr.length ≤ 60000000)
  (hF0 : ∀ w', Chg T w w' → Kd.C k95 w' A0 D.gl.length D.gl) (hF3 : ∀ w', Chg T w w' → Kd.C k24 w' A3 D.sp.length D.sp) (hF4 : ∀ w', Chg T w w' → Kd.C k72 w' A4 D.dr.length D.dr) :
  Calls Try.prog 52 #[.agg #[.slice A0 D.gl.length c0, .int .i64 D.lo, .int .i64 D.hi, .slice A3 D.sp.length c3, .slice A4 D.dr.length c4, .int .i64 sp_, .int .i64 gl_, .int .i64 dr_, .int .i64 yr, .int .i64 a, .int .i64 b'], .pointer (some ⟨b, 0, none⟩)] w (PutPost T w b (shelfN D ++ [sp_, gl_, dr_, yr, a, b']) (D.gl.map S95.f0)) := by
 have HST := Aside0.mk (St.start h #[.slice A0 D.gl.length c0, .int .i64 D.lo, .int .i64 D.hi, .slice A3 D.sp.length c3, .slice A4 D.dr.length c4, .int .i64 sp_, .int .i64 gl_, .int .i64 dr_, .int .i64 yr, .int .i64 a, .int .i64 b'] 76)
 have HF0 := Aside0.mk hF0
 have HF3 := Aside0.mk hF3
 have HF4 := Aside0.mk hF4
 have HL := Aside0.mk hl
 obtain ⟨X, hX⟩ : ∃ X, w.heap.size = X := ⟨_, rfl⟩
 rw [hX] at HST
 clear h hF0 hF3 hF4 hl
 go_enter Try.func52, Try.ntmps52
 go_upto_region 1 with (fail)
 generalize w.alloc (.cells #[.slice A0 D.gl.length c0, .int .i64 D.lo, .int .i64 D.hi, .slice A3 D.sp.length c3, .slice A4 D.dr.length c4, .int .i64 sp_, .int .i64 gl_, .int .i64 dr_, .int .i64 yr, .int .i64 a, .int .i64 b'] 76) = w1 at HST ⊢
 have kk0 := (blk_cell HST.out.box 0).trans rfl
 have kk1 := (blk_cell HST.out.box 1).trans rfl
 have kk2 := (blk_cell HST.out.box 2).trans rfl
 have kk3 := (blk_cell HST.out.box 3).trans rfl
 have kk4 := (blk_cell HST.out.box 4).trans rfl
 have kk5 := (blk_cell HST.out.box 5).trans rfl
 have kk6 := (blk_cell HST.out.box 6).trans rfl
 have kk7 := (blk_cell HST.out.box 7).trans rfl
 have kk8 := (blk_cell HST.out.box 8).trans rfl
 have kk9 := (blk_cell HST.out.box 9).trans rfl
 have kk10 := (blk_cell HST.out.box 10).trans rfl
 go_wp2_with fail
 refine (putGlShelf_calls HST.out.hp D A0 c0 A3 c3 A4 c4 ⟨rfl, rfl, HL.out⟩ (foot_step HF0.out HST.out.chg HST.out.grow) (foot_step HF3.out HST.out.chg HST.out.grow) (foot_step HF4.out HST.out.chg HST.out.grow)).mono ?_
 intro e w2 hp
 obtain ⟨U0, hs⟩ := HST.out.step hp
 obtain ⟨⟨v0, rfl⟩, _⟩ := hp
 clear HST kk0 kk1 kk2 kk3 kk4 kk5 kk6 kk7 kk8 kk9 kk10
 have HST := Aside0.mk hs
 clear hs
 have kk0 := (blk_cell HST.out.box 0).trans rfl
 have kk1 := (blk_cell HST.out.box 1).trans rfl
 have kk2 := (blk_cell HST.out.box 2).trans rfl
 have kk3 := (blk_cell HST.out.box 3).trans rfl
 have kk4 := (blk_cell HST.out.box 4).trans rfl
 have kk5 := (blk_cell HST.out.box 5).trans rfl
 have kk6 := (blk_cell HST.out.box 6).trans rfl
 have kk7 := (blk_cell HST.out.box 7).trans rfl
 have kk8 := (blk_cell HST.out.box 8).trans rfl
 have kk9 := (blk_cell HST.out.box 9).trans rfl
 have kk10 := (blk_cell HST.out.box 10).trans rfl
 go_wp2_with fail
 refine (putInt_calls HST.out.hp (by have := HL.out; have f1 := shelfN_len D; first | omega | (simp only [List.length_append, List.length_cons, List.length_nil, f1]; omega)) _).mono ?_
 intro e w3 hp
 obtain ⟨U1, hs⟩ := HST.out.step hp
 obtain ⟨⟨v1, rfl⟩, _⟩ := hp
 clear HST kk0 kk1 kk2 kk3 kk4 kk5 kk6 kk7 kk8 kk9 kk10
 have HST := Aside0.mk hs
 clear hs
 have kk0 := (blk_cell HST.out.box 0).trans rfl
 have kk1 := (blk_cell HST.out.box 1).trans rfl
 have kk2 := (blk_cell HST.out.box 2).trans rfl
 have kk3 := (blk_cell HST.out.box 3).trans rfl
 have kk4 := (blk_cell HST.out.box 4).trans rfl
 have kk5 := (blk_cell HST.out.box 5).trans rfl
 have kk6 := (blk_cell HST.out.box 6).trans rfl
 have kk7 := (blk_cell HST.out.box 7).trans rfl
 have kk8 := (blk_cell HST.out.box 8).trans rfl
 have kk9 := (blk_cell HST.out.box 9).trans rfl
 have kk10 := (blk_cell HST.out.box 10).trans rfl
 go_wp2_with fail
 refine (putInt_calls HST.out.hp (by have := HL.out; have f1 := shelfN_len D; first | omega | (simp only [List.length_append, List.length_cons, List.length_nil, f1]; omega)) _).mono ?_
 intro e w4 hp
 obtain ⟨U2, hs⟩ := HST.out.step hp
 obtain ⟨⟨v2, rfl⟩, _⟩ := hp
 clear HST kk0 kk1 kk2 kk3 kk4 kk5 kk6 kk7 kk8 kk9 kk10
 have HST := Aside0.mk hs
 clear hs
 have kk0 := (blk_cell HST.out.box 0).trans rfl
 have kk1 := (blk_cell HST.out.box 1).trans rfl
 have kk2 := (blk_cell HST.out.box 2).trans rfl
 have kk3 := (blk_cell HST.out.box 3).trans rfl
 have kk4 := (blk_cell HST.out.box 4).trans rfl
 have kk5 := (blk_cell HST.out.box 5).trans rfl
 have kk6 := (blk_cell HST.out.box 6).trans rfl
 have kk7 := (blk_cell HST.out.box 7).trans rfl
 have kk8 := (blk_cell HST.out.box 8).trans rfl
 have kk9 := (blk_cell HST.out.box 9).trans rfl
 have kk10 := (blk_cell HST.out.box 10).trans rfl
 go_wp2_with fail
 refine (putInt_calls HST.out.hp (by have := HL.out; have f1 := shelfN_len D; first | omega | (simp only [List.length_append, List.length_cons, List.length_nil, f1]; omega)) _).mono ?_
 intro e w5 hp
 obtain ⟨U3, hs⟩ := HST.out.step hp
 obtain ⟨⟨v3, rfl⟩, _⟩ := hp
 clear HST kk0 kk1 kk2 kk3 kk4 kk5 kk6 kk7 kk8 kk9 kk10
 have HST := Aside0.mk hs
 clear hs
 have kk0 := (blk_cell HST.out.box 0).trans rfl
 have kk1 := (blk_cell HST.out.box 1).trans rfl
 have kk2 := (blk_cell HST.out.box 2).trans rfl
 have kk3 := (blk_cell HST.out.box 3).trans rfl
 have kk4 := (blk_cell HST.out.box 4).trans rfl
 have kk5 := (blk_cell HST.out.box 5).trans rfl
 have kk6 := (blk_cell HST.out.box 6).trans rfl
 have kk7 := (blk_cell HST.out.box 7).trans rfl
 have kk8 := (blk_cell HST.out.box 8).trans rfl
 have kk9 := (blk_cell HST.out.box 9).trans rfl
 have kk10 := (blk_cell HST.out.box 10).trans rfl
 go_wp2_with fail
 refine (putInt_calls HST.out.hp (by have := HL.out; have f1 := shelfN_len D; first | omega | (simp only [List.length_append, List.length_cons, List.length_nil, f1]; omega)) _).mono ?_
 intro e w6 hp
 obtain ⟨U4, hs⟩ := HST.out.step hp
 obtain ⟨⟨v4, rfl⟩, _⟩ := hp
 clear HST kk0 kk1 kk2 kk3 kk4 kk5 kk6 kk7 kk8 kk9 kk10
 have HST := Aside0.mk hs
 clear hs
 have kk0 := (blk_cell HST.out.box 0).trans rfl
 have kk1 := (blk_cell HST.out.box 1).trans rfl
 have kk2 := (blk_cell HST.out.box 2).trans rfl
 have kk3 := (blk_cell HST.out.box 3).trans rfl
 have kk4 := (blk_cell HST.out.box 4).trans rfl
 have kk5 := (blk_cell HST.out.box 5).trans rfl
 have kk6 := (blk_cell HST.out.box 6).trans rfl
 have kk7 := (blk_cell HST.out.box 7).trans rfl
 have kk8 := (blk_cell HST.out.box 8).trans rfl
 have kk9 := (blk_cell HST.out.box 9).trans rfl
 have kk10 := (blk_cell HST.out.box 10).trans rfl
 go_wp2_with fail
 refine (putInt_calls HST.out.hp (by have := HL.out; have f1 := shelfN_len D; first | omega | (simp only [List.length_append, List.length_cons, List.length_nil, f1]; omega)) _).mono ?_
 intro e w7 hp
 obtain ⟨U5, hs⟩ := HST.out.step hp
 obtain ⟨⟨v5, rfl⟩, _⟩ := hp
 clear HST kk0 kk1 kk2 kk3 kk4 kk5 kk6 kk7 kk8 kk9 kk10
 have HST := Aside0.mk hs
 clear hs
 have kk0 := (blk_cell HST.out.box 0).trans rfl
 have kk1 := (blk_cell HST.out.box 1).trans rfl
 have kk2 := (blk_cell HST.out.box 2).trans rfl
 have kk3 := (blk_cell HST.out.box 3).trans rfl
 have kk4 := (blk_cell HST.out.box 4).trans rfl
 have kk5 := (blk_cell HST.out.box 5).trans rfl
 have kk6 := (blk_cell HST.out.box 6).trans rfl
 have kk7 := (blk_cell HST.out.box 7).trans rfl
 have kk8 := (blk_cell HST.out.box 8).trans rfl
 have kk9 := (blk_cell HST.out.box 9).trans rfl
 have kk10 := (blk_cell HST.out.box 10).trans rfl
 go_wp2_with fail
 refine (putInt_calls HST.out.hp (by have := HL.out; have f1 := shelfN_len D; first | omega | (simp only [List.length_append, List.length_cons, List.length_nil, f1]; omega)) _).mono ?_
 intro e w8 hp
 obtain ⟨U6, hs⟩ := HST.out.step hp
 obtain ⟨⟨v6, rfl⟩, _⟩ := hp
 clear HST kk0 kk1 kk2 kk3 kk4 kk5 kk6 kk7 kk8 kk9 kk10
 have HST := Aside0.mk hs
 clear hs
 go_wp2
 go_end0
 have h9 := HST.out.done (e := .returned (.tuple #[])) ⟨_, rfl⟩
 try simp only [List.append_assoc, List.cons_append, List.nil_append] at h9
 exact h9
end Go.Proofs.Ytgoidclnccjdeaa.D
end
section
/- Package glass: TopAnewGlass: the functions that put what is no list. -/
namespace Go.Proofs.Ytgoidclnccjdeaa.D
open Go Go.RowKit Go.Proofs.YtgoidclnccjdeaaK Go.Proofs.YtgoidclnccjdeaaW.PrintWords Go.Proofs.YtgoidclnccjdeaaW.PrintLast Go.Proofs.YtgoidclnccjdeaaW.PrintMore Go.Proofs.Ytgoidclnccjdeaa.PR
set_option linter.unusedVariables false
set_option linter.unusedSimpArgs false

structure Base (w0 : World) (X : Nat) (D : Dat) (A0 : Option Addr) (c0 : Nat) (A3 : Option Addr) (c3 : Nat) (A4 : Option Addr) (c4 : Nat) (sp_ gl_ dr_ yr a b : Int) : Prop where
 x : w0.heap[X]? = some (.cells #[.slice A0 D.gl.length c0, .int .i64 D.lo, .int .i64 D.hi, .slice A3 D.sp.length c3, .slice A4 D.dr.length c4, .int .i64 sp_, .int .i64 gl_, .int .i64 dr_, .int .i64 yr, .int .i64 a, .int .i64 b] 76 (0, 0))
 arg : Arg w0 D A0 c0 A3 c3 A4 c4
 gl : D.gl.length ≤ 1048576
 sp : D.sp.length ≤ 1048576
 dr : D.dr.length ≤ 1048576
theorem enters_an1 (args : Array Value) (w : World) : (callFunc 54 args).run Try.prog w = .ok (.enter 54 args) w := enters_of Try.func54 (by kernel_rfl) rfl args w
set_option maxRecDepth 100000 in
set_option maxHeartbeats 4000000 in
theorem putsCheck {w0 : World} {X : Nat} {D : Dat} {A0 : Option Addr} {c0 : Nat} {A3 : Option Addr} {c3 : Nat} {A4 : Option Addr} {c4 : Nat} {sp_ gl_ dr_ yr a b : Int} (hB : Base w0 X D A0 c0 A3 c3 A4 c4 sp_ gl_ dr_ yr a b) : Puts w0 54 X [(checkF D).1, (checkF D).2.1, (checkF D).2.2] [] := by
 refine ⟨enters_an1, fun T w b_ h hT hb => ?_, by simp, by simp⟩
 have HA := Aside0.mk (hB.arg.below hb)
 have HX := Aside0.mk (blk_below hB.x hb)
 have HST := Aside0.mk (Sn.start h)
 clear h hT hb hB
 go_enter Try.func54, Try.ntmps54
 have kk0 := (blk_cell HX.out 0).trans rfl
 have kk1 := (blk_cell HX.out 1).trans rfl
 have kk2 := (blk_cell HX.out 2).trans rfl
 have kk3 := (blk_cell HX.out 3).trans rfl
 have kk4 := (blk_cell HX.out 4).trans rfl
 have kk5 := (blk_cell HX.out 5).trans rfl
 have kk6 := (blk_cell HX.out 6).trans rfl
 have kk7 := (blk_cell HX.out 7).trans rfl
 have kk8 := (blk_cell HX.out 8).trans rfl
 have kk9 := (blk_cell HX.out 9).trans rfl
 have kk10 := (blk_cell HX.out 10).trans rfl
 have kkl := blk_lt HX.out
 go_wp2_with fail
 refine (Check_calls D A0 c0 A3 c3 A4 c4 w HA.out).mono ?_
 rintro e w2 ⟨rfl, hb2⟩
 replace HST := Aside0.mk (HST.out.new hb2)
 clear hb2 HA HX kk0 kk1 kk2 kk3 kk4 kk5 kk6 kk7 kk8 kk9 kk10 kkl
 go_wp2_with fail
 refine (putInt_calls HST.out.hp (by simp) _).mono ?_
 intro e wp0 hp
 obtain ⟨U0, hs⟩ := HST.out.step hp
 obtain ⟨⟨v0, rfl⟩, _⟩ := hp
 clear HST
 have HST := Aside0.mk hs
 clear hs
 go_wp2_with fail
 refine (putInt_calls HST.out.hp (by simp) _).mono ?_
 intro e wp1 hp
 obtain ⟨U1, hs⟩ := HST.out.step hp
 obtain ⟨⟨v1, rfl⟩, _⟩ := hp
 clear HST
 have HST := Aside0.mk hs
 clear hs
 go_wp2_with fail
 refine (putErrno_calls HST.out.hp (by simp) _).mono ?_
 intro e wp2 hp
 obtain ⟨U2, hs⟩ := HST.out.step hp
 obtain ⟨⟨v2, rfl⟩, _⟩ := hp
 clear HST
 have HST := Aside0.mk hs
 clear hs
 go_wp2
 go_ret
 exact HST.out.nothing
theorem enters_an2 (args : Array Value) (w : World) : (callFunc 58 args).run Try.prog w = .ok (.enter 58 args) w := enters_of Try.func58 (by kernel_rfl) rfl args w
set_option maxRecDepth 100000 in
set_option maxHeartbeats 4000000 in
theorem putsSize {w0 : World} {X : Nat} {D : Dat} {A0 : Option Addr} {c0 : Nat} {A3 : Option Addr} {c3 : Nat} {A4 : Option Addr} {c4 : Nat} {sp_ gl_ dr_ yr a b : Int} (hB : Base w0 X D A0 c0 A3 c3 A4 c4 sp_ gl_ dr_ yr a b) : Puts w0 58 X [(hullF D [(amongB D.sp.length [sp_], 4)] (4 + sp_.toNat)).1, (hullF D [(amongB D.sp.length [sp_], 4)] (4 + sp_.toNat)).2, enterE D [(amongB D.sp.length [sp_], 4)]] [] := by
 refine ⟨enters_an2, fun T w b_ h hT hb => ?_, by simp, by simp⟩
 have HA := Aside0.mk (hB.arg.below hb)
 have HX := Aside0.mk (blk_below hB.x hb)
 have HST := Aside0.mk (Sn.start h)
 clear h hT hb hB
 go_enter Try.func58, Try.ntmps58
 have kk0 := (blk_cell HX.out 0).trans rfl
 have kk1 := (blk_cell HX.out 1).trans rfl
 have kk2 := (blk_cell HX.out 2).trans rfl
 have kk3 := (blk_cell HX.out 3).trans rfl
 have kk4 := (blk_cell HX.out 4).trans rfl
 have kk5 := (blk_cell HX.out 5).trans rfl
 have kk6 := (blk_cell HX.out 6).trans rfl
 have kk7 := (blk_cell HX.out 7).trans rfl
 have kk8 := (blk_cell HX.out 8).trans rfl
 have kk9 := (blk_cell HX.out 9).trans rfl
 have kk10 := (blk_cell HX.out 10).trans rfl
 have kkl := blk_lt HX.out
 go_wp2_with fail
 refine (Size_calls D A0 c0 A3 c3 A4 c4 sp_ w HA.out).mono ?_
 rintro e w2 ⟨rfl, hb2⟩
 replace HST := Aside0.mk (HST.out.new hb2)
 clear hb2 HA HX kk0 kk1 kk2 kk3 kk4 kk5 kk6 kk7 kk8 kk9 kk10 kkl
 go_upto_region 2 with (fail)
 replace HST := Aside0.mk (HST.out.add (below_alloc (Below.refl _ _) _) (blk_new w2 (.cells #[.int .i64 (hullF D [(amongB D.sp.length [sp_], 4)] (4 + sp_.toNat)).1, .int .i64 (hullF D [(amongB D.sp.length [sp_], 4)] (4 + sp_.toNat)).2] 24)) (Nat.le_refl _))
 obtain ⟨q, hq⟩ : ∃ q, w2.heap.size = q := ⟨_, rfl⟩
 rw [hq] at HST ⊢
 generalize (w2.alloc (.cells #[.int .i64 (hullF D [(amongB D.sp.length [sp_], 4)] (4 + sp_.toNat)).1, .int .i64 (hullF D [(amongB D.sp.length [sp_], 4)] (4 + sp_.toNat)).2] 24)) = w3 at HST ⊢
 clear hq
 have hk0 := (HST.out.keep q _ _ (List.mem_cons_self ..)).1
 have kx0 := (blk_cell hk0 0).trans rfl
 have ky0 := (blk_cell hk0 1).trans rfl
 have kz0 := blk_lt hk0
 clear hk0
 go_wp2_with fail
 refine (putSpan_calls HST.out.hp (by simp) _ _).mono ?_
 intro e wp0 hp
 obtain ⟨U0, hs⟩ := HST.out.step hp
 obtain ⟨⟨v0, rfl⟩, _⟩ := hp
 clear HST
 have HST := Aside0.mk hs
 clear hs kx0 ky0 kz0
 go_wp2_with fail
 refine (putErrno_calls HST.out.hp (by simp) _).mono ?_
 intro e wp1 hp
 obtain ⟨U1, hs⟩ := HST.out.step hp
 obtain ⟨⟨v1, rfl⟩, _⟩ := hp
 clear HST
 have HST := Aside0.mk hs
 clear hs
 go_wp2
 go_ret
 exact HST.out.nothing
theorem enters_an3 (args : Array Value) (w : World) : (callFunc 60 args).run Try.prog w = .ok (.enter 60 args) w := enters_of Try.func60 (by kernel_rfl) rfl args w
set_option maxRecDepth 100000 in
set_option maxHeartbeats 4000000 in
theorem putsLeast {w0 : World} {X : Nat} {D : Dat} {A0 : Option Addr} {c0 : Nat} {A3 : Option Addr} {c3 : Nat} {A4 : Option Addr} {c4 : Nat} {sp_ gl_ dr_ yr a b : Int} (hB : Base w0 X D A0 c0 A3 c3 A4 c4 sp_ gl_ dr_ yr a b) : Puts w0 60 X [(hullF D [(amongB D.gl.length [gl_], 4)] (gl_.toNat)).1, (hullF D [(amongB D.gl.length [gl_], 4)] (gl_.toNat)).2, enterE D [(amongB D.gl.length [gl_], 4)]] [] := by
 refine ⟨enters_an3, fun T w b_ h hT hb => ?_, by simp, by simp⟩
 have HA := Aside0.mk (hB.arg.below hb)
 have HX := Aside0.mk (blk_below hB.x hb)
 have HST := Aside0.mk (Sn.start h)
 clear h hT hb hB
 go_enter Try.func60, Try.ntmps60
 have kk0 := (blk_cell HX.out 0).trans rfl
 have kk1 := (blk_cell HX.out 1).trans rfl
 have kk2 := (blk_cell HX.out 2).trans rfl
 have kk3 := (blk_cell HX.out 3).trans rfl
 have kk4 := (blk_cell HX.out 4).trans rfl
 have kk5 := (blk_cell HX.out 5).trans rfl
 have kk6 := (blk_cell HX.out 6).trans rfl
 have kk7 := (blk_cell HX.out 7).trans rfl
 have kk8 := (blk_cell HX.out 8).trans rfl
 have kk9 := (blk_cell HX.out 9).trans rfl
 have kk10 := (blk_cell HX.out 10).trans rfl
 have kkl := blk_lt HX.out
 go_wp2_with fail
 refine (Least_calls D A0 c0 A3 c3 A4 c4 gl_ w HA.out).mono ?_
 rintro e w2 ⟨rfl, hb2⟩
 replace HST := Aside0.mk (HST.out.new hb2)
 clear hb2 HA HX kk0 kk1 kk2 kk3 kk4 kk5 kk6 kk7 kk8 kk9 kk10 kkl
 go_upto_region 2 with (fail)
 replace HST := Aside0.mk (HST.out.add (below_alloc (Below.refl _ _) _) (blk_new w2 (.cells #[.int .i64 (hullF D [(amongB D.gl.length [gl_], 4)] (gl_.toNat)).1, .int .i64 (hullF D [(amongB D.gl.length [gl_], 4)] (gl_.toNat)).2] 24)) (Nat.le_refl _))
 obtain ⟨q, hq⟩ : ∃ q, w2.heap.size = q := ⟨_, rfl⟩
 rw [hq] at HST ⊢
 generalize (w2.alloc (.cells #[.int .i64 (hullF D [(amongB D.gl.length [gl_], 4)] (gl_.toNat)).1, .int .i64 (hullF D [(amongB D.gl.length [gl_], 4)] (gl_.toNat)).2] 24)) = w3 at HST ⊢
 clear hq
 have hk0 := (HST.out.keep q _ _ (List.mem_cons_self ..)).1
 have kx0 := (blk_cell hk0 0).trans rfl
 have ky0 := (blk_cell hk0 1).trans rfl
 have kz0 := blk_lt hk0
 clear hk0
 go_wp2_with fail
 refine (putSpan_calls HST.out.hp (by simp) _ _).mono ?_
 intro e wp0 hp
 obtain ⟨U0, hs⟩ := HST.out.step hp
 obtain ⟨⟨v0, rfl⟩, _⟩ := hp
 clear HST
 have HST := Aside0.mk hs
 clear hs kx0 ky0 kz0
 go_wp2_with fail
 refine (putErrno_calls HST.out.hp (by simp) _).mono ?_
 intro e wp1 hp
 obtain ⟨U1, hs⟩ := HST.out.step hp
 obtain ⟨⟨v1, rfl⟩, _⟩ := hp
 clear HST
 have HST := Aside0.mk hs
 clear hs
 go_wp2
 go_ret
 exact HST.out.nothing
theorem enters_an4 (args : Array Value) (w : World) : (callFunc 61 args).run Try.prog w = .ok (.enter 61 args) w := enters_of Try.func61 (by kernel_rfl) rfl args w
set_option maxRecDepth 100000 in
set_option maxHeartbeats 4000000 in
theorem putsDull {w0 : World} {X : Nat} {D : Dat} {A0 : Option Addr} {c0 : Nat} {A3 : Option Addr} {c3 : Nat} {A4 : Option Addr} {c4 : Nat} {sp_ gl_ dr_ yr a b : Int} (hB : Base w0 X D A0 c0 A3 c3 A4 c4 sp_ gl_ dr_ yr a b) : Puts w0 61 X [(hullF D [] 3).1, (hullF D [] 3).2, enterE D []] [] := by
 refine ⟨enters_an4, fun T w b_ h hT hb => ?_, by simp, by simp⟩
 have HA := Aside0.mk (hB.arg.below hb)
 have HX := Aside0.mk (blk_below hB.x hb)
 have HST := Aside0.mk (Sn.start h)
 clear h hT hb hB
 go_enter Try.func61, Try.ntmps61
 have kk0 := (blk_cell HX.out 0).trans rfl
 have kk1 := (blk_cell HX.out 1).trans rfl
 have kk2 := (blk_cell HX.out 2).trans rfl
 have kk3 := (blk_cell HX.out 3).trans rfl
 have kk4 := (blk_cell HX.out 4).trans rfl
 have kk5 := (blk_cell HX.out 5).trans rfl
 have kk6 := (blk_cell HX.out 6).trans rfl
 have kk7 := (blk_cell HX.out 7).trans rfl
 have kk8 := (blk_cell HX.out 8).trans rfl
 have kk9 := (blk_cell HX.out 9).trans rfl
 have kk10 := (blk_cell HX.out 10).trans rfl
 have kkl := blk_lt HX.out
 go_wp2_with fail
 refine (Dull_calls D A0 c0 A3 c3 A4 c4 w HA.out).mono ?_
 rintro e w2 ⟨rfl, hb2⟩
 replace HST := Aside0.mk (HST.out.new hb2)
 clear hb2 HA HX kk0 kk1 kk2 kk3 kk4 kk5 kk6 kk7 kk8 kk9 kk10 kkl
 go_upto_region 2 with (fail)
 replace HST := Aside0.mk (HST.out.add (below_alloc (Below.refl _ _) _) (blk_new w2 (.cells #[.int .i64 (hullF D [] 3).1, .int .i64 (hullF D [] 3).2] 24)) (Nat.le_refl _))
 obtain ⟨q, hq⟩ : ∃ q, w2.heap.size = q := ⟨_, rfl⟩
 rw [hq] at HST ⊢
 generalize (w2.alloc (.cells #[.int .i64 (hullF D [] 3).1, .int .i64 (hullF D [] 3).2] 24)) = w3 at HST ⊢
 clear hq
 have hk0 := (HST.out.keep q _ _ (List.mem_cons_self ..)).1
 have kx0 := (blk_cell hk0 0).trans rfl
 have ky0 := (blk_cell hk0 1).trans rfl
 have kz0 := blk_lt hk0
 clear hk0
 go_wp2_with fail
 refine (putSpan_calls HST.out.hp (by simp) _ _).mono ?_
 intro e wp0 hp
 obtain ⟨U0, hs⟩ := HST.out.step hp
 obtain ⟨⟨v0, rfl⟩, _⟩ := hp
 clear HST
 have HST := Aside0.mk hs
 clear hs kx0 ky0 kz0
 go_wp2_with fail
 refine (putErrno_calls HST.out.hp (by simp) _).mono ?_
 intro e wp1 hp
 obtain ⟨U1, hs⟩ := HST.out.step hp
 obtain ⟨⟨v1, rfl⟩, _⟩ := hp
 clear HST
 have HST := Aside0.mk hs
 clear hs
 go_wp2
 go_ret
 exact HST.out.nothing
theorem enters_an7 (args : Array Value) (w : World) : (callFunc 68 args).run Try.prog w = .ok (.enter 68 args) w := enters_of Try.func68 (by kernel_rfl) rfl args w
set_option maxRecDepth 100000 in
set_option maxHeartbeats 4000000 in
theorem putsLarger {w0 : World} {X : Nat} {D : Dat} {A0 : Option Addr} {c0 : Nat} {A3 : Option Addr} {c3 : Nat} {A4 : Option Addr} {c4 : Nat} {sp_ gl_ dr_ yr a b : Int} (hB : Base w0 X D A0 c0 A3 c3 A4 c4 sp_ gl_ dr_ yr a b) : Puts w0 68 X [largerF D a b, enterE D (askTwo D a b)] [] := by
 refine ⟨enters_an7, fun T w b_ h hT hb => ?_, by simp, by simp⟩
 have HA := Aside0.mk (hB.arg.below hb)
 have HX := Aside0.mk (blk_below hB.x hb)
 have HST := Aside0.mk (Sn.start h)
 clear h hT hb hB
 go_enter Try.func68, Try.ntmps68
 have kk0 := (blk_cell HX.out 0).trans rfl
 have kk1 := (blk_cell HX.out 1).trans rfl
 have kk2 := (blk_cell HX.out 2).trans rfl
 have kk3 := (blk_cell HX.out 3).trans rfl
 have kk4 := (blk_cell HX.out 4).trans rfl
 have kk5 := (blk_cell HX.out 5).trans rfl
 have kk6 := (blk_cell HX.out 6).trans rfl
 have kk7 := (blk_cell HX.out 7).trans rfl
 have kk8 := (blk_cell HX.out 8).trans rfl
 have kk9 := (blk_cell HX.out 9).trans rfl
 have kk10 := (blk_cell HX.out 10).trans rfl
 have kkl := blk_lt HX.out
 go_wp2_with fail
 refine (Larger_calls D A0 c0 A3 c3 A4 c4 a b w HA.out).mono ?_
 rintro e w2 ⟨rfl, hb2⟩
 replace HST := Aside0.mk (HST.out.new hb2)
 clear hb2 HA HX kk0 kk1 kk2 kk3 kk4 kk5 kk6 kk7 kk8 kk9 kk10 kkl
 go_wp2_with fail
 refine (putInt_calls HST.out.hp (by simp) _).mono ?_
 intro e wp0 hp
 obtain ⟨U0, hs⟩ := HST.out.step hp
 obtain ⟨⟨v0, rfl⟩, _⟩ := hp
 clear HST
 have HST := Aside0.mk hs
 clear hs
 go_wp2_with fail
 refine (putErrno_calls HST.out.hp (by simp) _).mono ?_
 intro e wp1 hp
 obtain ⟨U1, hs⟩ := HST.out.step hp
 obtain ⟨⟨v1, rfl⟩, _⟩ := hp
 clear HST
 have HST := Aside0.mk hs
 clear hs
 go_wp2
 go_ret
 exact HST.out.nothing
end Go.Proofs.Ytgoidclnccjdeaa.D
end
section
/- Package glass: TopAnewGlass: the functions that put lists, and write over them. -/
namespace Go.Proofs.Ytgoidclnccjdeaa.D
open Go Go.RowKit Go.Proofs.YtgoidclnccjdeaaK Go.Proofs.YtgoidclnccjdeaaW.PrintWords Go.Proofs.YtgoidclnccjdeaaW.PrintLast Go.Proofs.YtgoidclnccjdeaaW.PrintMore Go.Proofs.Ytgoidclnccjdeaa.PR
set_option linter.unusedVariables false
set_option linter.unusedSimpArgs false

def Fresh (w : World) (n0 : Nat) (A : Option Addr) (l : List Int) : Prop :=
 (A = none ∧ l = []) ∨ ∃ g cs t, A = some ⟨g, 0, none⟩ ∧ n0 ≤ g ∧ w.heap[g]? = some (.cells cs t (0, 0)) ∧ l.length ≤ cs.size ∧ ∀ w' : World, w'.heap[g]? = some (.cells cs t (0, 0)) → Kd.C (Kd.int .i64) w' A l.length l
theorem Fresh.of_new {w : World} {n0 : Nat} {v : Value} {l : List Nat} (h : NewRow w n0 v l) : ∃ A c, v = .slice A l.length c ∧ Fresh w n0 A (ints l) := by
 rcases h with ⟨rfl, rfl⟩ | ⟨g, L, n, rfl, h2, h3, h4, h5, h6⟩
 ·
  exact ⟨none, 0, rfl, .inl ⟨rfl, rfl⟩⟩
 ·
  have hle : l.length ≤ L.length := by
   have := congrArg List.length h6
   simp at this; omega
  have el : (ints l).length = l.length := by simp
  refine ⟨_, n, rfl, .inr ⟨g, _, _, rfl, h2, h3, by rw [el]; simpa using hle, fun w' hw => ?_⟩⟩
  have := IB.read (show IB w' 3 g L from hw) l.length hle (by omega)
  rw [h6] at this
  rw [el]; exact this
theorem Fresh.of_row {w : World} {n0 : Nat} {v : Value} {l : List Nat} (h : Row w n0 3 v (ints l)) : ∃ A c, v = .slice A l.length c ∧ Fresh w n0 A (ints l) := by
 have el : (ints l).length = l.length := by simp
 have hh := h
 rcases h.2 with ⟨rfl, h0⟩ | ⟨g, cap, cur, rfl, hb, hgg, hc, hm, hs, ht⟩
 ·
  exact ⟨none, 0, by rw [← el, h0], .inl ⟨rfl, List.eq_nil_of_length_eq_zero h0⟩⟩
 ·
  refine ⟨_, cap, by rw [el], .inr ⟨g, cur, _, rfl, hb, hgg, by rw [hs]; omega, fun w' hw => ?_⟩⟩
  have h' : Row w' n0 3 (.slice (some ⟨g, 0, none⟩) (ints l).length cap) (ints l) := ⟨hh.1, .inr ⟨g, cap, cur, rfl, hb, hw, hc, hm, hs, ht⟩⟩
  exact Row.read h' rfl (by simp only [maxLen] at hm; omega)
def Kept (K : List (Nat × Array Value × TypeId)) (n0 : Nat) (A : Option Addr) (l : List Int) : Prop :=
 (A = none ∧ l = []) ∨ ∃ g cs t, A = some ⟨g, 0, none⟩ ∧ n0 ≤ g ∧ (g, cs, t) ∈ K ∧ l.length ≤ cs.size ∧ ∀ w' : World, w'.heap[g]? = some (.cells cs t (0, 0)) → Kd.C (Kd.int .i64) w' A l.length l
theorem Kept.mono {K K' : List (Nat × Array Value × TypeId)} {n0 : Nat} {A : Option Addr} {l : List Int} (h : Kept K n0 A l) (hk : ∀ x, x ∈ K → x ∈ K') : Kept K' n0 A l := by
 rcases h with h | ⟨g, cs, t, h1, h2, h3, h4⟩
 ·
  exact .inl h
 ·
  exact .inr ⟨g, cs, t, h1, h2, hk _ h3, h4⟩
theorem sn_fresh {T U : Nat → Prop} {w W : World} {b n0 : Nat} {ns : List Int} {ss : List ByteArray} {K : List (Nat × Array Value × TypeId)} (h : Sn T w U W b ns ss K) {A : Option Addr} {l : List Int} (hr : Fresh W n0 A l) (hn : ∀ g, n0 ≤ g → ¬ U g) :
  ∃ K', Sn T w U W b ns ss K' ∧ (∀ x, x ∈ K → x ∈ K') ∧ Kept K' n0 A l := by
 rcases hr with e | ⟨g, cs, t, h1, h2, h3, h4, h5⟩
 ·
  exact ⟨K, h, fun _ x => x, .inl e⟩
 ·
  refine ⟨(g, cs, t) :: K, ⟨h.hp, h.grow, h.chg, fun g' cs' t' hm => ?_⟩, fun x hx => List.mem_cons_of_mem _ hx, .inr ⟨g, cs, t, h1, h2, List.mem_cons_self .., h4, h5⟩⟩
  rcases List.mem_cons.1 hm with e | e
  ·
   injection e with e1 e2; injection e2 with e2 e3; subst e1 e2 e3
   exact ⟨h3, hn _ h2⟩
  ·
   exact h.keep g' cs' t' e
theorem Kept.read {T U : Nat → Prop} {w W : World} {b n0 : Nat} {ns : List Int} {ss : List ByteArray} {K : List (Nat × Array Value × TypeId)} {A : Option Addr} {l : List Int} (hk : Kept K n0 A l) (h : Sn T w U W b ns ss K) : ∀ w', Chg U W w' → Kd.C (Kd.int .i64) w' A l.length l := fun w' hc => by
 rcases hk with ⟨rfl, rfl⟩ | ⟨g, cs, t, h1, h2, h3, h4, h5⟩
 ·
  exact ⟨rfl, by simp, fun h => absurd h (by simp)⟩
 ·
  exact h5 w' (hc.heap (h.keep g cs t h3).1 (h.keep g cs t h3).2)
theorem Kept.wipe {T U : Nat → Prop} {w W : World} {b n0 : Nat} {ns : List Int} {ss : List ByteArray} {K : List (Nat × Array Value × TypeId)} {A : Option Addr} {l : List Int} (hk : Kept K n0 A l) (h : Sn T w U W b ns ss K) {n : Nat} (hn : n = l.length) :
  (A = none ∧ n = 0) ∨ ∃ g cs t, A = some ⟨g, 0, none⟩ ∧ W.heap[g]? = some (.cells cs t (0, 0)) ∧ n ≤ cs.size := by
 subst hn
 rcases hk with ⟨rfl, rfl⟩ | ⟨g, cs, t, h1, h2, h3, h4, h5⟩
 ·
  exact .inl ⟨rfl, rfl⟩
 ·
  exact .inr ⟨g, cs, t, h1, (h.keep g cs t h3).1, h4⟩
theorem Kept.far {T U : Nat → Prop} {w W : World} {b n0 : Nat} {ns : List Int} {ss : List ByteArray} {K : List (Nat × Array Value × TypeId)} {A : Option Addr} {l : List Int} (hk : Kept K n0 A l) (h : Sn T w U W b ns ss K) {k : Nat} (hA : ∃ a, A = some a ∧ a.block = k) : n0 ≤ k ∧ ¬ U k := by
 obtain ⟨a, ha, rfl⟩ := hA
 rcases hk with ⟨rfl, rfl⟩ | ⟨g, cs, t, h1, h2, h3, h4, h5⟩
 ·
  cases ha
 ·
  rw [h1] at ha; injection ha with ha; subst ha
  exact ⟨h2, (h.keep g cs t h3).2⟩
theorem filter_le (n : Nat) (P : Nat → Bool) : ((List.range n).filter P).length ≤ n := Nat.le_trans (List.length_filter_le _ _) (by simp)
theorem used_le (D : Dat) (i : Int) : (usedF D i).length ≤ D.gl.length := by unfold usedF; split; exact filter_le _ _; simp
theorem sees_le (D : Dat) (g y : Int) : (seesF D g y).1.length ≤ D.sp.length ∧ (seesF D g y).2.length ≤ D.sp.length := by unfold seesF; split; exact ⟨filter_le _ _, filter_le _ _⟩; simp
theorem part_le (D : Dat) (a b y : Int) : (partF D a b y).length ≤ D.gl.length := by unfold partF; split; exact filter_le _ _; simp
theorem wrongTo_len (D : Dat) : ∀ k l, wrongTo D k = some l → l.length ≤ D.dr.length
 | 0, l, h => nomatch h
 | k + 1, l, h => by
  rw [wrongTo_succ] at h
  have hf : ((List.range D.dr.length).filter (keepP k)).length ≤ D.dr.length := filter_le _ _
  unfold wrongStep at h
  dsimp only at h
  repeat' split at h
  all_goals first | exact wrongTo_len D k l h | (injection h with h; rw [← h]; exact hf)
theorem wrong_le (D : Dat) : (wrongF D).1.length ≤ D.dr.length := by
 unfold wrongF
 split
 ·
  cases h : wrongTo D (2 ^ D.dr.length) with
  | none => simp
  | some l => exact wrongTo_len D _ l h
 ·
  simp
theorem enters_an5 (args : Array Value) (w : World) : (callFunc 62 args).run Try.prog w = .ok (.enter 62 args) w := enters_of Try.func62 (by kernel_rfl) rfl args w
theorem enters_an5_1 (args : Array Value) (w : World) : (callFunc 64 args).run Try.prog w = .ok (.enter 64 args) w := enters_of Try.func64 (by kernel_rfl) rfl args w
theorem wiperUsed_calls {w : World} {P : Nat} {A : Option Addr} {n c : Nat} (hP : w.cell? ⟨P, 0, none⟩ = some (.slice A n c)) (h : (A = none ∧ n = 0) ∨ ∃ g cs t, A = some ⟨g, 0, none⟩ ∧ w.heap[g]? = some (.cells cs t (0, 0)) ∧ n ≤ cs.size) (hn : n ≤ 80000000) :
  Calls Try.prog 64 #[.pointer (some ⟨P, 0, none⟩)] w fun e w' => (∃ v, e = .returned v) ∧ Chg (fun k => ∃ a, A = some a ∧ a.block = k) w w' := by
 have HW := Aside0.mk (wipeInts_calls hP h hn)
 clear h hP
 go_enter Try.func64, Try.ntmps64
 go_wp2_with fail
 refine HW.out.mono ?_
 rintro e w2 ⟨⟨v, rfl⟩, h2⟩
 go_wp2
 go_end0
 exact ⟨⟨_, rfl⟩, h2⟩
set_option maxRecDepth 100000 in
set_option maxHeartbeats 4000000 in
theorem putsUsed {w0 : World} {X : Nat} {D : Dat} {A0 : Option Addr} {c0 : Nat} {A3 : Option Addr} {c3 : Nat} {A4 : Option Addr} {c4 : Nat} {sp_ gl_ dr_ yr a b : Int} (hB : Base w0 X D A0 c0 A3 c3 A4 c4 sp_ gl_ dr_ yr a b) : Puts w0 62 X (([] ++ ((((usedF D dr_).length : Nat) : Int) :: ints (usedF D dr_))) ++ [enterE D (askUsed D dr_)]) [] := by
 have hle : (usedF D dr_).length ≤ 1048576 := Nat.le_trans (used_le D dr_) hB.gl
 have HWC := fun w h => Used_calls D A0 c0 A3 c3 A4 c4 dr_ w h
 obtain ⟨en, hen⟩ : ∃ r, enterE D (askUsed D dr_) = r := ⟨_, rfl⟩
 rw [hen] at HWC  ⊢
 obtain ⟨la, hla⟩ : ∃ r, usedF D dr_ = r := ⟨_, rfl⟩
 rw [hla] at HWC hle ⊢
 have HLE := Aside0.mk hle
 refine ⟨enters_an5, fun T w b_ h hT hb => ?_, by simp; omega, by simp⟩
 have hal := hB.arg.below hb
 have HX := Aside0.mk (blk_below hB.x hb)
 have HST := Aside0.mk (Sn.start h)
 have HLT := Aside0.mk h.lt
 have HC := Aside0.mk (HWC w hal)
 clear h hT hb hB hal HWC hen hla
 go_enter Try.func62, Try.ntmps62
 have kk0 := (blk_cell HX.out 0).trans rfl
 have kk1 := (blk_cell HX.out 1).trans rfl
 have kk2 := (blk_cell HX.out 2).trans rfl
 have kk3 := (blk_cell HX.out 3).trans rfl
 have kk4 := (blk_cell HX.out 4).trans rfl
 have kk5 := (blk_cell HX.out 5).trans rfl
 have kk6 := (blk_cell HX.out 6).trans rfl
 have kk7 := (blk_cell HX.out 7).trans rfl
 have kk8 := (blk_cell HX.out 8).trans rfl
 have kk9 := (blk_cell HX.out 9).trans rfl
 have kk10 := (blk_cell HX.out 10).trans rfl
 have kkl := blk_lt HX.out
 go_wp2_with fail
 refine HC.out.mono ?_
 rintro e w2 ⟨⟨v, rfl, hrow⟩, hb2⟩
 obtain ⟨A, c, rfl, hf⟩ := Fresh.of_new hrow
 obtain ⟨K, hs2, _, hkp⟩ := sn_fresh (HST.out.new hb2) hf (fun g hg hT => by have := HLT.out g hT; omega)
 have HKP := Aside0.mk hkp
 have HSZ := Aside0.mk hb2.size
 clear HST hrow hf hkp hb2 HX HC kk0 kk1 kk2 kk3 kk4 kk5 kk6 kk7 kk8 kk9 kk10 kkl
 go_upto_region 2 with (fail)
 have hst := hs2.add (below_alloc (Below.refl w2.heap.size w2) (.cells #[.slice A la.length c] 39)) (blk_new w2 (.cells #[.slice A la.length c] 39)) (Nat.le_refl _)
 have HST := Aside0.mk hst
 clear hs2 hst
 obtain ⟨q, hq⟩ : ∃ q, w2.heap.size = q := ⟨_, rfl⟩
 rw [hq] at HST HSZ ⊢
 generalize (w2.alloc (.cells #[.slice A la.length c] 39)) = w3 at HST ⊢
 clear hq
 have hk0 := (HST.out.keep q _ _ (List.mem_cons_self ..)).1
 have kx0 := (blk_cell hk0 0).trans rfl
 have kz0 := blk_lt hk0
 clear hk0
 go_wp2_with fail
 refine (putInts_calls HST.out.hp (ints la) (by have := HLE.out; simp; omega) A la.length c (by simp) ((HKP.out.mono (fun x hx => List.mem_cons_of_mem _ hx)).read HST.out)).mono ?_
 intro e wp0 hp
 obtain ⟨U0, hs⟩ := HST.out.step hp
 obtain ⟨⟨v0, rfl⟩, _⟩ := hp
 clear HST
 have HST := Aside0.mk hs
 clear hs kx0 kz0
 go_wp2_with fail
 refine (putErrno_calls HST.out.hp (by have := HLE.out; simp; omega) _).mono ?_
 intro e wp1 hp
 obtain ⟨U1, hs⟩ := HST.out.step hp
 obtain ⟨⟨v1, rfl⟩, _⟩ := hp
 clear HST
 have HST := Aside0.mk hs
 clear hs
 have hk0 := (HST.out.keep q _ _ (List.mem_cons_self ..)).1
 have kx0 := (blk_cell hk0 0).trans rfl
 have kz0 := blk_lt hk0
 have KX0 := Aside0.mk kx0
 have KB0 := Aside0.mk hk0
 clear hk0
 go_wp2
 go_ret
 have hle := HLE.out
 refine ⟨U1, 64, _, rfl, HST.out.grow, (by simpa using HST.out.hp), HST.out.chg, enters_an5_1, (wiperUsed_calls KX0.out ((HKP.out.mono (fun x hx => List.mem_cons_of_mem _ hx)).wipe HST.out (by simp)) (by omega)).mono fun e w' ⟨hv, hc⟩ => ⟨hv, _, hc, fun k hk => (HKP.out.mono (fun x hx => List.mem_cons_of_mem _ hx)).far HST.out hk⟩⟩
theorem enters_an6 (args : Array Value) (w : World) : (callFunc 66 args).run Try.prog w = .ok (.enter 66 args) w := enters_of Try.func66 (by kernel_rfl) rfl args w
theorem enters_an6_1 (args : Array Value) (w : World) : (callFunc 67 args).run Try.prog w = .ok (.enter 67 args) w := enters_of Try.func67 (by kernel_rfl) rfl args w
theorem wiperSees_calls {w : World} {P Q : Nat} {A B : Option Addr} {n c m d : Nat} (hP : w.cell? ⟨P, 0, none⟩ = some (.slice A n c)) (hQ : w.heap[Q]? = some (.cells #[.slice B m d] 39 (0, 0)))
  (h : (A = none ∧ n = 0) ∨ ∃ g cs t, A = some ⟨g, 0, none⟩ ∧ w.heap[g]? = some (.cells cs t (0, 0)) ∧ n ≤ cs.size) (h' : (B = none ∧ m = 0) ∨ ∃ g cs t, B = some ⟨g, 0, none⟩ ∧ w.heap[g]? = some (.cells cs t (0, 0)) ∧ m ≤ cs.size)
  (hne : ∀ a b, A = some a → B = some b → a.block ≠ b.block) (hnQ : ∀ a, A = some a → a.block ≠ Q) (hn : n ≤ 80000000) (hm : m ≤ 80000000) :
  Calls Try.prog 67 #[.pointer (some ⟨P, 0, none⟩), .pointer (some ⟨Q, 0, none⟩)] w fun e w' => (∃ v, e = .returned v) ∧ Chg (fun k => (∃ a, A = some a ∧ a.block = k) ∨ ∃ a, B = some a ∧ a.block = k) w w' := by
 have HW := Aside0.mk (wipeInts_calls hP h hn)
 have HQ := Aside0.mk hQ
 have HB := Aside0.mk h'
 have HN := Aside0.mk hne
 have HNQ := Aside0.mk hnQ
 clear h hP h' hne hnQ hQ
 go_enter Try.func67, Try.ntmps67
 go_wp2_with fail
 refine HW.out.mono ?_
 rintro e w2 ⟨⟨v, rfl⟩, h2⟩
 have hq2 := h2.heap HQ.out (fun ⟨a, ha, e⟩ => HNQ.out a ha e)
 have HW2 := Aside0.mk (wipeInts_calls (A := B) (n := m) (c := d) (P := Q) (w := w2) ((blk_cell hq2 0).trans rfl) (by
  rcases HB.out with e | ⟨g, cs, t, e1, e2, e3⟩
  ·
   exact .inl e
  ·
   exact .inr ⟨g, cs, t, e1, h2.heap e2 (fun ⟨a, ha, e⟩ => HN.out a _ ha e1 e), e3⟩) hm)
 have H2 := Aside0.mk h2
 clear h2 hq2
 go_wp2_with fail
 refine HW2.out.mono ?_
 rintro e w3 ⟨⟨v3, rfl⟩, h3⟩
 go_wp2
 go_end0
 exact ⟨⟨_, rfl⟩, (H2.out.mono (fun k _ x => .inl x)).trans (h3.mono (fun k _ x => .inr x))⟩
set_option maxRecDepth 100000 in
set_option maxHeartbeats 4000000 in
theorem putsSees {w0 : World} {X : Nat} {D : Dat} {A0 : Option Addr} {c0 : Nat} {A3 : Option Addr} {c3 : Nat} {A4 : Option Addr} {c4 : Nat} {sp_ gl_ dr_ yr a b : Int} (hB : Base w0 X D A0 c0 A3 c3 A4 c4 sp_ gl_ dr_ yr a b) : Puts w0 66 X ((([] ++ (((((seesF D gl_ yr).1).length : Nat) : Int) :: ints ((seesF D gl_ yr).1))) ++ (((((seesF D gl_ yr).2).length : Nat) : Int) :: ints ((seesF D gl_ yr).2))) ++ [enterE D (askSees D gl_ yr)]) [] := by
 have hle : (seesF D gl_ yr).1.length ≤ 1048576 ∧ (seesF D gl_ yr).2.length ≤ 1048576 := ⟨Nat.le_trans (sees_le D gl_ yr).1 hB.sp, Nat.le_trans (sees_le D gl_ yr).2 hB.sp⟩
 have HWC := fun w h => Sees_calls D A0 c0 A3 c3 A4 c4 gl_ yr w h
 obtain ⟨en, hen⟩ : ∃ r, enterE D (askSees D gl_ yr) = r := ⟨_, rfl⟩
 rw [hen] at HWC  ⊢
 obtain ⟨sf, hsf⟩ : ∃ r, seesF D gl_ yr = r := ⟨_, rfl⟩
 rw [hsf] at HWC hle ⊢
 obtain ⟨la, lb⟩ := sf
 dsimp only at hle HWC ⊢
 have HLE := Aside0.mk hle
 refine ⟨enters_an6, fun T w b_ h hT hb => ?_, by simp; omega, by simp⟩
 have hal := hB.arg.below hb
 have HX := Aside0.mk (blk_below hB.x hb)
 have HST := Aside0.mk (Sn.start h)
 have HLT := Aside0.mk h.lt
 have HC := Aside0.mk (HWC w hal)
 clear h hT hb hB hal HWC hen hsf
 go_enter Try.func66, Try.ntmps66
 have kk0 := (blk_cell HX.out 0).trans rfl
 have kk1 := (blk_cell HX.out 1).trans rfl
 have kk2 := (blk_cell HX.out 2).trans rfl
 have kk3 := (blk_cell HX.out 3).trans rfl
 have kk4 := (blk_cell HX.out 4).trans rfl
 have kk5 := (blk_cell HX.out 5).trans rfl
 have kk6 := (blk_cell HX.out 6).trans rfl
 have kk7 := (blk_cell HX.out 7).trans rfl
 have kk8 := (blk_cell HX.out 8).trans rfl
 have kk9 := (blk_cell HX.out 9).trans rfl
 have kk10 := (blk_cell HX.out 10).trans rfl
 have kkl := blk_lt HX.out
 go_wp2_with fail
 refine HC.out.mono ?_
 rintro e w2 ⟨⟨u, v, rfl, hrow, m', hum, hm', hrow2⟩, hb2⟩
 obtain ⟨A, c, rfl, hf⟩ := Fresh.of_new hrow
 obtain ⟨B, d, rfl, hf2⟩ := Fresh.of_new hrow2
 obtain ⟨K1, hs1, _, hkp⟩ := sn_fresh (HST.out.new hb2) hf (fun g hg hT => by have := HLT.out g hT; omega)
 obtain ⟨K, hs2, hsub, hkp2⟩ := sn_fresh hs1 hf2 (fun g hg hT => by have := HLT.out g hT; omega)
 have HKP := Aside0.mk (hkp.mono hsub)
 have HKQ := Aside0.mk hkp2
 have HSZ := Aside0.mk hb2.size
 have hne : ∀ x y, A = some x → B = some y → x.block ≠ y.block := fun x y hx hy e => by
  have h1 := hum x.block (by rw [hx]; rfl)
  have h2 := (hkp2.far hs2 ⟨y, hy, rfl⟩).1
  omega
 have HNE := Aside0.mk hne
 have hlA : ∀ x, A = some x → x.block < w2.heap.size := fun x hx => by
  rcases hkp with ⟨h, _⟩ | ⟨g, cs, t, h1, h2, h3, _⟩
  ·
   rw [h] at hx; cases hx
  ·
   rw [h1] at hx; injection hx with hx; subst hx; exact blk_lt (hs1.keep g cs t h3).1
 have HLA := Aside0.mk hlA
 have HM := Aside0.mk hm'
 clear HST hrow hrow2 hf hf2 hkp hkp2 hs1 hsub hum hm' hne hlA hb2 HX HC kk0 kk1 kk2 kk3 kk4 kk5 kk6 kk7 kk8 kk9 kk10 kkl
 go_upto_region 2 with (fail)
 have hst := hs2.add (below_alloc (Below.refl w2.heap.size w2) (.cells #[.slice A la.length c] 39)) (blk_new w2 (.cells #[.slice A la.length c] 39)) (Nat.le_refl _)
 replace hst := hst.add (below_alloc (Below.refl _ _) (.cells #[.slice B lb.length d] 39)) (new_at' (W := (w2.alloc (.cells #[.slice A la.length c] 39))) (n := w2.heap.size + 1) (by simp) (.cells #[.slice B lb.length d] 39)) (by simp)
 have HST := Aside0.mk hst
 clear hs2 hst
 obtain ⟨q, hq⟩ : ∃ q, w2.heap.size = q := ⟨_, rfl⟩
 rw [hq] at HST HSZ HLA ⊢
 generalize ((w2.alloc (.cells #[.slice A la.length c] 39)).alloc (.cells #[.slice B lb.length d] 39)) = w3 at HST ⊢
 clear hq
 have hk0 := (HST.out.keep q _ _ (List.mem_cons_of_mem _ (List.mem_cons_self ..))).1
 have kx0 := (blk_cell hk0 0).trans rfl
 have kz0 := blk_lt hk0
 have hk1 := (HST.out.keep (q + 1) _ _ (List.mem_cons_self ..)).1
 have kx1 := (blk_cell hk1 0).trans rfl
 have kz1 := blk_lt hk1
 clear hk0 hk1
 go_wp2_with fail
 refine (putInts_calls HST.out.hp (ints la) (by have := HLE.out; simp; omega) A la.length c (by simp) ((HKP.out.mono (fun x hx => List.mem_cons_of_mem _ (List.mem_cons_of_mem _ hx))).read HST.out)).mono ?_
 intro e wp0 hp
 obtain ⟨U0, hs⟩ := HST.out.step hp
 obtain ⟨⟨v0, rfl⟩, _⟩ := hp
 clear HST
 have HST := Aside0.mk hs
 clear hs kx0 kz0 kx1 kz1
 have hk0 := (HST.out.keep q _ _ (List.mem_cons_of_mem _ (List.mem_cons_self ..))).1
 have kx0 := (blk_cell hk0 0).trans rfl
 have kz0 := blk_lt hk0
 have hk1 := (HST.out.keep (q + 1) _ _ (List.mem_cons_self ..)).1
 have kx1 := (blk_cell hk1 0).trans rfl
 have kz1 := blk_lt hk1
 clear hk0 hk1
 go_wp2_with fail
 refine (putInts_calls HST.out.hp (ints lb) (by have := HLE.out; simp; omega) B lb.length d (by simp) ((HKQ.out.mono (fun x hx => List.mem_cons_of_mem _ (List.mem_cons_of_mem _ hx))).read HST.out)).mono ?_
 intro e wp1 hp
 obtain ⟨U1, hs⟩ := HST.out.step hp
 obtain ⟨⟨v1, rfl⟩, _⟩ := hp
 clear HST
 have HST := Aside0.mk hs
 clear hs kx0 kz0 kx1 kz1
 go_wp2_with fail
 refine (putErrno_calls HST.out.hp (by have := HLE.out; simp; omega) _).mono ?_
 intro e wp2 hp
 obtain ⟨U2, hs⟩ := HST.out.step hp
 obtain ⟨⟨v2, rfl⟩, _⟩ := hp
 clear HST
 have HST := Aside0.mk hs
 clear hs
 have hk0 := (HST.out.keep q _ _ (List.mem_cons_of_mem _ (List.mem_cons_self ..))).1
 have kx0 := (blk_cell hk0 0).trans rfl
 have kz0 := blk_lt hk0
 have hk1 := (HST.out.keep (q + 1) _ _ (List.mem_cons_self ..)).1
 have kx1 := (blk_cell hk1 0).trans rfl
 have kz1 := blk_lt hk1
 have KX0 := Aside0.mk kx0
 have KB0 := Aside0.mk hk0
 clear hk0
 have KX1 := Aside0.mk kx1
 have KB1 := Aside0.mk hk1
 clear hk1
 go_wp2
 go_ret
 have hle := HLE.out
 refine ⟨U2, 67, _, rfl, HST.out.grow, (by simpa using HST.out.hp), HST.out.chg, enters_an6_1, (wiperSees_calls KX0.out KB1.out ((HKP.out.mono (fun x hx => List.mem_cons_of_mem _ (List.mem_cons_of_mem _ hx))).wipe HST.out (by simp)) ((HKQ.out.mono (fun x hx => List.mem_cons_of_mem _ (List.mem_cons_of_mem _ hx))).wipe HST.out (by simp)) HNE.out (fun x hx => by have := HLA.out x hx; omega) (by omega) (by omega)).mono fun e w' ⟨hv, hc⟩ => ⟨hv, _, hc, fun k hk => ?_⟩⟩
 rcases hk with hk | hk
 ·
  exact (HKP.out.mono (fun x hx => List.mem_cons_of_mem _ (List.mem_cons_of_mem _ hx))).far HST.out hk
 ·
  have h1 := (HKQ.out.mono (fun x hx => List.mem_cons_of_mem _ (List.mem_cons_of_mem _ hx))).far HST.out hk
  exact ⟨Nat.le_trans HM.out h1.1, h1.2⟩
theorem enters_an8 (args : Array Value) (w : World) : (callFunc 69 args).run Try.prog w = .ok (.enter 69 args) w := enters_of Try.func69 (by kernel_rfl) rfl args w
theorem enters_an8_1 (args : Array Value) (w : World) : (callFunc 70 args).run Try.prog w = .ok (.enter 70 args) w := enters_of Try.func70 (by kernel_rfl) rfl args w
theorem wiperPart_calls {w : World} {P : Nat} {A : Option Addr} {n c : Nat} (hP : w.cell? ⟨P, 0, none⟩ = some (.slice A n c)) (h : (A = none ∧ n = 0) ∨ ∃ g cs t, A = some ⟨g, 0, none⟩ ∧ w.heap[g]? = some (.cells cs t (0, 0)) ∧ n ≤ cs.size) (hn : n ≤ 80000000) :
  Calls Try.prog 70 #[.pointer (some ⟨P, 0, none⟩)] w fun e w' => (∃ v, e = .returned v) ∧ Chg (fun k => ∃ a, A = some a ∧ a.block = k) w w' := by
 have HW := Aside0.mk (wipeInts_calls hP h hn)
 clear h hP
 go_enter Try.func70, Try.ntmps70
 go_wp2_with fail
 refine HW.out.mono ?_
 rintro e w2 ⟨⟨v, rfl⟩, h2⟩
 go_wp2
 go_end0
 exact ⟨⟨_, rfl⟩, h2⟩
set_option maxRecDepth 100000 in
set_option maxHeartbeats 4000000 in
theorem putsPart {w0 : World} {X : Nat} {D : Dat} {A0 : Option Addr} {c0 : Nat} {A3 : Option Addr} {c3 : Nat} {A4 : Option Addr} {c4 : Nat} {sp_ gl_ dr_ yr a b : Int} (hB : Base w0 X D A0 c0 A3 c3 A4 c4 sp_ gl_ dr_ yr a b) : Puts w0 69 X (([] ++ ((((partF D a b yr).length : Nat) : Int) :: ints (partF D a b yr))) ++ [enterE D (askPart D a b yr)]) [] := by
 have hle : (partF D a b yr).length ≤ 1048576 := Nat.le_trans (part_le D a b yr) hB.gl
 have HWC := fun w h => Part_calls D A0 c0 A3 c3 A4 c4 a b yr w h
 obtain ⟨en, hen⟩ : ∃ r, enterE D (askPart D a b yr) = r := ⟨_, rfl⟩
 rw [hen] at HWC  ⊢
 obtain ⟨la, hla⟩ : ∃ r, partF D a b yr = r := ⟨_, rfl⟩
 rw [hla] at HWC hle ⊢
 have HLE := Aside0.mk hle
 refine ⟨enters_an8, fun T w b_ h hT hb => ?_, by simp; omega, by simp⟩
 have hal := hB.arg.below hb
 have HX := Aside0.mk (blk_below hB.x hb)
 have HST := Aside0.mk (Sn.start h)
 have HLT := Aside0.mk h.lt
 have HC := Aside0.mk (HWC w hal)
 clear h hT hb hB hal HWC hen hla
 go_enter Try.func69, Try.ntmps69
 have kk0 := (blk_cell HX.out 0).trans rfl
 have kk1 := (blk_cell HX.out 1).trans rfl
 have kk2 := (blk_cell HX.out 2).trans rfl
 have kk3 := (blk_cell HX.out 3).trans rfl
 have kk4 := (blk_cell HX.out 4).trans rfl
 have kk5 := (blk_cell HX.out 5).trans rfl
 have kk6 := (blk_cell HX.out 6).trans rfl
 have kk7 := (blk_cell HX.out 7).trans rfl
 have kk8 := (blk_cell HX.out 8).trans rfl
 have kk9 := (blk_cell HX.out 9).trans rfl
 have kk10 := (blk_cell HX.out 10).trans rfl
 have kkl := blk_lt HX.out
 go_wp2_with fail
 refine HC.out.mono ?_
 rintro e w2 ⟨⟨v, rfl, hrow, _⟩, hb2⟩
 obtain ⟨A, c, rfl, hf⟩ := Fresh.of_row hrow
 obtain ⟨K, hs2, _, hkp⟩ := sn_fresh (HST.out.new hb2) hf (fun g hg hT => by have := HLT.out g hT; omega)
 have HKP := Aside0.mk hkp
 have HSZ := Aside0.mk hb2.size
 clear HST hrow hf hkp hb2 HX HC kk0 kk1 kk2 kk3 kk4 kk5 kk6 kk7 kk8 kk9 kk10 kkl
 go_upto_region 2 with (fail)
 have hst := hs2.add (below_alloc (Below.refl w2.heap.size w2) (.cells #[.slice A la.length c] 39)) (blk_new w2 (.cells #[.slice A la.length c] 39)) (Nat.le_refl _)
 have HST := Aside0.mk hst
 clear hs2 hst
 obtain ⟨q, hq⟩ : ∃ q, w2.heap.size = q := ⟨_, rfl⟩
 rw [hq] at HST HSZ ⊢
 generalize (w2.alloc (.cells #[.slice A la.length c] 39)) = w3 at HST ⊢
 clear hq
 have hk0 := (HST.out.keep q _ _ (List.mem_cons_self ..)).1
 have kx0 := (blk_cell hk0 0).trans rfl
 have kz0 := blk_lt hk0
 clear hk0
 go_wp2_with fail
 refine (putInts_calls HST.out.hp (ints la) (by have := HLE.out; simp; omega) A la.length c (by simp) ((HKP.out.mono (fun x hx => List.mem_cons_of_mem _ hx)).read HST.out)).mono ?_
 intro e wp0 hp
 obtain ⟨U0, hs⟩ := HST.out.step hp
 obtain ⟨⟨v0, rfl⟩, _⟩ := hp
 clear HST
 have HST := Aside0.mk hs
 clear hs kx0 kz0
 go_wp2_with fail
 refine (putErrno_calls HST.out.hp (by have := HLE.out; simp; omega) _).mono ?_
 intro e wp1 hp
 obtain ⟨U1, hs⟩ := HST.out.step hp
 obtain ⟨⟨v1, rfl⟩, _⟩ := hp
 clear HST
 have HST := Aside0.mk hs
 clear hs
 have hk0 := (HST.out.keep q _ _ (List.mem_cons_self ..)).1
 have kx0 := (blk_cell hk0 0).trans rfl
 have kz0 := blk_lt hk0
 have KX0 := Aside0.mk kx0
 have KB0 := Aside0.mk hk0
 clear hk0
 go_wp2
 go_ret
 have hle := HLE.out
 refine ⟨U1, 70, _, rfl, HST.out.grow, (by simpa using HST.out.hp), HST.out.chg, enters_an8_1, (wiperPart_calls KX0.out ((HKP.out.mono (fun x hx => List.mem_cons_of_mem _ hx)).wipe HST.out (by simp)) (by omega)).mono fun e w' ⟨hv, hc⟩ => ⟨hv, _, hc, fun k hk => (HKP.out.mono (fun x hx => List.mem_cons_of_mem _ hx)).far HST.out hk⟩⟩
theorem enters_an9 (args : Array Value) (w : World) : (callFunc 71 args).run Try.prog w = .ok (.enter 71 args) w := enters_of Try.func71 (by kernel_rfl) rfl args w
theorem enters_an9_1 (args : Array Value) (w : World) : (callFunc 72 args).run Try.prog w = .ok (.enter 72 args) w := enters_of Try.func72 (by kernel_rfl) rfl args w
theorem wiperWrong_calls {w : World} {P : Nat} {A : Option Addr} {n c : Nat} (hP : w.cell? ⟨P, 0, none⟩ = some (.slice A n c)) (h : (A = none ∧ n = 0) ∨ ∃ g cs t, A = some ⟨g, 0, none⟩ ∧ w.heap[g]? = some (.cells cs t (0, 0)) ∧ n ≤ cs.size) (hn : n ≤ 80000000) :
  Calls Try.prog 72 #[.pointer (some ⟨P, 0, none⟩)] w fun e w' => (∃ v, e = .returned v) ∧ Chg (fun k => ∃ a, A = some a ∧ a.block = k) w w' := by
 have HW := Aside0.mk (wipeInts_calls hP h hn)
 clear h hP
 go_enter Try.func72, Try.ntmps72
 go_wp2_with fail
 refine HW.out.mono ?_
 rintro e w2 ⟨⟨v, rfl⟩, h2⟩
 go_wp2
 go_end0
 exact ⟨⟨_, rfl⟩, h2⟩
set_option maxRecDepth 100000 in
set_option maxHeartbeats 4000000 in
theorem putsWrong {w0 : World} {X : Nat} {D : Dat} {A0 : Option Addr} {c0 : Nat} {A3 : Option Addr} {c3 : Nat} {A4 : Option Addr} {c4 : Nat} {sp_ gl_ dr_ yr a b : Int} (hB : Base w0 X D A0 c0 A3 c3 A4 c4 sp_ gl_ dr_ yr a b) : Puts w0 71 X (([] ++ (((((wrongF D).1).length : Nat) : Int) :: ints ((wrongF D).1))) ++ [(wrongF D).2]) [] := by
 have hle : (wrongF D).1.length ≤ 1048576 := Nat.le_trans (wrong_le D) hB.dr
 have HWC := fun w h => Wrong_calls D A0 c0 A3 c3 A4 c4 w h
 obtain ⟨wf, hwf⟩ : ∃ r, wrongF D = r := ⟨_, rfl⟩
 rw [hwf] at HWC hle ⊢
 obtain ⟨la, er⟩ := wf
 dsimp only at hle HWC ⊢
 have HLE := Aside0.mk hle
 refine ⟨enters_an9, fun T w b_ h hT hb => ?_, by simp; omega, by simp⟩
 have hal := hB.arg.below hb
 have HX := Aside0.mk (blk_below hB.x hb)
 have HST := Aside0.mk (Sn.start h)
 have HLT := Aside0.mk h.lt
 have HC := Aside0.mk (HWC w hal)
 clear h hT hb hB hal HWC hwf
 go_enter Try.func71, Try.ntmps71
 have kk0 := (blk_cell HX.out 0).trans rfl
 have kk1 := (blk_cell HX.out 1).trans rfl
 have kk2 := (blk_cell HX.out 2).trans rfl
 have kk3 := (blk_cell HX.out 3).trans rfl
 have kk4 := (blk_cell HX.out 4).trans rfl
 have kk5 := (blk_cell HX.out 5).trans rfl
 have kk6 := (blk_cell HX.out 6).trans rfl
 have kk7 := (blk_cell HX.out 7).trans rfl
 have kk8 := (blk_cell HX.out 8).trans rfl
 have kk9 := (blk_cell HX.out 9).trans rfl
 have kk10 := (blk_cell HX.out 10).trans rfl
 have kkl := blk_lt HX.out
 go_wp2_with fail
 refine HC.out.mono ?_
 rintro e w2 ⟨⟨v, rfl, hrow⟩, hb2⟩
 obtain ⟨A, c, rfl, hf⟩ := Fresh.of_new hrow
 obtain ⟨K, hs2, _, hkp⟩ := sn_fresh (HST.out.new hb2) hf (fun g hg hT => by have := HLT.out g hT; omega)
 have HKP := Aside0.mk hkp
 have HSZ := Aside0.mk hb2.size
 clear HST hrow hf hkp hb2 HX HC kk0 kk1 kk2 kk3 kk4 kk5 kk6 kk7 kk8 kk9 kk10 kkl
 go_upto_region 2 with (fail)
 have hst := hs2.add (below_alloc (Below.refl w2.heap.size w2) (.cells #[.slice A la.length c] 39)) (blk_new w2 (.cells #[.slice A la.length c] 39)) (Nat.le_refl _)
 have HST := Aside0.mk hst
 clear hs2 hst
 obtain ⟨q, hq⟩ : ∃ q, w2.heap.size = q := ⟨_, rfl⟩
 rw [hq] at HST HSZ ⊢
 generalize (w2.alloc (.cells #[.slice A la.length c] 39)) = w3 at HST ⊢
 clear hq
 have hk0 := (HST.out.keep q _ _ (List.mem_cons_self ..)).1
 have kx0 := (blk_cell hk0 0).trans rfl
 have kz0 := blk_lt hk0
 clear hk0
 go_wp2_with fail
 refine (putInts_calls HST.out.hp (ints la) (by have := HLE.out; simp; omega) A la.length c (by simp) ((HKP.out.mono (fun x hx => List.mem_cons_of_mem _ hx)).read HST.out)).mono ?_
 intro e wp0 hp
 obtain ⟨U0, hs⟩ := HST.out.step hp
 obtain ⟨⟨v0, rfl⟩, _⟩ := hp
 clear HST
 have HST := Aside0.mk hs
 clear hs kx0 kz0
 go_wp2_with fail
 refine (putErrno_calls HST.out.hp (by have := HLE.out; simp; omega) _).mono ?_
 intro e wp1 hp
 obtain ⟨U1, hs⟩ := HST.out.step hp
 obtain ⟨⟨v1, rfl⟩, _⟩ := hp
 clear HST
 have HST := Aside0.mk hs
 clear hs
 have hk0 := (HST.out.keep q _ _ (List.mem_cons_self ..)).1
 have kx0 := (blk_cell hk0 0).trans rfl
 have kz0 := blk_lt hk0
 have KX0 := Aside0.mk kx0
 have KB0 := Aside0.mk hk0
 clear hk0
 go_wp2
 go_ret
 have hle := HLE.out
 refine ⟨U1, 72, _, rfl, HST.out.grow, (by simpa using HST.out.hp), HST.out.chg, enters_an9_1, (wiperWrong_calls KX0.out ((HKP.out.mono (fun x hx => List.mem_cons_of_mem _ hx)).wipe HST.out (by simp)) (by omega)).mono fun e w' ⟨hv, hc⟩ => ⟨hv, _, hc, fun k hk => (HKP.out.mono (fun x hx => List.mem_cons_of_mem _ hx)).far HST.out hk⟩⟩
end Go.Proofs.Ytgoidclnccjdeaa.D
end
section
/- Package glass: TopAnewGlass: the walk. -/
namespace Go.Proofs.Ytgoidclnccjdeaa.D
open Go Go.RowKit Go.Proofs.YtgoidclnccjdeaaK Go.Proofs.YtgoidclnccjdeaaW.PrintWords Go.Proofs.YtgoidclnccjdeaaW.PrintLast Go.Proofs.YtgoidclnccjdeaaW.PrintMore Go.Proofs.Ytgoidclnccjdeaa.PR
set_option linter.unusedVariables false
set_option linter.unusedSimpArgs false

set_option maxRecDepth 100000 in
set_option maxHeartbeats 8000000 in
theorem TopAnewGlass_calls (D : Dat) (A0 : Option Addr) (c0 : Nat) (A3 : Option Addr) (c3 : Nat) (A4 : Option Addr) (c4 : Nat) (sp_ gl_ dr_ yr a b : Int) (w : World) (h : Arg w D A0 c0 A3 c3 A4 c4) (h0 : D.gl.length ≤ 1048576) (h3 : D.sp.length ≤ 1048576) (h4 : D.dr.length ≤ 1048576) :
  Calls Try.prog 12 #[.agg #[.slice A0 D.gl.length c0, .int .i64 D.lo, .int .i64 D.hi, .slice A3 D.sp.length c3, .slice A4 D.dr.length c4, .int .i64 sp_, .int .i64 gl_, .int .i64 dr_, .int .i64 yr, .int .i64 a, .int .i64 b]] w fun e w' => e = .returned (.bool true) ∧ Below w.heap.size w w' := by
 have hb := below_alloc (below_alloc (below_alloc (Below.refl w.heap.size w) (.cells #[.slice A0 D.gl.length c0, .int .i64 D.lo, .int .i64 D.hi, .slice A3 D.sp.length c3, .slice A4 D.dr.length c4, .int .i64 sp_, .int .i64 gl_, .int .i64 dr_, .int .i64 yr, .int .i64 a, .int .i64 b] 76)) (.cells #[.slice none 0 0, .slice none 0 0] 79)) (.cells #[.slice none 0 0, .slice none 0 0] 79)
 have HB := Aside0.mk hb
 have HX := Aside0.mk (blk_alloc (blk_alloc (blk_new w (.cells #[.slice A0 D.gl.length c0, .int .i64 D.lo, .int .i64 D.hi, .slice A3 D.sp.length c3, .slice A4 D.dr.length c4, .int .i64 sp_, .int .i64 gl_, .int .i64 dr_, .int .i64 yr, .int .i64 a, .int .i64 b] 76)) (.cells #[.slice none 0 0, .slice none 0 0] 79)) (.cells #[.slice none 0 0, .slice none 0 0] 79))
 have HW := Aside0.mk (blk_alloc (new_at' (W := w.alloc (.cells #[.slice A0 D.gl.length c0, .int .i64 D.lo, .int .i64 D.hi, .slice A3 D.sp.length c3, .slice A4 D.dr.length c4, .int .i64 sp_, .int .i64 gl_, .int .i64 dr_, .int .i64 yr, .int .i64 a, .int .i64 b] 76)) (n := w.heap.size + 1) (by simp) (.cells #[.slice none 0 0, .slice none 0 0] 79)) (.cells #[.slice none 0 0, .slice none 0 0] 79))
 have HI := Aside0.mk (new_at' (W := (w.alloc (.cells #[.slice A0 D.gl.length c0, .int .i64 D.lo, .int .i64 D.hi, .slice A3 D.sp.length c3, .slice A4 D.dr.length c4, .int .i64 sp_, .int .i64 gl_, .int .i64 dr_, .int .i64 yr, .int .i64 a, .int .i64 b] 76)).alloc (.cells #[.slice none 0 0, .slice none 0 0] 79)) (n := w.heap.size + 1 + 1) (by simp) (.cells #[.slice none 0 0, .slice none 0 0] 79))
 clear hb
 have HA := Aside0.mk h
 have H0 := Aside0.mk h0
 have H3 := Aside0.mk h3
 have H4 := Aside0.mk h4
 clear h h0 h3 h4
 go_enter Try.func12, Try.ntmps12
 go_upto_region 2 with (fail)
 generalize ((w.alloc (.cells #[.slice A0 D.gl.length c0, .int .i64 D.lo, .int .i64 D.hi, .slice A3 D.sp.length c3, .slice A4 D.dr.length c4, .int .i64 sp_, .int .i64 gl_, .int .i64 dr_, .int .i64 yr, .int .i64 a, .int .i64 b] 76)).alloc (.cells #[.slice none 0 0, .slice none 0 0] 79)).alloc (.cells #[.slice none 0 0, .slice none 0 0] 79) = w1 at HB HX HW HI ⊢
 obtain ⟨q, hq⟩ : ∃ q, w.heap.size = q := ⟨_, rfl⟩
 rw [hq] at HB HX HW HI
 have HQ := Aside0.mk hq
 have HA1 := Aside0.mk (show Arg w D A0 c0 A3 c3 A4 c4 from HA.out)
 try rw [hq]
 clear hq HA
 have kk0 := (blk_cell HX.out 0).trans rfl
 have kk1 := (blk_cell HX.out 1).trans rfl
 have kk2 := (blk_cell HX.out 2).trans rfl
 have kk3 := (blk_cell HX.out 3).trans rfl
 have kk4 := (blk_cell HX.out 4).trans rfl
 have kk5 := (blk_cell HX.out 5).trans rfl
 have kk6 := (blk_cell HX.out 6).trans rfl
 have kk7 := (blk_cell HX.out 7).trans rfl
 have kk8 := (blk_cell HX.out 8).trans rfl
 have kk9 := (blk_cell HX.out 9).trans rfl
 have kk10 := (blk_cell HX.out 10).trans rfl
 have kl0 := blk_lt HX.out
 have kl1 := blk_lt HI.out
 go_wp2_with fail
 have hf : ∀ (T : Nat → Prop) (v v' : World), (∀ k, T k → q ≤ k) → Below q w v → Chg T v v' → Below w.heap.size w v' := fun T v v' hT hv hc => by
  exact (show Below w.heap.size w v from by rw [HQ.out]; exact hv).trans (hc.below (fun k _ hk => by have h1 := hT k hk; have h2 := HQ.out; omega) hv.size)
 have HF := Aside0.mk hf
 clear hf
 refine (all_calls (HP.empty HW.out) D A0 c0 A3 c3 A4 c4 sp_ gl_ dr_ yr a b (by have := H0.out; have := H3.out; have := H4.out; omega) (fun w' hc => Kd.C_below HA1.out.g (HF.out _ _ _ (fun k hk => by rw [hk]; omega) HB.out hc)) (fun w' hc => Kd.C_below HA1.out.s (HF.out _ _ _ (fun k hk => by rw [hk]; omega) HB.out hc)) (fun w' hc => Kd.C_below HA1.out.d (HF.out _ _ _ (fun k hk => by rw [hk]; omega) HB.out hc))).mono ?_
 rintro e w2 ⟨⟨v0, rfl⟩, T1, g1, hp1, hc1⟩
 have HG1 := Aside0.mk g1
 have HP1 := Aside0.mk hp1
 have HX2 := Aside0.mk (hc1.heap HX.out (by omega))
 have HI2 := Aside0.mk (hc1.heap HI.out (by omega))
 have HB2 := Aside0.mk (HB.out.trans (hc1.below (fun k _ hk => by rw [hk]; omega) (by have := HB.out.size; have := HQ.out; omega)))
 have HZ2 := Aside0.mk (Nat.lt_of_lt_of_le (blk_lt HI.out) hc1.size)
 have HZ1 := Aside0.mk (blk_lt HI.out)
 clear g1 hp1 hc1 HX HI HW HB kk0 kk1 kk2 kk3 kk4 kk5 kk6 kk7 kk8 kk9 kk10 kl0 kl1
 have HBS := Aside0.mk (show Base w2 q D A0 c0 A3 c3 A4 c4 sp_ gl_ dr_ yr a b from ⟨HX2.out, HA1.out.below (by have := HB2.out; rw [← HQ.out] at this; exact this), H0.out, H3.out, H4.out⟩)
 have HR := Aside0.mk (Below.refl w2.heap.size w2)
 go_wp2_with fail
 refine (again_calls (putsCheck HBS.out) _ HR.out).mono ?_
 rintro e wa0 ⟨rfl, hb⟩
 replace HR := Aside0.mk (HR.out.trans (hb.mono HR.out.size))
 clear hb
 go_wp2_with fail
 refine (again_calls (putsSize HBS.out) _ HR.out).mono ?_
 rintro e wa1 ⟨rfl, hb⟩
 replace HR := Aside0.mk (HR.out.trans (hb.mono HR.out.size))
 clear hb
 go_wp2_with fail
 refine (again_calls (putsLeast HBS.out) _ HR.out).mono ?_
 rintro e wa2 ⟨rfl, hb⟩
 replace HR := Aside0.mk (HR.out.trans (hb.mono HR.out.size))
 clear hb
 go_wp2_with fail
 refine (again_calls (putsDull HBS.out) _ HR.out).mono ?_
 rintro e wa3 ⟨rfl, hb⟩
 replace HR := Aside0.mk (HR.out.trans (hb.mono HR.out.size))
 clear hb
 go_wp2_with fail
 refine (again_calls (putsUsed HBS.out) _ HR.out).mono ?_
 rintro e wa4 ⟨rfl, hb⟩
 replace HR := Aside0.mk (HR.out.trans (hb.mono HR.out.size))
 clear hb
 go_wp2_with fail
 refine (again_calls (putsSees HBS.out) _ HR.out).mono ?_
 rintro e wa5 ⟨rfl, hb⟩
 replace HR := Aside0.mk (HR.out.trans (hb.mono HR.out.size))
 clear hb
 go_wp2_with fail
 refine (again_calls (putsLarger HBS.out) _ HR.out).mono ?_
 rintro e wa6 ⟨rfl, hb⟩
 replace HR := Aside0.mk (HR.out.trans (hb.mono HR.out.size))
 clear hb
 go_wp2_with fail
 refine (again_calls (putsPart HBS.out) _ HR.out).mono ?_
 rintro e wa7 ⟨rfl, hb⟩
 replace HR := Aside0.mk (HR.out.trans (hb.mono HR.out.size))
 clear hb
 go_wp2_with fail
 refine (again_calls (putsWrong HBS.out) _ HR.out).mono ?_
 rintro e wa8 ⟨rfl, hb⟩
 replace HR := Aside0.mk (HR.out.trans (hb.mono HR.out.size))
 clear hb
 have HP1 := Aside0.mk (HP1.out.new HR.out)
 have HX3 := Aside0.mk (blk_below HX2.out HR.out)
 have HI3 := Aside0.mk (blk_below HI2.out HR.out)
 have HB3 := Aside0.mk (HB2.out.trans (HR.out.mono (by have := HB2.out.size; have := HQ.out; omega)))
 clear HBS
 have kk0 := (blk_cell HX3.out 0).trans rfl
 have kk1 := (blk_cell HX3.out 1).trans rfl
 have kk2 := (blk_cell HX3.out 2).trans rfl
 have kk3 := (blk_cell HX3.out 3).trans rfl
 have kk4 := (blk_cell HX3.out 4).trans rfl
 have kk5 := (blk_cell HX3.out 5).trans rfl
 have kk6 := (blk_cell HX3.out 6).trans rfl
 have kk7 := (blk_cell HX3.out 7).trans rfl
 have kk8 := (blk_cell HX3.out 8).trans rfl
 have kk9 := (blk_cell HX3.out 9).trans rfl
 have kk10 := (blk_cell HX3.out 10).trans rfl
 have kl0 := blk_lt HX3.out
 have kl1 := blk_lt HI3.out
 go_wp2_with fail
 refine (all_calls (HP.empty HI3.out) D A0 c0 A3 c3 A4 c4 sp_ gl_ dr_ yr a b (by have := H0.out; have := H3.out; have := H4.out; omega) (fun w' hc => Kd.C_below HA1.out.g (HF.out _ _ _ (fun k hk => by rw [hk]; omega) HB3.out hc)) (fun w' hc => Kd.C_below HA1.out.s (HF.out _ _ _ (fun k hk => by rw [hk]; omega) HB3.out hc)) (fun w' hc => Kd.C_below HA1.out.d (HF.out _ _ _ (fun k hk => by rw [hk]; omega) HB3.out hc))).mono ?_
 rintro e wB ⟨⟨v1, rfl⟩, T2, g2, hp2, hc2⟩
 have hp3 := HP1.out.chg hc2 (fun k hk hu => by have h1 := HG1.out k hk; have h2 := HZ1.out; rw [hu] at h1; omega)
 have HB4 := Aside0.mk (HB3.out.trans (hc2.below (fun k _ hk => by rw [hk]; omega) (by have := HB3.out.size; have := HQ.out; omega)))
 obtain ⟨a1, u1, p1, p2, p3, _, _⟩ := hp3.ex
 obtain ⟨a2, u2, q1, q2, q3, _, _⟩ := hp2.ex
 have HSAME := Aside0.mk (same_calls p2 p3 q2 q3 (by have := H0.out; have := H3.out; have := H4.out; have := shelfN_len D; simp only [List.length_append, List.length_cons, List.length_nil]; omega) (by have := H0.out; simp only [List.length_map]; omega))
 have c0_ := (blk_cell p1 0).trans rfl
 have c1_ := (blk_cell p1 1).trans rfl
 have d0_ := (blk_cell q1 0).trans rfl
 have d1_ := (blk_cell q1 1).trans rfl
 have l1 := blk_lt p1
 have l2 := blk_lt q1
 clear g2 hp2 hc2 hp3 p1 p2 p3 q1 q2 q3 HP1 HG1 kk0 kk1 kk2 kk3 kk4 kk5 kk6 kk7 kk8 kk9 kk10 kl0 kl1
 go_wp2_with fail
 refine HSAME.out.mono ?_
 rintro e wC ⟨rfl, hb⟩
 have HB5 := Aside0.mk (HB4.out.trans (hb.mono (by have := HB4.out.size; have := HQ.out; omega)))
 clear c0_ c1_ d0_ d1_ l1 l2 hb
 go_wp2_with fail
 refine (Awake_calls _).mono ?_
 rintro e wD ⟨rfl, hb⟩
 have HB6 := Aside0.mk (HB5.out.trans (hb.mono (by have := HB5.out.size; have := HQ.out; omega)))
 clear hb
 go_wp2
 go_ret
 exact ⟨rfl, by rw [HQ.out]; exact HB6.out⟩
end Go.Proofs.Ytgoidclnccjdeaa.D
end
section
/- Package glass: a shelf that came in as_ an argument, opened. -/
namespace Go.Proofs.Ytgoidclnccjdeaa.D
open Go Go.RowKit Go.ChangeShapes Go.WideShapes Go.Deep Go.Proofs.YtgoidclnccjdeaaK Go.Proofs.YtgoidclnccjdeaaW.PrintWords Go.Proofs.YtgoidclnccjdeaaW.PrintLast Go.Proofs.YtgoidclnccjdeaaW.PrintMore Go.Proofs.Ytgoidclnccjdeaa.PR
set_option linter.unusedVariables false
set_option linter.unusedSimpArgs false
set_option linter.unusedSectionVars false

section
variable {H : Type} {enc : TypeId × Value → H} {P : Program} {w : World} {base : Nat} {spare : Nat → Bool} {held : Bool}
theorem open_two {t : TypeId} {F : Array Field} {fuel : Nat} {cs : List Value} {x : DataW H × List MemPlace} (ht : P.underlying t = some (.struct F))
  (h0 : ∃ f, F[0]? = some f ∧ f.offset = 0 ∧ P.underlying f.type = some (.int .i64) ∧ P.cellsOf f.type = 1)
  (h1 : ∃ f, F[1]? = some f ∧ f.offset = 1 ∧ P.underlying f.type = some (.int .i64) ∧ P.cellsOf f.type = 1)
  (hc : P.cellsOf t = 2) (h : DataW.trod enc P w base spare held fuel t cs = some x) :
  ∃ a b, cs = [.int .i64 a, .int .i64 b] ∧ (Lit.int .i64 a).wf = true ∧ (Lit.int .i64 b).wf = true := by
 obtain ⟨xs, n, rfl, hx, hl, hlen, hf⟩ := DataW.trod_struct ht h
 rw [hc] at hl
 match cs, hl with
 | [v0, v1], _ =>
  obtain ⟨g0, e0, o0, u0, c0⟩ := h0
  obtain ⟨g1, e1, o1, u1, c1⟩ := h1
  have k0 := hf 0 g0 e0
  have k1 := hf 1 g1 e1
  have l0 : 0 < F.size := (Array.getElem?_eq_some_iff.1 e0).1
  have l1 : 1 < F.size := (Array.getElem?_eq_some_iff.1 e1).1
  rw [o0, c0, List.getElem?_eq_getElem (by omega)] at k0
  rw [o1, c1, List.getElem?_eq_getElem (by omega)] at k1
  obtain ⟨a, ha, _, wa⟩ := DataW.trod_int u0 k0
  obtain ⟨b, hb, _, wb⟩ := DataW.trod_int u1 k1
  simp only [List.drop_zero, List.take_succ_cons, List.take_zero, List.drop_succ_cons] at ha hb
  cases ha; cases hb
  exact ⟨a, b, rfl, wa, wb⟩
theorem open_ints3 {t : TypeId} {F : Array Field} {fuel : Nat} {cs : List Value} {x : DataW H × List MemPlace} (ht : P.underlying t = some (.struct F))
  (h0 : ∃ f, F[0]? = some f ∧ f.offset = 0 ∧ P.underlying f.type = some (.int .i64) ∧ P.cellsOf f.type = 1)
  (h1 : ∃ f, F[1]? = some f ∧ f.offset = 1 ∧ P.underlying f.type = some (.int .i64) ∧ P.cellsOf f.type = 1)
  (h2 : ∃ f, F[2]? = some f ∧ f.offset = 2 ∧ P.underlying f.type = some (.int .i64) ∧ P.cellsOf f.type = 1)
  (hc : P.cellsOf t = 3) (h : DataW.trod enc P w base spare held fuel t cs = some x) :
  ∃ a b c, cs = [.int .i64 a, .int .i64 b, .int .i64 c] ∧ (Lit.int .i64 a).wf = true ∧ (Lit.int .i64 b).wf = true ∧ (Lit.int .i64 c).wf = true := by
 obtain ⟨xs, n, rfl, hx, hl, hlen, hf⟩ := DataW.trod_struct ht h
 rw [hc] at hl
 match cs, hl with
 | [v0, v1, v2], _ =>
  obtain ⟨g0, e0, o0, u0, c0⟩ := h0
  obtain ⟨g1, e1, o1, u1, c1⟩ := h1
  obtain ⟨g2, e2, o2, u2, c2⟩ := h2
  have k0 := hf 0 g0 e0
  have k1 := hf 1 g1 e1
  have k2 := hf 2 g2 e2
  have l0 : 0 < F.size := (Array.getElem?_eq_some_iff.1 e0).1
  have l1 : 1 < F.size := (Array.getElem?_eq_some_iff.1 e1).1
  have l2 : 2 < F.size := (Array.getElem?_eq_some_iff.1 e2).1
  rw [o0, c0, List.getElem?_eq_getElem (by omega)] at k0
  rw [o1, c1, List.getElem?_eq_getElem (by omega)] at k1
  rw [o2, c2, List.getElem?_eq_getElem (by omega)] at k2
  obtain ⟨a, ha, _, wa⟩ := DataW.trod_int u0 k0
  obtain ⟨b, hb, _, wb⟩ := DataW.trod_int u1 k1
  obtain ⟨c, hc, _, wc⟩ := DataW.trod_int u2 k2
  simp only [List.drop_zero, List.take_succ_cons, List.take_zero, List.drop_succ_cons] at ha hb hc
  cases ha; cases hb; cases hc
  exact ⟨a, b, c, rfl, wa, wb, wc⟩
theorem open_named {t e : TypeId} {F G : Array Field} {fuel : Nat} {cs : List Value} {x : DataW H × List MemPlace} (ht : P.underlying t = some (.struct F)) (he : P.underlying e = some (.struct G))
  (h0 : ∃ f, F[0]? = some f ∧ f.offset = 0 ∧ P.underlying f.type = some .string ∧ P.cellsOf f.type = 1)
  (h1 : ∃ f, F[1]? = some f ∧ f.offset = 1 ∧ f.type = e)
  (i0 : ∃ f, G[0]? = some f ∧ f.offset = 0 ∧ P.underlying f.type = some (.int .i64) ∧ P.cellsOf f.type = 1)
  (i1 : ∃ f, G[1]? = some f ∧ f.offset = 1 ∧ P.underlying f.type = some (.int .i64) ∧ P.cellsOf f.type = 1)
  (hc : P.cellsOf t = 3) (hce : P.cellsOf e = 2) (h : DataW.trod enc P w base spare held fuel t cs = some x) :
  ∃ s a b, cs = [.string s, .int .i64 a, .int .i64 b] ∧ s.size ≤ 9223372036854775807 ∧ (Lit.int .i64 a).wf = true ∧ (Lit.int .i64 b).wf = true := by
 obtain ⟨xs, n, rfl, hx, hl, hlen, hf⟩ := DataW.trod_struct ht h
 rw [hc] at hl
 match cs, hl with
 | [v0, v1, v2], _ =>
  obtain ⟨g0, e0, o0, u0, c0⟩ := h0
  obtain ⟨g1, e1, o1, rfl⟩ := h1
  have k0 := hf 0 g0 e0
  have k1 := hf 1 g1 e1
  have l0 : 0 < F.size := (Array.getElem?_eq_some_iff.1 e0).1
  have l1 : 1 < F.size := (Array.getElem?_eq_some_iff.1 e1).1
  rw [o0, c0, List.getElem?_eq_getElem (by omega)] at k0
  rw [o1, hce, List.getElem?_eq_getElem (by omega)] at k1
  obtain ⟨s, hs, _, ws⟩ := DataW.trod_string u0 k0
  obtain ⟨a, b, hab, wa, wb⟩ := open_two he i0 i1 hce k1
  simp only [List.drop_zero, List.take_succ_cons, List.take_zero, List.drop_succ_cons] at hs hab
  cases hs; cases hab
  exact ⟨s, a, b, rfl, ws, wa, wb⟩
theorem open_rowG {α : Type} (z : α) {m : Nat} {K : World → α → List Value → Prop} {Wf : α → Prop} {t e : TypeId} {fuel : Nat} {cs : List Value} {x : DataW H × List MemPlace}
  (ht : P.underlying t = some (.slice e)) (hc : P.cellsOf e = m) (hopen : ∀ {fuel : Nat} {cs : List Value} {x : DataW H × List MemPlace}, DataW.trod enc P w base spare held fuel e cs = some x → ∃ p, K w p cs ∧ Wf p)
  (h : DataW.trod enc P w base spare held fuel t cs = some x) :
  ∃ (A : Option Addr) (cap : Nat) (l : List α), cs = [.slice A l.length cap] ∧ l.length ≤ cap ∧ ReadsRow (K w) m w A l.length l ∧ ∀ p ∈ l, Wf p := by
 rcases open_slice ht h with ⟨rfl, rfl⟩ | ⟨a, len, cap, mm, n, D, Pl, rfl, hb, hl, hm, hmm, hx, hi⟩
 ·
  exact ⟨none, 0, [], rfl, Nat.le_refl _, ⟨rfl, Nat.zero_le _, fun h => absurd h (Nat.lt_irrefl 0)⟩, fun p hp => by simp at hp⟩
 ·
  have hml : len ≤ mm := by rw [hmm]; split <;> omega
  have hh : ∀ i, ∃ p : α, i < len → (∃ c, c.length = m ∧ K w p c ∧ ∀ j u, c[j]? = some u → w.cell? (a.add (i * m + j)) = some u) ∧ Wf p := by
   intro i
   by_cases hil : i < len
   ·
    obtain ⟨cs', hcc, htt⟩ := hi i (by omega)
    rw [hc] at hcc
    obtain ⟨_, hcl, hat⟩ := World.cells?_some hcc
    obtain ⟨p, hp, hw⟩ := hopen htt
    refine ⟨p, fun _ => ⟨⟨cs', hcl, hp, fun j u hu => ?_⟩, hw⟩⟩
    have hj : j < m := by rw [← hcl]; exact (List.getElem?_eq_some_iff.1 hu).1
    have := hat j hj
    rw [hu] at this
    rw [← this, Go.Deep.add_add]
   ·
    exact ⟨z, fun h => absurd h hil⟩
  let pick : Nat → α := fun i => (hh i).choose
  have hpick : ∀ i, i < len → (∃ c, c.length = m ∧ K w (pick i) c ∧ ∀ j u, c[j]? = some u → w.cell? (a.add (i * m + j)) = some u) ∧ Wf (pick i) := fun i => (hh i).choose_spec
  have hlen : ((List.range len).map pick).length = len := by simp
  refine ⟨some a, cap, (List.range len).map pick, by rw [hlen], by rw [hlen]; exact hl, ⟨rfl, by rw [hlen]; unfold maxLen at hm; omega, fun _ => ⟨a, rfl, fun j p hp => ?_⟩⟩, fun p hp => ?_⟩
  ·
   have hj : j < len := by have := (List.getElem?_eq_some_iff.1 hp).1; simpa using this
   have : p = pick j := by
    have h := (List.getElem?_eq_some_iff.1 hp).2
    rw [← h]; simp
   subst this
   obtain ⟨c, h1, h2, h3⟩ := (hpick j hj).1
   exact ⟨c, h1, h2, h3⟩
  ·
   obtain ⟨i, hi, rfl⟩ := List.mem_map.1 hp
   exact (hpick i (List.mem_range.1 hi)).2
end

def wf (x : Int) : Prop := (Lit.int .i64 x).wf = true
structure Dat.Wf (D : Dat) : Prop where
 lo : wf D.lo
 hi : wf D.hi
 gl : ∀ p ∈ D.gl, p.f0.size ≤ 9223372036854775807 ∧ wf p.f1.f0 ∧ wf p.f1.f1
 sp : ∀ p ∈ D.sp, wf p.f0 ∧ wf p.f1
 dr : ∀ p ∈ D.dr, wf p.f0 ∧ wf p.f1 ∧ wf p.f2

section
variable {H : Type} {enc : TypeId × Value → H} {w : World} {base : Nat} {spare : Nat → Bool} {held : Bool}
end
end Go.Proofs.Ytgoidclnccjdeaa.D
end
