/- Contracts of the functions that this claim reaches, with the words for them: pruned and packed by wip/tools/prune.py. -/
import Derived.Test.YtgoidclnccjdeaaProg
import Derived.Test.YtgoidclnccjdeaaVWWords
import Derived.Test.YtgoidclnccjdeaaVWLast
import Derived.Test.YtgoidclnccjdeaaVWTab
import Derived.Test.YtgoidclnccjdeaaVWFour
import Derived.Test.YtgoidclnccjdeaaVWQPut
import Derived.Test.YtgoidclnccjdeaaVWApart
import Derived.Test.YtgoidclnccjdeaaVWArr
import Derived.Test.YtgoidclnccjdeaaVWZeros
import Derived.Test.YtgoidclnccjdeaaVWFoot
import Derived.Test.YtgoidclnccjdeaaVWKept
import Derived.Test.YtgoidclnccjdeaaVWShare
import Derived.Test.YtgoidclnccjdeaaVWN
import Derived.Test.YtgoidclnccjdeaaVWFootNe
import Derived.Test.YtgoidclnccjdeaaVWAt
import Derived.Test.YtgoidclnccjdeaaVWEqStruct
import Derived.Test.YtgoidclnccjdeaaVWRepsOne
import Derived.Test.YtgoidclnccjdeaaVWInv
import Derived.Test.YtgoidclnccjdeaaVWInvWords
import Derived.Test.YtgoidclnccjdeaaVWGuard
import Derived.Test.YtgoidclnccjdeaaVWNEv
import Derived.Test.YtgoidclnccjdeaaVWMore
import Derived.RangeFuncNested
import Derived.RangeFuncBound
import Derived.RangeFuncCalls
import Derived.RangeFuncLeaves
import Derived.Below
import Derived.Deep.Draws
import Derived.Deep.AppendLies
import Derived.Maps.AppendAt
import Derived.OwnWalk
import Derived.Laws.BytesArg
import Derived.Laws.MakeOwn
import Derived.Laws.OwnMore
import Derived.Deep.OwnRows
import Derived.Tactics
import Derived.Lib.ConvBytes
import Derived.Laws.Slices
import Derived.WalkKit
import Derived.KernelRfl
import Derived.RowKit3
import Derived.Deep.LoopGhost
import Derived.Deep.QuietTactic
import Derived.BigQuiet
import Derived.WideLaws
import Derived.Deep.DeepCutAuto
import Derived.Deep.CutBlock
import Derived.Deep.RegionHeld3
import Derived.Laws.Rows
import Derived.Lib.AppendStr
import Derived.ArgAppend
import Derived.Laws.IdiomCopy
import Derived.OrdersHeld
import Derived.Laws.BitsLemmas
import Derived.RowKit
import Derived.Laws.RangeAny
import Derived.Shelf.Abstract
import Derived.ChangeKeysEq
import Derived.RegionTactic
import Derived.ChangeAlike
import Derived.Laws.EntriesVeiled
import Derived.OwnWalkIn
import Derived.TacticsInMore
import Derived.LoopNIn
import Derived.LoopIn
import Derived.Shelf.RegionOpen
import Derived.StillTactics
import Derived.OrdersIn
import Derived.Laws.CopyRow
import Derived.Lib.SliceRun
section
/- General lemmas of this session's own: what a call may change ('Chg'), an iterator's contract ('Iter'), and the law of a range over a function by it. -/
namespace Go.Proofs.YtgoidclnccjdeaaK
open Go Go.RowKit
set_option linter.unusedVariables false

structure Chg (S : Nat → Prop) (w w' : World) : Prop where
  os : w'.os = w.os
  tape : w'.tape = w.tape
  output : w'.output = w.output
  size : w.heap.size ≤ w'.heap.size
  block : ∀ k, k < w.heap.size → ¬ S k → w'.heap[k]? = w.heap[k]?

namespace Chg
variable {S S' : Nat → Prop} {w w1 w2 : World}
theorem refl (S : Nat → Prop) (w : World) : Chg S w w := ⟨rfl, rfl, rfl, Nat.le_refl _, fun _ _ _ => rfl⟩
theorem trans (h : Chg S w w1) (k : Chg S w1 w2) : Chg S w w2 :=
  ⟨k.os.trans h.os, k.tape.trans h.tape, k.output.trans h.output, Nat.le_trans h.size k.size, fun i hi hs => (k.block i (Nat.lt_of_lt_of_le hi h.size) hs).trans (h.block i hi hs)⟩
theorem mono (h : Chg S w w1) (hs : ∀ k, k < w.heap.size → S k → S' k) : Chg S' w w1 := ⟨h.os, h.tape, h.output, h.size, fun i hi hn => h.block i hi (fun x => hn (hs i hi x))⟩
theorem then_ (h : Chg S w w1) (k : Chg S' w1 w2) (hs : ∀ k, k < w.heap.size → S' k → S k) : Chg S w w2 :=
  ⟨k.os.trans h.os, k.tape.trans h.tape, k.output.trans h.output, Nat.le_trans h.size k.size, fun i hi hn => (k.block i (Nat.lt_of_lt_of_le hi h.size) (fun x => hn (hs i hi x))).trans (h.block i hi hn)⟩
theorem alloc (h : Chg S w w1) (o : Obj) : Chg S w (w1.alloc o) :=
  ⟨h.os, h.tape, h.output, by rw [World.size_alloc]; exact Nat.le_succ_of_le h.size, fun i hi hs => (Below.heap_alloc _ _ _ (Nat.lt_of_lt_of_le hi h.size)).trans (h.block i hi hs)⟩
theorem drew (h : Chg S w w1) : Chg S w w1.drew := ⟨h.os, h.tape, h.output, h.size, h.block⟩
theorem drewN (h : Chg S w w1) (n : Nat) : Chg S w (w1.drewN n) := ⟨h.os, h.tape, h.output, h.size, h.block⟩
theorem setCell (h : Chg S w w1) {p : Addr} (hp : p.block < w.heap.size → S p.block) (u : Value) : Chg S w (w1.setCell p u) :=
  ⟨h.os, h.tape, h.output, by simpa [World.setCell] using h.size, fun i hi hs => (Below.heap_setCell _ _ _ _ (fun e => by subst e; exact hs (hp hi))).trans (h.block i hi hs)⟩
theorem putObj (h : Chg S w w1) {l : Nat} (hp : l < w.heap.size → S l) (o : Obj) : Chg S w (w1.putObj l o) :=
  ⟨h.os, h.tape, h.output, by simpa using h.size, fun i hi hs => (World.putObj_heap_other (fun e => by subst e; exact hs (hp hi))).trans (h.block i hi hs)⟩
theorem of_below {B : Nat} (h : Below B w w1) : Chg (fun k => B ≤ k) w w1 := ⟨h.os, h.tape, h.output, h.size, fun i hi hs => h.block i (by omega)⟩
theorem below (h : Chg S w w1) {B : Nat} (hs : ∀ k, k < w.heap.size → S k → B ≤ k) (hB : B ≤ w.heap.size) : Below B w w1 :=
  ⟨h.os, h.tape, h.output, h.size, fun i hi => h.block i (by omega) (fun x => by have := hs i (by omega) x; omega)⟩
theorem grown {row : Option Nat} (h : w.grownBy w1 row) : Chg (fun k => some k = row) w w1 := ⟨h.os, h.tape, h.output, h.size, fun i hi hn => h.block i hi hn⟩
theorem heap (h : Chg S w w1) {k : Nat} {o : Obj} (hk : w.heap[k]? = some o) (hs : ¬ S k) : w1.heap[k]? = some o :=
  (h.block k (Array.getElem?_eq_some_iff.1 hk).1 hs).trans hk
theorem cell (h : Chg S w w1) {a : Addr} {v : Value} (hk : w.cell? a = some v) (hs : ¬ S a.block) : w1.cell? a = some v := by
  have hlt := World.block_lt_of_cell? w a hk
  rw [World.cell?_of_block (w := w) (h.block a.block hlt hs)]; exact hk
end Chg

def Iter {α : Type} (P : Program) (g : FuncId) (lb : Array Value) (encs : α → Array Value) (M : Nat → Prop) (Ok : World → Prop) (xs : List α) (w : World) : Prop :=
  ∀ (l : Nat) (J : List α → (Nat → Prop) → World → Prop) (Jx : List α → World → Prop) (W : World) (Fp0 : Nat → Prop), Below w.heap.size w W → w.heap.size ≤ l → l < W.heap.size → (∀ k, Fp0 k → k < W.heap.size) →
    (∀ pre Fp A B, J pre Fp A → Chg (fun k => M k ∨ (W.heap.size ≤ k ∧ ¬ Fp k)) A B → Ok B → J pre Fp B) →
    (∀ pre A B, Jx pre A → Chg (fun k => M k ∨ W.heap.size ≤ k) A B → Ok B → Jx pre B) →
    (∀ pre x Fp A, pre ++ [x] <+: xs → J pre Fp A → Ok A → (∀ k, Fp k → k < A.heap.size) → YieldAt Fence.wide 0 P l (encs x) A fun e B =>
      (e = .returned (.bool true) ∧ ∃ Fp', J (pre ++ [x]) Fp' B ∧ Chg (fun k => Fp k ∨ k = l) A B ∧ Ok B ∧ ∀ k, Fp' k → k < B.heap.size ∧ (k < A.heap.size → Fp k)) ∨
      (e = .returned (.bool false) ∧ Jx (pre ++ [x]) B ∧ Ok B)) →
    J [] Fp0 W → Ok W →
    CallsIn Fence.wide 0 P g (#[.func (.yield l) #[] #[]] ++ lb) W fun e W' => (∃ v, e = .returned v) ∧
      ((∃ Fp, J xs Fp W' ∧ Ok W' ∧ ∀ k, Fp k → k < W'.heap.size) ∨ ∃ pre, pre <+: xs ∧ Jx pre W' ∧ Ok W')

def roundQ {α : Type} (Ok : World → Prop) (I : List α → (Nat → Prop) → World → Prop) (Ix : Code → List α → World → Prop) (Fp : Nat → Prop) (pre : List α) (W : World) : Exit → Act → World → Prop
  | .normal, _, W3 => ∃ Fp', I pre Fp' W3 ∧ Chg Fp W W3 ∧ Ok W3 ∧ ∀ k, Fp' k → k < W3.heap.size ∧ (k < W.heap.size → Fp k)
  | .ret, _, W3 => Ix .ret pre W3 ∧ Chg Fp W W3 ∧ Ok W3
  | .exit id, _, W3 => Ix (.exit id) pre W3 ∧ Chg Fp W W3 ∧ Ok W3
  | .goto t, _, W3 => Ix (.goto t) pre W3 ∧ Chg Fp W W3 ∧ Ok W3
  | .panic _, _, _ => False
  | .outgrown, _, _ => False

theorem rangeFunc {α : Type} {P : Program} {g : Operand} {ps : Array Tmp} {assign body : Code} {Q : Exit → Act → World → Prop} {a : Act} {w : World}
    {gf : Nat} {lb : Array Value} (hg : a.eval g = .func (.func gf) #[] lb) (eg : ∀ args w, (callFunc gf args).run P w = .ok (.enter gf args) w)
    {encs : α → Array Value} {M : Nat → Prop} {Ok : World → Prop} {xs : List α} (hit : Iter P gf lb encs M Ok xs w) (hps : ∀ x, (encs x).size = ps.size)
    (I : List α → (Nat → Prop) → World → Prop) (Ix : Code → List α → World → Prop) (Fp0 : Nat → Prop) (hM : ∀ k, M k → k < w.heap.size)
    (hOkn : ∀ A B, Ok A → Chg (fun k => w.heap.size ≤ k) A B → Ok B)
    (hI : ∀ pre Fp A B, I pre Fp A → Chg (fun k => M k ∨ (w.heap.size ≤ k ∧ ¬ Fp k)) A B → Ok B → I pre Fp B)
    (hIx : ∀ c pre A B, Ix c pre A → Chg (fun k => M k ∨ w.heap.size ≤ k) A B → Ok B → Ix c pre B)
    (h0 : I [] Fp0 w) (hF0 : ∀ k, Fp0 k → k < w.heap.size) (hOk : Ok w)
    (hround : ∀ (l : Nat) (pre : List α) (x : α) (Fp : Nat → Prop) (W : World), w.heap.size < l → l < W.heap.size → ¬ Fp l → (∀ k, Fp k → k < W.heap.size) → pre ++ [x] <+: xs → I pre Fp W → Ok W →
      assign.wpIn (Fence.wide.inRound l) 0 P (Exit.then (fun a1 W1 => Chg (fun _ => False) W W1 ∧ ∀ W2, Chg (fun k => k = l) W1 W2 → W1.heap.size = W2.heap.size → I pre Fp W2 → Ok W2 → body.wpIn (Fence.wide.inRound l) 0 P (roundQ Ok I Ix Fp (pre ++ [x]) W2) a1 W2) (fun _ _ _ => False))
        { tmps := (ps.zip (encs x)).foldl (fun t (p, v) => t.setIfInBounds p v) a.tmps, defers := [] } W)
    (hdone : ∀ (Fp : Nat → Prop) (W : World), I xs Fp W → Ok W → ¬ Fp w.heap.size → W.heap[w.heap.size]? = some (.deferred (some [])) → w.heap.size < W.heap.size → Q .normal { a with defers := { target := .collected w.heap.size, args := #[] } :: a.defers } W)
    (hstop : ∀ (c : Code) (pre : List α) (W : World), pre <+: xs → Ix c pre W → Ok W → W.heap[w.heap.size]? = some (.deferred (some [])) → w.heap.size < W.heap.size → c.wpIn Fence.wide 0 P Q { a with defers := { target := .collected w.heap.size, args := #[] } :: a.defers } W) :
    (Code.rangeFunc g ps assign body).wpIn Fence.wide 0 P Q a w := by
  refine wpIn_rangeFunc ?_
  intro fn hfn
  rw [show Fence.wide.round = none from rfl]
  obtain ⟨rec, hrec⟩ : ∃ rec : LoopState → Option Code → Loop, rec = fun st pe => { state := st, pending := pe, fn, tmps := a.tmps, params := ps, assign, body, defers := w.heap.size } := ⟨_, rfl⟩
  obtain ⟨W1, hW1⟩ : ∃ W1, (w.alloc (.deferred (some []))).alloc (.loop (rec .ready none)) = W1 := ⟨_, rfl⟩
  have hsz : W1.heap.size = w.heap.size + 2 := by rw [← hW1]; simp
  have hL1 : W1.heap[w.heap.size + 1]? = some (.loop (rec .ready none)) := by
    rw [← hW1]; have := World.alloc_heap_new (w.alloc (.deferred (some []))) (.loop (rec .ready none)); rwa [World.size_alloc] at this
  have hK1 : W1.heap[w.heap.size]? = some (.deferred (some [])) := by
    rw [← hW1]; exact (Below.heap_alloc _ _ _ (by simp)).trans (World.alloc_heap_new w _)
  have hch : ∀ S, Chg S w W1 := fun S => by rw [← hW1]; exact ((Chg.refl S w).alloc _).alloc _
  have hOk1 : Ok W1 := hOkn _ _ hOk (hch _)
  have hI1 : I [] Fp0 W1 := hI _ _ _ _ h0 (hch _) hOk1
  have hb1 : Below w.heap.size w W1 := (hch (fun k => w.heap.size ≤ k)).below (fun k _ h => h) (Nat.le_refl _)
  refine ⟨w.heap.size + 1, [{ target := .collected w.heap.size, args := #[] }], W1, { target := .fn (.func gf) lb, args := #[.func (.yield (w.heap.size + 1)) #[] #[]] }, W1, gf,
    #[.func (.yield (w.heap.size + 1)) #[] #[]] ++ lb, W1, ?_, ?_, ?_, ?_, (fun h => by cases h), ?_⟩
  · rw [← hW1, hrec]; exact run_enterLoop_outer _ _ _ _ _
  · simp only [resolve, hg]
    simp [go_sem]
  · intro f' _; trivial
  · simp [invoke, go_sem, eg]
  · refine (hit (w.heap.size + 1)
      (fun pre Fp W => I pre Fp W ∧ ¬ Fp w.heap.size ∧ ¬ Fp (w.heap.size + 1) ∧ W.heap[w.heap.size + 1]? = some (.loop (rec .ready none)) ∧ W.heap[w.heap.size]? = some (.deferred (some [])))
      (fun pre W => ∃ c, Ix c pre W ∧ W.heap[w.heap.size + 1]? = some (.loop (rec .done (some c))) ∧ W.heap[w.heap.size]? = some (.deferred (some [])))
      W1 Fp0 hb1 (by omega) (by omega) (fun k hk => by have := hF0 k hk; omega) ?_ ?_ ?_
      ⟨hI1, fun h => by have := hF0 _ h; omega, fun h => by have := hF0 _ h; omega, hL1, hK1⟩ hOk1).mono ?_
    · rintro pre Fp A B ⟨hi, hfD, hfl, hl, hk⟩ hc hok
      refine ⟨hI _ _ _ _ hi (hc.mono (fun k _ h => h.imp id (fun h => ⟨by omega, h.2⟩))) hok, hfD, hfl, hc.heap hl (fun h => ?_), hc.heap hk (fun h => ?_)⟩
      · rcases h with h | h
        · have := hM _ h; omega
        · have := h.1; omega
      · rcases h with h | h
        · have := hM _ h; omega
        · have := h.1; omega
    · rintro pre A B ⟨c, hi, hl, hk⟩ hc hok
      refine ⟨c, hIx _ _ _ _ hi (hc.mono (fun k _ h => h.imp id (fun h => by omega))) hok, hc.heap hl (fun h => ?_), hc.heap hk (fun h => ?_)⟩
      · rcases h with h | h
        · have := hM _ h; omega
        · omega
      · rcases h with h | h
        · have := hM _ h; omega
        · omega
    · -- ONE ROUND
      rintro pre x Fp W hpre ⟨hi, hfD, hfl, hl, hk⟩ hok hFp
      have hlt : w.heap.size + 1 < W.heap.size := (Array.getElem?_eq_some_iff.1 hl).1
      have hy := run_yield (P := P) (args := encs x) hl (by rw [hrec]; exact hps x)
      rw [hrec] at hy
      refine ⟨fn, _, assign, body, hy, roundIn_of_wpIn hfn (wpIn_mono (hround _ pre x Fp W (by omega) hlt hfl hFp hpre hi hok) ?_)⟩
      clear hy
      intro e a1 Wa hp
      cases e with
      | normal =>
        obtain ⟨hca, hbody⟩ := hp
        have hla := hca.heap hl (fun h => h)
        have hka := hca.heap hk (fun h => h)
        have hlta : w.heap.size + 1 < Wa.heap.size := (Array.getElem?_eq_some_iff.1 hla).1
        refine ⟨_, run_beginRound hla (by rw [hrec]), ?_⟩
        have hl2 : (Wa.putObj (w.heap.size + 1) (.loop { rec .ready none with state := .busy })).heap[w.heap.size + 1]? = some (.loop { rec .ready none with state := .busy }) := World.putObj_heap_same hlta
        have hk2 : (Wa.putObj (w.heap.size + 1) (.loop { rec .ready none with state := .busy })).heap[w.heap.size]? = some (.deferred (some [])) := (World.putObj_heap_other (by omega)).trans hka
        have hc2 : Chg (fun k => k = w.heap.size + 1) Wa (Wa.putObj (w.heap.size + 1) (.loop { rec .ready none with state := .busy })) := (Chg.refl (fun k => k = w.heap.size + 1) _).putObj (l := w.heap.size + 1) (fun _ => rfl) _
        have hcW : Chg (fun k => k = w.heap.size + 1) W (Wa.putObj (w.heap.size + 1) (.loop { rec .ready none with state := .busy })) := (hca.mono (fun _ _ h => h.elim)).trans hc2
        have hok2 : Ok (Wa.putObj (w.heap.size + 1) (.loop { rec .ready none with state := .busy })) := hOkn _ _ hok (hcW.mono (fun k _ e => by omega))
        have hi2 : I pre Fp (Wa.putObj (w.heap.size + 1) (.loop { rec .ready none with state := .busy })) := hI _ _ _ _ hi (hcW.mono (fun k _ e => .inr ⟨by omega, by rw [e]; exact hfl⟩)) hok2
        refine wpIn_mono (hbody _ hc2 (by simp) hi2 hok2) ?_
        have hszl : (Wa.putObj (w.heap.size + 1) (.loop { rec .ready none with state := .busy })).heap.size = Wa.heap.size := by simp
        have hWa : W.heap.size ≤ Wa.heap.size := hca.size
        have fin : ∀ (jump : Option Code) (W3 : World), Chg Fp (Wa.putObj (w.heap.size + 1) (.loop { rec .ready none with state := .busy })) W3 →
            (Instr.endRound (w.heap.size + 1) jump).run P W3 = .ok (.bool jump.isNone) (W3.putObj (w.heap.size + 1) (.loop (rec (if jump.isNone then .ready else .done) jump))) ∧
            W3.heap[w.heap.size + 1]? = some (.loop { rec .ready none with state := .busy }) ∧
            (W3.putObj (w.heap.size + 1) (.loop (rec (if jump.isNone then .ready else .done) jump))).heap[w.heap.size + 1]? = some (.loop (rec (if jump.isNone then .ready else .done) jump)) ∧
            (W3.putObj (w.heap.size + 1) (.loop (rec (if jump.isNone then .ready else .done) jump))).heap[w.heap.size]? = some (.deferred (some [])) := fun jump W3 hk3 => by
          have hl3 := hk3.heap hl2 hfl
          have := run_endRound (P := P) jump hl3
          rw [hrec] at this ⊢
          exact ⟨this, by rw [hrec] at hl3; exact hl3, World.putObj_heap_same (Array.getElem?_eq_some_iff.1 hl3).1, (World.putObj_heap_other (by omega)).trans (hk3.heap hk2 hfD)⟩
        rintro e a3 W3 hp
        cases e with
        | normal =>
          obtain ⟨Fp', hi3, hc3, hok3, hF3⟩ := hp
          obtain ⟨hr, hl3, hl4, hk4⟩ := fin none W3 hc3
          have hlt3 : w.heap.size + 1 < W3.heap.size := (Array.getElem?_eq_some_iff.1 hl3).1
          have hnl : ¬ Fp' (w.heap.size + 1) := fun h => hfl ((hF3 _ h).2 (by rw [hszl]; omega))
          have hnD : ¬ Fp' w.heap.size := fun h => hfD ((hF3 _ h).2 (by rw [hszl]; omega))
          have hc4 : Chg (fun k => k = w.heap.size + 1) W3 (W3.putObj (w.heap.size + 1) (.loop (rec .ready none))) := (Chg.refl (fun k => k = w.heap.size + 1) _).putObj (l := w.heap.size + 1) (fun _ => rfl) _
          have hok4 : Ok (W3.putObj (w.heap.size + 1) (.loop (rec .ready none))) := hOkn _ _ hok3 (hc4.mono (fun k _ e => by omega))
          refine ⟨_, _, hr, .inl ⟨rfl, Fp', ⟨hI _ _ _ _ hi3 (hc4.mono (fun k _ e => .inr ⟨by omega, by rw [e]; exact hnl⟩)) hok4, hnD, hnl, hl4, hk4⟩, ?_, hok4, fun k hk' => ⟨by have := (hF3 k hk').1; simpa using this, fun hlt' => (hF3 k hk').2 (by rw [hszl]; omega)⟩⟩⟩
          exact ((hcW.mono (fun k _ e => .inr e)).trans (hc3.mono (fun k _ e => .inl e))).trans (hc4.mono (fun k _ e => .inr e))
        | ret =>
          obtain ⟨hi3, hc3, hok3⟩ := hp
          obtain ⟨hr, hl3, hl4, hk4⟩ := fin (some .ret) W3 hc3
          have hc4 : Chg (fun k => w.heap.size ≤ k) W3 (W3.putObj (w.heap.size + 1) (.loop (rec .done (some .ret)))) := (Chg.refl _ _).putObj (fun _ => by omega) _
          have hok4 := hOkn _ _ hok3 hc4
          exact ⟨_, _, hr, .inr ⟨rfl, ⟨.ret, hIx _ _ _ _ hi3 (hc4.mono (fun k _ h => .inr h)) hok4, hl4, hk4⟩, hok4⟩⟩
        | exit id =>
          obtain ⟨hi3, hc3, hok3⟩ := hp
          obtain ⟨hr, hl3, hl4, hk4⟩ := fin (some (.exit id)) W3 hc3
          have hc4 : Chg (fun k => w.heap.size ≤ k) W3 (W3.putObj (w.heap.size + 1) (.loop (rec .done (some (.exit id))))) := (Chg.refl _ _).putObj (fun _ => by omega) _
          have hok4 := hOkn _ _ hok3 hc4
          exact ⟨_, _, hr, .inr ⟨rfl, ⟨.exit id, hIx _ _ _ _ hi3 (hc4.mono (fun k _ h => .inr h)) hok4, hl4, hk4⟩, hok4⟩⟩
        | goto t =>
          obtain ⟨hi3, hc3, hok3⟩ := hp
          obtain ⟨hr, hl3, hl4, hk4⟩ := fin (some (.goto t)) W3 hc3
          have hc4 : Chg (fun k => w.heap.size ≤ k) W3 (W3.putObj (w.heap.size + 1) (.loop (rec .done (some (.goto t))))) := (Chg.refl _ _).putObj (fun _ => by omega) _
          have hok4 := hOkn _ _ hok3 hc4
          exact ⟨_, _, hr, .inr ⟨rfl, ⟨.goto t, hIx _ _ _ _ hi3 (hc4.mono (fun k _ h => .inr h)) hok4, hl4, hk4⟩, hok4⟩⟩
        | panic ch => exact hp.elim
        | outgrown => exact hp.elim
      | ret => exact hp.elim
      | exit id => exact hp.elim
      | goto t => exact hp.elim
      | panic ch => exact hp.elim
      | outgrown => exact hp.elim
    · -- BEHIND THE ITERATOR
      rintro e W2 ⟨⟨v, rfl⟩, (⟨Fp, ⟨hi, hfD, hfl, hl, hk⟩, hok, hF⟩ | ⟨pre, hpre, ⟨c, hi, hl, hk⟩, hok⟩)⟩
      · have hc4 : Chg (fun k => k = w.heap.size + 1) W2 (W2.putObj (w.heap.size + 1) (.loop { rec .ready none with state := .exhausted })) := (Chg.refl (fun k => k = w.heap.size + 1) _).putObj (l := w.heap.size + 1) (fun _ => rfl) _
        have hok4 := hOkn _ _ hok (hc4.mono (fun k _ e => by omega))
        have hlt : w.heap.size + 1 < W2.heap.size := (Array.getElem?_eq_some_iff.1 hl).1
        exact ⟨none, _, by have := run_endLoop (P := P) hl (by rw [hrec]; simp); rw [hrec] at this ⊢; exact this,
          hdone Fp _ (hI _ _ _ _ hi (hc4.mono (fun k _ e => .inr ⟨by omega, by rw [e]; exact hfl⟩)) hok4) hok4 hfD ((World.putObj_heap_other (by omega)).trans hk) (by rw [World.putObj_size]; omega)⟩
      · have hc4 : Chg (fun k => w.heap.size ≤ k) W2 (W2.putObj (w.heap.size + 1) (.loop { rec .done (some c) with state := .exhausted })) := (Chg.refl _ _).putObj (fun _ => by omega) _
        have hok4 := hOkn _ _ hok hc4
        have hlt : w.heap.size + 1 < W2.heap.size := (Array.getElem?_eq_some_iff.1 hl).1
        exact ⟨some c, _, by have := run_endLoop (P := P) hl (by rw [hrec]; simp); rw [hrec] at this ⊢; exact this,
          hstop c pre _ hpre (hIx _ _ _ _ hi (hc4.mono (fun k _ h => .inr h)) hok4) hok4 ((World.putObj_heap_other (by omega)).trans hk) (by rw [World.putObj_size]; omega)⟩
end Go.Proofs.YtgoidclnccjdeaaK
end
section
namespace Go.Proofs.Ytgoidclnccjdeaa.PR
open Go.RowKit Go.Proofs.YtgoidclnccjdeaaW.PrintWords Go.Proofs.YtgoidclnccjdeaaW.PrintLast Go.Proofs.YtgoidclnccjdeaaW.PrintMore
attribute [local go_sem] max2_int min2_int max_two min_two max_three min_three max_four min_four   -- for this text's walks alone
set_option linter.unusedVariables false
set_option linter.unusedSimpArgs false



def errW : Option Int → Value
 | none => .nilIface
 | some c => .iface 0 (.int .i64 c)
theorem errW_none : errW none = .nilIface := rfl
theorem errW_some (c : Int) : errW (some c) = .iface 0 (.int .i64 c) := rfl

theorem info3 : (Try.prog.info? 3).map (fun i => (i.zero, i.size, i.bytes)) = some (some (.int .i64 0), 1, 8) := by kernel_rfl
theorem info72 : (Try.prog.info? 72).map (fun i => (i.zero, i.size, i.bytes)) = some (some (.agg #[(.int .i64 0), (.int .i64 0), (.int .i64 0)]), 3, 24) := by kernel_rfl
structure S24 where
 f0 : Int
 f1 : Int
def z24 : S24 := ⟨(0 : Int), (0 : Int)⟩
def k24 : Kd S24 := Kd.iso (Kd.pair (Kd.int .i64) (Kd.int .i64)) (fun x : S24 => (x.f0, x.f1))
theorem k24_open {w : World} {x : S24} {cs : List Value} (h : k24.K w x cs) : cs = [.int .i64 x.f0, .int .i64 x.f1] := by
 obtain ⟨_, _, rfl, rfl, rfl⟩ := h
 exact rfl
theorem k24_mkM (w : World) (base : Nat) (ok : Nat → Prop) (x : S24)  : k24.M w base ok x [.int .i64 x.f0, .int .i64 x.f1] := ⟨[.int .i64 x.f0], [.int .i64 x.f1], rfl, rfl, rfl⟩
def rd_T24 (xs : List S24) (i : Int) : S24 := xs.getD i.toNat z24
theorem at_T24 {w : World} {A : Option Addr} {n : Nat} {xs : List S24} (h : Kd.C k24 w A n xs) (i : Int) (h0 : 0 ≤ i) (h1 : i < n) : ∃ ad , A = some ad ∧ w.cell? (ad.add (i.toNat * 2)) = some (.int .i64 (rd_T24 xs i).f0) ∧ w.cell? ⟨(ad.add (i.toNat * 2)).block, (ad.add (i.toNat * 2)).off + 1, none⟩ = some (.int .i64 (rd_T24 xs i).f1) := by
 obtain ⟨ad, c, e, _, hK, hc0⟩ := Kd.C_get h z24 i h0 h1
 have hc : ∀ j u, c[j]? = some u → w.cell? (ad.add (i.toNat * 2 + j)) = some u := hc0
 obtain rfl := k24_open hK
 exact ⟨ad, e, hc 0 _ rfl, by rw [← add_field _ _ 1 (by omega)]; exact hc 1 _ rfl⟩

structure S95 where
 f0 : ByteArray
 f1 : S24
def z95 : S95 := ⟨(⟨#[]⟩ : ByteArray), z24⟩
def k95 : Kd S95 := Kd.iso (Kd.pair Kd.string k24) (fun x : S95 => (x.f0, x.f1))
theorem k95_open {w : World} {x : S95} {cs : List Value} (h : k95.K w x cs) : cs = [.string x.f0, .int .i64 x.f1.f0, .int .i64 x.f1.f1] := by
 obtain ⟨_, _, rfl, rfl, s1⟩ := h
 obtain rfl := k24_open s1
 exact rfl
theorem k95_mkM (w : World) (base : Nat) (ok : Nat → Prop) (x : S95)  : k95.M w base ok x [.string x.f0, .int .i64 x.f1.f0, .int .i64 x.f1.f1] := ⟨[.string x.f0], [.int .i64 x.f1.f0, .int .i64 x.f1.f1], rfl, rfl, (k24_mkM w base ok x.f1 )⟩
def rd_T95 (xs : List S95) (i : Int) : S95 := xs.getD i.toNat z95
theorem at_T95 {w : World} {A : Option Addr} {n : Nat} {xs : List S95} (h : Kd.C k95 w A n xs) (i : Int) (h0 : 0 ≤ i) (h1 : i < n) : ∃ ad , A = some ad ∧ w.cell? (ad.add (i.toNat * 3)) = some (.string (rd_T95 xs i).f0) ∧ w.cell? ⟨(ad.add (i.toNat * 3)).block, (ad.add (i.toNat * 3)).off + 1, none⟩ = some (.int .i64 (rd_T95 xs i).f1.f0) ∧ w.cell? ⟨(ad.add (i.toNat * 3)).block, (ad.add (i.toNat * 3)).off + 2, none⟩ = some (.int .i64 (rd_T95 xs i).f1.f1) := by
 obtain ⟨ad, c, e, _, hK, hc0⟩ := Kd.C_get h z95 i h0 h1
 have hc : ∀ j u, c[j]? = some u → w.cell? (ad.add (i.toNat * 3 + j)) = some u := hc0
 obtain rfl := k95_open hK
 exact ⟨ad, e, hc 0 _ rfl, by rw [← add_field _ _ 1 (by omega)]; exact hc 1 _ rfl, by rw [← add_field _ _ 2 (by omega)]; exact hc 2 _ rfl⟩

structure S72 where
 f0 : Int
 f1 : Int
 f2 : Int
def z72 : S72 := ⟨(0 : Int), (0 : Int), (0 : Int)⟩
def k72 : Kd S72 := Kd.iso (Kd.pair (Kd.int .i64) (Kd.pair (Kd.int .i64) (Kd.int .i64))) (fun x : S72 => (x.f0, x.f1, x.f2))
theorem k72_open {w : World} {x : S72} {cs : List Value} (h : k72.K w x cs) : cs = [.int .i64 x.f0, .int .i64 x.f1, .int .i64 x.f2] := by
 obtain ⟨_, _, rfl, rfl, ⟨_, _, rfl, rfl, rfl⟩⟩ := h
 exact rfl
theorem k72_mkM (w : World) (base : Nat) (ok : Nat → Prop) (x : S72)  : k72.M w base ok x [.int .i64 x.f0, .int .i64 x.f1, .int .i64 x.f2] := ⟨[.int .i64 x.f0], [.int .i64 x.f1, .int .i64 x.f2], rfl, rfl, ⟨[.int .i64 x.f1], [.int .i64 x.f2], rfl, rfl, rfl⟩⟩
def rd_T72 (xs : List S72) (i : Int) : S72 := xs.getD i.toNat z72
theorem at_T72 {w : World} {A : Option Addr} {n : Nat} {xs : List S72} (h : Kd.C k72 w A n xs) (i : Int) (h0 : 0 ≤ i) (h1 : i < n) : ∃ ad , A = some ad ∧ w.cell? (ad.add (i.toNat * 3)) = some (.int .i64 (rd_T72 xs i).f0) ∧ w.cell? ⟨(ad.add (i.toNat * 3)).block, (ad.add (i.toNat * 3)).off + 1, none⟩ = some (.int .i64 (rd_T72 xs i).f1) ∧ w.cell? ⟨(ad.add (i.toNat * 3)).block, (ad.add (i.toNat * 3)).off + 2, none⟩ = some (.int .i64 (rd_T72 xs i).f2) := by
 obtain ⟨ad, c, e, _, hK, hc0⟩ := Kd.C_get h z72 i h0 h1
 have hc : ∀ j u, c[j]? = some u → w.cell? (ad.add (i.toNat * 3 + j)) = some u := hc0
 obtain rfl := k72_open hK
 exact ⟨ad, e, hc 0 _ rfl, by rw [← add_field _ _ 1 (by omega)]; exact hc 1 _ rfl, by rw [← add_field _ _ 2 (by omega)]; exact hc 2 _ rfl⟩

end Go.Proofs.Ytgoidclnccjdeaa.PR
end
section
/- Package glass: out, and the words of its contracts. -/
namespace Go.Proofs.Ytgoidclnccjdeaa.D
open Go Go.RowKit Go.Proofs.YtgoidclnccjdeaaK Go.Proofs.YtgoidclnccjdeaaW.PrintWords Go.Proofs.YtgoidclnccjdeaaW.PrintLast Go.Proofs.YtgoidclnccjdeaaW.PrintMore Go.Proofs.Ytgoidclnccjdeaa.PR
set_option linter.unusedVariables false
set_option linter.unusedSimpArgs false

theorem C_lit {W : World} {b : Nat} {t : TypeId} {l : List Int} (h : W.heap[b]? = some (.cells (l.map (Value.int .i64)).toArray t (0, 0))) (hl : l.length ≤ 9223372036854775807) :
    Kd.C (Kd.int .i64) W (some ⟨b, 0, none⟩) l.length l := by
  refine ⟨rfl, hl, fun _ => ⟨_, rfl, fun j p hj => ⟨[.int .i64 p], rfl, rfl, fun i u hu => ?_⟩⟩⟩
  have hi : i = 0 := by
    have := (List.getElem?_eq_some_iff.1 hu).1
    simpa using this
  subst hi
  simp at hu
  subst hu
  rw [add_plain, blk_cell h]
  show (l.map (Value.int .i64)).toArray[j * 1 + 0]? = _
  simp [hj]

theorem at_nat {w : World} {A : Option Addr} {n : Nat} {l : List Int} (h : Kd.C (Kd.int .i64) w A n l) (k : Nat) (hk : k < n) : ∃ ad, A = some ad ∧ w.cell? (ad.add k) = some (.int .i64 (rd l k)) := by
  obtain ⟨ad, e, hc⟩ := Kd.at_int h k (by omega) (by omega)
  exact ⟨ad, e, by rw [Int.toNat_natCast] at hc; exact hc⟩

def outB (lo hi : Int) (l : List Int) : Bool := l.any fun n => decide (n < lo) || decide (hi < n)

set_option maxHeartbeats 400000 in
theorem out_calls (lo hi : Int) (l : List Int) (A : Option Addr) (c : Nat) (w : World) (hr : Kd.C (Kd.int .i64) w A l.length l) :
    Calls Try.prog 84 #[.int .i64 lo, .int .i64 hi, .slice A l.length c] w fun e w' => e = .returned (.bool (outB lo hi l)) ∧ w = w' := by
  have hlen := hr.2.1
  have HR := Aside0.mk hr
  clear hr
  go_enter Try.func84, Try.ntmps84
  go_wp2
  go_loop [11] (fun i => ∃ k : Nat, k ≤ l.length ∧ i = .int .i64 k ∧ Hid (outB lo hi l = outB lo hi (l.drop k))) (fun i => l.length - (intOf i).toNat)
  case atStart => exact ⟨0, Nat.zero_le _, rfl, rfl⟩
  case round =>
    obtain ⟨k, hk, rfl, HO⟩ := hrel
    by_cases hlt : k < l.length
    · obtain ⟨ad, e, hc⟩ := at_nat HR.out k hlt
      subst e
      have hd : l.drop k = rd l k :: l.drop (k + 1) := by
        rw [List.drop_eq_getElem_cons hlt]; congr 1
        simp [rd, hlt]
      have HO2 : Hid (outB lo hi l = ((decide (rd l k < lo) || decide (hi < rd l k)) || outB lo hi (l.drop (k + 1)))) := by
        show outB lo hi l = _
        rw [HO.out, hd]; simp [outB]
      clear hd HO
      generalize rd l k = x at *
      go_wp2
      all_goals first
        | (go_ret; exact ⟨by rw [HO2.out]; simp [*], rfl⟩)
        | (go_round
           case rel => exact ⟨k + 1, by omega, by go_num, by show _ = _; rw [HO2.out]; simp [*]; omega⟩
           case measure => simp [intOf]; omega)
    · obtain rfl : k = l.length := by omega
      go_wp2
      go_ret
      exact ⟨by rw [HO.out]; simp [outB], rfl⟩
set_option maxHeartbeats 400000 in
theorem dout_calls (lo hi : Int) (l : List Int) (A : Option Addr) (c : Nat) (w : World) (hr : Kd.C (Kd.int .i64) w A l.length l) :
    Calls Try.prog 121 #[.int .i64 lo, .int .i64 hi, .slice A l.length c] w fun e w' => e = .returned (.bool (outB lo hi l)) ∧ w = w' := by
  have hlen := hr.2.1
  have HR := Aside0.mk hr
  clear hr
  go_enter Try.func121, Try.ntmps121
  go_wp2
  go_loop [11] (fun i => ∃ k : Nat, k ≤ l.length ∧ i = .int .i64 k ∧ Hid (outB lo hi l = outB lo hi (l.drop k))) (fun i => l.length - (intOf i).toNat)
  case atStart => exact ⟨0, Nat.zero_le _, rfl, rfl⟩
  case round =>
    obtain ⟨k, hk, rfl, HO⟩ := hrel
    by_cases hlt : k < l.length
    · obtain ⟨ad, e, hc⟩ := at_nat HR.out k hlt
      subst e
      have hd : l.drop k = rd l k :: l.drop (k + 1) := by
        rw [List.drop_eq_getElem_cons hlt]; congr 1
        simp [rd, hlt]
      have HO2 : Hid (outB lo hi l = ((decide (rd l k < lo) || decide (hi < rd l k)) || outB lo hi (l.drop (k + 1)))) := by
        show outB lo hi l = _
        rw [HO.out, hd]; simp [outB]
      clear hd HO
      generalize rd l k = x at *
      go_wp2
      all_goals first
        | (go_ret; exact ⟨by rw [HO2.out]; simp [*], rfl⟩)
        | (go_round
           case rel => exact ⟨k + 1, by omega, by go_num, by show _ = _; rw [HO2.out]; simp [*]; omega⟩
           case measure => simp [intOf]; omega)
    · obtain rfl : k = l.length := by omega
      go_wp2
      go_ret
      exact ⟨by rw [HO.out]; simp [outB], rfl⟩
theorem C_take {α : Type} {d : Kd α} {w : World} {A : Option Addr} {n : Nat} {xs : List α} (h : d.C w A n xs) (i : Nat) (hi : i ≤ n) : d.C w A i (xs.take i) := by
  refine ⟨by rw [List.length_take, h.1]; omega, by have := h.2.1; omega, fun h0 => ?_⟩
  obtain ⟨ad, e, hc⟩ := h.2.2 (by omega)
  exact ⟨ad, e, fun j p hj => hc j p (by rw [List.getElem?_take] at hj; split at hj; · exact hj
                                         · cases hj)⟩

theorem lit1 {W : World} {b : Nat} {t : TypeId} (x : Int) (hb : W.heap.size = b) : Kd.C (Kd.int .i64) (W.alloc (.cells #[.int .i64 x] t)) (some ⟨b, 0, none⟩) [x].length [x] :=
  C_lit (t := t) (by subst hb; exact blk_new _ _) (by simp)
theorem lit2 {W : World} {b : Nat} {t : TypeId} (x y : Int) (hb : W.heap.size = b) : Kd.C (Kd.int .i64) (W.alloc (.cells #[.int .i64 x, .int .i64 y] t)) (some ⟨b, 0, none⟩) [x, y].length [x, y] :=
  C_lit (t := t) (by subst hb; exact blk_new _ _) (by simp)

def okByte (first : Bool) (b : Int) : Bool := (decide (97 ≤ b) && decide (b ≤ 122)) || (!first && (b == 46 || (decide (48 ≤ b) && decide (b ≤ 57))))
def okTo (s : ByteArray) (k : Nat) : Bool := (List.range k).all fun i => okByte (i == 0) (bt s i)
def nameB (s : ByteArray) : Bool := !outB 1 16 [(s.size : Int)] && okTo s s.size

theorem bt_nat (s : ByteArray) (k : Nat) (h : k < s.size) : bt s (k : Int) = ((s[k]'h).toNat : Int) := by simp [bt, h]
theorem okTo_succ (s : ByteArray) (k : Nat) : okTo s (k + 1) = (okTo s k && okByte (k == 0) (bt s k)) := by simp [okTo, List.range_succ]
theorem okTo_le (s : ByteArray) {k n : Nat} (h : k ≤ n) (hf : okTo s k = false) : okTo s n = false := by
  induction n with
  | zero => have : k = 0 := by omega
            subst this; exact hf
  | succ n ih =>
    by_cases e : k = n + 1
    · subst e; exact hf
    · rw [okTo_succ, ih (by omega)]; rfl

theorem okByte_iff (k : Nat) (b : Int) : okByte (k == 0) b = true ↔ ((97 ≤ b ∧ b ≤ 122) ∨ (0 < k ∧ (b = 46 ∨ (48 ≤ b ∧ b ≤ 57)))) := by
  unfold okByte
  cases k <;> simp
theorem okByte_not (k : Nat) (b : Int) (h : ¬ ((97 ≤ b ∧ b ≤ 122) ∨ (0 < k ∧ (b = 46 ∨ (48 ≤ b ∧ b ≤ 57))))) : okByte (k == 0) b = false := by
  rw [Bool.eq_false_iff]; intro h'; exact h ((okByte_iff k b).1 h')

set_option maxHeartbeats 1000000 in
theorem Name_calls (s : ByteArray) (w : World) (hs : s.size ≤ 9223372036854775807) :
    Calls Try.prog 76 #[.string s] w fun e w' => e = .returned (.bool (nameB s)) ∧ Below w.heap.size w w' := by
  go_enter Try.func76, Try.ntmps76
  go_wp2
  go_loopw [7] (fun _ wr => ∃ k : Nat, k ≤ s.size ∧ wr = w.iter s k ∧ Aside0 (okTo s k = true)) (fun _ wr => s.size - wr.iterPos w.heap.size)
  case atStart => exact ⟨0, Nat.zero_le _, rfl, ⟨rfl⟩⟩
  case round =>
    obtain ⟨k, hk, rfl, HO⟩ := hrel
    by_cases hlt : k < s.size
    · by_cases ha : (s[k]'hlt).toNat < 128
      · have hn := fun ty => run_next_ascii (P := Try.prog) w s k ty hlt ha
        obtain ⟨b, hb⟩ : ∃ b : Int, ((s[k]'hlt).toNat : Int) = b := ⟨_, rfl⟩
        rw [hb] at hn
        have hbt : bt s k = b := by rw [← hb]; exact bt_nat s k hlt
        have hb0 : 0 ≤ b := by omega
        have HBT := Aside0.mk hbt
        clear hbt hb ha
        have HL : Aside0 (okByte (k == 0) b = false → nameB s = false) := ⟨fun h => by
          have : okTo s (k + 1) = false := by rw [okTo_succ, HBT.out, h]; simp
          rw [nameB, okTo_le s (show k + 1 ≤ s.size by omega) this]; simp⟩
        have HR : Aside0 (okByte (k == 0) b = true → okTo s (k + 1) = true) := ⟨fun h => by rw [okTo_succ, HBT.out, h, HO.out]; rfl⟩
        clear HO HBT
        by_cases h46 : b = 46
        · subst h46
          clear hb0
          go_wp2
          all_goals first
            | (go_roundw
               case rel => exact ⟨k + 1, by omega, rfl, ⟨HR.out ((okByte_iff _ _).2 (by omega))⟩⟩
               case measure => simp; omega)
            | (go_ret
               exact ⟨by rw [HL.out (okByte_not _ _ (by omega))]; rfl, below_alloc (Below.refl _ _) _⟩)
        · have h46' : (b == 46) = false := beq_eq_false_iff_ne.2 h46
          go_wp2
          all_goals first
            | (go_roundw
               case rel => exact ⟨k + 1, by omega, rfl, ⟨HR.out ((okByte_iff _ _).2 (by omega))⟩⟩
               case measure => simp; omega)
            | (go_ret
               exact ⟨by rw [HL.out (okByte_not _ _ (by omega))]; rfl, below_alloc (Below.refl _ _) _⟩)
      · have hn := fun ty => run_next_any (P := Try.prog) w s k ty hlt
        have hd := decode_high s k hlt (by omega)
        obtain ⟨r, hr⟩ : ∃ r, Utf8.decode s k = r := ⟨_, rfl⟩
        rw [hr] at hn hd
        obtain ⟨r, m⟩ := r
        have hr1 : ¬ ((r : Int) ≤ 122) := by have := hd.1; simp at this; omega
        have hr2 : ((r : Int) == 46) = false := beq_eq_false_iff_ne.2 (by omega)
        have hr3 : ¬ ((r : Int) ≤ 57) := by omega
        have HL : Aside0 (nameB s = false) := ⟨by
          have : okTo s (k + 1) = false := by
            rw [okTo_succ, okByte_not _ _ (by rw [bt_nat s k hlt]; omega)]; simp
          rw [nameB, okTo_le s (show k + 1 ≤ s.size by omega) this]; simp⟩
        clear hr hd ha
        go_wp2
        all_goals
          go_ret
          exact ⟨by rw [HL.out]; rfl, below_alloc (Below.refl _ _) _⟩
    · have hn := fun ty => run_next_end (P := Try.prog) w s k ty hlt
      obtain rfl : k = s.size := by omega
      go_wp2_with (go_at_call 121; refine (dout_calls 1 16 [(s.size : Int)] _ _ _ (lit1 _ (by simp [World.iter]))).mono ?_; rintro e w1 ⟨rfl, rfl⟩)
      go_ret
      exact ⟨by rw [nameB, HO.out]; simp, below_alloc (below_alloc (Below.refl _ _) _) _⟩
def idxFrom {α : Type} (p : α → Bool) : List α → Nat → Int
  | [], _ => -1
  | x :: xs, k => if p x then k else idxFrom p xs (k + 1)
theorem idxFrom_pos {α : Type} (p : α → Bool) : ∀ (l : List α) (k : Nat), decide (0 ≤ idxFrom p l k) = l.any p
  | [], _ => by simp [idxFrom]
  | x :: xs, k => by
    unfold idxFrom
    by_cases h : p x = true
    · rw [if_pos h]; simp [h]
    · rw [if_neg h, idxFrom_pos p xs (k + 1)]; simp [h]

def firstE {α : Type} (E : Nat → α → Int) : List α → Nat → Int × Int
  | [], _ => (0, 0)
  | x :: xs, k => if E k x = 0 then firstE E xs (k + 1) else (k, E k x)
def firstL {α : Type} (l : List α) (least most : Int) (E : Nat → α → Int) : Int × Int := if outB least most [(l.length : Int)] then (0, 3) else firstE E l 0


abbrev Gl := S95
abbrev Sp := S24
abbrev Dr := S72
theorem at_gl {w : World} {A : Option Addr} {n : Nat} {xs : List Gl} (h : Kd.C k95 w A n xs) (k : Nat) (hk : k < n) : ∃ ad, A = some ad ∧ w.cell? (ad.add (k * 3)) = some (.string (rd_T95 xs k).f0) ∧ w.cell? ⟨(ad.add (k * 3)).block, (ad.add (k * 3)).off + 1, none⟩ = some (.int .i64 (rd_T95 xs k).f1.f0) ∧ w.cell? ⟨(ad.add (k * 3)).block, (ad.add (k * 3)).off + 2, none⟩ = some (.int .i64 (rd_T95 xs k).f1.f1) := by
  have := at_T95 h (k : Int) (by omega) (by omega)
  simpa only [Int.toNat_natCast] using this
theorem at_sp {w : World} {A : Option Addr} {n : Nat} {xs : List Sp} (h : Kd.C k24 w A n xs) (k : Nat) (hk : k < n) : ∃ ad, A = some ad ∧ w.cell? (ad.add (k * 2)) = some (.int .i64 (rd_T24 xs k).f0) ∧ w.cell? ⟨(ad.add (k * 2)).block, (ad.add (k * 2)).off + 1, none⟩ = some (.int .i64 (rd_T24 xs k).f1) := by
  have := at_T24 h (k : Int) (by omega) (by omega)
  simpa only [Int.toNat_natCast] using this
theorem at_dr {w : World} {A : Option Addr} {n : Nat} {xs : List Dr} (h : Kd.C k72 w A n xs) (k : Nat) (hk : k < n) : ∃ ad, A = some ad ∧ w.cell? (ad.add (k * 3)) = some (.int .i64 (rd_T72 xs k).f0) ∧ w.cell? ⟨(ad.add (k * 3)).block, (ad.add (k * 3)).off + 1, none⟩ = some (.int .i64 (rd_T72 xs k).f1) ∧ w.cell? ⟨(ad.add (k * 3)).block, (ad.add (k * 3)).off + 2, none⟩ = some (.int .i64 (rd_T72 xs k).f2) := by
  have := at_T72 h (k : Int) (by omega) (by omega)
  simpa only [Int.toNat_natCast] using this
theorem gl_at (xs : List Gl) (k : Nat) (hk : k < xs.length) : rd_T95 xs (k : Int) = xs[k] := by simp [rd_T95, hk]
theorem sp_at (xs : List Sp) (k : Nat) (hk : k < xs.length) : rd_T24 xs (k : Int) = xs[k] := by simp [rd_T24, hk]
theorem dr_at (xs : List Dr) (k : Nat) (hk : k < xs.length) : rd_T72 xs (k : Int) = xs[k] := by simp [rd_T72, hk]
end Go.Proofs.Ytgoidclnccjdeaa.D
end
section
/- General lemmas of this session's own: bits of int. -/
namespace Go.Proofs.YtgoidclnccjdeaaK
open Go Go.RowKit
set_option linter.unusedVariables false

theorem wraps_i64 (n : Int) (h₀ : 0 ≤ n) (h₁ : n < 2 ^ 62) : IntKind.i64.wrap n = n := by rw [IntKind.wrap_i64]; omega
theorem and_i64 (a b : Nat) (ha : a < 2 ^ 62) (hb : b < 2 ^ 62) : bits .and .i64 (a : Int) (b : Int) = ((a &&& b : Nat) : Int) := (bits_nat .i64 62 (by decide) wraps_i64 a b ha hb).1
theorem or_i64 (a b : Nat) (ha : a < 2 ^ 62) (hb : b < 2 ^ 62) : bits .or .i64 (a : Int) (b : Int) = ((a ||| b : Nat) : Int) := (bits_nat .i64 62 (by decide) wraps_i64 a b ha hb).2
theorem bit1 (a k : Nat) (ha : a < 2 ^ 62) : bits .and .i64 ((a : Int) / 2 ^ k) 1 = if a.testBit k = true then 1 else 0 := by
  have e : ((a : Int) / 2 ^ k) = ((a / 2 ^ k : Nat) : Int) := by push_cast; rfl
  have h := and_i64 (a / 2 ^ k) 1 (Nat.lt_of_le_of_lt (Nat.div_le_self _ _) ha) (by decide)
  rw [e, show ((1 : Int)) = ((1 : Nat) : Int) from rfl, h, Nat.and_one_is_mod, Nat.testBit_eq_decide_div_mod_eq]
  by_cases hb : a / 2 ^ k % 2 = 1
  · simp [hb]
  · have : a / 2 ^ k % 2 = 0 := by omega
    simp [this]
theorem shl1 (k : Nat) (hk : k < 62) : IntKind.i64.wrap (1 * 2 ^ k) = ((2 ^ k : Nat) : Int) := by
  have : (2 : Nat) ^ k < 2 ^ 62 := Nat.pow_lt_pow_right (by decide) hk
  rw [Int.one_mul, wraps_i64 _ (Int.pow_nonneg (by decide)) (by exact_mod_cast this)]; push_cast; rfl
end Go.Proofs.YtgoidclnccjdeaaK
end
section
/- Package glass: Check and what it calls. -/
namespace Go.Proofs.Ytgoidclnccjdeaa.D
open Go Go.RowKit Go.Proofs.YtgoidclnccjdeaaK Go.Proofs.YtgoidclnccjdeaaW.PrintWords Go.Proofs.YtgoidclnccjdeaaW.PrintLast Go.Proofs.YtgoidclnccjdeaaW.PrintMore Go.Proofs.Ytgoidclnccjdeaa.PR
set_option linter.unusedVariables false
set_option linter.unusedSimpArgs false

theorem outB_cons (lo hi x : Int) (l : List Int) : outB lo hi (x :: l) = false ↔ (lo ≤ x ∧ x ≤ hi) ∧ outB lo hi l = false := by
  simp [outB]
theorem outB_nil (lo hi : Int) : outB lo hi [] = false := rfl

def endsE (lo hi a b : Int) : Int := if outB a b [lo, hi] then 7 else if outB 0 2 [hi - lo] then 2 else 0

set_option maxRecDepth 100000 in
set_option maxHeartbeats 400000 in
theorem ends_calls (lo hi a b : Int) (w : World) (ha : 0 ≤ a) (hb : b ≤ 1000) :
    Calls Try.prog 79 #[.agg #[.int .i64 lo, .int .i64 hi], .int .i64 a, .int .i64 b] w fun e w' => e = .returned (.int .i64 (endsE lo hi a b)) ∧ Below w.heap.size w w' := by
  go_enter Try.func79, Try.ntmps79
  obtain ⟨o, ho⟩ : ∃ o, outB a b [lo, hi] = o := ⟨_, rfl⟩
  obtain ⟨q, hq⟩ : ∃ q, outB 0 2 [hi - lo] = q := ⟨_, rfl⟩
  have HO := Aside0.mk ho
  have HQ := Aside0.mk hq
  clear hq
  cases o
  · simp only [outB_cons, outB_nil, and_true] at ho
    obtain ⟨⟨h1, h2⟩, h3, h4⟩ := ho
    go_wp2_with fail
    refine (out_calls a b [lo, hi] _ _ _ (lit2 lo hi (by simp))).mono ?_
    rw [HO.out]
    rintro e w1 ⟨rfl, rfl⟩
    go_wp2_with fail
    refine (out_calls 0 2 [hi - lo] _ _ _ (lit1 (hi - lo) (by simp))).mono ?_
    rw [HQ.out]
    rintro e w1 ⟨rfl, rfl⟩
    cases q
    all_goals
      go_wp2_with fail
      go_ret
      exact ⟨by rw [endsE, HO.out, HQ.out]; rfl, below_alloc (below_alloc (below_alloc (Below.refl _ _) _) _) _⟩
  · clear ho
    go_wp2_with fail
    refine (out_calls a b [lo, hi] _ _ _ (lit2 lo hi (by simp))).mono ?_
    rw [HO.out]
    rintro e w1 ⟨rfl, rfl⟩
    go_wp2_with fail
    go_ret
    exact ⟨by rw [endsE, HO.out]; rfl, below_alloc (below_alloc (Below.refl _ _) _) _⟩

def sameName (d x : Gl) : Bool := x.f0.toList == d.f0.toList
set_option maxRecDepth 100000 in
set_option maxHeartbeats 400000 in
theorem C11_calls (x d : Gl) (q : Nat) (w : World) (hq : w.heap[q]? = some (.cells #[.string d.f0, .int .i64 d.f1.f0, .int .i64 d.f1.f1] 95 (0, 0))) :
    Calls Try.prog 78 #[.agg #[.string x.f0, .int .i64 x.f1.f0, .int .i64 x.f1.f1], .pointer (some ⟨q, 0, none⟩)] w fun e w' => e = .returned (.bool (sameName d x)) ∧ Below w.heap.size w w' := by
  have h0 : w.cell? ⟨q, 0, none⟩ = some (.string d.f0) := (blk_cell hq 0).trans rfl
  have hlt := blk_lt hq
  clear hq
  go_enter Try.func78, Try.ntmps78
  go_wp2
  all_goals (go_ret; exact ⟨by simp [sameName], below_alloc (Below.refl _ _) _⟩)
set_option maxRecDepth 100000 in
set_option maxHeartbeats 400000 in
theorem indexS_calls (l : List Gl) (n : Nat) (d : Gl) (q : Nat) (A : Option Addr) (c : Nat) (w : World) (hr : Kd.C k95 w A n l) (hq : w.heap[q]? = some (.cells #[.string d.f0, .int .i64 d.f1.f0, .int .i64 d.f1.f1] 95 (0, 0))) :
    Calls Try.prog 122 #[.slice A n c, .func (.func 78) #[] #[.pointer (some ⟨q, 0, none⟩)]] w fun e w' => e = .returned (.int .i64 (idxFrom (sameName d) l 0)) ∧ Below w.heap.size w w' := by
  obtain rfl := hr.1
  have hlen := hr.2.1
  have HR := Aside0.mk hr
  have HQ := Aside0.mk hq
  clear hr hq
  go_enter Try.func122, Try.ntmps122
  go_wp2
  go_loopw [5, 8] (fun i j wr => ∃ k : Nat, k ≤ l.length ∧ j = .int .i64 k ∧ Aside0 (idxFrom (sameName d) l 0 = idxFrom (sameName d) (l.drop k) k) ∧ Aside0 (Below w.heap.size w wr)) (fun i j _ => l.length - (intOf j).toNat)
  case atStart => exact ⟨0, Nat.zero_le _, rfl, ⟨rfl⟩, ⟨Below.refl _ _⟩⟩
  case round =>
    obtain ⟨k, hk, rfl, HO, HB⟩ := hrel
    by_cases hlt : k < l.length
    · obtain ⟨ad, e, hc0, hc1, hc2⟩ := at_gl (Kd.C_below HR.out HB.out) k hlt
      subst e
      rw [gl_at _ _ hlt] at hc0 hc1 hc2
      have HO2 := Aside0.mk (show idxFrom (sameName d) l 0 = if sameName d l[k] then (k : Int) else idxFrom (sameName d) (l.drop (k + 1)) (k + 1) by
        rw [HO.out, List.drop_eq_getElem_cons hlt]; rfl)
      clear HO
      generalize l[k] = x at *
      have hq1 := blk_below HQ.out HB.out
      by_cases hs : sameName d x = true
      · have hs' := Aside0.mk hs
        clear hs
        go_wp2_with (go_at_call 78; refine (C11_calls x d q _ (by assumption)).mono ?_; rintro e w1 ⟨rfl, hb1⟩; rw [hs'.out])
        go_ret
        exact ⟨by rw [HO2.out, if_pos hs'.out]; rfl, HB.out.trans (hb1.mono HB.out.size)⟩
      · have hs' := Aside0.mk (Bool.eq_false_iff.2 hs)
        clear hs
        go_wp2_with (go_at_call 78; refine (C11_calls x d q _ (by assumption)).mono ?_; rintro e w1 ⟨rfl, hb1⟩; rw [hs'.out])
        go_roundw
        case rel => exact ⟨k + 1, by omega, by go_num, ⟨by rw [HO2.out, if_neg (by rw [hs'.out]; simp)]⟩, ⟨HB.out.trans (hb1.mono HB.out.size)⟩⟩
        case measure => simp [intOf]; omega
    · obtain rfl : k = l.length := by omega
      go_wp2
      go_ret
      exact ⟨by rw [HO.out]; simp [idxFrom], HB.out⟩

set_option maxRecDepth 100000 in
set_option maxHeartbeats 400000 in
theorem containsS_calls (l : List Gl) (n : Nat) (d : Gl) (q : Nat) (A : Option Addr) (c : Nat) (w : World) (hr : Kd.C k95 w A n l) (hq : w.heap[q]? = some (.cells #[.string d.f0, .int .i64 d.f1.f0, .int .i64 d.f1.f1] 95 (0, 0))) :
    Calls Try.prog 77 #[.slice A n c, .func (.func 78) #[] #[.pointer (some ⟨q, 0, none⟩)]] w fun e w' => e = .returned (.bool (l.any (sameName d))) ∧ Below w.heap.size w w' := by
  have HR := Aside0.mk hr
  have HQ := Aside0.mk hq
  clear hr hq
  go_enter Try.func77, Try.ntmps77
  go_wp2_with (go_at_call 122; refine (indexS_calls l n d q _ _ _ HR.out HQ.out).mono ?_; rintro e w1 ⟨rfl, hb1⟩)
  go_ret
  exact ⟨by rw [← idxFrom_pos (sameName d) l 0]; rfl, hb1⟩

def errG (l : List Gl) (i : Nat) (g : Gl) : Int := if nameB g.f0 = false then 6 else if (l.take i).any (sameName g) then 5 else endsE g.f1.f0 g.f1.f1 1 40
def errP (_ : Nat) (x : Sp) : Int := endsE x.f0 x.f1 1 60
def errD (n m : Nat) (_ : Nat) (d : Dr) : Int := if outB (-1) ((n : Int) - 1) [d.f0] then 4 else if outB 0 9 [d.f1] then 7 else if outB 0 (((2 ^ m : Nat) : Int) - 1) [d.f2] then 4 else 0

set_option maxRecDepth 100000 in
set_option maxHeartbeats 400000 in
theorem C1_calls (l : List Gl) (i : Nat) (g : Gl) (bs : Nat) (A : Option Addr) (c : Nat) (v1 v2 v3 v4 : Value) (w : World)
    (hr : Kd.C k95 w A l.length l) (hc : l.length ≤ c) (hi' : i ≤ l.length) (hgn : g.f0.size ≤ 9223372036854775807) (hs : w.heap[bs]? = some (.cells #[.slice A l.length c, v1, v2, v3, v4] 28 (0, 0))) :
    Calls Try.prog 75 #[.int .i64 i, .agg #[.string g.f0, .int .i64 g.f1.f0, .int .i64 g.f1.f1], .pointer (some ⟨bs, 0, none⟩)] w fun e w' => e = .returned (.int .i64 (errG l i g)) ∧ Below w.heap.size w w' := by
  have hlen := hr.2.1
  have HR := Aside0.mk hr
  have HS := Aside0.mk hs
  have hlt := blk_lt hs
  clear hr hs
  have HB0 := Aside0.mk (below_alloc (Below.refl w.heap.size w) (.cells #[.string g.f0, .int .i64 g.f1.f0, .int .i64 g.f1.f1] 95))
  have HX0 := Aside0.mk (blk_new w (.cells #[.string g.f0, .int .i64 g.f1.f0, .int .i64 g.f1.f1] 95))
  go_enter Try.func75, Try.ntmps75
  go_upto_region 1 with (fail)
  generalize w.alloc (.cells #[.string g.f0, .int .i64 g.f1.f0, .int .i64 g.f1.f1] 95) = w1 at HB0 HX0 ⊢
  obtain ⟨q, hq⟩ : ∃ q, w.heap.size = q := ⟨_, rfl⟩
  rw [hq] at HX0 ⊢
  have k0 := (blk_cell HX0.out 0).trans rfl
  have kl := blk_lt HX0.out
  go_wp2_with fail
  refine (Name_calls g.f0 w1 hgn).mono ?_
  rintro e w2 ⟨rfl, hb⟩
  obtain ⟨nb, hnb⟩ : ∃ nb, nameB g.f0 = nb := ⟨_, rfl⟩
  rw [hnb]
  have HN := Aside0.mk hnb
  have HX := Aside0.mk (blk_below HX0.out hb)
  have HB := Aside0.mk (HB0.out.trans (hb.mono HB0.out.size))
  clear hnb hb k0 kl HX0 HB0
  cases nb
  · go_wp2_with fail
    go_ret
    exact ⟨by rw [errG, HN.out]; rfl, HB.out⟩
  · have hs0 : w2.cell? ⟨bs, 0, none⟩ = some (.slice A l.length c) := (blk_cell (blk_below HS.out HB.out) 0).trans rfl
    have hsl := blk_lt (blk_below HS.out HB.out)
    go_wp2_with fail
    refine (containsS_calls (l.take i) i g q _ _ _ (C_take (Kd.C_below HR.out HB.out) i hi') HX.out).mono ?_
    rintro e w3 ⟨rfl, hb⟩
    obtain ⟨b, hbb⟩ : ∃ b, (l.take i).any (sameName g) = b := ⟨_, rfl⟩
    rw [hbb]
    have HA := Aside0.mk hbb
    replace HX := Aside0.mk (blk_below HX.out hb)
    replace HB := Aside0.mk (HB.out.trans (hb.mono HB.out.size))
    clear hbb hb hs0 hsl
    cases b
    · have k1 := (blk_cell HX.out 1).trans rfl
      have k2 := (blk_cell HX.out 2).trans rfl
      have kl := blk_lt HX.out
      go_wp2_with fail
      refine (ends_calls g.f1.f0 g.f1.f1 1 40 w3 (by decide) (by decide)).mono ?_
      rintro e w4 ⟨rfl, hb⟩
      replace HB := Aside0.mk (HB.out.trans (hb.mono HB.out.size))
      clear hb k1 k2 kl
      go_wp2_with fail
      go_ret
      exact ⟨by rw [errG, HN.out, HA.out]; rfl, HB.out⟩
    · go_wp2_with fail
      go_ret
      exact ⟨by rw [errG, HN.out, HA.out]; rfl, HB.out⟩
theorem enters_C1 (args : Array Value) (w : World) : (callFunc 75 args).run Try.prog w = .ok (.enter 75 args) w := enters_of Try.func75 (by kernel_rfl) rfl args w

set_option maxRecDepth 100000 in
set_option maxHeartbeats 400000 in
theorem C2_calls (i : Int) (x : Sp) (w : World) : Calls Try.prog 81 #[.int .i64 i, .agg #[.int .i64 x.f0, .int .i64 x.f1]] w fun e w' => e = .returned (.int .i64 (errP 0 x)) ∧ Below w.heap.size w w' := by
  go_enter Try.func81, Try.ntmps81
  go_wp2_with fail
  have HB0 := Aside0.mk (below_alloc (Below.refl w.heap.size w) (.cells #[.int .i64 x.f0, .int .i64 x.f1] 24))
  refine (ends_calls x.f0 x.f1 1 60 _ (by decide) (by decide)).mono ?_
  rintro e w4 ⟨rfl, hb⟩
  replace HB := Aside0.mk (HB0.out.trans (hb.mono HB0.out.size))
  clear hb HB0
  go_wp2_with fail
  go_ret
  exact ⟨rfl, HB.out⟩
theorem enters_C2 (args : Array Value) (w : World) : (callFunc 81 args).run Try.prog w = .ok (.enter 81 args) w := enters_of Try.func81 (by kernel_rfl) rfl args w

theorem shl_i64 {m : Nat} (h : m < 62) : wrap64 (2 ^ m) = ((2 ^ m : Nat) : Int) := by
  have := shl1 m h
  rw [Int.one_mul] at this
  rw [← i64_w]; exact this

set_option maxRecDepth 100000 in
set_option maxHeartbeats 400000 in
theorem C3_calls (n m : Nat) (i : Int) (d : Dr) (bs : Nat) (A A3 : Option Addr) (c c3 : Nat) (v1 v2 v4 : Value) (w : World)
    (hn : n ≤ 3) (hm : m ≤ 4) (hs : w.heap[bs]? = some (.cells #[.slice A n c, v1, v2, .slice A3 m c3, v4] 28 (0, 0))) :
    Calls Try.prog 83 #[.int .i64 i, .agg #[.int .i64 d.f0, .int .i64 d.f1, .int .i64 d.f2], .pointer (some ⟨bs, 0, none⟩)] w fun e w' => e = .returned (.int .i64 (errD n m 0 d)) ∧ Below w.heap.size w w' := by
  have HS := Aside0.mk hs
  have hs0 : w.cell? ⟨bs, 0, none⟩ = some (.slice A n c) := (blk_cell hs 0).trans rfl
  have hs3 : w.cell? ⟨bs, 3, none⟩ = some (.slice A3 m c3) := (blk_cell hs 3).trans rfl
  have hlt := blk_lt hs
  have hsh := shl_i64 (m := m) (by omega)
  have hpw : 2 ^ m ≤ 16 := Nat.pow_le_pow_right (n := 2) (by decide) hm
  have hmm : min m 64 = m := by omega
  obtain ⟨M, hM⟩ : ∃ M, 2 ^ m = M := ⟨_, rfl⟩
  have HD : Aside0 (∀ r, (if outB (-1) ((n : Int) - 1) [d.f0] then 4 else if outB 0 9 [d.f1] then 7 else if outB 0 ((M : Int) - 1) [d.f2] then 4 else 0) = r → errD n m 0 d = r) := ⟨fun r hr => by rw [errD, hM]; exact hr⟩
  rw [hM] at hsh hpw
  have HSW : Aside0 (IntKind.i64.wrap (IntKind.i64.wrap (2 ^ m) - 1) = (M : Int) - 1) := ⟨by
    have e : IntKind.i64.wrap (2 ^ m) = (M : Int) := by rw [i64_w]; exact hsh
    rw [e, i64_w, show wrap64 ((M : Int) - 1) = (M : Int) - 1 by unfold wrap64; omega]⟩
  have HSH := Aside0.mk hsh
  clear hs hM hsh
  obtain ⟨o1, ho1⟩ : ∃ o, outB (-1) ((n : Int) - 1) [d.f0] = o := ⟨_, rfl⟩
  obtain ⟨o2, ho2⟩ : ∃ o, outB 0 9 [d.f1] = o := ⟨_, rfl⟩
  obtain ⟨o3, ho3⟩ : ∃ o, outB 0 ((M : Int) - 1) [d.f2] = o := ⟨_, rfl⟩
  have H1 := Aside0.mk ho1
  have H2 := Aside0.mk ho2
  have H3 := Aside0.mk ho3
  clear ho1 ho2 ho3
  go_enter Try.func83, Try.ntmps83
  go_upto_region 1 with (fail)
  have c2 := blk_alloc (blk_alloc (blk_new w (.cells #[.int .i64 d.f0, .int .i64 d.f1, .int .i64 d.f2] 72)) (.cells #[.int .i64 d.f0] 3)) (.cells #[.int .i64 d.f1] 3)
  have c3 := blk_alloc (blk_alloc (blk_alloc HS.out (.cells #[.int .i64 d.f0, .int .i64 d.f1, .int .i64 d.f2] 72)) (.cells #[.int .i64 d.f0] 3)) (.cells #[.int .i64 d.f1] 3)
  have HX := Aside0.mk c2
  have HS3 := Aside0.mk c3
  have HB0 := Aside0.mk (below_alloc (below_alloc (below_alloc (Below.refl w.heap.size w) (.cells #[.int .i64 d.f0, .int .i64 d.f1, .int .i64 d.f2] 72)) (.cells #[.int .i64 d.f0] 3)) (.cells #[.int .i64 d.f1] 3))
  clear c2 c3
  go_wp2_with fail
  refine (out_calls (-1) ((n : Int) - 1) [d.f0] _ _ _ (lit1 d.f0 (by simp))).mono ?_
  rw [H1.out]
  rintro e w1 ⟨rfl, rfl⟩
  cases o1
  · go_wp2_with fail
    refine (out_calls 0 9 [d.f1] _ _ _ (lit1 d.f1 (by simp))).mono ?_
    rw [H2.out]
    rintro e w1 ⟨rfl, rfl⟩
    cases o2
    · go_wp2_with fail
      generalize ((w.alloc (.cells #[.int .i64 d.f0, .int .i64 d.f1, .int .i64 d.f2] 72)).alloc (.cells #[.int .i64 d.f0] 3)).alloc (.cells #[.int .i64 d.f1] 3) = w1 at HX HS3 HB0 ⊢
      obtain ⟨q, hq⟩ : ∃ q, w.heap.size = q := ⟨_, rfl⟩
      rw [hq] at HX ⊢
      clear hq hs0 hs3 hlt
      have hs3 : w1.cell? ⟨bs, 3, none⟩ = some (.slice A3 m c3) := (blk_cell HS3.out 3).trans rfl
      have x2 : w1.cell? ⟨q, 2, none⟩ = some (.int .i64 d.f2) := (blk_cell HX.out 2).trans rfl
      cases o3
      · go_region_held3 (fun w' => w'.cell? ⟨bs, 3, none⟩ = some (.slice A3 m c3) ∧ w'.cell? ⟨q, 2, none⟩ = some (.int .i64 d.f2)) (first | (refine ⟨(blk_cell (blk_below HS3.out (by repeat (first | assumption | exact Below.refl _ _ | apply below_alloc | apply below_drew1))) 3).trans rfl, (blk_cell (blk_below HX.out (by repeat (first | assumption | exact Below.refl _ _ | apply below_alloc | apply below_drew1))) 2).trans rfl⟩)) (first | (go_at_call 84; rw [HSW.out]; refine (out_calls 0 ((M : Int) - 1) [d.f2] _ _ _ (Kd.C_drew (lit1 d.f2 rfl))).mono ?_; rintro e w2 ⟨rfl, rfl⟩; rw [H3.out]))
        go_wp2
        go_ret
        exact ⟨by rw [show errD n m 0 d = 0 from HD.out _ (by rw [H1.out, H2.out, H3.out]; rfl)]; rfl, by repeat (first | exact HB0.out | apply below_alloc | apply below_drew1 | apply pw_below_drewN)⟩
      · go_region_held3 (fun w' => w'.cell? ⟨bs, 3, none⟩ = some (.slice A3 m c3) ∧ w'.cell? ⟨q, 2, none⟩ = some (.int .i64 d.f2)) (first | (refine ⟨(blk_cell (blk_below HS3.out (by repeat (first | assumption | exact Below.refl _ _ | apply below_alloc | apply below_drew1))) 3).trans rfl, (blk_cell (blk_below HX.out (by repeat (first | assumption | exact Below.refl _ _ | apply below_alloc | apply below_drew1))) 2).trans rfl⟩)) (first | (go_at_call 84; rw [HSW.out]; refine (out_calls 0 ((M : Int) - 1) [d.f2] _ _ _ (Kd.C_drew (lit1 d.f2 rfl))).mono ?_; rintro e w2 ⟨rfl, rfl⟩; rw [H3.out]))
        go_wp2
        go_ret
        exact ⟨by rw [show errD n m 0 d = 4 from HD.out _ (by rw [H1.out, H2.out, H3.out]; rfl)]; rfl, by repeat (first | exact HB0.out | apply below_alloc | apply below_drew1 | apply pw_below_drewN)⟩
    · go_wp2_with fail
      go_ret
      exact ⟨by rw [show errD n m 0 d = 7 from HD.out _ (by rw [H1.out, H2.out]; rfl)]; rfl, HB0.out⟩
  · go_wp2_with fail
    go_ret
    exact ⟨by rw [show errD n m 0 d = 4 from HD.out _ (by rw [H1.out]; rfl)]; rfl, below_alloc (below_alloc (Below.refl _ _) _) _⟩

theorem enters_C3 (args : Array Value) (w : World) : (callFunc 83 args).run Try.prog w = .ok (.enter 83 args) w := enters_of Try.func83 (by kernel_rfl) rfl args w

set_option maxRecDepth 100000 in
set_option maxHeartbeats 1000000 in
theorem first1_calls (l : List Gl) (least most : Int) (f : Nat) (caps : Array Value) (E : Nat → Gl → Int) (A : Option Addr) (c : Nat) (w : World) (hr : Kd.C k95 w A l.length l)
    (he : ∀ args w, (callFunc f args).run Try.prog w = .ok (.enter f args) w)
    (hf : ∀ (i : Nat) (x : Gl) (V : World), i < l.length → x ∈ l → Below w.heap.size w V → Calls Try.prog f (#[.int .i64 i, .agg #[.string x.f0, .int .i64 x.f1.f0, .int .i64 x.f1.f1]] ++ caps) V fun e V' => e = .returned (.int .i64 (E i x)) ∧ Below V.heap.size V V') :
    Calls Try.prog 74 #[.slice A l.length c, .int .i64 least, .int .i64 most, .func (.func f) #[] caps] w
      fun e w' => e = .returned (.tuple #[.int .i64 (firstL l least most E).1, .int .i64 (firstL l least most E).2]) ∧ Below w.heap.size w w' := by
  have hlen := hr.2.1
  have HR := Aside0.mk hr
  have HF := Aside0.mk hf
  clear hr hf
  obtain ⟨o, ho⟩ : ∃ o, outB least most [(l.length : Int)] = o := ⟨_, rfl⟩
  have HO := Aside0.mk ho
  clear ho
  go_enter Try.func74, Try.ntmps74
  have HB0 := Aside0.mk (below_alloc (Below.refl w.heap.size w) (.cells #[.int .i64 (l.length : Int)] 3))
  cases o
  · go_wp2_with fail
    refine (out_calls least most [(l.length : Int)] _ _ _ (lit1 (l.length : Int) (by simp))).mono ?_
    rw [HO.out]
    rintro e w1 ⟨rfl, rfl⟩
    go_wp2_with fail
    generalize w.alloc (.cells #[.int .i64 (l.length : Int)] 3) = w1 at HB0 ⊢
    go_loopw [21] (fun j wr => ∃ k : Nat, k ≤ l.length ∧ j = .int .i64 k ∧ Aside0 (firstL l least most E = firstE E (l.drop k) k) ∧ Aside0 (Below w.heap.size w wr)) (fun j _ => l.length - (intOf j).toNat)
    case atStart => exact ⟨0, Nat.zero_le _, rfl, ⟨by rw [firstL, HO.out]; rfl⟩, HB0⟩
    case round =>
      obtain ⟨k, hk, rfl, HO1, HB⟩ := hrel
      by_cases hlt : k < l.length
      · obtain ⟨ad, e, hc0, hc1, hc2⟩ := at_gl (Kd.C_below HR.out HB.out) k hlt
        subst e
        rw [gl_at _ _ hlt] at hc0 hc1 hc2
        have HO2 := Aside0.mk (show firstL l least most E = if E k l[k] = 0 then firstE E (l.drop (k + 1)) (k + 1) else (k, E k l[k]) by
          rw [HO1.out, List.drop_eq_getElem_cons hlt]; rfl)
        have HM := Aside0.mk (List.getElem_mem hlt)
        clear HO1
        generalize l[k] = x at *
        obtain ⟨Ev, hE⟩ : ∃ Ev, E k x = Ev := ⟨_, rfl⟩
        have HE := Aside0.mk hE
        clear hE
        have HB2 := Aside0.mk (below_alloc HB.out (.cells #[.string x.f0, .int .i64 x.f1.f0, .int .i64 x.f1.f1] 95))
        by_cases h0 : Ev = 0
        all_goals
          go_wp2_with (refine (HF.out k x _ hlt HM.out HB2.out).mono ?_; rintro e w1 ⟨rfl, hb1⟩; rw [HE.out])
          first
            | (go_roundw
               case rel => exact ⟨k + 1, by omega, by go_num, ⟨by rw [HO2.out, HE.out, if_pos (by assumption)]⟩, ⟨HB2.out.trans (hb1.mono HB2.out.size)⟩⟩
               case measure => simp [intOf]; omega)
            | (go_ret2
               exact ⟨by rw [HO2.out, HE.out, if_neg (by assumption)]; rfl, HB2.out.trans (hb1.mono HB2.out.size)⟩)
      · obtain rfl : k = l.length := by omega
        go_wp2
        go_ret2
        exact ⟨by rw [HO1.out]; simp [firstE], HB.out⟩
  · go_wp2_with fail
    refine (out_calls least most [(l.length : Int)] _ _ _ (lit1 (l.length : Int) (by simp))).mono ?_
    rw [HO.out]
    rintro e w1 ⟨rfl, rfl⟩
    go_wp2_with fail
    go_ret2
    exact ⟨by rw [firstL, HO.out]; rfl, HB0.out⟩

set_option maxRecDepth 100000 in
set_option maxHeartbeats 1000000 in
theorem first2_calls (l : List Sp) (least most : Int) (f : Nat) (caps : Array Value) (E : Nat → Sp → Int) (A : Option Addr) (c : Nat) (w : World) (hr : Kd.C k24 w A l.length l)
    (he : ∀ args w, (callFunc f args).run Try.prog w = .ok (.enter f args) w)
    (hf : ∀ (i : Nat) (x : Sp) (V : World), i < l.length → x ∈ l → Below w.heap.size w V → Calls Try.prog f (#[.int .i64 i, .agg #[.int .i64 x.f0, .int .i64 x.f1]] ++ caps) V fun e V' => e = .returned (.int .i64 (E i x)) ∧ Below V.heap.size V V') :
    Calls Try.prog 80 #[.slice A l.length c, .int .i64 least, .int .i64 most, .func (.func f) #[] caps] w
      fun e w' => e = .returned (.tuple #[.int .i64 (firstL l least most E).1, .int .i64 (firstL l least most E).2]) ∧ Below w.heap.size w w' := by
  have hlen := hr.2.1
  have HR := Aside0.mk hr
  have HF := Aside0.mk hf
  clear hr hf
  obtain ⟨o, ho⟩ : ∃ o, outB least most [(l.length : Int)] = o := ⟨_, rfl⟩
  have HO := Aside0.mk ho
  clear ho
  go_enter Try.func80, Try.ntmps80
  have HB0 := Aside0.mk (below_alloc (Below.refl w.heap.size w) (.cells #[.int .i64 (l.length : Int)] 3))
  cases o
  · go_wp2_with fail
    refine (out_calls least most [(l.length : Int)] _ _ _ (lit1 (l.length : Int) (by simp))).mono ?_
    rw [HO.out]
    rintro e w1 ⟨rfl, rfl⟩
    go_wp2_with fail
    generalize w.alloc (.cells #[.int .i64 (l.length : Int)] 3) = w1 at HB0 ⊢
    go_loopw [21] (fun j wr => ∃ k : Nat, k ≤ l.length ∧ j = .int .i64 k ∧ Aside0 (firstL l least most E = firstE E (l.drop k) k) ∧ Aside0 (Below w.heap.size w wr)) (fun j _ => l.length - (intOf j).toNat)
    case atStart => exact ⟨0, Nat.zero_le _, rfl, ⟨by rw [firstL, HO.out]; rfl⟩, HB0⟩
    case round =>
      obtain ⟨k, hk, rfl, HO1, HB⟩ := hrel
      by_cases hlt : k < l.length
      · obtain ⟨ad, e, hc0, hc1⟩ := at_sp (Kd.C_below HR.out HB.out) k hlt
        subst e
        rw [sp_at _ _ hlt] at hc0 hc1
        have HO2 := Aside0.mk (show firstL l least most E = if E k l[k] = 0 then firstE E (l.drop (k + 1)) (k + 1) else (k, E k l[k]) by
          rw [HO1.out, List.drop_eq_getElem_cons hlt]; rfl)
        have HM := Aside0.mk (List.getElem_mem hlt)
        clear HO1
        generalize l[k] = x at *
        obtain ⟨Ev, hE⟩ : ∃ Ev, E k x = Ev := ⟨_, rfl⟩
        have HE := Aside0.mk hE
        clear hE
        have HB2 := Aside0.mk (below_alloc HB.out (.cells #[.int .i64 x.f0, .int .i64 x.f1] 24))
        by_cases h0 : Ev = 0
        all_goals
          go_wp2_with (refine (HF.out k x _ hlt HM.out HB2.out).mono ?_; rintro e w1 ⟨rfl, hb1⟩; rw [HE.out])
          first
            | (go_roundw
               case rel => exact ⟨k + 1, by omega, by go_num, ⟨by rw [HO2.out, HE.out, if_pos (by assumption)]⟩, ⟨HB2.out.trans (hb1.mono HB2.out.size)⟩⟩
               case measure => simp [intOf]; omega)
            | (go_ret2
               exact ⟨by rw [HO2.out, HE.out, if_neg (by assumption)]; rfl, HB2.out.trans (hb1.mono HB2.out.size)⟩)
      · obtain rfl : k = l.length := by omega
        go_wp2
        go_ret2
        exact ⟨by rw [HO1.out]; simp [firstE], HB.out⟩
  · go_wp2_with fail
    refine (out_calls least most [(l.length : Int)] _ _ _ (lit1 (l.length : Int) (by simp))).mono ?_
    rw [HO.out]
    rintro e w1 ⟨rfl, rfl⟩
    go_wp2_with fail
    go_ret2
    exact ⟨by rw [firstL, HO.out]; rfl, HB0.out⟩

set_option maxRecDepth 100000 in
set_option maxHeartbeats 1000000 in
theorem first3_calls (l : List Dr) (least most : Int) (f : Nat) (caps : Array Value) (E : Nat → Dr → Int) (A : Option Addr) (c : Nat) (w : World) (hr : Kd.C k72 w A l.length l)
    (he : ∀ args w, (callFunc f args).run Try.prog w = .ok (.enter f args) w)
    (hf : ∀ (i : Nat) (x : Dr) (V : World), i < l.length → x ∈ l → Below w.heap.size w V → Calls Try.prog f (#[.int .i64 i, .agg #[.int .i64 x.f0, .int .i64 x.f1, .int .i64 x.f2]] ++ caps) V fun e V' => e = .returned (.int .i64 (E i x)) ∧ Below V.heap.size V V') :
    Calls Try.prog 82 #[.slice A l.length c, .int .i64 least, .int .i64 most, .func (.func f) #[] caps] w
      fun e w' => e = .returned (.tuple #[.int .i64 (firstL l least most E).1, .int .i64 (firstL l least most E).2]) ∧ Below w.heap.size w w' := by
  have hlen := hr.2.1
  have HR := Aside0.mk hr
  have HF := Aside0.mk hf
  clear hr hf
  obtain ⟨o, ho⟩ : ∃ o, outB least most [(l.length : Int)] = o := ⟨_, rfl⟩
  have HO := Aside0.mk ho
  clear ho
  go_enter Try.func82, Try.ntmps82
  have HB0 := Aside0.mk (below_alloc (Below.refl w.heap.size w) (.cells #[.int .i64 (l.length : Int)] 3))
  cases o
  · go_wp2_with fail
    refine (out_calls least most [(l.length : Int)] _ _ _ (lit1 (l.length : Int) (by simp))).mono ?_
    rw [HO.out]
    rintro e w1 ⟨rfl, rfl⟩
    go_wp2_with fail
    generalize w.alloc (.cells #[.int .i64 (l.length : Int)] 3) = w1 at HB0 ⊢
    go_loopw [21] (fun j wr => ∃ k : Nat, k ≤ l.length ∧ j = .int .i64 k ∧ Aside0 (firstL l least most E = firstE E (l.drop k) k) ∧ Aside0 (Below w.heap.size w wr)) (fun j _ => l.length - (intOf j).toNat)
    case atStart => exact ⟨0, Nat.zero_le _, rfl, ⟨by rw [firstL, HO.out]; rfl⟩, HB0⟩
    case round =>
      obtain ⟨k, hk, rfl, HO1, HB⟩ := hrel
      by_cases hlt : k < l.length
      · obtain ⟨ad, e, hc0, hc1, hc2⟩ := at_dr (Kd.C_below HR.out HB.out) k hlt
        subst e
        rw [dr_at _ _ hlt] at hc0 hc1 hc2
        have HO2 := Aside0.mk (show firstL l least most E = if E k l[k] = 0 then firstE E (l.drop (k + 1)) (k + 1) else (k, E k l[k]) by
          rw [HO1.out, List.drop_eq_getElem_cons hlt]; rfl)
        have HM := Aside0.mk (List.getElem_mem hlt)
        clear HO1
        generalize l[k] = x at *
        obtain ⟨Ev, hE⟩ : ∃ Ev, E k x = Ev := ⟨_, rfl⟩
        have HE := Aside0.mk hE
        clear hE
        have HB2 := Aside0.mk (below_alloc HB.out (.cells #[.int .i64 x.f0, .int .i64 x.f1, .int .i64 x.f2] 72))
        by_cases h0 : Ev = 0
        all_goals
          go_wp2_with (refine (HF.out k x _ hlt HM.out HB2.out).mono ?_; rintro e w1 ⟨rfl, hb1⟩; rw [HE.out])
          first
            | (go_roundw
               case rel => exact ⟨k + 1, by omega, by go_num, ⟨by rw [HO2.out, HE.out, if_pos (by assumption)]⟩, ⟨HB2.out.trans (hb1.mono HB2.out.size)⟩⟩
               case measure => simp [intOf]; omega)
            | (go_ret2
               exact ⟨by rw [HO2.out, HE.out, if_neg (by assumption)]; rfl, HB2.out.trans (hb1.mono HB2.out.size)⟩)
      · obtain rfl : k = l.length := by omega
        go_wp2
        go_ret2
        exact ⟨by rw [HO1.out]; simp [firstE], HB.out⟩
  · go_wp2_with fail
    refine (out_calls least most [(l.length : Int)] _ _ _ (lit1 (l.length : Int) (by simp))).mono ?_
    rw [HO.out]
    rintro e w1 ⟨rfl, rfl⟩
    go_wp2_with fail
    go_ret2
    exact ⟨by rw [firstL, HO.out]; rfl, HB0.out⟩

structure Dat where
  gl : List Gl
  lo : Int
  hi : Int
  sp : List Sp
  dr : List Dr

def checkF (D : Dat) : Int × Int × Int :=
  if (firstL D.gl 1 3 (errG D.gl)).2 ≠ 0 then (1, firstL D.gl 1 3 (errG D.gl)) else if endsE D.lo D.hi 0 3 ≠ 0 then (2, 0, endsE D.lo D.hi 0 3)
  else if (firstL D.sp 0 4 errP).2 ≠ 0 then (3, firstL D.sp 0 4 errP) else if (firstL D.dr 0 4 (errD D.gl.length D.sp.length)).2 ≠ 0 then (4, firstL D.dr 0 4 (errD D.gl.length D.sp.length)) else (0, 0, 0)

abbrev Dat.cells (D : Dat) (A0 : Option Addr) (c0 : Nat) (A3 : Option Addr) (c3 : Nat) (A4 : Option Addr) (c4 : Nat) : Array Value :=
  #[.slice A0 D.gl.length c0, .int .i64 D.lo, .int .i64 D.hi, .slice A3 D.sp.length c3, .slice A4 D.dr.length c4]
structure Arg (w : World) (D : Dat) (A0 : Option Addr) (c0 : Nat) (A3 : Option Addr) (c3 : Nat) (A4 : Option Addr) (c4 : Nat) : Prop where
  g : Kd.C k95 w A0 D.gl.length D.gl
  gc : D.gl.length ≤ c0
  gn : ∀ x ∈ D.gl, x.f0.size ≤ 9223372036854775807
  s : Kd.C k24 w A3 D.sp.length D.sp
  sc : D.sp.length ≤ c3
  d : Kd.C k72 w A4 D.dr.length D.dr
  dc : D.dr.length ≤ c4
theorem Arg.below {w w' : World} {D : Dat} {A0 : Option Addr} {c0 : Nat} {A3 : Option Addr} {c3 : Nat} {A4 : Option Addr} {c4 : Nat} (h : Arg w D A0 c0 A3 c3 A4 c4) (hb : Below w.heap.size w w') : Arg w' D A0 c0 A3 c3 A4 c4 :=
  ⟨Kd.C_below h.g hb, h.gc, h.gn, Kd.C_below h.s hb, h.sc, Kd.C_below h.d hb, h.dc⟩

theorem firstE_zero {α : Type} (E : Nat → α → Int) : ∀ (l : List α) (k : Nat), (firstE E l k).2 = 0 → ∀ i (h : i < l.length), E (k + i) l[i] = 0
  | [], k, _, i, h => by cases h
  | x :: l, k, h, i, hi => by
    unfold firstE at h
    split at h
    · next h0 =>
      match i with
      | 0 => simpa using h0
      | i + 1 =>
        have := firstE_zero E l (k + 1) h i (by simpa using hi)
        simpa [Nat.add_assoc, Nat.add_comm, Nat.add_left_comm] using this
    · next h0 => exact absurd h h0
theorem firstL_zero {α : Type} {l : List α} {least most : Int} {E : Nat → α → Int} (h : (firstL l least most E).2 = 0) : (least ≤ l.length ∧ (l.length : Int) ≤ most) ∧ ∀ i (hi : i < l.length), E i l[i] = 0 := by
  unfold firstL at h
  split at h
  · cases h
  · next ho =>
    simp only [Bool.not_eq_true, outB_cons] at ho
    exact ⟨ho.1, fun i hi => by simpa using firstE_zero E l 0 h i hi⟩

set_option maxRecDepth 100000 in
set_option maxHeartbeats 1000000 in
theorem Check_calls (D : Dat) (A0 : Option Addr) (c0 : Nat) (A3 : Option Addr) (c3 : Nat) (A4 : Option Addr) (c4 : Nat) (w : World) (h : Arg w D A0 c0 A3 c3 A4 c4) :
    Calls Try.prog 17 #[.agg (D.cells A0 c0 A3 c3 A4 c4)] w
      fun e w' => e = .returned (.tuple #[.int .i64 (checkF D).1, .int .i64 (checkF D).2.1, .int .i64 (checkF D).2.2]) ∧ Below w.heap.size w w' := by
  have HA := Aside0.mk h
  have HX := Aside0.mk (blk_new w (.cells (D.cells A0 c0 A3 c3 A4 c4) 28))
  have HB := Aside0.mk (below_alloc (Below.refl w.heap.size w) (.cells (D.cells A0 c0 A3 c3 A4 c4) 28))
  clear h
  obtain ⟨r, hr⟩ : ∃ r, checkF D = r := ⟨_, rfl⟩
  have HF := Aside0.mk hr
  clear hr
  rw [HF.out]
  have hc1 := enters_C1
  have hc2 := enters_C2
  have hc3 := enters_C3
  go_enter Try.func17, Try.ntmps17
  go_upto_region 1 with (fail)
  generalize w.alloc (.cells (D.cells A0 c0 A3 c3 A4 c4) 28) = w1 at HX HB ⊢
  obtain ⟨q, hq⟩ : ∃ q, w.heap.size = q := ⟨_, rfl⟩
  rw [hq] at HX ⊢
  clear hq
  have k0 := (blk_cell HX.out 0).trans rfl
  have k1 := (blk_cell HX.out 1).trans rfl
  have k2 := (blk_cell HX.out 2).trans rfl
  have k3 := (blk_cell HX.out 3).trans rfl
  have k4 := (blk_cell HX.out 4).trans rfl
  have kl := blk_lt HX.out
  go_wp2_with fail
  clear k0 k1 k2 k3 k4 kl
  refine (first1_calls D.gl 1 3 75 #[.pointer (some ⟨q, 0, none⟩)] (errG D.gl) A0 c0 w1 (Kd.C_below HA.out.g HB.out) hc1 (fun i x V hi hx hV => C1_calls D.gl i x q A0 c0 _ _ _ _ V (Kd.C_below (Kd.C_below HA.out.g HB.out) hV) HA.out.gc (Nat.le_of_lt hi) (HA.out.gn x hx) (blk_below HX.out hV))).mono ?_
  rintro e w2 ⟨rfl, hb⟩
  obtain ⟨f, hf⟩ : ∃ f, firstL D.gl 1 3 (errG D.gl) = f := ⟨_, rfl⟩
  have H1 := Aside0.mk hf
  rw [hf]
  clear hf
  replace HX := Aside0.mk (blk_below HX.out hb)
  replace HB := Aside0.mk (HB.out.trans (hb.mono HB.out.size))
  clear hb
  obtain ⟨f1, f2⟩ := f
  by_cases h0 : f2 = 0
  · subst h0
    obtain ⟨⟨_, hg3⟩, _⟩ := firstL_zero (by rw [H1.out] : (firstL D.gl 1 3 (errG D.gl)).2 = 0)
    have k0 := (blk_cell HX.out 0).trans rfl
    have k1 := (blk_cell HX.out 1).trans rfl
    have k2 := (blk_cell HX.out 2).trans rfl
    have k3 := (blk_cell HX.out 3).trans rfl
    have k4 := (blk_cell HX.out 4).trans rfl
    have kl := blk_lt HX.out
    go_wp2_with fail
    clear k0 k1 k2 k3 k4 kl
    refine (ends_calls D.lo D.hi 0 3 w2 (by decide) (by decide)).mono ?_
    rintro e w3 ⟨rfl, hb⟩
    obtain ⟨g, hg⟩ : ∃ g, endsE D.lo D.hi 0 3 = g := ⟨_, rfl⟩
    have H2 := Aside0.mk hg
    rw [hg]
    clear hg
    replace HX := Aside0.mk (blk_below HX.out hb)
    replace HB := Aside0.mk (HB.out.trans (hb.mono HB.out.size))
    clear hb
    by_cases h0 : g = 0
    · subst h0
      have k0 := (blk_cell HX.out 0).trans rfl
      have k1 := (blk_cell HX.out 1).trans rfl
      have k2 := (blk_cell HX.out 2).trans rfl
      have k3 := (blk_cell HX.out 3).trans rfl
      have k4 := (blk_cell HX.out 4).trans rfl
      have kl := blk_lt HX.out
      go_wp2_with fail
      clear k0 k1 k2 k3 k4 kl
      refine (first2_calls D.sp 0 4 81 #[] errP A3 c3 w3 (Kd.C_below HA.out.s HB.out) hc2 (fun i x V hi hx hV => C2_calls i x V)).mono ?_
      rintro e w4 ⟨rfl, hb⟩
      obtain ⟨f, hf⟩ : ∃ f, firstL D.sp 0 4 errP = f := ⟨_, rfl⟩
      have H3 := Aside0.mk hf
      rw [hf]
      clear hf
      replace HX := Aside0.mk (blk_below HX.out hb)
      replace HB := Aside0.mk (HB.out.trans (hb.mono HB.out.size))
      clear hb
      obtain ⟨u1, u2⟩ := f
      by_cases h0 : u2 = 0
      · subst h0
        obtain ⟨⟨_, hs4⟩, _⟩ := firstL_zero (by rw [H3.out] : (firstL D.sp 0 4 errP).2 = 0)
        have k0 := (blk_cell HX.out 0).trans rfl
        have k1 := (blk_cell HX.out 1).trans rfl
        have k2 := (blk_cell HX.out 2).trans rfl
        have k3 := (blk_cell HX.out 3).trans rfl
        have k4 := (blk_cell HX.out 4).trans rfl
        have kl := blk_lt HX.out
        go_wp2_with fail
        clear k0 k1 k2 k3 k4 kl
        refine (first3_calls D.dr 0 4 83 #[.pointer (some ⟨q, 0, none⟩)] (errD D.gl.length D.sp.length) A4 c4 w4 (Kd.C_below HA.out.d HB.out) hc3 (fun i x V hi hx hV => C3_calls D.gl.length D.sp.length i x q A0 A3 c0 c3 _ _ _ V (by omega) (by omega) (blk_below HX.out hV))).mono ?_
        rintro e w5 ⟨rfl, hb⟩
        obtain ⟨f, hf⟩ : ∃ f, firstL D.dr 0 4 (errD D.gl.length D.sp.length) = f := ⟨_, rfl⟩
        have H4 := Aside0.mk hf
        rw [hf]
        clear hf
        replace HB := Aside0.mk (HB.out.trans (hb.mono HB.out.size))
        clear hb
        obtain ⟨t1, t2⟩ := f
        by_cases h0 : t2 = 0
        · subst h0
          have hr : r = (0, 0, 0) := by rw [← HF.out, checkF, H1.out, H2.out, H3.out, H4.out]; rfl
          subst hr
          go_wp2
          go_ret3
          exact ⟨rfl, HB.out⟩
        · have hr : r = (4, t1, t2) := by rw [← HF.out, checkF, H1.out, H2.out, H3.out, H4.out, if_neg (by simp), if_neg (by simp), if_neg (by simp), if_pos h0]
          subst hr
          go_wp2
          go_ret3
          exact ⟨rfl, HB.out⟩
      · have hr : r = (3, u1, u2) := by rw [← HF.out, checkF, H1.out, H2.out, H3.out, if_neg (by simp), if_neg (by simp), if_pos h0]
        subst hr
        go_wp2
        go_ret3
        exact ⟨rfl, HB.out⟩
    · have hr : r = (2, 0, g) := by rw [← HF.out, checkF, H1.out, H2.out, if_neg (by simp), if_pos h0]
      subst hr
      go_wp2
      go_ret3
      exact ⟨rfl, HB.out⟩
  · have hr : r = (1, f1, f2) := by rw [← HF.out, checkF, H1.out, if_pos h0]
    subst hr
    go_wp2
    go_ret3
    exact ⟨rfl, HB.out⟩
end Go.Proofs.Ytgoidclnccjdeaa.D
end
section
/- General lemmas of this session's own: equality of structs of two ints, of arrays of ints; maps by such keys. -/
namespace Go.Proofs.YtgoidclnccjdeaaK
open Go Go.RowKit
set_option linter.unusedVariables false
set_option linter.unusedSimpArgs false
variable {P : Program}

theorem eqItems_ints {e : TypeId} (hu : P.underlying e = some (.int .i64)) (hp : P.plainKey e = true) (d : Nat) (xs ys : List Int) (w : World) : ∀ (is : List Nat), (∀ i, i ∈ is → i < xs.length ∧ i < ys.length) →
    (Op.eqItems (d + 1) e 1 (xs.map (Value.int .i64)).toArray (ys.map (Value.int .i64)).toArray is).run P w = .ok (is.all fun i => xs[i]?.getD 0 == ys[i]?.getD 0) w
  | [], _ => by simp [Op.eqItems]
  | i :: is, h => by
    obtain ⟨hx, hy⟩ := h i (by simp)
    have h1 : (part e (xs.map (Value.int .i64)).toArray i).run P w = .ok (.int .i64 xs[i]) w := run_part_plain w hp (by simp [hx])
    have h2 : (part e (ys.map (Value.int .i64)).toArray i).run P w = .ok (.int .i64 ys[i]) w := run_part_plain w hp (by simp [hy])
    have h3 : (Op.equalIn (d + 1) e (.int .i64 xs[i]) (.int .i64 ys[i])).run P w = .ok (xs[i] == ys[i]) w := run_equalIn_int w d e .i64 .i64 _ _ hu
    have ih := eqItems_ints hu hp d xs ys w is (fun j hj => h j (by simp [hj]))
    simp only [Op.eqItems, Nat.mul_one, Sem.run_bind, h1, h2, h3, Result.andThen_ok, List.all_cons, List.getElem?_eq_getElem hx, List.getElem?_eq_getElem hy, Option.getD_some]
    cases (xs[i] == ys[i]) with
    | false => simp
    | true => simpa using ih

theorem all_get (xs ys : List Int) (h : xs.length = ys.length) : ((List.range xs.length).all fun i => xs[i]?.getD 0 == ys[i]?.getD 0) = (xs == ys) := by
  rw [Bool.eq_iff_iff, List.all_eq_true, beq_iff_eq]
  constructor
  · intro hh
    apply List.ext_getElem h
    intro i h1 h2
    have := hh i (by simpa using h1)
    simpa [h1, h2] using this
  · rintro rfl
    intro i _
    simp

theorem equal_array (w : World) {T e : TypeId} {n : Nat} {i : TypeInfo} (ht : P.underlying T = some (.array n e)) (hi : P.info? e = some i) (hc : P.cellsOf e = 1) (hu : P.underlying e = some (.int .i64)) (hp : P.plainKey e = true)
    (xs ys : List Int) (hx : xs.length = n) (hy : ys.length = n) (d : Nat) (hd : 0 < d) :
    (Op.equalIn (d + 1) T (.agg (xs.map (Value.int .i64)).toArray) (.agg (ys.map (Value.int .i64)).toArray)).run P w = .ok (xs == ys) w := by
  obtain ⟨d, rfl⟩ : ∃ m, d = m + 1 := ⟨d - 1, by omega⟩
  rw [run_equalIn_array w (d + 1) _ _ ht hi, hc, eqItems_ints hu hp d xs ys w _ (fun j hj => by simp at hj; omega), ← hx, all_get xs ys (by omega)]

theorem equal_two (w : World) {T e : TypeId} (ht : P.underlying T = some (.struct (P.fieldsOf T))) (hs : P.stoodInHeld T = false) (hu : P.underlying e = some (.int .i64)) (hp : P.plainKey e = true)
    (hf : ((P.fieldsOf T).toList.map fun f => (f.name == "_", f.type, f.offset)) = [(false, e, 0), (false, e, 1)]) (a b c d : Int) (n : Nat) (hn : 0 < n) :
    (Op.equalIn (n + 1) T (.agg #[.int .i64 a, .int .i64 b]) (.agg #[.int .i64 c, .int .i64 d])).run P w = .ok (a == c && b == d) w := by
  obtain ⟨n, rfl⟩ : ∃ m, n = m + 1 := ⟨n - 1, by omega⟩
  rw [run_equalIn_struct w (n + 1) _ _ _ ht hs]
  revert hf
  generalize (P.fieldsOf T).toList = F
  intro hf
  have hl : F.length = 2 := by simpa using congrArg List.length hf
  obtain ⟨f1, f2, rfl⟩ : ∃ f1 f2, F = [f1, f2] := by
    rcases F with _ | ⟨f1, _ | ⟨f2, _ | ⟨f3, F⟩⟩⟩ <;> first | exact ⟨_, _, rfl⟩ | simp at hl
  · skip
    simp only [List.map_cons, List.map_nil, List.cons.injEq, Prod.mk.injEq, and_true] at hf
    obtain ⟨⟨n1, t1, o1⟩, n2, t2, o2⟩ := hf
    have n1' : f1.name ≠ "_" := by simpa using n1
    have n2' : f2.name ≠ "_" := by simpa using n2
    have p1 : ∀ (a b : Int), (part e #[.int .i64 a, .int .i64 b] 0).run P w = .ok (.int .i64 a) w := fun a b => run_part_plain w hp rfl
    have p2 : ∀ (a b : Int), (part e #[.int .i64 a, .int .i64 b] 1).run P w = .ok (.int .i64 b) w := fun a b => run_part_plain w hp rfl
    have q : ∀ (a b : Int), (Op.equalIn (n + 1) e (.int .i64 a) (.int .i64 b)).run P w = .ok (a == b) w := fun a b => run_equalIn_int w n e .i64 .i64 a b hu
    have e2 : (Op.eqFields (n + 1) #[.int .i64 a, .int .i64 b] #[.int .i64 c, .int .i64 d] [f2]).run P w = .ok (b == d) w := by
      simp only [Op.eqFields, t2, o2, n2', ne_eq, not_false_eq_true, if_true, Sem.run_bind, p2, q, Result.andThen_ok]
      cases (b == d) <;> simp
    rw [Op.eqFields]
    simp only [t1, o1, n1', ne_eq, not_false_eq_true, if_true, Sem.run_bind, p1, q, Result.andThen_ok]
    cases (a == c) with
    | false => simp
    | true => simpa using e2

structure KeyRun {α : Type} [DecidableEq α] (P : Program) (k : TypeId) (enc : α → Value) : Prop where
  chk : ∀ e a w, (Instr.checkKey e 10000 k (enc a)).run P w = .ok () w
  eq : ∀ a b w, (Op.equal k (enc a) (enc b)).run P w = .ok (decide (a = b)) w
  und : ∃ desc, P.underlying k = some desc ∧ ∀ a b, Instr.sameNow desc (enc a) (enc b) = none
  same : ∀ a, Instr.sameBits 10000 (enc a) (enc a) = true

def MapAt {α : Type} (W : World) (m : Nat) (enc : α → Value) (l : List (α × Value)) : Prop :=
  ∃ es clock, W.heap[m]? = some (.map es clock) ∧ es.toList.map (fun e => (e.key, e.val)) = l.map (fun p => (enc p.1, p.2))
theorem MapAt.chg {α : Type} {W W' : World} {m : Nat} {enc : α → Value} {l : List (α × Value)} {S : Nat → Prop} (h : MapAt W m enc l) (hc : Chg S W W') (hs : ¬ S m) : MapAt W' m enc l := by
  obtain ⟨es, clock, hb, he⟩ := h
  exact ⟨es, clock, hc.heap hb hs, he⟩
theorem MapAt.made {α : Type} (W : World) (enc : α → Value) : MapAt (W.alloc (.map #[] 0)) W.heap.size enc [] := ⟨#[], 0, World.alloc_heap_new _ _, rfl⟩

section
variable {α : Type} [DecidableEq α] {k : TypeId} {enc : α → Value}
def mlook (a : α) : List (α × Value) → Option Value
  | [] => none
  | (b, v) :: l => if a = b then some v else mlook a l
def mput (a : α) (v : Value) : List (α × Value) → List (α × Value)
  | [] => [(a, v)]
  | (b, u) :: l => if a = b then (b, v) :: l else (b, u) :: mput a v l
theorem look_none {a : α} {v : Value} : ∀ {l : List (α × Value)}, mlook a l = none → mput a v l = l ++ [(a, v)]
  | [], _ => rfl
  | (b, u) :: l, h => by
    unfold mlook at h
    by_cases e : a = b
    · rw [if_pos e] at h; cases h
    · rw [if_neg e] at h; rw [mput, if_neg e, look_none h]; rfl
theorem look_mem {a : α} {v : Value} : ∀ {l : List (α × Value)}, mlook a l = some v → (a, v) ∈ l
  | [], h => by cases h
  | (b, u) :: l, h => by
    unfold mlook at h
    by_cases e : a = b
    · rw [if_pos e] at h; cases h; subst e; simp
    · rw [if_neg e] at h; simp [look_mem h]

def place (a : α) : List (α × Value) → Nat → Option (Nat × Value)
  | [], _ => none
  | (b, v) :: l, i => if a = b then some (i, v) else place a l (i + 1)
theorem place_look (a : α) : ∀ (l : List (α × Value)) (i : Nat), (place a l i).map (·.2) = mlook a l
  | [], _ => rfl
  | (b, v) :: l, i => by
    unfold place mlook
    by_cases e : a = b
    · simp [e]
    · simp [e, place_look a l (i + 1)]
theorem findAsking_run (K : KeyRun P k enc) (a : α) (w : World) : ∀ (es : List MapEntry) (l : List (α × Value)) (i : Nat), es.map (fun e => (e.key, e.val)) = l.map (fun p => (enc p.1, p.2)) →
    (Instr.findAsking k (enc a) es i).run P w = .ok (place a l i) w
  | [], l, i, h => by
    have : l = [] := by simpa using h.symm
    subst this; simp [Instr.findAsking, place]
  | e :: es, l, i, h => by
    match l, h with
    | (b, v) :: l, h =>
      simp only [List.map_cons, List.cons.injEq, Prod.mk.injEq] at h
      obtain ⟨⟨h1, h2⟩, h3⟩ := h
      have ih := findAsking_run K a w es l (i + 1) h3
      simp only [Instr.findAsking, Sem.run_bind, h1, K.eq, Result.andThen_ok, place]
      by_cases e : a = b
      · simp [e, h2]
      · simpa [e] using ih
theorem findKey_run (K : KeyRun P k enc) (a : α) (w : World) (es : List MapEntry) (l : List (α × Value)) (h : es.map (fun e => (e.key, e.val)) = l.map (fun p => (enc p.1, p.2))) :
    (Instr.findKey k (enc a) es).run P w = .ok (place a l 0) w := by
  obtain ⟨desc, hd, hs⟩ := K.und
  match es, l, h with
  | [], l, h =>
    have : l = [] := by simpa using h.symm
    subst this
    simp [Instr.findKey, Sem.run_bind, run_underlying hd, Instr.findNow, place, Result.andThen_ok]
  | e :: es, [], h => simp at h
  | e :: es, (b, v) :: l, h =>
    have h' := h
    simp only [List.map_cons, List.cons.injEq, Prod.mk.injEq] at h'
    have hk : e.key = enc b := h'.1.1
    have := findAsking_run K a w (e :: es) ((b, v) :: l) 0 h
    simpa only [Instr.findKey, Sem.run_bind, run_underlying hd, Instr.findNow, hk, hs, Result.andThen_ok] using this
theorem lookup_run (K : KeyRun P k enc) {T elem : TypeId} (hT : P.underlying T = some (.map k elem)) {z : Value} {W : World} (hz : (zeroValue elem).run P W = .ok z W) {m : Nat} {l : List (α × Value)} (h : MapAt W m enc l) (a : α) (c : Bool) :
    (Instr.lookup T (.map (some m)) (enc a) c).run P W = .ok (match mlook a l with | some v => (if c then .tuple #[v, .bool true] else v) | none => (if c then .tuple #[z, .bool false] else z)) W := by
  obtain ⟨es, clock, hb, he⟩ := h
  have hg : (getObj m).run P W = .ok (.map es clock) W := by simp [getObj, Sem.run, hb]
  simp only [Instr.lookup, Sem.run_bind, run_underlying hT, Result.andThen_ok, hg, Sem.run_pure, K.chk, findKey_run K a W es.toList l he]
  rw [← place_look a l 0]
  cases place a l 0 with
  | none => cases c <;> simp [hz, Sem.run_bind]
  | some p => cases c <;> simp [Sem.run_bind]
theorem modify_put (a : α) (v : Value) : ∀ (es : List MapEntry) (l : List (α × Value)) (i j : Nat) (u : Value), es.map (fun e => (e.key, e.val)) = l.map (fun p => (enc p.1, p.2)) → place a l i = some (j, u) →
    i ≤ j ∧ (es[j - i]?.map (·.key)) = some (enc a) ∧ (es.modify (j - i) fun e => { e with key := enc a, val := v }).map (fun e => (e.key, e.val)) = (mput a v l).map (fun p => (enc p.1, p.2))
  | [], l, i, j, u, h, hp => by
    have : l = [] := by simpa using h.symm
    subst this; cases hp
  | e :: es, l, i, j, u, h, hp => by
    match l, h with
    | (b, x) :: l, h =>
      simp only [List.map_cons, List.cons.injEq, Prod.mk.injEq] at h
      obtain ⟨⟨h1, h2⟩, h3⟩ := h
      unfold place at hp
      by_cases eb : a = b
      · rw [if_pos eb] at hp
        simp only [Option.some.injEq, Prod.mk.injEq] at hp
        obtain ⟨rfl, rfl⟩ := hp
        refine ⟨Nat.le_refl _, by simp [h1, eb], ?_⟩
        rw [mput, if_pos eb]
        subst eb
        simp [h3]
      · rw [if_neg eb] at hp
        obtain ⟨q1, q2, q3⟩ := modify_put a v es l (i + 1) j u h3 hp
        refine ⟨by omega, ?_, ?_⟩
        · rw [show j - i = (j - (i + 1)) + 1 from by omega]; simpa using q2
        · rw [show j - i = (j - (i + 1)) + 1 from by omega, mput, if_neg eb]
          simp [q3, h1, h2]
theorem put_run (K : KeyRun P k enc) {T elem : TypeId} (hT : P.underlying T = some (.map k elem)) {W : World} {m : Nat} {l : List (α × Value)} (h : MapAt W m enc l) (a : α) (v : Value) :
    ∃ W', (Instr.mapUpdate T (.map (some m)) (enc a) v).run P W = .ok () W' ∧ MapAt W' m enc (mput a v l) ∧ Chg (fun k => k = m) W W' ∧ W'.heap.size = W.heap.size := by
  obtain ⟨es, clock, hb, he⟩ := h
  have hg : (getObj m).run P W = .ok (.map es clock) W := by simp [getObj, Sem.run, hb]
  have hlt : m < W.heap.size := (Array.getElem?_eq_some_iff.1 hb).1
  have hset : ∀ o, (setObj m o).run P W = .ok () (W.putObj m o) := fun o => by simp [setObj, Sem.run, hb, World.putObj]
  have hc : ∀ o, Chg (fun k => k = m) W (W.putObj m o) := fun o => (Chg.refl (fun k => k = m) W).putObj (l := m) (fun _ => rfl) o
  cases hp : place a l 0 with
  | none =>
    refine ⟨_, by simp only [Instr.mapUpdate, Sem.run_bind, run_underlying hT, Result.andThen_ok, hg, Sem.run_pure, K.chk, findKey_run K a W es.toList l he, hp, hset]; rfl, ⟨_, _, World.putObj_heap_same hlt, ?_⟩, hc _, by simp⟩
    have hl : mlook a l = none := by rw [← place_look a l 0, hp]; rfl
    rw [look_none hl]; simp [he]
  | some p =>
    obtain ⟨i, u⟩ := p
    obtain ⟨_, q2, q3⟩ := modify_put (enc := enc) a v es.toList l 0 i u he hp
    simp only [Nat.sub_zero] at q2 q3
    have hkey : ((es[i]?).map (·.key)).getD (enc a) = enc a := by
      have : es[i]?.map (·.key) = some (enc a) := by simpa using q2
      rw [this]; rfl
    refine ⟨_, by simp only [Instr.mapUpdate, Sem.run_bind, run_underlying hT, Result.andThen_ok, hg, Sem.run_pure, K.chk, findKey_run K a W es.toList l he, hp, hkey, Instr.keyThatStays, K.same, if_true, hset]; rfl, ⟨_, _, World.putObj_heap_same hlt, ?_⟩, hc _, by simp⟩
    simpa using q3
end
end Go.Proofs.YtgoidclnccjdeaaK
end
section
/- General lemmas of this session's own: results that lie in cells; leaving behind a range over a function. -/
namespace Go.Proofs.YtgoidclnccjdeaaK
open Go Go.RowKit
set_option linter.unusedVariables false
set_option linter.unusedSimpArgs false
variable {P : Program}

theorem load_one {w : World} {ty : TypeId} {g : Nat} {v : Value} {d : TypeDesc} (hc : w.cell? ⟨g, 0, none⟩ = some v) (hu : P.underlying ty = some d) (hd : (match d with | .struct _ | .array _ _ => true | _ => false) = false) :
    (loadVar ty ⟨g, 0, none⟩).run P w = .ok v w := by
  have hagg : (isAgg ty).run P w = .ok false w := by
    unfold isAgg
    rw [Sem.run_bind, run_underlying hu w]
    cases d <;> simp_all
  simp [loadVar, Sem.run_bind, hagg]
  rw [hc]
theorem results_cell1 {fn : Func} {p : Tmp} {ty : TypeId} (h : fn.results = #[.cell p ty]) (tmps : Array Value) (w : World) (g : Nat) (v : Value) (d : TypeDesc) (hp : tmps.getD p undef = .pointer (some ⟨g, 0, none⟩))
    (hc : w.cell? ⟨g, 0, none⟩ = some v) (hu : P.underlying ty = some d) (hd : (match d with | .struct _ | .array _ _ => true | _ => false) = false) : (results fn tmps).run P w = .ok v w := by
  have hp' : tmps[p]?.getD undef = .pointer (some ⟨g, 0, none⟩) := by simpa using hp
  simp [results, h, hp', asAddr, load_one hc hu hd]
theorem results_cell2 {fn : Func} {p q : Tmp} {ty tz : TypeId} (h : fn.results = #[.cell p ty, .cell q tz]) (tmps : Array Value) (w : World) (g k : Nat) (u v : Value) (d e : TypeDesc) (hp : tmps.getD p undef = .pointer (some ⟨g, 0, none⟩)) (hq : tmps.getD q undef = .pointer (some ⟨k, 0, none⟩))
    (hc : w.cell? ⟨g, 0, none⟩ = some u) (hu : P.underlying ty = some d) (hd : (match d with | .struct _ | .array _ _ => true | _ => false) = false)
    (hc' : w.cell? ⟨k, 0, none⟩ = some v) (hu' : P.underlying tz = some e) (hd' : (match e with | .struct _ | .array _ _ => true | _ => false) = false) : (results fn tmps).run P w = .ok (.tuple #[u, v]) w := by
  have hp' : tmps[p]?.getD undef = .pointer (some ⟨g, 0, none⟩) := by simpa using hp
  have hq' : tmps[q]?.getD undef = .pointer (some ⟨k, 0, none⟩) := by simpa using hq
  simp [results, h, hp', hq', asAddr, load_one hc hu hd, load_one hc' hu' hd']

theorem leave_mark {fn : Func} {R : Ending → World → Prop} {tmps : Array Value} {D : Nat} {w : World} {v : Value} (hD : w.heap[D]? = some (.deferred (some [])))
    (hr : (results fn tmps).run P (w.putObj D (.deferred none)) = .ok v (w.putObj D (.deferred none))) (h : R (.returned v) (w.putObj D (.deferred none))) :
    bodyPostM Fence.wide 0 P fn R .ret { tmps := tmps, defers := [{ target := .collected D, args := #[] }] } w :=
  ⟨by simp, .inl ⟨_, _, rfl, run_takeDeferred hD, ⟨v, hr, h⟩⟩⟩
theorem cell_putObj {w : World} {D : Nat} {o : Obj} {a : Addr} {v : Value} (h : w.cell? a = some v) (hD : w.heap[D]? = some (.deferred (some []))) : (w.putObj D o).cell? a = some v := by
  have hne : a.block ≠ D := fun e => by
    rw [World.cell?, e, hD] at h; cases h
  have : (w.putObj D o).heap[a.block]? = w.heap[a.block]? := World.putObj_heap_other hne
  rw [World.cell?_of_block (w := w) this]; exact h
end Go.Proofs.YtgoidclnccjdeaaK
end
section
/- Package glass, plain: lists of a number of each of some spans, in order: as_ the program goes through them, and as_ the reference builds them. -/
namespace Go.Proofs.Ytgoidclnccjdeaa.M
set_option linter.unusedVariables false

def rng (lo hi : Int) : List Int := (List.range (hi - lo + 1).toNat).map (fun (k : Nat) => lo + (k : Int))
def prodL : List (Int × Int) → List (List Int)
  | [] => [[]]
  | s :: r => (rng s.1 s.2).flatMap fun x => (prodL r).map (x :: ·)
theorem mem_rng {lo hi x : Int} : x ∈ rng lo hi ↔ lo ≤ x ∧ x ≤ hi := by
  unfold rng
  rw [List.mem_map]
  constructor
  · rintro ⟨k, hk, rfl⟩
    have := List.mem_range.1 hk
    omega
  · rintro ⟨h1, h2⟩
    exact ⟨(x - lo).toNat, List.mem_range.2 (by omega), by omega⟩
theorem rng_len (lo hi : Int) : (rng lo hi).length = (hi - lo + 1).toNat := by simp [rng]
theorem mem_prodL : ∀ (l : List (Int × Int)) (x : List Int), x ∈ prodL l → x.length = l.length ∧ ∀ i, (h : i < l.length) → (h' : i < x.length) → l[i].1 ≤ x[i] ∧ x[i] ≤ l[i].2
  | [], x, h => by
    simp [prodL] at h
    subst h
    simp
  | s :: r, x, h => by
    simp only [prodL, List.mem_flatMap, List.mem_map] at h
    obtain ⟨y, hy, z, hz, rfl⟩ := h
    obtain ⟨h1, h2⟩ := mem_prodL r z hz
    refine ⟨by simp [h1], fun i hi hi' => ?_⟩
    cases i with
    | zero => simpa using mem_rng.1 hy
    | succ i => simpa using h2 i (by simpa using hi) (by simpa using hi')
end Go.Proofs.Ytgoidclnccjdeaa.M
end
section
/- Package glass, plain: the product of spans has nothing twice. -/
namespace Go.Proofs.Ytgoidclnccjdeaa.M
set_option linter.unusedVariables false

theorem rng_nodup (lo hi : Int) : (rng lo hi).Nodup := by
  unfold rng
  refine List.Pairwise.map (R := fun a b : Nat => a ≠ b) _ (fun a b h e => h (by omega)) List.nodup_range
theorem prodL_nodup : ∀ l : List (Int × Int), (prodL l).Nodup
  | [] => by simp [prodL]
  | s :: r => by
    unfold prodL
    rw [List.Nodup, List.pairwise_flatMap]
    refine ⟨fun x _ => ?_, ?_⟩
    · exact List.Pairwise.map (R := fun a b : List Int => a ≠ b) _ (fun a b h e => h (by injection e)) (prodL_nodup r)
    · refine List.Pairwise.imp (fun {a b} h x hx y hy e => ?_) (rng_nodup s.1 s.2)
      obtain ⟨u, _, rfl⟩ := List.mem_map.1 hx
      obtain ⟨v, _, rfl⟩ := List.mem_map.1 hy
      injection e with e1 e2
      exact h e1
end Go.Proofs.Ytgoidclnccjdeaa.M
end
section
/- Package glass: what a looked-at shelf is; look, seen, span. -/
namespace Go.Proofs.Ytgoidclnccjdeaa.D
open Go Go.RowKit Go.Proofs.YtgoidclnccjdeaaK Go.Proofs.YtgoidclnccjdeaaW.PrintWords Go.Proofs.YtgoidclnccjdeaaW.PrintLast Go.Proofs.YtgoidclnccjdeaaW.PrintMore Go.Proofs.Ytgoidclnccjdeaa.PR Go.Proofs.Ytgoidclnccjdeaa.M
set_option linter.unusedVariables false
set_option linter.unusedSimpArgs false

abbrev vec8 (g : Nat → Int) : Array Value := #[.int .i64 (g 0), .int .i64 (g 1), .int .i64 (g 2), .int .i64 (g 3), .int .i64 (g 4), .int .i64 (g 5), .int .i64 (g 6), .int .i64 (g 7)]
def upd (g : Nat → Int) (k : Nat) (x : Int) : Nat → Int := fun j => if j = k then x else g j
theorem vec_get (g : Nat → Int) (k : Nat) (hk : k < 8) : (vec8 g)[k]? = some (.int .i64 (g k)) := by
  match k, hk with
  | 0, _ => rfl | 1, _ => rfl | 2, _ => rfl | 3, _ => rfl | 4, _ => rfl | 5, _ => rfl | 6, _ => rfl | 7, _ => rfl
theorem vec_set (g : Nat → Int) (k : Nat) (x : Int) (hk : k < 8) : (vec8 g).setIfInBounds k (.int .i64 x) = vec8 (upd g k x) := by
  match k, hk with
  | 0, _ => rfl | 1, _ => rfl | 2, _ => rfl | 3, _ => rfl | 4, _ => rfl | 5, _ => rfl | 6, _ => rfl | 7, _ => rfl

structure Valid (D : Dat) : Prop where
  g1 : 1 ≤ D.gl.length
  g3 : D.gl.length ≤ 3
  s4 : D.sp.length ≤ 4
  d4 : D.dr.length ≤ 4
  gl : ∀ k : Nat, k < D.gl.length → 1 ≤ (rd_T95 D.gl k).f1.f0 ∧ (rd_T95 D.gl k).f1.f0 ≤ (rd_T95 D.gl k).f1.f1 ∧ (rd_T95 D.gl k).f1.f1 ≤ 40 ∧ (rd_T95 D.gl k).f1.f1 - (rd_T95 D.gl k).f1.f0 ≤ 2
  lo : 0 ≤ D.lo
  le : D.lo ≤ D.hi
  hi : D.hi ≤ 3
  du : D.hi - D.lo ≤ 2
  sp : ∀ k : Nat, k < D.sp.length → 1 ≤ (rd_T24 D.sp k).f0 ∧ (rd_T24 D.sp k).f0 ≤ (rd_T24 D.sp k).f1 ∧ (rd_T24 D.sp k).f1 ≤ 60 ∧ (rd_T24 D.sp k).f1 - (rd_T24 D.sp k).f0 ≤ 2
  dr : ∀ k : Nat, k < D.dr.length → -1 ≤ (rd_T72 D.dr k).f0 ∧ (rd_T72 D.dr k).f0 < D.gl.length ∧ 0 ≤ (rd_T72 D.dr k).f1 ∧ (rd_T72 D.dr k).f1 ≤ 9 ∧ 0 ≤ (rd_T72 D.dr k).f2 ∧ (rd_T72 D.dr k).f2 < ((2 ^ D.sp.length : Nat) : Int)
theorem endsE_zero {lo hi a b : Int} (h : endsE lo hi a b = 0) : a ≤ lo ∧ lo ≤ hi ∧ hi ≤ b ∧ hi - lo ≤ 2 := by
  unfold endsE at h
  split at h
  · cases h
  · next h1 =>
    split at h
    · cases h
    · next h2 =>
      simp only [Bool.not_eq_true, outB_cons] at h1 h2
      omega
theorem check_valid {D : Dat} (h : (checkF D).2.2 = 0) : Valid D ∧ checkF D = (0, 0, 0) ∧ ∀ k : Nat, k < D.gl.length → nameB (rd_T95 D.gl k).f0 = true := by
  unfold checkF at h
  split at h
  · next h1 => exact absurd h h1
  · next h1 =>
    split at h
    · next h2 => exact absurd h h2
    · next h2 =>
      split at h
      · next h3 => exact absurd h h3
      · next h3 =>
        split at h
        · next h4 => exact absurd h h4
        · next h4 =>
          have e : checkF D = (0, 0, 0) := by unfold checkF; rw [if_neg h1, if_neg h2, if_neg h3, if_neg h4]
          obtain ⟨⟨a1, a2⟩, a3⟩ := firstL_zero (Decidable.of_not_not h1)
          obtain ⟨b1, b2, b3, b4⟩ := endsE_zero (Decidable.of_not_not h2)
          obtain ⟨⟨c1, c2⟩, c3⟩ := firstL_zero (Decidable.of_not_not h3)
          obtain ⟨⟨d1, d2⟩, d3⟩ := firstL_zero (Decidable.of_not_not h4)
          have hG : ∀ k : Nat, k < D.gl.length → nameB (rd_T95 D.gl k).f0 = true ∧ endsE (rd_T95 D.gl k).f1.f0 (rd_T95 D.gl k).f1.f1 1 40 = 0 := fun k hk => by
            have := a3 k hk
            rw [gl_at _ _ hk]
            unfold errG at this
            split at this
            · cases this
            · next q1 =>
              split at this
              · cases this
              · exact ⟨by simpa using q1, this⟩
          refine ⟨⟨by omega, by omega, by omega, by omega, fun k hk => endsE_zero (hG k hk).2, b1, b2, b3, b4, fun k hk => ?_, fun k hk => ?_⟩, e, fun k hk => (hG k hk).1⟩
          · have := c3 k hk
            rw [sp_at _ _ hk]
            exact endsE_zero this
          · have := d3 k hk
            rw [dr_at _ _ hk]
            unfold errD at this
            split at this
            · cases this
            · next q1 =>
              split at this
              · cases this
              · next q2 =>
                split at this
                · cases this
                · next q3 =>
                  simp only [Bool.not_eq_true, outB_cons] at q1 q2 q3
                  exact ⟨q1.1.1, by omega, q2.1.1, q2.1.2, q3.1.1, by omega⟩

abbrev shCells (D : Dat) (A0 : Option Addr) (c0 : Nat) (A3 : Option Addr) (c3 : Nat) (A4 : Option Addr) (c4 : Nat) (but : Nat) : Array Value :=
  #[.slice A0 D.gl.length c0, .int .i64 D.lo, .int .i64 D.hi, .slice A3 D.sp.length c3, .slice A4 D.dr.length c4, .int .i64 but]
structure Sh (w0 W : World) (D : Dat) (A0 : Option Addr) (c0 : Nat) (A3 : Option Addr) (c3 : Nat) (A4 : Option Addr) (c4 : Nat) (but : Nat) (b : Nat) : Prop where
  base : Below w0.heap.size w0 W
  sh : W.heap[b]? = some (.cells (shCells D A0 c0 A3 c3 A4 c4 but) 159 (0, 0))
  gb : w0.heap.size ≤ b
theorem Sh.chg {w0 W W' : World} {D : Dat} {A0 : Option Addr} {c0 : Nat} {A3 : Option Addr} {c3 : Nat} {A4 : Option Addr} {c4 : Nat} {but b : Nat} {S : Nat → Prop} (h : Sh w0 W D A0 c0 A3 c3 A4 c4 but b) (hc : Chg S W W') (h0 : ∀ k, S k → w0.heap.size ≤ k ∧ k ≠ b) : Sh w0 W' D A0 c0 A3 c3 A4 c4 but b :=
  ⟨h.base.trans (hc.below (fun k _ hk => (h0 k hk).1) h.base.size), hc.heap h.sh (fun hk => (h0 _ hk).2 rfl), h.gb⟩
theorem new_at {W : World} {n : Nat} (h : W.heap.size = n) (o : Obj) : (W.alloc o).heap[n]? = some o := by subst h; exact blk_new _ _

set_option maxRecDepth 100000 in
set_option maxHeartbeats 400000 in
theorem look_calls (w0 W : World) (D : Dat) (A0 : Option Addr) (c0 : Nat) (A3 : Option Addr) (c3 : Nat) (A4 : Option Addr) (c4 : Nat) (but : Nat) (hB : Below w0.heap.size w0 W) :
    Calls Try.prog 108 #[.agg (D.cells A0 c0 A3 c3 A4 c4), .int .i64 but] W
      fun e W' => ∃ b, e = .returned (.pointer (some ⟨b, 0, none⟩)) ∧ Chg (fun _ => False) W W' ∧ Sh w0 W' D A0 c0 A3 c3 A4 c4 but b ∧ W.heap.size ≤ b := by
  have hz := hB.size
  go_enter Try.func108, Try.ntmps108
  go_wp2
  go_ret
  refine ⟨_, rfl, ((Chg.refl _ W).alloc _).alloc _, ⟨?_, ?_, ?_⟩, by omega⟩
  · exact (hB.alloc hz _).alloc (by simp; omega) _
  · exact new_at (by simp) _
  · omega

def seenB (n : Nat → Int) (g : Nat) (y : Int) (i : Nat) : Bool := decide (n g + n 3 * y ≤ n (4 + i))
def seenTo (n : Nat → Int) (g : Nat) (y : Int) : Nat → Nat
  | 0 => 0
  | k + 1 => if seenB n g y k then seenTo n g y k ||| 2 ^ k else seenTo n g y k
theorem seenTo_lt (n : Nat → Int) (g : Nat) (y : Int) : ∀ k, seenTo n g y k < 2 ^ k
  | 0 => by simp [seenTo]
  | k + 1 => by
    have h := seenTo_lt n g y k
    unfold seenTo
    split
    · exact Nat.or_lt_two_pow (by omega) (by omega)
    · omega
theorem or_pow {a k : Nat} (ha : a < 2 ^ 62) (hk : k < 62) : bits .or .i64 (a : Int) (wrap64 (2 ^ k)) = ((a ||| 2 ^ k : Nat) : Int) := by
  have h := shl1 k hk
  rw [Int.one_mul] at h
  have h' : wrap64 (2 ^ k) = ((2 ^ k : Nat) : Int) := by rw [← i64_w]; exact h
  rw [h', or_i64 a (2 ^ k) ha (Nat.pow_lt_pow_right (by decide) hk)]
theorem mul_in {a y : Int} (h0 : 0 ≤ a) (h1 : a ≤ 60) (h2 : 0 ≤ y) (h3 : y ≤ 9) : 0 ≤ a * y ∧ a * y ≤ 540 := by
  refine ⟨Int.mul_nonneg h0 h2, ?_⟩
  have : a * y ≤ 60 * y := Int.mul_le_mul_of_nonneg_right h1 h2
  omega

set_option maxRecDepth 100000 in
set_option maxHeartbeats 1000000 in
theorem seen_calls (w0 W : World) (D : Dat) (A0 : Option Addr) (c0 : Nat) (A3 : Option Addr) (c3 : Nat) (A4 : Option Addr) (c4 : Nat) (but b : Nat) (n : Nat → Int) (g : Nat) (y : Int)
    (hs4 : D.sp.length ≤ 4) (hn : ∀ k, 0 ≤ n k ∧ n k ≤ 60) (hg : g < 3) (hy0 : 0 ≤ y) (hy9 : y ≤ 9) (h : Sh w0 W D A0 c0 A3 c3 A4 c4 but b) :
    Calls Try.prog 97 #[.pointer (some ⟨b, 0, none⟩), .agg (vec8 n), .agg #[.int .i64 g, .int .i64 y]] W
      fun e W' => e = .returned (.int .i64 (seenTo n g y D.sp.length)) ∧ Chg (fun _ => False) W W' := by
  have H := Aside0.mk h
  clear h
  have HC0 : Aside0 (Chg (fun _ => False) W ((W.alloc (.cells (vec8 n) 126)).alloc (.cells #[.int .i64 g, .int .i64 y] 129))) := ⟨((Chg.refl _ W).alloc _).alloc _⟩
  have HN0 := Aside0.mk (blk_alloc (blk_new W (.cells (vec8 n) 126)) (.cells #[.int .i64 g, .int .i64 y] 129))
  have HT0 := Aside0.mk (new_at (W := W.alloc (.cells (vec8 n) 126)) (n := W.heap.size + 1) (by simp) (.cells #[.int .i64 g, .int .i64 y] 129))
  go_enter Try.func97, Try.ntmps97
  go_upto_region 1 with (fail)
  generalize (W.alloc (.cells (vec8 n) 126)).alloc (.cells #[.int .i64 g, .int .i64 y] 129) = W1 at HC0 HN0 HT0 ⊢
  obtain ⟨q, hq⟩ : ∃ q, W.heap.size = q := ⟨_, rfl⟩
  rw [hq] at HN0 HT0 ⊢
  clear hq
  have h3 : W1.cell? ⟨b, 3, none⟩ = some (.slice A3 D.sp.length c3) := (blk_cell (HC0.out.heap H.out.sh id) 3).trans rfl
  have hl := blk_lt (HC0.out.heap H.out.sh id)
  go_wp2
  clear h3 hl
  go_loopw [6, 14] (fun v6 j wr => ∃ k : Nat, k ≤ D.sp.length ∧ j = .int .i64 k ∧ v6 = .int .i64 (seenTo n g y k) ∧ Aside0 (Chg (fun _ => False) W1 wr)) (fun _ j _ => D.sp.length - (intOf j).toNat)
  case atStart => exact ⟨0, Nat.zero_le _, rfl, rfl, ⟨Chg.refl _ _⟩⟩
  case round =>
    obtain ⟨k, hk, rfl, rfl, HC⟩ := hrel
    by_cases hlt : k < D.sp.length
    · have HN := Aside0.mk (HC.out.heap HN0.out id)
      have HT := Aside0.mk (HC.out.heap HT0.out id)
      have n0 := hn g
      have n1 := hn 3
      have n2 := hn (4 + k)
      have hm := mul_in n1.1 n1.2 hy0 hy9
      have HSB : Aside0 (seenB n g y k = decide (n g + n 3 * y ≤ n (4 + k))) := ⟨rfl⟩
      have xk : wr.cell? ⟨q, 4 + k, none⟩ = some (.int .i64 (n (4 + k))) := (blk_cell HN.out (4 + k)).trans (vec_get n (4 + k) (by omega))
      have xg : wr.cell? ⟨q, g, none⟩ = some (.int .i64 (n g)) := (blk_cell HN.out g).trans (vec_get n g (by omega))
      have x3 : wr.cell? ⟨q, 3, none⟩ = some (.int .i64 (n 3)) := (blk_cell HN.out 3).trans rfl
      have t0 : wr.cell? ⟨q + 1, 0, none⟩ = some (.int .i64 g) := (blk_cell HT.out 0).trans rfl
      have t1 : wr.cell? ⟨q + 1, 1, none⟩ = some (.int .i64 y) := (blk_cell HT.out 1).trans rfl
      have lq := blk_lt HN.out
      have lt := blk_lt HT.out
      obtain ⟨ng, hng⟩ : ∃ ng, n g = ng := ⟨_, rfl⟩
      obtain ⟨n3, hn3⟩ : ∃ n3, n 3 = n3 := ⟨_, rfl⟩
      obtain ⟨nk, hnk⟩ : ∃ nk, n (4 + k) = nk := ⟨_, rfl⟩
      rw [hng] at xg n0 HSB
      rw [hn3] at x3 n1 hm HSB
      rw [hnk] at xk n2 HSB
      clear hng hn3 hnk
      obtain ⟨m, hmm⟩ : ∃ m, n3 * y = m := ⟨_, rfl⟩
      rw [hmm] at hm HSB
      obtain ⟨n00, n01⟩ := n0
      obtain ⟨n10, n11⟩ := n1
      obtain ⟨n20, n21⟩ := n2
      obtain ⟨m0, m1⟩ := hm
      have hor : bits .or .i64 (seenTo n g y k : Int) (wrap64 (2 ^ k)) = ((seenTo n g y k ||| 2 ^ k : Nat) : Int) := or_pow (Nat.lt_trans (seenTo_lt n g y k) (Nat.pow_lt_pow_right (by decide) (by omega))) (by omega)
      have e4 : (4 + (k : Int)).toNat = 4 + k := by omega
      by_cases hs : ng + m ≤ nk
      · have HS := Aside0.mk (HSB.out.trans (decide_eq_true hs))
        go_wp2
        go_quiet (fail)
        go_wp2
        go_roundw
        case rel => exact ⟨k + 1, by omega, by go_num, by rw [seenTo, HS.out]; rfl, ⟨HC.out.drewN _⟩⟩
        case measure => simp [intOf]; omega
      · have HS := Aside0.mk (HSB.out.trans (decide_eq_false hs))
        go_wp2
        go_quiet (fail)
        go_wp2
        go_roundw
        case rel => exact ⟨k + 1, by omega, by go_num, by rw [seenTo, HS.out]; rfl, ⟨HC.out.drewN _⟩⟩
        case measure => simp [intOf]; omega
    · obtain rfl : k = D.sp.length := by omega
      go_wp2
      go_ret
      exact ⟨rfl, HC0.out.trans HC.out⟩
end Go.Proofs.Ytgoidclnccjdeaa.D
end
section
/- Package glass: span; so. -/
namespace Go.Proofs.Ytgoidclnccjdeaa.D
open Go Go.RowKit Go.Proofs.YtgoidclnccjdeaaK Go.Proofs.YtgoidclnccjdeaaW.PrintWords Go.Proofs.YtgoidclnccjdeaaW.PrintLast Go.Proofs.YtgoidclnccjdeaaW.PrintMore Go.Proofs.Ytgoidclnccjdeaa.PR Go.Proofs.Ytgoidclnccjdeaa.M
set_option linter.unusedVariables false
set_option linter.unusedSimpArgs false

def spanF (D : Dat) (k : Nat) : Int × Int :=
  if k < D.gl.length then ((rd_T95 D.gl k).f1.f0, (rd_T95 D.gl k).f1.f1) else if k = 3 then (D.lo, D.hi) else if 4 ≤ k ∧ k < 4 + D.sp.length then ((rd_T24 D.sp ((k - 4 : Nat) : Int)).f0, (rd_T24 D.sp ((k - 4 : Nat) : Int)).f1) else (0, 0)
theorem spanF_in {D : Dat} (h : Valid D) (k : Nat) : 0 ≤ (spanF D k).1 ∧ (spanF D k).1 ≤ (spanF D k).2 ∧ (spanF D k).2 ≤ 60 := by
  unfold spanF
  split
  · next h1 => have := h.gl k h1; simp only; omega
  · split
    · have := h.lo; have := h.le; have := h.hi; simp only; omega
    · split
      · next h3 => have := h.sp (k - 4) (by omega); simp only; omega
      · simp
theorem info24s : (Try.prog.info? 24).map (·.size) = some 2 := by kernel_rfl

set_option maxRecDepth 100000 in
set_option maxHeartbeats 1000000 in
theorem span_calls (w0 W : World) (D : Dat) (A0 : Option Addr) (c0 : Nat) (A3 : Option Addr) (c3 : Nat) (A4 : Option Addr) (c4 : Nat) (but b : Nat) (k : Nat)
    (hA : Arg w0 D A0 c0 A3 c3 A4 c4) (hV : Valid D) (hk : k < 8) (h : Sh w0 W D A0 c0 A3 c3 A4 c4 but b) :
    Calls Try.prog 130 #[.pointer (some ⟨b, 0, none⟩), .int .i64 k] W
      fun e W' => e = .returned (.agg #[.int .i64 (spanF D k).1, .int .i64 (spanF D k).2]) ∧ Chg (fun _ => False) W W' := by
  have H := Aside0.mk h
  have hg3 := hV.g3
  have hs4 := hV.s4
  clear h
  have HC0 : Aside0 (Chg (fun _ => False) W (W.alloc (.cells #[.int .i64 0, .int .i64 0] 24))) := ⟨(Chg.refl _ W).alloc _⟩
  have HX0 := Aside0.mk (blk_new W (.cells #[.int .i64 0, .int .i64 0] 24))
  obtain ⟨r, hr⟩ : ∃ r, spanF D k = r := ⟨_, rfl⟩
  have HR := Aside0.mk hr
  rw [hr]
  clear hr
  go_enter Try.func130, Try.ntmps130
  go_upto_region 1 with (fail)
  generalize hW1 : W.alloc (.cells #[.int .i64 0, .int .i64 0] 24) = W1 at HC0 HX0 ⊢
  obtain ⟨q, hq⟩ : ∃ q, W.heap.size = q := ⟨_, rfl⟩
  rw [hq] at HX0 ⊢
  have HQ := Aside0.mk hq
  clear hq hW1
  have HS := Aside0.mk (H.out.chg HC0.out (fun _ x => x.elim))
  have k0 : W1.cell? ⟨b, 0, none⟩ = some (.slice A0 D.gl.length c0) := (blk_cell HS.out.sh 0).trans rfl
  have k1 : W1.cell? ⟨b, 1, none⟩ = some (.int .i64 D.lo) := (blk_cell HS.out.sh 1).trans rfl
  have k2 : W1.cell? ⟨b, 2, none⟩ = some (.int .i64 D.hi) := (blk_cell HS.out.sh 2).trans rfl
  have k3 : W1.cell? ⟨b, 3, none⟩ = some (.slice A3 D.sp.length c3) := (blk_cell HS.out.sh 3).trans rfl
  have kl := blk_lt HS.out.sh
  have q0 : W1.cell? ⟨q, 0, none⟩ = some (.int .i64 0) := (blk_cell HX0.out 0).trans rfl
  have q1 : W1.cell? ⟨q, 1, none⟩ = some (.int .i64 0) := (blk_cell HX0.out 1).trans rfl
  have f0 := blk_frozen HX0.out 0
  have f1 := blk_frozen HX0.out 1
  have ql := blk_lt HX0.out
  have FIN : Aside0 (∀ (s : Func) (a c : Int), r = (a, c) → ((W1.setCell ⟨q, 0, none⟩ (.int .i64 a)).setCell ⟨q, 1, none⟩ (.int .i64 c)).heap[q]? = some (.cells #[.int .i64 a, .int .i64 c] 24 (0, 0)) ∧ Chg (fun _ => False) W ((W1.setCell ⟨q, 0, none⟩ (.int .i64 a)).setCell ⟨q, 1, none⟩ (.int .i64 c))) := ⟨fun _ a c _ => ⟨blk_set (blk_set HX0.out 0 _) 1 _, by
    have h1 := ((Chg.refl (fun k => k = q) W1).setCell (p := ⟨q, 0, none⟩) (fun _ => rfl) (.int .i64 a)).setCell (p := ⟨q, 1, none⟩) (fun _ => rfl) (.int .i64 c)
    exact HC0.out.then_ h1 (fun k hk e => by have := HQ.out; omega)⟩⟩
  by_cases h1 : k < D.gl.length
  · obtain ⟨ad, e, hc0, hc1, hc2⟩ := at_gl (Kd.C_below hA.g HS.out.base) k h1
    subst e
    have hr : r = ((rd_T95 D.gl k).f1.f0, (rd_T95 D.gl k).f1.f1) := by rw [← HR.out, spanF, if_pos h1]
    generalize rd_T95 D.gl k = x at *
    go_wp2
    refine bodyPost_ret (v := .agg #[.int .i64 x.f1.f0, .int .i64 x.f1.f1]) (results_cell_row rfl _ _ q 24 _ (0, 0) _ rfl (FIN.out Try.f130 _ _ hr).1 Try.underlying24 rfl info24s) rfl ⟨by first | rw [hr] | rfl, (FIN.out Try.f130 _ _ hr).2⟩
  · by_cases h2 : k = 3
    · have hr : r = (D.lo, D.hi) := by rw [← HR.out, spanF, if_neg h1, if_pos h2]
      have hb3 : ((k : Int) == 3) = true := beq_iff_eq.2 (by omega)
      go_wp2
      refine bodyPost_ret (v := .agg #[.int .i64 D.lo, .int .i64 D.hi]) (results_cell_row rfl _ _ q 24 _ (0, 0) _ rfl (FIN.out Try.f130 _ _ hr).1 Try.underlying24 rfl info24s) rfl ⟨by first | rw [hr] | rfl, (FIN.out Try.f130 _ _ hr).2⟩
    · have hb3 : ((k : Int) == 3) = false := beq_eq_false_iff_ne.2 (by omega)
      by_cases h3 : 4 ≤ k
      · by_cases h4 : k < 4 + D.sp.length
        · obtain ⟨ad, e, hc0, hc1⟩ := at_sp (Kd.C_below hA.s HS.out.base) (k - 4) (by omega)
          subst e
          have hr : r = ((rd_T24 D.sp ((k - 4 : Nat) : Int)).f0, (rd_T24 D.sp ((k - 4 : Nat) : Int)).f1) := by rw [← HR.out, spanF, if_neg h1, if_neg h2, if_pos ⟨h3, h4⟩]
          generalize rd_T24 D.sp ((k - 4 : Nat) : Int) = x at *
          have e4 : ((k : Int) - 4).toNat = k - 4 := by omega
          go_wp2
          refine bodyPost_ret (v := .agg #[.int .i64 x.f0, .int .i64 x.f1]) (results_cell_row rfl _ _ q 24 _ (0, 0) _ rfl (FIN.out Try.f130 _ _ hr).1 Try.underlying24 rfl info24s) rfl ⟨by first | rw [hr] | rfl, (FIN.out Try.f130 _ _ hr).2⟩
        · have hr : r = (0, 0) := by rw [← HR.out, spanF, if_neg h1, if_neg h2, if_neg (fun x => h4 x.2)]
          go_wp2
          refine bodyPost_ret (v := .agg #[.int .i64 0, .int .i64 0]) (results_cell_row rfl _ _ q 24 _ (0, 0) _ rfl (FIN.out Try.f130 _ _ hr).1 Try.underlying24 rfl info24s) rfl ⟨by first | rw [hr] | rfl, (FIN.out Try.f130 _ _ hr).2⟩
      · have hr : r = (0, 0) := by rw [← HR.out, spanF, if_neg h1, if_neg h2, if_neg (fun x => h3 x.1)]
        go_wp2
        refine bodyPost_ret (v := .agg #[.int .i64 0, .int .i64 0]) (results_cell_row rfl _ _ q 24 _ (0, 0) _ rfl (FIN.out Try.f130 _ _ hr).1 Try.underlying24 rfl info24s) rfl ⟨by first | rw [hr] | rfl, (FIN.out Try.f130 _ _ hr).2⟩
end Go.Proofs.Ytgoidclnccjdeaa.D
end
section
/- Package glass: so. -/
namespace Go.Proofs.Ytgoidclnccjdeaa.D
open Go Go.RowKit Go.Proofs.YtgoidclnccjdeaaK Go.Proofs.YtgoidclnccjdeaaW.PrintWords Go.Proofs.YtgoidclnccjdeaaW.PrintLast Go.Proofs.YtgoidclnccjdeaaW.PrintMore Go.Proofs.Ytgoidclnccjdeaa.PR Go.Proofs.Ytgoidclnccjdeaa.M
set_option linter.unusedVariables false
set_option linter.unusedSimpArgs false

abbrev encV (p : Int × Int) : Value := .agg #[.int .i64 p.1, .int .i64 p.2]
theorem v1 : Try.prog.underlying 129 = some (.struct (Try.prog.fieldsOf 129)) := by kernel_rfl
theorem v2 : Try.prog.stoodInHeld 129 = false := by kernel_rfl
theorem v3 : Try.prog.plainKey 3 = true := by kernel_rfl
theorem v4 : ((Try.prog.fieldsOf 129).toList.map fun f => (f.name == "_", f.type, f.offset)) = [(false, 3, 0), (false, 3, 1)] := by kernel_rfl
theorem v5 (w : World) (a b : Int × Int) : (Op.equalIn (9999 + 1) 129 (encV a) (encV b)).run Try.prog w = .ok (a.1 == b.1 && a.2 == b.2) w := equal_two w v1 v2 Try.underlying3 v3 v4 a.1 a.2 b.1 b.2 9999 (by decide)
theorem v6 (w : World) (a b : Int × Int) : (Op.equal 129 (encV a) (encV b)).run Try.prog w = .ok (a.1 == b.1 && a.2 == b.2) w := v5 w a b
theorem v7 (w : World) (e : Bool) (a : Int × Int) : (Instr.checkKey e 10000 129 (encV a)).run Try.prog w = .ok () w := by kernel_rfl
theorem v8 (a : Int × Int) : Instr.sameBits (9999 + 1) (encV a) (encV a) = true := by simp [Instr.sameBits]
theorem keyV : KeyRun Try.prog 129 encV where
  chk := fun e a w => v7 w e a
  eq := fun a b w => by
    rw [v6]
    congr 1
    rw [Bool.eq_iff_iff]
    simp [Prod.ext_iff]
  und := ⟨_, Try.underlying129, fun _ _ => rfl⟩
  same := v8

def thrB (D : Dat) (n : Nat → Int) (d : Dr) (g : Nat) : Bool := (d.f0 == -1 || d.f0 == (g : Int)) && ((seenTo n g d.f1 D.sp.length : Nat) : Int) == d.f2
def soD (D : Dat) (n : Nat → Int) (d : Dr) (k : Nat) : Bool := (List.range k).any fun g => thrB D n d g
def soTo (D : Dat) (but : Nat) (n : Nat → Int) (k : Nat) : Bool := (List.range k).all fun i => but.testBit i || soD D n (rd_T72 D.dr i) D.gl.length
def soB (D : Dat) (but : Nat) (n : Nat → Int) : Bool := soTo D but n D.dr.length
theorem soD_succ (D : Dat) (n : Nat → Int) (d : Dr) (k : Nat) : soD D n d (k + 1) = (soD D n d k || thrB D n d k) := by simp [soD, List.range_succ]
theorem soTo_succ (D : Dat) (but : Nat) (n : Nat → Int) (k : Nat) : soTo D but n (k + 1) = (soTo D but n k && (but.testBit k || soD D n (rd_T72 D.dr k) D.gl.length)) := by simp [soTo, List.range_succ]
theorem soTo_le (D : Dat) (but : Nat) (n : Nat → Int) {k m : Nat} (h : k ≤ m) (hf : soTo D but n k = false) : soTo D but n m = false := by
  induction m with
  | zero => have : k = 0 := by omega
            subst this; exact hf
  | succ m ih =>
    by_cases e : k = m + 1
    · subst e; exact hf
    · rw [soTo_succ, ih (by omega)]; rfl
theorem soD_le (D : Dat) (n : Nat → Int) (d : Dr) {k m : Nat} (h : k ≤ m) (hf : soD D n d k = true) : soD D n d m = true := by
  induction m with
  | zero => have : k = 0 := by omega
            subst this; exact hf
  | succ m ih =>
    by_cases e : k = m + 1
    · subst e; exact hf
    · rw [soD_succ, ih (by omega)]; rfl
def Mem (D : Dat) (n : Nat → Int) (W : World) (mp : Nat) : Prop := ∃ l, MapAt W mp encV l ∧ ∀ p ∈ l, ∃ (g : Nat) (y : Int), p.1 = ((g : Int), y) ∧ p.2 = .int .i64 (seenTo n g y D.sp.length)
theorem Mem.chg {D : Dat} {n : Nat → Int} {W W' : World} {mp : Nat} {S : Nat → Prop} (h : Mem D n W mp) (hc : Chg S W W') (hs : ¬ S mp) : Mem D n W' mp := by
  obtain ⟨l, hl, hp⟩ := h
  exact ⟨l, hl.chg hc hs, hp⟩

set_option maxRecDepth 100000 in
set_option maxHeartbeats 2000000 in
theorem so_calls (w0 W : World) (D : Dat) (A0 : Option Addr) (c0 : Nat) (A3 : Option Addr) (c3 : Nat) (A4 : Option Addr) (c4 : Nat) (but b : Nat) (n : Nat → Int)
    (hA : Arg w0 D A0 c0 A3 c3 A4 c4) (hV : Valid D) (hbut : but < 2 ^ 62) (hn : ∀ k, 0 ≤ n k ∧ n k ≤ 60) (h : Sh w0 W D A0 c0 A3 c3 A4 c4 but b) :
    Calls Try.prog 129 #[.pointer (some ⟨b, 0, none⟩), .agg (vec8 n)] W
      fun e W' => e = .returned (.bool (soB D but n)) ∧ Chg (fun _ => False) W W' := by
  have H := Aside0.mk h
  have HV := Aside0.mk hV
  clear h hV
  have hmm := @run_makeMap Try.prog
  have HN0 := Aside0.mk (blk_alloc (blk_new W (.cells (vec8 n) 126)) (.map #[] 0))
  have HC0 : Aside0 (Chg (fun _ => False) W ((W.alloc (.cells (vec8 n) 126)).alloc (.map #[] 0))) := ⟨((Chg.refl _ W).alloc _).alloc _⟩
  have HM0 : Aside0 (Mem D n ((W.alloc (.cells (vec8 n) 126)).alloc (.map #[] 0)) (W.heap.size + 1)) := ⟨[], by simpa using MapAt.made (W.alloc (.cells (vec8 n) 126)) encV, fun p hp => by cases hp⟩
  have HZ0 : Aside0 (W.heap.size + 1 < ((W.alloc (.cells (vec8 n) 126)).alloc (.map #[] 0)).heap.size) := ⟨by simp⟩
  go_enter Try.func129, Try.ntmps129
  go_wp2
  go_step3
  go_upto_region 3 with (fail)
  generalize hW1 : (W.alloc (.cells (vec8 n) 126)).alloc (.map #[] 0) = W1 at HN0 HC0 HM0 HZ0 ⊢
  obtain ⟨q, hq⟩ : ∃ q, W.heap.size = q := ⟨_, rfl⟩
  rw [hq] at HN0 HM0 HZ0 ⊢
  have HQ := Aside0.mk hq
  clear hq hW1 hmm
  have k4 : W1.cell? ⟨b, 4, none⟩ = some (.slice A4 D.dr.length c4) := (blk_cell (HC0.out.heap H.out.sh id) 4).trans rfl
  have kl := blk_lt (HC0.out.heap H.out.sh id)
  have hd4 := HV.out.d4
  have hg3 := HV.out.g3
  have hs4 := HV.out.s4
  have HNE : Aside0 (q ≠ q + 1 ∧ b ≠ q + 1) := ⟨by omega, fun e => by have := blk_lt H.out.sh; have := HQ.out; omega⟩
  go_step3
  go_wp2
  clear k4 kl
  go_loopw [22] (fun j wr => ∃ k : Nat, k ≤ D.dr.length ∧ j = .int .i64 k ∧ Aside0 (soTo D but n k = true) ∧ Aside0 (Chg (fun k => k = q + 1) W1 wr) ∧ Aside0 (Mem D n wr (q + 1))) (fun j _ => D.dr.length - (intOf j).toNat)
  case atStart => exact ⟨0, Nat.zero_le _, rfl, ⟨rfl⟩, ⟨Chg.refl _ _⟩, HM0⟩
  case round =>
    obtain ⟨k, hk, rfl, HS, HC, HM⟩ := hrel
    have HB := Aside0.mk (HC.out.heap (HC0.out.heap H.out.sh id) HNE.out.2)
    by_cases hlt : k < D.dr.length
    · obtain ⟨ad, e, hc0, hc1, hc2⟩ := at_dr (Kd.C_below hA.d (H.out.base.trans ((HC0.out.then_ HC.out (S := fun _ => False) (fun k hk e => by have := HQ.out; omega)).below (fun _ _ x => x.elim) (Nat.le_refl _) |>.mono H.out.base.size))) k hlt
      subst e
      obtain ⟨d, hd⟩ : ∃ d, rd_T72 D.dr k = d := ⟨_, rfl⟩
      have HD := Aside0.mk hd
      have vd := HV.out.dr k hlt
      rw [hd] at hc0 hc1 hc2 vd
      clear hd
      obtain ⟨vd0, vd1, vd2, vd3, vd4, vd5⟩ := vd
      have k5 : wr.cell? ⟨b, 5, none⟩ = some (.int .i64 but) := (blk_cell HB.out 5).trans rfl
      have k0 : wr.cell? ⟨b, 0, none⟩ = some (.slice A0 D.gl.length c0) := (blk_cell HB.out 0).trans rfl
      have kl := blk_lt HB.out
      have hbit := bit1 but k hbut
      obtain ⟨z, hz⟩ : ∃ z, but.testBit k = z := ⟨_, rfl⟩
      rw [hz] at hbit
      have HZ := Aside0.mk hz
      clear hz
      have HBd := Aside0.mk (blk_new wr (.cells #[.int .i64 d.f0, .int .i64 d.f1, .int .i64 d.f2] 72))
      have HC2 := Aside0.mk (HC.out.alloc (.cells #[.int .i64 d.f0, .int .i64 d.f1, .int .i64 d.f2] 72))
      have HM2 : Aside0 (Mem D n (wr.alloc (.cells #[.int .i64 d.f0, .int .i64 d.f1, .int .i64 d.f2] 72)) (q + 1)) := ⟨HM.out.chg ((Chg.refl (fun _ => False) wr).alloc _) id⟩
      cases z
      · rw [if_neg (by simp)] at hbit
        go_wp2
        obtain ⟨Bd, hBd⟩ : ∃ Bd, wr.heap.size = Bd := ⟨_, rfl⟩
        rw [hBd] at HBd ⊢
        generalize wr.alloc (.cells #[.int .i64 d.f0, .int .i64 d.f1, .int .i64 d.f2] 72) = wd at HBd HC2 HM2 ⊢
        have HNB : Aside0 (Bd ≠ q + 1) := ⟨fun e => by
          obtain ⟨l, ⟨es, cl, hb, _⟩, _⟩ := HM2.out
          rw [← e, HBd.out] at hb; cases hb⟩
        clear hBd hc0 hc1 hc2 k5 k0 kl hbit HC HM HB
        go_loopw [41] (fun j wr => ∃ i : Nat, i ≤ D.gl.length ∧ j = .int .i64 i ∧ Aside0 (soD D n d i = false) ∧ Aside0 (Chg (fun k => k = q + 1) W1 wr) ∧ Aside0 (Mem D n wr (q + 1)) ∧ Aside0 (wr.heap[Bd]? = some (.cells #[.int .i64 d.f0, .int .i64 d.f1, .int .i64 d.f2] 72 (0, 0)))) (fun j _ => D.gl.length - (intOf j).toNat)
        case atStart => exact ⟨0, Nat.zero_le _, rfl, ⟨rfl⟩, HC2, HM2, HBd⟩
        case round =>
          clear HC2 HM2 HBd
          obtain ⟨i, hi, rfl, HSD, HCq, HMq, HBq⟩ := hrel
          by_cases hli : i < D.gl.length
          · have b0 : wr.cell? ⟨Bd, 0, none⟩ = some (.int .i64 d.f0) := (blk_cell HBq.out 0).trans rfl
            have b1 : wr.cell? ⟨Bd, 1, none⟩ = some (.int .i64 d.f1) := (blk_cell HBq.out 1).trans rfl
            have b2 : wr.cell? ⟨Bd, 2, none⟩ = some (.int .i64 d.f2) := (blk_cell HBq.out 2).trans rfl
            have bl := blk_lt HBq.out
            by_cases h1 : d.f0 = -1
            · have h1' : (d.f0 != -1) = false := by simp [h1]
              have HOR : Aside0 ((d.f0 == -1 || d.f0 == (i : Int)) = true) := ⟨by simp [h1]⟩
              have h1'' : (d.f0 == -1) = true := by simp [h1]
              clear h1
              have HTX : Aside0 (∀ r, (((seenTo n i d.f1 D.sp.length : Nat) : Int) == d.f2) = r → thrB D n d i = r) := ⟨fun r hr => by rw [thrB, hr]; rw [HOR.out]; simp⟩
              obtain ⟨z, hz⟩ : ∃ z, (((seenTo n i d.f1 D.sp.length : Nat) : Int) == d.f2) = z := ⟨_, rfl⟩
              have HTH := Aside0.mk (HTX.out z hz)
              clear HTX
              obtain ⟨st, hst⟩ : ∃ st, seenTo n i d.f1 D.sp.length = st := ⟨_, rfl⟩
              have HST := Aside0.mk hst
              rw [hst] at hz
              clear hst
              have HBt := Aside0.mk (blk_new wr (.cells #[.int .i64 (i : Int), .int .i64 d.f1] 129))
              have HCt := Aside0.mk (HCq.out.alloc (.cells #[.int .i64 (i : Int), .int .i64 d.f1] 129))
              obtain ⟨l, hl, hp⟩ := HMq.out
              have hlt2 := hl.chg ((Chg.refl (fun _ => False) wr).alloc (.cells #[.int .i64 (i : Int), .int .i64 d.f1] 129)) id
              cases hq : mlook ((i : Int), d.f1) l with
              | some v =>
                have hlk := lookup_run (P := Try.prog) keyV (T := 168) Try.underlying168 (elem := 3) (z := .int .i64 0) (by kernel_rfl) hlt2 ((i : Int), d.f1) true
                rw [hq] at hlk
                obtain ⟨g', y', e1, e2⟩ := hp _ (look_mem hq)
                simp only [Prod.mk.injEq] at e1
                obtain ⟨e1, e3⟩ := e1
                obtain rfl : i = g' := by omega
                simp only at e2 e3
                subst e3
                rw [HST.out] at e2
                subst e2
                have HM3 : Aside0 (Mem D n (wr.alloc (.cells #[.int .i64 (i : Int), .int .i64 d.f1] 129)) (q + 1)) := ⟨⟨l, hlt2, hp⟩⟩
                clear hl hp hq hlt2
                cases z
                · go_wp2
                  go_roundw
                  case rel => exact ⟨i + 1, by omega, by go_num, ⟨by rw [soD_succ, HSD.out, HTH.out]; rfl⟩, HCt, HM3, ⟨blk_alloc HBq.out _⟩⟩
                  case measure => simp [intOf]; omega
                · go_wp2
                  go_roundw
                  case rel => exact ⟨k + 1, by omega, by go_num, ⟨by rw [soTo_succ, HS.out, HZ.out, HD.out, soD_le D n d (show i + 1 ≤ D.gl.length by omega) (by rw [soD_succ, HSD.out, HTH.out]; rfl)]; rfl⟩, HCt, HM3⟩
                  case measure => simp [intOf]; omega
              | none =>
                have hlk := lookup_run (P := Try.prog) keyV (T := 168) Try.underlying168 (elem := 3) (z := .int .i64 0) (by kernel_rfl) hlt2 ((i : Int), d.f1) true
                rw [hq] at hlk
                have HL2 := Aside0.mk hlt2
                have HP := Aside0.mk hp
                have HLK := Aside0.mk hq
                have HSH : Aside0 (Sh w0 (wr.alloc (.cells #[.int .i64 (i : Int), .int .i64 d.f1] 129)) D A0 c0 A3 c3 (some ad) c4 but b) := ⟨H.out.chg (HC0.out.then_ HCt.out (S := fun _ => False) (fun k hk e => by have := HQ.out; omega)) (fun _ x => x.elim)⟩
                clear hl hp hq hlt2
                have HNt := Aside0.mk (HCt.out.heap HN0.out HNE.out.1)
                have nl0 : (wr.alloc (.cells #[.int .i64 (i : Int), .int .i64 d.f1] 129)).cell? ⟨q, 0, none⟩ = some (.int .i64 (n 0)) := (blk_cell HNt.out 0).trans rfl
                have nl1 : (wr.alloc (.cells #[.int .i64 (i : Int), .int .i64 d.f1] 129)).cell? ⟨q, 1, none⟩ = some (.int .i64 (n 1)) := (blk_cell HNt.out 1).trans rfl
                have nl2 : (wr.alloc (.cells #[.int .i64 (i : Int), .int .i64 d.f1] 129)).cell? ⟨q, 2, none⟩ = some (.int .i64 (n 2)) := (blk_cell HNt.out 2).trans rfl
                have nl3 : (wr.alloc (.cells #[.int .i64 (i : Int), .int .i64 d.f1] 129)).cell? ⟨q, 3, none⟩ = some (.int .i64 (n 3)) := (blk_cell HNt.out 3).trans rfl
                have nl4 : (wr.alloc (.cells #[.int .i64 (i : Int), .int .i64 d.f1] 129)).cell? ⟨q, 4, none⟩ = some (.int .i64 (n 4)) := (blk_cell HNt.out 4).trans rfl
                have nl5 : (wr.alloc (.cells #[.int .i64 (i : Int), .int .i64 d.f1] 129)).cell? ⟨q, 5, none⟩ = some (.int .i64 (n 5)) := (blk_cell HNt.out 5).trans rfl
                have nl6 : (wr.alloc (.cells #[.int .i64 (i : Int), .int .i64 d.f1] 129)).cell? ⟨q, 6, none⟩ = some (.int .i64 (n 6)) := (blk_cell HNt.out 6).trans rfl
                have nl7 : (wr.alloc (.cells #[.int .i64 (i : Int), .int .i64 d.f1] 129)).cell? ⟨q, 7, none⟩ = some (.int .i64 (n 7)) := (blk_cell HNt.out 7).trans rfl
                have nlq := blk_lt HNt.out
                go_wp2_with fail
                clear nl0 nl1 nl2 nl3 nl4 nl5 nl6 nl7 nlq
                refine (seen_calls w0 _ D A0 c0 A3 c3 (some ad) c4 but b n i d.f1 hs4 hn (by omega) vd2 vd3 HSH.out).mono ?_
                rw [HST.out]
                rintro e w1 ⟨rfl, hc1⟩
                obtain ⟨W3, hmu, hm3, hc3, hs3⟩ := put_run (P := Try.prog) keyV (T := 168) Try.underlying168 (elem := 3) (W := w1) (HL2.out.chg hc1 id) ((i : Int), d.f1) (.int .i64 st)
                have hBt := hc1.heap HBt.out id
                have HM3 : Aside0 (Mem D n W3 (q + 1)) := ⟨⟨_, hm3, fun p hp' => by
                  rw [look_none HLK.out] at hp'
                  rcases List.mem_append.1 hp' with h | h
                  · exact HP.out p h
                  · simp at h; subst h; exact ⟨i, d.f1, rfl, by rw [HST.out]⟩⟩⟩
                have HC3 : Aside0 (Chg (fun k => k = q + 1) W1 W3) := ⟨(HCt.out.trans (hc1.mono (fun _ _ x => x.elim))).trans hc3⟩
                have HBq3 : Aside0 (W3.heap[Bd]? = some (.cells #[.int .i64 d.f0, .int .i64 d.f1, .int .i64 d.f2] 72 (0, 0))) := ⟨hc3.heap (hc1.heap (blk_alloc HBq.out _) id) HNB.out⟩
                have t0 : w1.cell? ⟨wr.heap.size, 0, none⟩ = some (.int .i64 (i : Int)) := (blk_cell hBt 0).trans rfl
                have t1 : w1.cell? ⟨wr.heap.size, 1, none⟩ = some (.int .i64 d.f1) := (blk_cell hBt 1).trans rfl
                have tl := blk_lt hBt
                have b2 : W3.cell? ⟨Bd, 2, none⟩ = some (.int .i64 d.f2) := (blk_cell HBq3.out 2).trans rfl
                have bl3 := blk_lt HBq3.out
                clear hm3 hc1 hc3 hs3 hBt
                cases z
                · go_wp2
                  go_roundw
                  case rel => exact ⟨i + 1, by omega, by go_num, ⟨by rw [soD_succ, HSD.out, HTH.out]; rfl⟩, HC3, HM3, HBq3⟩
                  case measure => simp [intOf]; omega
                · go_wp2
                  go_roundw
                  case rel => exact ⟨k + 1, by omega, by go_num, ⟨by rw [soTo_succ, HS.out, HZ.out, HD.out, soD_le D n d (show i + 1 ≤ D.gl.length by omega) (by rw [soD_succ, HSD.out, HTH.out]; rfl)]; rfl⟩, HC3, HM3⟩
                  case measure => simp [intOf]; omega
            · have h1' : (d.f0 != -1) = true := by simp [h1]
              have h1'' : (d.f0 == -1) = false := by simp [h1]
              by_cases h2 : d.f0 = (i : Int)
              · have h2' : (d.f0 != (i : Int)) = false := by simp [h2]
                have h2'' : (d.f0 == (i : Int)) = true := by simp [h2]
                have HOR : Aside0 ((d.f0 == -1 || d.f0 == (i : Int)) = true) := ⟨by simp [h2]⟩
                clear h2
                have HTX : Aside0 (∀ r, (((seenTo n i d.f1 D.sp.length : Nat) : Int) == d.f2) = r → thrB D n d i = r) := ⟨fun r hr => by rw [thrB, hr]; rw [HOR.out]; simp⟩
                obtain ⟨z, hz⟩ : ∃ z, (((seenTo n i d.f1 D.sp.length : Nat) : Int) == d.f2) = z := ⟨_, rfl⟩
                have HTH := Aside0.mk (HTX.out z hz)
                clear HTX
                obtain ⟨st, hst⟩ : ∃ st, seenTo n i d.f1 D.sp.length = st := ⟨_, rfl⟩
                have HST := Aside0.mk hst
                rw [hst] at hz
                clear hst
                have HBt := Aside0.mk (blk_new wr (.cells #[.int .i64 (i : Int), .int .i64 d.f1] 129))
                have HCt := Aside0.mk (HCq.out.alloc (.cells #[.int .i64 (i : Int), .int .i64 d.f1] 129))
                obtain ⟨l, hl, hp⟩ := HMq.out
                have hlt2 := hl.chg ((Chg.refl (fun _ => False) wr).alloc (.cells #[.int .i64 (i : Int), .int .i64 d.f1] 129)) id
                cases hq : mlook ((i : Int), d.f1) l with
                | some v =>
                  have hlk := lookup_run (P := Try.prog) keyV (T := 168) Try.underlying168 (elem := 3) (z := .int .i64 0) (by kernel_rfl) hlt2 ((i : Int), d.f1) true
                  rw [hq] at hlk
                  obtain ⟨g', y', e1, e2⟩ := hp _ (look_mem hq)
                  simp only [Prod.mk.injEq] at e1
                  obtain ⟨e1, e3⟩ := e1
                  obtain rfl : i = g' := by omega
                  simp only at e2 e3
                  subst e3
                  rw [HST.out] at e2
                  subst e2
                  have HM3 : Aside0 (Mem D n (wr.alloc (.cells #[.int .i64 (i : Int), .int .i64 d.f1] 129)) (q + 1)) := ⟨⟨l, hlt2, hp⟩⟩
                  clear hl hp hq hlt2
                  cases z
                  · go_wp2
                    go_roundw
                    case rel => exact ⟨i + 1, by omega, by go_num, ⟨by rw [soD_succ, HSD.out, HTH.out]; rfl⟩, HCt, HM3, ⟨blk_alloc HBq.out _⟩⟩
                    case measure => simp [intOf]; omega
                  · go_wp2
                    go_roundw
                    case rel => exact ⟨k + 1, by omega, by go_num, ⟨by rw [soTo_succ, HS.out, HZ.out, HD.out, soD_le D n d (show i + 1 ≤ D.gl.length by omega) (by rw [soD_succ, HSD.out, HTH.out]; rfl)]; rfl⟩, HCt, HM3⟩
                    case measure => simp [intOf]; omega
                | none =>
                  have hlk := lookup_run (P := Try.prog) keyV (T := 168) Try.underlying168 (elem := 3) (z := .int .i64 0) (by kernel_rfl) hlt2 ((i : Int), d.f1) true
                  rw [hq] at hlk
                  have HL2 := Aside0.mk hlt2
                  have HP := Aside0.mk hp
                  have HLK := Aside0.mk hq
                  have HSH : Aside0 (Sh w0 (wr.alloc (.cells #[.int .i64 (i : Int), .int .i64 d.f1] 129)) D A0 c0 A3 c3 (some ad) c4 but b) := ⟨H.out.chg (HC0.out.then_ HCt.out (S := fun _ => False) (fun k hk e => by have := HQ.out; omega)) (fun _ x => x.elim)⟩
                  clear hl hp hq hlt2
                  have HNt := Aside0.mk (HCt.out.heap HN0.out HNE.out.1)
                  have nl0 : (wr.alloc (.cells #[.int .i64 (i : Int), .int .i64 d.f1] 129)).cell? ⟨q, 0, none⟩ = some (.int .i64 (n 0)) := (blk_cell HNt.out 0).trans rfl
                  have nl1 : (wr.alloc (.cells #[.int .i64 (i : Int), .int .i64 d.f1] 129)).cell? ⟨q, 1, none⟩ = some (.int .i64 (n 1)) := (blk_cell HNt.out 1).trans rfl
                  have nl2 : (wr.alloc (.cells #[.int .i64 (i : Int), .int .i64 d.f1] 129)).cell? ⟨q, 2, none⟩ = some (.int .i64 (n 2)) := (blk_cell HNt.out 2).trans rfl
                  have nl3 : (wr.alloc (.cells #[.int .i64 (i : Int), .int .i64 d.f1] 129)).cell? ⟨q, 3, none⟩ = some (.int .i64 (n 3)) := (blk_cell HNt.out 3).trans rfl
                  have nl4 : (wr.alloc (.cells #[.int .i64 (i : Int), .int .i64 d.f1] 129)).cell? ⟨q, 4, none⟩ = some (.int .i64 (n 4)) := (blk_cell HNt.out 4).trans rfl
                  have nl5 : (wr.alloc (.cells #[.int .i64 (i : Int), .int .i64 d.f1] 129)).cell? ⟨q, 5, none⟩ = some (.int .i64 (n 5)) := (blk_cell HNt.out 5).trans rfl
                  have nl6 : (wr.alloc (.cells #[.int .i64 (i : Int), .int .i64 d.f1] 129)).cell? ⟨q, 6, none⟩ = some (.int .i64 (n 6)) := (blk_cell HNt.out 6).trans rfl
                  have nl7 : (wr.alloc (.cells #[.int .i64 (i : Int), .int .i64 d.f1] 129)).cell? ⟨q, 7, none⟩ = some (.int .i64 (n 7)) := (blk_cell HNt.out 7).trans rfl
                  have nlq := blk_lt HNt.out
                  go_wp2_with fail
                  clear nl0 nl1 nl2 nl3 nl4 nl5 nl6 nl7 nlq
                  refine (seen_calls w0 _ D A0 c0 A3 c3 (some ad) c4 but b n i d.f1 hs4 hn (by omega) vd2 vd3 HSH.out).mono ?_
                  rw [HST.out]
                  rintro e w1 ⟨rfl, hc1⟩
                  obtain ⟨W3, hmu, hm3, hc3, hs3⟩ := put_run (P := Try.prog) keyV (T := 168) Try.underlying168 (elem := 3) (W := w1) (HL2.out.chg hc1 id) ((i : Int), d.f1) (.int .i64 st)
                  have hBt := hc1.heap HBt.out id
                  have HM3 : Aside0 (Mem D n W3 (q + 1)) := ⟨⟨_, hm3, fun p hp' => by
                    rw [look_none HLK.out] at hp'
                    rcases List.mem_append.1 hp' with h | h
                    · exact HP.out p h
                    · simp at h; subst h; exact ⟨i, d.f1, rfl, by rw [HST.out]⟩⟩⟩
                  have HC3 : Aside0 (Chg (fun k => k = q + 1) W1 W3) := ⟨(HCt.out.trans (hc1.mono (fun _ _ x => x.elim))).trans hc3⟩
                  have HBq3 : Aside0 (W3.heap[Bd]? = some (.cells #[.int .i64 d.f0, .int .i64 d.f1, .int .i64 d.f2] 72 (0, 0))) := ⟨hc3.heap (hc1.heap (blk_alloc HBq.out _) id) HNB.out⟩
                  have t0 : w1.cell? ⟨wr.heap.size, 0, none⟩ = some (.int .i64 (i : Int)) := (blk_cell hBt 0).trans rfl
                  have t1 : w1.cell? ⟨wr.heap.size, 1, none⟩ = some (.int .i64 d.f1) := (blk_cell hBt 1).trans rfl
                  have tl := blk_lt hBt
                  have b2 : W3.cell? ⟨Bd, 2, none⟩ = some (.int .i64 d.f2) := (blk_cell HBq3.out 2).trans rfl
                  have bl3 := blk_lt HBq3.out
                  clear hm3 hc1 hc3 hs3 hBt
                  cases z
                  · go_wp2
                    go_roundw
                    case rel => exact ⟨i + 1, by omega, by go_num, ⟨by rw [soD_succ, HSD.out, HTH.out]; rfl⟩, HC3, HM3, HBq3⟩
                    case measure => simp [intOf]; omega
                  · go_wp2
                    go_roundw
                    case rel => exact ⟨k + 1, by omega, by go_num, ⟨by rw [soTo_succ, HS.out, HZ.out, HD.out, soD_le D n d (show i + 1 ≤ D.gl.length by omega) (by rw [soD_succ, HSD.out, HTH.out]; rfl)]; rfl⟩, HC3, HM3⟩
                    case measure => simp [intOf]; omega
              · have h2' : (d.f0 != (i : Int)) = true := by simp [h2]
                have h2'' : (d.f0 == (i : Int)) = false := by simp [h2]
                have HTH : Aside0 (thrB D n d i = false) := ⟨by rw [thrB, h1'', h2'']; rfl⟩
                go_wp2
                go_roundw
                case rel => exact ⟨i + 1, by omega, by go_num, ⟨by rw [soD_succ, HSD.out, HTH.out]; rfl⟩, HCq, HMq, HBq⟩
                case measure => simp [intOf]; omega
          · obtain rfl : i = D.gl.length := by omega
            go_wp2
            rw [Exit.noGoto_ret]
            go_ret
            exact ⟨by rw [soB, soTo_le D but n (show k + 1 ≤ D.dr.length by omega) (by rw [soTo_succ, HS.out, HZ.out, HD.out, HSD.out]; rfl)]; rfl, HC0.out.then_ HCq.out (fun k hk e => by have := HQ.out; omega)⟩
      · rw [if_pos rfl] at hbit
        go_wp2
        go_roundw
        case rel => exact ⟨k + 1, by omega, by go_num, ⟨by rw [soTo_succ, HS.out, HZ.out]; rfl⟩, HC2, HM2⟩
        case measure => simp [intOf]; omega
    · obtain rfl : k = D.dr.length := by omega
      go_wp2
      rw [Exit.noGoto_ret]
      go_ret
      exact ⟨by rw [soB, HS.out]; rfl, HC0.out.then_ HC.out (fun k hk e => by have := HQ.out; omega)⟩
end Go.Proofs.Ytgoidclnccjdeaa.D
end
section
/- Package glass: the numbers of all truths; the closure next of truths. -/
namespace Go.Proofs.Ytgoidclnccjdeaa.D
open Go Go.RowKit Go.Proofs.YtgoidclnccjdeaaK Go.Proofs.YtgoidclnccjdeaaW.PrintWords Go.Proofs.YtgoidclnccjdeaaW.PrintLast Go.Proofs.YtgoidclnccjdeaaW.PrintMore Go.Proofs.Ytgoidclnccjdeaa.PR Go.Proofs.Ytgoidclnccjdeaa.M
set_option linter.unusedVariables false
set_option linter.unusedSimpArgs false

abbrev fn (l : List Int) : Nat → Int := fun k => l.getD k 0
def spansL (D : Dat) : List (Int × Int) := (List.range 8).map (spanF D)
def truthsL (D : Dat) (but : Nat) : List (List Int) := (prodL (spansL D)).filter fun l => soB D but (fn l)
def encT (x : List Int) : Array Value := #[.agg (vec8 (fn x))]
def leaves (D : Dat) (k : Nat) (pfx : List Int) : List (List Int) := (prodL ((spansL D).drop k)).map (pfx ++ ·)
def leavesTo (D : Dat) (k : Nat) (pfx : List Int) (j : Nat) : List (List Int) := (List.range j).flatMap fun (i : Nat) => leaves D (k + 1) (pfx ++ [(spanF D k).1 + (i : Int)])
theorem spansL_len (D : Dat) : (spansL D).length = 8 := by simp [spansL]
theorem spansL_get (D : Dat) (k : Nat) (h : k < (spansL D).length) : (spansL D)[k] = spanF D k := by simp [spansL]
theorem leaves_8 (D : Dat) (pfx : List Int) : leaves D 8 pfx = [pfx] := by
  unfold leaves
  rw [List.drop_of_length_le (by rw [spansL_len]; omega)]
  simp [prodL]
theorem leaves_step (D : Dat) (k : Nat) (hk : k < 8) (pfx : List Int) : leaves D k pfx = leavesTo D k pfx ((spanF D k).2 - (spanF D k).1 + 1).toNat := by
  have hl : k < (spansL D).length := by rw [spansL_len]; exact hk
  unfold leavesTo
  simp only [leaves]
  rw [List.drop_eq_getElem_cons hl, spansL_get]
  simp only [prodL, rng, List.map_flatMap, List.map_map, List.flatMap_map]
  congr 1
  funext i
  congr 1
  funext z
  simp
theorem leavesTo_succ (D : Dat) (k : Nat) (pfx : List Int) (j : Nat) : leavesTo D k pfx (j + 1) = leavesTo D k pfx j ++ leaves D (k + 1) (pfx ++ [(spanF D k).1 + (j : Int)]) := by
  simp [leavesTo, List.range_succ]
theorem leavesTo_prefix (D : Dat) (k : Nat) (pfx : List Int) {s t : Nat} (h : s ≤ t) : leavesTo D k pfx s <+: leavesTo D k pfx t := by
  induction t with
  | zero => have : s = 0 := by omega
            subst this; exact List.prefix_refl _
  | succ t ih =>
    by_cases e : s = t + 1
    · subst e; exact List.prefix_refl _
    · exact (ih (by omega)).trans (by rw [leavesTo_succ]; exact List.prefix_append _ _)

def eq8 (g h : Nat → Int) : Bool := [g 0, g 1, g 2, g 3, g 4, g 5, g 6, g 7] == [h 0, h 1, h 2, h 3, h 4, h 5, h 6, h 7]
theorem eq8_iff {g h : Nat → Int} (e : eq8 g h = true) : ∀ k, k < 8 → g k = h k := by
  simp only [eq8, beq_iff_eq, List.cons.injEq, and_true] at e
  obtain ⟨e0, e1, e2, e3, e4, e5, e6, e7⟩ := e
  intro k hk
  match k, hk with
  | 0, _ => exact e0 | 1, _ => exact e1 | 2, _ => exact e2 | 3, _ => exact e3 | 4, _ => exact e4 | 5, _ => exact e5 | 6, _ => exact e6 | 7, _ => exact e7
theorem g1 : Try.prog.underlying 126 = some (.array 8 3) := by kernel_rfl
theorem g2 : Try.prog.cellsOf 3 = 1 := by kernel_rfl
theorem g30 : (Try.prog.info? 3).map (·.size) = some 1 := by kernel_rfl
theorem g3 : ∃ i, Try.prog.info? 3 = some i := by
  cases h : Try.prog.info? 3 with
  | none => have := g30; rw [h] at this; cases this
  | some i => exact ⟨i, rfl⟩
theorem g4 (w : World) (g h : Nat → Int) : (Op.equalIn (9999 + 1) 126 (.agg (vec8 g)) (.agg (vec8 h))).run Try.prog w = .ok (eq8 g h) w := by
  obtain ⟨i, hi⟩ := g3
  exact equal_array w g1 hi g2 Try.underlying3 v3 [g 0, g 1, g 2, g 3, g 4, g 5, g 6, g 7] [h 0, h 1, h 2, h 3, h 4, h 5, h 6, h 7] rfl rfl 9999 (by decide)
theorem g5 (w : World) (g h : Nat → Int) : (Op.equalIn 10000 126 (.agg (vec8 g)) (.agg (vec8 h))).run Try.prog w = .ok (eq8 g h) w := g4 w g h

structure Ok (w0 : World) (D : Dat) (A0 : Option Addr) (c0 : Nat) (A3 : Option Addr) (c3 : Nat) (A4 : Option Addr) (c4 : Nat) (but b Bs : Nat) (W : World) : Prop where
  s : Sh w0 W D A0 c0 A3 c3 A4 c4 but b
  bs : W.heap[Bs]? = some (.cells #[.pointer (some ⟨b, 0, none⟩)] 110 (0, 0))
theorem Ok.chg {w0 : World} {D : Dat} {A0 : Option Addr} {c0 : Nat} {A3 : Option Addr} {c3 : Nat} {A4 : Option Addr} {c4 : Nat} {but b Bs : Nat} {W W' : World} {S : Nat → Prop} (h : Ok w0 D A0 c0 A3 c3 A4 c4 but b Bs W) (hc : Chg S W W') (h0 : ∀ k, S k → w0.heap.size ≤ k ∧ k ≠ b ∧ k ≠ Bs) : Ok w0 D A0 c0 A3 c3 A4 c4 but b Bs W' :=
  ⟨h.s.chg hc (fun k hk => ⟨(h0 k hk).1, (h0 k hk).2.1⟩), hc.heap h.bs (fun hk => (h0 _ hk).2.2 rfl)⟩

abbrev nextV (Bn Bl Bs By Bx : Nat) : Array Value := #[.pointer (some ⟨Bn, 0, none⟩), .pointer (some ⟨Bl, 0, none⟩), .pointer (some ⟨Bs, 0, none⟩), .pointer (some ⟨By, 0, none⟩), .pointer (some ⟨Bx, 0, none⟩)]
structure NX (w0 : World) (D : Dat) (A0 : Option Addr) (c0 : Nat) (A3 : Option Addr) (c3 : Nat) (A4 : Option Addr) (c4 : Nat) (but b Bs : Nat) (B0 l Bn Bl By Bx : Nat) (J : List (List Int) → (Nat → Prop) → World → Prop) (q : List (List Int)) (n last : Nat → Int) (Fp : Nat → Prop) (V : World) : Prop where
  ok : Ok w0 D A0 c0 A3 c3 A4 c4 but b Bs V
  j : J (q.filter fun l => soB D but (fn l)) Fp V
  fp : ∀ k, Fp k → k < V.heap.size
  bn : V.heap[Bn]? = some (.cells (vec8 n) 126 (0, 0))
  bl : V.heap[Bl]? = some (.cells (vec8 last) 126 (0, 0))
  by_ : V.heap[By]? = some (.cells #[.func (.yield l) #[] #[]] 137 (0, 0))
  bx : V.heap[Bx]? = some (.cells #[.func (.func 128) #[] (nextV Bn Bl Bs By Bx)] 157 (0, 0))
  fn_ : ¬ Fp Bn ∧ ¬ Fp Bl ∧ ¬ Fp By ∧ ¬ Fp Bx
  la : last 0 = -1 ∨ ∃ y ∈ q, ∀ i, i < 8 → last i = fn y i
  z : B0 ≤ Bn ∧ B0 ≤ Bl ∧ B0 ≤ By ∧ B0 ≤ Bx ∧ l < B0 ∧ Bs < B0 ∧ b < B0 ∧ w0.heap.size ≤ B0
end Go.Proofs.Ytgoidclnccjdeaa.D
end
section
/- Package glass: the closure next of truths. -/
namespace Go.Proofs.Ytgoidclnccjdeaa.D
open Go Go.RowKit Go.Proofs.YtgoidclnccjdeaaK Go.Proofs.YtgoidclnccjdeaaW.PrintWords Go.Proofs.YtgoidclnccjdeaaW.PrintLast Go.Proofs.YtgoidclnccjdeaaW.PrintMore Go.Proofs.Ytgoidclnccjdeaa.PR Go.Proofs.Ytgoidclnccjdeaa.M
set_option linter.unusedVariables false
set_option linter.unusedSimpArgs false

section
variable {w0 : World} {D : Dat} {A0 : Option Addr} {c0 : Nat} {A3 : Option Addr} {c3 : Nat} {A4 : Option Addr} {c4 : Nat} {but b Bs B0 l Bn Bl By Bx : Nat} {J : List (List Int) → (Nat → Prop) → World → Prop} {q : List (List Int)} {n n' last last' : Nat → Int} {Fp : Nat → Prop} {V V' : World} {S : Nat → Prop}
theorem NX.chg (h : NX w0 D A0 c0 A3 c3 A4 c4 but b Bs B0 l Bn Bl By Bx J q n last Fp V) (hJ : ∀ pre Fp A B, J pre Fp A → Chg (fun k => False ∨ (B0 ≤ k ∧ ¬ Fp k)) A B → Ok w0 D A0 c0 A3 c3 A4 c4 but b Bs B → J pre Fp B)
    (hc : Chg S V V') (hS : ∀ k, k < V.heap.size → S k → B0 ≤ k ∧ ¬ Fp k ∧ k ≠ By ∧ k ≠ Bx) (hn : V'.heap[Bn]? = some (.cells (vec8 n') 126 (0, 0))) (hl : V'.heap[Bl]? = some (.cells (vec8 last') 126 (0, 0))) (hla : last' 0 = -1 ∨ ∃ y ∈ q, ∀ i, i < 8 → last' i = fn y i) :
    NX w0 D A0 c0 A3 c3 A4 c4 but b Bs B0 l Bn Bl By Bx J q n' last' Fp V' := by
  have hc2 : Chg (fun k => B0 ≤ k ∧ ¬ Fp k ∧ k ≠ By ∧ k ≠ Bx) V V' := hc.mono hS
  have hz := h.z
  have hok : Ok w0 D A0 c0 A3 c3 A4 c4 but b Bs V' := h.ok.chg hc2 (fun k hk => by omega)
  exact ⟨hok, hJ _ _ _ _ h.j (hc2.mono (fun k _ hk => .inr ⟨hk.1, hk.2.1⟩)) hok, fun k hk => Nat.lt_of_lt_of_le (h.fp k hk) hc.size, hn, hl, hc2.heap h.by_ (fun hk => hk.2.2.1 rfl), hc2.heap h.bx (fun hk => hk.2.2.2 rfl), h.fn_, hla, h.z⟩
theorem NX.same (h : NX w0 D A0 c0 A3 c3 A4 c4 but b Bs B0 l Bn Bl By Bx J q n last Fp V) (hJ : ∀ pre Fp A B, J pre Fp A → Chg (fun k => False ∨ (B0 ≤ k ∧ ¬ Fp k)) A B → Ok w0 D A0 c0 A3 c3 A4 c4 but b Bs B → J pre Fp B)
    (hc : Chg (fun _ => False) V V') : NX w0 D A0 c0 A3 c3 A4 c4 but b Bs B0 l Bn Bl By Bx J q n last Fp V' :=
  h.chg hJ hc (fun _ _ x => x.elim) (hc.heap h.bn id) (hc.heap h.bl id) h.la
theorem NX.ne (h : NX w0 D A0 c0 A3 c3 A4 c4 but b Bs B0 l Bn Bl By Bx J q n last Fp V) : Bn ≠ By ∧ Bn ≠ Bx ∧ Bl ≠ By ∧ Bl ≠ Bx := by
  refine ⟨blk_ne h.bn h.by_ (by decide), blk_ne h.bn h.bx (by decide), blk_ne h.bl h.by_ (by decide), blk_ne h.bl h.bx (by decide)⟩
theorem NX.set (h : NX w0 D A0 c0 A3 c3 A4 c4 but b Bs B0 l Bn Bl By Bx J q n last Fp V) (hJ : ∀ pre Fp A B, J pre Fp A → Chg (fun k => False ∨ (B0 ≤ k ∧ ¬ Fp k)) A B → Ok w0 D A0 c0 A3 c3 A4 c4 but b Bs B → J pre Fp B)
    (hnl : Bn ≠ Bl) (k : Nat) (hk : k < 8) (x : Int) : NX w0 D A0 c0 A3 c3 A4 c4 but b Bs B0 l Bn Bl By Bx J q (upd n k x) last Fp (V.setCell ⟨Bn, k, none⟩ (.int .i64 x)) :=
  h.chg hJ ((Chg.refl (fun j => j = Bn) V).setCell (p := ⟨Bn, k, none⟩) (fun _ => rfl) _) (fun j _ e => by subst e; exact ⟨h.z.1, h.fn_.1, h.ne.1, h.ne.2.1⟩)
    (by rw [← vec_set n k x hk]; exact blk_set h.bn k _) (blk_far h.bl (p := ⟨Bn, k, none⟩) (Ne.symm hnl) _) h.la
theorem NX.drop (h : NX w0 D A0 c0 A3 c3 A4 c4 but b Bs B0 l Bn Bl By Bx J q n last Fp V) (x : List Int) (hx : soB D but (fn x) = false) : NX w0 D A0 c0 A3 c3 A4 c4 but b Bs B0 l Bn Bl By Bx J (q ++ [x]) n last Fp V :=
  ⟨h.ok, by have := h.j; rwa [List.filter_append, List.filter_cons, hx, if_neg (by simp), List.filter_nil, List.append_nil], h.fp, h.bn, h.bl, h.by_, h.bx, h.fn_, h.la.imp id (fun ⟨y, hy, hh⟩ => ⟨y, List.mem_append_left _ hy, hh⟩), h.z⟩
end
theorem vec8_congr {g h : Nat → Int} (e : ∀ i, i < 8 → g i = h i) : vec8 g = vec8 h := by
  simp only [vec8, e 0 (by omega), e 1 (by omega), e 2 (by omega), e 3 (by omega), e 4 (by omega), e 5 (by omega), e 6 (by omega), e 7 (by omega)]
theorem fn_inj {x y : List Int} (hx : x.length = 8) (hy : y.length = 8) (e : ∀ i, i < 8 → fn x i = fn y i) : x = y := by
  apply List.ext_getElem (by omega)
  intro i h1 h2
  have := e i (by omega)
  simpa [fn, h1, h2] using this
theorem mem_spans {D : Dat} (hV : Valid D) {x : List Int} (hx : x ∈ prodL (spansL D)) : x.length = 8 ∧ ∀ i, 0 ≤ fn x i ∧ fn x i ≤ 60 := by
  obtain ⟨h1, h2⟩ := mem_prodL _ _ hx
  rw [spansL_len] at h1
  refine ⟨h1, fun i => ?_⟩
  by_cases hi : i < 8
  · have h3 := h2 i (by rw [spansL_len]; exact hi) (by omega)
    rw [spansL_get] at h3
    have h4 := spanF_in hV i
    have h5 : fn x i = x[i] := by simp [fn, h1, hi]
    rw [h5]; omega
  · have h5 : fn x i = 0 := by simp [fn, h1, hi]
    rw [h5]; omega
def cellI (W : World) (B k : Nat) : Int := match W.cell? ⟨B, k, none⟩ with | some (.int _ x) => x | _ => 0
abbrev st8 (W : World) (B : Nat) (h : Nat → Int) : World :=
  (((((((W.setCell ⟨B, 0, none⟩ (.int .i64 (h 0))).setCell ⟨B, 1, none⟩ (.int .i64 (h 1))).setCell ⟨B, 2, none⟩ (.int .i64 (h 2))).setCell ⟨B, 3, none⟩ (.int .i64 (h 3))).setCell ⟨B, 4, none⟩ (.int .i64 (h 4))).setCell ⟨B, 5, none⟩ (.int .i64 (h 5))).setCell ⟨B, 6, none⟩ (.int .i64 (h 6))).setCell ⟨B, 7, none⟩ (.int .i64 (h 7))
theorem set_vec {W : World} {B : Nat} {t : TypeId} {g : Nat → Int} (hB : W.heap[B]? = some (.cells (vec8 g) t (0, 0))) (k : Nat) (hk : k < 8) (x : Int) : (W.setCell ⟨B, k, none⟩ (.int .i64 x)).heap[B]? = some (.cells (vec8 (upd g k x)) t (0, 0)) := by
  rw [← vec_set g k x hk]; exact blk_set hB k _
theorem st8_heap {W : World} {B : Nat} {t : TypeId} {g : Nat → Int} (hB : W.heap[B]? = some (.cells (vec8 g) t (0, 0))) (h : Nat → Int) : (st8 W B h).heap[B]? = some (.cells (vec8 h) t (0, 0)) := by
  have h8 := set_vec (set_vec (set_vec (set_vec (set_vec (set_vec (set_vec (set_vec hB 0 (by omega) (h 0)) 1 (by omega) (h 1)) 2 (by omega) (h 2)) 3 (by omega) (h 3)) 4 (by omega) (h 4)) 5 (by omega) (h 5)) 6 (by omega) (h 6)) 7 (by omega) (h 7)
  rw [h8]; simp [upd]
theorem st8_chg {S : Nat → Prop} {W0 W : World} {B : Nat} (hc : Chg S W0 W) (hB : B < W0.heap.size → S B) (h : Nat → Int) : Chg S W0 (st8 W B h) :=
  (((((((hc.setCell (p := ⟨B, 0, none⟩) hB _).setCell (p := ⟨B, 1, none⟩) hB _).setCell (p := ⟨B, 2, none⟩) hB _).setCell (p := ⟨B, 3, none⟩) hB _).setCell (p := ⟨B, 4, none⟩) hB _).setCell (p := ⟨B, 5, none⟩) hB _).setCell (p := ⟨B, 6, none⟩) hB _).setCell (p := ⟨B, 7, none⟩) hB _

set_option maxRecDepth 100000 in
set_option maxHeartbeats 2000000 in
theorem next_leaf (w0 : World) (D : Dat) (A0 : Option Addr) (c0 : Nat) (A3 : Option Addr) (c3 : Nat) (A4 : Option Addr) (c4 : Nat) (but b Bs B0 l Bn Bl By Bx : Nat) (J : List (List Int) → (Nat → Prop) → World → Prop) (Jx : List (List Int) → World → Prop)
    (hA : Arg w0 D A0 c0 A3 c3 A4 c4) (hV : Valid D) (hbut : but < 2 ^ 62) (hnl : Bn ≠ Bl)
    (hJ : ∀ pre Fp A B, J pre Fp A → Chg (fun k => False ∨ (B0 ≤ k ∧ ¬ Fp k)) A B → Ok w0 D A0 c0 A3 c3 A4 c4 but b Bs B → J pre Fp B)
    (hY : ∀ pre x Fp A, pre ++ [x] <+: truthsL D but → J pre Fp A → Ok w0 D A0 c0 A3 c3 A4 c4 but b Bs A → (∀ k, Fp k → k < A.heap.size) → YieldAt Fence.wide 0 Try.prog l (encT x) A fun e B =>
      (e = .returned (.bool true) ∧ ∃ Fp', J (pre ++ [x]) Fp' B ∧ Chg (fun k => Fp k ∨ k = l) A B ∧ Ok w0 D A0 c0 A3 c3 A4 c4 but b Bs B ∧ ∀ k, Fp' k → k < B.heap.size ∧ (k < A.heap.size → Fp k)) ∨
      (e = .returned (.bool false) ∧ Jx (pre ++ [x]) B ∧ Ok w0 D A0 c0 A3 c3 A4 c4 but b Bs B))
    (pfx : List Int) (q : List (List Int)) (n last : Nat → Int) (Fp : Nat → Prop) (V : World) (hp : pfx.length = 8) (hnp : ∀ i, i < 8 → n i = fn pfx i) (hq : q ++ [pfx] <+: prodL (spansL D))
    (h : NX w0 D A0 c0 A3 c3 A4 c4 but b Bs B0 l Bn Bl By Bx J q n last Fp V) :
    Calls Try.prog 128 #[.int .i64 8, .pointer (some ⟨Bn, 0, none⟩), .pointer (some ⟨Bl, 0, none⟩), .pointer (some ⟨Bs, 0, none⟩), .pointer (some ⟨By, 0, none⟩), .pointer (some ⟨Bx, 0, none⟩)] V fun e V' =>
      (e = .returned (.bool true) ∧ ∃ n' last' Fp', NX w0 D A0 c0 A3 c3 A4 c4 but b Bs B0 l Bn Bl By Bx J (q ++ [pfx]) n' last' Fp' V' ∧ (∀ i, i < 8 → n' i = n i) ∧ Chg (fun k => k = Bn ∨ k = Bl ∨ k = l ∨ Fp k) V V' ∧ ∀ k, Fp' k → k < V.heap.size → Fp k) ∨
      (e = .returned (.bool false) ∧ ∃ pre, pre <+: truthsL D but ∧ Jx pre V' ∧ Ok w0 D A0 c0 A3 c3 A4 c4 but b Bs V') := by
  have hmem : pfx ∈ prodL (spansL D) := hq.subset (List.mem_append_right _ (by simp))
  have HR : Aside0 (∀ i, 0 ≤ fn pfx i ∧ fn pfx i ≤ 60) := ⟨(mem_spans hV hmem).2⟩
  have HE : Aside0 (eq8 (fn pfx) last = false) := ⟨by
    rw [Bool.eq_false_iff]
    intro he
    have he := eq8_iff he
    rcases h.la with h0 | ⟨y, hy, hh⟩
    · have := HR.out 0; have := he 0 (by omega); omega
    · have hy2 : y ∈ prodL (spansL D) := hq.subset (List.mem_append_left _ hy)
      have : pfx = y := fn_inj hp (mem_spans hV hy2).1 (fun i hi => (he i hi).trans (hh i hi))
      subst this
      have hnd : (q ++ [pfx]).Nodup := List.Nodup.sublist hq.sublist (prodL_nodup _)
      have := (List.nodup_append.1 hnd).2.2 pfx hy pfx (by simp)
      exact this rfl⟩
  have HH := Aside0.mk h
  have hbn := h.bn
  rw [vec8_congr hnp] at hbn
  have HN := Aside0.mk hbn
  have heq := g5 V (fn pfx) last
  rw [HE.out] at heq
  have b0 : V.cell? ⟨Bs, 0, none⟩ = some (.pointer (some ⟨b, 0, none⟩)) := (blk_cell h.ok.bs 0).trans rfl
  have bsl := blk_lt h.ok.bs
  clear h hbn
  obtain ⟨so, hso⟩ : ∃ so, soB D but (fn pfx) = so := ⟨_, rfl⟩
  have HS := Aside0.mk hso
  clear hso
  obtain ⟨x, hx⟩ : ∃ x, fn pfx = x := ⟨_, rfl⟩
  have HX := Aside0.mk hx
  rw [hx] at HN heq HR
  have k0 := (blk_cell HN.out 0).trans rfl
  have k1 := (blk_cell HN.out 1).trans rfl
  have k2 := (blk_cell HN.out 2).trans rfl
  have k3 := (blk_cell HN.out 3).trans rfl
  have k4 := (blk_cell HN.out 4).trans rfl
  have k5 := (blk_cell HN.out 5).trans rfl
  have k6 := (blk_cell HN.out 6).trans rfl
  have k7 := (blk_cell HN.out 7).trans rfl
  have kl := blk_lt HN.out
  have HL := Aside0.mk HH.out.bl
  have m0 := (blk_cell HL.out 0).trans rfl
  have m1 := (blk_cell HL.out 1).trans rfl
  have m2 := (blk_cell HL.out 2).trans rfl
  have m3 := (blk_cell HL.out 3).trans rfl
  have m4 := (blk_cell HL.out 4).trans rfl
  have m5 := (blk_cell HL.out 5).trans rfl
  have m6 := (blk_cell HL.out 6).trans rfl
  have m7 := (blk_cell HL.out 7).trans rfl
  have ml := blk_lt HL.out
  go_enter Try.func128, Try.ntmps128
  cases so
  · go_wp2_with (go_at_call 129; refine (so_calls w0 _ D A0 c0 A3 c3 A4 c4 but b x hA hV hbut HR.out HH.out.ok.s).mono ?_; rintro e w1 ⟨rfl, hc⟩; have HC := Aside0.mk hc; clear hc; rw [show soB D but x = false by rw [← HX.out]; exact HS.out])
    go_ret
    exact .inl ⟨rfl, n, last, Fp, (HH.out.drop pfx HS.out).same hJ HC.out, fun _ _ => rfl, HC.out.mono (fun _ _ x => x.elim), fun _ hk _ => hk⟩
  · go_wp2_with fail
    refine (so_calls w0 _ D A0 c0 A3 c3 A4 c4 but b x hA hV hbut HR.out HH.out.ok.s).mono ?_
    rintro e w1 ⟨rfl, hc⟩
    rw [show soB D but x = true by rw [← HX.out]; exact HS.out]
    have HC := Aside0.mk hc
    replace HH := Aside0.mk (HH.out.same hJ hc)
    replace HN := Aside0.mk (hc.heap HN.out id)
    replace HL := Aside0.mk (hc.heap HL.out id)
    clear hc b0 bsl heq
    clear k0 k1 k2 k3 k4 k5 k6 k7 kl
    clear m0 m1 m2 m3 m4 m5 m6 m7 ml
    have k0 := (blk_cell HN.out 0).trans rfl
    have k1 := (blk_cell HN.out 1).trans rfl
    have k2 := (blk_cell HN.out 2).trans rfl
    have k3 := (blk_cell HN.out 3).trans rfl
    have k4 := (blk_cell HN.out 4).trans rfl
    have k5 := (blk_cell HN.out 5).trans rfl
    have k6 := (blk_cell HN.out 6).trans rfl
    have k7 := (blk_cell HN.out 7).trans rfl
    have kl := blk_lt HN.out
    have m0 := (blk_cell HL.out 0).trans rfl
    have m1 := (blk_cell HL.out 1).trans rfl
    have m2 := (blk_cell HL.out 2).trans rfl
    have m3 := (blk_cell HL.out 3).trans rfl
    have m4 := (blk_cell HL.out 4).trans rfl
    have m5 := (blk_cell HL.out 5).trans rfl
    have m6 := (blk_cell HL.out 6).trans rfl
    have m7 := (blk_cell HL.out 7).trans rfl
    have ml := blk_lt HL.out
    have f0 := blk_frozen HL.out 0
    have f1 := blk_frozen HL.out 1
    have f2 := blk_frozen HL.out 2
    have f3 := blk_frozen HL.out 3
    have f4 := blk_frozen HL.out 4
    have f5 := blk_frozen HL.out 5
    have f6 := blk_frozen HL.out 6
    have f7 := blk_frozen HL.out 7
    go_upto_region 5 with (fail)
    have HC2 : Aside0 (Chg (fun k => k = Bl) w1 ((((((((w1.setCell ⟨Bl, 0, none⟩ (.int .i64 (x 0))).setCell ⟨Bl, 1, none⟩ (.int .i64 (x 1))).setCell ⟨Bl, 2, none⟩ (.int .i64 (x 2))).setCell ⟨Bl, 3, none⟩ (.int .i64 (x 3))).setCell ⟨Bl, 4, none⟩ (.int .i64 (x 4))).setCell ⟨Bl, 5, none⟩ (.int .i64 (x 5))).setCell ⟨Bl, 6, none⟩ (.int .i64 (x 6))).setCell ⟨Bl, 7, none⟩ (.int .i64 (x 7)))) := ⟨st8_chg (Chg.refl (fun k => k = Bl) w1) (fun _ => rfl) x⟩
    have HL2 : Aside0 (((((((((w1.setCell ⟨Bl, 0, none⟩ (.int .i64 (x 0))).setCell ⟨Bl, 1, none⟩ (.int .i64 (x 1))).setCell ⟨Bl, 2, none⟩ (.int .i64 (x 2))).setCell ⟨Bl, 3, none⟩ (.int .i64 (x 3))).setCell ⟨Bl, 4, none⟩ (.int .i64 (x 4))).setCell ⟨Bl, 5, none⟩ (.int .i64 (x 5))).setCell ⟨Bl, 6, none⟩ (.int .i64 (x 6))).setCell ⟨Bl, 7, none⟩ (.int .i64 (x 7))).heap[Bl]? = some (.cells (vec8 x) 126 (0, 0))) := ⟨st8_heap HL.out x⟩
    generalize ((((((((w1.setCell ⟨Bl, 0, none⟩ (.int .i64 (x 0))).setCell ⟨Bl, 1, none⟩ (.int .i64 (x 1))).setCell ⟨Bl, 2, none⟩ (.int .i64 (x 2))).setCell ⟨Bl, 3, none⟩ (.int .i64 (x 3))).setCell ⟨Bl, 4, none⟩ (.int .i64 (x 4))).setCell ⟨Bl, 5, none⟩ (.int .i64 (x 5))).setCell ⟨Bl, 6, none⟩ (.int .i64 (x 6))).setCell ⟨Bl, 7, none⟩ (.int .i64 (x 7))) = V2 at HC2 HL2 ⊢
    clear k0 k1 k2 k3 k4 k5 k6 k7 kl
    clear m0 m1 m2 m3 m4 m5 m6 m7 ml
    clear f0 f1 f2 f3 f4 f5 f6 f7
    have hz := HH.out.z
    have HOk2 : Aside0 (Ok w0 D A0 c0 A3 c3 A4 c4 but b Bs V2) := ⟨HH.out.ok.chg HC2.out (fun k hk => by omega)⟩
    have HJ2 : Aside0 (J (q.filter fun l => soB D but (fn l)) Fp V2) := ⟨hJ _ _ _ _ HH.out.j (HC2.out.mono (fun k _ e => .inr (by subst e; exact ⟨hz.2.1, HH.out.fn_.2.1⟩))) HOk2.out⟩
    have HFp2 : Aside0 (∀ k, Fp k → k < V2.heap.size) := ⟨fun k hk => Nat.lt_of_lt_of_le (HH.out.fp k hk) HC2.out.size⟩
    have HN2 := Aside0.mk (HC2.out.heap HN.out hnl)
    have HY2 := Aside0.mk (HC2.out.heap HH.out.by_ (Ne.symm HH.out.ne.2.2.1))
    have HX2 := Aside0.mk (HC2.out.heap HH.out.bx (Ne.symm HH.out.ne.2.2.2))
    have HPF : Aside0 (((q ++ [pfx]).filter fun l => soB D but (fn l)) = (q.filter fun l => soB D but (fn l)) ++ [pfx]) := ⟨by rw [List.filter_append, List.filter_cons, HS.out]; rfl⟩
    have HPRE : Aside0 ((q.filter fun l => soB D but (fn l)) ++ [pfx] <+: truthsL D but) := ⟨by rw [← HPF.out]; exact hq.filter _⟩
    obtain ⟨fn', tmps', assign', body', hy, hR⟩ := hY _ pfx Fp V2 HPRE.out HJ2.out HOk2.out HFp2.out
    dsimp only [encT] at hy
    rw [HX.out] at hy
    dsimp only [vec8] at hy
    have HRQ := Aside0.mk hR
    clear hR
    have y0 : V2.cell? ⟨By, 0, none⟩ = some (.func (.yield l) #[] #[]) := (blk_cell HY2.out 0).trans rfl
    have yl := blk_lt HY2.out
    have k0 : V2.cell? ⟨Bn, 0, none⟩ = some (.int .i64 (x 0)) := (blk_cell HN2.out 0).trans rfl
    have k1 : V2.cell? ⟨Bn, 1, none⟩ = some (.int .i64 (x 1)) := (blk_cell HN2.out 1).trans rfl
    have k2 : V2.cell? ⟨Bn, 2, none⟩ = some (.int .i64 (x 2)) := (blk_cell HN2.out 2).trans rfl
    have k3 : V2.cell? ⟨Bn, 3, none⟩ = some (.int .i64 (x 3)) := (blk_cell HN2.out 3).trans rfl
    have k4 : V2.cell? ⟨Bn, 4, none⟩ = some (.int .i64 (x 4)) := (blk_cell HN2.out 4).trans rfl
    have k5 : V2.cell? ⟨Bn, 5, none⟩ = some (.int .i64 (x 5)) := (blk_cell HN2.out 5).trans rfl
    have k6 : V2.cell? ⟨Bn, 6, none⟩ = some (.int .i64 (x 6)) := (blk_cell HN2.out 6).trans rfl
    have k7 : V2.cell? ⟨Bn, 7, none⟩ = some (.int .i64 (x 7)) := (blk_cell HN2.out 7).trans rfl
    have kl := blk_lt HN2.out
    refine (wpIn_wide (n := 0)).1 ?_
    gi_wp2
    refine ⟨rfl, HRQ.out.mono ?_⟩
    clear hy
    clear k0 k1 k2 k3 k4 k5 k6 k7 kl
    clear y0 yl
    rintro e V3 (⟨rfl, Fp', hj4, hc4, hok4, hf4⟩ | ⟨rfl, hj4, hok4⟩)
    · gi_wp2
      go_wp2
      refine bodyPost_ret (results_tmp rfl _ _ _) rfl ?_
      have hcB : Chg (fun k => k = Bn ∨ k = Bl ∨ k = l ∨ Fp k) V V3 := ((HC.out.mono (fun _ _ x => x.elim)).trans (HC2.out.mono (fun k _ e => .inr (.inl e)))).trans (hc4.mono (fun k _ e => by rcases e with e | e; exact .inr (.inr (.inr e)); exact .inr (.inr (.inl e))))
      have nb : ∀ {k : Nat}, k < V2.heap.size → ¬ Fp k → ¬ Fp' k := fun hk hn hp => hn ((hf4 _ hp).2 hk)
      have hzl : ∀ {k : Nat}, B0 ≤ k → k ≠ l := fun h => by omega
      refine .inl ⟨rfl, x, x, Fp', ⟨hok4, by rw [HPF.out]; exact hj4, fun k hk => (hf4 k hk).1, hc4.heap HN2.out (fun e => e.elim HH.out.fn_.1 (hzl hz.1)), hc4.heap HL2.out (fun e => e.elim HH.out.fn_.2.1 (hzl hz.2.1)),
        hc4.heap HY2.out (fun e => e.elim HH.out.fn_.2.2.1 (hzl hz.2.2.1)), hc4.heap HX2.out (fun e => e.elim HH.out.fn_.2.2.2 (hzl hz.2.2.2.1)),
        ⟨nb (blk_lt HN2.out) HH.out.fn_.1, nb (blk_lt HL2.out) HH.out.fn_.2.1, nb (blk_lt HY2.out) HH.out.fn_.2.2.1, nb (blk_lt HX2.out) HH.out.fn_.2.2.2⟩, .inr ⟨pfx, by simp, fun i _ => by rw [HX.out]⟩, hz⟩, fun i hi => by rw [← HX.out]; exact (hnp i hi).symm, hcB, fun k hk hv => (hf4 k hk).2 (Nat.lt_of_lt_of_le hv (Nat.le_trans HC.out.size HC2.out.size))⟩
    · gi_wp2
      go_wp2
      refine bodyPost_ret (results_tmp rfl _ _ _) rfl ?_
      exact .inr ⟨rfl, _, HPRE.out, hj4, hok4⟩
end Go.Proofs.Ytgoidclnccjdeaa.D
end
section
/- Package glass: the closure next of truths; truths. -/
namespace Go.Proofs.Ytgoidclnccjdeaa.D
open Go Go.RowKit Go.Proofs.YtgoidclnccjdeaaK Go.Proofs.YtgoidclnccjdeaaW.PrintWords Go.Proofs.YtgoidclnccjdeaaW.PrintLast Go.Proofs.YtgoidclnccjdeaaW.PrintMore Go.Proofs.Ytgoidclnccjdeaa.PR Go.Proofs.Ytgoidclnccjdeaa.M
set_option linter.unusedVariables false
set_option linter.unusedSimpArgs false

theorem enters_next (args : Array Value) (w : World) : (callFunc 128 args).run Try.prog w = .ok (.enter 128 args) w := enters_of Try.func128 (by kernel_rfl) rfl args w

set_option maxRecDepth 100000 in
set_option maxHeartbeats 2000000 in
theorem next_calls (w0 : World) (D : Dat) (A0 : Option Addr) (c0 : Nat) (A3 : Option Addr) (c3 : Nat) (A4 : Option Addr) (c4 : Nat) (but b Bs B0 l Bn Bl By Bx : Nat) (J : List (List Int) → (Nat → Prop) → World → Prop) (Jx : List (List Int) → World → Prop)
    (hA : Arg w0 D A0 c0 A3 c3 A4 c4) (hV : Valid D) (hbut : but < 2 ^ 62) (hnl : Bn ≠ Bl)
    (hJ : ∀ pre Fp A B, J pre Fp A → Chg (fun k => False ∨ (B0 ≤ k ∧ ¬ Fp k)) A B → Ok w0 D A0 c0 A3 c3 A4 c4 but b Bs B → J pre Fp B)
    (hY : ∀ pre x Fp A, pre ++ [x] <+: truthsL D but → J pre Fp A → Ok w0 D A0 c0 A3 c3 A4 c4 but b Bs A → (∀ k, Fp k → k < A.heap.size) → YieldAt Fence.wide 0 Try.prog l (encT x) A fun e B =>
      (e = .returned (.bool true) ∧ ∃ Fp', J (pre ++ [x]) Fp' B ∧ Chg (fun k => Fp k ∨ k = l) A B ∧ Ok w0 D A0 c0 A3 c3 A4 c4 but b Bs B ∧ ∀ k, Fp' k → k < B.heap.size ∧ (k < A.heap.size → Fp k)) ∨
      (e = .returned (.bool false) ∧ Jx (pre ++ [x]) B ∧ Ok w0 D A0 c0 A3 c3 A4 c4 but b Bs B)) :
    ∀ (d k : Nat), k + d = 8 → ∀ (pfx : List Int) (q : List (List Int)) (n last : Nat → Int) (Fp : Nat → Prop) (V : World), pfx.length = k → (∀ i, i < k → n i = fn pfx i) → q ++ leaves D k pfx <+: prodL (spansL D) →
    NX w0 D A0 c0 A3 c3 A4 c4 but b Bs B0 l Bn Bl By Bx J q n last Fp V →
    Calls Try.prog 128 #[.int .i64 k, .pointer (some ⟨Bn, 0, none⟩), .pointer (some ⟨Bl, 0, none⟩), .pointer (some ⟨Bs, 0, none⟩), .pointer (some ⟨By, 0, none⟩), .pointer (some ⟨Bx, 0, none⟩)] V fun e V' =>
      (e = .returned (.bool true) ∧ ∃ n' last' Fp', NX w0 D A0 c0 A3 c3 A4 c4 but b Bs B0 l Bn Bl By Bx J (q ++ leaves D k pfx) n' last' Fp' V' ∧ (∀ i, i < k → n' i = n i) ∧ Chg (fun k => k = Bn ∨ k = Bl ∨ k = l ∨ Fp k) V V' ∧ ∀ k, Fp' k → k < V.heap.size → Fp k) ∨
      (e = .returned (.bool false) ∧ ∃ pre, pre <+: truthsL D but ∧ Jx pre V' ∧ Ok w0 D A0 c0 A3 c3 A4 c4 but b Bs V') := by
  intro d
  induction d with
  | zero =>
    intro k hk pfx q n last Fp V hp hnp hq h
    obtain rfl : k = 8 := by omega
    rw [leaves_8] at hq ⊢
    exact next_leaf w0 D A0 c0 A3 c3 A4 c4 but b Bs B0 l Bn Bl By Bx J Jx hA hV hbut hnl hJ hY pfx q n last Fp V hp hnp hq h
  | succ d ih =>
    intro k hk pfx q n last Fp V hp hnp hq h
    have HI := Aside0.mk ih
    have HH := Aside0.mk h
    have hk8 : k < 8 := by omega
    have HQ := Aside0.mk hq
    have HNP := Aside0.mk hnp
    have HNL := Aside0.mk hnl
    have hk8' : ((k : Int) == 8) = false := beq_eq_false_iff_ne.2 (by omega)
    have b0 : V.cell? ⟨Bs, 0, none⟩ = some (.pointer (some ⟨b, 0, none⟩)) := (blk_cell h.ok.bs 0).trans rfl
    have bsl := blk_lt h.ok.bs
    clear ih h hq hnp hnl
    go_enter Try.func128, Try.ntmps128
    go_wp2_with fail
    refine (span_calls w0 V D A0 c0 A3 c3 A4 c4 but b k hA hV hk8 HH.out.ok.s).mono ?_
    rintro e w1 ⟨rfl, hc⟩
    have hsp := spanF_in hV k
    have HLS := Aside0.mk (leaves_step D k hk8 pfx)
    have HLT := Aside0.mk (fun j => leavesTo_succ D k pfx j)
    have HLP := Aside0.mk (fun s t h => @leavesTo_prefix D k pfx s t h)
    have HL0 : Aside0 (leavesTo D k pfx 0 = []) := ⟨rfl⟩
    obtain ⟨sp, hspe⟩ : ∃ sp, spanF D k = sp := ⟨_, rfl⟩
    obtain ⟨lo, hi⟩ := sp
    rw [hspe] at hsp HLS HLT
    rw [hspe]
    clear hspe b0 bsl
    simp only at hsp HLS HLT
    obtain ⟨hlo0, hlohi, hhi60⟩ := hsp
    have HW1 := Aside0.mk (HH.out.same hJ hc)
    have HC1 := Aside0.mk hc
    clear hc
    go_upto_region 7 with (fail)
    have HBq : Aside0 ((w1.alloc (.cells #[.int .i64 lo, .int .i64 hi] 24)).heap[w1.heap.size]? = some (.cells #[.int .i64 lo, .int .i64 hi] 24 (0, 0))) := ⟨blk_new _ _⟩
    have HW2 : Aside0 (NX w0 D A0 c0 A3 c3 A4 c4 but b Bs B0 l Bn Bl By Bx J q n last Fp (w1.alloc (.cells #[.int .i64 lo, .int .i64 hi] 24))) := ⟨HW1.out.same hJ ((Chg.refl (fun _ => False) w1).alloc _)⟩
    have HC2 := Aside0.mk (HC1.out.alloc (.cells #[.int .i64 lo, .int .i64 hi] 24))
    have hVq := HC1.out.size
    obtain ⟨Bq, hBq⟩ : ∃ Bq, w1.heap.size = Bq := ⟨_, rfl⟩
    rw [hBq] at HBq hVq ⊢
    have HFB : Aside0 (¬ Fp Bq) := ⟨fun hf => by have := HH.out.fp _ hf; omega⟩
    have HNB : Aside0 (Bq ≠ Bn ∧ Bq ≠ Bl ∧ Bq ≠ l) := ⟨by
      have h1 := blk_lt HW1.out.bn
      have h2 := blk_lt HW1.out.bl
      have h3 := HW1.out.z
      omega⟩
    clear hBq HW1
    generalize w1.alloc (.cells #[.int .i64 lo, .int .i64 hi] 24) = w2 at HBq HW2 HC2 ⊢
    have q0 : w2.cell? ⟨Bq, 0, none⟩ = some (.int .i64 lo) := (blk_cell HBq.out 0).trans rfl
    have ql := blk_lt HBq.out
    have hnk : w2.cell? ⟨Bn, k, none⟩ = some (.int .i64 (n k)) := (blk_cell HW2.out.bn k).trans (vec_get n k hk8)
    have hnf := blk_frozen HW2.out.bn k
    have nl := blk_lt HW2.out.bn
    go_wp2
    clear q0 ql hnk hnf nl
    have HW3 := Aside0.mk (HW2.out.set hJ HNL.out k hk8 lo)
    have HC3 : Aside0 (Chg (fun k => k = Bn ∨ k = Bl ∨ k = l ∨ Fp k) V (w2.setCell ⟨Bn, k, none⟩ (.int .i64 lo))) := ⟨(HC2.out.mono (fun _ _ x => x.elim)).setCell (p := ⟨Bn, k, none⟩) (fun _ => .inl rfl) _⟩
    have HB3 : Aside0 ((w2.setCell ⟨Bn, k, none⟩ (.int .i64 lo)).heap[Bq]? = some (.cells #[.int .i64 lo, .int .i64 hi] 24 (0, 0))) := ⟨blk_far HBq.out (p := ⟨Bn, k, none⟩) HNB.out.1 _⟩
    generalize w2.setCell ⟨Bn, k, none⟩ (.int .i64 lo) = w3 at HW3 HC3 HB3 ⊢
    clear HW2 HC2 HBq HC1
    go_loopw [7] (fun v7 wr => ∃ (j : Nat) (n' last' : Nat → Int) (Fp' : Nat → Prop), j ≤ (hi - lo + 1).toNat ∧ Aside0 (NX w0 D A0 c0 A3 c3 A4 c4 but b Bs B0 l Bn Bl By Bx J (q ++ leavesTo D k pfx j) n' last' Fp' wr) ∧ n' k = lo + j ∧ Aside0 (∀ i, i < k → n' i = fn pfx i) ∧ Aside0 (wr.heap[Bq]? = some (.cells #[.int .i64 lo, .int .i64 hi] 24 (0, 0))) ∧ Aside0 (¬ Fp' Bq) ∧
      Aside0 (Chg (fun k => k = Bn ∨ k = Bl ∨ k = l ∨ Fp k) V wr) ∧ Aside0 (∀ k, Fp' k → k < V.heap.size → Fp k)) (fun v7 wr => (hi + 1 - cellI wr Bn k).toNat)
    case atStart => exact ⟨0, upd n k lo, last, Fp, Nat.zero_le _, ⟨by rw [HL0.out, List.append_nil]; exact HW3.out⟩, by simp [upd], ⟨fun i hi => by rw [← HNP.out i hi]; unfold upd; rw [if_neg (by omega)]⟩, HB3, HFB, HC3, ⟨fun k hk _ => hk⟩⟩
    case round =>
      clear HW3 HC3 HB3
      obtain ⟨j, n', last', Fp', hj, HW3, hnj, HNI, HB3, HFB', HC3, HFV⟩ := hrel
      obtain ⟨cur, hcur⟩ : ∃ cur, n' k = cur := ⟨_, rfl⟩
      rw [hcur] at hnj
      have HCUR := Aside0.mk hcur
      have HNJ := Aside0.mk hnj
      clear hnj
      have hnk : wr.cell? ⟨Bn, k, none⟩ = some (.int .i64 cur) := by rw [← hcur]; exact (blk_cell HW3.out.bn k).trans (vec_get n' k hk8)
      clear hcur
      have q1 : wr.cell? ⟨Bq, 1, none⟩ = some (.int .i64 hi) := (blk_cell HB3.out 1).trans rfl
      have ql := blk_lt HB3.out
      have nl := blk_lt HW3.out.bn
      have hme : cellI wr Bn k = cur := by unfold cellI; rw [hnk]
      have HME := Aside0.mk hme
      clear hme
      have hnp2 := HQ.out
      rw [HLS.out] at hnp2
      have hcur0 : 0 ≤ cur := by have := HNJ.out; omega
      by_cases hle : cur ≤ hi
      · have HLE := Aside0.mk hle
        go_wp2
        go_quiet (fail)
        have HD := (Chg.refl (fun _ => False) wr).drewN nq
        have HW4 := Aside0.mk (HW3.out.same hJ HD)
        have HB4 := Aside0.mk (HD.heap HB3.out id)
        have HC4 := Aside0.mk (HC3.out.trans (HD.mono (fun _ _ x => x.elim)))
        clear HD HW3 HB3 HC3 hnk q1 ql nl
        generalize wr.drewN nq = w4 at HW4 HB4 HC4 ⊢
        have x0 : w4.cell? ⟨Bx, 0, none⟩ = some (.func (.func 128) #[] (nextV Bn Bl Bs By Bx)) := (blk_cell HW4.out.bx 0).trans rfl
        have xl := blk_lt HW4.out.bx
        have hen := enters_next
        have HJLT : Aside0 (j < (hi - lo + 1).toNat) := ⟨by have := HNJ.out; have := HLE.out; omega⟩
        have HLS1 : Aside0 (leavesTo D k pfx j ++ leaves D (k + 1) (pfx ++ [cur]) = leavesTo D k pfx (j + 1)) := ⟨by rw [HLT.out, HNJ.out]⟩
        have HPR : Aside0 ((q ++ leavesTo D k pfx j) ++ leaves D (k + 1) (pfx ++ [cur]) <+: prodL (spansL D)) := ⟨by
          rw [List.append_assoc, HLS1.out]
          exact ((List.prefix_append_right_inj _).2 (HLP.out _ _ (by have := HJLT.out; omega))).trans hnp2⟩
        have HFN : Aside0 (∀ i, i < k + 1 → n' i = fn (pfx ++ [cur]) i) := ⟨fun i hi => by
          by_cases e : i = k
          · subst e; rw [HCUR.out]; simp [fn, hp]
          · rw [HNI.out i (by omega)]; simp [fn, List.getElem?_append_left (show i < pfx.length by omega)]⟩
        clear hnp2
        go_wp2_with fail
        rw [show ((k : Int) + 1) = ((k + 1 : Nat) : Int) by omega]
        refine (HI.out (k + 1) (by omega) (pfx ++ [cur]) (q ++ leavesTo D k pfx j) n' last' Fp' w4 (by simp [hp]) HFN.out HPR.out HW4.out).mono ?_
        rintro e w5 (⟨rfl, n5, last5, Fp5, h5, hn5, hc5, hf5⟩ | ⟨rfl, pre, hpre, hjx, hok⟩)
        · clear x0 xl hen
          rw [List.append_assoc, HLS1.out] at h5
          have HW5 := Aside0.mk h5
          have HN5 := Aside0.mk hn5
          have hB5 : w5.heap[Bq]? = some (.cells #[.int .i64 lo, .int .i64 hi] 24 (0, 0)) := hc5.heap HB4.out (fun e => by
            rcases e with e | e | e | e
            · exact HNB.out.1 e
            · exact HNB.out.2.1 e
            · exact HNB.out.2.2 e
            · exact HFB'.out e)
          have HB5 := Aside0.mk hB5
          have HC5 : Aside0 (Chg (fun k => k = Bn ∨ k = Bl ∨ k = l ∨ Fp k) V w5) := ⟨HC4.out.then_ hc5 (fun k hk e => by
            rcases e with e | e | e | e
            · exact .inl e
            · exact .inr (.inl e)
            · exact .inr (.inr (.inl e))
            · exact .inr (.inr (.inr (HFV.out k e hk)))) ⟩
          have HF5 : Aside0 (¬ Fp5 Bq) := ⟨fun hf => HFB'.out (hf5 _ hf (blk_lt HB4.out))⟩
          have HV5 : Aside0 (∀ k, Fp5 k → k < V.heap.size → Fp k) := ⟨fun i hi hv => HFV.out i (hf5 i hi (Nat.lt_of_lt_of_le hv HC4.out.size)) hv⟩
          have hnk : w5.cell? ⟨Bn, k, none⟩ = some (.int .i64 cur) := by
            rw [← HCUR.out, ← hn5 k (by omega)]; exact (blk_cell h5.bn k).trans (vec_get n5 k hk8)
          have hnf := blk_frozen h5.bn k
          have nl := blk_lt h5.bn
          clear h5 hn5 hc5 hf5 hB5
          go_wp2
          go_roundw
          case rel =>
            refine ⟨j + 1, upd n5 k (cur + 1), last5, Fp5, by have := HJLT.out; omega, ⟨HW5.out.set hJ HNL.out k hk8 (cur + 1)⟩, by simp only [upd, if_true]; rw [HNJ.out]; omega, ⟨fun i hi => by unfold upd; rw [if_neg (by omega), HN5.out i (by omega)]; exact HNI.out i hi⟩, ⟨blk_far HB5.out (p := ⟨Bn, k, none⟩) HNB.out.1 _⟩, HF5, ⟨HC5.out.setCell (p := ⟨Bn, k, none⟩) (fun _ => .inl rfl) _⟩, HV5⟩
          case measure =>
            have e1 : cellI (w5.setCell ⟨Bn, k, none⟩ (.int .i64 (cur + 1))) Bn k = cur + 1 := by
              unfold cellI
              rw [(blk_cell (set_vec HW5.out.bn k hk8 (cur + 1)) k).trans (vec_get _ k hk8)]
              simp [upd]
            rw [e1, HME.out]
            have := HLE.out
            omega
        · clear x0 xl hen
          go_wp2
          go_ret
          exact .inr ⟨rfl, pre, hpre, hjx, hok⟩
      · have HJ2 : Aside0 (j = (hi - lo + 1).toNat) := ⟨by have := HNJ.out; omega⟩
        clear hnp2
        go_wp2
        go_quiet (fail)
        go_wp2
        go_ret
        have HD := (Chg.refl (fun _ => False) wr).drewN nq
        exact .inl ⟨rfl, n', last', Fp', by rw [HLS.out, ← HJ2.out]; exact HW3.out.same hJ HD, fun i hi => by rw [HNI.out i hi]; exact (HNP.out i hi).symm, HC3.out.trans (HD.mono (fun _ _ x => x.elim)), HFV.out⟩

set_option maxRecDepth 100000 in
set_option maxHeartbeats 2000000 in
theorem truthsC_iter (w0 W0 : World) (D : Dat) (A0 : Option Addr) (c0 : Nat) (A3 : Option Addr) (c3 : Nat) (A4 : Option Addr) (c4 : Nat) (but b Bs : Nat)
    (hA : Arg w0 D A0 c0 A3 c3 A4 c4) (hV : Valid D) (hbut : but < 2 ^ 62) (hz : b < W0.heap.size ∧ Bs < W0.heap.size ∧ w0.heap.size ≤ W0.heap.size) :
    Iter Try.prog 127 #[.pointer (some ⟨Bs, 0, none⟩)] encT (fun _ => False) (Ok w0 D A0 c0 A3 c3 A4 c4 but b Bs) (truthsL D but) W0 := by
  intro l J Jx W Fp0 hW hl1 hl2 hF0 hJ hJx hY h0 hOk
  refine callsIn_wide.2 ?_
  have HOk := Aside0.mk hOk
  have H0 := Aside0.mk h0
  have HF0 := Aside0.mk hF0
  have hzW := hW.size
  have hen := enters_next
  clear hOk h0 hF0 hW
  go_enter Try.func127, Try.ntmps127
  go_upto_region 4 with (fail)
  have HN0 : Aside0 (NX w0 D A0 c0 A3 c3 A4 c4 but b Bs W.heap.size l (W.heap.size + 1) (W.heap.size + 1 + 1) W.heap.size (W.heap.size + 1 + 1 + 1) J [] (fun _ => 0) (fun k => match k with | 0 => -1 | _ => 0) Fp0 ((((W.alloc (.cells #[.func (.yield l) #[] #[]] 137)).alloc (.cells #[.int .i64 0, .int .i64 0, .int .i64 0, .int .i64 0, .int .i64 0, .int .i64 0, .int .i64 0, .int .i64 0] 126)).alloc (.cells #[.int .i64 (-1), .int .i64 0, .int .i64 0, .int .i64 0, .int .i64 0, .int .i64 0, .int .i64 0, .int .i64 0] 126)).alloc (.cells #[.func (.func 128) #[] #[.pointer (some ⟨W.heap.size + 1, 0, none⟩), .pointer (some ⟨W.heap.size + 1 + 1, 0, none⟩), .pointer (some ⟨Bs, 0, none⟩), .pointer (some ⟨W.heap.size, 0, none⟩), .pointer (some ⟨W.heap.size + 1 + 1 + 1, 0, none⟩)]] 157))) := ⟨by
    have hch : Chg (fun _ => False) W ((((W.alloc (.cells #[.func (.yield l) #[] #[]] 137)).alloc (.cells #[.int .i64 0, .int .i64 0, .int .i64 0, .int .i64 0, .int .i64 0, .int .i64 0, .int .i64 0, .int .i64 0] 126)).alloc (.cells #[.int .i64 (-1), .int .i64 0, .int .i64 0, .int .i64 0, .int .i64 0, .int .i64 0, .int .i64 0, .int .i64 0] 126)).alloc (.cells #[.func (.func 128) #[] #[.pointer (some ⟨W.heap.size + 1, 0, none⟩), .pointer (some ⟨W.heap.size + 1 + 1, 0, none⟩), .pointer (some ⟨Bs, 0, none⟩), .pointer (some ⟨W.heap.size, 0, none⟩), .pointer (some ⟨W.heap.size + 1 + 1 + 1, 0, none⟩)]] 157)) := ((((Chg.refl _ W).alloc _).alloc _).alloc _).alloc _
    have hok := HOk.out.chg hch (fun _ x => x.elim)
    have hf := HF0.out
    exact {
      ok := hok
      j := hJ _ _ _ _ H0.out (hch.mono (fun _ _ x => x.elim)) hok
      fp := fun k hk => Nat.lt_of_lt_of_le (hf k hk) hch.size
      bn := blk_alloc (blk_alloc (new_at (by simp) _) _) _
      bl := blk_alloc (new_at (by simp) _) _
      by_ := blk_alloc (blk_alloc (blk_alloc (blk_new _ _) _) _) _
      bx := new_at (by simp) _
      fn_ := ⟨fun x => by have := hf _ x; omega, fun x => by have := hf _ x; omega, fun x => by have := hf _ x; omega, fun x => by have := hf _ x; omega⟩
      la := .inl rfl
      z := by omega }⟩
  have HX0 := Aside0.mk HN0.out.bx
  generalize ((((W.alloc (.cells #[.func (.yield l) #[] #[]] 137)).alloc (.cells #[.int .i64 0, .int .i64 0, .int .i64 0, .int .i64 0, .int .i64 0, .int .i64 0, .int .i64 0, .int .i64 0] 126)).alloc (.cells #[.int .i64 (-1), .int .i64 0, .int .i64 0, .int .i64 0, .int .i64 0, .int .i64 0, .int .i64 0, .int .i64 0] 126)).alloc (.cells #[.func (.func 128) #[] #[.pointer (some ⟨W.heap.size + 1, 0, none⟩), .pointer (some ⟨W.heap.size + 1 + 1, 0, none⟩), .pointer (some ⟨Bs, 0, none⟩), .pointer (some ⟨W.heap.size, 0, none⟩), .pointer (some ⟨W.heap.size + 1 + 1 + 1, 0, none⟩)]] 157)) = W1 at HN0 HX0 ⊢
  have x0 : W1.cell? ⟨W.heap.size + 1 + 1 + 1, 0, none⟩ = some (.func (.func 128) #[] #[.pointer (some ⟨W.heap.size + 1, 0, none⟩), .pointer (some ⟨W.heap.size + 1 + 1, 0, none⟩), .pointer (some ⟨Bs, 0, none⟩), .pointer (some ⟨W.heap.size, 0, none⟩), .pointer (some ⟨W.heap.size + 1 + 1 + 1, 0, none⟩)]) := (blk_cell HX0.out 0).trans rfl
  have xl := blk_lt HX0.out
  have hl0 : leaves D 0 [] = prodL (spansL D) := by
    unfold leaves
    simp
  have HL0 := Aside0.mk hl0
  clear hl0
  go_wp2_with fail
  refine (next_calls w0 D A0 c0 A3 c3 A4 c4 but b Bs W.heap.size l (W.heap.size + 1) (W.heap.size + 1 + 1) W.heap.size (W.heap.size + 1 + 1 + 1) J Jx hA hV hbut (by omega) hJ hY 8 0 rfl [] [] _ _ Fp0 W1 rfl (fun i hi => absurd hi (by omega)) (by rw [HL0.out]; simp) HN0.out).mono ?_
  rintro e w5 (⟨rfl, n5, last5, Fp5, h5, -, -, -⟩ | ⟨rfl, pre, hpre, hjx, hok⟩)
  · rw [HL0.out, List.nil_append] at h5
    have H5 := Aside0.mk h5
    clear h5
    go_wp2
    go_end0
    exact ⟨⟨_, rfl⟩, .inl ⟨Fp5, H5.out.j, H5.out.ok, H5.out.fp⟩⟩
  · go_wp2
    go_end0
    exact ⟨⟨_, rfl⟩, .inr ⟨pre, hpre, hjx, hok⟩⟩
theorem enters_truthsC (args : Array Value) (w : World) : (callFunc 127 args).run Try.prog w = .ok (.enter 127 args) w := enters_of Try.func127 (by kernel_rfl) rfl args w

set_option maxHeartbeats 400000 in
theorem truths_calls (W : World) (b : Nat) :
    Calls Try.prog 96 #[.pointer (some ⟨b, 0, none⟩)] W
      fun e W' => e = .returned (.func (.func 127) #[] #[.pointer (some ⟨W.heap.size, 0, none⟩)]) ∧ W' = W.alloc (.cells #[.pointer (some ⟨b, 0, none⟩)] 110) := by
  go_enter Try.func96, Try.ntmps96
  go_wp2
  go_ret
  exact ⟨rfl, rfl⟩
end Go.Proofs.Ytgoidclnccjdeaa.D
end
section
/- Package glass: some; enter. -/
namespace Go.Proofs.Ytgoidclnccjdeaa.D
open Go Go.RowKit Go.Proofs.YtgoidclnccjdeaaK Go.Proofs.YtgoidclnccjdeaaW.PrintWords Go.Proofs.YtgoidclnccjdeaaW.PrintLast Go.Proofs.YtgoidclnccjdeaaW.PrintMore Go.Proofs.Ytgoidclnccjdeaa.PR Go.Proofs.Ytgoidclnccjdeaa.M
set_option linter.unusedVariables false
set_option linter.unusedSimpArgs false
attribute [local go_sem] Oper.semAt_some

set_option maxRecDepth 100000 in
set_option maxHeartbeats 1000000 in
theorem some_calls (w0 W : World) (D : Dat) (A0 : Option Addr) (c0 : Nat) (A3 : Option Addr) (c3 : Nat) (A4 : Option Addr) (c4 : Nat) (but b : Nat)
    (hA : Arg w0 D A0 c0 A3 c3 A4 c4) (hV : Valid D) (hbut : but < 2 ^ 62) (h : Sh w0 W D A0 c0 A3 c3 A4 c4 but b) :
    Calls Try.prog 109 #[.pointer (some ⟨b, 0, none⟩)] W
      fun e W' => e = .returned (.bool (!(truthsL D but).isEmpty)) ∧ Chg (fun _ => False) W W' ∧ Sh w0 W' D A0 c0 A3 c3 A4 c4 but b := by
  have H := Aside0.mk h
  have hb0 := blk_lt h.sh
  clear h
  refine (callsIn_wide (n := 0)).1 ?_
  refine callsIn_of_wp_marks Try.func109 rfl trivial ?_
  simp only [Try.ntmps109, List.size_toArray, List.length_cons, List.length_nil, Nat.reduceAdd, Nat.reduceSub, Array.replicate_succ, Array.replicate_zero, List.push_toArray, List.append_toArray, List.nil_append, List.cons_append]
  gi_wp2_with (refine ⟨trivial, rfl, ?_⟩; gi_at_call 96; refine (callsIn_wide.2 (truths_calls _ b)).mono ?_; rintro e w1 ⟨rfl, rfl⟩)
  have HC : Aside0 (Chg (fun _ => False) W ((W.alloc (.cells #[.bool false] 4)).alloc (.cells #[.pointer (some ⟨b, 0, none⟩)] 110))) := ⟨((Chg.refl _ W).alloc _).alloc _⟩
  have HR : Aside0 (((W.alloc (.cells #[.bool false] 4)).alloc (.cells #[.pointer (some ⟨b, 0, none⟩)] 110)).heap[W.heap.size]? = some (.cells #[.bool false] 4 (0, 0))) := ⟨blk_alloc (blk_new _ _) _⟩
  have HBs : Aside0 (((W.alloc (.cells #[.bool false] 4)).alloc (.cells #[.pointer (some ⟨b, 0, none⟩)] 110)).heap[W.heap.size + 1]? = some (.cells #[.pointer (some ⟨b, 0, none⟩)] 110 (0, 0))) := ⟨new_at (by simp) _⟩
  generalize hW1 : (W.alloc (.cells #[.bool false] 4)).alloc (.cells #[.pointer (some ⟨b, 0, none⟩)] 110) = W1 at HC HR HBs ⊢
  clear hW1
  have HOk : Aside0 (Ok w0 D A0 c0 A3 c3 A4 c4 but b (W.heap.size + 1) W1) := ⟨H.out.chg HC.out (fun _ x => x.elim), HBs.out⟩
  have z1 := blk_lt HBs.out
  have zb := H.out.base.size
  have z3 : b < W1.heap.size := by omega
  refine rangeFunc (gf := 127) (lb := #[.pointer (some ⟨W.heap.size + 1, 0, none⟩)]) rfl enters_truthsC (truthsC_iter w0 W1 D A0 c0 A3 c3 A4 c4 but b (W.heap.size + 1) hA hV hbut ⟨z3, z1, by omega⟩) (fun _ => rfl)
    (fun pre Fp V => pre = [] ∧ Fp = (fun k => k = W.heap.size) ∧ V.heap[W.heap.size]? = some (.cells #[.bool false] 4 (0, 0)) ∧ Chg (fun _ => False) W V)
    (fun c pre V => c = .ret ∧ pre ≠ [] ∧ V.heap[W.heap.size]? = some (.cells #[.bool true] 4 (0, 0)) ∧ Chg (fun _ => False) W V)
    (fun k => k = W.heap.size) (fun k e => e.elim) (fun A B ho hc => ho.chg hc (fun k hk => by omega)) ?_ ?_ ⟨rfl, rfl, HR.out, HC.out⟩ (fun k e => by omega) HOk.out ?_ ?_ ?_
  · rintro pre Fp A B ⟨h1, h2, h3, h4⟩ hc hok
    exact ⟨h1, h2, hc.heap h3 (by rw [h2]; simp), h4.then_ hc (fun k hk hx => hx.elim (fun x => x.elim) (fun x => by have := x.1; omega))⟩
  · rintro c pre A B ⟨h1, h2, h3, h4⟩ hc hok
    exact ⟨h1, h2, hc.heap h3 (fun hx => hx.elim (fun x => x.elim) (fun x => by omega)), h4.then_ hc (fun k hk hx => hx.elim (fun x => x.elim) (fun x => by omega))⟩
  · rintro l pre x Fp V hl1 hl2 hfl hFp hpre ⟨h1, h2, h3, h4⟩ hok
    dsimp only [encT]
    gi_wp2
    refine ⟨Chg.refl _ _, ?_⟩
    rintro V2 hc2 hs2 ⟨h1', h2', h3', h4'⟩ hok2
    have HK := Aside0.mk hok2
    have H4 := Aside0.mk h4'
    have c0 : V2.cell? ⟨W.heap.size, 0, none⟩ = some (.bool false) := (blk_cell h3' 0).trans rfl
    have f0 := blk_frozen h3' 0
    have H3 := Aside0.mk h3'
    clear h3' h4' hok2 h3 h4 hok hc2
    subst h2'
    gi_wp2
    refine ⟨⟨rfl, by simp, blk_set H3.out 0 _, H4.out.setCell (p := ⟨W.heap.size, 0, none⟩) (fun e => by simp at e) _⟩, (Chg.refl (fun k => k = W.heap.size) V2).setCell (p := ⟨W.heap.size, 0, none⟩) (fun _ => rfl) _, HK.out.chg ((Chg.refl (fun k => k = W.heap.size) V2).setCell (p := ⟨W.heap.size, 0, none⟩) (fun _ => rfl) _) (fun k e => by omega)⟩
  · rintro Fp V ⟨h1, h2, h3, h4⟩ hok hfD hD hsz
    have H4 := Aside0.mk h4
    have HK := Aside0.mk hok
    have H3 := Aside0.mk h3
    have HD := Aside0.mk hD
    have HE := Aside0.mk h1
    have c0 : V.cell? ⟨W.heap.size, 0, none⟩ = some (.bool false) := (blk_cell h3 0).trans rfl
    have f0 := blk_frozen h3 0
    clear h4 hok h3 hD h1 h2
    gi_wp2
    have HD2 : Aside0 ((V.setCell ⟨W.heap.size, 0, none⟩ (.bool false)).heap[W1.heap.size]? = some (.deferred (some []))) := ⟨(Below.heap_setCell _ _ _ _ (by simp; omega)).trans HD.out⟩
    have HC2 : Aside0 (Chg (fun k => k = W.heap.size ∨ k = W1.heap.size) V ((V.setCell ⟨W.heap.size, 0, none⟩ (.bool false)).putObj W1.heap.size (.deferred none))) := ⟨((Chg.refl _ V).setCell (p := ⟨W.heap.size, 0, none⟩) (fun _ => .inl rfl) _).putObj (fun _ => .inr rfl) _⟩
    refine leave_mark HD2.out (v := .bool false) (results_cell1 rfl _ _ W.heap.size _ _ rfl (cell_putObj ((blk_cell (blk_set H3.out 0 _) 0).trans rfl) HD2.out) Try.underlying4 rfl) ⟨by rw [HE.out]; rfl, H4.out.then_ HC2.out (fun k hk hx => by omega), HK.out.s.chg HC2.out (fun k hx => by omega)⟩
  · rintro c pre V hpre ⟨rfl, h2, h3, h4⟩ hok hD hsz
    have H4 := Aside0.mk h4
    have HK := Aside0.mk hok
    have H3 := Aside0.mk h3
    have HD := Aside0.mk hD
    clear h4 hok h3 hD
    gi_wp2
    have HC2 : Aside0 (Chg (fun k => k = W1.heap.size) V (V.putObj W1.heap.size (.deferred none))) := ⟨(Chg.refl (fun k => k = W1.heap.size) V).putObj (l := W1.heap.size) (fun _ => rfl) _⟩
    refine leave_mark HD.out (v := .bool true) (results_cell1 rfl _ _ W.heap.size _ _ rfl (cell_putObj ((blk_cell H3.out 0).trans rfl) HD.out) Try.underlying4 rfl) ⟨?_, H4.out.then_ HC2.out (fun k hk hx => by omega), HK.out.s.chg HC2.out (fun k hx => by omega)⟩
    have hne : (truthsL D but).isEmpty = false := by
      rw [List.isEmpty_eq_false_iff]
      intro e
      rw [e] at hpre
      exact h2 (List.prefix_nil.1 hpre)
    rw [hne]; rfl
end Go.Proofs.Ytgoidclnccjdeaa.D
end
section
/- Package glass: enter, among, dated. -/
namespace Go.Proofs.Ytgoidclnccjdeaa.D
open Go Go.RowKit Go.Proofs.YtgoidclnccjdeaaK Go.Proofs.YtgoidclnccjdeaaW.PrintWords Go.Proofs.YtgoidclnccjdeaaW.PrintLast Go.Proofs.YtgoidclnccjdeaaW.PrintMore Go.Proofs.Ytgoidclnccjdeaa.PR Go.Proofs.Ytgoidclnccjdeaa.M
set_option linter.unusedVariables false
set_option linter.unusedSimpArgs false

def AskC (w : World) (A : Option Addr) (l : List (Bool × Int)) : Prop :=
  l.length ≤ 10 ∧ (∀ x ∈ l, x.2 ≠ 0) ∧ ∀ k (h : k < l.length), ∃ ad, A = some ad ∧ w.cell? (ad.add (k * 2)) = some (.bool l[k].1) ∧ w.cell? ⟨(ad.add (k * 2)).block, (ad.add (k * 2)).off + 1, none⟩ = some (.int .i64 l[k].2)
theorem AskC.below {w w' : World} {A : Option Addr} {l : List (Bool × Int)} (h : AskC w A l) (hb : Below w.heap.size w w') : AskC w' A l :=
  ⟨h.1, h.2.1, fun k hk => by
    obtain ⟨ad, e, h1, h2⟩ := h.2.2 k hk
    exact ⟨ad, e, (Chg.of_below hb).cell h1 (fun hx => by have := World.block_lt_of_cell? w _ h1; omega), (Chg.of_below hb).cell h2 (fun hx => by have := World.block_lt_of_cell? w _ h2; omega)⟩⟩
theorem AskC.nil (w : World) (A : Option Addr) : AskC w A [] := ⟨by simp, by simp, fun k h => absurd h (by simp)⟩
def askCells (l : List (Bool × Int)) : List Value := l.flatMap fun x => [.bool x.1, .int .i64 x.2]
theorem askCells_get : ∀ (l : List (Bool × Int)) (k : Nat) (h : k < l.length), (askCells l)[k * 2]? = some (.bool l[k].1) ∧ (askCells l)[k * 2 + 1]? = some (.int .i64 l[k].2)
  | [], k, h => absurd h (by simp)
  | x :: l, 0, h => ⟨rfl, rfl⟩
  | x :: l, k + 1, h => by
    have := askCells_get l k (by simpa using h)
    simpa [askCells, Nat.add_mul, Nat.add_assoc] using this
theorem AskC.blk {w : World} {g : Nat} {t : TypeId} {l : List (Bool × Int)} {cs : Array Value} (h : w.heap[g]? = some (.cells cs t (0, 0))) (hcs : cs = (askCells l).toArray) (hl : l.length ≤ 10) (he : ∀ x ∈ l, x.2 ≠ 0) : AskC w (some ⟨g, 0, none⟩) l :=
  ⟨hl, he, fun k hk => by
    have hadd : (⟨g, 0, none⟩ : Addr).add (k * 2) = ⟨g, k * 2, none⟩ := by unfold Addr.add; split <;> simp_all
    refine ⟨_, rfl, ?_, ?_⟩ <;> rw [hadd] <;> subst hcs
    · exact (blk_cell h _).trans (by simpa using (askCells_get l k hk).1)
    · exact (blk_cell h _).trans (by simpa using (askCells_get l k hk).2)⟩
def askE : List (Bool × Int) → Int
  | [] => 0
  | x :: l => if x.1 then askE l else x.2
def enterE (D : Dat) (l : List (Bool × Int)) : Int :=
  if (checkF D).2.2 ≠ 0 then (checkF D).2.2 else if askE l ≠ 0 then askE l else if (truthsL D 0).isEmpty then 8 else 0

set_option maxRecDepth 100000 in
set_option maxHeartbeats 1000000 in
theorem enter_calls2 (D : Dat) (A0 : Option Addr) (c0 : Nat) (A3 : Option Addr) (c3 : Nat) (A4 : Option Addr) (c4 : Nat) (l : List (Bool × Int)) (A : Option Addr) (c : Nat) (w : World) (h : Arg w D A0 c0 A3 c3 A4 c4) (hl : AskC w A l) :
    Calls Try.prog 89 #[.agg (D.cells A0 c0 A3 c3 A4 c4), .slice A l.length c] w
      fun e w' => ∃ ap : Option Addr, e = .returned (.tuple #[.pointer ap, .int .i64 (enterE D l)]) ∧ Below w.heap.size w w' ∧ (enterE D l = 0 → ∃ b, ap = some ⟨b, 0, none⟩ ∧ Sh w w' D A0 c0 A3 c3 A4 c4 0 b) := by
  have HA := Aside0.mk h
  have HL := Aside0.mk hl
  have hl10 := hl.1
  have HX := Aside0.mk (blk_new w (.cells (D.cells A0 c0 A3 c3 A4 c4) 28))
  have HB := Aside0.mk (below_alloc (Below.refl w.heap.size w) (.cells (D.cells A0 c0 A3 c3 A4 c4) 28))
  clear h hl
  obtain ⟨r, hr⟩ : ∃ r, enterE D l = r := ⟨_, rfl⟩
  have HE := Aside0.mk hr
  rw [hr]
  clear hr
  go_enter Try.func89, Try.ntmps89
  go_upto_region 1 with (fail)
  generalize w.alloc (.cells (D.cells A0 c0 A3 c3 A4 c4) 28) = w1 at HX HB ⊢
  obtain ⟨q, hq⟩ : ∃ q, w.heap.size = q := ⟨_, rfl⟩
  rw [hq] at HX ⊢
  have k0 := (blk_cell HX.out 0).trans rfl
  have k1 := (blk_cell HX.out 1).trans rfl
  have k2 := (blk_cell HX.out 2).trans rfl
  have k3 := (blk_cell HX.out 3).trans rfl
  have k4 := (blk_cell HX.out 4).trans rfl
  have kl := blk_lt HX.out
  go_wp2_with fail
  clear k0 k1 k2 k3 k4 kl
  refine (Check_calls D A0 c0 A3 c3 A4 c4 w1 (HA.out.below HB.out)).mono ?_
  rintro e w2 ⟨rfl, hb⟩
  replace HX := Aside0.mk (blk_below HX.out hb)
  replace HB := Aside0.mk (HB.out.trans (hb.mono HB.out.size))
  clear hb
  obtain ⟨cf, hcf⟩ : ∃ cf, checkF D = cf := ⟨_, rfl⟩
  have HCF := Aside0.mk hcf
  rw [hcf]
  clear hcf
  obtain ⟨f1, f2, f3⟩ := cf
  by_cases h0 : f3 = 0
  · subst h0
    have hV := (check_valid (D := D) (by rw [HCF.out])).1
    have HV := Aside0.mk hV
    clear hV
    have hr : r = if askE l ≠ 0 then askE l else if (truthsL D 0).isEmpty then 8 else 0 := by rw [← HE.out, enterE, HCF.out, if_neg (by simp)]
    have HR := Aside0.mk hr
    clear hr
    go_wp2
    go_loopw [23] (fun j wr => ∃ k : Nat, k ≤ l.length ∧ j = .int .i64 k ∧ Aside0 (askE l = askE (l.drop k)) ∧ Aside0 (Below w.heap.size w wr) ∧ Aside0 (wr.heap[q]? = some (.cells (D.cells A0 c0 A3 c3 A4 c4) 28 (0, 0)))) (fun j _ => l.length - (intOf j).toNat)
    case atStart => exact ⟨0, Nat.zero_le _, rfl, ⟨rfl⟩, HB, HX⟩
    case round =>
      clear HB HX
      obtain ⟨k, hk, rfl, HO, HB, HX⟩ := hrel
      by_cases hlt : k < l.length
      · obtain ⟨ad, e, hc0, hc1⟩ := (HL.out.below HB.out).2.2 k hlt
        subst e
        have HO2 := Aside0.mk (show askE l = if l[k].1 then askE (l.drop (k + 1)) else l[k].2 by rw [HO.out, List.drop_eq_getElem_cons hlt]; rfl)
        have hne := HL.out.2.1 l[k] (List.getElem_mem hlt)
        have HNE := Aside0.mk hne
        clear HO hne
        generalize l[k] = x at *
        obtain ⟨x1, x2⟩ := x
        simp only at hc0 hc1 HO2 HNE
        have hb2 := below_alloc HB.out (.cells #[.bool x1, .int .i64 x2] 114)
        have HB2 := Aside0.mk hb2
        have HX2 := Aside0.mk (blk_alloc HX.out (.cells #[.bool x1, .int .i64 x2] 114))
        clear hb2
        cases x1
        · go_wp2
          go_quiet (fail)
          go_wp2
          go_ret2
          have hr : r = x2 := by rw [HR.out, HO2.out]; have := HNE.out; simp [this]
          exact ⟨_, by rw [hr]; rfl, pw_below_drewN HB2.out _, fun h => absurd (hr.symm.trans h) HNE.out⟩
        · go_wp2
          go_roundw
          case rel => exact ⟨k + 1, by omega, by go_num, ⟨HO2.out⟩, HB2, HX2⟩
          case measure => simp [intOf]; omega
      · obtain rfl : k = l.length := by omega
        have HO2 : Aside0 (askE l = 0) := ⟨by rw [HO.out]; simp [askE]⟩
        have k0 := (blk_cell HX.out 0).trans rfl
        have k1 := (blk_cell HX.out 1).trans rfl
        have k2 := (blk_cell HX.out 2).trans rfl
        have k3 := (blk_cell HX.out 3).trans rfl
        have k4 := (blk_cell HX.out 4).trans rfl
        have kl := blk_lt HX.out
        go_wp2_with fail
        clear k0 k1 k2 k3 k4 kl
        refine (look_calls w wr D A0 c0 A3 c3 A4 c4 0 HB.out).mono ?_
        rintro e w3 ⟨b, rfl, hc, hs, _⟩
        have HS := Aside0.mk hs
        clear hc hs
        go_wp2_with fail
        refine (some_calls w w3 D A0 c0 A3 c3 A4 c4 0 b HA.out HV.out (by decide) HS.out).mono ?_
        rintro e w4 ⟨rfl, _, hs⟩
        replace HS := Aside0.mk hs
        clear hs
        obtain ⟨t, ht⟩ : ∃ t, (truthsL D 0).isEmpty = t := ⟨_, rfl⟩
        have HT := Aside0.mk ht
        rw [ht]
        clear ht
        have hr := HR.out
        rw [HO2.out, HT.out, if_neg (by simp)] at hr
        cases t
        · obtain rfl : r = 0 := by rw [hr]; rfl
          clear hr
          go_wp2
          go_ret2
          exact ⟨_, rfl, by first | exact HS.out.base | (rw [← hq]; exact HS.out.base), by first | exact ⟨b, rfl, HS.out⟩ | exact fun _ => ⟨b, rfl, HS.out⟩⟩
        · obtain rfl : r = 8 := by rw [hr]; rfl
          clear hr
          go_wp2
          go_ret2
          exact ⟨_, rfl, by first | exact HS.out.base | (rw [← hq]; exact HS.out.base), fun h => by cases h⟩
  · have hr : r = f3 := by rw [← HE.out, enterE, HCF.out, if_pos h0]
    subst hr
    go_wp2
    go_ret2
    exact ⟨_, rfl, HB.out, fun h => absurd h h0⟩

theorem enter_calls (D : Dat) (A0 : Option Addr) (c0 : Nat) (A3 : Option Addr) (c3 : Nat) (A4 : Option Addr) (c4 : Nat) (l : List (Bool × Int)) (A : Option Addr) (c : Nat) (w : World) (h : Arg w D A0 c0 A3 c3 A4 c4) (hl : AskC w A l) :
    Calls Try.prog 89 #[.agg (D.cells A0 c0 A3 c3 A4 c4), .slice A l.length c] w
      fun e w' => ∃ v, e = .returned (.tuple #[v, .int .i64 (enterE D l)]) ∧ Below w.heap.size w w' ∧ (enterE D l = 0 → ∃ b, v = .pointer (some ⟨b, 0, none⟩) ∧ Sh w w' D A0 c0 A3 c3 A4 c4 0 b) :=
  (enter_calls2 D A0 c0 A3 c3 A4 c4 l A c w h hl).mono fun e w' ⟨ap, h1, h2, h3⟩ => ⟨_, h1, h2, fun h0 => let ⟨b, h4, h5⟩ := h3 h0; ⟨b, by rw [h4], h5⟩⟩
theorem info114s : (Try.prog.info? 114).map (·.size) = some 2 := by kernel_rfl
def amongB (below : Int) (l : List Int) : Bool := !outB 0 (below - 1) l
def datedB (y : Int) : Bool := !outB 0 9 [y]
set_option maxRecDepth 100000 in
set_option maxHeartbeats 400000 in
theorem among_calls (m : Nat) (l : List Int) (A : Option Addr) (c : Nat) (w : World) (hm : m ≤ 9223372036854775807) (hr : Kd.C (Kd.int .i64) w A l.length l) :
    Calls Try.prog 90 #[.int .i64 m, .slice A l.length c] w fun e w' => e = .returned (.agg #[.bool (amongB m l), .int .i64 4]) ∧ Below w.heap.size w w' := by
  have hlen := hr.2.1
  have HR := Aside0.mk (Kd.C_below hr (below_alloc (Below.refl w.heap.size w) (.cells #[.bool false, .int .i64 0] 114)))
  have HX := Aside0.mk (blk_new w (.cells #[.bool false, .int .i64 0] 114))
  have HB := Aside0.mk (below_alloc (Below.refl w.heap.size w) (.cells #[.bool false, .int .i64 0] 114))
  clear hr
  go_enter Try.func90, Try.ntmps90
  go_upto_region 1 with (fail)
  generalize w.alloc (.cells #[.bool false, .int .i64 0] 114) = w1 at HR HX HB ⊢
  obtain ⟨q, hq⟩ : ∃ q, w.heap.size = q := ⟨_, rfl⟩
  rw [hq] at HX ⊢
  obtain ⟨o, ho⟩ : ∃ o, outB 0 ((m : Int) - 1) l = o := ⟨_, rfl⟩
  have HO := Aside0.mk ho
  clear ho
  go_wp2_with fail
  refine (out_calls 0 ((m : Int) - 1) l _ _ _ HR.out).mono ?_
  rw [HO.out]
  rintro e w2 ⟨rfl, rfl⟩
  have k0 := (blk_cell HX.out 0).trans rfl
  have k1 := (blk_cell HX.out 1).trans rfl
  have kl := blk_lt HX.out
  have f0 := blk_frozen HX.out 0
  have f1 := blk_frozen HX.out 1
  go_wp2
  refine bodyPost_ret (v := .agg #[.bool (!o), .int .i64 4]) (results_cell_row rfl _ _ q 114 _ (0, 0) _ rfl (blk_set (blk_set HX.out 0 _) 1 _) Try.underlying114 rfl info114s) rfl ⟨by rw [amongB, HO.out], below_set (below_set HB.out (by first | omega | (simp; omega))) (by first | omega | (simp; omega))⟩
set_option maxRecDepth 100000 in
set_option maxHeartbeats 400000 in
theorem dated_calls (y : Int) (w : World) :
    Calls Try.prog 99 #[.int .i64 y] w fun e w' => e = .returned (.agg #[.bool (datedB y), .int .i64 7]) ∧ Below w.heap.size w w' := by
  have HX := Aside0.mk (blk_alloc (blk_new w (.cells #[.bool false, .int .i64 0] 114)) (.cells #[.int .i64 y] 3))
  have HB := Aside0.mk (below_alloc (below_alloc (Below.refl w.heap.size w) (.cells #[.bool false, .int .i64 0] 114)) (.cells #[.int .i64 y] 3))
  obtain ⟨o, ho⟩ : ∃ o, outB 0 9 [y] = o := ⟨_, rfl⟩
  have HO := Aside0.mk ho
  clear ho
  go_enter Try.func99, Try.ntmps99
  go_wp2_with fail
  refine (out_calls 0 9 [y] _ _ _ (lit1 y (by simp))).mono ?_
  rw [HO.out]
  rintro e w2 ⟨rfl, rfl⟩
  generalize (w.alloc (.cells #[.bool false, .int .i64 0] 114)).alloc (.cells #[.int .i64 y] 3) = w1 at HX HB ⊢
  obtain ⟨q, hq⟩ : ∃ q, w.heap.size = q := ⟨_, rfl⟩
  rw [hq] at HX ⊢
  have k0 := (blk_cell HX.out 0).trans rfl
  have k1 := (blk_cell HX.out 1).trans rfl
  have kl := blk_lt HX.out
  have f0 := blk_frozen HX.out 0
  have f1 := blk_frozen HX.out 1
  go_wp2
  refine bodyPost_ret (v := .agg #[.bool (!o), .int .i64 7]) (results_cell_row rfl _ _ q 114 _ (0, 0) _ rfl (blk_set (blk_set HX.out 0 _) 1 _) Try.underlying114 rfl info114s) rfl ⟨by rw [datedB, HO.out], below_set (below_set HB.out (by first | omega | (simp; omega))) (by first | omega | (simp; omega))⟩
end Go.Proofs.Ytgoidclnccjdeaa.D
end
section
/- Regions that draw their order: a run of operations each of which is the only one that may come up next. -/
namespace Go.Proofs.YtgoidclnccjdeaaK
open Go
set_option linter.unusedVariables false

def pre (n i : Nat) : Array Bool := (List.replicate i true ++ List.replicate (n - i) false).toArray
theorem pre_zero (n : Nat) : Array.replicate n false = pre n 0 := by simp [pre, ← List.toArray_replicate]
theorem pre_succ {n i : Nat} (h : i < n) : (pre n i).setIfInBounds i true = pre n (i + 1) := by
  unfold pre
  rw [List.setIfInBounds_toArray]
  congr 1
  have e : n - i = (n - (i + 1)) + 1 := by omega
  rw [e, List.replicate_succ, List.set_append_right _ _ (by simp)]
  simp only [List.length_replicate, Nat.sub_self, List.set_cons_zero]
  rw [List.replicate_succ', List.append_assoc]
  rfl
theorem pre_getD (n k i : Nat) (d : Bool) (hk : k ≤ n) : (pre n k).getD i d = if i < n then decide (i < k) else d := by
  unfold pre
  simp only [Array.getD_eq_getD_getElem?, List.getElem?_toArray]
  by_cases h : i < k
  · rw [List.getElem?_append_left (by simpa using h), List.getElem?_replicate, if_pos h, if_pos (by omega)]; simp [h]
  · rw [List.getElem?_append_right (by simp; omega), List.length_replicate, List.getElem?_replicate]
    by_cases h' : i < n
    · rw [if_pos (by omega), if_pos h']; simp [h]
    · rw [if_neg (by omega), if_neg h']; rfl
def maxA : List Edge → Nat
  | [] => 0
  | e :: l => if Region.binds .any e = true then max (e.on + 1) (maxA l) else maxA l
theorem maxA_le {k : Nat} : ∀ {l : List Edge}, maxA l ≤ k ↔ ∀ e ∈ l, Region.binds .any e = true → e.on < k
  | [] => by simp [maxA]
  | e :: l => by
    have ih := @maxA_le k l
    unfold maxA
    split
    · rename_i h
      simp only [List.mem_cons, forall_eq_or_imp]
      rw [← ih]
      constructor
      · intro h'; exact ⟨fun _ => by omega, by omega⟩
      · rintro ⟨h1, h2⟩; have := h1 h; omega
    · rename_i h
      simp only [List.mem_cons, forall_eq_or_imp]
      rw [← ih]
      exact ⟨fun h' => ⟨fun x => absurd x h, h'⟩, fun h' => h'.2⟩
def waits (ops : Array Oper) : List Nat := ops.toList.map fun o => maxA o.after.toList
theorem range_one {n k : Nat} (h : k < n) : (List.range n).filter (fun i => i == k) = [k] := by
  induction n with
  | zero => omega
  | succ n ih =>
    rw [List.range_succ, List.filter_append]
    by_cases e : k = n
    · subst e
      have : (List.range k).filter (fun i => i == k) = [] := List.filter_eq_nil_iff.2 fun i hi hh => by
        have := List.mem_range.1 hi
        have := eq_of_beq hh
        omega
      rw [this]; simp
    · rw [ih (by omega)]
      have : (n == k) = false := by simpa using fun x => e x.symm
      simp [this]
theorem ready_one {ops : Array Oper} {n k : Nat} {M : List Nat} (hn : ops.size = n) (hM : waits ops = M) (hk : k < n) (h1 : M.getD k 0 ≤ k) (h2 : ∀ j, k < j → j < n → k < M.getD j 0) : Region.ready .any ops (pre n k) = [k] := by
  unfold Region.ready
  rw [hn, ← range_one hk]
  refine List.filter_congr fun i hi => ?_
  have hin := List.mem_range.1 hi
  have ho : ops[i]? = some (ops[i]'(by omega)) := Array.getElem?_eq_getElem (by omega)
  have hMi : M.getD i 0 = maxA (ops[i]'(by omega)).after.toList := by
    rw [← hM]
    unfold waits
    rw [List.getD_eq_getElem?_getD, List.getElem?_map, Array.getElem?_toList, ho]; rfl
  rw [pre_getD n k i true (by omega), if_pos hin, ho]
  simp only [Option.map_some, Option.getD_some]
  rcases Nat.lt_trichotomy i k with h | h | h
  · rw [decide_eq_true h]
    have : (i == k) = false := by simpa using Nat.ne_of_lt h
    simp [this]
  · subst h
    rw [decide_eq_false (by omega)]
    simp only [Bool.not_false, Bool.true_and, beq_self_eq_true]
    rw [← Array.all_toList, List.all_eq_true]
    intro e he
    by_cases hb : Region.binds .any e = true
    · have := maxA_le.1 (hMi ▸ h1) e he hb
      rw [pre_getD n i e.on false (by omega), if_pos (by omega), decide_eq_true this]; simp
    · have : Region.binds .any e = false := by simpa using hb
      rw [this]; rfl
  · have hne : (i == k) = false := by simpa using Nat.ne_of_gt h
    rw [hne, Bool.eq_false_iff]
    intro hh
    have hh2 := (Bool.and_eq_true_iff.1 hh).2
    rw [← Array.all_toList, List.all_eq_true] at hh2
    have hlt := h2 i h hin
    rw [hMi] at hlt
    have : maxA (ops[i]'(by omega)).after.toList ≤ k := maxA_le.2 fun e he hb => by
      have := hh2 e he
      rw [hb, pre_getD n k e.on false (by omega)] at this
      by_cases hen : e.on < n
      · rw [if_pos hen] at this; simpa using this
      · rw [if_neg hen] at this; simp at this
    omega
def soleM (M : List Nat) (n k m : Nat) : Bool := (List.range m).all fun j => Nat.ble (M.getD (k + j) 0) (k + j) && ((M.take n).drop (k + j + 1)).all fun x => Nat.ble (k + j + 1) x
theorem soleM_at {ops : Array Oper} {n k m : Nat} {M : List Nat} (hn : ops.size = n) (hM : waits ops = M) (hkm : k + m ≤ n) (h : soleM M n k m = true) {j : Nat} (hj : j < m) : Region.ready .any ops (pre n (k + j)) = [k + j] := by
  have := List.all_eq_true.1 h j (List.mem_range.2 hj)
  obtain ⟨h1, h2⟩ := Bool.and_eq_true_iff.1 this
  refine ready_one hn hM (by omega) (Nat.le_of_ble_eq_true h1) (fun i hi hin => ?_)
  have hl : M.length = n := by rw [← hM]; simp [waits, hn]
  have h3 := List.all_eq_true.1 h2 (M.getD i 0) (by
    have e : M.getD i 0 = M[i]'(by omega) := by simp [List.getD_eq_getElem?_getD, hl, hin]
    rw [e, List.mem_iff_getElem?]
    refine ⟨i - (k + j + 1), ?_⟩
    rw [List.getElem?_drop, show k + j + 1 + (i - (k + j + 1)) = i by omega, List.getElem?_take_of_lt hin, List.getElem?_eq_getElem (by omega)])
  have := Nat.le_of_ble_eq_true h3
  omega

section
variable {P : Program} {ops : Array Oper} {Q : Exit → Act → World → Prop} {S : World → Prop} {n : Nat}
theorem wpAnyH_run {w : World} (hS : S w) : ∀ (l : List Oper) (k fuel : Nat) (a : Act), (∀ j, j < l.length → ops[k + j]? = l[j]?) → k + l.length ≤ n → (∀ j, j < l.length → Region.ready .any ops (pre n (k + j)) = [k + j]) →
    wpStill P ops w (fun a' => wpAnyH P .any ops Q S fuel (pre n (k + l.length)) a' w) l a → wpAnyH P .any ops Q S (fuel + l.length) (pre n k) a w
  | [], k, fuel, a, _, _, _, h => h
  | o :: l, k, fuel, a, hl, hn, hr, h => by
    have h0 : ops[k]? = some o := by simpa using hl 0 (by simp)
    have hr0 := hr 0 (by simp)
    have ih : ∀ a', wpStill P ops w (fun a' => wpAnyH P .any ops Q S fuel (pre n (k + (o :: l).length)) a' w) l a' → wpAnyH P .any ops Q S (fuel + l.length) (pre n (k + 1)) a' w := fun a' h' => by
      refine wpAnyH_run hS l (k + 1) fuel a' (fun j hj => ?_) (by simp only [List.length_cons] at hn; omega) (fun j hj => ?_) ?_
      · have := hl (j + 1) (by simp; omega)
        rw [show k + 1 + j = k + (j + 1) by omega, this]; rfl
      · have := hr (j + 1) (by simp; omega)
        rw [show k + 1 + j = k + (j + 1) by omega, this]
      · have e : k + 1 + l.length = k + (o :: l).length := by simp only [List.length_cons]; omega
        rw [e]; exact h'
    refine wpAnyH_all (rs := [k]) hr0 (by simp) (fun i hi => ?_)
    obtain rfl : i = k := by simpa using hi
    rw [pre_succ (by simp only [List.length_cons] at hn; omega)]
    unfold wpOp
    rw [h0]
    simp only [wpStill] at h
    show if Region.wanted o (yielded ops a.tmps) = true then _ else _
    split
    · rename_i hw
      rw [if_pos hw] at h
      exact .inl (Oper.wp_of_still (fun a' hK => ⟨hS, ih a' hK⟩) h)
    · rename_i hw
      rw [if_neg hw] at h
      exact ⟨hS, ih _ h⟩
theorem wpAnyH_seg {w : World} {a : Act} (k m fuel : Nat) (hS : S w) (hl : (List.drop k ops.toList).length ≥ m) (hn : k + m ≤ n) (hz : ops.size = n) {M : List Nat} (hM : waits ops = M) (hr : soleM M n k m = true)
    (h : wpStill P ops w (fun a' => wpAnyH P .any ops Q S fuel (pre n (k + m)) a' w) ((ops.toList.drop k).take m) a) : wpAnyH P .any ops Q S (fuel + m) (pre n k) a w := by
  have e : ((ops.toList.drop k).take m).length = m := by rw [List.length_take]; omega
  have := wpAnyH_run (P := P) (Q := Q) (n := n) hS ((ops.toList.drop k).take m) k fuel a (fun j hj => by
    rw [List.getElem?_take_of_lt (by omega), List.getElem?_drop, Array.getElem?_toList]) (by omega) (fun j hj => soleM_at hz hM hn hr (by omega)) (by rw [e]; exact h)
  rw [e] at this
  exact this
theorem wpAnyH_start {w : World} {a : Act} (n : Nat) (hn : ops.size = n) (h : wpAnyH P .any ops Q S n (pre n 0) a w) : wpAnyH P .any ops Q S ops.size (Array.replicate ops.size false) a w := by
  rw [hn, pre_zero]; exact h
theorem wpAnyH_one {w : World} {a : Act} {i fuel : Nat} {o : Oper} (hi : i + 1 ≤ n) (ho : ops[i]? = some o) (hz : ops.size = n) {M : List Nat} (hM : waits ops = M) (hr : soleM M n i 1 = true)
    (h : ∀ K' : Act → World → Prop, Shut (∀ a w, S w → (S w → wpAnyH P .any ops Q S fuel (pre n (i + 1)) a w) → K' a w) → if Region.wanted o (yielded ops a.tmps) = true then Oper.wp P o a w K' Q else K' (a.put o.dst undef) w) :
    wpAnyH P .any ops Q S (fuel + 1) (pre n i) a w := by
  refine wpAnyH_ready (by simpa using soleM_at hz hM hi hr (Nat.zero_lt_one)) (by simp) (AllReadyH.cons ho (fun K' hK => h K' ?_) AllReadyH.nil)
  rw [pre_succ hi] at hK
  exact hK
theorem wpAnyH_load {w : World} {a : Act} {i fuel : Nat} {o : Oper} {v : Value} (hi : i < n) (ho : ops[i]? = some o) (hs : Region.noSelect ops = true) (hf : Region.free .any ops (pre n i) i = true) (hr : (Region.ready .any ops (pre n i)).contains i = true)
    (hQ : ∀ c a w, Q (.panic c) (a.put o.dst v) w → Q (.panic c) a w) (hy : YieldsIf P ops S o v a) (hS : S w) (h : wpAnyH P .any ops Q S fuel (pre n (i + 1)) (a.put o.dst v) w) :
    wpAnyH P .any ops Q S (fuel + 1) (pre n i) a w := by
  refine wpAnyH_take ho hs hf hr hQ hy hS ?_
  rw [pre_succ hi]; exact h
end
end Go.Proofs.YtgoidclnccjdeaaK
end
section
/- A region that draws its order, inside a round of a range over a function: by the laws of Derived/OrdersHeld. -/
namespace Go.Proofs.YtgoidclnccjdeaaK
open Go
set_option linter.unusedVariables false

structure WideF (F : Fence) : Prop where
  fn : ∀ f, F.fn f
  depth : F.depth = none
  calls : ∀ (n : Nat) (P : Program) (f : FuncId) (args : Array Value) (w : World) (R : Ending → World → Prop), Calls P f args w R → CallsIn F n P f args w R
  rows : ∀ (n : Nat) (P : Program) (row : String) (args : Array Value) (w : World) (R : Value → World → Prop), Rows P row args w R → RowsIn F n P row args w R
theorem wideF : WideF Fence.wide := ⟨fun _ => trivial, rfl, fun _ _ _ _ _ _ h => callsIn_wide.2 h, fun _ _ _ _ _ _ h c cs _ => let ⟨v, w', r, s⟩ := h c cs; ⟨v, w', r, stepsIn_wide.2 s⟩⟩
theorem wideF_round (l : Nat) : WideF (Fence.wide.inRound l) := ⟨fun _ => trivial, rfl, fun _ _ _ _ _ _ h => CallsIn.inRound l (callsIn_wide.2 h), fun _ _ _ _ _ _ h c cs _ => let ⟨v, w', r, s⟩ := h c cs; ⟨v, w', r, stepsIn_wide.2 s⟩⟩

section
variable {P : Program} {ops : Array Oper} {Q : Exit → Act → World → Prop} {S : World → Prop} {F : Fence} {n : Nat} {md : Region.Mode}
def plainOps (ops : Array Oper) : Bool := ops.all fun o => match o.op with | .defer _ => false | _ => true
theorem plainOps_at (h : plainOps ops = true) {i : Nat} {o : Oper} (ho : ops[i]? = some o) : ∀ c, o.op ≠ .defer c := by
  intro c hc
  have := (Array.all_eq_true.1 h) i (Array.getElem?_eq_some_iff.1 ho).1
  rw [(Array.getElem?_eq_some_iff.1 ho).2] at this
  rw [hc] at this
  cases this
theorem wpIn_of_wp {o : Oper} {a : Act} {w : World} {K : Act → World → Prop} (hF : WideF F) (hd : ∀ c, o.op ≠ .defer c) (h : o.wp P a w K Q) : o.wpIn F n P a w K Q := by
  unfold Oper.wpIn
  refine ⟨fun f _ => hF.fn f, ?_⟩
  rw [Oper.semAt_eq _ _ _ hd]
  unfold Oper.wp at h
  generalize (execOp a.eval o).run P w = r at h
  have hD : F.depth.isSome = true → 1 ≤ n := fun hx => by rw [hF.depth] at hx; simp at hx
  cases r with
  | ok x w' =>
    cases x with
    | value v => exact h
    | skip => exact h
    | defer d => exact h
    | enter f args => exact ⟨hD, hF.calls _ _ _ _ _ _ h⟩
    | row row args => exact ⟨hD, hF.rows _ _ _ _ _ _ h⟩
    | _ => exact h.elim
  | halt x w' => cases x <;> first | exact h | exact h.elim
theorem wpOpIn_of_wpOp (hF : WideF F) (hd : plainOps ops = true) (hL : ¬ LetsOut Q) {i : Nat} {K : Act → World → Prop} {a : Act} {w : World} (h : wpOp P ops Q i K a w) : wpOpIn F n P ops Q i K a w := by
  unfold wpOp at h
  unfold wpOpIn
  cases ho : ops[i]? with
  | none => rw [ho] at h; exact h
  | some o =>
    rw [ho] at h
    simp only at h ⊢
    split
    · next hw =>
      rw [if_pos hw] at h
      rcases h with h | ⟨_, h⟩
      · exact wpIn_of_wp hF (plainOps_at hd ho) h
      · exact absurd h hL
    · next hw =>
      rw [if_neg hw] at h
      exact ⟨fun f _ => hF.fn f, h⟩
def lateOp (md : Region.Mode) (ops : Array Oper) (T : List Nat) (j : Nat) : Bool := T.all fun i => i == j || (match ops[j]? with | some o => o.after.any fun e => e.on == i && Region.binds md e | none => false)
theorem lateOp_ready {T : List Nat} {j i : Nat} {listed : Array Bool} (hl : lateOp md ops T j = true) (hj : j ∈ Region.ready md ops listed) (hi : i ∈ T) (hij : i ≠ j) : listed.getD i false = true := by
  have h := List.all_eq_true.1 hl i hi
  rw [Bool.or_eq_true] at h
  rcases h with h | h
  · exact absurd (eq_of_beq h) hij
  · obtain ⟨_, oj, hoj, hall⟩ := mem_ready.1 hj
    rw [hoj] at h
    simp only [Array.any_eq_true'] at h
    obtain ⟨e, he, h2⟩ := h
    rw [Bool.and_eq_true] at h2
    have := hall e he h2.2
    rw [eq_of_beq h2.1] at this
    exact this
def keeps (md : Region.Mode) (ops : Array Oper) (S : World → Prop) (T : List Nat) (R : World → Prop) (U : List Nat) (j : Nat) (w w' : World) : Prop := ((S w → S w') ∨ lateOp md ops T j = true) ∧ ((R w → R w') ∨ lateOp md ops U j = true)
theorem keeps_same {T U : List Nat} {R : World → Prop} (j : Nat) (w : World) : keeps md ops S T R U j w w := ⟨.inl id, .inl id⟩
def wpAnyG (P : Program) (md : Region.Mode) (ops : Array Oper) (Q : Exit → Act → World → Prop) (S : World → Prop) (T : List Nat) (R : World → Prop) (U : List Nat) : Nat → Array Bool → Act → World → Prop
  | 0, listed, a, w => Region.ready md ops listed = [] ∧ Q .normal a w
  | fuel + 1, listed, a, w => (Region.ready md ops listed = [] → Q .normal a w) ∧ ∀ i ∈ Region.ready md ops listed, wpOp P ops Q i (fun a' w' => keeps md ops S T R U i w w' ∧ wpAnyG P md ops Q S T R U fuel (listed.setIfInBounds i true) a' w') a w
section
variable {T U : List Nat} {R : World → Prop}
theorem wpAnyG_first {i : Nat} {oi : Oper} {v : Value} {Z : World → Prop} {X : List Nat} (hZ : ∀ j w w', keeps md ops S T R U j w w' → (Z w → Z w') ∨ lateOp md ops X j = true) (hi : ops[i]? = some oi) (hT : i ∈ X) (hsel : ∀ (j : Nat) (o : Oper) cs b, ops[j]? = some o → o.op ≠ .select cs b) (hQ : ∀ c a w, Q (.panic c) (a.put oi.dst v) w → Q (.panic c) a w) :
    ∀ (fuel : Nat) (listed : Array Bool) (a : Act) (w : World), listed.size = ops.size →
      (∀ j oj, ops[j]? = some oj → j ≠ i → listed.getD j true = false → (∀ e ∈ oj.after, Region.binds md e = true → e.on ≠ i) → oi.apart ops oj = true) →
      i ∈ Region.ready md ops listed → YieldsIf P ops Z oi v a → Z w →
      wpAnyG P md ops Q S T R U fuel (listed.setIfInBounds i true) (a.put oi.dst v) w → wpAnyG P md ops Q S T R U (fuel + 1) listed a w := by
  have hio : i < ops.size := (Array.getElem?_eq_some_iff.1 hi).1
  intro fuel
  induction fuel with
  | zero =>
    intro listed a w hsz _ hr hy hS H
    refine ⟨fun h => absurd hr (by rw [h]; simp), fun j hj => ?_⟩
    by_cases hji : j = i
    · subst hji; exact hy.wpOp hi hS ⟨keeps_same _ _, H⟩
    · exact absurd (ready_mono hj hji) (by rw [H.1]; simp)
  | succ fuel ih =>
    intro listed a w hsz hfree hr hy hS H
    refine ⟨fun h => absurd hr (by rw [h]; simp), fun j hj => ?_⟩
    by_cases hji : j = i
    · subst hji; exact hy.wpOp hi hS ⟨keeps_same _ _, H⟩
    · obtain ⟨hju, oj, hoj, hall⟩ := mem_ready.1 hj
      have hiu := (mem_ready.1 hr).1
      have hi1 : listed.getD i false = false := by
        have hil : i < listed.size := by omega
        simp [hil] at hiu ⊢
        exact hiu
      have hno : ∀ e ∈ oj.after, Region.binds md e = true → e.on ≠ i := fun e he hb heq => by
        have := hall e he hb
        rw [heq, hi1] at this
        cases this
      have h1 := wpOp_putIf hoj (hfree j oj hoj hji hju hno) (fun cs b => hsel i oi cs b hi) (fun cs b => hsel j oj cs b hoj) hQ hy (H.2 j (ready_mono hj hji))
      have hf2 : ∀ k ok, ops[k]? = some ok → k ≠ i → (listed.setIfInBounds j true).getD k true = false → (∀ e ∈ ok.after, Region.binds md e = true → e.on ≠ i) → oi.apart ops ok = true := fun k ok hk hki hun hno => by
        refine hfree k ok hk hki ?_ hno
        by_cases hjk : j = k
        · subst hjk; exact hju
        · rwa [getD_set_ne true hjk] at hun
      refine wpOp_mono (fun a' w' h3 => ?_) h1
      obtain ⟨hy', hs', h3⟩ := h3
      rcases hZ _ _ _ hs' with hz | hz
      · refine ⟨hs', ih _ a' w' (by simp [hsz]) hf2 (ready_mono hr (Ne.symm hji)) hy' (hz hS) ?_⟩
        rw [Array.setIfInBounds_comm _ _ hji]
        exact h3
      · rw [lateOp_ready hz hj hT (Ne.symm hji)] at hi1
        cases hi1
theorem wpAnyG_take {i : Nat} {oi : Oper} {v : Value} {fuel : Nat} {listed : Array Bool} {a : Act} {w : World} (hi : ops[i]? = some oi) (hsz : listed.size = ops.size) (hT : T.contains i = true)
    (hs : Region.noSelect ops = true) (hf : Region.free md ops listed i = true) (hr : (Region.ready md ops listed).contains i = true)
    (hQ : ∀ c a w, Q (.panic c) (a.put oi.dst v) w → Q (.panic c) a w) (hy : YieldsIf P ops S oi v a) (hS : S w)
    (h : wpAnyG P md ops Q S T R U fuel (listed.setIfInBounds i true) (a.put oi.dst v) w) : wpAnyG P md ops Q S T R U (fuel + 1) listed a w :=
  wpAnyG_first (fun _ _ _ h => h.1) hi (by simpa using hT) (Region.noSelect_spec hs) hQ fuel listed a w hsz (Region.free_spec hi hf) (by simpa using hr) hy hS h
theorem wpAnyG_takeR {i : Nat} {oi : Oper} {v : Value} {fuel : Nat} {listed : Array Bool} {a : Act} {w : World} (hi : ops[i]? = some oi) (hsz : listed.size = ops.size) (hT : U.contains i = true)
    (hs : Region.noSelect ops = true) (hf : Region.free md ops listed i = true) (hr : (Region.ready md ops listed).contains i = true)
    (hQ : ∀ c a w, Q (.panic c) (a.put oi.dst v) w → Q (.panic c) a w) (hy : YieldsIf P ops R oi v a) (hS : R w)
    (h : wpAnyG P md ops Q S T R U fuel (listed.setIfInBounds i true) (a.put oi.dst v) w) : wpAnyG P md ops Q S T R U (fuel + 1) listed a w :=
  wpAnyG_first (fun _ _ _ h => h.2) hi (by simpa using hT) (Region.noSelect_spec hs) hQ fuel listed a w hsz (Region.free_spec hi hf) (by simpa using hr) hy hS h
theorem wpAnyG_done {listed : Array Bool} {a : Act} {w : World} (hr : Region.ready md ops listed = []) (h : Q .normal a w) : ∀ fuel, wpAnyG P md ops Q S T R U fuel listed a w
  | 0 => ⟨hr, h⟩
  | _ + 1 => ⟨fun _ => h, by rw [hr]; simp⟩
theorem wpAnyG_op {i : Nat} {o : Oper} {fuel : Nat} {listed : Array Bool} {a : Act} {w : World} (hr : Region.ready md ops listed = [i]) (ho : ops[i]? = some o)
    (h : ∀ K' : Act → World → Prop, (∀ a w', keeps md ops S T R U i w w' → wpAnyG P md ops Q S T R U fuel (listed.setIfInBounds i true) a w' → K' a w') → if Region.wanted o (yielded ops a.tmps) = true then Oper.wp P o a w K' Q else K' (a.put o.dst undef) w) :
    wpAnyG P md ops Q S T R U (fuel + 1) listed a w := by
  refine ⟨fun h0 => absurd (hr ▸ h0) (by simp), fun j hj => ?_⟩
  rw [hr] at hj
  obtain rfl : j = i := by simpa using hj
  have h1 := h (fun a' w' => keeps md ops S T R U j w w' ∧ wpAnyG P md ops Q S T R U fuel (listed.setIfInBounds j true) a' w') (fun a' w' hS hW => ⟨hS, hW⟩)
  unfold wpOp
  rw [ho]
  simp only
  split
  · next hw => rw [if_pos hw] at h1; exact .inl h1
  · next hw => rw [if_neg hw] at h1; exact h1
theorem wpAnyG_only {i : Nat} {o : Oper} {fuel : Nat} {listed : Array Bool} {a : Act} {w : World} (hr : Region.ready md ops listed = [i]) (ho : ops[i]? = some o)
    (h : ∀ K' : Act → World → Prop, Shut (∀ a w', S w' → R w' → (S w' → R w' → wpAnyG P md ops Q S T R U fuel (listed.setIfInBounds i true) a w') → K' a w') → if Region.wanted o (yielded ops a.tmps) = true then Oper.wp P o a w K' Q else K' (a.put o.dst undef) w) :
    wpAnyG P md ops Q S T R U (fuel + 1) listed a w :=
  wpAnyG_op hr ho fun K' hK => h K' (fun a' w' hs hr' hW => hK a' w' ⟨.inl fun _ => hs, .inl fun _ => hr'⟩ (hW hs hr'))
theorem wpAnyG_two {i j : Nat} {o o' : Oper} {fuel : Nat} {listed : Array Bool} {a : Act} {w : World} (hr : Region.ready md ops listed = [i, j]) (ho : ops[i]? = some o) (ho' : ops[j]? = some o')
    (h : ∀ K' : Act → World → Prop, Shut (∀ a w', S w' → R w' → (S w' → R w' → wpAnyG P md ops Q S T R U fuel (listed.setIfInBounds i true) a w') → K' a w') → if Region.wanted o (yielded ops a.tmps) = true then Oper.wp P o a w K' Q else K' (a.put o.dst undef) w)
    (h' : ∀ K' : Act → World → Prop, Shut (∀ a w', S w' → R w' → (S w' → R w' → wpAnyG P md ops Q S T R U fuel (listed.setIfInBounds j true) a w') → K' a w') → if Region.wanted o' (yielded ops a.tmps) = true then Oper.wp P o' a w K' Q else K' (a.put o'.dst undef) w) :
    wpAnyG P md ops Q S T R U (fuel + 1) listed a w := by
  refine ⟨fun h0 => absurd (hr ▸ h0) (by simp), fun k hk => ?_⟩
  rw [hr] at hk
  have hk' : k = i ∨ k = j := by simpa using hk
  unfold wpOp
  rcases hk' with rfl | rfl
  · have h1 := h (fun a' w' => keeps md ops S T R U k w w' ∧ wpAnyG P md ops Q S T R U fuel (listed.setIfInBounds k true) a' w') (fun a' w' hs hr' hW => ⟨⟨.inl fun _ => hs, .inl fun _ => hr'⟩, hW hs hr'⟩)
    rw [ho]
    simp only
    split
    · next hw => rw [if_pos hw] at h1; exact .inl h1
    · next hw => rw [if_neg hw] at h1; exact h1
  · have h1 := h' (fun a' w' => keeps md ops S T R U k w w' ∧ wpAnyG P md ops Q S T R U fuel (listed.setIfInBounds k true) a' w') (fun a' w' hs hr' hW => ⟨⟨.inl fun _ => hs, .inl fun _ => hr'⟩, hW hs hr'⟩)
    rw [ho']
    simp only
    split
    · next hw => rw [if_pos hw] at h1; exact .inl h1
    · next hw => rw [if_neg hw] at h1; exact h1
theorem wpAnyG_late {i : Nat} {o : Oper} {fuel : Nat} {listed : Array Bool} {a : Act} {w : World} (hr : Region.ready md ops listed = [i]) (ho : ops[i]? = some o) (hl : lateOp md ops T i = true)
    (h : ∀ K' : Act → World → Prop, Shut (∀ a w', R w' → (R w' → wpAnyG P md ops Q S T R U fuel (listed.setIfInBounds i true) a w') → K' a w') → if Region.wanted o (yielded ops a.tmps) = true then Oper.wp P o a w K' Q else K' (a.put o.dst undef) w) :
    wpAnyG P md ops Q S T R U (fuel + 1) listed a w :=
  wpAnyG_op hr ho fun K' hK => h K' (fun a' w' hr' hW => hK a' w' ⟨.inr hl, .inl fun _ => hr'⟩ (hW hr'))
theorem wpAnyG_last {i : Nat} {o : Oper} {fuel : Nat} {listed : Array Bool} {a : Act} {w : World} (hr : Region.ready md ops listed = [i]) (ho : ops[i]? = some o) (hl : lateOp md ops T i = true) (hu : lateOp md ops U i = true)
    (h : ∀ K' : Act → World → Prop, Shut (∀ a w', wpAnyG P md ops Q S T R U fuel (listed.setIfInBounds i true) a w' → K' a w') → if Region.wanted o (yielded ops a.tmps) = true then Oper.wp P o a w K' Q else K' (a.put o.dst undef) w) :
    wpAnyG P md ops Q S T R U (fuel + 1) listed a w :=
  wpAnyG_op hr ho fun K' hK => h K' (fun a' w' hW => hK a' w' ⟨.inr hl, .inr hu⟩ hW)
theorem wpAny_of_G : ∀ (fuel : Nat) (listed : Array Bool) (a : Act) (w : World), wpAnyG P md ops Q S T R U fuel listed a w → wpAny P md ops Q fuel listed a w
  | 0, _, _, _, h => h
  | fuel + 1, _, _, _, h => ⟨h.1, fun i hi => wpOp_mono (fun a' w' h' => wpAny_of_G fuel _ a' w' h'.2) (h.2 i hi)⟩
theorem wpAnyIn_of_G (hF : WideF F) (hd : plainOps ops = true) (hL : ¬ LetsOut Q) : ∀ (fuel : Nat) (listed : Array Bool) (a : Act) (w : World), wpAnyG P md ops Q S T R U fuel listed a w → wpAnyIn F n P md ops Q fuel listed a w
  | 0, _, _, _, h => h
  | fuel + 1, _, _, _, h => ⟨h.1, fun i hi => wpOpIn_mono (fun a' w' h' => wpAnyIn_of_G hF hd hL fuel _ a' w' h'.2) (wpOpIn_of_wpOp hF hd hL (h.2 i hi))⟩
end
theorem wpIn_region_G (T : List Nat) {id : Nat} {a : Act} {w : World} (hF : WideF F) (hm : P.follows .mixedOrders = true) (hd : plainOps ops = true) (hL : ¬ LetsOut Q) (hS : S w.drew)
    (h : S w.drew → wpAnyG P .any ops Q S T (fun _ => True) [] ops.size (Array.replicate ops.size false) a w.drew) : (Code.region id ops true).wpIn F n P Q a w :=
  wpIn_region_any hm (wpAnyIn_of_G hF hd hL _ _ _ _ (h hS))
theorem wpIn_region_G2 (T U : List Nat) {R : World → Prop} {id : Nat} {a : Act} {w : World} (hF : WideF F) (hm : P.follows .mixedOrders = true) (hd : plainOps ops = true) (hL : ¬ LetsOut Q) (hS : S w.drew) (hR : R w.drew)
    (h : S w.drew → R w.drew → wpAnyG P .any ops Q S T R U ops.size (Array.replicate ops.size false) a w.drew) : (Code.region id ops true).wpIn F n P Q a w :=
  wpIn_region_any hm (wpAnyIn_of_G hF hd hL _ _ _ _ (h hS hR))
theorem wp_region_G (T : List Nat) {id : Nat} {a : Act} {w : World} (hm : P.follows .mixedOrders = true) (hS : S w.drew)
    (h : S w.drew → wpAnyG P .any ops Q S T (fun _ => True) [] ops.size (Array.replicate ops.size false) a w.drew) : (Code.region id ops true).wp P Q a w :=
  wp_region_any hm (wpAny_of_G _ _ _ _ (h hS))
end
def calm (Q : Exit → Act → World → Prop) : Exit → Act → World → Prop
  | .normal, a, w => Q .normal a w
  | .ret, a, w => Q .ret a w
  | .exit i, a, w => Q (.exit i) a w
  | .goto i, a, w => Q (.goto i) a w
  | .panic _, _, _ => False
  | .outgrown, _, _ => False
theorem wpIn_calm {F : Fence} {n : Nat} {P : Program} {c : Code} {Q : Exit → Act → World → Prop} {a : Act} {w : World} (h : c.wpIn F n P (calm Q) a w) : c.wpIn F n P Q a w :=
  wpIn_mono h (fun e a w hq => by cases e <;> first | exact hq | exact hq.elim)
def endQ (R : Act → World → Prop) : Exit → Act → World → Prop
  | .normal, a, w => R a w
  | _, _, _ => False
section
variable {P : Program} {ops : Array Oper} {Q : Exit → Act → World → Prop} {S R : World → Prop} {md : Region.Mode} {T U : List Nat} {oi : Oper} {v : Value} {fuel : Nat} {listed : Array Bool} {a a' : Act} {w : World}
theorem takeG (i : Nat) (h : wpAnyG P md ops Q S T R U fuel (listed.setIfInBounds i true) a' w) (hi : ops[i]? = some oi := by rfl) (hsz : listed.size = ops.size := by kernel_rfl) (hT : T.contains i = true := by kernel_rfl)
    (hs : Region.noSelect ops = true := by kernel_rfl) (hf : Region.free md ops listed i = true := by kernel_rfl) (hr : (Region.ready md ops listed).contains i = true := by kernel_rfl)
    (hw : Region.wanted oi (yielded ops a.tmps) = true := by rfl) (hy : ∀ w, S w → (execOp a.eval oi).run P w = .ok (.value v) w := by (intro w hSw; (try dsimp only at hSw); go_simp; (try with_reducible rfl)))
    (hQ : ∀ c a w, Q (.panic c) (a.put oi.dst v) w → Q (.panic c) a w := by exact fun _ _ _ h => h) (hS : S w := by assumption)
    (ha : a.put oi.dst v = a' := by ((try simp only [Act.put, List.getElem_toArray, List.getElem_cons_zero, List.getElem_cons_succ, List.setIfInBounds_toArray, List.set_cons_zero, List.set_cons_succ]); (try rfl))) : wpAnyG P md ops Q S T R U (fuel + 1) listed a w := by
  subst ha
  exact wpAnyG_take hi hsz hT hs hf hr hQ (.inl ⟨hw, hy⟩) hS h
theorem takeRG (i : Nat) (h : wpAnyG P md ops Q S T R U fuel (listed.setIfInBounds i true) a' w) (hi : ops[i]? = some oi := by rfl) (hsz : listed.size = ops.size := by kernel_rfl) (hT : U.contains i = true := by kernel_rfl)
    (hs : Region.noSelect ops = true := by kernel_rfl) (hf : Region.free md ops listed i = true := by kernel_rfl) (hr : (Region.ready md ops listed).contains i = true := by kernel_rfl)
    (hw : Region.wanted oi (yielded ops a.tmps) = true := by rfl) (hy : ∀ w, R w → (execOp a.eval oi).run P w = .ok (.value v) w := by (intro w hSw; (try dsimp only at hSw); go_simp; (try with_reducible rfl)))
    (hQ : ∀ c a w, Q (.panic c) (a.put oi.dst v) w → Q (.panic c) a w := by exact fun _ _ _ h => h) (hS : R w := by assumption)
    (ha : a.put oi.dst v = a' := by ((try simp only [Act.put, List.getElem_toArray, List.getElem_cons_zero, List.getElem_cons_succ, List.setIfInBounds_toArray, List.set_cons_zero, List.set_cons_succ]); (try rfl))) : wpAnyG P md ops Q S T R U (fuel + 1) listed a w := by
  subst ha
  exact wpAnyG_takeR hi hsz hT hs hf hr hQ (.inl ⟨hw, hy⟩) hS h
theorem skipG (i : Nat) (h : wpAnyG P md ops Q S T R U fuel (listed.setIfInBounds i true) a' w) (hi : ops[i]? = some oi := by rfl) (hsz : listed.size = ops.size := by kernel_rfl) (hT : T.contains i = true := by kernel_rfl)
    (hs : Region.noSelect ops = true := by kernel_rfl) (hf : Region.free md ops listed i = true := by kernel_rfl) (hr : (Region.ready md ops listed).contains i = true := by kernel_rfl)
    (hw : Region.wanted oi (yielded ops a.tmps) = false := by rfl)
    (hQ : ∀ c a w, Q (.panic c) (a.put oi.dst undef) w → Q (.panic c) a w := by exact fun _ _ _ h => h) (hS : S w := by assumption)
    (ha : a.put oi.dst undef = a' := by ((try simp only [Act.put, List.getElem_toArray, List.getElem_cons_zero, List.getElem_cons_succ, List.setIfInBounds_toArray, List.set_cons_zero, List.set_cons_succ]); (try rfl))) : wpAnyG P md ops Q S T R U (fuel + 1) listed a w := by
  subst ha
  exact wpAnyG_take hi hsz hT hs hf hr hQ (.inr ⟨hw, rfl⟩) hS h
theorem putG (h : wpAnyG P md ops Q S T R U fuel listed a' w) (ha : a = a' := by ((try simp only [Act.put, List.getElem_toArray, List.getElem_cons_zero, List.getElem_cons_succ, List.setIfInBounds_toArray, List.set_cons_zero, List.set_cons_succ]); (try rfl))) : wpAnyG P md ops Q S T R U fuel listed a w := ha ▸ h
theorem doneG (h : Q .normal a' w) (hr : Region.ready md ops listed = [] := by kernel_rfl) (ha : a = a' := by ((try simp only [Act.put, List.getElem_toArray, List.getElem_cons_zero, List.getElem_cons_succ, List.setIfInBounds_toArray, List.set_cons_zero, List.set_cons_succ]); (try rfl))) : wpAnyG P md ops Q S T R U fuel listed a w := wpAnyG_done hr (ha ▸ h) fuel
end
end Go.Proofs.YtgoidclnccjdeaaK
end
section
/- Package glass: hull. -/
namespace Go.Proofs.Ytgoidclnccjdeaa.D
open Go Go.RowKit Go.Proofs.YtgoidclnccjdeaaK Go.Proofs.YtgoidclnccjdeaaW.PrintWords Go.Proofs.YtgoidclnccjdeaaW.PrintLast Go.Proofs.YtgoidclnccjdeaaW.PrintMore Go.Proofs.Ytgoidclnccjdeaa.PR Go.Proofs.Ytgoidclnccjdeaa.M
set_option linter.unusedVariables false
set_option linter.unusedSimpArgs false
attribute [local go_sem] Oper.semAt_some

def minF (l : List (List Int)) (k : Nat) : Int := l.foldl (fun s x => if fn x k < s then fn x k else s) 61
def maxF (l : List (List Int)) (k : Nat) : Int := l.foldl (fun s x => if s < fn x k then fn x k else s) (-1)
theorem minF_snoc (l : List (List Int)) (x : List Int) (k : Nat) : minF (l ++ [x]) k = if fn x k < minF l k then fn x k else minF l k := by simp [minF]
theorem maxF_snoc (l : List (List Int)) (x : List Int) (k : Nat) : maxF (l ++ [x]) k = if maxF l k < fn x k then fn x k else maxF l k := by simp [maxF]

set_option maxRecDepth 100000 in
set_option maxHeartbeats 1000000 in
theorem hull_calls (w0 W : World) (D : Dat) (A0 : Option Addr) (c0 : Nat) (A3 : Option Addr) (c3 : Nat) (A4 : Option Addr) (c4 : Nat) (but b k : Nat)
    (hA : Arg w0 D A0 c0 A3 c3 A4 c4) (hV : Valid D) (hbut : but < 2 ^ 62) (hk : k < 8) (h : Sh w0 W D A0 c0 A3 c3 A4 c4 but b) :
    Calls Try.prog 91 #[.pointer (some ⟨b, 0, none⟩), .int .i64 k] W
      fun e W' => e = .returned (.agg #[.int .i64 (minF (truthsL D but) k), .int .i64 (maxF (truthsL D but) k)]) ∧ Chg (fun _ => False) W W' ∧ Sh w0 W' D A0 c0 A3 c3 A4 c4 but b := by
  have H := Aside0.mk h
  have hb0 := blk_lt h.sh
  clear h
  refine (callsIn_wide (n := 0)).1 ?_
  refine callsIn_of_wp_marks Try.func91 rfl trivial ?_
  simp only [Try.ntmps91, List.size_toArray, List.length_cons, List.length_nil, Nat.reduceAdd, Nat.reduceSub, Array.replicate_succ, Array.replicate_zero, List.push_toArray, List.append_toArray, List.nil_append, List.cons_append]
  gi_wp2_with (refine ⟨trivial, rfl, ?_⟩; gi_at_call 96; refine (callsIn_wide.2 (truths_calls _ b)).mono ?_; rintro e w1 ⟨rfl, rfl⟩)
  obtain ⟨V1, hV1⟩ : ∃ V1, ((((W.alloc (.cells #[.int .i64 k] 3)).alloc (.cells #[.int .i64 0, .int .i64 0] 24)).alloc (.cells #[.int .i64 61, .int .i64 (-1)] 24)).alloc (.cells #[.pointer (some ⟨b, 0, none⟩)] 110)) = V1 := ⟨_, rfl⟩
  have hch : Chg (fun _ => False) W V1 := by rw [← hV1]; exact ((((Chg.refl _ W).alloc _).alloc _).alloc _).alloc _
  have HBk : Aside0 (V1.heap[W.heap.size]? = some (.cells #[.int .i64 k] 3 (0, 0))) := ⟨by rw [← hV1]; exact blk_alloc (blk_alloc (blk_alloc (blk_new _ _) _) _) _⟩
  have HBr : Aside0 (V1.heap[W.heap.size + 1]? = some (.cells #[.int .i64 0, .int .i64 0] 24 (0, 0))) := ⟨by rw [← hV1]; exact blk_alloc (blk_alloc (new_at (by simp) _) _) _⟩
  have HBh : Aside0 (V1.heap[W.heap.size + 1 + 1]? = some (.cells #[.int .i64 61, .int .i64 (-1)] 24 (0, 0))) := ⟨by rw [← hV1]; exact blk_alloc (new_at (by simp) _) _⟩
  have HBs : Aside0 (V1.heap[W.heap.size + 1 + 1 + 1]? = some (.cells #[.pointer (some ⟨b, 0, none⟩)] 110 (0, 0))) := ⟨by rw [← hV1]; exact new_at (by simp) _⟩
  rw [hV1]
  have HC1 := Aside0.mk hch
  clear hch hV1
  obtain ⟨B, hB⟩ : ∃ B, W.heap.size = B := ⟨_, rfl⟩
  rw [hB] at HBk HBr HBh HBs hb0 ⊢
  have HOk : Aside0 (Ok w0 D A0 c0 A3 c3 A4 c4 but b (B + 1 + 1 + 1) V1) := ⟨H.out.chg HC1.out (fun _ x => x.elim), HBs.out⟩
  have z2 := blk_lt HBs.out
  have zb := H.out.base.size
  refine rangeFunc (gf := 127) (lb := #[.pointer (some ⟨B + 1 + 1 + 1, 0, none⟩)]) rfl enters_truthsC (truthsC_iter w0 V1 D A0 c0 A3 c3 A4 c4 but b (B + 1 + 1 + 1) hA hV hbut ⟨by omega, z2, by omega⟩) (fun _ => rfl)
    (fun pre Fp V => Fp = (fun k => k = B + 1 + 1) ∧ V.heap[B]? = some (.cells #[.int .i64 k] 3 (0, 0)) ∧ V.heap[B + 1]? = some (.cells #[.int .i64 0, .int .i64 0] 24 (0, 0)) ∧ V.heap[B + 1 + 1]? = some (.cells #[.int .i64 (minF pre k), .int .i64 (maxF pre k)] 24 (0, 0)) ∧ Chg (fun _ => False) W V)
    (fun c pre V => False)
    (fun k => k = B + 1 + 1) (fun k e => e.elim) (fun A C ho hc => ho.chg hc (fun k hk => by omega)) ?_ (fun c pre A B h => h.elim) ⟨rfl, HBk.out, HBr.out, HBh.out, HC1.out⟩ (fun k e => by omega) HOk.out ?_ ?_ (fun c pre V _ h => h.elim)
  · rintro pre Fp A C ⟨rfl, h2, h3, h4, h6⟩ hc hok
    refine ⟨rfl, hc.heap h2 (fun e => e.elim id (fun e => by omega)), hc.heap h3 (fun e => e.elim id (fun e => by omega)), hc.heap h4 (fun e => e.elim id (fun e => by omega)), h6.then_ hc (fun k hk hx => hx.elim (fun x => x.elim) (fun x => by omega))⟩
  · rintro l pre x Fp V hl1 hl2 hfl hFp hpre hI hok
    dsimp only [encT]
    gi_wp2
    have HX0 : Aside0 ((V.alloc (.cells (vec8 (fn x)) 126)).heap[V.heap.size]? = some (.cells (vec8 (fn x)) 126 (0, 0))) := ⟨blk_new _ _⟩
    refine ⟨(Chg.refl _ _).alloc _, ?_⟩
    clear hI hok
    rintro V3 hc3 hs3 ⟨rfl, h2, h3, h4, h6⟩ hok
    have HX := Aside0.mk (hc3.heap HX0.out (by omega))
    clear HX0 hc3
    obtain ⟨Bx, hBx⟩ : ∃ Bx, V.heap.size = Bx := ⟨_, rfl⟩
    have z5 : B + 1 + 1 < Bx := by have := hFp (B + 1 + 1) rfl; omega
    clear hFp hs3
    rw [hBx] at HX ⊢
    clear hBx
    have HM : Aside0 (minF (pre ++ [x]) k = if fn x k < minF pre k then fn x k else minF pre k) := ⟨minF_snoc _ _ _⟩
    have HMx : Aside0 (maxF (pre ++ [x]) k = if maxF pre k < fn x k then fn x k else maxF pre k) := ⟨maxF_snoc _ _ _⟩
    obtain ⟨gx, hgx⟩ : ∃ gx, fn x = gx := ⟨_, rfl⟩
    rw [hgx] at HX HM HMx
    clear hgx
    have H2 := Aside0.mk h2
    have H3 := Aside0.mk h3
    have H4 := Aside0.mk h4
    have H6 := Aside0.mk h6
    have HK := Aside0.mk hok
    clear h2 h3 h4 h6 hok
    obtain ⟨mn0, hmn⟩ : ∃ m, minF pre k = m := ⟨_, rfl⟩
    obtain ⟨mx0, hmx⟩ : ∃ m, maxF pre k = m := ⟨_, rfl⟩
    rw [hmn] at HM H4
    rw [hmx] at HMx H4
    have x0 : V3.cell? ⟨Bx, k, none⟩ = some (.int .i64 (gx k)) := (blk_cell HX.out k).trans (vec_get gx k hk)
    have lx := blk_lt HX.out
    have k0 : V3.cell? ⟨B, 0, none⟩ = some (.int .i64 k) := (blk_cell H2.out 0).trans rfl
    have h0 : V3.cell? ⟨B + 1 + 1, 0, none⟩ = some (.int .i64 mn0) := (blk_cell H4.out 0).trans rfl
    have h1 : V3.cell? ⟨B + 1 + 1, 1, none⟩ = some (.int .i64 mx0) := (blk_cell H4.out 1).trans rfl
    have f0 := blk_frozen H4.out 0
    have f1 := blk_frozen H4.out 1
    have lh := blk_lt H4.out
    have lk := blk_lt H2.out
    have hk8 : (k : Int) < 8 := by omega
    obtain ⟨gk, hgk⟩ : ∃ g, gx k = g := ⟨_, rfl⟩
    rw [hgk] at x0 HM HMx
    clear hgk hmn hmx
    gi_wp2
    refine wpIn_region_G (List.range 13) (S := fun w' : World => w'.cell? ⟨Bx, k, none⟩ = some (.int .i64 gk) ∧ w'.cell? ⟨B, 0, none⟩ = some (.int .i64 k) ∧ w'.cell? ⟨B + 1 + 1, 0, none⟩ = some (.int .i64 mn0) ∧ w'.cell? ⟨B + 1 + 1, 1, none⟩ = some (.int .i64 mx0)) (wideF_round l) (by kernel_rfl) (by kernel_rfl) (by rintro ⟨_, _, x⟩; exact x) ⟨x0, k0, h0, h1⟩ (fun hHeld => ?_)
    refine takeG 0 ?_
    refine takeG 1 ?_
    refine takeG 2 ?_
    refine takeG 3 ?_
    refine takeG 4 ?_
    refine takeG 5 ?_
    refine takeG 6 ?_
    refine takeG 7 ?_
    refine takeG 8 ?_
    refine takeG 9 ?_
    refine takeG 10 ?_
    refine takeG 11 ?_
    refine takeG 12 ?_
    refine wpAnyG_last (i := 13) (by kernel_rfl) rfl (by kernel_rfl) (by kernel_rfl) (fun K hK => ?_)
    go_simp
    refine hK.out _ _ ?_
    clear hK K
    refine doneG ?_
    generalize (if gk < mn0 then gk else mn0) = mn1 at HM ⊢
    generalize (if mx0 < gk then gk else mx0) = mx1 at HMx ⊢
    gi_wp2
    have HT : Aside0 (Chg (fun k => k = B + 1 + 1) V3 ((V3.setCell ⟨B + 1 + 1, 0, none⟩ (.int .i64 mn1)).setCell ⟨B + 1 + 1, 1, none⟩ (.int .i64 mx1)).drew) := ⟨(((Chg.refl (fun k => k = B + 1 + 1) V3).setCell (p := ⟨B + 1 + 1, 0, none⟩) (fun _ => rfl) _).setCell (p := ⟨B + 1 + 1, 1, none⟩) (fun _ => rfl) _).drew⟩
    exact ⟨_, ⟨rfl, HT.out.heap H2.out (by omega), HT.out.heap H3.out (by omega), by rw [HM.out, HMx.out]; exact blk_drew (blk_set (blk_set H4.out 0 _) 1 _), H6.out.then_ HT.out (fun k hk e => by omega)⟩, HT.out, HK.out.chg HT.out (fun k e => by omega), fun j e => ⟨by have := HT.out.size; omega, fun _ => e⟩⟩
  · rintro Fp V ⟨rfl, h2, h3, h4, h6⟩ hok hfD hD hsz
    have H3 := Aside0.mk h3
    have H4 := Aside0.mk h4
    have H6 := Aside0.mk h6
    have HK := Aside0.mk hok
    have HD := Aside0.mk hD
    obtain ⟨mn0, hmn⟩ : ∃ m, minF (truthsL D but) k = m := ⟨_, rfl⟩
    obtain ⟨mx0, hmx⟩ : ∃ m, maxF (truthsL D but) k = m := ⟨_, rfl⟩
    rw [hmn, hmx] at H4
    have HMM := Aside0.mk (And.intro hmn hmx)
    clear h2 h3 h4 h6 hok hfD hD hmn hmx
    have a0 : V.cell? ⟨B + 1 + 1, 0, none⟩ = some (.int .i64 mn0) := (blk_cell H4.out 0).trans rfl
    have a1 : V.cell? ⟨B + 1 + 1, 1, none⟩ = some (.int .i64 mx0) := (blk_cell H4.out 1).trans rfl
    have b0 : V.cell? ⟨B + 1, 0, none⟩ = some (.int .i64 0) := (blk_cell H3.out 0).trans rfl
    have b1 : V.cell? ⟨B + 1, 1, none⟩ = some (.int .i64 0) := (blk_cell H3.out 1).trans rfl
    have f0 := blk_frozen H3.out 0
    have f1 := blk_frozen H3.out 1
    have l3 := blk_lt H3.out
    have l4 := blk_lt H4.out
    gi_wp2
    have HB := Aside0.mk (blk_set (blk_set H3.out 0 (.int .i64 mn0)) 1 (.int .i64 mx0))
    have HC : Aside0 (Chg (fun k => k = B + 1) V ((V.setCell ⟨B + 1, 0, none⟩ (.int .i64 mn0)).setCell ⟨B + 1, 1, none⟩ (.int .i64 mx0))) := ⟨((Chg.refl (fun k => k = B + 1) V).setCell (p := ⟨B + 1, 0, none⟩) (fun _ => rfl) _).setCell (p := ⟨B + 1, 1, none⟩) (fun _ => rfl) _⟩
    generalize (V.setCell ⟨B + 1, 0, none⟩ (.int .i64 mn0)).setCell ⟨B + 1, 1, none⟩ (.int .i64 mx0) = V2 at HB HC ⊢
    have z9 := blk_lt HB.out
    have HD2 := Aside0.mk (HC.out.heap HD.out (by omega))
    have HC2 := Aside0.mk ((HC.out.mono (S' := fun k => k = B + 1 ∨ k = V1.heap.size) (fun k _ e => .inl e)).putObj (l := V1.heap.size) (fun _ => .inr rfl) (.deferred none))
    refine leave_mark HD2.out (v := .agg #[.int .i64 mn0, .int .i64 mx0]) (results_cell_row rfl _ _ (B + 1) 24 _ (0, 0) _ rfl ((World.putObj_heap_other (by omega)).trans HB.out) Try.underlying24 rfl info24s) ⟨by rw [HMM.out.1, HMM.out.2], H6.out.then_ HC2.out (fun k hk e => by omega), HK.out.s.chg HC2.out (fun k e => by omega)⟩

end Go.Proofs.Ytgoidclnccjdeaa.D
end
section
/- Results that lie partly in cells. -/
namespace Go.Proofs.YtgoidclnccjdeaaK
open Go Go.RowKit
set_option linter.unusedVariables false
set_option linter.unusedSimpArgs false

theorem results_row_tmp {P : Program} {fn : Func} {p q : Tmp} {ty : TypeId} (h : fn.results = #[.cell p ty, .tmp q]) (tmps : Array Value) (w : World) (g : Nat) (t : TypeId) (cs : Array Value) (fr : Nat × Nat) (d : TypeDesc) (v : Value)
    (hp : tmps.getD p undef = .pointer (some ⟨g, 0, none⟩)) (hg : w.heap[g]? = some (.cells cs t fr))
    (hu : P.underlying ty = some d) (hd : (match d with | .struct _ | .array _ _ => true | _ => false) = true) (hi : (P.info? ty).map (·.size) = some cs.size) (hv : tmps.getD q undef = v) :
    (results fn tmps).run P w = .ok (.tuple #[.agg cs, v]) w := by
  have hp' : tmps[p]?.getD undef = .pointer (some ⟨g, 0, none⟩) := by simpa using hp
  have hv' : tmps[q]?.getD undef = v := by simpa using hv
  simp [results, h, hp', hv', asAddr, run_loadVar_row w g t ty cs fr d hg hu hd hi]
end Go.Proofs.YtgoidclnccjdeaaK
end
section
/- Package glass: Size, Least, Dull. -/
namespace Go.Proofs.Ytgoidclnccjdeaa.D
open Go Go.RowKit Go.Proofs.YtgoidclnccjdeaaK Go.Proofs.YtgoidclnccjdeaaW.PrintWords Go.Proofs.YtgoidclnccjdeaaW.PrintLast Go.Proofs.YtgoidclnccjdeaaW.PrintMore Go.Proofs.Ytgoidclnccjdeaa.PR Go.Proofs.Ytgoidclnccjdeaa.M
set_option linter.unusedVariables false
set_option linter.unusedSimpArgs false

theorem enterE_ok {D : Dat} {l : List (Bool × Int)} (h : enterE D l = 0) : Valid D ∧ checkF D = (0, 0, 0) ∧ askE l = 0 ∧ truthsL D 0 ≠ [] := by
  unfold enterE at h
  split at h
  · next h1 => exact absurd h h1
  · next h1 =>
    split at h
    · next h2 => exact absurd h h2
    · next h2 =>
      split at h
      · cases h
      · next h3 =>
        have := check_valid (D := D) (Decidable.of_not_not h1)
        exact ⟨this.1, this.2.1, Decidable.of_not_not h2, fun e => h3 (by rw [e]; rfl)⟩
def hullF (D : Dat) (l : List (Bool × Int)) (k : Nat) : Int × Int := if enterE D l = 0 then (minF (truthsL D 0) k, maxF (truthsL D 0) k) else (0, 0)

set_option maxRecDepth 100000 in
set_option maxHeartbeats 1000000 in
theorem Size_calls (D : Dat) (A0 : Option Addr) (c0 : Nat) (A3 : Option Addr) (c3 : Nat) (A4 : Option Addr) (c4 : Nat) (x : Int) (w : World) (h : Arg w D A0 c0 A3 c3 A4 c4) :
    Calls Try.prog 19 #[.agg (D.cells A0 c0 A3 c3 A4 c4), .int .i64 x] w
      fun e w' => e = .returned (.tuple #[.agg #[.int .i64 (hullF D [(amongB D.sp.length [x], 4)] (4 + x.toNat)).1, .int .i64 (hullF D [(amongB D.sp.length [x], 4)] (4 + x.toNat)).2], .int .i64 (enterE D [(amongB D.sp.length [x], 4)])]) ∧ Below w.heap.size w w' := by
  have HX := Aside0.mk (blk_alloc (blk_new w (.cells (D.cells A0 c0 A3 c3 A4 c4) 28)) (.cells #[.int .i64 0, .int .i64 0] 24))
  have HR := Aside0.mk (new_at (W := w.alloc (.cells (D.cells A0 c0 A3 c3 A4 c4) 28)) (n := w.heap.size + 1) (by simp) (.cells #[.int .i64 0, .int .i64 0] 24))
  have HB := Aside0.mk (below_alloc (below_alloc (Below.refl w.heap.size w) (.cells (D.cells A0 c0 A3 c3 A4 c4) 28)) (.cells #[.int .i64 0, .int .i64 0] 24))
  have HA := Aside0.mk (h.below HB.out)
  have hlen : D.sp.length ≤ 9223372036854775807 := h.s.2.1
  clear h
  obtain ⟨f, hf⟩ : ∃ f, hullF D [(amongB D.sp.length [x], 4)] (4 + x.toNat) = f := ⟨_, rfl⟩
  have HF := Aside0.mk hf
  rw [hf]
  clear hf
  go_enter Try.func19, Try.ntmps19
  go_upto_region 1 with (fail)
  generalize (w.alloc (.cells (D.cells A0 c0 A3 c3 A4 c4) 28)).alloc (.cells #[.int .i64 0, .int .i64 0] 24) = w1 at HX HR HB HA ⊢
  obtain ⟨q, hq⟩ : ∃ q, w.heap.size = q := ⟨_, rfl⟩
  rw [hq] at HX HR ⊢
  have hb0 : Below w1.heap.size w1 w1.drew := below_drew1 (Below.refl _ _)
  refine wp_region_G (List.range 20) (S := fun w' : World => w'.cell? ⟨q, 0, none⟩ = some (.slice A0 D.gl.length c0) ∧ w'.cell? ⟨q, 1, none⟩ = some (.int .i64 D.lo) ∧ w'.cell? ⟨q, 2, none⟩ = some (.int .i64 D.hi) ∧ w'.cell? ⟨q, 3, none⟩ = some (.slice A3 D.sp.length c3) ∧ w'.cell? ⟨q, 4, none⟩ = some (.slice A4 D.dr.length c4) ∧ Aside0 (Below w1.heap.size w1 w')) (by kernel_rfl) ⟨(blk_cell (blk_below HX.out hb0) 0).trans rfl, (blk_cell (blk_below HX.out hb0) 1).trans rfl, (blk_cell (blk_below HX.out hb0) 2).trans rfl, (blk_cell (blk_below HX.out hb0) 3).trans rfl, (blk_cell (blk_below HX.out hb0) 4).trans rfl, ⟨hb0⟩⟩ (fun hHeld => ?_)
  clear hb0
  refine takeG 0 ?_
  refine takeG 1 ?_
  refine takeG 2 ?_
  refine takeG 3 ?_
  refine takeG 4 ?_
  have hB1 := hHeld.2.2.2.2.2.out
  refine wpAnyG_only (i := 5) (by kernel_rfl) rfl (fun K hK => ?_)
  go_simp
  clear hHeld
  refine hK.out _ _ ?_ (by trivial) (fun hHeld _ => ?_)
  · exact ⟨(blk_cell (blk_below HX.out (by repeat (first | assumption | exact Below.refl _ _ | apply below_alloc | apply below_drew1))) 0).trans rfl, (blk_cell (blk_below HX.out (by repeat (first | assumption | exact Below.refl _ _ | apply below_alloc | apply below_drew1))) 1).trans rfl, (blk_cell (blk_below HX.out (by repeat (first | assumption | exact Below.refl _ _ | apply below_alloc | apply below_drew1))) 2).trans rfl, (blk_cell (blk_below HX.out (by repeat (first | assumption | exact Below.refl _ _ | apply below_alloc | apply below_drew1))) 3).trans rfl, (blk_cell (blk_below HX.out (by repeat (first | assumption | exact Below.refl _ _ | apply below_alloc | apply below_drew1))) 4).trans rfl, ⟨(by repeat (first | assumption | exact Below.refl _ _ | apply below_alloc | apply below_drew1))⟩⟩
  clear hK K
  refine putG ?_
  clear hB1
  have hB2 := hHeld.2.2.2.2.2.out
  refine wpAnyG_only (i := 6) (by kernel_rfl) rfl (fun K hK => ?_)
  go_simp
  refine (among_calls D.sp.length [x] _ _ _ hlen (Kd.C_drew (lit1 x rfl))).mono ?_
  rintro e w2 ⟨rfl, hb⟩
  clear hHeld
  refine hK.out _ _ ?_ (by trivial) (fun hHeld _ => ?_)
  · exact ⟨(blk_cell (blk_below HX.out (hB2.trans (hb.mono hB2.size))) 0).trans rfl, (blk_cell (blk_below HX.out (hB2.trans (hb.mono hB2.size))) 1).trans rfl, (blk_cell (blk_below HX.out (hB2.trans (hb.mono hB2.size))) 2).trans rfl, (blk_cell (blk_below HX.out (hB2.trans (hb.mono hB2.size))) 3).trans rfl, (blk_cell (blk_below HX.out (hB2.trans (hb.mono hB2.size))) 4).trans rfl, ⟨(hB2.trans (hb.mono hB2.size))⟩⟩
  clear hK K
  refine putG ?_
  clear hB2 hb
  have hB3 := hHeld.2.2.2.2.2.out
  refine wpAnyG_only (i := 7) (by kernel_rfl) rfl (fun K hK => ?_)
  go_simp
  clear hHeld
  refine hK.out _ _ ?_ (by trivial) (fun hHeld _ => ?_)
  · exact ⟨(blk_cell (blk_below HX.out (by repeat (first | assumption | exact Below.refl _ _ | apply below_alloc | apply below_drew1))) 0).trans rfl, (blk_cell (blk_below HX.out (by repeat (first | assumption | exact Below.refl _ _ | apply below_alloc | apply below_drew1))) 1).trans rfl, (blk_cell (blk_below HX.out (by repeat (first | assumption | exact Below.refl _ _ | apply below_alloc | apply below_drew1))) 2).trans rfl, (blk_cell (blk_below HX.out (by repeat (first | assumption | exact Below.refl _ _ | apply below_alloc | apply below_drew1))) 3).trans rfl, (blk_cell (blk_below HX.out (by repeat (first | assumption | exact Below.refl _ _ | apply below_alloc | apply below_drew1))) 4).trans rfl, ⟨(by repeat (first | assumption | exact Below.refl _ _ | apply below_alloc | apply below_drew1))⟩⟩
  clear hK K
  refine putG ?_
  clear hB3
  have hB4 := hHeld.2.2.2.2.2.out
  refine wpAnyG_only (i := 8) (by kernel_rfl) rfl (fun K hK => ?_)
  go_simp
  refine (enter_calls D A0 c0 A3 c3 A4 c4 [(amongB D.sp.length [x], 4)] (some ⟨_, 0, none⟩) 1 _ (HA.out.below hB4) (AskC.blk (blk_new _ _) rfl (by simp) (by simp))).mono ?_
  rintro e w3 ⟨v, rfl, hb, hsh⟩
  have HSH := Aside0.mk hsh
  have hBE := hB4
  clear hsh
  clear hHeld
  refine hK.out _ _ ?_ (by trivial) (fun hHeld _ => ?_)
  · exact ⟨(blk_cell (blk_below HX.out (hB4.trans (hb.mono hB4.size))) 0).trans rfl, (blk_cell (blk_below HX.out (hB4.trans (hb.mono hB4.size))) 1).trans rfl, (blk_cell (blk_below HX.out (hB4.trans (hb.mono hB4.size))) 2).trans rfl, (blk_cell (blk_below HX.out (hB4.trans (hb.mono hB4.size))) 3).trans rfl, (blk_cell (blk_below HX.out (hB4.trans (hb.mono hB4.size))) 4).trans rfl, ⟨(hB4.trans (hb.mono hB4.size))⟩⟩
  clear hK K
  refine putG ?_
  clear hB4 hb
  refine takeG 9 ?_
  refine takeG 10 ?_
  refine takeG 11 ?_
  refine takeG 12 ?_
  refine takeG 13 ?_
  have hB5 := hHeld.2.2.2.2.2.out
  clear hHeld
  refine doneG ?_
  replace HR := Aside0.mk (blk_below HR.out hB5)
  replace HB := Aside0.mk (HB.out.trans (hB5.mono HB.out.size))
  clear hB5
  have r0 : w3.cell? ⟨q + 1, 0, none⟩ = some (.int .i64 0) := (blk_cell HR.out 0).trans rfl
  have r1 : w3.cell? ⟨q + 1, 1, none⟩ = some (.int .i64 0) := (blk_cell HR.out 1).trans rfl
  have f0 := blk_frozen HR.out 0
  have f1 := blk_frozen HR.out 1
  have rl := blk_lt HR.out
  obtain ⟨en, hen⟩ : ∃ en, enterE D [(amongB D.sp.length [x], 4)] = en := ⟨_, rfl⟩
  have HEN := Aside0.mk hen
  rw [hen]
  clear hen
  by_cases h0 : en = 0
  · subst h0
    obtain ⟨b, rfl, hsh⟩ := HSH.out HEN.out
    have HS := Aside0.mk hsh
    have HV := Aside0.mk (enterE_ok HEN.out).1
    clear hsh HSH
    have hr : f = (minF (truthsL D 0) (4 + x.toNat), maxF (truthsL D 0) (4 + x.toNat)) := by rw [← HF.out, hullF, if_pos HEN.out]
    subst hr
    have hx := (enterE_ok HEN.out).2.2.1
    have hx2 : 0 ≤ x ∧ x < D.sp.length := by
      by_cases ho : outB 0 ((D.sp.length : Int) - 1) [x] = false
      · simp only [outB_cons] at ho; omega
      · exact absurd hx (by simp [askE, amongB, ho])
    clear hx
    obtain ⟨hx0, hx1⟩ := hx2
    obtain ⟨n, rfl⟩ := Int.eq_ofNat_of_zero_le hx0
    have hs4 := HV.out.s4
    have hn8 : 4 + n < 8 := by omega
    go_wp2_with fail
    rw [show ((4 : Int) + (n : Int)) = ((4 + n : Nat) : Int) by omega]
    refine (hull_calls _ w3 D A0 c0 A3 c3 A4 c4 0 b (4 + n) (HA.out.below hBE) HV.out (by decide) hn8 HS.out).mono ?_
    rintro e w4 ⟨rfl, hc, hs⟩
    clear hs
    have hb4 := hc.below (B := w3.heap.size) (fun _ _ x => x.elim) (Nat.le_refl _)
    clear r0 r1 f0 f1 rl hc
    replace HR := Aside0.mk (blk_below HR.out hb4)
    replace HB := Aside0.mk (HB.out.trans (hb4.mono HB.out.size))
    clear hb4 hBE
    have r0 : w4.cell? ⟨q + 1, 0, none⟩ = some (.int .i64 0) := (blk_cell HR.out 0).trans rfl
    have r1 : w4.cell? ⟨q + 1, 1, none⟩ = some (.int .i64 0) := (blk_cell HR.out 1).trans rfl
    have f0 := blk_frozen HR.out 0
    have f1 := blk_frozen HR.out 1
    have rl := blk_lt HR.out
    go_wp2
    refine bodyPost_ret (v := .tuple #[.agg #[.int .i64 (minF (truthsL D 0) (4 + n)), .int .i64 (maxF (truthsL D 0) (4 + n))], .int .i64 0]) (results_row_tmp rfl _ _ (q + 1) 24 _ (0, 0) _ _ rfl (blk_set (blk_set HR.out 0 _) 1 _) Try.underlying24 rfl info24s rfl) rfl ⟨by rw [HEN.out], by first | exact below_set (below_set HB.out (by first | omega | (simp; omega))) (by first | omega | (simp; omega)) | (rw [← hq]; exact below_set (below_set HB.out (by first | omega | (simp; omega))) (by first | omega | (simp; omega)))⟩
  · have hr : f = (0, 0) := by rw [← HF.out, hullF, if_neg (by rw [HEN.out]; exact h0)]
    subst hr
    go_wp2
    refine bodyPost_ret (v := .tuple #[.agg #[.int .i64 0, .int .i64 0], .int .i64 en]) (results_row_tmp rfl _ _ (q + 1) 24 _ (0, 0) _ _ rfl (blk_set (blk_set HR.out 0 _) 1 _) Try.underlying24 rfl info24s rfl) rfl ⟨by rw [HEN.out], by first | exact below_set (below_set HB.out (by first | omega | (simp; omega))) (by first | omega | (simp; omega)) | (rw [← hq]; exact below_set (below_set HB.out (by first | omega | (simp; omega))) (by first | omega | (simp; omega)))⟩

set_option maxRecDepth 100000 in
set_option maxHeartbeats 1000000 in
theorem Least_calls (D : Dat) (A0 : Option Addr) (c0 : Nat) (A3 : Option Addr) (c3 : Nat) (A4 : Option Addr) (c4 : Nat) (x : Int) (w : World) (h : Arg w D A0 c0 A3 c3 A4 c4) :
    Calls Try.prog 21 #[.agg (D.cells A0 c0 A3 c3 A4 c4), .int .i64 x] w
      fun e w' => e = .returned (.tuple #[.agg #[.int .i64 (hullF D [(amongB D.gl.length [x], 4)] (x.toNat)).1, .int .i64 (hullF D [(amongB D.gl.length [x], 4)] (x.toNat)).2], .int .i64 (enterE D [(amongB D.gl.length [x], 4)])]) ∧ Below w.heap.size w w' := by
  have HX := Aside0.mk (blk_alloc (blk_new w (.cells (D.cells A0 c0 A3 c3 A4 c4) 28)) (.cells #[.int .i64 0, .int .i64 0] 24))
  have HR := Aside0.mk (new_at (W := w.alloc (.cells (D.cells A0 c0 A3 c3 A4 c4) 28)) (n := w.heap.size + 1) (by simp) (.cells #[.int .i64 0, .int .i64 0] 24))
  have HB := Aside0.mk (below_alloc (below_alloc (Below.refl w.heap.size w) (.cells (D.cells A0 c0 A3 c3 A4 c4) 28)) (.cells #[.int .i64 0, .int .i64 0] 24))
  have HA := Aside0.mk (h.below HB.out)
  have hlen : D.gl.length ≤ 9223372036854775807 := h.g.2.1
  clear h
  obtain ⟨f, hf⟩ : ∃ f, hullF D [(amongB D.gl.length [x], 4)] (x.toNat) = f := ⟨_, rfl⟩
  have HF := Aside0.mk hf
  rw [hf]
  clear hf
  go_enter Try.func21, Try.ntmps21
  go_upto_region 1 with (fail)
  generalize (w.alloc (.cells (D.cells A0 c0 A3 c3 A4 c4) 28)).alloc (.cells #[.int .i64 0, .int .i64 0] 24) = w1 at HX HR HB HA ⊢
  obtain ⟨q, hq⟩ : ∃ q, w.heap.size = q := ⟨_, rfl⟩
  rw [hq] at HX HR ⊢
  have hb0 : Below w1.heap.size w1 w1.drew := below_drew1 (Below.refl _ _)
  refine wp_region_G (List.range 20) (S := fun w' : World => w'.cell? ⟨q, 0, none⟩ = some (.slice A0 D.gl.length c0) ∧ w'.cell? ⟨q, 1, none⟩ = some (.int .i64 D.lo) ∧ w'.cell? ⟨q, 2, none⟩ = some (.int .i64 D.hi) ∧ w'.cell? ⟨q, 3, none⟩ = some (.slice A3 D.sp.length c3) ∧ w'.cell? ⟨q, 4, none⟩ = some (.slice A4 D.dr.length c4) ∧ Aside0 (Below w1.heap.size w1 w')) (by kernel_rfl) ⟨(blk_cell (blk_below HX.out hb0) 0).trans rfl, (blk_cell (blk_below HX.out hb0) 1).trans rfl, (blk_cell (blk_below HX.out hb0) 2).trans rfl, (blk_cell (blk_below HX.out hb0) 3).trans rfl, (blk_cell (blk_below HX.out hb0) 4).trans rfl, ⟨hb0⟩⟩ (fun hHeld => ?_)
  clear hb0
  refine takeG 0 ?_
  refine takeG 1 ?_
  refine takeG 2 ?_
  refine takeG 3 ?_
  refine takeG 4 ?_
  have hB1 := hHeld.2.2.2.2.2.out
  refine wpAnyG_only (i := 5) (by kernel_rfl) rfl (fun K hK => ?_)
  go_simp
  clear hHeld
  refine hK.out _ _ ?_ (by trivial) (fun hHeld _ => ?_)
  · exact ⟨(blk_cell (blk_below HX.out (by repeat (first | assumption | exact Below.refl _ _ | apply below_alloc | apply below_drew1))) 0).trans rfl, (blk_cell (blk_below HX.out (by repeat (first | assumption | exact Below.refl _ _ | apply below_alloc | apply below_drew1))) 1).trans rfl, (blk_cell (blk_below HX.out (by repeat (first | assumption | exact Below.refl _ _ | apply below_alloc | apply below_drew1))) 2).trans rfl, (blk_cell (blk_below HX.out (by repeat (first | assumption | exact Below.refl _ _ | apply below_alloc | apply below_drew1))) 3).trans rfl, (blk_cell (blk_below HX.out (by repeat (first | assumption | exact Below.refl _ _ | apply below_alloc | apply below_drew1))) 4).trans rfl, ⟨(by repeat (first | assumption | exact Below.refl _ _ | apply below_alloc | apply below_drew1))⟩⟩
  clear hK K
  refine putG ?_
  clear hB1
  have hB2 := hHeld.2.2.2.2.2.out
  refine wpAnyG_only (i := 6) (by kernel_rfl) rfl (fun K hK => ?_)
  go_simp
  refine (among_calls D.gl.length [x] _ _ _ hlen (Kd.C_drew (lit1 x rfl))).mono ?_
  rintro e w2 ⟨rfl, hb⟩
  clear hHeld
  refine hK.out _ _ ?_ (by trivial) (fun hHeld _ => ?_)
  · exact ⟨(blk_cell (blk_below HX.out (hB2.trans (hb.mono hB2.size))) 0).trans rfl, (blk_cell (blk_below HX.out (hB2.trans (hb.mono hB2.size))) 1).trans rfl, (blk_cell (blk_below HX.out (hB2.trans (hb.mono hB2.size))) 2).trans rfl, (blk_cell (blk_below HX.out (hB2.trans (hb.mono hB2.size))) 3).trans rfl, (blk_cell (blk_below HX.out (hB2.trans (hb.mono hB2.size))) 4).trans rfl, ⟨(hB2.trans (hb.mono hB2.size))⟩⟩
  clear hK K
  refine putG ?_
  clear hB2 hb
  have hB3 := hHeld.2.2.2.2.2.out
  refine wpAnyG_only (i := 7) (by kernel_rfl) rfl (fun K hK => ?_)
  go_simp
  clear hHeld
  refine hK.out _ _ ?_ (by trivial) (fun hHeld _ => ?_)
  · exact ⟨(blk_cell (blk_below HX.out (by repeat (first | assumption | exact Below.refl _ _ | apply below_alloc | apply below_drew1))) 0).trans rfl, (blk_cell (blk_below HX.out (by repeat (first | assumption | exact Below.refl _ _ | apply below_alloc | apply below_drew1))) 1).trans rfl, (blk_cell (blk_below HX.out (by repeat (first | assumption | exact Below.refl _ _ | apply below_alloc | apply below_drew1))) 2).trans rfl, (blk_cell (blk_below HX.out (by repeat (first | assumption | exact Below.refl _ _ | apply below_alloc | apply below_drew1))) 3).trans rfl, (blk_cell (blk_below HX.out (by repeat (first | assumption | exact Below.refl _ _ | apply below_alloc | apply below_drew1))) 4).trans rfl, ⟨(by repeat (first | assumption | exact Below.refl _ _ | apply below_alloc | apply below_drew1))⟩⟩
  clear hK K
  refine putG ?_
  clear hB3
  have hB4 := hHeld.2.2.2.2.2.out
  refine wpAnyG_only (i := 8) (by kernel_rfl) rfl (fun K hK => ?_)
  go_simp
  refine (enter_calls D A0 c0 A3 c3 A4 c4 [(amongB D.gl.length [x], 4)] (some ⟨_, 0, none⟩) 1 _ (HA.out.below hB4) (AskC.blk (blk_new _ _) rfl (by simp) (by simp))).mono ?_
  rintro e w3 ⟨v, rfl, hb, hsh⟩
  have HSH := Aside0.mk hsh
  have hBE := hB4
  clear hsh
  clear hHeld
  refine hK.out _ _ ?_ (by trivial) (fun hHeld _ => ?_)
  · exact ⟨(blk_cell (blk_below HX.out (hB4.trans (hb.mono hB4.size))) 0).trans rfl, (blk_cell (blk_below HX.out (hB4.trans (hb.mono hB4.size))) 1).trans rfl, (blk_cell (blk_below HX.out (hB4.trans (hb.mono hB4.size))) 2).trans rfl, (blk_cell (blk_below HX.out (hB4.trans (hb.mono hB4.size))) 3).trans rfl, (blk_cell (blk_below HX.out (hB4.trans (hb.mono hB4.size))) 4).trans rfl, ⟨(hB4.trans (hb.mono hB4.size))⟩⟩
  clear hK K
  refine putG ?_
  clear hB4 hb
  refine takeG 9 ?_
  refine takeG 10 ?_
  refine takeG 11 ?_
  refine takeG 12 ?_
  refine takeG 13 ?_
  have hB5 := hHeld.2.2.2.2.2.out
  clear hHeld
  refine doneG ?_
  replace HR := Aside0.mk (blk_below HR.out hB5)
  replace HB := Aside0.mk (HB.out.trans (hB5.mono HB.out.size))
  clear hB5
  have r0 : w3.cell? ⟨q + 1, 0, none⟩ = some (.int .i64 0) := (blk_cell HR.out 0).trans rfl
  have r1 : w3.cell? ⟨q + 1, 1, none⟩ = some (.int .i64 0) := (blk_cell HR.out 1).trans rfl
  have f0 := blk_frozen HR.out 0
  have f1 := blk_frozen HR.out 1
  have rl := blk_lt HR.out
  obtain ⟨en, hen⟩ : ∃ en, enterE D [(amongB D.gl.length [x], 4)] = en := ⟨_, rfl⟩
  have HEN := Aside0.mk hen
  rw [hen]
  clear hen
  by_cases h0 : en = 0
  · subst h0
    obtain ⟨b, rfl, hsh⟩ := HSH.out HEN.out
    have HS := Aside0.mk hsh
    have HV := Aside0.mk (enterE_ok HEN.out).1
    clear hsh HSH
    have hr : f = (minF (truthsL D 0) (x.toNat), maxF (truthsL D 0) (x.toNat)) := by rw [← HF.out, hullF, if_pos HEN.out]
    subst hr
    have hx := (enterE_ok HEN.out).2.2.1
    have hx2 : 0 ≤ x ∧ x < D.gl.length := by
      by_cases ho : outB 0 ((D.gl.length : Int) - 1) [x] = false
      · simp only [outB_cons] at ho; omega
      · exact absurd hx (by simp [askE, amongB, ho])
    clear hx
    obtain ⟨hx0, hx1⟩ := hx2
    obtain ⟨n, rfl⟩ := Int.eq_ofNat_of_zero_le hx0
    have hs4 := HV.out.g3
    have hn8 : n < 8 := by omega
    go_wp2_with fail
    skip
    refine (hull_calls _ w3 D A0 c0 A3 c3 A4 c4 0 b (n) (HA.out.below hBE) HV.out (by decide) hn8 HS.out).mono ?_
    rintro e w4 ⟨rfl, hc, hs⟩
    clear hs
    have hb4 := hc.below (B := w3.heap.size) (fun _ _ x => x.elim) (Nat.le_refl _)
    clear r0 r1 f0 f1 rl hc
    replace HR := Aside0.mk (blk_below HR.out hb4)
    replace HB := Aside0.mk (HB.out.trans (hb4.mono HB.out.size))
    clear hb4 hBE
    have r0 : w4.cell? ⟨q + 1, 0, none⟩ = some (.int .i64 0) := (blk_cell HR.out 0).trans rfl
    have r1 : w4.cell? ⟨q + 1, 1, none⟩ = some (.int .i64 0) := (blk_cell HR.out 1).trans rfl
    have f0 := blk_frozen HR.out 0
    have f1 := blk_frozen HR.out 1
    have rl := blk_lt HR.out
    go_wp2
    refine bodyPost_ret (v := .tuple #[.agg #[.int .i64 (minF (truthsL D 0) n), .int .i64 (maxF (truthsL D 0) n)], .int .i64 0]) (results_row_tmp rfl _ _ (q + 1) 24 _ (0, 0) _ _ rfl (blk_set (blk_set HR.out 0 _) 1 _) Try.underlying24 rfl info24s rfl) rfl ⟨by rw [HEN.out], by first | exact below_set (below_set HB.out (by first | omega | (simp; omega))) (by first | omega | (simp; omega)) | (rw [← hq]; exact below_set (below_set HB.out (by first | omega | (simp; omega))) (by first | omega | (simp; omega)))⟩
  · have hr : f = (0, 0) := by rw [← HF.out, hullF, if_neg (by rw [HEN.out]; exact h0)]
    subst hr
    go_wp2
    refine bodyPost_ret (v := .tuple #[.agg #[.int .i64 0, .int .i64 0], .int .i64 en]) (results_row_tmp rfl _ _ (q + 1) 24 _ (0, 0) _ _ rfl (blk_set (blk_set HR.out 0 _) 1 _) Try.underlying24 rfl info24s rfl) rfl ⟨by rw [HEN.out], by first | exact below_set (below_set HB.out (by first | omega | (simp; omega))) (by first | omega | (simp; omega)) | (rw [← hq]; exact below_set (below_set HB.out (by first | omega | (simp; omega))) (by first | omega | (simp; omega)))⟩

set_option maxRecDepth 100000 in
set_option maxHeartbeats 1000000 in
theorem Dull_calls (D : Dat) (A0 : Option Addr) (c0 : Nat) (A3 : Option Addr) (c3 : Nat) (A4 : Option Addr) (c4 : Nat) (w : World) (h : Arg w D A0 c0 A3 c3 A4 c4) :
    Calls Try.prog 23 #[.agg (D.cells A0 c0 A3 c3 A4 c4)] w
      fun e w' => e = .returned (.tuple #[.agg #[.int .i64 (hullF D [] 3).1, .int .i64 (hullF D [] 3).2], .int .i64 (enterE D [])]) ∧ Below w.heap.size w w' := by
  have HX := Aside0.mk (blk_alloc (blk_new w (.cells (D.cells A0 c0 A3 c3 A4 c4) 28)) (.cells #[.int .i64 0, .int .i64 0] 24))
  have HR := Aside0.mk (new_at (W := w.alloc (.cells (D.cells A0 c0 A3 c3 A4 c4) 28)) (n := w.heap.size + 1) (by simp) (.cells #[.int .i64 0, .int .i64 0] 24))
  have HB := Aside0.mk (below_alloc (below_alloc (Below.refl w.heap.size w) (.cells (D.cells A0 c0 A3 c3 A4 c4) 28)) (.cells #[.int .i64 0, .int .i64 0] 24))
  have HA := Aside0.mk (h.below HB.out)
  clear h
  obtain ⟨f, hf⟩ : ∃ f, hullF D [] 3 = f := ⟨_, rfl⟩
  have HF := Aside0.mk hf
  rw [hf]
  clear hf
  go_enter Try.func23, Try.ntmps23
  go_upto_region 1 with (fail)
  generalize (w.alloc (.cells (D.cells A0 c0 A3 c3 A4 c4) 28)).alloc (.cells #[.int .i64 0, .int .i64 0] 24) = w1 at HX HR HB HA ⊢
  obtain ⟨q, hq⟩ : ∃ q, w.heap.size = q := ⟨_, rfl⟩
  rw [hq] at HX HR ⊢
  have k0 := (blk_cell HX.out 0).trans rfl
  have k1 := (blk_cell HX.out 1).trans rfl
  have k2 := (blk_cell HX.out 2).trans rfl
  have k3 := (blk_cell HX.out 3).trans rfl
  have k4 := (blk_cell HX.out 4).trans rfl
  have kl := blk_lt HX.out
  go_wp2_with fail
  clear k0 k1 k2 k3 k4 kl
  refine (enter_calls D A0 c0 A3 c3 A4 c4 [] none 0 w1 HA.out (AskC.nil _ _)).mono ?_
  rintro e w3 ⟨v, rfl, hb, hsh⟩
  have HSH := Aside0.mk hsh
  have hB9 := hb
  clear hsh hb
  replace HR := Aside0.mk (blk_below HR.out hB9)
  replace HB := Aside0.mk (HB.out.trans (hB9.mono HB.out.size))
  clear hB9
  have r0 : w3.cell? ⟨q + 1, 0, none⟩ = some (.int .i64 0) := (blk_cell HR.out 0).trans rfl
  have r1 : w3.cell? ⟨q + 1, 1, none⟩ = some (.int .i64 0) := (blk_cell HR.out 1).trans rfl
  have f0 := blk_frozen HR.out 0
  have f1 := blk_frozen HR.out 1
  have rl := blk_lt HR.out
  obtain ⟨en, hen⟩ : ∃ en, enterE D [] = en := ⟨_, rfl⟩
  have HEN := Aside0.mk hen
  rw [hen]
  clear hen
  by_cases h0 : en = 0
  · subst h0
    obtain ⟨b, rfl, hsh⟩ := HSH.out HEN.out
    have HS := Aside0.mk hsh
    have HV := Aside0.mk (enterE_ok HEN.out).1
    clear hsh HSH
    have hr : f = (minF (truthsL D 0) (3), maxF (truthsL D 0) (3)) := by rw [← HF.out, hullF, if_pos HEN.out]
    subst hr
    go_wp2_with fail
    refine (hull_calls _ w3 D A0 c0 A3 c3 A4 c4 0 b 3 HA.out HV.out (by decide) (by decide) HS.out).mono ?_
    rintro e w4 ⟨rfl, hc, hs⟩
    clear hs
    have hb4 := hc.below (B := w3.heap.size) (fun _ _ x => x.elim) (Nat.le_refl _)
    clear r0 r1 f0 f1 rl hc
    replace HR := Aside0.mk (blk_below HR.out hb4)
    replace HB := Aside0.mk (HB.out.trans (hb4.mono HB.out.size))
    clear hb4
    have r0 : w4.cell? ⟨q + 1, 0, none⟩ = some (.int .i64 0) := (blk_cell HR.out 0).trans rfl
    have r1 : w4.cell? ⟨q + 1, 1, none⟩ = some (.int .i64 0) := (blk_cell HR.out 1).trans rfl
    have f0 := blk_frozen HR.out 0
    have f1 := blk_frozen HR.out 1
    have rl := blk_lt HR.out
    go_wp2
    refine bodyPost_ret (v := .tuple #[.agg #[.int .i64 (minF (truthsL D 0) 3), .int .i64 (maxF (truthsL D 0) 3)], .int .i64 0]) (results_row_tmp rfl _ _ (q + 1) 24 _ (0, 0) _ _ rfl (blk_set (blk_set HR.out 0 _) 1 _) Try.underlying24 rfl info24s rfl) rfl ⟨by rw [HEN.out], by first | exact below_set (below_set HB.out (by first | omega | (simp; omega))) (by first | omega | (simp; omega)) | (rw [← hq]; exact below_set (below_set HB.out (by first | omega | (simp; omega))) (by first | omega | (simp; omega)))⟩
  · have hr : f = (0, 0) := by rw [← HF.out, hullF, if_neg (by rw [HEN.out]; exact h0)]
    subst hr
    go_wp2
    refine bodyPost_ret (v := .tuple #[.agg #[.int .i64 0, .int .i64 0], .int .i64 en]) (results_row_tmp rfl _ _ (q + 1) 24 _ (0, 0) _ _ rfl (blk_set (blk_set HR.out 0 _) 1 _) Try.underlying24 rfl info24s rfl) rfl ⟨by rw [HEN.out], by first | exact below_set (below_set HB.out (by first | omega | (simp; omega))) (by first | omega | (simp; omega)) | (rw [← hq]; exact below_set (below_set HB.out (by first | omega | (simp; omega))) (by first | omega | (simp; omega)))⟩
end Go.Proofs.Ytgoidclnccjdeaa.D
end
section
/- General lemmas of this session's own: a row of ints that grows by append. -/
namespace Go.Proofs.YtgoidclnccjdeaaK
open Go Go.RowKit Go.Proofs.YtgoidclnccjdeaaW.PrintWords Go.Proofs.YtgoidclnccjdeaaW.PrintLast Go.Proofs.YtgoidclnccjdeaaW.PrintMore
set_option linter.unusedVariables false
set_option linter.unusedSimpArgs false
variable {P : Program}

def Row (w : World) (n0 e : Nat) (v : Value) (l : List Int) : Prop := w.ownsRow n0 e 1 v l.length (l.map (Value.int .i64))

namespace Row
variable {w w' : World} {n0 e : Nat} {v : Value} {l : List Int}
theorem nil (w : World) (n0 e : Nat) : Row w n0 e (.slice none 0 0) [] := World.ownsRow_nil w n0 e 1
theorem lt (h : Row w n0 e v l) : ∀ k, v.ownBlock = some k → n0 ≤ k ∧ k < w.heap.size := World.ownsRow.lt h
theorem chg {S : Nat → Prop} (h : Row w n0 e v l) (hc : Chg S w w') (hs : ∀ k, v.ownBlock = some k → ¬ S k) : Row w' n0 e v l := by
  refine ⟨h.1, ?_⟩
  rcases h.2 with hn | ⟨g, cap, cur, rfl, hb, hgg, rest⟩
  · exact .inl hn
  · exact .inr ⟨g, cap, cur, rfl, hb, hc.heap hgg (hs g rfl), rest⟩
theorem ne (h : Row w n0 e v l) {B : Nat} {cs : Array Value} {t : TypeId} {fr : Nat × Nat} (hB : w.heap[B]? = some (.cells cs t fr)) (ht : t ≠ e) : v.ownBlock ≠ some B := fun hv => by
  rcases h.2 with ⟨rfl, _⟩ | ⟨g, cap, cur, rfl, hb, hgg, rest⟩
  · simp [Value.ownBlock] at hv
  · simp [Value.ownBlock] at hv
    subst hv
    rw [hgg] at hB
    injection hB with hB
    injection hB with h1 h2
    exact ht h2.symm
theorem shape (h : Row w n0 e v l) : ∃ A c, v = .slice A l.length c ∧ l.length ≤ c := by
  rcases h.2 with ⟨rfl, h0⟩ | ⟨g, cap, cur, rfl, hb, hgg, hc, _⟩
  · exact ⟨none, 0, by rw [h0], by omega⟩
  · exact ⟨_, _, rfl, hc⟩
theorem read (h : Row w n0 e v l) {A : Option Addr} {n c : Nat} (hv : v = .slice A n c) (hl : l.length ≤ 9223372036854775807) : Kd.C (Kd.int .i64) w A l.length l := by
  refine ⟨rfl, hl, fun h0 => ?_⟩
  rcases h.2 with ⟨rfl, hn⟩ | ⟨g, cap, cur, rfl, hb, hgg, hc, hm, hs, ht⟩
  · omega
  · injection hv with h1 h2 h3
    subst h1
    refine ⟨_, rfl, fun j p hj => ⟨[.int .i64 p], rfl, rfl, fun i u hu => ?_⟩⟩
    have hi : i = 0 := by
      have := (List.getElem?_eq_some_iff.1 hu).1
      simpa using this
    subst hi
    simp at hu
    subst hu
    have hadd : (⟨g, 0, none⟩ : Addr).add (j * 1 + 0) = ⟨g, j, none⟩ := by unfold Addr.add; split <;> simp_all
    have hjl := (List.getElem?_eq_some_iff.1 hj).1
    show w.cell? ((⟨g, 0, none⟩ : Addr).add (j * 1 + 0)) = _
    rw [hadd, cell_of_row w g j cur e (0, 0) hgg]
    have hx : (l.map (Value.int .i64))[j]? = some (.int .i64 p) := by rw [List.getElem?_map, hj]; rfl
    rw [← ht, List.getElem?_take] at hx
    split at hx
    · simpa using hx
    · cases hx

theorem append (h : Row w n0 e v l) {t : TypeId} (ty : TypeId) {i : TypeInfo} (ht : P.underlying t = some (.slice e)) (hi : P.info? e = some i) (hz : i.zero = some (.int .i64 0)) (hsize : i.size = 1) (hby : i.bytes = 8)
    {b : Nat} {x : Int} {t' : TypeId} (hx : w.heap[b]? = some (.cells #[.int .i64 x] t' (0, 0))) (hl : l.length ≤ 1000000) (hn0 : n0 ≤ w.heap.size) :
    ∃ v' w', (Builtin.append_ #[t, t] ty #[v, .slice (some ⟨b, 0, none⟩) 1 1]).run P w = .ok v' w' ∧ Row w' n0 e v' (l ++ [x]) ∧ Chg (fun k => v.ownBlock = some k) w w' ∧ (∀ k, v'.ownBlock = some k → k < w'.heap.size ∧ (v.ownBlock = some k ∨ k = w.heap.size)) := by
  obtain ⟨g, cap, w', hr, ho, hg, hor, hlt⟩ := run_append_lies (P := P) w t ty n0 e i _ 1 8 ht hi hz hsize hby rfl (by decide) v l.length _ h ⟨b, 0, none⟩ 1 1 [.int .i64 x] rfl (by
    intro j u hu
    have := World.news_of_block hx j u (by simpa using hu)
    exact this) (by simp [Value.oneCell']) (by decide) (by simp only [maxLen]; omega) (by omega) hn0 w.heap.size rfl
  refine ⟨_, w', hr, ?_, ⟨hg.os, hg.tape, hg.output, hg.size, fun k hk hn => hg.block k hk (fun e => hn e.symm)⟩, ?_⟩
  · unfold Row
    rw [List.length_append, List.map_append]
    exact ho
  · intro k hk
    simp [Value.ownBlock] at hk
    subst hk
    exact ⟨hlt, hor⟩
end Row
end Go.Proofs.YtgoidclnccjdeaaK
end
section
/- General lemmas of this session's own: a block of ints, known whole; make, copy, clear, stores. -/
namespace Go.Proofs.YtgoidclnccjdeaaK
open Go Go.RowKit Go.Proofs.YtgoidclnccjdeaaW.PrintWords Go.Proofs.YtgoidclnccjdeaaW.PrintLast Go.Proofs.YtgoidclnccjdeaaW.PrintMore
set_option linter.unusedVariables false
set_option linter.unusedSimpArgs false
variable {P : Program}

def IB (w : World) (e g : Nat) (L : List Int) : Prop := w.heap[g]? = some (.cells (L.map (Value.int .i64)).toArray e (0, 0))
namespace IB
variable {w w' : World} {e g : Nat} {L : List Int}
theorem lt (h : IB w e g L) : g < w.heap.size := (Array.getElem?_eq_some_iff.1 h).1
theorem chg {S : Nat → Prop} (h : IB w e g L) (hc : Chg S w w') (hs : ¬ S g) : IB w' e g L := hc.heap h hs
theorem cell (h : IB w e g L) (k : Nat) (hk : k < L.length) : w.cell? ⟨g, k, none⟩ = some (.int .i64 L[k]) := by
  rw [cell_of_row w g k _ e (0, 0) h]; simp [hk]
theorem frozen (h : IB w e g L) (k : Nat) : w.frozen? ⟨g, k, none⟩ = false := blk_frozen h k
theorem set (h : IB w e g L) (k : Nat) (x : Int) : IB (w.setCell ⟨g, k, none⟩ (.int .i64 x)) e g (L.set k x) := by
  have := blk_set h k (.int .i64 x)
  unfold IB
  rw [this]
  congr 2
  apply Array.ext'
  simp [List.map_set]
theorem read (h : IB w e g L) (n : Nat) (hn : n ≤ L.length) (hl : L.length ≤ 9223372036854775807) : Kd.C (Kd.int .i64) w (some ⟨g, 0, none⟩) n (L.take n) := by
  refine ⟨by rw [List.length_take]; omega, by omega, fun _ => ⟨_, rfl, fun j p hj => ⟨[.int .i64 p], rfl, rfl, fun i u hu => ?_⟩⟩⟩
  have hi : i = 0 := by
    have := (List.getElem?_eq_some_iff.1 hu).1
    simpa using this
  subst hi
  simp at hu
  subst hu
  have hadd : (⟨g, 0, none⟩ : Addr).add (j * 1 + 0) = ⟨g, j, none⟩ := by unfold Addr.add; split <;> simp_all
  show w.cell? ((⟨g, 0, none⟩ : Addr).add (j * 1 + 0)) = _
  rw [List.getElem?_take] at hj
  split at hj
  · rw [hadd]
    obtain ⟨h1, h2⟩ := List.getElem?_eq_some_iff.1 hj
    rw [h.cell j h1, h2]
  · cases hj
theorem of_owns {b : Nat} {cap n : Nat} (h : w.ownsRow b e 1 (.slice (some ⟨g, 0, none⟩) n n) n (madeCells #[.int .i64 0] (n * 1)).toList) : IB w e g (List.replicate n 0) := by
  rcases h.2 with ⟨h0, _⟩ | ⟨g', cap, cur, hv, _, hg, _, _, hs, ht⟩
  · cases h0
  · injection hv with h1 h2 h3
    injection h1 with h1
    injection h1 with h1
    subst h1
    subst h3
    unfold IB
    rw [hg]
    congr 2
    apply Array.ext'
    have hl : cur.toList.take (n * 1) = cur.toList := List.take_of_length_le (by simp; omega)
    rw [← hl, ht]
    apply List.ext_getElem
    · simp [madeCells]
    · intro i h1 h2
      simp [madeCells, Nat.mod_one]
end IB

theorem IB.setCells {e g : Nat} : ∀ (xs : List Int) (o : Nat) (w : World) (L : List Int), IB w e g L → o + xs.length ≤ L.length → IB (w.setCells g o (xs.map (Value.int .i64))) e g (L.take o ++ xs ++ L.drop (o + xs.length))
  | [], o, w, L, h, _ => by simpa [World.setCells] using h
  | x :: xs, o, w, L, h, hl => by
    simp only [List.length_cons] at hl
    have := IB.setCells xs (o + 1) _ _ (h.set o x) (by simp; omega)
    simp only [List.map_cons, World.setCells]
    have e1 : (L.set o x).take (o + 1) ++ xs ++ (L.set o x).drop (o + 1 + xs.length) = L.take o ++ (x :: xs) ++ L.drop (o + (x :: xs).length) := by
      rw [List.take_succ_eq_append_getElem (by simp; omega), List.take_set_of_le (Nat.le_refl _), List.getElem_set_self, List.drop_set_of_lt (by omega)]
      simp [Nat.add_assoc, Nat.add_comm 1]
    rw [← e1]; exact this
theorem Chg.setCells {S : Nat → Prop} {w : World} {g : Nat} (hg : g < w.heap.size → S g) : ∀ (vs : List Value) (o : Nat) (w1 : World), Chg S w w1 → Chg S w (w1.setCells g o vs)
  | [], _, _, h => h
  | v :: vs, o, w1, h => by
    simp only [World.setCells]
    exact Chg.setCells hg vs (o + 1) _ (h.setCell (p := ⟨g, o, none⟩) hg v)
theorem Chg.setRow {S : Nat → Prop} {w w1 : World} {g : Nat} (h : Chg S w w1) (hg : g < w.heap.size → S g) (cs : Array Value) : Chg S w (w1.setRow g cs) := by
  refine ⟨h.os, h.tape, h.output, by simpa [World.setRow] using h.size, fun i hi hs => ?_⟩
  have hne : g ≠ i := fun e => hs (e ▸ hg (by omega))
  have : (w1.setRow g cs).heap[i]? = w1.heap[i]? := by simp [World.setRow, Array.getElem?_modify, hne]
  rw [this]; exact h.block i hi hs
end Go.Proofs.YtgoidclnccjdeaaK
end
