/- Contracts of the functions that this claim reaches, with the words for them: pruned and packed by wip/tools/prune.py. -/
import Derived.Test.YtemeapfnfegkiaaProg
import Derived.Test.YtemeapfnfegkiaaUWWords
import Derived.Test.YtemeapfnfegkiaaUWLast
import Derived.Test.YtemeapfnfegkiaaUWTab
import Derived.Test.YtemeapfnfegkiaaUWFour
import Derived.Test.YtemeapfnfegkiaaUWQPut
import Derived.Test.YtemeapfnfegkiaaUWApart
import Derived.Test.YtemeapfnfegkiaaUWArr
import Derived.Test.YtemeapfnfegkiaaUWZeros
import Derived.Test.YtemeapfnfegkiaaUWFoot
import Derived.Test.YtemeapfnfegkiaaUWKept
import Derived.Test.YtemeapfnfegkiaaUWShare
import Derived.Test.YtemeapfnfegkiaaUWN
import Derived.Test.YtemeapfnfegkiaaUWFootNe
import Derived.Test.YtemeapfnfegkiaaUWAt
import Derived.Test.YtemeapfnfegkiaaUWEqStruct
import Derived.Test.YtemeapfnfegkiaaUWRepsOne
import Derived.Test.YtemeapfnfegkiaaUWInv
import Derived.Test.YtemeapfnfegkiaaUWInvWords
import Derived.Test.YtemeapfnfegkiaaUWGuard
import Derived.Test.YtemeapfnfegkiaaUWNEv
import Derived.Test.YtemeapfnfegkiaaUWMore
import Derived.RangeFuncNested
import Derived.RangeFuncBound
import Derived.RangeFuncCalls
import Derived.RangeFuncLeaves
import Derived.Below
import Derived.Deep.Draws
import Derived.Deep.AppendLies
import Derived.Maps.AppendAt
import Derived.OwnWalk
import Derived.Laws.BytesArg
import Derived.Laws.MakeOwn
import Derived.Laws.OwnMore
import Derived.Deep.OwnRows
import Derived.Tactics
import Derived.Lib.ConvBytes
import Derived.Laws.Slices
import Derived.WalkKit
import Derived.KernelRfl
import Derived.RowKit3
import Derived.Deep.LoopGhost
import Derived.Deep.QuietTactic
import Derived.BigQuiet
import Derived.WideLaws
import Derived.Deep.DeepCutAuto
import Derived.Deep.CutBlock
import Derived.Deep.RegionHeld3
import Derived.Laws.Rows
import Derived.Lib.AppendStr
import Derived.ArgAppend
import Derived.Laws.IdiomCopy
import Derived.OrdersHeld
import Derived.Laws.BitsLemmas
import Derived.RowKit
import Derived.Laws.RangeAny
import Derived.ChangeKeysEq
import Derived.RegionTactic
import Derived.ChangeAlike
import Derived.Laws.EntriesVeiled
import Derived.OwnWalkIn
import Derived.TacticsInMore
import Derived.LoopNIn
import Derived.LoopIn
import Derived.Shelf.Abstract
import Derived.Shelf.RegionOpen
import Derived.Sort.CutIn
import Derived.Laws.CopyRow
import Derived.Lib.SliceRun
section
/- General lemmas of this session's own: what a call may change ('Chg'), an iterator's contract ('Iter'), and the law of a range over a function by it. -/
namespace Go.Proofs.YtemeapfnfegkiaaK
open Go Go.RowKit
set_option linter.unusedVariables false

structure Chg (S : Nat → Prop) (w w' : World) : Prop where
  os : w'.os = w.os
  tape : w'.tape = w.tape
  output : w'.output = w.output
  size : w.heap.size ≤ w'.heap.size
  block : ∀ k, k < w.heap.size → ¬ S k → w'.heap[k]? = w.heap[k]?

namespace Chg
variable {S S' : Nat → Prop} {w w1 w2 : World}
theorem refl (S : Nat → Prop) (w : World) : Chg S w w := ⟨rfl, rfl, rfl, Nat.le_refl _, fun _ _ _ => rfl⟩
theorem trans (h : Chg S w w1) (k : Chg S w1 w2) : Chg S w w2 :=
  ⟨k.os.trans h.os, k.tape.trans h.tape, k.output.trans h.output, Nat.le_trans h.size k.size, fun i hi hs => (k.block i (Nat.lt_of_lt_of_le hi h.size) hs).trans (h.block i hi hs)⟩
theorem mono (h : Chg S w w1) (hs : ∀ k, k < w.heap.size → S k → S' k) : Chg S' w w1 := ⟨h.os, h.tape, h.output, h.size, fun i hi hn => h.block i hi (fun x => hn (hs i hi x))⟩
theorem then_ (h : Chg S w w1) (k : Chg S' w1 w2) (hs : ∀ k, k < w.heap.size → S' k → S k) : Chg S w w2 :=
  ⟨k.os.trans h.os, k.tape.trans h.tape, k.output.trans h.output, Nat.le_trans h.size k.size, fun i hi hn => (k.block i (Nat.lt_of_lt_of_le hi h.size) (fun x => hn (hs i hi x))).trans (h.block i hi hn)⟩
theorem alloc (h : Chg S w w1) (o : Obj) : Chg S w (w1.alloc o) :=
  ⟨h.os, h.tape, h.output, by rw [World.size_alloc]; exact Nat.le_succ_of_le h.size, fun i hi hs => (Below.heap_alloc _ _ _ (Nat.lt_of_lt_of_le hi h.size)).trans (h.block i hi hs)⟩
theorem drew (h : Chg S w w1) : Chg S w w1.drew := ⟨h.os, h.tape, h.output, h.size, h.block⟩
theorem drewN (h : Chg S w w1) (n : Nat) : Chg S w (w1.drewN n) := ⟨h.os, h.tape, h.output, h.size, h.block⟩
theorem setCell (h : Chg S w w1) {p : Addr} (hp : p.block < w.heap.size → S p.block) (u : Value) : Chg S w (w1.setCell p u) :=
  ⟨h.os, h.tape, h.output, by simpa [World.setCell] using h.size, fun i hi hs => (Below.heap_setCell _ _ _ _ (fun e => by subst e; exact hs (hp hi))).trans (h.block i hi hs)⟩
theorem putObj (h : Chg S w w1) {l : Nat} (hp : l < w.heap.size → S l) (o : Obj) : Chg S w (w1.putObj l o) :=
  ⟨h.os, h.tape, h.output, by simpa using h.size, fun i hi hs => (World.putObj_heap_other (fun e => by subst e; exact hs (hp hi))).trans (h.block i hi hs)⟩
theorem of_below {B : Nat} (h : Below B w w1) : Chg (fun k => B ≤ k) w w1 := ⟨h.os, h.tape, h.output, h.size, fun i hi hs => h.block i (by omega)⟩
theorem below (h : Chg S w w1) {B : Nat} (hs : ∀ k, k < w.heap.size → S k → B ≤ k) (hB : B ≤ w.heap.size) : Below B w w1 :=
  ⟨h.os, h.tape, h.output, h.size, fun i hi => h.block i (by omega) (fun x => by have := hs i (by omega) x; omega)⟩
theorem grown {row : Option Nat} (h : w.grownBy w1 row) : Chg (fun k => some k = row) w w1 := ⟨h.os, h.tape, h.output, h.size, fun i hi hn => h.block i hi hn⟩
theorem heap (h : Chg S w w1) {k : Nat} {o : Obj} (hk : w.heap[k]? = some o) (hs : ¬ S k) : w1.heap[k]? = some o :=
  (h.block k (Array.getElem?_eq_some_iff.1 hk).1 hs).trans hk
theorem cell (h : Chg S w w1) {a : Addr} {v : Value} (hk : w.cell? a = some v) (hs : ¬ S a.block) : w1.cell? a = some v := by
  have hlt := World.block_lt_of_cell? w a hk
  rw [World.cell?_of_block (w := w) (h.block a.block hlt hs)]; exact hk
end Chg

def Iter {α : Type} (P : Program) (g : FuncId) (lb : Array Value) (encs : α → Array Value) (M : Nat → Prop) (Ok : World → Prop) (xs : List α) (w : World) : Prop :=
  ∀ (l : Nat) (J : List α → (Nat → Prop) → World → Prop) (Jx : List α → World → Prop) (W : World) (Fp0 : Nat → Prop), Below w.heap.size w W → w.heap.size ≤ l → l < W.heap.size → (∀ k, Fp0 k → k < W.heap.size) →
    (∀ pre Fp A B, J pre Fp A → Chg (fun k => M k ∨ (W.heap.size ≤ k ∧ ¬ Fp k)) A B → Ok B → J pre Fp B) →
    (∀ pre A B, Jx pre A → Chg (fun k => M k ∨ W.heap.size ≤ k) A B → Ok B → Jx pre B) →
    (∀ pre x Fp A, pre ++ [x] <+: xs → J pre Fp A → Ok A → (∀ k, Fp k → k < A.heap.size) → YieldAt Fence.wide 0 P l (encs x) A fun e B =>
      (e = .returned (.bool true) ∧ ∃ Fp', J (pre ++ [x]) Fp' B ∧ Chg (fun k => Fp k ∨ k = l) A B ∧ Ok B ∧ ∀ k, Fp' k → k < B.heap.size ∧ (k < A.heap.size → Fp k)) ∨
      (e = .returned (.bool false) ∧ Jx (pre ++ [x]) B ∧ Ok B)) →
    J [] Fp0 W → Ok W →
    CallsIn Fence.wide 0 P g (#[.func (.yield l) #[] #[]] ++ lb) W fun e W' => (∃ v, e = .returned v) ∧
      ((∃ Fp, J xs Fp W' ∧ Ok W' ∧ ∀ k, Fp k → k < W'.heap.size) ∨ ∃ pre, pre <+: xs ∧ Jx pre W' ∧ Ok W')

def roundQ {α : Type} (Ok : World → Prop) (I : List α → (Nat → Prop) → World → Prop) (Ix : Code → List α → World → Prop) (Fp : Nat → Prop) (pre : List α) (W : World) : Exit → Act → World → Prop
  | .normal, _, W3 => ∃ Fp', I pre Fp' W3 ∧ Chg Fp W W3 ∧ Ok W3 ∧ ∀ k, Fp' k → k < W3.heap.size ∧ (k < W.heap.size → Fp k)
  | .ret, _, W3 => Ix .ret pre W3 ∧ Chg Fp W W3 ∧ Ok W3
  | .exit id, _, W3 => Ix (.exit id) pre W3 ∧ Chg Fp W W3 ∧ Ok W3
  | .goto t, _, W3 => Ix (.goto t) pre W3 ∧ Chg Fp W W3 ∧ Ok W3
  | .panic _, _, _ => False
  | .outgrown, _, _ => False

theorem rangeFunc {α : Type} {P : Program} {g : Operand} {ps : Array Tmp} {assign body : Code} {Q : Exit → Act → World → Prop} {a : Act} {w : World}
    {gf : Nat} {lb : Array Value} (hg : a.eval g = .func (.func gf) #[] lb) (eg : ∀ args w, (callFunc gf args).run P w = .ok (.enter gf args) w)
    {encs : α → Array Value} {M : Nat → Prop} {Ok : World → Prop} {xs : List α} (hit : Iter P gf lb encs M Ok xs w) (hps : ∀ x, (encs x).size = ps.size)
    (I : List α → (Nat → Prop) → World → Prop) (Ix : Code → List α → World → Prop) (Fp0 : Nat → Prop) (hM : ∀ k, M k → k < w.heap.size)
    (hOkn : ∀ A B, Ok A → Chg (fun k => w.heap.size ≤ k) A B → Ok B)
    (hI : ∀ pre Fp A B, I pre Fp A → Chg (fun k => M k ∨ (w.heap.size ≤ k ∧ ¬ Fp k)) A B → Ok B → I pre Fp B)
    (hIx : ∀ c pre A B, Ix c pre A → Chg (fun k => M k ∨ w.heap.size ≤ k) A B → Ok B → Ix c pre B)
    (h0 : I [] Fp0 w) (hF0 : ∀ k, Fp0 k → k < w.heap.size) (hOk : Ok w)
    (hround : ∀ (l : Nat) (pre : List α) (x : α) (Fp : Nat → Prop) (W : World), w.heap.size < l → l < W.heap.size → ¬ Fp l → (∀ k, Fp k → k < W.heap.size) → pre ++ [x] <+: xs → I pre Fp W → Ok W →
      assign.wpIn (Fence.wide.inRound l) 0 P (Exit.then (fun a1 W1 => Chg (fun _ => False) W W1 ∧ ∀ W2, Chg (fun k => k = l) W1 W2 → W1.heap.size = W2.heap.size → I pre Fp W2 → Ok W2 → body.wpIn (Fence.wide.inRound l) 0 P (roundQ Ok I Ix Fp (pre ++ [x]) W2) a1 W2) (fun _ _ _ => False))
        { tmps := (ps.zip (encs x)).foldl (fun t (p, v) => t.setIfInBounds p v) a.tmps, defers := [] } W)
    (hdone : ∀ (Fp : Nat → Prop) (W : World), I xs Fp W → Ok W → ¬ Fp w.heap.size → W.heap[w.heap.size]? = some (.deferred (some [])) → w.heap.size < W.heap.size → Q .normal { a with defers := { target := .collected w.heap.size, args := #[] } :: a.defers } W)
    (hstop : ∀ (c : Code) (pre : List α) (W : World), pre <+: xs → Ix c pre W → Ok W → W.heap[w.heap.size]? = some (.deferred (some [])) → w.heap.size < W.heap.size → c.wpIn Fence.wide 0 P Q { a with defers := { target := .collected w.heap.size, args := #[] } :: a.defers } W) :
    (Code.rangeFunc g ps assign body).wpIn Fence.wide 0 P Q a w := by
  refine wpIn_rangeFunc ?_
  intro fn hfn
  rw [show Fence.wide.round = none from rfl]
  obtain ⟨rec, hrec⟩ : ∃ rec : LoopState → Option Code → Loop, rec = fun st pe => { state := st, pending := pe, fn, tmps := a.tmps, params := ps, assign, body, defers := w.heap.size } := ⟨_, rfl⟩
  obtain ⟨W1, hW1⟩ : ∃ W1, (w.alloc (.deferred (some []))).alloc (.loop (rec .ready none)) = W1 := ⟨_, rfl⟩
  have hsz : W1.heap.size = w.heap.size + 2 := by rw [← hW1]; simp
  have hL1 : W1.heap[w.heap.size + 1]? = some (.loop (rec .ready none)) := by
    rw [← hW1]; have := World.alloc_heap_new (w.alloc (.deferred (some []))) (.loop (rec .ready none)); rwa [World.size_alloc] at this
  have hK1 : W1.heap[w.heap.size]? = some (.deferred (some [])) := by
    rw [← hW1]; exact (Below.heap_alloc _ _ _ (by simp)).trans (World.alloc_heap_new w _)
  have hch : ∀ S, Chg S w W1 := fun S => by rw [← hW1]; exact ((Chg.refl S w).alloc _).alloc _
  have hOk1 : Ok W1 := hOkn _ _ hOk (hch _)
  have hI1 : I [] Fp0 W1 := hI _ _ _ _ h0 (hch _) hOk1
  have hb1 : Below w.heap.size w W1 := (hch (fun k => w.heap.size ≤ k)).below (fun k _ h => h) (Nat.le_refl _)
  refine ⟨w.heap.size + 1, [{ target := .collected w.heap.size, args := #[] }], W1, { target := .fn (.func gf) lb, args := #[.func (.yield (w.heap.size + 1)) #[] #[]] }, W1, gf,
    #[.func (.yield (w.heap.size + 1)) #[] #[]] ++ lb, W1, ?_, ?_, ?_, ?_, (fun h => by cases h), ?_⟩
  · rw [← hW1, hrec]; exact run_enterLoop_outer _ _ _ _ _
  · simp only [resolve, hg]
    simp [go_sem]
  · intro f' _; trivial
  · simp [invoke, go_sem, eg]
  · refine (hit (w.heap.size + 1)
      (fun pre Fp W => I pre Fp W ∧ ¬ Fp w.heap.size ∧ ¬ Fp (w.heap.size + 1) ∧ W.heap[w.heap.size + 1]? = some (.loop (rec .ready none)) ∧ W.heap[w.heap.size]? = some (.deferred (some [])))
      (fun pre W => ∃ c, Ix c pre W ∧ W.heap[w.heap.size + 1]? = some (.loop (rec .done (some c))) ∧ W.heap[w.heap.size]? = some (.deferred (some [])))
      W1 Fp0 hb1 (by omega) (by omega) (fun k hk => by have := hF0 k hk; omega) ?_ ?_ ?_
      ⟨hI1, fun h => by have := hF0 _ h; omega, fun h => by have := hF0 _ h; omega, hL1, hK1⟩ hOk1).mono ?_
    · rintro pre Fp A B ⟨hi, hfD, hfl, hl, hk⟩ hc hok
      refine ⟨hI _ _ _ _ hi (hc.mono (fun k _ h => h.imp id (fun h => ⟨by omega, h.2⟩))) hok, hfD, hfl, hc.heap hl (fun h => ?_), hc.heap hk (fun h => ?_)⟩
      · rcases h with h | h
        · have := hM _ h; omega
        · have := h.1; omega
      · rcases h with h | h
        · have := hM _ h; omega
        · have := h.1; omega
    · rintro pre A B ⟨c, hi, hl, hk⟩ hc hok
      refine ⟨c, hIx _ _ _ _ hi (hc.mono (fun k _ h => h.imp id (fun h => by omega))) hok, hc.heap hl (fun h => ?_), hc.heap hk (fun h => ?_)⟩
      · rcases h with h | h
        · have := hM _ h; omega
        · omega
      · rcases h with h | h
        · have := hM _ h; omega
        · omega
    · -- ONE ROUND
      rintro pre x Fp W hpre ⟨hi, hfD, hfl, hl, hk⟩ hok hFp
      have hlt : w.heap.size + 1 < W.heap.size := (Array.getElem?_eq_some_iff.1 hl).1
      have hy := run_yield (P := P) (args := encs x) hl (by rw [hrec]; exact hps x)
      rw [hrec] at hy
      refine ⟨fn, _, assign, body, hy, roundIn_of_wpIn hfn (wpIn_mono (hround _ pre x Fp W (by omega) hlt hfl hFp hpre hi hok) ?_)⟩
      clear hy
      intro e a1 Wa hp
      cases e with
      | normal =>
        obtain ⟨hca, hbody⟩ := hp
        have hla := hca.heap hl (fun h => h)
        have hka := hca.heap hk (fun h => h)
        have hlta : w.heap.size + 1 < Wa.heap.size := (Array.getElem?_eq_some_iff.1 hla).1
        refine ⟨_, run_beginRound hla (by rw [hrec]), ?_⟩
        have hl2 : (Wa.putObj (w.heap.size + 1) (.loop { rec .ready none with state := .busy })).heap[w.heap.size + 1]? = some (.loop { rec .ready none with state := .busy }) := World.putObj_heap_same hlta
        have hk2 : (Wa.putObj (w.heap.size + 1) (.loop { rec .ready none with state := .busy })).heap[w.heap.size]? = some (.deferred (some [])) := (World.putObj_heap_other (by omega)).trans hka
        have hc2 : Chg (fun k => k = w.heap.size + 1) Wa (Wa.putObj (w.heap.size + 1) (.loop { rec .ready none with state := .busy })) := (Chg.refl (fun k => k = w.heap.size + 1) _).putObj (l := w.heap.size + 1) (fun _ => rfl) _
        have hcW : Chg (fun k => k = w.heap.size + 1) W (Wa.putObj (w.heap.size + 1) (.loop { rec .ready none with state := .busy })) := (hca.mono (fun _ _ h => h.elim)).trans hc2
        have hok2 : Ok (Wa.putObj (w.heap.size + 1) (.loop { rec .ready none with state := .busy })) := hOkn _ _ hok (hcW.mono (fun k _ e => by omega))
        have hi2 : I pre Fp (Wa.putObj (w.heap.size + 1) (.loop { rec .ready none with state := .busy })) := hI _ _ _ _ hi (hcW.mono (fun k _ e => .inr ⟨by omega, by rw [e]; exact hfl⟩)) hok2
        refine wpIn_mono (hbody _ hc2 (by simp) hi2 hok2) ?_
        have hszl : (Wa.putObj (w.heap.size + 1) (.loop { rec .ready none with state := .busy })).heap.size = Wa.heap.size := by simp
        have hWa : W.heap.size ≤ Wa.heap.size := hca.size
        have fin : ∀ (jump : Option Code) (W3 : World), Chg Fp (Wa.putObj (w.heap.size + 1) (.loop { rec .ready none with state := .busy })) W3 →
            (Instr.endRound (w.heap.size + 1) jump).run P W3 = .ok (.bool jump.isNone) (W3.putObj (w.heap.size + 1) (.loop (rec (if jump.isNone then .ready else .done) jump))) ∧
            W3.heap[w.heap.size + 1]? = some (.loop { rec .ready none with state := .busy }) ∧
            (W3.putObj (w.heap.size + 1) (.loop (rec (if jump.isNone then .ready else .done) jump))).heap[w.heap.size + 1]? = some (.loop (rec (if jump.isNone then .ready else .done) jump)) ∧
            (W3.putObj (w.heap.size + 1) (.loop (rec (if jump.isNone then .ready else .done) jump))).heap[w.heap.size]? = some (.deferred (some [])) := fun jump W3 hk3 => by
          have hl3 := hk3.heap hl2 hfl
          have := run_endRound (P := P) jump hl3
          rw [hrec] at this ⊢
          exact ⟨this, by rw [hrec] at hl3; exact hl3, World.putObj_heap_same (Array.getElem?_eq_some_iff.1 hl3).1, (World.putObj_heap_other (by omega)).trans (hk3.heap hk2 hfD)⟩
        rintro e a3 W3 hp
        cases e with
        | normal =>
          obtain ⟨Fp', hi3, hc3, hok3, hF3⟩ := hp
          obtain ⟨hr, hl3, hl4, hk4⟩ := fin none W3 hc3
          have hlt3 : w.heap.size + 1 < W3.heap.size := (Array.getElem?_eq_some_iff.1 hl3).1
          have hnl : ¬ Fp' (w.heap.size + 1) := fun h => hfl ((hF3 _ h).2 (by rw [hszl]; omega))
          have hnD : ¬ Fp' w.heap.size := fun h => hfD ((hF3 _ h).2 (by rw [hszl]; omega))
          have hc4 : Chg (fun k => k = w.heap.size + 1) W3 (W3.putObj (w.heap.size + 1) (.loop (rec .ready none))) := (Chg.refl (fun k => k = w.heap.size + 1) _).putObj (l := w.heap.size + 1) (fun _ => rfl) _
          have hok4 : Ok (W3.putObj (w.heap.size + 1) (.loop (rec .ready none))) := hOkn _ _ hok3 (hc4.mono (fun k _ e => by omega))
          refine ⟨_, _, hr, .inl ⟨rfl, Fp', ⟨hI _ _ _ _ hi3 (hc4.mono (fun k _ e => .inr ⟨by omega, by rw [e]; exact hnl⟩)) hok4, hnD, hnl, hl4, hk4⟩, ?_, hok4, fun k hk' => ⟨by have := (hF3 k hk').1; simpa using this, fun hlt' => (hF3 k hk').2 (by rw [hszl]; omega)⟩⟩⟩
          exact ((hcW.mono (fun k _ e => .inr e)).trans (hc3.mono (fun k _ e => .inl e))).trans (hc4.mono (fun k _ e => .inr e))
        | ret =>
          obtain ⟨hi3, hc3, hok3⟩ := hp
          obtain ⟨hr, hl3, hl4, hk4⟩ := fin (some .ret) W3 hc3
          have hc4 : Chg (fun k => w.heap.size ≤ k) W3 (W3.putObj (w.heap.size + 1) (.loop (rec .done (some .ret)))) := (Chg.refl _ _).putObj (fun _ => by omega) _
          have hok4 := hOkn _ _ hok3 hc4
          exact ⟨_, _, hr, .inr ⟨rfl, ⟨.ret, hIx _ _ _ _ hi3 (hc4.mono (fun k _ h => .inr h)) hok4, hl4, hk4⟩, hok4⟩⟩
        | exit id =>
          obtain ⟨hi3, hc3, hok3⟩ := hp
          obtain ⟨hr, hl3, hl4, hk4⟩ := fin (some (.exit id)) W3 hc3
          have hc4 : Chg (fun k => w.heap.size ≤ k) W3 (W3.putObj (w.heap.size + 1) (.loop (rec .done (some (.exit id))))) := (Chg.refl _ _).putObj (fun _ => by omega) _
          have hok4 := hOkn _ _ hok3 hc4
          exact ⟨_, _, hr, .inr ⟨rfl, ⟨.exit id, hIx _ _ _ _ hi3 (hc4.mono (fun k _ h => .inr h)) hok4, hl4, hk4⟩, hok4⟩⟩
        | goto t =>
          obtain ⟨hi3, hc3, hok3⟩ := hp
          obtain ⟨hr, hl3, hl4, hk4⟩ := fin (some (.goto t)) W3 hc3
          have hc4 : Chg (fun k => w.heap.size ≤ k) W3 (W3.putObj (w.heap.size + 1) (.loop (rec .done (some (.goto t))))) := (Chg.refl _ _).putObj (fun _ => by omega) _
          have hok4 := hOkn _ _ hok3 hc4
          exact ⟨_, _, hr, .inr ⟨rfl, ⟨.goto t, hIx _ _ _ _ hi3 (hc4.mono (fun k _ h => .inr h)) hok4, hl4, hk4⟩, hok4⟩⟩
        | panic ch => exact hp.elim
        | outgrown => exact hp.elim
      | ret => exact hp.elim
      | exit id => exact hp.elim
      | goto t => exact hp.elim
      | panic ch => exact hp.elim
      | outgrown => exact hp.elim
    · -- BEHIND THE ITERATOR
      rintro e W2 ⟨⟨v, rfl⟩, (⟨Fp, ⟨hi, hfD, hfl, hl, hk⟩, hok, hF⟩ | ⟨pre, hpre, ⟨c, hi, hl, hk⟩, hok⟩)⟩
      · have hc4 : Chg (fun k => k = w.heap.size + 1) W2 (W2.putObj (w.heap.size + 1) (.loop { rec .ready none with state := .exhausted })) := (Chg.refl (fun k => k = w.heap.size + 1) _).putObj (l := w.heap.size + 1) (fun _ => rfl) _
        have hok4 := hOkn _ _ hok (hc4.mono (fun k _ e => by omega))
        have hlt : w.heap.size + 1 < W2.heap.size := (Array.getElem?_eq_some_iff.1 hl).1
        exact ⟨none, _, by have := run_endLoop (P := P) hl (by rw [hrec]; simp); rw [hrec] at this ⊢; exact this,
          hdone Fp _ (hI _ _ _ _ hi (hc4.mono (fun k _ e => .inr ⟨by omega, by rw [e]; exact hfl⟩)) hok4) hok4 hfD ((World.putObj_heap_other (by omega)).trans hk) (by rw [World.putObj_size]; omega)⟩
      · have hc4 : Chg (fun k => w.heap.size ≤ k) W2 (W2.putObj (w.heap.size + 1) (.loop { rec .done (some c) with state := .exhausted })) := (Chg.refl _ _).putObj (fun _ => by omega) _
        have hok4 := hOkn _ _ hok hc4
        have hlt : w.heap.size + 1 < W2.heap.size := (Array.getElem?_eq_some_iff.1 hl).1
        exact ⟨some c, _, by have := run_endLoop (P := P) hl (by rw [hrec]; simp); rw [hrec] at this ⊢; exact this,
          hstop c pre _ hpre (hIx _ _ _ _ hi (hc4.mono (fun k _ h => .inr h)) hok4) hok4 ((World.putObj_heap_other (by omega)).trans hk) (by rw [World.putObj_size]; omega)⟩
end Go.Proofs.YtemeapfnfegkiaaK
end
section
namespace Go.Proofs.Ytemeapfnfegkiaa.PR
open Go.RowKit Go.Proofs.YtemeapfnfegkiaaW.PrintWords Go.Proofs.YtemeapfnfegkiaaW.PrintLast Go.Proofs.YtemeapfnfegkiaaW.PrintMore
attribute [local go_sem] max2_int min2_int max_two min_two max_three min_three max_four min_four   -- for this text's walks alone
set_option linter.unusedVariables false
set_option linter.unusedSimpArgs false



def errW : Option Int → Value
 | none => .nilIface
 | some c => .iface 0 (.int .i64 c)
theorem errW_none : errW none = .nilIface := rfl
theorem errW_some (c : Int) : errW (some c) = .iface 0 (.int .i64 c) := rfl

theorem info3 : (Try.prog.info? 3).map (fun i => (i.zero, i.size, i.bytes)) = some (some (.int .i64 0), 1, 8) := by kernel_rfl
theorem info46 : (Try.prog.info? 46).map (fun i => (i.zero, i.size, i.bytes)) = some (some (.slice none 0 0), 1, 24) := by kernel_rfl
theorem info57 : (Try.prog.info? 57).map (fun i => (i.zero, i.size, i.bytes)) = some (some (.agg #[(.int .i64 0), (.slice none 0 0)]), 2, 32) := by kernel_rfl
structure S80 where
 f0 : Int
 f1 : Int
 f2 : Bool
def z80 : S80 := ⟨(0 : Int), (0 : Int), false⟩
def k80 : Kd S80 := Kd.iso (Kd.pair (Kd.int .i64) (Kd.pair (Kd.int .i64) Kd.bool)) (fun x : S80 => (x.f0, x.f1, x.f2))
theorem k80_open {w : World} {x : S80} {cs : List Value} (h : k80.K w x cs) : cs = [.int .i64 x.f0, .int .i64 x.f1, .bool x.f2] := by
 obtain ⟨_, _, rfl, rfl, ⟨_, _, rfl, rfl, rfl⟩⟩ := h
 exact rfl
theorem k80_mk (w : World) (x : S80)  : k80.K w x [.int .i64 x.f0, .int .i64 x.f1, .bool x.f2] := ⟨[.int .i64 x.f0], [.int .i64 x.f1, .bool x.f2], rfl, rfl, ⟨[.int .i64 x.f1], [.bool x.f2], rfl, rfl, rfl⟩⟩
def rd_T80 (xs : List S80) (i : Int) : S80 := xs.getD i.toNat z80
theorem at_T80 {w : World} {A : Option Addr} {n : Nat} {xs : List S80} (h : Kd.C k80 w A n xs) (i : Int) (h0 : 0 ≤ i) (h1 : i < n) : ∃ ad , A = some ad ∧ w.cell? (ad.add (i.toNat * 3)) = some (.int .i64 (rd_T80 xs i).f0) ∧ w.cell? ⟨(ad.add (i.toNat * 3)).block, (ad.add (i.toNat * 3)).off + 1, none⟩ = some (.int .i64 (rd_T80 xs i).f1) ∧ w.cell? ⟨(ad.add (i.toNat * 3)).block, (ad.add (i.toNat * 3)).off + 2, none⟩ = some (.bool (rd_T80 xs i).f2) := by
 obtain ⟨ad, c, e, _, hK, hc0⟩ := Kd.C_get h z80 i h0 h1
 have hc : ∀ j u, c[j]? = some u → w.cell? (ad.add (i.toNat * 3 + j)) = some u := hc0
 obtain rfl := k80_open hK
 exact ⟨ad, e, hc 0 _ rfl, by rw [← add_field _ _ 1 (by omega)]; exact hc 1 _ rfl, by rw [← add_field _ _ 2 (by omega)]; exact hc 2 _ rfl⟩

structure S52 where
 f0 : Int
 f1 : Int
 f2 : Bool
def z52 : S52 := ⟨(0 : Int), (0 : Int), false⟩
def k52 : Kd S52 := Kd.iso (Kd.pair (Kd.int .i64) (Kd.pair (Kd.int .i64) Kd.bool)) (fun x : S52 => (x.f0, x.f1, x.f2))
theorem k52_open {w : World} {x : S52} {cs : List Value} (h : k52.K w x cs) : cs = [.int .i64 x.f0, .int .i64 x.f1, .bool x.f2] := by
 obtain ⟨_, _, rfl, rfl, ⟨_, _, rfl, rfl, rfl⟩⟩ := h
 exact rfl
theorem k52_mk (w : World) (x : S52)  : k52.K w x [.int .i64 x.f0, .int .i64 x.f1, .bool x.f2] := ⟨[.int .i64 x.f0], [.int .i64 x.f1, .bool x.f2], rfl, rfl, ⟨[.int .i64 x.f1], [.bool x.f2], rfl, rfl, rfl⟩⟩
def rd_T52 (xs : List S52) (i : Int) : S52 := xs.getD i.toNat z52
theorem at_T52 {w : World} {A : Option Addr} {n : Nat} {xs : List S52} (h : Kd.C k52 w A n xs) (i : Int) (h0 : 0 ≤ i) (h1 : i < n) : ∃ ad , A = some ad ∧ w.cell? (ad.add (i.toNat * 3)) = some (.int .i64 (rd_T52 xs i).f0) ∧ w.cell? ⟨(ad.add (i.toNat * 3)).block, (ad.add (i.toNat * 3)).off + 1, none⟩ = some (.int .i64 (rd_T52 xs i).f1) ∧ w.cell? ⟨(ad.add (i.toNat * 3)).block, (ad.add (i.toNat * 3)).off + 2, none⟩ = some (.bool (rd_T52 xs i).f2) := by
 obtain ⟨ad, c, e, _, hK, hc0⟩ := Kd.C_get h z52 i h0 h1
 have hc : ∀ j u, c[j]? = some u → w.cell? (ad.add (i.toNat * 3 + j)) = some u := hc0
 obtain rfl := k52_open hK
 exact ⟨ad, e, hc 0 _ rfl, by rw [← add_field _ _ 1 (by omega)]; exact hc 1 _ rfl, by rw [← add_field _ _ 2 (by omega)]; exact hc 2 _ rfl⟩

def rd_L4 (xs : List (List Int)) (i : Int) : (List Int) := xs.getD i.toNat ([] : List Int)
theorem at_L4 {w : World} {A : Option Addr} {n : Nat} {xs : List (List Int)} (h : Kd.C (Kd.slice 3 (Kd.int .i64)) w A n xs) (i : Int) (h0 : 0 ≤ i) (h1 : i < n) : ∃ ad A0 c0, A = some ad ∧ w.cell? (ad.add i.toNat) = some (.slice A0 (rd_L4 xs i).length c0) ∧ (rd_L4 xs i).length ≤ c0 ∧ (Kd.int .i64).C w A0 (rd_L4 xs i).length (rd_L4 xs i) := by
 obtain ⟨ad, c, e, _, hK, hc0⟩ := Kd.C_get h ([] : List Int) i h0 h1
 have hc : ∀ j u, c[j]? = some u → w.cell? (ad.add (i.toNat * 1 + j)) = some u := hc0
 obtain ⟨A0, c0, rfl, l0, g0⟩ := hK
 exact ⟨ad, A0, c0, e, by have hq := hc 0 _ rfl; rwa [Nat.mul_one, Nat.add_zero] at hq, l0, g0⟩

structure S57 where
 f0 : Int
 f1 : (List Int)
def z57 : S57 := ⟨(0 : Int), ([] : List Int)⟩
def k57 : Kd S57 := Kd.iso (Kd.pair (Kd.int .i64) (Kd.slice 3 (Kd.int .i64))) (fun x : S57 => (x.f0, x.f1))
theorem k57_open {w : World} {x : S57} {cs : List Value} (h : k57.K w x cs) : ∃ A1 c1, cs = [.int .i64 x.f0, .slice A1 x.f1.length c1] ∧ x.f1.length ≤ c1 ∧ (Kd.int .i64).C w A1 x.f1.length x.f1 := by
 obtain ⟨_, _, rfl, rfl, ⟨A1, c1, rfl, l1, g1⟩⟩ := h
 exact ⟨A1, c1, rfl, l1, g1⟩
theorem k57_mk (w : World) (x : S57) {A1 : Option Addr} {c1 : Nat} (l1 : x.f1.length ≤ c1) (g1 : (Kd.int .i64).C w A1 x.f1.length x.f1) : k57.K w x [.int .i64 x.f0, .slice A1 x.f1.length c1] := ⟨[.int .i64 x.f0], [.slice A1 x.f1.length c1], rfl, rfl, ⟨A1, c1, rfl, l1, g1⟩⟩
theorem k57_openF {W : World} {ok : Nat → Prop} {x : S57} {cs : List Value} (h : Kd.FK k57 W ok x cs) : ∃ A1 c1, cs = [.int .i64 x.f0, .slice A1 x.f1.length c1] ∧ x.f1.length ≤ c1 ∧ Kd.F (Kd.int .i64) W ok A1 x.f1.length x.f1 := by
 obtain ⟨A1, c1, rfl, l1, _⟩ := k57_open (Kd.FK_now h)
 exact ⟨A1, c1, rfl, l1, (fun W' hW => by obtain ⟨A1_, c1_, he, l1_, g1_⟩ := k57_open (h W' hW); injection (Option.some.inj (show some (Value.slice A1 x.f1.length c1) = some (Value.slice A1_ x.f1.length c1_) from congrArg (fun l => l[1]?) he)) with ha_ _ _; rw [ha_]; exact g1_)⟩
theorem k57_mkF (W : World) (ok : Nat → Prop) (x : S57) {A1 : Option Addr} {c1 : Nat} (l1 : x.f1.length ≤ c1) (g1 : Kd.F (Kd.int .i64) W ok A1 x.f1.length x.f1) : Kd.FK k57 W ok x [.int .i64 x.f0, .slice A1 x.f1.length c1] := fun W2 hW => k57_mk W2 x l1 (g1 W2 hW)
def rd_T57 (xs : List S57) (i : Int) : S57 := xs.getD i.toNat z57
theorem at_T57 {w : World} {A : Option Addr} {n : Nat} {xs : List S57} (h : Kd.C k57 w A n xs) (i : Int) (h0 : 0 ≤ i) (h1 : i < n) : ∃ ad A1 c1, A = some ad ∧ w.cell? (ad.add (i.toNat * 2)) = some (.int .i64 (rd_T57 xs i).f0) ∧ w.cell? ⟨(ad.add (i.toNat * 2)).block, (ad.add (i.toNat * 2)).off + 1, none⟩ = some (.slice A1 (rd_T57 xs i).f1.length c1) ∧ (rd_T57 xs i).f1.length ≤ c1 ∧ (Kd.int .i64).C w A1 (rd_T57 xs i).f1.length (rd_T57 xs i).f1 := by
 obtain ⟨ad, c, e, _, hK, hc0⟩ := Kd.C_get h z57 i h0 h1
 have hc : ∀ j u, c[j]? = some u → w.cell? (ad.add (i.toNat * 2 + j)) = some u := hc0
 obtain ⟨A1, c1, rfl, l1, g1⟩ := k57_open hK
 exact ⟨ad, A1, c1, e, hc 0 _ rfl, by rw [← add_field _ _ 1 (by omega)]; exact hc 1 _ rfl, l1, g1⟩

end Go.Proofs.Ytemeapfnfegkiaa.PR
end
section
/- Package disk: out, and the words of its contracts. -/
namespace Go.Proofs.Ytemeapfnfegkiaa.D
open Go Go.RowKit Go.Proofs.YtemeapfnfegkiaaK Go.Proofs.YtemeapfnfegkiaaW.PrintWords Go.Proofs.YtemeapfnfegkiaaW.PrintLast Go.Proofs.YtemeapfnfegkiaaW.PrintMore Go.Proofs.Ytemeapfnfegkiaa.PR
set_option linter.unusedVariables false
set_option linter.unusedSimpArgs false

theorem C_lit {W : World} {b : Nat} {t : TypeId} {l : List Int} (h : W.heap[b]? = some (.cells (l.map (Value.int .i64)).toArray t (0, 0))) (hl : l.length ≤ 9223372036854775807) :
    Kd.C (Kd.int .i64) W (some ⟨b, 0, none⟩) l.length l := by
  refine ⟨rfl, hl, fun _ => ⟨_, rfl, fun j p hj => ⟨[.int .i64 p], rfl, rfl, fun i u hu => ?_⟩⟩⟩
  have hi : i = 0 := by
    have := (List.getElem?_eq_some_iff.1 hu).1
    simpa using this
  subst hi
  simp at hu
  subst hu
  rw [add_plain, blk_cell h]
  show (l.map (Value.int .i64)).toArray[j * 1 + 0]? = _
  simp [hj]

theorem at_nat {w : World} {A : Option Addr} {n : Nat} {l : List Int} (h : Kd.C (Kd.int .i64) w A n l) (k : Nat) (hk : k < n) : ∃ ad, A = some ad ∧ w.cell? (ad.add k) = some (.int .i64 (rd l k)) := by
  obtain ⟨ad, e, hc⟩ := Kd.at_int h k (by omega) (by omega)
  exact ⟨ad, e, by rw [Int.toNat_natCast] at hc; exact hc⟩

def outB (lo hi : Int) (l : List Int) : Bool := l.any fun n => decide (n < lo) || decide (hi < n)

set_option maxHeartbeats 400000 in
theorem out_calls (lo hi : Int) (l : List Int) (A : Option Addr) (c : Nat) (w : World) (hr : Kd.C (Kd.int .i64) w A l.length l) :
    Calls Try.prog 78 #[.int .i64 lo, .int .i64 hi, .slice A l.length c] w fun e w' => e = .returned (.bool (outB lo hi l)) ∧ w = w' := by
  have hlen := hr.2.1
  have HR := Aside0.mk hr
  clear hr
  go_enter Try.func78, Try.ntmps78
  go_wp2
  go_loop [11] (fun i => ∃ k : Nat, k ≤ l.length ∧ i = .int .i64 k ∧ Hid (outB lo hi l = outB lo hi (l.drop k))) (fun i => l.length - (intOf i).toNat)
  case atStart => exact ⟨0, Nat.zero_le _, rfl, rfl⟩
  case round =>
    obtain ⟨k, hk, rfl, HO⟩ := hrel
    by_cases hlt : k < l.length
    · obtain ⟨ad, e, hc⟩ := at_nat HR.out k hlt
      subst e
      have hd : l.drop k = rd l k :: l.drop (k + 1) := by
        rw [List.drop_eq_getElem_cons hlt]; congr 1
        simp [rd, hlt]
      have HO2 : Hid (outB lo hi l = ((decide (rd l k < lo) || decide (hi < rd l k)) || outB lo hi (l.drop (k + 1)))) := by
        show outB lo hi l = _
        rw [HO.out, hd]; simp [outB]
      clear hd HO
      generalize rd l k = x at *
      go_wp2
      all_goals first
        | (go_ret; exact ⟨by rw [HO2.out]; simp [*], rfl⟩)
        | (go_round
           case rel => exact ⟨k + 1, by omega, by go_num, by show _ = _; rw [HO2.out]; simp [*]; omega⟩
           case measure => simp [intOf]; omega)
    · obtain rfl : k = l.length := by omega
      go_wp2
      go_ret
      exact ⟨by rw [HO.out]; simp [outB], rfl⟩
end Go.Proofs.Ytemeapfnfegkiaa.D
end
section
/- Package disk: the closures of Check, first, Check. -/
namespace Go.Proofs.Ytemeapfnfegkiaa.D
open Go Go.RowKit Go.Proofs.YtemeapfnfegkiaaK Go.Proofs.YtemeapfnfegkiaaW.PrintWords Go.Proofs.YtemeapfnfegkiaaW.PrintLast Go.Proofs.YtemeapfnfegkiaaW.PrintMore Go.Proofs.Ytemeapfnfegkiaa.PR
set_option linter.unusedVariables false
set_option linter.unusedSimpArgs false

abbrev Spot := S80
abbrev Told := S52
abbrev Spot.v (x : Spot) : Value := .agg #[.int .i64 x.f0, .int .i64 x.f1, .bool x.f2]
abbrev Told.v (x : Told) : Value := .agg #[.int .i64 x.f0, .int .i64 x.f1, .bool x.f2]

set_option maxHeartbeats 400000 in
theorem C11_calls (x d : Spot) (q : Nat) (w : World) (hq : w.heap[q]? = some (.cells #[.int .i64 d.f0, .int .i64 d.f1, .bool d.f2] 80 (0, 0))) :
    Calls Try.prog 82 #[.agg #[.int .i64 x.f0, .int .i64 x.f1, .bool x.f2], .pointer (some ⟨q, 0, none⟩)] w fun e w' => e = .returned (.bool (x.f0 == d.f0 && x.f1 == d.f1)) ∧ Below w.heap.size w w' := by
  have h0 : w.cell? ⟨q, 0, none⟩ = some (.int .i64 d.f0) := (blk_cell hq 0).trans rfl
  have h1 : w.cell? ⟨q, 1, none⟩ = some (.int .i64 d.f1) := (blk_cell hq 1).trans rfl
  have hlt := blk_lt hq
  clear hq
  go_enter Try.func82, Try.ntmps82
  go_wp2
  all_goals (go_ret; exact ⟨by simp [*], below_alloc (Below.refl _ _) _⟩)

theorem at_spot {w : World} {A : Option Addr} {n : Nat} {xs : List Spot} (h : Kd.C k80 w A n xs) (k : Nat) (hk : k < n) : ∃ ad, A = some ad ∧ w.cell? (ad.add (k * 3)) = some (.int .i64 (rd_T80 xs k).f0) ∧ w.cell? ⟨(ad.add (k * 3)).block, (ad.add (k * 3)).off + 1, none⟩ = some (.int .i64 (rd_T80 xs k).f1) ∧ w.cell? ⟨(ad.add (k * 3)).block, (ad.add (k * 3)).off + 2, none⟩ = some (.bool (rd_T80 xs k).f2) := by
  have := at_T80 h (k : Int) (by omega) (by omega)
  simpa only [Int.toNat_natCast] using this
theorem at_told {w : World} {A : Option Addr} {n : Nat} {xs : List Told} (h : Kd.C k52 w A n xs) (k : Nat) (hk : k < n) : ∃ ad, A = some ad ∧ w.cell? (ad.add (k * 3)) = some (.int .i64 (rd_T52 xs k).f0) ∧ w.cell? ⟨(ad.add (k * 3)).block, (ad.add (k * 3)).off + 1, none⟩ = some (.int .i64 (rd_T52 xs k).f1) ∧ w.cell? ⟨(ad.add (k * 3)).block, (ad.add (k * 3)).off + 2, none⟩ = some (.bool (rd_T52 xs k).f2) := by
  have := at_T52 h (k : Int) (by omega) (by omega)
  simpa only [Int.toNat_natCast] using this
theorem spot_at (xs : List Spot) (k : Nat) (hk : k < xs.length) : rd_T80 xs (k : Int) = xs[k] := by simp [rd_T80, hk]
theorem told_at (xs : List Told) (k : Nat) (hk : k < xs.length) : rd_T52 xs (k : Int) = xs[k] := by simp [rd_T52, hk]

def idxFrom {α : Type} (p : α → Bool) : List α → Nat → Int
  | [], _ => -1
  | x :: xs, k => if p x then k else idxFrom p xs (k + 1)
theorem idxFrom_pos {α : Type} (p : α → Bool) : ∀ (l : List α) (k : Nat), decide (0 ≤ idxFrom p l k) = l.any p
  | [], _ => by simp [idxFrom]
  | x :: xs, k => by
    unfold idxFrom
    by_cases h : p x = true
    · rw [if_pos h]; simp [h]
    · rw [if_neg h, idxFrom_pos p xs (k + 1)]; simp [h]

def sameAs (d x : Spot) : Bool := x.f0 == d.f0 && x.f1 == d.f1

set_option maxHeartbeats 400000 in
theorem indexS_calls (l : List Spot) (n : Nat) (d : Spot) (q : Nat) (A : Option Addr) (c : Nat) (w : World) (hr : Kd.C k80 w A n l) (hq : w.heap[q]? = some (.cells #[.int .i64 d.f0, .int .i64 d.f1, .bool d.f2] 80 (0, 0))) :
    Calls Try.prog 117 #[.slice A n c, .func (.func 82) #[] #[.pointer (some ⟨q, 0, none⟩)]] w fun e w' => e = .returned (.int .i64 (idxFrom (sameAs d) l 0)) ∧ Below w.heap.size w w' := by
  obtain rfl := hr.1
  have hlen := hr.2.1
  have HR := Aside0.mk hr
  have HQ := Aside0.mk hq
  clear hr hq
  go_enter Try.func117, Try.ntmps117
  go_wp2
  go_loopw [5, 8] (fun i j wr => ∃ k : Nat, k ≤ l.length ∧ j = .int .i64 k ∧ Aside0 (idxFrom (sameAs d) l 0 = idxFrom (sameAs d) (l.drop k) k) ∧ Aside0 (Below w.heap.size w wr)) (fun i j _ => l.length - (intOf j).toNat)
  case atStart => exact ⟨0, Nat.zero_le _, rfl, ⟨rfl⟩, ⟨Below.refl _ _⟩⟩
  case round =>
    obtain ⟨k, hk, rfl, HO, HB⟩ := hrel
    by_cases hlt : k < l.length
    · obtain ⟨ad, e, hc0, hc1, hc2⟩ := at_spot (Kd.C_below HR.out HB.out) k hlt
      subst e
      rw [spot_at _ _ hlt] at hc0 hc1 hc2
      have HO2 := Aside0.mk (show idxFrom (sameAs d) l 0 = if sameAs d l[k] then (k : Int) else idxFrom (sameAs d) (l.drop (k + 1)) (k + 1) by
        rw [HO.out, List.drop_eq_getElem_cons hlt]; rfl)
      clear HO
      generalize l[k] = x at *
      have hq1 := blk_below HQ.out HB.out
      by_cases hs : sameAs d x = true
      · have hs' := Aside0.mk hs
        clear hs
        go_wp2_with (go_at_call 82; refine (C11_calls x d q _ (by assumption)).mono ?_; rintro e w1 ⟨rfl, hb1⟩; rw [show (x.f0 == d.f0 && x.f1 == d.f1) = true from hs'.out])
        go_ret
        exact ⟨by rw [HO2.out, if_pos hs'.out]; rfl, HB.out.trans (hb1.mono HB.out.size)⟩
      · have hs' := Aside0.mk (Bool.eq_false_iff.2 hs)
        clear hs
        go_wp2_with (go_at_call 82; refine (C11_calls x d q _ (by assumption)).mono ?_; rintro e w1 ⟨rfl, hb1⟩; rw [show (x.f0 == d.f0 && x.f1 == d.f1) = false from hs'.out])
        go_roundw
        case rel => exact ⟨k + 1, by omega, by go_num, ⟨by rw [HO2.out, if_neg (by rw [hs'.out]; simp)]⟩, ⟨HB.out.trans (hb1.mono HB.out.size)⟩⟩
        case measure => simp [intOf]; omega
    · obtain rfl : k = l.length := by omega
      go_wp2
      go_ret
      exact ⟨by rw [HO.out]; simp [idxFrom], HB.out⟩

set_option maxHeartbeats 400000 in
theorem containsS_calls (l : List Spot) (n : Nat) (d : Spot) (q : Nat) (A : Option Addr) (c : Nat) (w : World) (hr : Kd.C k80 w A n l) (hq : w.heap[q]? = some (.cells #[.int .i64 d.f0, .int .i64 d.f1, .bool d.f2] 80 (0, 0))) :
    Calls Try.prog 81 #[.slice A n c, .func (.func 82) #[] #[.pointer (some ⟨q, 0, none⟩)]] w fun e w' => e = .returned (.bool (l.any (sameAs d))) ∧ Below w.heap.size w w' := by
  have HR := Aside0.mk hr
  have HQ := Aside0.mk hq
  clear hr hq
  go_enter Try.func81, Try.ntmps81
  go_wp2_with (go_at_call 117; refine (indexS_calls l n d q _ _ _ HR.out HQ.out).mono ?_; rintro e w1 ⟨rfl, hb1⟩)
  go_ret
  exact ⟨by rw [← idxFrom_pos (sameAs d) l 0]; rfl, hb1⟩
end Go.Proofs.Ytemeapfnfegkiaa.D
end
section
/- Package disk: the closures of Check, first, Check. -/
namespace Go.Proofs.Ytemeapfnfegkiaa.D
open Go Go.RowKit Go.Proofs.YtemeapfnfegkiaaK Go.Proofs.YtemeapfnfegkiaaW.PrintWords Go.Proofs.YtemeapfnfegkiaaW.PrintLast Go.Proofs.YtemeapfnfegkiaaW.PrintMore Go.Proofs.Ytemeapfnfegkiaa.PR
set_option linter.unusedVariables false
set_option linter.unusedSimpArgs false

theorem C_take {α : Type} {d : Kd α} {w : World} {A : Option Addr} {n : Nat} {xs : List α} (h : d.C w A n xs) (i : Nat) (hi : i ≤ n) : d.C w A i (xs.take i) := by
  refine ⟨by rw [List.length_take, h.1]; omega, by have := h.2.1; omega, fun h0 => ?_⟩
  obtain ⟨ad, e, hc⟩ := h.2.2 (by omega)
  exact ⟨ad, e, fun j p hj => hc j p (by rw [List.getElem?_take] at hj; split at hj; · exact hj
                                         · cases hj)⟩

theorem lit1 {W : World} {b : Nat} {t : TypeId} (x : Int) (hb : W.heap.size = b) : Kd.C (Kd.int .i64) (W.alloc (.cells #[.int .i64 x] t)) (some ⟨b, 0, none⟩) [x].length [x] :=
  C_lit (t := t) (by subst hb; exact blk_new _ _) (by simp)
theorem lit2 {W : World} {b : Nat} {t : TypeId} (x y : Int) (hb : W.heap.size = b) : Kd.C (Kd.int .i64) (W.alloc (.cells #[.int .i64 x, .int .i64 y] t)) (some ⟨b, 0, none⟩) [x, y].length [x, y] :=
  C_lit (t := t) (by subst hb; exact blk_new _ _) (by simp)

def errS (l : List Spot) (i : Nat) (d : Spot) : Int := if outB (-12) 12 [d.f0, d.f1] then 7 else if (l.take i).any (sameAs d) then 5 else 0

set_option maxHeartbeats 400000 in
theorem CheckC1_calls (l : List Spot) (i : Nat) (d : Spot) (bs : Nat) (nm : ByteArray) (rad lo hi : Int) (A : Option Addr) (c : Nat) (v5 : Value) (w : World)
    (hr : Kd.C k80 w A l.length l) (hc : l.length ≤ c) (hi' : i ≤ l.length) (hs : w.heap[bs]? = some (.cells #[.string nm, .int .i64 rad, .int .i64 lo, .int .i64 hi, .slice A l.length c, v5] 27 (0, 0))) :
    Calls Try.prog 80 #[.int .i64 i, .agg #[.int .i64 d.f0, .int .i64 d.f1, .bool d.f2], .pointer (some ⟨bs, 0, none⟩)] w fun e w' => e = .returned (.int .i64 (errS l i d)) ∧ Below w.heap.size w w' := by
  have hlen := hr.2.1
  have HR := Aside0.mk hr
  have HS := Aside0.mk hs
  have hlt := blk_lt hs
  clear hr hs
  go_enter Try.func80, Try.ntmps80
  by_cases ho : outB (-12) 12 [d.f0, d.f1] = true
  · have HO := Aside0.mk ho
    clear ho
    go_wp2_with (go_at_call 78; refine (out_calls (-12) 12 [d.f0, d.f1] _ _ _ (lit2 d.f0 d.f1 (by simp))).mono ?_; rintro e w1 ⟨rfl, rfl⟩; rw [HO.out])
    go_ret
    exact ⟨by rw [errS, if_pos HO.out]; rfl, below_alloc (below_alloc (Below.refl _ _) _) _⟩
  · have HO := Aside0.mk (Bool.eq_false_iff.2 ho)
    have hs3 : w.cell? ⟨bs, 4, none⟩ = some (.slice A l.length c) := (blk_cell HS.out 4).trans rfl
    clear ho
    have hb2 := Aside0.mk (below_alloc (below_alloc (Below.refl w.heap.size w) (.cells #[.int .i64 d.f0, .int .i64 d.f1, .bool d.f2] 80)) (.cells #[.int .i64 d.f0, .int .i64 d.f1] 3))
    obtain ⟨b, hb⟩ : ∃ b, (l.take i).any (sameAs d) = b := ⟨_, rfl⟩
    have HN := Aside0.mk hb
    clear hb
    cases b
    all_goals
      go_wp2_with (first | (go_at_call 78; refine (out_calls (-12) 12 [d.f0, d.f1] _ _ _ (lit2 d.f0 d.f1 (by simp))).mono ?_; rintro e w1 ⟨rfl, rfl⟩; rw [HO.out]) | (go_at_call 81; refine (containsS_calls (l.take i) i d _ _ _ _ (C_take (Kd.C_below HR.out hb2.out) i hi') (blk_alloc (blk_new _ _) _)).mono ?_; rintro e w1 ⟨rfl, hb1⟩; rw [HN.out]))
      go_ret
      exact ⟨by rw [errS, if_neg (by rw [HO.out]; simp), HN.out]; rfl, hb2.out.trans (hb1.mono hb2.out.size)⟩

def firstE {α : Type} (E : Nat → α → Int) : List α → Nat → Int × Int
  | [], _ => (0, 0)
  | x :: xs, k => if E k x = 0 then firstE E xs (k + 1) else (k, E k x)
def firstL {α : Type} (l : List α) (most : Int) (E : Nat → α → Int) : Int × Int := if most < l.length then (0, 3) else firstE E l 0

set_option maxHeartbeats 400000 in
theorem firstS_calls (l : List Spot) (most : Int) (bs : Nat) (nm : ByteArray) (rad lo hi : Int) (A : Option Addr) (c : Nat) (v5 : Value) (w : World)
    (hr : Kd.C k80 w A l.length l) (hc : l.length ≤ c) (hs : w.heap[bs]? = some (.cells #[.string nm, .int .i64 rad, .int .i64 lo, .int .i64 hi, .slice A l.length c, v5] 27 (0, 0))) :
    Calls Try.prog 79 #[.slice A l.length c, .int .i64 most, .func (.func 80) #[] #[.pointer (some ⟨bs, 0, none⟩)]] w
      fun e w' => e = .returned (.tuple #[.int .i64 (firstL l most (errS l)).1, .int .i64 (firstL l most (errS l)).2]) ∧ Below w.heap.size w w' := by
  have hlen := hr.2.1
  have HR := Aside0.mk hr
  have HS := Aside0.mk hs
  clear hr hs
  by_cases hm : most < l.length
  · go_enter Try.func79, Try.ntmps79
    go_wp2
    go_ret2
    exact ⟨by simp [firstL, hm], Below.refl _ _⟩
  · have HM := Aside0.mk hm
    go_enter Try.func79, Try.ntmps79
    go_wp2
    go_loopw [17] (fun j wr => ∃ k : Nat, k ≤ l.length ∧ j = .int .i64 k ∧ Aside0 (firstL l most (errS l) = firstE (errS l) (l.drop k) k) ∧ Aside0 (Below w.heap.size w wr)) (fun j _ => l.length - (intOf j).toNat)
    case atStart => exact ⟨0, Nat.zero_le _, rfl, ⟨by rw [firstL, if_neg (by have := HM.out; omega)]; rfl⟩, ⟨Below.refl _ _⟩⟩
    case round =>
      obtain ⟨k, hk, rfl, HO, HB⟩ := hrel
      by_cases hlt : k < l.length
      · obtain ⟨ad, e, hc0, hc1, hc2⟩ := at_spot (Kd.C_below HR.out HB.out) k hlt
        subst e
        rw [spot_at _ _ hlt] at hc0 hc1 hc2
        have HO2 := Aside0.mk (show firstL l most (errS l) = if errS l k l[k] = 0 then firstE (errS l) (l.drop (k + 1)) (k + 1) else (k, errS l k l[k]) by
          rw [HO.out, List.drop_eq_getElem_cons hlt]; rfl)
        clear HO
        generalize l[k] = x at *
        obtain ⟨E, hE⟩ : ∃ E, errS l k x = E := ⟨_, rfl⟩
        have HE := Aside0.mk hE
        clear hE
        have HB2 := Aside0.mk (below_alloc HB.out (.cells #[.int .i64 x.f0, .int .i64 x.f1, .bool x.f2] 80))
        by_cases h0 : E = 0
        all_goals
          go_wp2_with (go_at_call 80; refine (CheckC1_calls l k x bs nm rad lo hi _ c v5 _ (Kd.C_below HR.out HB2.out) hc hk (blk_below HS.out HB2.out)).mono ?_; rintro e w1 ⟨rfl, hb1⟩; rw [HE.out])
          first
            | (go_roundw
               case rel => exact ⟨k + 1, by omega, by go_num, ⟨by rw [HO2.out, HE.out, if_pos (by assumption)]⟩, ⟨HB2.out.trans (hb1.mono HB2.out.size)⟩⟩
               case measure => simp [intOf]; omega)
            | (go_ret2
               exact ⟨by rw [HO2.out, HE.out, if_neg (by assumption)]; rfl, HB2.out.trans (hb1.mono HB2.out.size)⟩)
      · obtain rfl : k = l.length := by omega
        go_wp2
        go_ret2
        exact ⟨by rw [HO.out]; simp [firstE], HB.out⟩
end Go.Proofs.Ytemeapfnfegkiaa.D
end
section
/- Package disk: Name; Check. -/
namespace Go.Proofs.Ytemeapfnfegkiaa.D
open Go Go.RowKit Go.Proofs.YtemeapfnfegkiaaK Go.Proofs.YtemeapfnfegkiaaW.PrintWords Go.Proofs.YtemeapfnfegkiaaW.PrintLast Go.Proofs.YtemeapfnfegkiaaW.PrintMore Go.Proofs.Ytemeapfnfegkiaa.PR
set_option linter.unusedVariables false
set_option linter.unusedSimpArgs false

def okByte (first : Bool) (b : Int) : Bool := (decide (97 ≤ b) && decide (b ≤ 122)) || (!first && (b == 46 || (decide (48 ≤ b) && decide (b ≤ 57))))
def okTo (s : ByteArray) (k : Nat) : Bool := (List.range k).all fun i => okByte (i == 0) (bt s i)
def nameB (s : ByteArray) : Bool := !outB 1 16 [(s.size : Int)] && okTo s s.size

theorem bt_nat (s : ByteArray) (k : Nat) (h : k < s.size) : bt s (k : Int) = ((s[k]'h).toNat : Int) := by simp [bt, h]
theorem okTo_succ (s : ByteArray) (k : Nat) : okTo s (k + 1) = (okTo s k && okByte (k == 0) (bt s k)) := by simp [okTo, List.range_succ]
theorem okTo_le (s : ByteArray) {k n : Nat} (h : k ≤ n) (hf : okTo s k = false) : okTo s n = false := by
  induction n with
  | zero => have : k = 0 := by omega
            subst this; exact hf
  | succ n ih =>
    by_cases e : k = n + 1
    · subst e; exact hf
    · rw [okTo_succ, ih (by omega)]; rfl

theorem okByte_iff (k : Nat) (b : Int) : okByte (k == 0) b = true ↔ ((97 ≤ b ∧ b ≤ 122) ∨ (0 < k ∧ (b = 46 ∨ (48 ≤ b ∧ b ≤ 57)))) := by
  unfold okByte
  cases k <;> simp
theorem okByte_not (k : Nat) (b : Int) (h : ¬ ((97 ≤ b ∧ b ≤ 122) ∨ (0 < k ∧ (b = 46 ∨ (48 ≤ b ∧ b ≤ 57))))) : okByte (k == 0) b = false := by
  rw [Bool.eq_false_iff]; intro h'; exact h ((okByte_iff k b).1 h')

set_option maxHeartbeats 1000000 in
theorem Name_calls (s : ByteArray) (w : World) (hs : s.size ≤ 9223372036854775807) :
    Calls Try.prog 20 #[.string s] w fun e w' => e = .returned (.bool (nameB s)) ∧ Below w.heap.size w w' := by
  go_enter Try.func20, Try.ntmps20
  go_wp2
  go_loopw [7] (fun _ wr => ∃ k : Nat, k ≤ s.size ∧ wr = w.iter s k ∧ Aside0 (okTo s k = true)) (fun _ wr => s.size - wr.iterPos w.heap.size)
  case atStart => exact ⟨0, Nat.zero_le _, rfl, ⟨rfl⟩⟩
  case round =>
    obtain ⟨k, hk, rfl, HO⟩ := hrel
    by_cases hlt : k < s.size
    · by_cases ha : (s[k]'hlt).toNat < 128
      · have hn := fun ty => run_next_ascii (P := Try.prog) w s k ty hlt ha
        obtain ⟨b, hb⟩ : ∃ b : Int, ((s[k]'hlt).toNat : Int) = b := ⟨_, rfl⟩
        rw [hb] at hn
        have hbt : bt s k = b := by rw [← hb]; exact bt_nat s k hlt
        have hb0 : 0 ≤ b := by omega
        have HBT := Aside0.mk hbt
        clear hbt hb ha
        have HL : Aside0 (okByte (k == 0) b = false → nameB s = false) := ⟨fun h => by
          have : okTo s (k + 1) = false := by rw [okTo_succ, HBT.out, h]; simp
          rw [nameB, okTo_le s (show k + 1 ≤ s.size by omega) this]; simp⟩
        have HR : Aside0 (okByte (k == 0) b = true → okTo s (k + 1) = true) := ⟨fun h => by rw [okTo_succ, HBT.out, h, HO.out]; rfl⟩
        clear HO HBT
        by_cases h46 : b = 46
        · subst h46
          clear hb0
          go_wp2
          all_goals first
            | (go_roundw
               case rel => exact ⟨k + 1, by omega, rfl, ⟨HR.out ((okByte_iff _ _).2 (by omega))⟩⟩
               case measure => simp; omega)
            | (go_ret
               exact ⟨by rw [HL.out (okByte_not _ _ (by omega))]; rfl, below_alloc (Below.refl _ _) _⟩)
        · have h46' : (b == 46) = false := beq_eq_false_iff_ne.2 h46
          go_wp2
          all_goals first
            | (go_roundw
               case rel => exact ⟨k + 1, by omega, rfl, ⟨HR.out ((okByte_iff _ _).2 (by omega))⟩⟩
               case measure => simp; omega)
            | (go_ret
               exact ⟨by rw [HL.out (okByte_not _ _ (by omega))]; rfl, below_alloc (Below.refl _ _) _⟩)
      · have hn := fun ty => run_next_any (P := Try.prog) w s k ty hlt
        have hd := decode_high s k hlt (by omega)
        obtain ⟨r, hr⟩ : ∃ r, Utf8.decode s k = r := ⟨_, rfl⟩
        rw [hr] at hn hd
        obtain ⟨r, m⟩ := r
        have hr1 : ¬ ((r : Int) ≤ 122) := by have := hd.1; simp at this; omega
        have hr2 : ((r : Int) == 46) = false := beq_eq_false_iff_ne.2 (by omega)
        have hr3 : ¬ ((r : Int) ≤ 57) := by omega
        have HL : Aside0 (nameB s = false) := ⟨by
          have : okTo s (k + 1) = false := by
            rw [okTo_succ, okByte_not _ _ (by rw [bt_nat s k hlt]; omega)]; simp
          rw [nameB, okTo_le s (show k + 1 ≤ s.size by omega) this]; simp⟩
        clear hr hd ha
        go_wp2
        all_goals
          go_ret
          exact ⟨by rw [HL.out]; rfl, below_alloc (Below.refl _ _) _⟩
    · have hn := fun ty => run_next_end (P := Try.prog) w s k ty hlt
      obtain rfl : k = s.size := by omega
      go_wp2_with (go_at_call 78; refine (out_calls 1 16 [(s.size : Int)] _ _ _ (lit1 _ (by simp [World.iter]))).mono ?_; rintro e w1 ⟨rfl, rfl⟩)
      go_ret
      exact ⟨by rw [nameB, HO.out]; simp, below_alloc (below_alloc (Below.refl _ _) _) _⟩
end Go.Proofs.Ytemeapfnfegkiaa.D
end
section
/- Package disk: Check. -/
namespace Go.Proofs.Ytemeapfnfegkiaa.D
open Go Go.RowKit Go.Proofs.YtemeapfnfegkiaaK Go.Proofs.YtemeapfnfegkiaaW.PrintWords Go.Proofs.YtemeapfnfegkiaaW.PrintLast Go.Proofs.YtemeapfnfegkiaaW.PrintMore Go.Proofs.Ytemeapfnfegkiaa.PR
set_option linter.unusedVariables false
set_option linter.unusedSimpArgs false

def errT (n : Nat) (_ : Nat) (t : Told) : Int := if outB 0 ((n : Int) - 1) [t.f0, t.f1] then 4 else if t.f0 = t.f1 then 2 else 0

set_option maxHeartbeats 400000 in
theorem CheckC2_calls (n : Nat) (i : Nat) (t : Told) (bs : Nat) (nm : ByteArray) (rad lo hi : Int) (A : Option Addr) (c : Nat) (v5 : Value) (w : World)
    (hn : n ≤ 9223372036854775807) (hs : w.heap[bs]? = some (.cells #[.string nm, .int .i64 rad, .int .i64 lo, .int .i64 hi, .slice A n c, v5] 27 (0, 0))) :
    Calls Try.prog 84 #[.int .i64 i, .agg #[.int .i64 t.f0, .int .i64 t.f1, .bool t.f2], .pointer (some ⟨bs, 0, none⟩)] w fun e w' => e = .returned (.int .i64 (errT n i t)) ∧ Below w.heap.size w w' := by
  have HS := Aside0.mk hs
  have hlt := blk_lt hs
  have hs3 : w.cell? ⟨bs, 4, none⟩ = some (.slice A n c) := (blk_cell hs 4).trans rfl
  clear hs
  have hb2 := Aside0.mk (below_alloc (below_alloc (Below.refl w.heap.size w) (.cells #[.int .i64 t.f0, .int .i64 t.f1, .bool t.f2] 52)) (.cells #[.int .i64 t.f0, .int .i64 t.f1] 3))
  go_enter Try.func84, Try.ntmps84
  obtain ⟨b, hb⟩ : ∃ b, outB 0 ((n : Int) - 1) [t.f0, t.f1] = b := ⟨_, rfl⟩
  have HO := Aside0.mk hb
  clear hb
  by_cases he : t.f0 = t.f1 <;> cases b
  all_goals
    have HE := Aside0.mk he
    clear he
    go_wp2_with (go_at_call 78; refine (out_calls 0 ((n : Int) - 1) [t.f0, t.f1] _ _ _ (lit2 t.f0 t.f1 (by simp))).mono ?_; rintro e w1 ⟨rfl, rfl⟩; rw [HO.out])
    all_goals
      go_ret
      exact ⟨by rw [errT, HO.out]; first | rfl | (have := HE.out; simp [*]; done) | (have := HE.out; simp_all; done), hb2.out⟩

set_option maxHeartbeats 400000 in
theorem firstT_calls (l : List Told) (n : Nat) (most : Int) (bs : Nat) (nm : ByteArray) (rad lo hi : Int) (A4 : Option Addr) (c4 : Nat) (A : Option Addr) (c : Nat) (v5 : Value) (w : World)
    (hr : Kd.C k52 w A l.length l) (hn : n ≤ 9223372036854775807) (hs : w.heap[bs]? = some (.cells #[.string nm, .int .i64 rad, .int .i64 lo, .int .i64 hi, .slice A4 n c4, v5] 27 (0, 0))) :
    Calls Try.prog 83 #[.slice A l.length c, .int .i64 most, .func (.func 84) #[] #[.pointer (some ⟨bs, 0, none⟩)]] w
      fun e w' => e = .returned (.tuple #[.int .i64 (firstL l most (errT n)).1, .int .i64 (firstL l most (errT n)).2]) ∧ Below w.heap.size w w' := by
  have hlen := hr.2.1
  have HR := Aside0.mk hr
  have HS := Aside0.mk hs
  clear hr hs
  by_cases hm : most < l.length
  · go_enter Try.func83, Try.ntmps83
    go_wp2
    go_ret2
    exact ⟨by simp [firstL, hm], Below.refl _ _⟩
  · have HM := Aside0.mk hm
    go_enter Try.func83, Try.ntmps83
    go_wp2
    go_loopw [17] (fun j wr => ∃ k : Nat, k ≤ l.length ∧ j = .int .i64 k ∧ Aside0 (firstL l most (errT n) = firstE (errT n) (l.drop k) k) ∧ Aside0 (Below w.heap.size w wr)) (fun j _ => l.length - (intOf j).toNat)
    case atStart => exact ⟨0, Nat.zero_le _, rfl, ⟨by rw [firstL, if_neg (by have := HM.out; omega)]; rfl⟩, ⟨Below.refl _ _⟩⟩
    case round =>
      obtain ⟨k, hk, rfl, HO, HB⟩ := hrel
      by_cases hlt : k < l.length
      · obtain ⟨ad, e, hc0, hc1, hc2⟩ := at_told (Kd.C_below HR.out HB.out) k hlt
        subst e
        rw [told_at _ _ hlt] at hc0 hc1 hc2
        have HO2 := Aside0.mk (show firstL l most (errT n) = if errT n k l[k] = 0 then firstE (errT n) (l.drop (k + 1)) (k + 1) else (k, errT n k l[k]) by
          rw [HO.out, List.drop_eq_getElem_cons hlt]; rfl)
        clear HO
        generalize l[k] = x at *
        obtain ⟨E, hE⟩ : ∃ E, errT n k x = E := ⟨_, rfl⟩
        have HE := Aside0.mk hE
        clear hE
        have HB2 := Aside0.mk (below_alloc HB.out (.cells #[.int .i64 x.f0, .int .i64 x.f1, .bool x.f2] 52))
        by_cases h0 : E = 0
        all_goals
          go_wp2_with (go_at_call 84; refine (CheckC2_calls n k x bs nm rad lo hi _ c4 v5 _ hn (blk_below HS.out HB2.out)).mono ?_; rintro e w1 ⟨rfl, hb1⟩; rw [HE.out])
          first
            | (go_roundw
               case rel => exact ⟨k + 1, by omega, by go_num, ⟨by rw [HO2.out, HE.out, if_pos (by assumption)]⟩, ⟨HB2.out.trans (hb1.mono HB2.out.size)⟩⟩
               case measure => simp [intOf]; omega)
            | (go_ret2
               exact ⟨by rw [HO2.out, HE.out, if_neg (by assumption)]; rfl, HB2.out.trans (hb1.mono HB2.out.size)⟩)
      · obtain rfl : k = l.length := by omega
        go_wp2
        go_ret2
        exact ⟨by rw [HO.out]; simp [firstE], HB.out⟩

structure Dat where
  nm : ByteArray
  rad : Int
  lo : Int
  hi : Int
  spots : List Spot
  told : List Told

def checkF (D : Dat) : Int × Int × Int :=
  if nameB D.nm = false then (1, 0, 6) else if (outB 1 12 [D.rad] || outB 0 12 [D.lo, D.hi]) = true then (1, 0, 7) else if D.hi < D.lo then (1, 0, 2)
  else if (firstL D.spots 7 (errS D.spots)).2 ≠ 0 then (2, firstL D.spots 7 (errS D.spots)) else if (firstL D.told 4 (errT D.spots.length)).2 ≠ 0 then (3, firstL D.told 4 (errT D.spots.length)) else (0, 0, 0)

structure Arg (w : World) (D : Dat) (A4 : Option Addr) (c4 : Nat) (A5 : Option Addr) (c5 : Nat) : Prop where
  nm : D.nm.size ≤ 9223372036854775807
  s : Kd.C k80 w A4 D.spots.length D.spots
  sc : D.spots.length ≤ c4
  t : Kd.C k52 w A5 D.told.length D.told
  tc : D.told.length ≤ c5
theorem Arg.below {w w' : World} {D : Dat} {A4 : Option Addr} {c4 : Nat} {A5 : Option Addr} {c5 : Nat} (h : Arg w D A4 c4 A5 c5) (hb : Below w.heap.size w w') : Arg w' D A4 c4 A5 c5 :=
  ⟨h.nm, Kd.C_below h.s hb, h.sc, Kd.C_below h.t hb, h.tc⟩

set_option maxHeartbeats 1000000 in
theorem Check_calls (D : Dat) (A4 : Option Addr) (c4 : Nat) (A5 : Option Addr) (c5 : Nat) (w : World) (h : Arg w D A4 c4 A5 c5) :
    Calls Try.prog 18 #[.agg #[.string D.nm, .int .i64 D.rad, .int .i64 D.lo, .int .i64 D.hi, .slice A4 D.spots.length c4, .slice A5 D.told.length c5]] w
      fun e w' => e = .returned (.tuple #[.int .i64 (checkF D).1, .int .i64 (checkF D).2.1, .int .i64 (checkF D).2.2]) ∧ Below w.heap.size w w' := by
  have HA := Aside0.mk h
  have hn5 : D.spots.length ≤ 9223372036854775807 := h.s.2.1
  have HX := Aside0.mk (blk_new w (.cells #[.string D.nm, .int .i64 D.rad, .int .i64 D.lo, .int .i64 D.hi, .slice A4 D.spots.length c4, .slice A5 D.told.length c5] 27))
  have hbx := Aside0.mk (below_alloc (Below.refl w.heap.size w) (.cells #[.string D.nm, .int .i64 D.rad, .int .i64 D.lo, .int .i64 D.hi, .slice A4 D.spots.length c4, .slice A5 D.told.length c5] 27))
  clear h
  obtain ⟨r, hr⟩ : ∃ r, checkF D = r := ⟨_, rfl⟩
  have HF := Aside0.mk hr
  clear hr
  rw [HF.out]
  go_enter Try.func18, Try.ntmps18
  go_wp2_with fail
  refine (Name_calls D.nm _ HA.out.nm).mono ?_
  rintro e w1 ⟨rfl, hb1⟩
  have HX1 := Aside0.mk (blk_below HX.out hb1)
  have HB1 := Aside0.mk (hbx.out.trans (hb1.mono hbx.out.size))
  clear hb1 hbx HX
  have x1 : w1.cell? ⟨w.heap.size, 1, none⟩ = some (.int .i64 D.rad) := (blk_cell HX1.out 1).trans rfl
  have x2 : w1.cell? ⟨w.heap.size, 2, none⟩ = some (.int .i64 D.lo) := (blk_cell HX1.out 2).trans rfl
  have x3 : w1.cell? ⟨w.heap.size, 3, none⟩ = some (.int .i64 D.hi) := (blk_cell HX1.out 3).trans rfl
  have x4 : w1.cell? ⟨w.heap.size, 4, none⟩ = some (.slice A4 D.spots.length c4) := (blk_cell HX1.out 4).trans rfl
  have hlt1 := blk_lt HX1.out
  obtain ⟨b1, hb1⟩ : ∃ b, nameB D.nm = b := ⟨_, rfl⟩
  have H1 := Aside0.mk hb1
  rw [hb1]
  clear hb1
  cases b1
  · have hr : r = (1, 0, 6) := by rw [← HF.out, checkF, H1.out]; rfl
    subst hr
    go_wp2
    go_ret3
    exact ⟨rfl, HB1.out⟩
  · go_wp2_with fail
    refine (out_calls 1 12 [D.rad] _ _ _ (lit1 _ rfl)).mono ?_
    rintro e w2 ⟨rfl, rfl⟩
    obtain ⟨b2, hb2⟩ : ∃ b, outB 1 12 [D.rad] = b := ⟨_, rfl⟩
    have H2 := Aside0.mk hb2
    rw [hb2]
    clear hb2
    cases b2
    · go_wp2_with fail
      refine (out_calls 0 12 [D.lo, D.hi] _ _ _ (lit2 _ _ (by simp))).mono ?_
      rintro e w2 ⟨rfl, rfl⟩
      obtain ⟨b3, hb3⟩ : ∃ b, outB 0 12 [D.lo, D.hi] = b := ⟨_, rfl⟩
      have H3 := Aside0.mk hb3
      rw [hb3]
      clear hb3
      cases b3
      · by_cases hlo : D.hi < D.lo
        · have hr : r = (1, 0, 2) := by rw [← HF.out, checkF, H1.out, H2.out, H3.out, if_neg (by simp), if_neg (by simp), if_pos hlo]
          subst hr
          go_wp2
          go_ret3
          exact ⟨rfl, below_alloc (below_alloc HB1.out _) _⟩
        · have HL := Aside0.mk hlo
          go_wp2_with fail
          have hb2 := below_alloc (below_alloc (Below.refl w1.heap.size w1) (.cells #[.int .i64 D.rad] 3)) (.cells #[.int .i64 D.lo, .int .i64 D.hi] 3)
          have HB2 := Aside0.mk (HB1.out.trans (hb2.mono HB1.out.size))
          have HX2 := Aside0.mk (blk_below HX1.out hb2)
          clear hb2
          refine (firstS_calls D.spots 7 w.heap.size D.nm D.rad D.lo D.hi A4 c4 _ _ (Kd.C_below HA.out.s HB2.out) HA.out.sc HX2.out).mono ?_
          rintro e w3 ⟨rfl, hb3⟩
          have HB3 := Aside0.mk (HB2.out.trans (hb3.mono HB2.out.size))
          have HX3 := Aside0.mk (blk_below HX2.out hb3)
          clear hb3 x1 x2 x3 x4
          have x5 : w3.cell? ⟨w.heap.size, 5, none⟩ = some (.slice A5 D.told.length c5) := (blk_cell HX3.out 5).trans rfl
          obtain ⟨f, hf⟩ : ∃ f, firstL D.spots 7 (errS D.spots) = f := ⟨_, rfl⟩
          have HS := Aside0.mk hf
          rw [hf]
          clear hf
          obtain ⟨f1, f2⟩ := f
          by_cases h0 : f2 = 0
          · subst h0
            go_wp2_with fail
            refine (firstT_calls D.told D.spots.length 4 w.heap.size D.nm D.rad D.lo D.hi A4 c4 A5 c5 _ _ (Kd.C_below HA.out.t HB3.out) hn5 HX3.out).mono ?_
            rintro e w4 ⟨rfl, hb4⟩
            have HB4 := Aside0.mk (HB3.out.trans (hb4.mono HB3.out.size))
            clear hb4 x5
            obtain ⟨g, hg⟩ : ∃ g, firstL D.told 4 (errT D.spots.length) = g := ⟨_, rfl⟩
            have HT := Aside0.mk hg
            rw [hg]
            clear hg
            obtain ⟨g1, g2⟩ := g
            by_cases h1 : g2 = 0
            · subst h1
              have hr : r = (0, 0, 0) := by rw [← HF.out, checkF, H1.out, H2.out, H3.out, HS.out, HT.out, if_neg (by simp), if_neg (by simp), if_neg (by have := HL.out; omega), if_neg (by simp), if_neg (by simp)]
              subst hr
              go_wp2
              go_ret3
              exact ⟨rfl, HB4.out⟩
            · have hr : r = (3, g1, g2) := by rw [← HF.out, checkF, H1.out, H2.out, H3.out, HS.out, HT.out, if_neg (by simp), if_neg (by simp), if_neg (by have := HL.out; omega), if_neg (by simp), if_pos h1]
              subst hr
              go_wp2
              go_ret3
              exact ⟨rfl, HB4.out⟩
          · have hr : r = (2, f1, f2) := by rw [← HF.out, checkF, H1.out, H2.out, H3.out, HS.out, if_neg (by simp), if_neg (by simp), if_neg (by have := HL.out; omega), if_pos h0]
            subst hr
            go_wp2
            go_ret3
            exact ⟨rfl, HB3.out⟩
      · have hr : r = (1, 0, 7) := by rw [← HF.out, checkF, H1.out, H2.out, H3.out]; rfl
        subst hr
        go_wp2
        go_ret3
        exact ⟨rfl, below_alloc (below_alloc HB1.out _) _⟩
    · have hr : r = (1, 0, 7) := by rw [← HF.out, checkF, H1.out, H2.out]; rfl
      subst hr
      go_wp2
      go_ret3
      exact ⟨rfl, below_alloc HB1.out _⟩
end Go.Proofs.Ytemeapfnfegkiaa.D
end
section
/- General lemmas of this session's own: bits of int. -/
namespace Go.Proofs.YtemeapfnfegkiaaK
open Go Go.RowKit
set_option linter.unusedVariables false

theorem wraps_i64 (n : Int) (h₀ : 0 ≤ n) (h₁ : n < 2 ^ 62) : IntKind.i64.wrap n = n := by rw [IntKind.wrap_i64]; omega
theorem and_i64 (a b : Nat) (ha : a < 2 ^ 62) (hb : b < 2 ^ 62) : bits .and .i64 (a : Int) (b : Int) = ((a &&& b : Nat) : Int) := (bits_nat .i64 62 (by decide) wraps_i64 a b ha hb).1
theorem or_i64 (a b : Nat) (ha : a < 2 ^ 62) (hb : b < 2 ^ 62) : bits .or .i64 (a : Int) (b : Int) = ((a ||| b : Nat) : Int) := (bits_nat .i64 62 (by decide) wraps_i64 a b ha hb).2
def less (a b : Nat) : Nat := a ^^^ (a &&& b)
theorem less_testBit (a b k : Nat) : (less a b).testBit k = (a.testBit k && !b.testBit k) := by
  simp only [less, Nat.testBit_xor, Nat.testBit_and]
  cases a.testBit k <;> cases b.testBit k <;> rfl
theorem andNot_i64 (a b : Nat) (ha : a < 2 ^ 62) (hb : b < 2 ^ 62) : bits .andNot .i64 (a : Int) (b : Int) = ((less a b : Nat) : Int) := by
  have h1 : (BitVec.ofInt 64 (a : Int)).toNat = a := by
    rw [BitVec.ofInt_natCast, BitVec.toNat_ofNat]; exact Nat.mod_eq_of_lt (by omega)
  have h2 : (BitVec.ofInt 64 (b : Int)).toNat = b := by
    rw [BitVec.ofInt_natCast, BitVec.toNat_ofNat]; exact Nat.mod_eq_of_lt (by omega)
  have e : (BitVec.ofInt 64 (a : Int) &&& ~~~ BitVec.ofInt 64 (b : Int)).toNat = less a b := by
    apply Nat.eq_of_testBit_eq
    intro i
    rw [less_testBit, BitVec.testBit_toNat, BitVec.getLsbD_and, BitVec.getLsbD_not, ← BitVec.testBit_toNat, ← BitVec.testBit_toNat, h1, h2]
    by_cases hi : i < 64
    · simp [hi]
    · have : a.testBit i = false := Nat.testBit_lt_two_pow (Nat.lt_of_lt_of_le ha (Nat.pow_le_pow_right (by decide) (by omega)))
      simp [this]
  have hlt : less a b < 2 ^ 62 := Nat.xor_lt_two_pow ha (Nat.and_lt_two_pow _ hb)
  show IntKind.i64.wrap ((BitVec.ofInt 64 (a : Int) &&& ~~~ BitVec.ofInt 64 (b : Int)).toNat : Int) = _
  rw [e]
  exact wraps_i64 _ (by omega) (by exact_mod_cast hlt)
theorem bit1 (a k : Nat) (ha : a < 2 ^ 62) : bits .and .i64 ((a : Int) / 2 ^ k) 1 = if a.testBit k = true then 1 else 0 := by
  have e : ((a : Int) / 2 ^ k) = ((a / 2 ^ k : Nat) : Int) := by push_cast; rfl
  have h := and_i64 (a / 2 ^ k) 1 (Nat.lt_of_le_of_lt (Nat.div_le_self _ _) ha) (by decide)
  rw [e, show ((1 : Int)) = ((1 : Nat) : Int) from rfl, h, Nat.and_one_is_mod, Nat.testBit_eq_decide_div_mod_eq]
  by_cases hb : a / 2 ^ k % 2 = 1
  · simp [hb]
  · have : a / 2 ^ k % 2 = 0 := by omega
    simp [this]
theorem shl1 (k : Nat) (hk : k < 62) : IntKind.i64.wrap (1 * 2 ^ k) = ((2 ^ k : Nat) : Int) := by
  have : (2 : Nat) ^ k < 2 ^ 62 := Nat.pow_lt_pow_right (by decide) hk
  rw [Int.one_mul, wraps_i64 _ (Int.pow_nonneg (by decide)) (by exact_mod_cast this)]; push_cast; rfl
end Go.Proofs.YtemeapfnfegkiaaK
end
section
/- Package disk: groups: the closure join. -/
namespace Go.Proofs.Ytemeapfnfegkiaa.D
open Go Go.RowKit Go.Proofs.YtemeapfnfegkiaaK Go.Proofs.YtemeapfnfegkiaaW.PrintWords Go.Proofs.YtemeapfnfegkiaaW.PrintLast Go.Proofs.YtemeapfnfegkiaaW.PrintMore Go.Proofs.Ytemeapfnfegkiaa.PR
set_option linter.unusedVariables false
set_option linter.unusedSimpArgs false

abbrev vec (g : Nat → Int) : Array Value := #[.int .i64 (g 0), .int .i64 (g 1), .int .i64 (g 2), .int .i64 (g 3), .int .i64 (g 4), .int .i64 (g 5), .int .i64 (g 6)]
def upd (g : Nat → Int) (k : Nat) (x : Int) : Nat → Int := fun j => if j = k then x else g j
theorem vec_get (g : Nat → Int) (k : Nat) (hk : k < 7) : (vec g)[k]? = some (.int .i64 (g k)) := by
  match k, hk with
  | 0, _ => rfl | 1, _ => rfl | 2, _ => rfl | 3, _ => rfl | 4, _ => rfl | 5, _ => rfl | 6, _ => rfl
theorem vec_set (g : Nat → Int) (k : Nat) (x : Int) (hk : k < 7) : (vec g).setIfInBounds k (.int .i64 x) = vec (upd g k x) := by
  match k, hk with
  | 0, _ => rfl | 1, _ => rfl | 2, _ => rfl | 3, _ => rfl | 4, _ => rfl | 5, _ => rfl | 6, _ => rfl

def joinF (adj : Nat → Nat → Bool) (n : Nat) (m : Int) : Nat → (Nat → Int) → Nat → (Nat → Int)
  | 0, g, _ => g
  | f + 1, g, d => (List.range n).foldl (fun g k => if adj d k && g k == 0 then joinF adj n m f g k else g) (upd g d m)
def nearS (l : List Spot) (near : Int) (d k : Nat) : Bool := !outB (-near) near [(rd_T80 l d).f0 - (rd_T80 l k).f0, (rd_T80 l d).f1 - (rd_T80 l k).f1]
def adjS (l : List Spot) (near : Int) (set : Nat) (d k : Nat) : Bool := set.testBit k && nearS l near d k

abbrev shCells (D : Dat) (A4 : Option Addr) (c4 : Nat) (A5 : Option Addr) (c5 : Nat) (but : Int) (mp : Nat) : Array Value :=
  #[.string D.nm, .int .i64 D.rad, .int .i64 D.lo, .int .i64 D.hi, .slice A4 D.spots.length c4, .slice A5 D.told.length c5, .int .i64 but, .map (some mp)]

structure JW (w0 W : World) (D : Dat) (A4 : Option Addr) (c4 : Nat) (A5 : Option Addr) (c5 : Nat) (but : Int) (mp b Bm Bg Bs Bv Bj : Nat) (m near : Int) (set : Nat) (g : Nat → Int) : Prop where
  base : Below w0.heap.size w0 W
  sh : W.heap[b]? = some (.cells (shCells D A4 c4 A5 c5 but mp) 151 (0, 0))
  bm : W.heap[Bm]? = some (.cells #[.int .i64 m] 3 (0, 0))
  bg : W.heap[Bg]? = some (.cells (vec g) 118 (0, 0))
  bs : W.heap[Bs]? = some (.cells #[.pointer (some ⟨b, 0, none⟩)] 112 (0, 0))
  bv : W.heap[Bv]? = some (.cells #[.int .i64 near, .int .i64 set] 130 (0, 0))
  bj : W.heap[Bj]? = some (.cells #[.func (.func 139) #[] #[.pointer (some ⟨Bm, 0, none⟩), .pointer (some ⟨Bg, 0, none⟩), .pointer (some ⟨Bs, 0, none⟩), .pointer (some ⟨Bv, 0, none⟩), .pointer (some ⟨Bj, 0, none⟩)]] 166 (0, 0))
  gg : w0.heap.size ≤ Bg

structure Valid (D : Dat) : Prop where
  n7 : D.spots.length ≤ 7
  t4 : D.told.length ≤ 4
  rad : 1 ≤ D.rad ∧ D.rad ≤ 12
  lo : 0 ≤ D.lo
  hi : D.hi ≤ 12
  le : D.lo ≤ D.hi
  xy : ∀ k : Nat, k < D.spots.length → -12 ≤ (rd_T80 D.spots k).f0 ∧ (rd_T80 D.spots k).f0 ≤ 12 ∧ -12 ≤ (rd_T80 D.spots k).f1 ∧ (rd_T80 D.spots k).f1 ≤ 12
  ab : ∀ k : Nat, k < D.told.length → 0 ≤ (rd_T52 D.told k).f0 ∧ (rd_T52 D.told k).f0 < D.spots.length ∧ 0 ≤ (rd_T52 D.told k).f1 ∧ (rd_T52 D.told k).f1 < D.spots.length ∧ (rd_T52 D.told k).f0 ≠ (rd_T52 D.told k).f1

theorem JW.set {w0 W : World} {D : Dat} {A4 : Option Addr} {c4 : Nat} {A5 : Option Addr} {c5 : Nat} {but : Int} {mp b Bm Bg Bs Bv Bj : Nat} {m near : Int} {set : Nat} {g : Nat → Int}
    (h : JW w0 W D A4 c4 A5 c5 but mp b Bm Bg Bs Bv Bj m near set g) (d : Nat) (x : Int) (hd : d < 7) : JW w0 (W.setCell ⟨Bg, d, none⟩ (.int .i64 x)) D A4 c4 A5 c5 but mp b Bm Bg Bs Bv Bj m near set (upd g d x) :=
  ⟨h.base.setCell h.gg _, blk_far h.sh (blk_ne h.sh h.bg (by decide)) _, blk_far h.bm (blk_ne h.bm h.bg (by decide)) _,
   by rw [← vec_set g d x hd]; exact blk_set h.bg d _, blk_far h.bs (blk_ne h.bs h.bg (by decide)) _, blk_far h.bv (blk_ne h.bv h.bg (by decide)) _, blk_far h.bj (blk_ne h.bj h.bg (by decide)) _, h.gg⟩
theorem JW.chg {w0 W W' : World} {D : Dat} {A4 : Option Addr} {c4 : Nat} {A5 : Option Addr} {c5 : Nat} {but : Int} {mp b Bm Bg Bs Bv Bj : Nat} {m near : Int} {set : Nat} {g : Nat → Int}
    (h : JW w0 W D A4 c4 A5 c5 but mp b Bm Bg Bs Bv Bj m near set g) (hc : Chg (fun _ => False) W W') : JW w0 W' D A4 c4 A5 c5 but mp b Bm Bg Bs Bv Bj m near set g :=
  ⟨h.base.trans ((hc.below (fun _ _ x => x.elim) (Nat.le_refl _)).mono h.base.size), hc.heap h.sh id, hc.heap h.bm id, hc.heap h.bg id, hc.heap h.bs id, hc.heap h.bv id, hc.heap h.bj id, h.gg⟩

def zeros (n : Nat) (g : Nat → Int) : Nat := (List.range n).countP fun k => g k == 0
theorem zeros_pos {n : Nat} {g : Nat → Int} {d : Nat} (hd : d < n) (hg : g d = 0) : 0 < zeros n g := by
  unfold zeros
  rw [List.countP_pos_iff]
  exact ⟨d, by simpa using hd, by simp [hg]⟩
theorem zeros_le {n : Nat} {g h : Nat → Int} (hh : ∀ k, k < n → h k = 0 → g k = 0) : zeros n h ≤ zeros n g := by
  unfold zeros
  refine List.countP_mono_left fun k hk h0 => ?_
  have := hh k (by simpa using hk) (by simpa using h0)
  simp [this]
theorem zeros_upd {n : Nat} {g : Nat → Int} {d : Nat} {m : Int} (hd : d < n) (hg : g d = 0) (hm : m ≠ 0) : zeros n (upd g d m) + 1 ≤ zeros n g := by
  induction n with
  | zero => omega
  | succ n ih =>
    have e : ∀ f, zeros (n + 1) f = zeros n f + (if f n = 0 then 1 else 0) := fun f => by
      simp [zeros, List.range_succ, List.countP_append, List.countP_cons]
    rw [e, e]
    by_cases hdn : d = n
    · subst hdn
      have h1 : zeros d (upd g d m) ≤ zeros d g := zeros_le (fun k hk h0 => by simp only [upd] at h0; rw [if_neg (by omega)] at h0; exact h0)
      rw [if_neg (by simp [upd, hm]), if_pos hg]; omega
    · have := ih (by omega)
      have e2 : upd g d m n = g n := by simp [upd]; omega
      rw [e2]; omega
theorem joinF_keeps (adj : Nat → Nat → Bool) (n : Nat) (m : Int) (hm : m ≠ 0) : ∀ (f : Nat) (g : Nat → Int) (d k : Nat), joinF adj n m f g d k = 0 → g k = 0
  | 0, g, d, k => fun h => h
  | f + 1, g, d, k => by
    have key : ∀ (l : List Nat) (g' : Nat → Int), l.foldl (fun g k => if adj d k && g k == 0 then joinF adj n m f g k else g) g' k = 0 → g' k = 0 := by
      intro l
      induction l with
      | nil => exact fun _ h => h
      | cons a l ih =>
        intro g' h
        simp only [List.foldl_cons] at h
        have := ih _ h
        split at this
        · exact joinF_keeps adj n m hm f g' a k this
        · exact this
    intro h
    have := key _ _ h
    simp only [upd] at this
    split at this
    · exact absurd this hm
    · exact this
def joinTo (adj : Nat → Nat → Bool) (n : Nat) (m : Int) (f : Nat) (d : Nat) (g : Nat → Int) (k : Nat) : Nat → Int :=
  (List.range k).foldl (fun g k => if adj d k && g k == 0 then joinF adj n m f g k else g) g
theorem joinTo_succ (adj : Nat → Nat → Bool) (n : Nat) (m : Int) (f : Nat) (d : Nat) (g : Nat → Int) (k : Nat) :
    joinTo adj n m f d g (k + 1) = if adj d k && joinTo adj n m f d g k k == 0 then joinF adj n m f (joinTo adj n m f d g k) k else joinTo adj n m f d g k := by
  simp [joinTo, List.range_succ, List.foldl_append]
theorem joinTo_keeps (adj : Nat → Nat → Bool) (n : Nat) (m : Int) (hm : m ≠ 0) (f : Nat) (d : Nat) (g : Nat → Int) (k j : Nat) (h : joinTo adj n m f d g k j = 0) : g j = 0 := by
  induction k with
  | zero => exact h
  | succ k ih =>
    rw [joinTo_succ] at h
    split at h
    · exact ih (joinF_keeps _ _ _ hm _ _ _ _ h)
    · exact ih h

set_option maxRecDepth 100000 in
set_option maxHeartbeats 1000000 in
theorem join_calls (w0 : World) (D : Dat) (A4 : Option Addr) (c4 : Nat) (A5 : Option Addr) (c5 : Nat) (but : Int) (mp b Bm Bg Bs Bv Bj : Nat) (m near : Int) (set : Nat)
    (hA : Arg w0 D A4 c4 A5 c5) (hV : Valid D) (hn0 : 0 ≤ near) (hn1 : near ≤ 12) (hset : set < 2 ^ 62) (hm : m ≠ 0) (f : Nat) : ∀ (d : Nat) (g : Nat → Int) (W : World),
    d < D.spots.length → zeros D.spots.length g ≤ f → g d = 0 → JW w0 W D A4 c4 A5 c5 but mp b Bm Bg Bs Bv Bj m near set g →
    Calls Try.prog 139 #[.int .i64 d, .pointer (some ⟨Bm, 0, none⟩), .pointer (some ⟨Bg, 0, none⟩), .pointer (some ⟨Bs, 0, none⟩), .pointer (some ⟨Bv, 0, none⟩), .pointer (some ⟨Bj, 0, none⟩)] W
      fun e W' => (∃ v, e = .returned v) ∧ Chg (fun k => k = Bg) W W' ∧ JW w0 W' D A4 c4 A5 c5 but mp b Bm Bg Bs Bv Bj m near set (joinF (adjS D.spots near set) D.spots.length m f g d) := by
  induction f with
  | zero =>
    intro d g W hd hz hg hJ
    have := zeros_pos hd hg
    omega
  | succ f ih =>
    intro d g W hd hz hg hJ
    have hn7 := hV.n7
    have HZ := Aside0.mk hz
    have HG := Aside0.mk hg
    clear hz hg
    have HV := Aside0.mk hV
    clear hV
    have HI := Aside0.mk ih
    clear ih
    have HJ := Aside0.mk hJ
    have hm0 : W.cell? ⟨Bm, 0, none⟩ = some (.int .i64 m) := (blk_cell hJ.bm 0).trans rfl
    have hg0 : W.cell? ⟨Bg, d, none⟩ = some (.int .i64 (g d)) := (blk_cell hJ.bg d).trans (vec_get g d (by omega))
    have hgf := blk_frozen hJ.bg d
    clear hJ
    go_enter Try.func139, Try.ntmps139
    go_upto_region 1 with (fail)
    have HJ1 := Aside0.mk (HJ.out.set d m (by omega))
    have HC1 := Aside0.mk ((Chg.refl (fun k => k = Bg) W).setCell (p := ⟨Bg, d, none⟩) (fun _ => rfl) (.int .i64 m))
    clear hm0 hg0 hgf
    generalize W.setCell ⟨Bg, d, none⟩ (.int .i64 m) = W1 at HJ1 HC1 ⊢
    have hs0 : W1.cell? ⟨Bs, 0, none⟩ = some (.pointer (some ⟨b, 0, none⟩)) := (blk_cell HJ1.out.bs 0).trans rfl
    have hb4 : W1.cell? ⟨b, 4, none⟩ = some (.slice A4 D.spots.length c4) := (blk_cell HJ1.out.sh 4).trans rfl
    have ls := blk_lt HJ1.out.bs
    have lb := blk_lt HJ1.out.sh
    obtain ⟨ad0, e, hc0, hc1, hc2⟩ := at_spot (Kd.C_below hA.s HJ1.out.base) d hd
    subst e
    obtain ⟨xd, hxd⟩ : ∃ x, rd_T80 D.spots d = x := ⟨_, rfl⟩
    have HD := Aside0.mk hxd
    rw [hxd] at hc0 hc1 hc2
    have vd := HV.out.xy d hd
    rw [hxd] at vd
    clear hxd
    obtain ⟨vd0, vd1, vd2, vd3⟩ := vd
    go_wp2
    have HA0 := Aside0.mk (blk_new W1 (.cells #[.int .i64 xd.f0, .int .i64 xd.f1, .bool xd.f2] 80))
    have HJ2 := Aside0.mk (HJ1.out.chg ((Chg.refl (fun _ => False) W1).alloc (.cells #[.int .i64 xd.f0, .int .i64 xd.f1, .bool xd.f2] 80)))
    have HC2 := Aside0.mk (HC1.out.alloc (.cells #[.int .i64 xd.f0, .int .i64 xd.f1, .bool xd.f2] 80))
    clear hs0 hb4 hc0 hc1 hc2 ls lb HJ1 HC1
    obtain ⟨Ba, hBa⟩ : ∃ Ba, W1.heap.size = Ba := ⟨_, rfl⟩
    rw [hBa] at HA0 ⊢
    clear hBa
    generalize W1.alloc (.cells #[.int .i64 xd.f0, .int .i64 xd.f1, .bool xd.f2] 80) = W2 at HA0 HJ2 HC2 ⊢
    go_loopw [27] (fun j wr => ∃ k : Nat, k ≤ D.spots.length ∧ j = .int .i64 k ∧ Aside0 (JW w0 wr D (some ad0) c4 A5 c5 but mp b Bm Bg Bs Bv Bj m near set (joinTo (adjS D.spots near set) D.spots.length m f d (upd g d m) k)) ∧ Aside0 (Chg (fun k => k = Bg) W wr) ∧
      Aside0 (wr.heap[Ba]? = some (.cells #[.int .i64 xd.f0, .int .i64 xd.f1, .bool xd.f2] 80 (0, 0)))) (fun j _ => D.spots.length - (intOf j).toNat)
    case atStart => exact ⟨0, Nat.zero_le _, rfl, HJ2, HC2, HA0⟩
    case round =>
      clear HJ2 HC2 HA0
      obtain ⟨k, hk, rfl, HJ2, HC2, HA0⟩ := hrel
      by_cases hlt : k < D.spots.length
      · obtain ⟨ad, e, hc0, hc1, hc2⟩ := at_spot (Kd.C_below hA.s HJ2.out.base) k hlt
        obtain rfl := Option.some.inj e
        clear e
        obtain ⟨xk, hxk⟩ : ∃ x, rd_T80 D.spots k = x := ⟨_, rfl⟩
        have HK := Aside0.mk hxk
        rw [hxk] at hc0 hc1 hc2
        have vk := HV.out.xy k hlt
        rw [hxk] at vk
        clear hxk
        obtain ⟨vk0, vk1, vk2, vk3⟩ := vk
        have hv0 : wr.cell? ⟨Bv, 0, none⟩ = some (.int .i64 near) := (blk_cell HJ2.out.bv 0).trans rfl
        have hv1 : wr.cell? ⟨Bv, 1, none⟩ = some (.int .i64 set) := (blk_cell HJ2.out.bv 1).trans rfl
        have ha0 : wr.cell? ⟨Ba, 0, none⟩ = some (.int .i64 xd.f0) := (blk_cell HA0.out 0).trans rfl
        have ha1 : wr.cell? ⟨Ba, 1, none⟩ = some (.int .i64 xd.f1) := (blk_cell HA0.out 1).trans rfl
        obtain ⟨G, hG⟩ : ∃ G, joinTo (adjS D.spots near set) D.spots.length m f d (upd g d m) k = G := ⟨_, rfl⟩
        have HGG := Aside0.mk hG
        have hgk : wr.cell? ⟨Bg, k, none⟩ = some (.int .i64 (G k)) := by rw [← hG]; exact (blk_cell HJ2.out.bg k).trans (vec_get _ k (by omega))
        have hj0 : wr.cell? ⟨Bj, 0, none⟩ = some (.func (.func 139) #[] #[.pointer (some ⟨Bm, 0, none⟩), .pointer (some ⟨Bg, 0, none⟩), .pointer (some ⟨Bs, 0, none⟩), .pointer (some ⟨Bv, 0, none⟩), .pointer (some ⟨Bj, 0, none⟩)]) := (blk_cell HJ2.out.bj 0).trans rfl
        rw [hG] at HJ2
        clear hG
        have lv := blk_lt HJ2.out.bv
        have la := blk_lt HA0.out
        have lg := blk_lt HJ2.out.bg
        have lj := blk_lt HJ2.out.bj
        have hbit := bit1 set k hset
        obtain ⟨q, hq⟩ : ∃ q, set.testBit k = q := ⟨_, rfl⟩
        rw [hq] at hbit
        have HQ := Aside0.mk hq
        clear hq
        have hCA := Aside0.mk ((Chg.refl (fun _ => False) wr).alloc (.cells #[.int .i64 xk.f0, .int .i64 xk.f1, .bool xk.f2] 80))
        cases q
        · rw [if_neg (by simp)] at hbit
          go_wp2
          go_roundw
          case rel => exact ⟨k + 1, by omega, by go_num, ⟨by rw [joinTo_succ, HGG.out, adjS, HQ.out]; exact HJ2.out.chg hCA.out⟩, ⟨HC2.out.alloc _⟩, ⟨blk_alloc HA0.out _⟩⟩
          case measure => simp [intOf]; omega
        · rw [if_pos rfl] at hbit
          by_cases hgz : G k = 0
          · have hgz' : (G k == 0) = true := beq_iff_eq.2 hgz
            have HGZ := Aside0.mk hgz
            have HZG : Aside0 (zeros D.spots.length G ≤ f) := ⟨by
              have h1 := zeros_upd hd HG.out hm
              have h2 : zeros D.spots.length G ≤ zeros D.spots.length (upd g d m) := zeros_le (fun j _ hj => by rw [← HGG.out] at hj; exact joinTo_keeps _ _ _ hm _ _ _ _ _ hj)
              have := HZ.out
              omega⟩
            have NA : Aside0 (Ba ≠ Bg) := ⟨blk_ne HA0.out HJ2.out.bg (by decide)⟩
            rw [hgz] at hgk
            clear hgz
            obtain ⟨q, hq⟩ : ∃ q, outB (-near) near [xd.f0 - xk.f0, xd.f1 - xk.f1] = q := ⟨_, rfl⟩
            have HO := Aside0.mk hq
            have HN : Aside0 (adjS D.spots near set d k = !q) := ⟨by rw [adjS, HQ.out, nearS, HD.out, HK.out, hq]; rfl⟩
            clear hq
            have HC3 := Aside0.mk (hCA.out.alloc (.cells #[.int .i64 (xd.f0 - xk.f0), .int .i64 (xd.f1 - xk.f1)] 3))
            cases q
            · go_wp2_with (first | (go_at_call 78; refine (out_calls (-near) near [xd.f0 - xk.f0, xd.f1 - xk.f1] _ _ _ (lit2 _ _ (by simp))).mono ?_; rintro e w1 ⟨rfl, rfl⟩; rw [HO.out]) | (go_at_call 139; refine (HI.out k G _ hlt HZG.out HGZ.out (HJ2.out.chg HC3.out)).mono ?_; rintro e w1 ⟨⟨v, rfl⟩, hcj, hjj⟩; have HCJ := Aside0.mk hcj; have HJJ := Aside0.mk hjj; clear hcj hjj))
              go_roundw
              case rel => exact ⟨k + 1, by omega, by go_num, ⟨by rw [joinTo_succ, HGG.out, HN.out, HGZ.out]; exact HJJ.out⟩, ⟨((HC2.out.alloc _).alloc _).trans HCJ.out⟩, ⟨HCJ.out.heap (blk_alloc (blk_alloc HA0.out _) _) (fun e => NA.out e)⟩⟩
              case measure => simp [intOf]; omega
            · go_wp2_with (go_at_call 78; refine (out_calls (-near) near [xd.f0 - xk.f0, xd.f1 - xk.f1] _ _ _ (lit2 _ _ (by simp))).mono ?_; rintro e w1 ⟨rfl, rfl⟩; rw [HO.out])
              go_roundw
              case rel => exact ⟨k + 1, by omega, by go_num, ⟨by rw [joinTo_succ, HGG.out, HN.out]; exact HJ2.out.chg HC3.out⟩, ⟨(HC2.out.alloc _).alloc _⟩, ⟨blk_alloc (blk_alloc HA0.out _) _⟩⟩
              case measure => simp [intOf]; omega
          · have hgz' : (G k == 0) = false := beq_eq_false_iff_ne.2 hgz
            go_wp2
            go_roundw
            case rel => exact ⟨k + 1, by omega, by go_num, ⟨by rw [joinTo_succ, HGG.out, hgz', Bool.and_false]; exact HJ2.out.chg hCA.out⟩, ⟨HC2.out.alloc _⟩, ⟨blk_alloc HA0.out _⟩⟩
            case measure => simp [intOf]; omega
      · obtain rfl : k = D.spots.length := by omega
        go_wp2
        go_end0
        exact ⟨⟨_, rfl⟩, HC2.out, HJ2.out⟩
end Go.Proofs.Ytemeapfnfegkiaa.D
end
section
/- General lemmas of this session's own: equality of structs of two ints, of arrays of ints; maps by such keys. -/
namespace Go.Proofs.YtemeapfnfegkiaaK
open Go Go.RowKit
set_option linter.unusedVariables false
set_option linter.unusedSimpArgs false
variable {P : Program}

theorem eqItems_ints {e : TypeId} (hu : P.underlying e = some (.int .i64)) (hp : P.plainKey e = true) (d : Nat) (xs ys : List Int) (w : World) : ∀ (is : List Nat), (∀ i, i ∈ is → i < xs.length ∧ i < ys.length) →
    (Op.eqItems (d + 1) e 1 (xs.map (Value.int .i64)).toArray (ys.map (Value.int .i64)).toArray is).run P w = .ok (is.all fun i => xs[i]?.getD 0 == ys[i]?.getD 0) w
  | [], _ => by simp [Op.eqItems]
  | i :: is, h => by
    obtain ⟨hx, hy⟩ := h i (by simp)
    have h1 : (part e (xs.map (Value.int .i64)).toArray i).run P w = .ok (.int .i64 xs[i]) w := run_part_plain w hp (by simp [hx])
    have h2 : (part e (ys.map (Value.int .i64)).toArray i).run P w = .ok (.int .i64 ys[i]) w := run_part_plain w hp (by simp [hy])
    have h3 : (Op.equalIn (d + 1) e (.int .i64 xs[i]) (.int .i64 ys[i])).run P w = .ok (xs[i] == ys[i]) w := run_equalIn_int w d e .i64 .i64 _ _ hu
    have ih := eqItems_ints hu hp d xs ys w is (fun j hj => h j (by simp [hj]))
    simp only [Op.eqItems, Nat.mul_one, Sem.run_bind, h1, h2, h3, Result.andThen_ok, List.all_cons, List.getElem?_eq_getElem hx, List.getElem?_eq_getElem hy, Option.getD_some]
    cases (xs[i] == ys[i]) with
    | false => simp
    | true => simpa using ih

theorem all_get (xs ys : List Int) (h : xs.length = ys.length) : ((List.range xs.length).all fun i => xs[i]?.getD 0 == ys[i]?.getD 0) = (xs == ys) := by
  rw [Bool.eq_iff_iff, List.all_eq_true, beq_iff_eq]
  constructor
  · intro hh
    apply List.ext_getElem h
    intro i h1 h2
    have := hh i (by simpa using h1)
    simpa [h1, h2] using this
  · rintro rfl
    intro i _
    simp

theorem equal_array (w : World) {T e : TypeId} {n : Nat} {i : TypeInfo} (ht : P.underlying T = some (.array n e)) (hi : P.info? e = some i) (hc : P.cellsOf e = 1) (hu : P.underlying e = some (.int .i64)) (hp : P.plainKey e = true)
    (xs ys : List Int) (hx : xs.length = n) (hy : ys.length = n) (d : Nat) (hd : 0 < d) :
    (Op.equalIn (d + 1) T (.agg (xs.map (Value.int .i64)).toArray) (.agg (ys.map (Value.int .i64)).toArray)).run P w = .ok (xs == ys) w := by
  obtain ⟨d, rfl⟩ : ∃ m, d = m + 1 := ⟨d - 1, by omega⟩
  rw [run_equalIn_array w (d + 1) _ _ ht hi, hc, eqItems_ints hu hp d xs ys w _ (fun j hj => by simp at hj; omega), ← hx, all_get xs ys (by omega)]

theorem equal_two (w : World) {T e : TypeId} (ht : P.underlying T = some (.struct (P.fieldsOf T))) (hs : P.stoodInHeld T = false) (hu : P.underlying e = some (.int .i64)) (hp : P.plainKey e = true)
    (hf : ((P.fieldsOf T).toList.map fun f => (f.name == "_", f.type, f.offset)) = [(false, e, 0), (false, e, 1)]) (a b c d : Int) (n : Nat) (hn : 0 < n) :
    (Op.equalIn (n + 1) T (.agg #[.int .i64 a, .int .i64 b]) (.agg #[.int .i64 c, .int .i64 d])).run P w = .ok (a == c && b == d) w := by
  obtain ⟨n, rfl⟩ : ∃ m, n = m + 1 := ⟨n - 1, by omega⟩
  rw [run_equalIn_struct w (n + 1) _ _ _ ht hs]
  revert hf
  generalize (P.fieldsOf T).toList = F
  intro hf
  have hl : F.length = 2 := by simpa using congrArg List.length hf
  obtain ⟨f1, f2, rfl⟩ : ∃ f1 f2, F = [f1, f2] := by
    rcases F with _ | ⟨f1, _ | ⟨f2, _ | ⟨f3, F⟩⟩⟩ <;> first | exact ⟨_, _, rfl⟩ | simp at hl
  · skip
    simp only [List.map_cons, List.map_nil, List.cons.injEq, Prod.mk.injEq, and_true] at hf
    obtain ⟨⟨n1, t1, o1⟩, n2, t2, o2⟩ := hf
    have n1' : f1.name ≠ "_" := by simpa using n1
    have n2' : f2.name ≠ "_" := by simpa using n2
    have p1 : ∀ (a b : Int), (part e #[.int .i64 a, .int .i64 b] 0).run P w = .ok (.int .i64 a) w := fun a b => run_part_plain w hp rfl
    have p2 : ∀ (a b : Int), (part e #[.int .i64 a, .int .i64 b] 1).run P w = .ok (.int .i64 b) w := fun a b => run_part_plain w hp rfl
    have q : ∀ (a b : Int), (Op.equalIn (n + 1) e (.int .i64 a) (.int .i64 b)).run P w = .ok (a == b) w := fun a b => run_equalIn_int w n e .i64 .i64 a b hu
    have e2 : (Op.eqFields (n + 1) #[.int .i64 a, .int .i64 b] #[.int .i64 c, .int .i64 d] [f2]).run P w = .ok (b == d) w := by
      simp only [Op.eqFields, t2, o2, n2', ne_eq, not_false_eq_true, if_true, Sem.run_bind, p2, q, Result.andThen_ok]
      cases (b == d) <;> simp
    rw [Op.eqFields]
    simp only [t1, o1, n1', ne_eq, not_false_eq_true, if_true, Sem.run_bind, p1, q, Result.andThen_ok]
    cases (a == c) with
    | false => simp
    | true => simpa using e2

structure KeyRun {α : Type} [DecidableEq α] (P : Program) (k : TypeId) (enc : α → Value) : Prop where
  chk : ∀ e a w, (Instr.checkKey e 10000 k (enc a)).run P w = .ok () w
  eq : ∀ a b w, (Op.equal k (enc a) (enc b)).run P w = .ok (decide (a = b)) w
  und : ∃ desc, P.underlying k = some desc ∧ ∀ a b, Instr.sameNow desc (enc a) (enc b) = none
  same : ∀ a, Instr.sameBits 10000 (enc a) (enc a) = true

def MapAt {α : Type} (W : World) (m : Nat) (enc : α → Value) (l : List (α × Value)) : Prop :=
  ∃ es clock, W.heap[m]? = some (.map es clock) ∧ es.toList.map (fun e => (e.key, e.val)) = l.map (fun p => (enc p.1, p.2))
theorem MapAt.chg {α : Type} {W W' : World} {m : Nat} {enc : α → Value} {l : List (α × Value)} {S : Nat → Prop} (h : MapAt W m enc l) (hc : Chg S W W') (hs : ¬ S m) : MapAt W' m enc l := by
  obtain ⟨es, clock, hb, he⟩ := h
  exact ⟨es, clock, hc.heap hb hs, he⟩
theorem MapAt.made {α : Type} (W : World) (enc : α → Value) : MapAt (W.alloc (.map #[] 0)) W.heap.size enc [] := ⟨#[], 0, World.alloc_heap_new _ _, rfl⟩

section
variable {α : Type} [DecidableEq α] {k : TypeId} {enc : α → Value}
def mlook (a : α) : List (α × Value) → Option Value
  | [] => none
  | (b, v) :: l => if a = b then some v else mlook a l
def mput (a : α) (v : Value) : List (α × Value) → List (α × Value)
  | [] => [(a, v)]
  | (b, u) :: l => if a = b then (b, v) :: l else (b, u) :: mput a v l
theorem look_none {a : α} {v : Value} : ∀ {l : List (α × Value)}, mlook a l = none → mput a v l = l ++ [(a, v)]
  | [], _ => rfl
  | (b, u) :: l, h => by
    unfold mlook at h
    by_cases e : a = b
    · rw [if_pos e] at h; cases h
    · rw [if_neg e] at h; rw [mput, if_neg e, look_none h]; rfl
theorem look_mem {a : α} {v : Value} : ∀ {l : List (α × Value)}, mlook a l = some v → (a, v) ∈ l
  | [], h => by cases h
  | (b, u) :: l, h => by
    unfold mlook at h
    by_cases e : a = b
    · rw [if_pos e] at h; cases h; subst e; simp
    · rw [if_neg e] at h; simp [look_mem h]

def place (a : α) : List (α × Value) → Nat → Option (Nat × Value)
  | [], _ => none
  | (b, v) :: l, i => if a = b then some (i, v) else place a l (i + 1)
theorem place_look (a : α) : ∀ (l : List (α × Value)) (i : Nat), (place a l i).map (·.2) = mlook a l
  | [], _ => rfl
  | (b, v) :: l, i => by
    unfold place mlook
    by_cases e : a = b
    · simp [e]
    · simp [e, place_look a l (i + 1)]
theorem findAsking_run (K : KeyRun P k enc) (a : α) (w : World) : ∀ (es : List MapEntry) (l : List (α × Value)) (i : Nat), es.map (fun e => (e.key, e.val)) = l.map (fun p => (enc p.1, p.2)) →
    (Instr.findAsking k (enc a) es i).run P w = .ok (place a l i) w
  | [], l, i, h => by
    have : l = [] := by simpa using h.symm
    subst this; simp [Instr.findAsking, place]
  | e :: es, l, i, h => by
    match l, h with
    | (b, v) :: l, h =>
      simp only [List.map_cons, List.cons.injEq, Prod.mk.injEq] at h
      obtain ⟨⟨h1, h2⟩, h3⟩ := h
      have ih := findAsking_run K a w es l (i + 1) h3
      simp only [Instr.findAsking, Sem.run_bind, h1, K.eq, Result.andThen_ok, place]
      by_cases e : a = b
      · simp [e, h2]
      · simpa [e] using ih
theorem findKey_run (K : KeyRun P k enc) (a : α) (w : World) (es : List MapEntry) (l : List (α × Value)) (h : es.map (fun e => (e.key, e.val)) = l.map (fun p => (enc p.1, p.2))) :
    (Instr.findKey k (enc a) es).run P w = .ok (place a l 0) w := by
  obtain ⟨desc, hd, hs⟩ := K.und
  match es, l, h with
  | [], l, h =>
    have : l = [] := by simpa using h.symm
    subst this
    simp [Instr.findKey, Sem.run_bind, run_underlying hd, Instr.findNow, place, Result.andThen_ok]
  | e :: es, [], h => simp at h
  | e :: es, (b, v) :: l, h =>
    have h' := h
    simp only [List.map_cons, List.cons.injEq, Prod.mk.injEq] at h'
    have hk : e.key = enc b := h'.1.1
    have := findAsking_run K a w (e :: es) ((b, v) :: l) 0 h
    simpa only [Instr.findKey, Sem.run_bind, run_underlying hd, Instr.findNow, hk, hs, Result.andThen_ok] using this
theorem lookup_run (K : KeyRun P k enc) {T elem : TypeId} (hT : P.underlying T = some (.map k elem)) {z : Value} {W : World} (hz : (zeroValue elem).run P W = .ok z W) {m : Nat} {l : List (α × Value)} (h : MapAt W m enc l) (a : α) (c : Bool) :
    (Instr.lookup T (.map (some m)) (enc a) c).run P W = .ok (match mlook a l with | some v => (if c then .tuple #[v, .bool true] else v) | none => (if c then .tuple #[z, .bool false] else z)) W := by
  obtain ⟨es, clock, hb, he⟩ := h
  have hg : (getObj m).run P W = .ok (.map es clock) W := by simp [getObj, Sem.run, hb]
  simp only [Instr.lookup, Sem.run_bind, run_underlying hT, Result.andThen_ok, hg, Sem.run_pure, K.chk, findKey_run K a W es.toList l he]
  rw [← place_look a l 0]
  cases place a l 0 with
  | none => cases c <;> simp [hz, Sem.run_bind]
  | some p => cases c <;> simp [Sem.run_bind]
theorem modify_put (a : α) (v : Value) : ∀ (es : List MapEntry) (l : List (α × Value)) (i j : Nat) (u : Value), es.map (fun e => (e.key, e.val)) = l.map (fun p => (enc p.1, p.2)) → place a l i = some (j, u) →
    i ≤ j ∧ (es[j - i]?.map (·.key)) = some (enc a) ∧ (es.modify (j - i) fun e => { e with key := enc a, val := v }).map (fun e => (e.key, e.val)) = (mput a v l).map (fun p => (enc p.1, p.2))
  | [], l, i, j, u, h, hp => by
    have : l = [] := by simpa using h.symm
    subst this; cases hp
  | e :: es, l, i, j, u, h, hp => by
    match l, h with
    | (b, x) :: l, h =>
      simp only [List.map_cons, List.cons.injEq, Prod.mk.injEq] at h
      obtain ⟨⟨h1, h2⟩, h3⟩ := h
      unfold place at hp
      by_cases eb : a = b
      · rw [if_pos eb] at hp
        simp only [Option.some.injEq, Prod.mk.injEq] at hp
        obtain ⟨rfl, rfl⟩ := hp
        refine ⟨Nat.le_refl _, by simp [h1, eb], ?_⟩
        rw [mput, if_pos eb]
        subst eb
        simp [h3]
      · rw [if_neg eb] at hp
        obtain ⟨q1, q2, q3⟩ := modify_put a v es l (i + 1) j u h3 hp
        refine ⟨by omega, ?_, ?_⟩
        · rw [show j - i = (j - (i + 1)) + 1 from by omega]; simpa using q2
        · rw [show j - i = (j - (i + 1)) + 1 from by omega, mput, if_neg eb]
          simp [q3, h1, h2]
theorem put_run (K : KeyRun P k enc) {T elem : TypeId} (hT : P.underlying T = some (.map k elem)) {W : World} {m : Nat} {l : List (α × Value)} (h : MapAt W m enc l) (a : α) (v : Value) :
    ∃ W', (Instr.mapUpdate T (.map (some m)) (enc a) v).run P W = .ok () W' ∧ MapAt W' m enc (mput a v l) ∧ Chg (fun k => k = m) W W' ∧ W'.heap.size = W.heap.size := by
  obtain ⟨es, clock, hb, he⟩ := h
  have hg : (getObj m).run P W = .ok (.map es clock) W := by simp [getObj, Sem.run, hb]
  have hlt : m < W.heap.size := (Array.getElem?_eq_some_iff.1 hb).1
  have hset : ∀ o, (setObj m o).run P W = .ok () (W.putObj m o) := fun o => by simp [setObj, Sem.run, hb, World.putObj]
  have hc : ∀ o, Chg (fun k => k = m) W (W.putObj m o) := fun o => (Chg.refl (fun k => k = m) W).putObj (l := m) (fun _ => rfl) o
  cases hp : place a l 0 with
  | none =>
    refine ⟨_, by simp only [Instr.mapUpdate, Sem.run_bind, run_underlying hT, Result.andThen_ok, hg, Sem.run_pure, K.chk, findKey_run K a W es.toList l he, hp, hset]; rfl, ⟨_, _, World.putObj_heap_same hlt, ?_⟩, hc _, by simp⟩
    have hl : mlook a l = none := by rw [← place_look a l 0, hp]; rfl
    rw [look_none hl]; simp [he]
  | some p =>
    obtain ⟨i, u⟩ := p
    obtain ⟨_, q2, q3⟩ := modify_put (enc := enc) a v es.toList l 0 i u he hp
    simp only [Nat.sub_zero] at q2 q3
    have hkey : ((es[i]?).map (·.key)).getD (enc a) = enc a := by
      have : es[i]?.map (·.key) = some (enc a) := by simpa using q2
      rw [this]; rfl
    refine ⟨_, by simp only [Instr.mapUpdate, Sem.run_bind, run_underlying hT, Result.andThen_ok, hg, Sem.run_pure, K.chk, findKey_run K a W es.toList l he, hp, hkey, Instr.keyThatStays, K.same, if_true, hset]; rfl, ⟨_, _, World.putObj_heap_same hlt, ?_⟩, hc _, by simp⟩
    simpa using q3
end
end Go.Proofs.YtemeapfnfegkiaaK
end
section
/- Package disk: groups. -/
namespace Go.Proofs.Ytemeapfnfegkiaa.D
open Go Go.RowKit Go.Proofs.YtemeapfnfegkiaaK Go.Proofs.YtemeapfnfegkiaaW.PrintWords Go.Proofs.YtemeapfnfegkiaaW.PrintLast Go.Proofs.YtemeapfnfegkiaaW.PrintMore Go.Proofs.Ytemeapfnfegkiaa.PR
set_option linter.unusedVariables false
set_option linter.unusedSimpArgs false

abbrev encV (p : Int × Int) : Value := .agg #[.int .i64 p.1, .int .i64 p.2]
theorem v1 : Try.prog.underlying 130 = some (.struct (Try.prog.fieldsOf 130)) := by kernel_rfl
theorem v2 : Try.prog.stoodInHeld 130 = false := by kernel_rfl
theorem v3 : Try.prog.plainKey 3 = true := by kernel_rfl
theorem v4 : ((Try.prog.fieldsOf 130).toList.map fun f => (f.name == "_", f.type, f.offset)) = [(false, 3, 0), (false, 3, 1)] := by kernel_rfl
theorem v5 (w : World) (a b : Int × Int) : (Op.equalIn (9999 + 1) 130 (encV a) (encV b)).run Try.prog w = .ok (a.1 == b.1 && a.2 == b.2) w := equal_two w v1 v2 Try.underlying3 v3 v4 a.1 a.2 b.1 b.2 9999 (by decide)
theorem v6 (w : World) (a b : Int × Int) : (Op.equal 130 (encV a) (encV b)).run Try.prog w = .ok (a.1 == b.1 && a.2 == b.2) w := v5 w a b
theorem v7 (w : World) (e : Bool) (a : Int × Int) : (Instr.checkKey e 10000 130 (encV a)).run Try.prog w = .ok () w := by kernel_rfl
theorem v8 (a : Int × Int) : Instr.sameBits (9999 + 1) (encV a) (encV a) = true := by simp [Instr.sameBits]
theorem keyV : KeyRun Try.prog 130 encV where
  chk := fun e a w => v7 w e a
  eq := fun a b w => by
    rw [v6]
    congr 1
    rw [Bool.eq_iff_iff]
    simp [Prod.ext_iff]
  und := ⟨_, Try.underlying130, fun _ _ => rfl⟩
  same := v8

def groupsTo (adj : Nat → Nat → Bool) (n : Nat) (set : Nat) (k : Nat) : Int × (Nat → Int) :=
  (List.range k).foldl (fun s i => if set.testBit i && s.2 i == 0 then (s.1 + 1, joinF adj n (s.1 + 1) 7 s.2 i) else s) (0, fun _ => 0)
def G (D : Dat) (near : Int) (set : Nat) : Nat → Int := (groupsTo (adjS D.spots near set) D.spots.length set D.spots.length).2

structure Sh (w0 W : World) (D : Dat) (A4 : Option Addr) (c4 : Nat) (A5 : Option Addr) (c5 : Nat) (but : Int) (mp b : Nat) : Prop where
  base : Below w0.heap.size w0 W
  sh : W.heap[b]? = some (.cells (shCells D A4 c4 A5 c5 but mp) 151 (0, 0))
  gb : w0.heap.size ≤ b
  gm : w0.heap.size ≤ mp
  cache : ∃ l, MapAt W mp encV l ∧ ∀ p ∈ l, ∃ (near : Int) (set : Nat), p.1 = (near, (set : Int)) ∧ p.2 = .agg (vec (G D near set))

theorem set_vec {W : World} {B : Nat} {t : TypeId} {g : Nat → Int} (hB : W.heap[B]? = some (.cells (vec g) t (0, 0))) (k : Nat) (hk : k < 7) (x : Int) : (W.setCell ⟨B, k, none⟩ (.int .i64 x)).heap[B]? = some (.cells (vec (upd g k x)) t (0, 0)) := by
  rw [← vec_set g k x hk]; exact blk_set hB k _
abbrev st7 (W : World) (B : Nat) (h : Nat → Int) : World :=
  ((((((W.setCell ⟨B, 0, none⟩ (.int .i64 (h 0))).setCell ⟨B, 1, none⟩ (.int .i64 (h 1))).setCell ⟨B, 2, none⟩ (.int .i64 (h 2))).setCell ⟨B, 3, none⟩ (.int .i64 (h 3))).setCell ⟨B, 4, none⟩ (.int .i64 (h 4))).setCell ⟨B, 5, none⟩ (.int .i64 (h 5))).setCell ⟨B, 6, none⟩ (.int .i64 (h 6))
theorem st7_heap {W : World} {B : Nat} {t : TypeId} {g : Nat → Int} (hB : W.heap[B]? = some (.cells (vec g) t (0, 0))) (h : Nat → Int) : (st7 W B h).heap[B]? = some (.cells (vec h) t (0, 0)) := by
  have h7 := set_vec (set_vec (set_vec (set_vec (set_vec (set_vec (set_vec hB 0 (by omega) (h 0)) 1 (by omega) (h 1)) 2 (by omega) (h 2)) 3 (by omega) (h 3)) 4 (by omega) (h 4)) 5 (by omega) (h 5)) 6 (by omega) (h 6)
  rw [h7]; simp [upd]
theorem st7_chg {S : Nat → Prop} {W0 W : World} {B : Nat} (hc : Chg S W0 W) (hB : B < W0.heap.size → S B) (h : Nat → Int) : Chg S W0 (st7 W B h) :=
  ((((((hc.setCell (p := ⟨B, 0, none⟩) hB _).setCell (p := ⟨B, 1, none⟩) hB _).setCell (p := ⟨B, 2, none⟩) hB _).setCell (p := ⟨B, 3, none⟩) hB _).setCell (p := ⟨B, 4, none⟩) hB _).setCell (p := ⟨B, 5, none⟩) hB _).setCell (p := ⟨B, 6, none⟩) hB _

theorem Sh.chg {w0 W W' : World} {D : Dat} {A4 : Option Addr} {c4 : Nat} {A5 : Option Addr} {c5 : Nat} {but : Int} {mp b : Nat} {S : Nat → Prop} (h : Sh w0 W D A4 c4 A5 c5 but mp b) (hc : Chg S W W') (h0 : ∀ k, S k → w0.heap.size ≤ k ∧ k ≠ b ∧ k ≠ mp) : Sh w0 W' D A4 c4 A5 c5 but mp b := by
  obtain ⟨l, hl, hp⟩ := h.cache
  exact ⟨h.base.trans (hc.below (fun k _ hk => (h0 k hk).1) h.base.size), hc.heap h.sh (fun hk => (h0 _ hk).2.1 rfl), h.gb, h.gm, l, hl.chg hc (fun hk => (h0 _ hk).2.2 rfl), hp⟩
theorem info118 : (Try.prog.info? 118).map (·.size) = some 7 := by kernel_rfl

theorem new_at {W : World} {n : Nat} (h : W.heap.size = n) (o : Obj) : (W.alloc o).heap[n]? = some o := by subst h; exact blk_new _ _
theorem JW.setm {w0 W : World} {D : Dat} {A4 : Option Addr} {c4 : Nat} {A5 : Option Addr} {c5 : Nat} {but : Int} {mp b Bm Bg Bs Bv Bj : Nat} {m near : Int} {set : Nat} {g : Nat → Int}
    (h : JW w0 W D A4 c4 A5 c5 but mp b Bm Bg Bs Bv Bj m near set g) (hm : w0.heap.size ≤ Bm) (x : Int) : JW w0 (W.setCell ⟨Bm, 0, none⟩ (.int .i64 x)) D A4 c4 A5 c5 but mp b Bm Bg Bs Bv Bj x near set g :=
  ⟨h.base.setCell hm _, blk_far h.sh (blk_ne h.sh h.bm (by decide)) _, blk_set h.bm 0 _, blk_far h.bg (blk_ne h.bg h.bm (by decide)) _, blk_far h.bs (blk_ne h.bs h.bm (by decide)) _, blk_far h.bv (blk_ne h.bv h.bm (by decide)) _, blk_far h.bj (blk_ne h.bj h.bm (by decide)) _, h.gg⟩
abbrev joinV (Bm Bg Bs Bv Bj : Nat) : Value := .func (.func 139) #[] #[.pointer (some ⟨Bm, 0, none⟩), .pointer (some ⟨Bg, 0, none⟩), .pointer (some ⟨Bs, 0, none⟩), .pointer (some ⟨Bv, 0, none⟩), .pointer (some ⟨Bj, 0, none⟩)]
theorem groupsTo_succ (adj : Nat → Nat → Bool) (n set k : Nat) : groupsTo adj n set (k + 1) = (if set.testBit k && (groupsTo adj n set k).2 k == 0 then ((groupsTo adj n set k).1 + 1, joinF adj n ((groupsTo adj n set k).1 + 1) 7 (groupsTo adj n set k).2 k) else groupsTo adj n set k) := by
  simp [groupsTo, List.range_succ, List.foldl_append]
theorem groupsTo_many (adj : Nat → Nat → Bool) (n set k : Nat) : 0 ≤ (groupsTo adj n set k).1 ∧ (groupsTo adj n set k).1 ≤ k := by
  induction k with
  | zero => simp [groupsTo]
  | succ k ih => rw [groupsTo_succ]; split <;> simp <;> omega
theorem joinF_val (adj : Nat → Nat → Bool) (n : Nat) (m : Int) : ∀ (f : Nat) (g : Nat → Int) (d k : Nat), joinF adj n m f g d k = g k ∨ joinF adj n m f g d k = m
  | 0, g, d, k => .inl rfl
  | f + 1, g, d, k => by
    have key : ∀ (l : List Nat) (g' : Nat → Int), l.foldl (fun g k => if adj d k && g k == 0 then joinF adj n m f g k else g) g' k = g' k ∨ l.foldl (fun g k => if adj d k && g k == 0 then joinF adj n m f g k else g) g' k = m := by
      intro l
      induction l with
      | nil => exact fun _ => .inl rfl
      | cons a l ih =>
        intro g'
        simp only [List.foldl_cons]
        rcases ih (if adj d a && g' a == 0 then joinF adj n m f g' a else g') with h | h
        · rw [h]
          split
          · exact joinF_val adj n m f g' a k
          · exact .inl rfl
        · exact .inr h
    unfold joinF
    rcases key (List.range n) (upd g d m) with h | h
    · rw [h]; unfold upd
      split
      · exact .inr rfl
      · exact .inl rfl
    · exact .inr h
theorem groupsTo_val (adj : Nat → Nat → Bool) (n set k : Nat) : ∀ j, 0 ≤ (groupsTo adj n set k).2 j ∧ (groupsTo adj n set k).2 j ≤ (groupsTo adj n set k).1 := by
  induction k with
  | zero => simp [groupsTo]
  | succ k ih =>
    intro j
    have hm := groupsTo_many adj n set k
    rw [groupsTo_succ]
    split
    · have := ih j
      rcases joinF_val adj n ((groupsTo adj n set k).1 + 1) 7 (groupsTo adj n set k).2 k j with h | h <;> simp only [h] <;> omega
    · exact ih j
theorem zeros_n (n : Nat) (g : Nat → Int) : zeros n g ≤ n := by
  have := List.countP_le_length (p := fun k => g k == 0) (l := List.range n)
  simpa [zeros] using this

set_option maxRecDepth 100000 in
set_option maxHeartbeats 2000000 in
theorem groups_calls (w0 W : World) (D : Dat) (A4 : Option Addr) (c4 : Nat) (A5 : Option Addr) (c5 : Nat) (but : Int) (mp b : Nat) (near : Int) (set : Nat)
    (hA : Arg w0 D A4 c4 A5 c5) (hV : Valid D) (hn0 : 0 ≤ near) (hn1 : near ≤ 12) (hset : set < 2 ^ 62) (h : Sh w0 W D A4 c4 A5 c5 but mp b) :
    Calls Try.prog 131 #[.pointer (some ⟨b, 0, none⟩), .agg #[.int .i64 near, .int .i64 set]] W
      fun e W' => e = .returned (.agg (vec (G D near set))) ∧ Chg (fun k => k = mp) W W' ∧ Sh w0 W' D A4 c4 A5 c5 but mp b := by
  have H := Aside0.mk h
  obtain ⟨l, hl, hp⟩ := h.cache
  clear h
  go_enter Try.func131, Try.ntmps131
  go_wp2
  go_step3
  have HC1 : Aside0 (Chg (fun _ => False) W (((W.alloc (.cells #[.pointer (some ⟨b, 0, none⟩)] 112)).alloc (.cells #[.int .i64 near, .int .i64 set] 130)).alloc (.cells (vec fun _ => 0) 118))) := ⟨(((Chg.refl _ W).alloc _).alloc _).alloc _⟩
  have HB1 : Aside0 ((((W.alloc (.cells #[.pointer (some ⟨b, 0, none⟩)] 112)).alloc (.cells #[.int .i64 near, .int .i64 set] 130)).alloc (.cells (vec fun _ => 0) 118)).heap[W.heap.size]? = some (.cells #[.pointer (some ⟨b, 0, none⟩)] 112 (0, 0))) := ⟨blk_alloc (blk_alloc (blk_new _ _) _) _⟩
  have HB2 : Aside0 ((((W.alloc (.cells #[.pointer (some ⟨b, 0, none⟩)] 112)).alloc (.cells #[.int .i64 near, .int .i64 set] 130)).alloc (.cells (vec fun _ => 0) 118)).heap[W.heap.size + 1]? = some (.cells #[.int .i64 near, .int .i64 set] 130 (0, 0))) := ⟨blk_alloc (by have := blk_new (W.alloc (.cells #[.pointer (some ⟨b, 0, none⟩)] 112)) (.cells #[.int .i64 near, .int .i64 set] 130); rwa [World.size_alloc] at this) _⟩
  have HB3 : Aside0 ((((W.alloc (.cells #[.pointer (some ⟨b, 0, none⟩)] 112)).alloc (.cells #[.int .i64 near, .int .i64 set] 130)).alloc (.cells (vec fun _ => 0) 118)).heap[W.heap.size + 1 + 1]? = some (.cells (vec fun _ => 0) 118 (0, 0))) := ⟨by have := blk_new ((W.alloc (.cells #[.pointer (some ⟨b, 0, none⟩)] 112)).alloc (.cells #[.int .i64 near, .int .i64 set] 130)) (.cells (vec fun _ => 0) 118); rwa [World.size_alloc, World.size_alloc] at this⟩
  obtain ⟨Bs, hBs⟩ : ∃ Bs, W.heap.size = Bs := ⟨_, rfl⟩
  rw [hBs] at HB1 HB2 HB3 ⊢
  generalize (((W.alloc (.cells #[.pointer (some ⟨b, 0, none⟩)] 112)).alloc (.cells #[.int .i64 near, .int .i64 set] 130)).alloc (.cells (vec fun _ => 0) 118)) = W1 at HC1 HB1 HB2 HB3 ⊢
  have h2 : W1.cell? ⟨b, 7, none⟩ = some (.map (some mp)) := (blk_cell (HC1.out.heap H.out.sh id) 7).trans rfl
  have s0 : W1.cell? ⟨Bs, 0, none⟩ = some (.pointer (some ⟨b, 0, none⟩)) := (blk_cell HB1.out 0).trans rfl
  have s1 : W1.cell? ⟨Bs + 1, 0, none⟩ = some (.int .i64 near) := (blk_cell HB2.out 0).trans rfl
  have s2 : W1.cell? ⟨Bs + 1, 1, none⟩ = some (.int .i64 set) := (blk_cell HB2.out 1).trans rfl
  have hl1 := hl.chg HC1.out id
  have r0 : W1.cell? ⟨Bs + 1 + 1, 0, none⟩ = some (.int .i64 0) := (blk_cell HB3.out 0).trans rfl
  have f0 := blk_frozen HB3.out 0
  have r1 : W1.cell? ⟨Bs + 1 + 1, 1, none⟩ = some (.int .i64 0) := (blk_cell HB3.out 1).trans rfl
  have f1 := blk_frozen HB3.out 1
  have r2 : W1.cell? ⟨Bs + 1 + 1, 2, none⟩ = some (.int .i64 0) := (blk_cell HB3.out 2).trans rfl
  have f2 := blk_frozen HB3.out 2
  have r3 : W1.cell? ⟨Bs + 1 + 1, 3, none⟩ = some (.int .i64 0) := (blk_cell HB3.out 3).trans rfl
  have f3 := blk_frozen HB3.out 3
  have r4 : W1.cell? ⟨Bs + 1 + 1, 4, none⟩ = some (.int .i64 0) := (blk_cell HB3.out 4).trans rfl
  have f4 := blk_frozen HB3.out 4
  have r5 : W1.cell? ⟨Bs + 1 + 1, 5, none⟩ = some (.int .i64 0) := (blk_cell HB3.out 5).trans rfl
  have f5 := blk_frozen HB3.out 5
  have r6 : W1.cell? ⟨Bs + 1 + 1, 6, none⟩ = some (.int .i64 0) := (blk_cell HB3.out 6).trans rfl
  have f6 := blk_frozen HB3.out 6
  have z0 := blk_lt HB1.out
  have z1 := blk_lt HB2.out
  have z2 := blk_lt HB3.out
  have z3 := blk_lt (HC1.out.heap H.out.sh id)
  cases hq : mlook (near, (set : Int)) l with
  | some v =>
    have hlk : ∀ W', Chg (fun _ => False) W1 W' → (Instr.lookup 149 (.map (some mp)) (.agg #[.int .i64 near, .int .i64 set]) true).run Try.prog W' = .ok (.tuple #[v, .bool true]) W' := fun W' h' => by
      have := lookup_run (P := Try.prog) keyV (T := 149) Try.underlying149 (elem := 118) (z := .agg (vec fun _ => 0)) (by kernel_rfl) (hl1.chg h' id) (near, (set : Int)) true
      rw [hq] at this; exact this
    obtain ⟨n', s', e1, e2⟩ := hp _ (look_mem hq)
    simp only [Prod.mk.injEq] at e1
    obtain ⟨rfl, e1⟩ := e1
    obtain rfl : set = s' := by omega
    simp only at e2
    subst e2
    clear hq hp
    have hk1 := hlk _ (Chg.refl _ W1).drew
    have hk2 := fun o => hlk _ ((Chg.refl _ W1).drew.alloc o)
    have hk3 := fun o => hlk _ ((Chg.refl _ W1).alloc o).drew
    go_wp2
    go_region
    go_wp2
    rw [Exit.noGoto_ret]
    have HC2 := Aside0.mk (((st7_chg HC1.out (B := Bs + 1 + 1) (fun hx => by omega) (G D near set)).alloc (.cells (vec (G D near set)) 118)).drew)
    refine bodyPost_ret (v := .agg (vec (G D near set))) (results_cell_row rfl _ _ (Bs + 1 + 1) 118 _ (0, 0) _ rfl (blk_drew (blk_alloc (st7_heap HB3.out _) _)) Try.underlying118 rfl info118) rfl ⟨rfl, HC2.out.mono (fun _ _ x => x.elim), H.out.chg HC2.out (fun _ x => x.elim)⟩
  | none =>
    have hlk : ∀ W', Chg (fun _ => False) W1 W' → (Instr.lookup 149 (.map (some mp)) (.agg #[.int .i64 near, .int .i64 set]) true).run Try.prog W' = .ok (.tuple #[.agg (vec fun _ => 0), .bool false]) W' := fun W' h' => by
      have := lookup_run (P := Try.prog) keyV (T := 149) Try.underlying149 (elem := 118) (z := .agg (vec fun _ => 0)) (by kernel_rfl) (hl1.chg h' id) (near, (set : Int)) true
      rw [hq] at this; exact this
    have HQ := Aside0.mk hq
    clear hq
    have hk1 := hlk _ (Chg.refl _ W1).drew
    have hk2 := fun o => hlk _ ((Chg.refl _ W1).drew.alloc o)
    have hk3 := fun o => hlk _ ((Chg.refl _ W1).alloc o).drew
    go_wp2
    go_region
    go_wp2
    clear hlk hk1 hk2 hk3
    have gW := HC1.out.size
    have g0 := H.out.base.size
    obtain ⟨W2, hW2⟩ : ∃ W2, ((((W1.alloc (.cells (vec fun _ => 0) 118)).alloc (.cells (vec fun _ => 0) 118)).alloc (.cells #[.int .i64 0] 3)).alloc (.cells #[joinV (W1.heap.size + 1 + 1) (W1.heap.size + 1) Bs (Bs + 1) (W1.heap.size + 1 + 1 + 1)] 166)).drew = W2 := ⟨_, rfl⟩
    have HC2 : Aside0 (Chg (fun _ => False) W W2) := ⟨by rw [← hW2]; exact ((((HC1.out.alloc _).alloc _).alloc _).alloc _).drew⟩
    have HC12 : Aside0 (Chg (fun _ => False) W1 W2) := ⟨by rw [← hW2]; exact (((((Chg.refl _ W1).alloc _).alloc _).alloc _).alloc _).drew⟩
    have HJ : Aside0 (JW w0 W2 D A4 c4 A5 c5 but mp b (W1.heap.size + 1 + 1) (W1.heap.size + 1) Bs (Bs + 1) (W1.heap.size + 1 + 1 + 1) (groupsTo (adjS D.spots near set) D.spots.length set 0).1 near set (groupsTo (adjS D.spots near set) D.spots.length set 0).2) := ⟨{
      base := (H.out.chg HC2.out (fun _ x => x.elim)).base
      sh := HC2.out.heap H.out.sh id
      bm := by rw [← hW2]; exact blk_drew (blk_alloc (new_at (by simp) _) _)
      bg := by rw [← hW2]; exact blk_drew (blk_alloc (blk_alloc (new_at (by simp) _) _) _)
      bs := HC12.out.heap HB1.out id
      bv := HC12.out.heap HB2.out id
      bj := by rw [← hW2]; exact blk_drew (new_at (by simp) _)
      gg := by omega }⟩
    have HR : Aside0 (W2.heap[Bs + 1 + 1]? = some (.cells (vec fun _ => 0) 118 (0, 0))) := ⟨HC12.out.heap HB3.out id⟩
    show Code.wp Try.prog _ _ _ ((((W1.alloc (.cells (vec fun _ => 0) 118)).alloc (.cells (vec fun _ => 0) 118)).alloc (.cells #[.int .i64 0] 3)).alloc (.cells #[joinV (W1.heap.size + 1 + 1) (W1.heap.size + 1) Bs (Bs + 1) (W1.heap.size + 1 + 1 + 1)] 166)).drew
    rw [hW2]
    clear hW2 HC12 HB1 HB2 HB3 h2 s0 s1 s2 hl1 z0 z1 z3 r0 r1 r2 r3 r4 r5 r6 f0 f1 f2 f3 f4 f5 f6
    obtain ⟨Bg, hBg⟩ : ∃ Bg, W1.heap.size + 1 = Bg := ⟨_, rfl⟩
    rw [hBg] at HJ ⊢
    have gg : W.heap.size < Bg := by omega
    have gR : Bs + 1 + 1 < Bg := by omega
    clear gW hBg z2
    go_step3
    have s0 : W2.cell? ⟨Bs, 0, none⟩ = some (.pointer (some ⟨b, 0, none⟩)) := (blk_cell HJ.out.bs 0).trans rfl
    have h4 : W2.cell? ⟨b, 4, none⟩ = some (.slice A4 D.spots.length c4) := (blk_cell HJ.out.sh 4).trans rfl
    go_wp2
    go_loopw [29] (fun j wr => ∃ k : Nat, k ≤ D.spots.length ∧ j = .int .i64 k ∧ Aside0 (JW w0 wr D A4 c4 A5 c5 but mp b (Bg + 1) Bg Bs (Bs + 1) (Bg + 1 + 1) (groupsTo (adjS D.spots near set) D.spots.length set k).1 near set (groupsTo (adjS D.spots near set) D.spots.length set k).2) ∧ Aside0 (Chg (fun _ => False) W wr) ∧
      Aside0 (wr.heap[Bs + 1 + 1]? = some (.cells (vec fun _ => 0) 118 (0, 0)))) (fun j _ => D.spots.length - (intOf j).toNat)
    case atStart => exact ⟨0, Nat.zero_le _, rfl, HJ, HC2, HR⟩
    case round =>
      clear HJ HC2 HR s0 h4
      obtain ⟨k, hk, rfl, HJ, HC2, HR⟩ := hrel
      by_cases hlt : k < D.spots.length
      · have hn7 := hV.n7
        obtain ⟨g, hg⟩ : ∃ g, groupsTo (adjS D.spots near set) D.spots.length set k = g := ⟨_, rfl⟩
        have HG := Aside0.mk hg
        have hval := groupsTo_val (adjS D.spots near set) D.spots.length set k k
        have hmany := groupsTo_many (adjS D.spots near set) D.spots.length set k
        rw [hg] at HJ hval hmany
        clear hg
        obtain ⟨m, g⟩ := g
        simp only at HJ hval hmany
        obtain ⟨hv0, hv1⟩ := hval
        obtain ⟨hm0, hm1⟩ := hmany
        have hb1 : wr.cell? ⟨Bs + 1, 1, none⟩ = some (.int .i64 set) := (blk_cell HJ.out.bv 1).trans rfl
        have hgk : wr.cell? ⟨Bg, k, none⟩ = some (.int .i64 (g k)) := (blk_cell HJ.out.bg k).trans (vec_get _ k (by omega))
        have hbm : wr.cell? ⟨Bg + 1, 0, none⟩ = some (.int .i64 m) := (blk_cell HJ.out.bm 0).trans rfl
        have hfm := blk_frozen HJ.out.bm 0
        have hbit := bit1 set k hset
        obtain ⟨q, hq⟩ : ∃ q, set.testBit k = q := ⟨_, rfl⟩
        rw [hq] at hbit
        have HQ1 := Aside0.mk hq
        clear hq
        cases q
        · rw [if_neg (by simp)] at hbit
          go_wp2
          go_roundw
          case rel => exact ⟨k + 1, by omega, by go_num, ⟨by rw [groupsTo_succ, HG.out, HQ1.out]; exact HJ.out⟩, HC2, HR⟩
          case measure => simp [intOf]; omega
        · rw [if_pos rfl] at hbit
          by_cases hz : g k = 0
          · have HZ := Aside0.mk hz
            rw [hz] at hgk
            clear hz hv0 hv1
            have HJ2 := Aside0.mk (HJ.out.setm (by omega) (m + 1))
            have hbj : wr.cell? ⟨Bg + 1 + 1, 0, none⟩ = some (joinV (Bg + 1) Bg Bs (Bs + 1) (Bg + 1 + 1)) := (blk_cell HJ.out.bj 0).trans rfl
            go_wp2_with (go_at_call 139; refine (join_calls w0 D A4 c4 A5 c5 but mp b (Bg + 1) Bg Bs (Bs + 1) (Bg + 1 + 1) (m + 1) near set hA hV hn0 hn1 hset (by omega) 7 k g _ hlt (Nat.le_trans (zeros_n _ _) hn7) HZ.out HJ2.out).mono ?_; rintro e w1 ⟨⟨v, rfl⟩, hcj, hjj⟩; have HCJ := Aside0.mk hcj; have HJJ := Aside0.mk hjj; clear hcj hjj)
            go_roundw
            case rel => exact ⟨k + 1, by omega, by go_num, ⟨by rw [groupsTo_succ, HG.out, HQ1.out, if_pos (by simp [HZ.out])]; exact HJJ.out⟩, ⟨(HC2.out.setCell (p := ⟨Bg + 1, 0, none⟩) (fun hx => by simp at hx; omega) _).then_ HCJ.out (fun j hj e => by omega)⟩, ⟨HCJ.out.heap (blk_far HR.out (by simp; omega) _) (by omega)⟩⟩
            case measure => simp [intOf]; omega
          · have hz' : ¬ g k ≤ 0 := by omega
            have HZ := Aside0.mk hz
            go_wp2
            go_roundw
            case rel => exact ⟨k + 1, by omega, by go_num, ⟨by rw [groupsTo_succ, HG.out, HQ1.out, beq_eq_false_iff_ne.2 (show (m, g).2 k ≠ 0 from HZ.out)]; exact HJ.out⟩, HC2, HR⟩
            case measure => simp [intOf]; omega
      · obtain rfl : k = D.spots.length := by omega
        have hJ := HJ.out
        rw [show (groupsTo (adjS D.spots near set) D.spots.length set D.spots.length).2 = G D near set from rfl] at hJ
        have hs0 : wr.cell? ⟨Bs, 0, none⟩ = some (.pointer (some ⟨b, 0, none⟩)) := (blk_cell hJ.bs 0).trans rfl
        have h7 : wr.cell? ⟨b, 7, none⟩ = some (.map (some mp)) := (blk_cell hJ.sh 7).trans rfl
        have hv0 : wr.cell? ⟨Bs + 1, 0, none⟩ = some (.int .i64 near) := (blk_cell hJ.bv 0).trans rfl
        have hv1 : wr.cell? ⟨Bs + 1, 1, none⟩ = some (.int .i64 set) := (blk_cell hJ.bv 1).trans rfl
        have q0 : wr.cell? ⟨Bg, 0, none⟩ = some (.int .i64 (G D near set 0)) := (blk_cell hJ.bg 0).trans rfl
        have q1 : wr.cell? ⟨Bg, 1, none⟩ = some (.int .i64 (G D near set 1)) := (blk_cell hJ.bg 1).trans rfl
        have q2 : wr.cell? ⟨Bg, 2, none⟩ = some (.int .i64 (G D near set 2)) := (blk_cell hJ.bg 2).trans rfl
        have q3 : wr.cell? ⟨Bg, 3, none⟩ = some (.int .i64 (G D near set 3)) := (blk_cell hJ.bg 3).trans rfl
        have q4 : wr.cell? ⟨Bg, 4, none⟩ = some (.int .i64 (G D near set 4)) := (blk_cell hJ.bg 4).trans rfl
        have q5 : wr.cell? ⟨Bg, 5, none⟩ = some (.int .i64 (G D near set 5)) := (blk_cell hJ.bg 5).trans rfl
        have q6 : wr.cell? ⟨Bg, 6, none⟩ = some (.int .i64 (G D near set 6)) := (blk_cell hJ.bg 6).trans rfl
        obtain ⟨W3, hmu, hm3, hc3, hs3⟩ := put_run (P := Try.prog) keyV (T := 149) Try.underlying149 (elem := 118) (W := wr.drew) ((hl.chg HC2.out id).chg (Chg.refl (fun _ => False) wr).drew id) (near, (set : Int)) (.agg (vec (G D near set)))
        have hB3 := HJ.out.base
        have HW : Aside0 (Chg (fun k => k = mp) W W3) := ⟨((HC2.out.mono (fun _ _ x => x.elim)).drew).trans hc3⟩
        have hne : Bg ≠ mp := fun e => by
          obtain ⟨es, cl, hb, _⟩ := hl.chg HC2.out id
          rw [← e, hJ.bg] at hb; cases hb
        have hneR : Bs + 1 + 1 ≠ mp := fun e => by
          obtain ⟨es, cl, hb, _⟩ := hl.chg HC2.out id
          rw [← e, HR.out] at hb; cases hb
        have hneb : b ≠ mp := fun e => by
          obtain ⟨es, cl, hb, _⟩ := hl.chg HC2.out id
          rw [← e, hJ.sh] at hb; cases hb
        have HG3 := Aside0.mk (hc3.heap (blk_drew hJ.bg) hne)
        have HR3 := Aside0.mk (hc3.heap (blk_drew HR.out) hneR)
        have HSh : Aside0 (Sh w0 W3 D A4 c4 A5 c5 but mp b) := ⟨{
          base := H.out.base.trans (HW.out.below (fun k _ e => by rw [e]; exact H.out.gm) H.out.base.size)
          sh := HW.out.heap H.out.sh hneb
          gb := H.out.gb
          gm := H.out.gm
          cache := ⟨_, hm3, fun p hp' => by
            rw [look_none HQ.out] at hp'
            rcases List.mem_append.1 hp' with h | h
            · exact hp p h
            · simp at h; subst h; exact ⟨near, set, rfl, rfl⟩⟩ }⟩
        clear hJ hB3 HJ HC2 hm3 hne hneb hneR hl hp
        go_wp2
        go_region
        clear hmu hs0 h7 hv0 hv1 q0 q1 q2 q3 q4 q5 q6
        have y0 : W3.cell? ⟨Bg, 0, none⟩ = some (.int .i64 (G D near set 0)) := (blk_cell HG3.out 0).trans rfl
        have r0 : W3.cell? ⟨Bs + 1 + 1, 0, none⟩ = some (.int .i64 0) := (blk_cell HR3.out 0).trans rfl
        have f0 := blk_frozen HR3.out 0
        have y1 : W3.cell? ⟨Bg, 1, none⟩ = some (.int .i64 (G D near set 1)) := (blk_cell HG3.out 1).trans rfl
        have r1 : W3.cell? ⟨Bs + 1 + 1, 1, none⟩ = some (.int .i64 0) := (blk_cell HR3.out 1).trans rfl
        have f1 := blk_frozen HR3.out 1
        have y2 : W3.cell? ⟨Bg, 2, none⟩ = some (.int .i64 (G D near set 2)) := (blk_cell HG3.out 2).trans rfl
        have r2 : W3.cell? ⟨Bs + 1 + 1, 2, none⟩ = some (.int .i64 0) := (blk_cell HR3.out 2).trans rfl
        have f2 := blk_frozen HR3.out 2
        have y3 : W3.cell? ⟨Bg, 3, none⟩ = some (.int .i64 (G D near set 3)) := (blk_cell HG3.out 3).trans rfl
        have r3 : W3.cell? ⟨Bs + 1 + 1, 3, none⟩ = some (.int .i64 0) := (blk_cell HR3.out 3).trans rfl
        have f3 := blk_frozen HR3.out 3
        have y4 : W3.cell? ⟨Bg, 4, none⟩ = some (.int .i64 (G D near set 4)) := (blk_cell HG3.out 4).trans rfl
        have r4 : W3.cell? ⟨Bs + 1 + 1, 4, none⟩ = some (.int .i64 0) := (blk_cell HR3.out 4).trans rfl
        have f4 := blk_frozen HR3.out 4
        have y5 : W3.cell? ⟨Bg, 5, none⟩ = some (.int .i64 (G D near set 5)) := (blk_cell HG3.out 5).trans rfl
        have r5 : W3.cell? ⟨Bs + 1 + 1, 5, none⟩ = some (.int .i64 0) := (blk_cell HR3.out 5).trans rfl
        have f5 := blk_frozen HR3.out 5
        have y6 : W3.cell? ⟨Bg, 6, none⟩ = some (.int .i64 (G D near set 6)) := (blk_cell HG3.out 6).trans rfl
        have r6 : W3.cell? ⟨Bs + 1 + 1, 6, none⟩ = some (.int .i64 0) := (blk_cell HR3.out 6).trans rfl
        have f6 := blk_frozen HR3.out 6
        go_wp2
        rw [Exit.noGoto_ret]
        have gRW : ¬ Bs + 1 + 1 < W.heap.size := by omega
        have HC4 := Aside0.mk (st7_chg HW.out (B := Bs + 1 + 1) (fun hx => absurd hx gRW) (G D near set))
        have HC5 := Aside0.mk (st7_chg (Chg.refl (fun k => k = Bs + 1 + 1) W3) (B := Bs + 1 + 1) (fun _ => rfl) (G D near set))
        refine bodyPost_ret (v := .agg (vec (G D near set))) (results_cell_row rfl _ _ (Bs + 1 + 1) 118 _ (0, 0) _ rfl (st7_heap HR3.out _) Try.underlying118 rfl info118) rfl ⟨rfl, HC4.out, HSh.out.chg HC5.out (fun k e => ?_)⟩
        have n1 : Bs + 1 + 1 ≠ b := fun x => by have h1 := HR3.out; rw [x, HSh.out.sh] at h1; cases h1
        have n2 : Bs + 1 + 1 ≠ mp := fun x => by
          obtain ⟨l', ⟨es, cl, hb, _⟩, _⟩ := HSh.out.cache
          rw [← x, HR3.out] at hb; cases hb
        exact ⟨by omega, by omega, by omega⟩
end Go.Proofs.Ytemeapfnfegkiaa.D
end
section
/- Package disk: so; the iterator truths. -/
namespace Go.Proofs.Ytemeapfnfegkiaa.D
open Go Go.RowKit Go.Proofs.YtemeapfnfegkiaaK Go.Proofs.YtemeapfnfegkiaaW.PrintWords Go.Proofs.YtemeapfnfegkiaaW.PrintLast Go.Proofs.YtemeapfnfegkiaaW.PrintMore Go.Proofs.Ytemeapfnfegkiaa.PR
set_option linter.unusedVariables false
set_option linter.unusedSimpArgs false

def sayB (g : Nat → Int) (t : Told) : Bool := (decide (0 < g t.f0.toNat) && g t.f0.toNat == g t.f1.toNat) == t.f2
def soTo (D : Dat) (but : Nat) (g : Nat → Int) (k : Nat) : Bool := (List.range k).all fun i => but.testBit i || sayB g (rd_T52 D.told i)
def soB (D : Dat) (but : Nat) (g : Nat → Int) : Bool := soTo D but g D.told.length
theorem soTo_succ (D : Dat) (but : Nat) (g : Nat → Int) (k : Nat) : soTo D but g (k + 1) = (soTo D but g k && (but.testBit k || sayB g (rd_T52 D.told k))) := by simp [soTo, List.range_succ]
theorem soTo_le (D : Dat) (but : Nat) (g : Nat → Int) {k n : Nat} (h : k ≤ n) (hf : soTo D but g k = false) : soTo D but g n = false := by
  induction n with
  | zero => have : k = 0 := by omega
            subst this; exact hf
  | succ n ih =>
    by_cases e : k = n + 1
    · subst e; exact hf
    · rw [soTo_succ, ih (by omega)]; rfl

set_option maxRecDepth 100000 in
set_option maxHeartbeats 1000000 in
theorem so_calls (w0 W : World) (D : Dat) (A4 : Option Addr) (c4 : Nat) (A5 : Option Addr) (c5 : Nat) (but : Nat) (mp b : Nat) (g : Nat → Int)
    (hA : Arg w0 D A4 c4 A5 c5) (hV : Valid D) (hbut : but < 2 ^ 62) (h : Sh w0 W D A4 c4 A5 c5 but mp b) :
    Calls Try.prog 130 #[.pointer (some ⟨b, 0, none⟩), .agg (vec g)] W
      fun e W' => e = .returned (.bool (soB D but g)) ∧ Chg (fun _ => False) W W' := by
  have H := Aside0.mk h
  have HV := Aside0.mk hV
  have h5 : W.cell? ⟨b, 5, none⟩ = some (.slice A5 D.told.length c5) := (blk_cell h.sh 5).trans rfl
  have h6 : W.cell? ⟨b, 6, none⟩ = some (.int .i64 but) := (blk_cell h.sh 6).trans rfl
  have lb := blk_lt h.sh
  have hn5 := hV.t4
  clear h hV
  go_enter Try.func130, Try.ntmps130
  go_wp2
  have HX : Aside0 ((W.alloc (.cells (vec g) 118)).heap[W.heap.size]? = some (.cells (vec g) 118 (0, 0))) := ⟨blk_new _ _⟩
  have HC : Aside0 (Chg (fun _ => False) W (W.alloc (.cells (vec g) 118))) := ⟨(Chg.refl _ W).alloc _⟩
  generalize W.alloc (.cells (vec g) 118) = W1 at HX HC ⊢
  obtain ⟨Bx, hBx⟩ : ∃ Bx, W.heap.size = Bx := ⟨_, rfl⟩
  rw [hBx] at HX ⊢
  clear hBx
  go_loopw [13] (fun j wr => ∃ k : Nat, k ≤ D.told.length ∧ j = .int .i64 k ∧ Aside0 (soTo D but g k = true) ∧ Aside0 (Chg (fun _ => False) W wr) ∧ Aside0 (wr.heap[Bx]? = some (.cells (vec g) 118 (0, 0)))) (fun j _ => D.told.length - (intOf j).toNat)
  case atStart => exact ⟨0, Nat.zero_le _, rfl, ⟨rfl⟩, HC, HX⟩
  case round =>
    clear HC HX
    obtain ⟨k, hk, rfl, HS, HC, HX⟩ := hrel
    by_cases hlt : k < D.told.length
    · obtain ⟨ad, e, hc0, hc1, hc2⟩ := at_told (Kd.C_below hA.t (H.out.chg HC.out (fun _ x => x.elim)).base) k hlt
      subst e
      obtain ⟨t, ht⟩ : ∃ t, rd_T52 D.told k = t := ⟨_, rfl⟩
      have HT := Aside0.mk ht
      rw [ht] at hc0 hc1 hc2
      have vt := HV.out.ab k hlt
      have hn7 := HV.out.n7
      rw [ht] at vt
      clear ht
      obtain ⟨a, b', o⟩ := t
      simp only at hc0 hc1 hc2 vt
      obtain ⟨v0, v1, v2, v3, v4⟩ := vt
      obtain ⟨a, rfl⟩ := Int.eq_ofNat_of_zero_le v0
      obtain ⟨d, rfl⟩ := Int.eq_ofNat_of_zero_le v2
      have hxa : wr.cell? ⟨Bx, a, none⟩ = some (.int .i64 (g a)) := (blk_cell HX.out a).trans (vec_get _ a (by omega))
      have hxd : wr.cell? ⟨Bx, d, none⟩ = some (.int .i64 (g d)) := (blk_cell HX.out d).trans (vec_get _ d (by omega))
      have lx := blk_lt HX.out
      have hb6 : wr.cell? ⟨b, 6, none⟩ = some (.int .i64 but) := HC.out.cell h6 id
      have lb' : b < wr.heap.size := Nat.lt_of_lt_of_le lb HC.out.size
      have hbit := bit1 but k hbut
      obtain ⟨q, hq⟩ : ∃ q, but.testBit k = q := ⟨_, rfl⟩
      rw [hq] at hbit
      have HQ1 := Aside0.mk hq
      clear hq
      cases q
      · rw [if_neg (by simp)] at hbit
        have HL : Aside0 (∀ r, sayB g ⟨a, d, o⟩ = r → soTo D but g (k + 1) = r) := ⟨fun r hr => by rw [soTo_succ, HS.out, HQ1.out, HT.out, hr]; rfl⟩
        have HE : Aside0 (sayB g ⟨a, d, o⟩ = ((decide (0 < g a) && g a == g d) == o)) := ⟨by simp [sayB]⟩
        obtain ⟨q, hq⟩ : ∃ q, (g a == g d) = q := ⟨_, rfl⟩
        by_cases hg : 0 < g a <;> cases q <;> cases o
        all_goals
          have HG : Aside0 (decide (0 < g a) = decide (0 < g a)) := ⟨rfl⟩
          first | (have hgd : decide (0 < g a) = true := by simpa using hg) | (have hgd : decide (0 < g a) = false := by simpa using hg)
          rw [hgd, hq] at HE
          go_wp2
          go_quiet (fail)
          go_wp2
          first
            | (go_roundw
               case rel => exact ⟨k + 1, by omega, by go_num, ⟨HL.out true HE.out⟩, ⟨(HC.out.alloc _).drewN _⟩, ⟨blk_drewN (blk_alloc HX.out _) _⟩⟩
               case measure => simp [intOf]; omega)
            | (go_ret
               exact ⟨by rw [soB, soTo_le D but g (show k + 1 ≤ D.told.length by omega) (HL.out false HE.out)]; rfl, (HC.out.alloc _).drewN _⟩)
      · rw [if_pos rfl] at hbit
        go_wp2
        go_quiet (fail)
        go_wp2
        go_roundw
        case rel => exact ⟨k + 1, by omega, by go_num, ⟨by rw [soTo_succ, HS.out, HQ1.out]; rfl⟩, ⟨(HC.out.alloc _).drewN _⟩, ⟨blk_drewN (blk_alloc HX.out _) _⟩⟩
        case measure => simp [intOf]; omega
    · obtain rfl : k = D.told.length := by omega
      go_wp2
      go_ret
      exact ⟨by rw [soB, HS.out]; rfl, HC.out⟩
end Go.Proofs.Ytemeapfnfegkiaa.D
end
section
/- Package disk: the iterator truths. -/
namespace Go.Proofs.Ytemeapfnfegkiaa.D
open Go Go.RowKit Go.Proofs.YtemeapfnfegkiaaK Go.Proofs.YtemeapfnfegkiaaW.PrintWords Go.Proofs.YtemeapfnfegkiaaW.PrintLast Go.Proofs.YtemeapfnfegkiaaW.PrintMore Go.Proofs.Ytemeapfnfegkiaa.PR
set_option linter.unusedVariables false
set_option linter.unusedSimpArgs false

def onB (D : Dat) (k : Nat) : Bool := decide ((rd_T80 D.spots k).f0 * (rd_T80 D.spots k).f0 + (rd_T80 D.spots k).f1 * (rd_T80 D.spots k).f1 ≤ D.rad * D.rad)
def mayTo (D : Dat) : Nat → Nat
  | 0 => 0
  | k + 1 => if onB D k then mayTo D k ||| 2 ^ k else mayTo D k
def sureTo (D : Dat) : Nat → Nat
  | 0 => 0
  | k + 1 => if onB D k && (rd_T80 D.spots k).f2 then sureTo D k ||| 2 ^ k else sureTo D k
theorem mayTo_lt (D : Dat) : ∀ k, mayTo D k < 2 ^ k
  | 0 => by simp [mayTo]
  | k + 1 => by
    have h := mayTo_lt D k
    unfold mayTo
    split
    · exact Nat.or_lt_two_pow (by omega) (by omega)
    · omega
theorem sureTo_lt (D : Dat) : ∀ k, sureTo D k < 2 ^ k
  | 0 => by simp [sureTo]
  | k + 1 => by
    have h := sureTo_lt D k
    unfold sureTo
    split
    · exact Nat.or_lt_two_pow (by omega) (by omega)
    · omega
def okSet (D : Dat) (set : Nat) : Bool := set &&& sureTo D D.spots.length == sureTo D D.spots.length && less set (mayTo D D.spots.length) == 0
def isTruth (D : Dat) (but : Nat) (near : Int) (set : Nat) : Bool := okSet D set && soB D but (G D near set)
def setsTo (D : Dat) (but : Nat) (near : Int) (s : Nat) : List (Int × Nat) := ((List.range s).filter (isTruth D but near)).map fun s => (near, s)
def nearsTo (D : Dat) (but : Nat) (k : Nat) : List (Int × Nat) := (List.range k).flatMap fun (i : Nat) => setsTo D but (D.lo + (i : Int)) (2 ^ D.spots.length)
def truthsL (D : Dat) (but : Nat) : List (Int × Nat) := nearsTo D but (D.hi - D.lo + 1).toNat
def encT (D : Dat) (x : Int × Nat) : Array Value := #[.agg #[.int .i64 x.1, .int .i64 x.2], .agg (vec (G D x.1 x.2))]
theorem setsTo_succ (D : Dat) (but : Nat) (near : Int) (s : Nat) : setsTo D but near (s + 1) = setsTo D but near s ++ (if isTruth D but near s then [(near, s)] else []) := by
  simp only [setsTo, List.range_succ, List.filter_append, List.map_append]
  by_cases h : isTruth D but near s = true
  · simp [h]
  · simp [h]
theorem nearsTo_succ (D : Dat) (but : Nat) (k : Nat) : nearsTo D but (k + 1) = nearsTo D but k ++ setsTo D but (D.lo + k) (2 ^ D.spots.length) := by
  simp [nearsTo, List.range_succ]
theorem setsTo_prefix (D : Dat) (but : Nat) (near : Int) {s t : Nat} (h : s ≤ t) : setsTo D but near s <+: setsTo D but near t := by
  induction t with
  | zero => have : s = 0 := by omega
            subst this; exact List.prefix_refl _
  | succ t ih =>
    by_cases e : s = t + 1
    · subst e; exact List.prefix_refl _
    · exact (ih (by omega)).trans (by rw [setsTo_succ]; exact List.prefix_append _ _)
theorem nearsTo_prefix (D : Dat) (but : Nat) {s t : Nat} (h : s ≤ t) : nearsTo D but s <+: nearsTo D but t := by
  induction t with
  | zero => have : s = 0 := by omega
            subst this; exact List.prefix_refl _
  | succ t ih =>
    by_cases e : s = t + 1
    · subst e; exact List.prefix_refl _
    · exact (ih (by omega)).trans (by rw [nearsTo_succ]; exact List.prefix_append _ _)
theorem part_prefix (D : Dat) (but : Nat) {i s : Nat} (hi : i < (D.hi - D.lo + 1).toNat) (hs : s ≤ 2 ^ D.spots.length) : nearsTo D but i ++ setsTo D but (D.lo + i) s <+: truthsL D but :=
  ((List.prefix_append_right_inj _).2 (setsTo_prefix D but _ hs)).trans (by rw [← nearsTo_succ]; exact nearsTo_prefix D but hi)

structure Ok (w0 : World) (D : Dat) (A4 : Option Addr) (c4 : Nat) (A5 : Option Addr) (c5 : Nat) (but : Nat) (mp b Bs : Nat) (W : World) : Prop where
  s : Sh w0 W D A4 c4 A5 c5 but mp b
  bs : W.heap[Bs]? = some (.cells #[.pointer (some ⟨b, 0, none⟩)] 112 (0, 0))

theorem sq_le {x : Int} (h : -12 ≤ x) (k : x ≤ 12) : 0 ≤ x * x ∧ x * x ≤ 144 := by
  constructor
  · rcases Int.le_total 0 x with h0 | h0
    · exact Int.mul_nonneg h0 h0
    · have := Int.mul_nonneg (show 0 ≤ -x by omega) (show 0 ≤ -x by omega)
      rwa [Int.neg_mul_neg] at this
  · have : 0 ≤ (12 - x) * (12 + x) := Int.mul_nonneg (by omega) (by omega)
    have e : (12 - x) * (12 + x) = 144 - x * x := by rw [Int.sub_mul, Int.mul_add, Int.mul_add]; omega
    omega
theorem or_pow {a k : Nat} (ha : a < 2 ^ 62) (hk : k < 62) : bits .or .i64 (a : Int) (wrap64 (2 ^ k)) = ((a ||| 2 ^ k : Nat) : Int) := by
  have h := shl1 k hk
  rw [Int.one_mul] at h
  have h' : wrap64 (2 ^ k) = ((2 ^ k : Nat) : Int) := by rw [← i64_w]; exact h
  rw [h', or_i64 a (2 ^ k) ha (Nat.pow_lt_pow_right (by decide) hk)]

set_option maxRecDepth 100000 in
set_option maxHeartbeats 2000000 in
theorem truthsC_iter (w0 W0 : World) (D : Dat) (A4 : Option Addr) (c4 : Nat) (A5 : Option Addr) (c5 : Nat) (but : Nat) (mp b Bs : Nat)
    (hA : Arg w0 D A4 c4 A5 c5) (hV : Valid D) (hbut : but < 2 ^ 62) (hmp : mp < W0.heap.size) :
    Iter Try.prog 129 #[.pointer (some ⟨Bs, 0, none⟩)] (encT D) (fun k => k = mp) (Ok w0 D A4 c4 A5 c5 but mp b Bs) (truthsL D but) W0 := by
  intro l J Jx W Fp0 hW hl1 hl2 hF0 hJ hJx hY h0 hOk
  refine callsIn_wide.2 ?_
  have HOk := Aside0.mk hOk
  have H0 := Aside0.mk h0
  have HY := Aside0.mk hY
  have HJ := Aside0.mk hJ
  have HJx := Aside0.mk hJx
  have s0 : W.cell? ⟨Bs, 0, none⟩ = some (.pointer (some ⟨b, 0, none⟩)) := (blk_cell hOk.bs 0).trans rfl
  have h1 : W.cell? ⟨b, 1, none⟩ = some (.int .i64 D.rad) := (blk_cell hOk.s.sh 1).trans rfl
  have h4 : W.cell? ⟨b, 4, none⟩ = some (.slice A4 D.spots.length c4) := (blk_cell hOk.s.sh 4).trans rfl
  have lb := blk_lt hOk.s.sh
  have ls := blk_lt hOk.bs
  have hn7 := hV.n7
  have HF0 := Aside0.mk hF0
  clear hOk h0 hY hJ hJx hW hF0
  go_enter Try.func129, Try.ntmps129
  go_wp2
  go_loopw [4, 5, 20] (fun v4 v5 j wr => ∃ k : Nat, k ≤ D.spots.length ∧ j = .int .i64 k ∧ v4 = .int .i64 (sureTo D k) ∧ v5 = .int .i64 (mayTo D k) ∧ Aside0 (Chg (fun _ => False) W wr)) (fun _ _ j _ => D.spots.length - (intOf j).toNat)
  case atStart => exact ⟨0, Nat.zero_le _, rfl, rfl, rfl, ⟨Chg.refl _ _⟩⟩
  case round =>
    obtain ⟨k, hk, rfl, rfl, rfl, HC⟩ := hrel
    have c0 : wr.cell? ⟨Bs, 0, none⟩ = some (.pointer (some ⟨b, 0, none⟩)) := HC.out.cell s0 id
    have c1 : wr.cell? ⟨b, 1, none⟩ = some (.int .i64 D.rad) := HC.out.cell h1 id
    have c4' : wr.cell? ⟨b, 4, none⟩ = some (.slice A4 D.spots.length c4) := HC.out.cell h4 id
    have lb' : b < wr.heap.size := Nat.lt_of_lt_of_le lb HC.out.size
    have ls' : Bs < wr.heap.size := Nat.lt_of_lt_of_le ls HC.out.size
    by_cases hlt : k < D.spots.length
    · obtain ⟨ad, e, hc0, hc1, hc2⟩ := at_spot (Kd.C_below hA.s (HOk.out.s.chg HC.out (fun _ x => x.elim)).base) k hlt
      subst e
      obtain ⟨xk, hxk⟩ : ∃ x, rd_T80 D.spots k = x := ⟨_, rfl⟩
      have HK := Aside0.mk hxk
      rw [hxk] at hc0 hc1 hc2
      have vk := hV.xy k hlt
      rw [hxk] at vk
      clear hxk
      obtain ⟨vk0, vk1, vk2, vk3⟩ := vk
      have m1 := sq_le vk0 vk1
      have m2 := sq_le vk2 vk3
      have m3 := sq_le (show -12 ≤ D.rad by have := hV.rad; omega) hV.rad.2
      obtain ⟨m10, m11⟩ := m1
      obtain ⟨m20, m21⟩ := m2
      obtain ⟨m30, m31⟩ := m3
      have HON : Aside0 (onB D k = decide (xk.f0 * xk.f0 + xk.f1 * xk.f1 ≤ D.rad * D.rad)) := ⟨by rw [onB, HK.out]⟩
      obtain ⟨p, hp⟩ : ∃ p, xk.f0 * xk.f0 = p := ⟨_, rfl⟩
      obtain ⟨q, hq⟩ : ∃ q, xk.f1 * xk.f1 = q := ⟨_, rfl⟩
      obtain ⟨r, hr⟩ : ∃ r, D.rad * D.rad = r := ⟨_, rfl⟩
      rw [hp] at m10 m11 HON
      rw [hq] at m20 m21 HON
      rw [hr] at m30 m31 HON
      have hk62 : k < 62 := by omega
      have hor1 : bits .or .i64 (mayTo D k : Int) (wrap64 (2 ^ k)) = ((mayTo D k ||| 2 ^ k : Nat) : Int) := or_pow (Nat.lt_trans (mayTo_lt D k) (Nat.pow_lt_pow_right (by decide) hk62)) hk62
      have hor2 : bits .or .i64 (sureTo D k : Int) (wrap64 (2 ^ k)) = ((sureTo D k ||| 2 ^ k : Nat) : Int) := or_pow (Nat.lt_trans (sureTo_lt D k) (Nat.pow_lt_pow_right (by decide) hk62)) hk62
      obtain ⟨f0, f1, f2⟩ := xk
      simp only at hc0 hc1 hc2 hp hq
      by_cases hon : p + q ≤ r
      · have HO2 : Aside0 (onB D k = true) := ⟨by rw [HON.out]; simpa using hon⟩
        cases f2
        all_goals
          go_wp2
          go_quiet (fail)
          go_wp2
          go_roundw
          case rel => exact ⟨k + 1, by omega, by go_num, by rw [sureTo, HO2.out, HK.out]; rfl, by rw [mayTo, HO2.out]; rfl, ⟨(HC.out.alloc _).drewN _⟩⟩
          case measure => simp [intOf]; omega
      · have HO2 : Aside0 (onB D k = false) := ⟨by rw [HON.out]; simpa using hon⟩
        go_wp2
        go_quiet (fail)
        go_wp2
        go_roundw
        case rel => exact ⟨k + 1, by omega, by go_num, by rw [sureTo, HO2.out]; rfl, by rw [mayTo, HO2.out]; rfl, ⟨(HC.out.alloc _).drewN _⟩⟩
        case measure => simp [intOf]; omega
    · obtain rfl : k = D.spots.length := by omega
      have HOk1 : Aside0 (Ok w0 D A4 c4 A5 c5 but mp b Bs wr) := ⟨HOk.out.s.chg HC.out (fun _ x => x.elim), HC.out.heap HOk.out.bs id⟩
      have HJ1 : Aside0 (J [] Fp0 wr) := ⟨HJ.out _ _ _ _ H0.out (HC.out.mono (fun _ _ x => x.elim)) HOk1.out⟩
      have HF1 : Aside0 (∀ k, Fp0 k → k < wr.heap.size) := ⟨fun k hk => Nat.lt_of_lt_of_le (HF0.out k hk) HC.out.size⟩
      have HS1 := Aside0.mk HC.out.size
      have c2 : wr.cell? ⟨b, 2, none⟩ = some (.int .i64 D.lo) := (blk_cell HOk1.out.s.sh 2).trans rfl
      have lo0 := hV.lo
      have hi12 := hV.hi
      have hle := hV.le
      have hsh : wrap64 (2 ^ D.spots.length) = ((2 ^ D.spots.length : Nat) : Int) := by
        have h := shl1 D.spots.length (by omega)
        rw [Int.one_mul] at h
        rw [← i64_w]; exact h
      have hN : 2 ^ D.spots.length ≤ 128 := Nat.pow_le_pow_right (n := 2) (by decide) hn7
      obtain ⟨N, hNe⟩ : ∃ N, 2 ^ D.spots.length = N := ⟨_, rfl⟩
      have HN := Aside0.mk hNe
      rw [hNe] at hsh hN
      have HSH := Aside0.mk hsh
      clear hNe hsh
      go_wp2
      go_loopw [8] (fun v8 wr => ∃ (i : Nat) (Fp : Nat → Prop), i ≤ (D.hi - D.lo + 1).toNat ∧ v8 = .int .i64 (D.lo + i) ∧ Aside0 (J (nearsTo D but i) Fp wr) ∧ Aside0 (Ok w0 D A4 c4 A5 c5 but mp b Bs wr) ∧ Aside0 (∀ k, Fp k → k < wr.heap.size) ∧ Aside0 (W.heap.size ≤ wr.heap.size)) (fun v8 _ => (D.hi + 1 - intOf v8).toNat)
      case atStart => exact ⟨0, Fp0, Nat.zero_le _, by simp, HJ1, HOk1, HF1, HS1⟩
      case round =>
        clear HOk1 HJ1 HF1 HS1 c2 HC
        obtain ⟨i, Fp, hi, rfl, HJ1, HOk1, HF1, HS1⟩ := hrel
        have c0 : wr.cell? ⟨Bs, 0, none⟩ = some (.pointer (some ⟨b, 0, none⟩)) := (blk_cell HOk1.out.bs 0).trans rfl
        have c3 : wr.cell? ⟨b, 3, none⟩ = some (.int .i64 D.hi) := (blk_cell HOk1.out.s.sh 3).trans rfl
        have c4' : wr.cell? ⟨b, 4, none⟩ = some (.slice A4 D.spots.length c4) := (blk_cell HOk1.out.s.sh 4).trans rfl
        obtain ⟨near, hnear⟩ : ∃ near, D.lo + (i : Int) = near := ⟨_, rfl⟩
        have HNE := Aside0.mk hnear
        have hnear0 : 0 ≤ near := by omega
        by_cases hlt : near ≤ D.hi
        · have hi1 : i < (D.hi - D.lo + 1).toNat := by omega
          rw [hnear]
          clear hnear
          go_wp2
          rw [HSH.out]
          go_loopw [87] (fun v87 wr => ∃ (t : Nat) (Fp : Nat → Prop), t ≤ N ∧ v87 = .int .i64 t ∧ Aside0 (J (nearsTo D but i ++ setsTo D but near t) Fp wr) ∧ Aside0 (Ok w0 D A4 c4 A5 c5 but mp b Bs wr) ∧ Aside0 (∀ k, Fp k → k < wr.heap.size) ∧ Aside0 (W.heap.size ≤ wr.heap.size)) (fun v87 _ => N - (intOf v87).toNat)
          case atStart => exact ⟨0, Fp, Nat.zero_le _, rfl, ⟨by simpa [setsTo] using HJ1.out⟩, HOk1, HF1, HS1⟩
          case round =>
            clear HOk1 HJ1 HF1 HS1 c0 c3 c4' 
            obtain ⟨t, Fp, ht, rfl, HJ1, HOk1, HF1, HS1⟩ := hrel
            by_cases htn : t < N
            · have ht62 : t < 2 ^ 62 := by omega
              have hsu : sureTo D D.spots.length < 2 ^ 62 := Nat.lt_trans (sureTo_lt D _) (Nat.pow_lt_pow_right (by decide) (by omega))
              have hma : mayTo D D.spots.length < 2 ^ 62 := Nat.lt_trans (mayTo_lt D _) (Nat.pow_lt_pow_right (by decide) (by omega))
              have hand := and_i64 t (sureTo D D.spots.length) ht62 hsu
              have hnot := andNot_i64 t (mayTo D D.spots.length) ht62 hma
              have HOS : Aside0 (okSet D t = (t &&& sureTo D D.spots.length == sureTo D D.spots.length && less t (mayTo D D.spots.length) == 0)) := ⟨rfl⟩
              obtain ⟨x, hx⟩ : ∃ x, t &&& sureTo D D.spots.length = x := ⟨_, rfl⟩
              obtain ⟨y, hy⟩ : ∃ y, less t (mayTo D D.spots.length) = y := ⟨_, rfl⟩
              rw [hx] at hand HOS
              rw [hy] at hnot HOS
              clear ht62 hsu hma hx hy
              have c0 : wr.cell? ⟨Bs, 0, none⟩ = some (.pointer (some ⟨b, 0, none⟩)) := (blk_cell HOk1.out.bs 0).trans rfl
              by_cases hxs : x = sureTo D D.spots.length
              · have hx1 : ((x : Int) == (sureTo D D.spots.length : Int)) = true := by rw [hxs]; simp
                by_cases hy0 : y = 0
                · have HOK : Aside0 (okSet D t = true) := ⟨by rw [HOS.out, hxs, hy0]; simp⟩
                  rw [hxs] at hand
                  rw [hy0] at hnot
                  clear hxs hy0 hx1 HOS
                  have HOka : Aside0 (Ok w0 D A4 c4 A5 c5 but mp b Bs (wr.alloc (.cells #[.int .i64 near, .int .i64 t] 130))) := ⟨HOk1.out.s.chg ((Chg.refl (fun _ => False) wr).alloc _) (fun _ x => x.elim), blk_alloc HOk1.out.bs _⟩
                  have HVa : Aside0 ((wr.alloc (.cells #[.int .i64 near, .int .i64 t] 130)).heap[wr.heap.size]? = some (.cells #[.int .i64 near, .int .i64 t] 130 (0, 0))) := ⟨blk_new _ _⟩
                  have ls' : Bs < wr.heap.size := blk_lt HOk1.out.bs
                  go_upto_region 19 with (go_at_call 131; refine (groups_calls w0 _ D A4 c4 A5 c5 but mp b near t hA hV hnear0 (by omega) (by omega) HOka.out.s).mono ?_; rintro e w1 ⟨rfl, hcg, hsg⟩; have HCG := Aside0.mk hcg; have HSG := Aside0.mk hsg; clear hcg hsg)
                  have HC2 : Aside0 (Chg (fun k => k = mp) wr (w1.alloc (.cells (vec (G D near t)) 118))) := ⟨((((Chg.refl (fun k => k = mp) wr).alloc _).trans HCG.out).alloc _)⟩
                  have HOk2 : Aside0 (Ok w0 D A4 c4 A5 c5 but mp b Bs (w1.alloc (.cells (vec (G D near t)) 118))) := ⟨HSG.out.chg ((Chg.refl (fun _ => False) w1).alloc _) (fun _ x => x.elim), HC2.out.heap HOk1.out.bs (fun e => by
                    obtain ⟨es, cl, hb, _⟩ := HOk1.out.s.cache.choose_spec.1
                    rw [← e, HOk1.out.bs] at hb; cases hb)⟩
                  have HV2 : Aside0 ((w1.alloc (.cells (vec (G D near t)) 118)).heap[wr.heap.size]? = some (.cells #[.int .i64 near, .int .i64 t] 130 (0, 0))) := ⟨blk_alloc (HCG.out.heap HVa.out (fun e => by
                    obtain ⟨es, cl, hb, _⟩ := HOka.out.s.cache.choose_spec.1
                    rw [← e, HVa.out] at hb; cases hb)) _⟩
                  have HG2 : Aside0 ((w1.alloc (.cells (vec (G D near t)) 118)).heap[w1.heap.size]? = some (.cells (vec (G D near t)) 118 (0, 0))) := ⟨blk_new _ _⟩
                  clear HCG HSG HOka HVa ls' c0
                  generalize hW2 : w1.alloc (.cells (vec (G D near t)) 118) = W2 at HC2 HOk2 HV2 HG2 ⊢
                  clear hW2
                  obtain ⟨Bv, hBv⟩ : ∃ Bv, wr.heap.size = Bv := ⟨_, rfl⟩
                  obtain ⟨Bg, hBg⟩ : ∃ Bg, w1.heap.size = Bg := ⟨_, rfl⟩
                  rw [hBv] at HV2 ⊢
                  rw [hBg] at HG2 ⊢
                  clear hBv hBg
                  have HJ2 : Aside0 (J (nearsTo D but i ++ setsTo D but near t) Fp W2) := ⟨HJ.out _ _ _ _ HJ1.out (HC2.out.mono (fun k _ e => .inl e)) HOk2.out⟩
                  have HF2 : Aside0 (∀ k, Fp k → k < W2.heap.size) := ⟨fun k hk => Nat.lt_of_lt_of_le (HF1.out k hk) HC2.out.size⟩
                  have HS2 : Aside0 (W.heap.size ≤ W2.heap.size) := ⟨Nat.le_trans HS1.out HC2.out.size⟩
                  clear HC2 HJ1 HOk1 HF1 HS1
                  have q0 : W2.cell? ⟨Bg, 0, none⟩ = some (.int .i64 (G D near t 0)) := (blk_cell HG2.out 0).trans rfl
                  have q1 : W2.cell? ⟨Bg, 1, none⟩ = some (.int .i64 (G D near t 1)) := (blk_cell HG2.out 1).trans rfl
                  have q2 : W2.cell? ⟨Bg, 2, none⟩ = some (.int .i64 (G D near t 2)) := (blk_cell HG2.out 2).trans rfl
                  have q3 : W2.cell? ⟨Bg, 3, none⟩ = some (.int .i64 (G D near t 3)) := (blk_cell HG2.out 3).trans rfl
                  have q4 : W2.cell? ⟨Bg, 4, none⟩ = some (.int .i64 (G D near t 4)) := (blk_cell HG2.out 4).trans rfl
                  have q5 : W2.cell? ⟨Bg, 5, none⟩ = some (.int .i64 (G D near t 5)) := (blk_cell HG2.out 5).trans rfl
                  have q6 : W2.cell? ⟨Bg, 6, none⟩ = some (.int .i64 (G D near t 6)) := (blk_cell HG2.out 6).trans rfl
                  obtain ⟨so, hso⟩ : ∃ so, soB D but (G D near t) = so := ⟨_, rfl⟩
                  have HSO := Aside0.mk hso
                  have HT : Aside0 (isTruth D but near t = so) := ⟨by rw [isTruth, HOK.out, hso]; rfl⟩
                  clear hso
                  have HPRE : Aside0 (so = true → (nearsTo D but i ++ setsTo D but near t) ++ [(near, t)] <+: truthsL D but) := ⟨fun h => by
                    rw [List.append_assoc, show setsTo D but near t ++ [(near, t)] = setsTo D but near (t + 1) by rw [setsTo_succ, HT.out, h]; rfl, ← HNE.out]
                    exact part_prefix D but hi1 (by rw [HN.out]; omega)⟩
                  cases so
                  · go_wp2_with (go_at_call 130; refine (so_calls w0 _ D A4 c4 A5 c5 but mp b (G D near t) hA hV hbut HOk2.out.s).mono ?_; rintro e w2 ⟨rfl, hc2⟩; have HC3 := Aside0.mk hc2; clear hc2; rw [HSO.out])
                    go_roundw
                    case rel => exact ⟨t + 1, Fp, by omega, by go_num, ⟨by rw [setsTo_succ, HT.out]; simpa using HJ.out _ _ _ _ HJ2.out (HC3.out.mono (fun _ _ x => x.elim)) ⟨HOk2.out.s.chg HC3.out (fun _ x => x.elim), HC3.out.heap HOk2.out.bs id⟩⟩, ⟨HOk2.out.s.chg HC3.out (fun _ x => x.elim), HC3.out.heap HOk2.out.bs id⟩, ⟨fun k hk => Nat.lt_of_lt_of_le (HF2.out k hk) HC3.out.size⟩, ⟨Nat.le_trans HS2.out HC3.out.size⟩⟩
                    case measure => simp [intOf]; omega
                  · refine (wpIn_wide (n := 0)).1 ?_
                    gi_wp2_with (refine ⟨trivial, rfl, ?_⟩; gi_at_call 130; refine (callsIn_wide.2 (so_calls w0 _ D A4 c4 A5 c5 but mp b (G D near t) hA hV hbut HOk2.out.s)).mono ?_; rintro e w2 ⟨rfl, hc2⟩; have HC3 := Aside0.mk hc2; clear hc2; rw [HSO.out]; have HOk3 : Aside0 (Ok w0 D A4 c4 A5 c5 but mp b Bs w2) := ⟨⟨HOk2.out.s.chg HC3.out (fun _ x => x.elim), HC3.out.heap HOk2.out.bs id⟩⟩; have HJ3 : Aside0 (J (nearsTo D but i ++ setsTo D but near t) Fp w2) := ⟨HJ.out _ _ _ _ HJ2.out (HC3.out.mono (fun _ _ x => x.elim)) HOk3.out⟩; have HF3 : Aside0 (∀ k, Fp k → k < w2.heap.size) := ⟨fun k hk => Nat.lt_of_lt_of_le (HF2.out k hk) HC3.out.size⟩; obtain ⟨fn, tmps, assign, body, hy, hR⟩ := HY.out _ (near, t) Fp w2 (HPRE.out (by simp)) HJ3.out HOk3.out HF3.out; dsimp only [encT] at hy; have HRQ := Aside0.mk hR; clear hR; have q0 := HC3.out.cell q0 id; have q1 := HC3.out.cell q1 id; have q2 := HC3.out.cell q2 id; have q3 := HC3.out.cell q3 id; have q4 := HC3.out.cell q4 id; have q5 := HC3.out.cell q5 id; have q6 := HC3.out.cell q6 id; have v0 : w2.cell? ⟨Bv, 0, none⟩ = some (.int .i64 near) := (blk_cell (HC3.out.heap HV2.out id) 0).trans rfl; have v1 : w2.cell? ⟨Bv, 1, none⟩ = some (.int .i64 t) := (blk_cell (HC3.out.heap HV2.out id) 1).trans rfl)
                    refine ⟨rfl, HRQ.out.mono ?_⟩
                    clear hy
                    rintro e W3 (⟨rfl, Fp', hj4, hc4, hok4, hf4⟩ | ⟨rfl, hj4, hok4⟩)
                    · have HJ4 := Aside0.mk hj4
                      have HC4 := Aside0.mk hc4
                      have HOk4 := Aside0.mk hok4
                      have HF4 : Aside0 (∀ k, Fp' k → k < W3.heap.size) := ⟨fun k hk => (hf4 k hk).1⟩
                      clear hj4 hc4 hok4 hf4
                      gi_wp2
                      go_wp2
                      go_roundw
                      case rel => exact ⟨t + 1, Fp', by omega, by go_num, ⟨by rw [setsTo_succ, HT.out, if_pos rfl, ← List.append_assoc]; exact HJ4.out⟩, HOk4, HF4, ⟨Nat.le_trans HS2.out (Nat.le_trans HC3.out.size HC4.out.size)⟩⟩
                      case measure => simp [intOf]; omega
                    · have HJ4 := Aside0.mk hj4
                      have HOk4 := Aside0.mk hok4
                      clear hj4 hok4
                      gi_wp2
                      go_wp2
                      refine bodyPost_ret (results_none rfl _ _ _) rfl ?_
                      exact ⟨⟨_, rfl⟩, .inr ⟨_, HPRE.out (by simp), HJ4.out, HOk4.out⟩⟩
                · have hy1 : ((y : Int) == 0) = false := beq_eq_false_iff_ne.2 (by omega)
                  have HT : Aside0 (isTruth D but near t = false) := ⟨by rw [isTruth, HOS.out, beq_eq_false_iff_ne.2 hy0]; simp⟩
                  rw [hxs] at hand
                  clear hxs
                  go_wp2
                  go_roundw
                  case rel => exact ⟨t + 1, Fp, by omega, by go_num, ⟨by rw [setsTo_succ, HT.out]; simpa using HJ1.out⟩, HOk1, HF1, HS1⟩
                  case measure => simp [intOf]; omega
              · have hx1 : ((x : Int) == (sureTo D D.spots.length : Int)) = false := beq_eq_false_iff_ne.2 (by omega)
                have HT : Aside0 (isTruth D but near t = false) := ⟨by rw [isTruth, HOS.out, beq_eq_false_iff_ne.2 hxs]; simp⟩
                go_wp2
                go_roundw
                case rel => exact ⟨t + 1, Fp, by omega, by go_num, ⟨by rw [setsTo_succ, HT.out]; simpa using HJ1.out⟩, HOk1, HF1, HS1⟩
                case measure => simp [intOf]; omega
            · obtain rfl : t = N := by omega
              go_wp2
              go_roundw
              case rel => exact ⟨i + 1, Fp, by omega, by rw [← HNE.out]; go_num, ⟨by rw [nearsTo_succ, HN.out, HNE.out]; exact HJ1.out⟩, HOk1, HF1, HS1⟩
              case measure => simp [intOf]; omega
        · have hi1 : i = (D.hi - D.lo + 1).toNat := by omega
          rw [hnear]
          clear hnear
          go_wp2
          go_end0
          exact ⟨⟨_, rfl⟩, .inl ⟨Fp, by rw [truthsL, ← hi1]; exact HJ1.out, HOk1.out, HF1.out⟩⟩
end Go.Proofs.Ytemeapfnfegkiaa.D
end
section
/- General lemmas of this session's own: results that lie in cells; leaving behind a range over a function. -/
namespace Go.Proofs.YtemeapfnfegkiaaK
open Go Go.RowKit
set_option linter.unusedVariables false
set_option linter.unusedSimpArgs false
variable {P : Program}

theorem load_one {w : World} {ty : TypeId} {g : Nat} {v : Value} {d : TypeDesc} (hc : w.cell? ⟨g, 0, none⟩ = some v) (hu : P.underlying ty = some d) (hd : (match d with | .struct _ | .array _ _ => true | _ => false) = false) :
    (loadVar ty ⟨g, 0, none⟩).run P w = .ok v w := by
  have hagg : (isAgg ty).run P w = .ok false w := by
    unfold isAgg
    rw [Sem.run_bind, run_underlying hu w]
    cases d <;> simp_all
  simp [loadVar, Sem.run_bind, hagg]
  rw [hc]
theorem results_cell1 {fn : Func} {p : Tmp} {ty : TypeId} (h : fn.results = #[.cell p ty]) (tmps : Array Value) (w : World) (g : Nat) (v : Value) (d : TypeDesc) (hp : tmps.getD p undef = .pointer (some ⟨g, 0, none⟩))
    (hc : w.cell? ⟨g, 0, none⟩ = some v) (hu : P.underlying ty = some d) (hd : (match d with | .struct _ | .array _ _ => true | _ => false) = false) : (results fn tmps).run P w = .ok v w := by
  have hp' : tmps[p]?.getD undef = .pointer (some ⟨g, 0, none⟩) := by simpa using hp
  simp [results, h, hp', asAddr, load_one hc hu hd]
theorem results_cell2 {fn : Func} {p q : Tmp} {ty tz : TypeId} (h : fn.results = #[.cell p ty, .cell q tz]) (tmps : Array Value) (w : World) (g k : Nat) (u v : Value) (d e : TypeDesc) (hp : tmps.getD p undef = .pointer (some ⟨g, 0, none⟩)) (hq : tmps.getD q undef = .pointer (some ⟨k, 0, none⟩))
    (hc : w.cell? ⟨g, 0, none⟩ = some u) (hu : P.underlying ty = some d) (hd : (match d with | .struct _ | .array _ _ => true | _ => false) = false)
    (hc' : w.cell? ⟨k, 0, none⟩ = some v) (hu' : P.underlying tz = some e) (hd' : (match e with | .struct _ | .array _ _ => true | _ => false) = false) : (results fn tmps).run P w = .ok (.tuple #[u, v]) w := by
  have hp' : tmps[p]?.getD undef = .pointer (some ⟨g, 0, none⟩) := by simpa using hp
  have hq' : tmps[q]?.getD undef = .pointer (some ⟨k, 0, none⟩) := by simpa using hq
  simp [results, h, hp', hq', asAddr, load_one hc hu hd, load_one hc' hu' hd']

theorem leave_mark {fn : Func} {R : Ending → World → Prop} {tmps : Array Value} {D : Nat} {w : World} {v : Value} (hD : w.heap[D]? = some (.deferred (some [])))
    (hr : (results fn tmps).run P (w.putObj D (.deferred none)) = .ok v (w.putObj D (.deferred none))) (h : R (.returned v) (w.putObj D (.deferred none))) :
    bodyPostM Fence.wide 0 P fn R .ret { tmps := tmps, defers := [{ target := .collected D, args := #[] }] } w :=
  ⟨by simp, .inl ⟨_, _, rfl, run_takeDeferred hD, ⟨v, hr, h⟩⟩⟩
theorem cell_putObj {w : World} {D : Nat} {o : Obj} {a : Addr} {v : Value} (h : w.cell? a = some v) (hD : w.heap[D]? = some (.deferred (some []))) : (w.putObj D o).cell? a = some v := by
  have hne : a.block ≠ D := fun e => by
    rw [World.cell?, e, hD] at h; cases h
  have : (w.putObj D o).heap[a.block]? = w.heap[a.block]? := World.putObj_heap_other hne
  rw [World.cell?_of_block (w := w) this]; exact h
end Go.Proofs.YtemeapfnfegkiaaK
end
section
/- Package disk: look, truths, some, enter. -/
namespace Go.Proofs.Ytemeapfnfegkiaa.D
open Go Go.RowKit Go.Proofs.YtemeapfnfegkiaaK Go.Proofs.YtemeapfnfegkiaaW.PrintWords Go.Proofs.YtemeapfnfegkiaaW.PrintLast Go.Proofs.YtemeapfnfegkiaaW.PrintMore Go.Proofs.Ytemeapfnfegkiaa.PR
set_option linter.unusedVariables false
set_option linter.unusedSimpArgs false
attribute [local go_sem] Oper.semAt_some

set_option maxHeartbeats 400000 in
theorem look_calls (w0 W : World) (D : Dat) (A4 : Option Addr) (c4 : Nat) (A5 : Option Addr) (c5 : Nat) (but : Nat) (hB : Below w0.heap.size w0 W) :
    Calls Try.prog 107 #[.agg #[.string D.nm, .int .i64 D.rad, .int .i64 D.lo, .int .i64 D.hi, .slice A4 D.spots.length c4, .slice A5 D.told.length c5], .int .i64 but] W
      fun e W' => ∃ mp b, e = .returned (.pointer (some ⟨b, 0, none⟩)) ∧ Chg (fun _ => False) W W' ∧ Sh w0 W' D A4 c4 A5 c5 but mp b ∧ W.heap.size ≤ mp ∧ W.heap.size ≤ b := by
  have hmm := @run_makeMap Try.prog
  have hz := hB.size
  go_enter Try.func107, Try.ntmps107
  go_wp2
  go_ret
  refine ⟨W.heap.size + 1, _, rfl, (((Chg.refl _ W).alloc _).alloc _).alloc _, ⟨?_, ?_, ?_, ?_, [], ?_, fun p hp => by cases hp⟩, by omega, by omega⟩
  · exact ((hB.alloc hz _).alloc (by simp; omega) _).alloc (by simp; omega) _
  · exact new_at (by simp) _
  · omega
  · omega
  · exact (MapAt.made (W.alloc _) encV).chg (((Chg.refl (fun _ => False) _).alloc _)) id |> fun h => by simpa using h

set_option maxHeartbeats 400000 in
theorem truths_calls (W : World) (b : Nat) :
    Calls Try.prog 118 #[.pointer (some ⟨b, 0, none⟩)] W
      fun e W' => e = .returned (.func (.func 129) #[] #[.pointer (some ⟨W.heap.size, 0, none⟩)]) ∧ W' = W.alloc (.cells #[.pointer (some ⟨b, 0, none⟩)] 112) := by
  go_enter Try.func118, Try.ntmps118
  go_wp2
  go_ret
  exact ⟨rfl, rfl⟩

theorem enters129 (args : Array Value) (w : World) : (callFunc 129 args).run Try.prog w = .ok (.enter 129 args) w := enters_of Try.func129 (by kernel_rfl) rfl args w
theorem Ok.chg {w0 : World} {D : Dat} {A4 : Option Addr} {c4 : Nat} {A5 : Option Addr} {c5 : Nat} {but : Nat} {mp b Bs : Nat} {W W' : World} {S : Nat → Prop} (h : Ok w0 D A4 c4 A5 c5 but mp b Bs W) (hc : Chg S W W') (h0 : ∀ k, S k → w0.heap.size ≤ k ∧ k ≠ b ∧ k ≠ mp ∧ k ≠ Bs) : Ok w0 D A4 c4 A5 c5 but mp b Bs W' :=
  ⟨h.s.chg hc (fun k hk => ⟨(h0 k hk).1, (h0 k hk).2.1, (h0 k hk).2.2.1⟩), hc.heap h.bs (fun hk => (h0 _ hk).2.2.2 rfl)⟩
theorem Sh.mp_lt {w0 W : World} {D : Dat} {A4 : Option Addr} {c4 : Nat} {A5 : Option Addr} {c5 : Nat} {but : Int} {mp b : Nat} (h : Sh w0 W D A4 c4 A5 c5 but mp b) : mp < W.heap.size := by
  obtain ⟨l, ⟨es, cl, hb, _⟩, _⟩ := h.cache
  exact blk_lt hb
set_option maxRecDepth 100000 in
set_option maxHeartbeats 1000000 in
theorem some_calls (w0 W : World) (D : Dat) (A4 : Option Addr) (c4 : Nat) (A5 : Option Addr) (c5 : Nat) (but : Nat) (mp b : Nat)
    (hA : Arg w0 D A4 c4 A5 c5) (hV : Valid D) (hbut : but < 2 ^ 62) (h : Sh w0 W D A4 c4 A5 c5 but mp b) :
    Calls Try.prog 108 #[.pointer (some ⟨b, 0, none⟩)] W
      fun e W' => e = .returned (.bool (!(truthsL D but).isEmpty)) ∧ Chg (fun k => k = mp) W W' ∧ Sh w0 W' D A4 c4 A5 c5 but mp b := by
  have H := Aside0.mk h
  have hmp := h.mp_lt
  have hb0 := blk_lt h.sh
  clear h
  refine (callsIn_wide (n := 0)).1 ?_
  refine callsIn_of_wp_marks Try.func108 rfl trivial ?_
  simp only [Try.ntmps108, List.size_toArray, List.length_cons, List.length_nil, Nat.reduceAdd, Nat.reduceSub, Array.replicate_succ, Array.replicate_zero, List.push_toArray, List.append_toArray, List.nil_append, List.cons_append]
  gi_wp2_with (refine ⟨trivial, rfl, ?_⟩; gi_at_call 118; refine (callsIn_wide.2 (truths_calls _ b)).mono ?_; rintro e w1 ⟨rfl, rfl⟩)
  have HC : Aside0 (Chg (fun _ => False) W ((W.alloc (.cells #[.bool false] 4)).alloc (.cells #[.pointer (some ⟨b, 0, none⟩)] 112))) := ⟨((Chg.refl _ W).alloc _).alloc _⟩
  have HR : Aside0 (((W.alloc (.cells #[.bool false] 4)).alloc (.cells #[.pointer (some ⟨b, 0, none⟩)] 112)).heap[W.heap.size]? = some (.cells #[.bool false] 4 (0, 0))) := ⟨blk_alloc (blk_new _ _) _⟩
  have HBs : Aside0 (((W.alloc (.cells #[.bool false] 4)).alloc (.cells #[.pointer (some ⟨b, 0, none⟩)] 112)).heap[W.heap.size + 1]? = some (.cells #[.pointer (some ⟨b, 0, none⟩)] 112 (0, 0))) := ⟨new_at (by simp) _⟩
  generalize hW1 : (W.alloc (.cells #[.bool false] 4)).alloc (.cells #[.pointer (some ⟨b, 0, none⟩)] 112) = W1 at HC HR HBs ⊢
  clear hW1
  have HOk : Aside0 (Ok w0 D A4 c4 A5 c5 but mp b (W.heap.size + 1) W1) := ⟨H.out.chg HC.out (fun _ x => x.elim), HBs.out⟩
  have z1 := blk_lt HBs.out
  have zb := H.out.base.size
  have z2 : mp < W1.heap.size := by omega
  have z3 : b < W1.heap.size := by omega
  refine rangeFunc (gf := 129) (lb := #[.pointer (some ⟨W.heap.size + 1, 0, none⟩)]) rfl enters129 (truthsC_iter w0 W1 D A4 c4 A5 c5 but mp b (W.heap.size + 1) hA hV hbut z2) (fun _ => rfl)
    (fun pre Fp V => pre = [] ∧ Fp = (fun k => k = W.heap.size) ∧ V.heap[W.heap.size]? = some (.cells #[.bool false] 4 (0, 0)) ∧ Chg (fun k => k = mp) W V)
    (fun c pre V => c = .ret ∧ pre ≠ [] ∧ V.heap[W.heap.size]? = some (.cells #[.bool true] 4 (0, 0)) ∧ Chg (fun k => k = mp) W V)
    (fun k => k = W.heap.size) (fun k e => by omega) (fun A B ho hc => ho.chg hc (fun k hk => by omega)) ?_ ?_ ⟨rfl, rfl, HR.out, HC.out.mono (fun _ _ x => x.elim)⟩ (fun k e => by omega) HOk.out ?_ ?_ ?_
  · rintro pre Fp A B ⟨h1, h2, h3, h4⟩ hc hok
    exact ⟨h1, h2, hc.heap h3 (by omega), h4.then_ hc (fun k hk hx => by omega)⟩
  · rintro c pre A B ⟨h1, h2, h3, h4⟩ hc hok
    exact ⟨h1, h2, hc.heap h3 (by omega), h4.then_ hc (fun k hk hx => by omega)⟩
  · rintro l pre x Fp V hl1 hl2 hfl hFp hpre ⟨h1, h2, h3, h4⟩ hok
    dsimp only [encT]
    gi_wp2
    refine ⟨Chg.refl _ _, ?_⟩
    rintro V2 hc2 hs2 ⟨h1', h2', h3', h4'⟩ hok2
    have HK := Aside0.mk hok2
    have H4 := Aside0.mk h4'
    have c0 : V2.cell? ⟨W.heap.size, 0, none⟩ = some (.bool false) := (blk_cell h3' 0).trans rfl
    have f0 := blk_frozen h3' 0
    have H3 := Aside0.mk h3'
    clear h3' h4' hok2 h3 h4 hok hc2
    subst h2'
    gi_wp2
    refine ⟨⟨rfl, by simp, blk_set H3.out 0 _, H4.out.setCell (p := ⟨W.heap.size, 0, none⟩) (fun e => by simp at e) _⟩, (Chg.refl (fun k => k = W.heap.size) V2).setCell (p := ⟨W.heap.size, 0, none⟩) (fun _ => rfl) _, HK.out.chg ((Chg.refl (fun k => k = W.heap.size) V2).setCell (p := ⟨W.heap.size, 0, none⟩) (fun _ => rfl) _) (fun k e => by omega)⟩
  · rintro Fp V ⟨h1, h2, h3, h4⟩ hok hfD hD hsz
    have H4 := Aside0.mk h4
    have HK := Aside0.mk hok
    have H3 := Aside0.mk h3
    have HD := Aside0.mk hD
    have HE := Aside0.mk h1
    have c0 : V.cell? ⟨W.heap.size, 0, none⟩ = some (.bool false) := (blk_cell h3 0).trans rfl
    have f0 := blk_frozen h3 0
    clear h4 hok h3 hD h1 h2
    gi_wp2
    have HD2 : Aside0 ((V.setCell ⟨W.heap.size, 0, none⟩ (.bool false)).heap[W1.heap.size]? = some (.deferred (some []))) := ⟨(Below.heap_setCell _ _ _ _ (by simp; omega)).trans HD.out⟩
    have HC2 : Aside0 (Chg (fun k => k = W.heap.size ∨ k = W1.heap.size) V ((V.setCell ⟨W.heap.size, 0, none⟩ (.bool false)).putObj W1.heap.size (.deferred none))) := ⟨((Chg.refl _ V).setCell (p := ⟨W.heap.size, 0, none⟩) (fun _ => .inl rfl) _).putObj (fun _ => .inr rfl) _⟩
    refine leave_mark HD2.out (v := .bool false) (results_cell1 rfl _ _ W.heap.size _ _ rfl (cell_putObj ((blk_cell (blk_set H3.out 0 _) 0).trans rfl) HD2.out) Try.underlying4 rfl) ⟨by rw [HE.out]; rfl, H4.out.then_ HC2.out (fun k hk hx => by omega), HK.out.s.chg HC2.out (fun k hx => by omega)⟩
  · rintro c pre V hpre ⟨rfl, h2, h3, h4⟩ hok hD hsz
    have H4 := Aside0.mk h4
    have HK := Aside0.mk hok
    have H3 := Aside0.mk h3
    have HD := Aside0.mk hD
    clear h4 hok h3 hD
    gi_wp2
    have HC2 : Aside0 (Chg (fun k => k = W1.heap.size) V (V.putObj W1.heap.size (.deferred none))) := ⟨(Chg.refl (fun k => k = W1.heap.size) V).putObj (l := W1.heap.size) (fun _ => rfl) _⟩
    refine leave_mark HD.out (v := .bool true) (results_cell1 rfl _ _ W.heap.size _ _ rfl (cell_putObj ((blk_cell H3.out 0).trans rfl) HD.out) Try.underlying4 rfl) ⟨?_, H4.out.then_ HC2.out (fun k hk hx => by omega), HK.out.s.chg HC2.out (fun k hx => by omega)⟩
    have hne : (truthsL D but).isEmpty = false := by
      rw [List.isEmpty_eq_false_iff]
      intro e
      rw [e] at hpre
      exact h2 (List.prefix_nil.1 hpre)
    rw [hne]; rfl
end Go.Proofs.Ytemeapfnfegkiaa.D
end
section
/- Package disk: enter. -/
namespace Go.Proofs.Ytemeapfnfegkiaa.D
open Go Go.RowKit Go.Proofs.YtemeapfnfegkiaaK Go.Proofs.YtemeapfnfegkiaaW.PrintWords Go.Proofs.YtemeapfnfegkiaaW.PrintLast Go.Proofs.YtemeapfnfegkiaaW.PrintMore Go.Proofs.Ytemeapfnfegkiaa.PR
set_option linter.unusedVariables false
set_option linter.unusedSimpArgs false

theorem firstE_zero {α : Type} (E : Nat → α → Int) : ∀ (l : List α) (k : Nat), (firstE E l k).2 = 0 → ∀ i (h : i < l.length), E (k + i) l[i] = 0
  | [], k, _, i, h => by cases h
  | x :: l, k, h, i, hi => by
    unfold firstE at h
    split at h
    · next h0 =>
      match i with
      | 0 => simpa using h0
      | i + 1 =>
        have := firstE_zero E l (k + 1) h i (by simpa using hi)
        simpa [Nat.add_assoc, Nat.add_comm, Nat.add_left_comm] using this
    · next h0 => exact absurd h h0
theorem firstL_zero {α : Type} {l : List α} {most : Int} {E : Nat → α → Int} (h : (firstL l most E).2 = 0) : (l.length : Int) ≤ most ∧ ∀ i (hi : i < l.length), E i l[i] = 0 := by
  unfold firstL at h
  split at h
  · cases h
  · exact ⟨by omega, fun i hi => by simpa using firstE_zero E l 0 h i hi⟩
theorem outB_cons (lo hi x : Int) (l : List Int) : outB lo hi (x :: l) = false ↔ (lo ≤ x ∧ x ≤ hi) ∧ outB lo hi l = false := by
  simp [outB]
theorem outB_nil (lo hi : Int) : outB lo hi [] = false := rfl
theorem check_valid {D : Dat} (h : (checkF D).2.2 = 0) : Valid D ∧ nameB D.nm = true ∧ checkF D = (0, 0, 0) := by
  unfold checkF at h
  split at h
  · cases h
  · next h1 =>
    split at h
    · cases h
    · next h2 =>
      split at h
      · cases h
      · next h3 =>
        split at h
        · next h4 => exact absurd h h4
        · next h4 =>
          split at h
          · next h5 => exact absurd h h5
          · next h5 =>
            have h4' : (firstL D.spots 7 (errS D.spots)).2 = 0 := Decidable.of_not_not h4
            have h5' : (firstL D.told 4 (errT D.spots.length)).2 = 0 := Decidable.of_not_not h5
            obtain ⟨n7, hs⟩ := firstL_zero h4'
            obtain ⟨t4, ht⟩ := firstL_zero h5'
            simp only [Bool.or_eq_true, not_or, Bool.not_eq_true, outB_cons] at h2
            refine ⟨⟨by omega, by omega, h2.1.1, h2.2.1.1, h2.2.2.1.2, by omega, fun k hk => ?_, fun k hk => ?_⟩, by simpa using h1, ?_⟩
            · have := hs k hk
              rw [spot_at _ _ hk]
              unfold errS at this
              split at this
              · cases this
              · next h6 =>
                simp only [Bool.not_eq_true, outB_cons] at h6
                exact ⟨h6.1.1, h6.1.2, h6.2.1.1, h6.2.1.2⟩
            · have := ht k hk
              rw [told_at _ _ hk]
              unfold errT at this
              split at this
              · cases this
              · next h6 =>
                split at this
                · cases this
                · next h7 =>
                  simp only [Bool.not_eq_true, outB_cons] at h6
                  exact ⟨h6.1.1, by omega, h6.2.1.1, by omega, h7⟩
            · unfold checkF
              rw [if_neg h1, if_neg (by simp only [Bool.or_eq_true, not_or, Bool.not_eq_true, outB_cons]; exact h2), if_neg h3, if_neg h4, if_neg h5]

def enterE (D : Dat) (dots : List Int) : Int :=
  if (checkF D).2.2 ≠ 0 then (checkF D).2.2 else if outB 0 ((D.spots.length : Int) - 1) dots then 4 else if dots.length = 2 ∧ rd dots 0 = rd dots 1 then 2 else if (truthsL D 0).isEmpty then 8 else 0

set_option maxHeartbeats 1000000 in
theorem enter_calls (D : Dat) (A4 : Option Addr) (c4 : Nat) (A5 : Option Addr) (c5 : Nat) (dots : List Int) (A : Option Addr) (c : Nat) (w : World) (h : Arg w D A4 c4 A5 c5) (hr : Kd.C (Kd.int .i64) w A dots.length dots) :
    Calls Try.prog 90 #[.agg #[.string D.nm, .int .i64 D.rad, .int .i64 D.lo, .int .i64 D.hi, .slice A4 D.spots.length c4, .slice A5 D.told.length c5], .slice A dots.length c] w
      fun e w' => ∃ v, e = .returned (.tuple #[v, .int .i64 (enterE D dots)]) ∧ Below w.heap.size w w' ∧ (enterE D dots = 0 → ∃ mp b, v = .pointer (some ⟨b, 0, none⟩) ∧ Sh w w' D A4 c4 A5 c5 0 mp b) := by
  have HA := Aside0.mk h
  have HR := Aside0.mk hr
  have hn5 : D.spots.length ≤ 9223372036854775807 := h.s.2.1
  have hn6 := hr.2.1
  have HB0 := Aside0.mk (below_alloc (Below.refl w.heap.size w) (.cells #[.string D.nm, .int .i64 D.rad, .int .i64 D.lo, .int .i64 D.hi, .slice A4 D.spots.length c4, .slice A5 D.told.length c5] 27))
  have HX := Aside0.mk (blk_new w (.cells #[.string D.nm, .int .i64 D.rad, .int .i64 D.lo, .int .i64 D.hi, .slice A4 D.spots.length c4, .slice A5 D.told.length c5] 27))
  clear h hr
  obtain ⟨r, hr⟩ : ∃ r, enterE D dots = r := ⟨_, rfl⟩
  have HE := Aside0.mk hr
  rw [hr]
  clear hr
  go_enter Try.func90, Try.ntmps90
  go_wp2_with fail
  refine (Check_calls D A4 c4 A5 c5 _ (HA.out.below HB0.out)).mono ?_
  rintro e w1 ⟨rfl, hb1⟩
  have HB1 := Aside0.mk (HB0.out.trans (hb1.mono HB0.out.size))
  have HX1 := Aside0.mk (blk_below HX.out hb1)
  clear hb1 HX HB0
  have x0 : w1.cell? ⟨w.heap.size, 0, none⟩ = some (.string D.nm) := (blk_cell HX1.out 0).trans rfl
  have x1 : w1.cell? ⟨w.heap.size, 1, none⟩ = some (.int .i64 D.rad) := (blk_cell HX1.out 1).trans rfl
  have x2 : w1.cell? ⟨w.heap.size, 2, none⟩ = some (.int .i64 D.lo) := (blk_cell HX1.out 2).trans rfl
  have x3 : w1.cell? ⟨w.heap.size, 3, none⟩ = some (.int .i64 D.hi) := (blk_cell HX1.out 3).trans rfl
  have x4 : w1.cell? ⟨w.heap.size, 4, none⟩ = some (.slice A4 D.spots.length c4) := (blk_cell HX1.out 4).trans rfl
  have x5 : w1.cell? ⟨w.heap.size, 5, none⟩ = some (.slice A5 D.told.length c5) := (blk_cell HX1.out 5).trans rfl
  obtain ⟨q, hq⟩ : ∃ q, checkF D = q := ⟨_, rfl⟩
  have HQ := Aside0.mk hq
  rw [hq]
  clear hq
  obtain ⟨q1, q2, q3⟩ := q
  by_cases h0 : q3 = 0
  · subst h0
    obtain ⟨hV, _, _⟩ := check_valid (D := D) (by rw [HQ.out])
    have HV := Aside0.mk hV
    clear hV
    go_wp2_with fail
    refine (out_calls 0 ((D.spots.length : Int) - 1) dots _ _ _ (Kd.C_below HR.out HB1.out)).mono ?_
    rintro e w2 ⟨rfl, rfl⟩
    obtain ⟨o, ho⟩ : ∃ o, outB 0 ((D.spots.length : Int) - 1) dots = o := ⟨_, rfl⟩
    have HO := Aside0.mk ho
    rw [ho]
    clear ho
    cases o
    · by_cases h2 : dots.length = 2 ∧ rd dots 0 = rd dots 1
      · obtain ⟨h2, h3⟩ := h2
        have hr : r = 2 := by rw [← HE.out, enterE, HQ.out, HO.out, if_neg (by simp), if_neg (by simp), if_pos ⟨h2, h3⟩]
        subst hr
        obtain ⟨ad, e, k0⟩ := at_nat (Kd.C_below HR.out HB1.out) 0 (by omega)
        obtain ⟨ad', e', k1⟩ := at_nat (Kd.C_below HR.out HB1.out) 1 (by omega)
        subst e
        obtain rfl := Option.some.inj e'
        have hl : ((dots.length : Int) == 2) = true := beq_iff_eq.2 (by omega)
        have e0 : ad.add 0 = ad := rfl
        rw [e0] at k0
        have hl0 : (0 : Int) < dots.length := by omega
        have hl1 : (1 : Int) < dots.length := by omega
        have hm0 : 0 < dots.length := by omega
        have hm1 : 1 < dots.length := by omega
        rw [show rd dots ((0 : Nat) : Int) = rd dots 1 from h3] at k0
        rw [show rd dots ((1 : Nat) : Int) = rd dots 1 from rfl] at k1
        have k2 : w1.cell? ⟨ad.block, ad.off + 1, none⟩ = some (.int .i64 (rd dots 1)) := k1
        clear h2 h3 e0 e'
        go_wp2
        go_quiet (fail)
        go_wp2
        go_ret2
        exact ⟨_, rfl, pw_below_drewN HB1.out _, fun h => by cases h⟩
      · have H2 := Aside0.mk h2
        clear h2
        have hmain : ∀ K : Nat, True := fun _ => trivial
        by_cases h2 : dots.length = 2
        · have h3 : ¬ rd dots 0 = rd dots 1 := fun e => H2.out ⟨h2, e⟩
          obtain ⟨ad, e, k0⟩ := at_nat (Kd.C_below HR.out HB1.out) 0 (by omega)
          obtain ⟨ad', e', k1⟩ := at_nat (Kd.C_below HR.out HB1.out) 1 (by omega)
          subst e
          obtain rfl := Option.some.inj e'
          have hl : ((dots.length : Int) == 2) = true := beq_iff_eq.2 (by omega)
          have e0 : ad.add 0 = ad := rfl
          rw [e0] at k0
          have hl0 : (0 : Int) < dots.length := by omega
          have hl1 : (1 : Int) < dots.length := by omega
          have hm0 : 0 < dots.length := by omega
          have hm1 : 1 < dots.length := by omega
          rw [show rd dots ((0 : Nat) : Int) = rd dots 0 from rfl] at k0
          rw [show rd dots ((1 : Nat) : Int) = rd dots 1 from rfl] at k1
          generalize rd dots 0 = y0 at k0 h3
          generalize rd dots 1 = y1 at k1 h3
          have k2 : w1.cell? ⟨ad.block, ad.off + 1, none⟩ = some (.int .i64 y1) := k1
          have hy : (y0 == y1) = false := beq_eq_false_iff_ne.2 h3
          clear h2 h3 e0 e'
          go_wp2
          go_quiet (fail)
          go_wp2_with fail
          refine (look_calls w _ D A4 c4 A5 c5 0 (pw_below_drewN HB1.out _)).mono ?_
          rintro e w2 ⟨mp, b, rfl, hc, hs, _, _⟩
          have HS := Aside0.mk hs
          clear hc hs
          go_wp2_with fail
          refine (some_calls w _ D A4 c4 A5 c5 0 mp b HA.out HV.out (by decide) HS.out).mono ?_
          rintro e w3 ⟨rfl, _, hs3⟩
          have HS3 := Aside0.mk hs3
          clear hs3
          obtain ⟨t, ht⟩ : ∃ t, (truthsL D 0).isEmpty = t := ⟨_, rfl⟩
          have HT := Aside0.mk ht
          rw [ht]
          clear ht
          have hr : r = if t = true then 8 else 0 := by rw [← HE.out, enterE, HQ.out, HO.out, HT.out, if_neg (by simp), if_neg (by simp), if_neg H2.out]
          cases t
          · obtain rfl : r = 0 := by rw [hr]; rfl
            clear hr
            go_wp2
            go_ret2
            exact ⟨_, rfl, HS3.out.base, mp, b, rfl, HS3.out⟩
          · obtain rfl : r = 8 := by rw [hr]; rfl
            clear hr
            go_wp2
            go_ret2
            exact ⟨_, rfl, HS3.out.base, fun h => by cases h⟩
        · have hl : ((dots.length : Int) == 2) = false := beq_eq_false_iff_ne.2 (by omega)
          go_wp2
          go_quiet (fail)
          go_wp2_with fail
          refine (look_calls w _ D A4 c4 A5 c5 0 (pw_below_drewN HB1.out _)).mono ?_
          rintro e w2 ⟨mp, b, rfl, hc, hs, _, _⟩
          have HS := Aside0.mk hs
          clear hc hs
          go_wp2_with fail
          refine (some_calls w _ D A4 c4 A5 c5 0 mp b HA.out HV.out (by decide) HS.out).mono ?_
          rintro e w3 ⟨rfl, _, hs3⟩
          have HS3 := Aside0.mk hs3
          clear hs3
          obtain ⟨t, ht⟩ : ∃ t, (truthsL D 0).isEmpty = t := ⟨_, rfl⟩
          have HT := Aside0.mk ht
          rw [ht]
          clear ht
          have hr : r = if t = true then 8 else 0 := by rw [← HE.out, enterE, HQ.out, HO.out, HT.out, if_neg (by simp), if_neg (by simp), if_neg H2.out]
          cases t
          · obtain rfl : r = 0 := by rw [hr]; rfl
            clear hr
            go_wp2
            go_ret2
            exact ⟨_, rfl, HS3.out.base, mp, b, rfl, HS3.out⟩
          · obtain rfl : r = 8 := by rw [hr]; rfl
            clear hr
            go_wp2
            go_ret2
            exact ⟨_, rfl, HS3.out.base, fun h => by cases h⟩
    · have hr : r = 4 := by rw [← HE.out, enterE, HQ.out, HO.out]; rfl
      subst hr
      go_wp2
      go_ret2
      exact ⟨_, rfl, HB1.out, fun h => by cases h⟩
  · have hr : r = q3 := by rw [← HE.out, enterE, HQ.out, if_pos h0]
    subst hr
    go_wp2
    go_ret2
    exact ⟨_, rfl, HB1.out, fun h => absurd h h0⟩
end Go.Proofs.Ytemeapfnfegkiaa.D
end
section
/- Package disk: count. -/
namespace Go.Proofs.Ytemeapfnfegkiaa.D
open Go Go.RowKit Go.Proofs.YtemeapfnfegkiaaK Go.Proofs.YtemeapfnfegkiaaW.PrintWords Go.Proofs.YtemeapfnfegkiaaW.PrintLast Go.Proofs.YtemeapfnfegkiaaW.PrintMore Go.Proofs.Ytemeapfnfegkiaa.PR
set_option linter.unusedVariables false
set_option linter.unusedSimpArgs false
attribute [local go_sem] Oper.semAt_some

structure Asks (n0 mp f : Nat) (caps : Array Value) (CQ : World → Prop) (Q : (Nat → Int) → Bool) : Prop where
  enters : ∀ args w, (callFunc f args).run Try.prog w = .ok (.enter f args) w
  calls : ∀ g V, CQ V → Calls Try.prog f (#[.agg (vec g)] ++ caps) V fun e V' => e = .returned (.bool (Q g)) ∧ Chg (fun _ => False) V V'
  stable : ∀ A B S, CQ A → Chg S A B → (∀ k, S k → n0 ≤ k ∨ k = mp) → CQ B
  ext : ∀ g h, (∀ k, k < 7 → g k = h k) → Q g = Q h

def eq7 (g h : Nat → Int) : Bool := [g 0, g 1, g 2, g 3, g 4, g 5, g 6] == [h 0, h 1, h 2, h 3, h 4, h 5, h 6]
theorem eq7_iff {g h : Nat → Int} (e : eq7 g h = true) : ∀ k, k < 7 → g k = h k := by
  simp only [eq7, beq_iff_eq, List.cons.injEq, and_true] at e
  obtain ⟨e0, e1, e2, e3, e4, e5, e6⟩ := e
  intro k hk
  match k, hk with
  | 0, _ => exact e0 | 1, _ => exact e1 | 2, _ => exact e2 | 3, _ => exact e3 | 4, _ => exact e4 | 5, _ => exact e5 | 6, _ => exact e6
theorem g1 : Try.prog.underlying 118 = some (.array 7 3) := by kernel_rfl
theorem g2 : Try.prog.cellsOf 3 = 1 := by kernel_rfl
theorem g30 : (Try.prog.info? 3).map (·.size) = some 1 := by kernel_rfl
theorem g3 : ∃ i, Try.prog.info? 3 = some i := by
  cases h : Try.prog.info? 3 with
  | none => have := g30; rw [h] at this; cases this
  | some i => exact ⟨i, rfl⟩
theorem g4 (w : World) (g h : Nat → Int) : (Op.equalIn (9999 + 1) 118 (.agg (vec g)) (.agg (vec h))).run Try.prog w = .ok (eq7 g h) w := by
  obtain ⟨i, hi⟩ := g3
  exact equal_array w g1 hi g2 Try.underlying3 v3 [g 0, g 1, g 2, g 3, g 4, g 5, g 6] [h 0, h 1, h 2, h 3, h 4, h 5, h 6] rfl rfl 9999 (by decide)
theorem g5 (w : World) (g h : Nat → Int) : (Op.equalIn 10000 118 (.agg (vec g)) (.agg (vec h))).run Try.prog w = .ok (eq7 g h) w := g4 w g h

def cnt (D : Dat) (Q : (Nat → Int) → Bool) (l : List (Int × Nat)) : Nat := l.countP fun x => Q (G D x.1 x.2)

theorem cnt_snoc (D : Dat) (Q : (Nat → Int) → Bool) (l : List (Int × Nat)) (x : Int × Nat) : cnt D Q (l ++ [x]) = cnt D Q l + if Q (G D x.1 x.2) = true then 1 else 0 := by
  simp [cnt, List.countP_append, List.countP_cons]
theorem setsTo_len (D : Dat) (but : Nat) (near : Int) (s : Nat) : (setsTo D but near s).length ≤ s := by
  have := List.length_filter_le (isTruth D but near) (List.range s)
  simpa [setsTo] using this
theorem nearsTo_len (D : Dat) (but : Nat) (k : Nat) : (nearsTo D but k).length ≤ k * 2 ^ D.spots.length := by
  induction k with
  | zero => simp [nearsTo]
  | succ k ih =>
    rw [nearsTo_succ, List.length_append, Nat.succ_mul]
    have := setsTo_len D but (D.lo + k) (2 ^ D.spots.length)
    omega
theorem truthsL_len {D : Dat} (hV : Valid D) (but : Nat) : (truthsL D but).length ≤ 1664 := by
  have h1 := nearsTo_len D but (D.hi - D.lo + 1).toNat
  have h2 : 2 ^ D.spots.length ≤ 2 ^ 7 := Nat.pow_le_pow_right (by decide) hV.n7
  have h3 : (D.hi - D.lo + 1).toNat ≤ 13 := by have := hV.hi; have := hV.lo; omega
  have h4 := Nat.mul_le_mul h3 h2
  unfold truthsL
  omega

set_option maxRecDepth 100000 in
set_option maxHeartbeats 1000000 in
theorem count_calls (w0 W : World) (D : Dat) (A4 : Option Addr) (c4 : Nat) (A5 : Option Addr) (c5 : Nat) (but : Nat) (mp b f : Nat) (caps : Array Value) (CQ : World → Prop) (Q : (Nat → Int) → Bool)
    (hA : Arg w0 D A4 c4 A5 c5) (hV : Valid D) (hbut : but < 2 ^ 62) (h : Sh w0 W D A4 c4 A5 c5 but mp b) (hq : Asks W.heap.size mp f caps CQ Q) (hcq : CQ W) :
    Calls Try.prog 92 #[.pointer (some ⟨b, 0, none⟩), .agg #[.func (.func f) #[] caps]] W
      fun e W' => e = .returned (.tuple #[.int .i64 (cnt D Q (truthsL D but)), .int .i64 (truthsL D but).length]) ∧ Chg (fun k => k = mp) W W' ∧ Sh w0 W' D A4 c4 A5 c5 but mp b ∧ CQ W' := by
  have H := Aside0.mk h
  have hmp := h.mp_lt
  have hb0 := blk_lt h.sh
  have he := hq.enters
  have HQ := Aside0.mk hq
  clear h hq
  refine (callsIn_wide (n := 0)).1 ?_
  refine callsIn_of_wp_marks Try.func92 rfl trivial ?_
  simp only [Try.ntmps92, List.size_toArray, List.length_cons, List.length_nil, Nat.reduceAdd, Nat.reduceSub, Array.replicate_succ, Array.replicate_zero, List.push_toArray, List.append_toArray, List.nil_append, List.cons_append]
  gi_wp2_with fail
  obtain ⟨V1, hV1⟩ : ∃ V1, ((((W.alloc (.cells #[.func (.func f) #[] caps] 121)).alloc (.cells #[.int .i64 0] 3)).alloc (.cells #[.int .i64 0] 3)).alloc (.cells (vec fun _ => 0) 118)) = V1 := ⟨_, rfl⟩
  have hch : Chg (fun _ => False) W V1 := by rw [← hV1]; exact ((((Chg.refl _ W).alloc _).alloc _).alloc _).alloc _
  have HBq : Aside0 (V1.heap[W.heap.size]? = some (.cells #[.func (.func f) #[] caps] 121 (0, 0))) := ⟨by rw [← hV1]; exact blk_alloc (blk_alloc (blk_alloc (blk_new _ _) _) _) _⟩
  have HBy : Aside0 (V1.heap[W.heap.size + 1]? = some (.cells #[.int .i64 0] 3 (0, 0))) := ⟨by rw [← hV1]; exact blk_alloc (blk_alloc (new_at (by simp) _) _) _⟩
  have HBa : Aside0 (V1.heap[W.heap.size + 1 + 1]? = some (.cells #[.int .i64 0] 3 (0, 0))) := ⟨by rw [← hV1]; exact blk_alloc (new_at (by simp) _) _⟩
  have HBl : Aside0 (V1.heap[W.heap.size + 1 + 1 + 1]? = some (.cells (vec fun _ => 0) 118 (0, 0))) := ⟨by rw [← hV1]; exact new_at (by simp) _⟩
  rw [hV1]
  have HC1 := Aside0.mk hch
  clear hch hV1
  obtain ⟨Bq, hBq⟩ : ∃ Bq, W.heap.size = Bq := ⟨_, rfl⟩
  rw [hBq] at HBq HBy HBa HBl HQ ⊢
  refine ⟨trivial, rfl, (callsIn_wide.2 (HQ.out.calls (fun _ => 0) V1 (HQ.out.stable _ _ _ hcq HC1.out (fun _ x => x.elim)))).mono ?_⟩
  rintro e w1 ⟨rfl, hc1⟩
  have HC2 := Aside0.mk (HC1.out.trans hc1)
  have HBq1 := Aside0.mk (hc1.heap HBq.out id)
  have HBy1 := Aside0.mk (hc1.heap HBy.out id)
  have HBa1 := Aside0.mk (hc1.heap HBa.out id)
  have HBl1 := Aside0.mk (hc1.heap HBl.out id)
  clear hc1 HBq HBy HBa HBl HC1
  gi_wp2_with (refine ⟨trivial, rfl, ?_⟩; gi_at_call 118; refine (callsIn_wide.2 (truths_calls _ b)).mono ?_; rintro e w1 ⟨rfl, rfl⟩)
  obtain ⟨V2, hV2⟩ : ∃ V2, (w1.alloc (.cells #[.bool (Q fun _ => 0)] 4)).alloc (.cells #[.pointer (some ⟨b, 0, none⟩)] 112) = V2 := ⟨_, rfl⟩
  have hch : Chg (fun _ => False) w1 V2 := by rw [← hV2]; exact ((Chg.refl _ w1).alloc _).alloc _
  have HC3 := Aside0.mk (HC2.out.trans hch)
  have HBq2 := Aside0.mk (hch.heap HBq1.out id)
  have HBy2 := Aside0.mk (hch.heap HBy1.out id)
  have HBa2 := Aside0.mk (hch.heap HBa1.out id)
  have HBl2 := Aside0.mk (hch.heap HBl1.out id)
  have HBb2 : Aside0 (V2.heap[w1.heap.size]? = some (.cells #[.bool (Q fun _ => 0)] 4 (0, 0))) := ⟨by rw [← hV2]; exact blk_alloc (blk_new _ _) _⟩
  have HBs2 : Aside0 (V2.heap[w1.heap.size + 1]? = some (.cells #[.pointer (some ⟨b, 0, none⟩)] 112 (0, 0))) := ⟨by rw [← hV2]; exact new_at (by simp) _⟩
  rw [hV2]
  clear hch hV2
  have z1 := HC2.out.size
  have z0 := blk_lt HBl1.out
  clear HBq1 HBy1 HBa1 HBl1 HC2
  obtain ⟨Bb, hBb⟩ : ∃ Bb, w1.heap.size = Bb := ⟨_, rfl⟩
  rw [hBb] at HBb2 HBs2 z1 z0 ⊢
  have HOk : Aside0 (Ok w0 D A4 c4 A5 c5 but mp b (Bb + 1) V2) := ⟨H.out.chg HC3.out (fun _ x => x.elim), HBs2.out⟩
  have HCQ := Aside0.mk (HQ.out.stable _ _ _ hcq HC3.out (fun _ x => x.elim))
  have z2 := blk_lt HBs2.out
  have zb := H.out.base.size
  have z3 : mp < V2.heap.size := by omega
  have z4 : b < V2.heap.size := by omega
  have hmp' : mp < Bq := by omega
  have hb0' : b < Bq := by omega
  refine rangeFunc (gf := 129) (lb := #[.pointer (some ⟨Bb + 1, 0, none⟩)]) rfl enters129 (truthsC_iter w0 V2 D A4 c4 A5 c5 but mp b (Bb + 1) hA hV hbut z3) (fun _ => rfl)
    (fun pre Fp V => Fp = (fun k => k = Bq + 1 ∨ k = Bq + 1 + 1 ∨ k = Bq + 1 + 1 + 1 ∨ k = Bb) ∧ V.heap[Bq]? = some (.cells #[.func (.func f) #[] caps] 121 (0, 0)) ∧ V.heap[Bq + 1]? = some (.cells #[.int .i64 (cnt D Q pre)] 3 (0, 0)) ∧
      V.heap[Bq + 1 + 1]? = some (.cells #[.int .i64 pre.length] 3 (0, 0)) ∧ (∃ g, V.heap[Bq + 1 + 1 + 1]? = some (.cells (vec g) 118 (0, 0)) ∧ V.heap[Bb]? = some (.cells #[.bool (Q g)] 4 (0, 0))) ∧ Chg (fun k => k = mp) W V ∧ CQ V)
    (fun c pre V => False)
    (fun k => k = Bq + 1 ∨ k = Bq + 1 + 1 ∨ k = Bq + 1 + 1 + 1 ∨ k = Bb) (fun k e => by omega) (fun A B ho hc => ho.chg hc (fun k hk => by omega)) ?_ (fun c pre A B h => h.elim) ⟨rfl, HBq2.out, HBy2.out, HBa2.out, ⟨_, HBl2.out, HBb2.out⟩, HC3.out.mono (fun _ _ x => x.elim), HCQ.out⟩ (fun k e => by omega) HOk.out ?_ ?_ (fun c pre V _ h => h.elim)
  · rintro pre Fp A B ⟨rfl, h2, h3, h4, ⟨g, h5, h6⟩, h7, h8⟩ hc hok
    exact ⟨rfl, hc.heap h2 (by omega), hc.heap h3 (by omega), hc.heap h4 (by omega), ⟨g, hc.heap h5 (by omega), hc.heap h6 (by omega)⟩, h7.then_ hc (fun k hk hx => by omega), HQ.out.stable _ _ _ h8 hc (fun k hx => by omega)⟩
  · rintro l pre x Fp V hl1 hl2 hfl hFp hpre hI hok
    dsimp only [encT]
    gi_wp2
    have HX0 : Aside0 ((V.alloc (.cells (vec (G D x.1 x.2)) 118)).heap[V.heap.size]? = some (.cells (vec (G D x.1 x.2)) 118 (0, 0))) := ⟨blk_new _ _⟩
    refine ⟨(Chg.refl _ _).alloc _, ?_⟩
    clear hI hok
    rintro V3 hc3 hs3 ⟨rfl, h2, h3, h4, ⟨g, h5, h6⟩, h7, h8⟩ hok
    have HX := Aside0.mk (hc3.heap HX0.out (by omega))
    clear HX0 hc3
    obtain ⟨Bx, hBx⟩ : ∃ Bx, V.heap.size = Bx := ⟨_, rfl⟩
    have zx : ∀ k, (k = Bq + 1 ∨ k = Bq + 1 + 1 ∨ k = Bq + 1 + 1 + 1 ∨ k = Bb) → k < Bx := fun k hk => by have := hFp k hk; omega
    have HZX := Aside0.mk zx
    have z5 := zx _ (.inl rfl)
    have z6 := zx _ (.inr (.inl rfl))
    have z7 := zx _ (.inr (.inr (.inl rfl)))
    have z8 := zx _ (.inr (.inr (.inr rfl)))
    clear zx hFp hs3
    rw [hBx] at HX ⊢
    clear hBx
    obtain ⟨gx, hgx⟩ : ∃ gx, G D x.1 x.2 = gx := ⟨_, rfl⟩
    have HGX := Aside0.mk hgx
    rw [hgx] at HX
    clear hgx
    have H2 := Aside0.mk h2
    have H3 := Aside0.mk h3
    have H4 := Aside0.mk h4
    have H5 := Aside0.mk h5
    have H6 := Aside0.mk h6
    have H7 := Aside0.mk h7
    have H8 := Aside0.mk h8
    have HK := Aside0.mk hok
    clear h2 h3 h4 h5 h6 h7 h8 hok
    have lx := blk_lt HX.out
    have x0 : V3.cell? ⟨Bx, 0, none⟩ = some (.int .i64 (gx 0)) := (blk_cell HX.out 0).trans rfl
    have x1 : V3.cell? ⟨Bx, 1, none⟩ = some (.int .i64 (gx 1)) := (blk_cell HX.out 1).trans rfl
    have x2 : V3.cell? ⟨Bx, 2, none⟩ = some (.int .i64 (gx 2)) := (blk_cell HX.out 2).trans rfl
    have x3 : V3.cell? ⟨Bx, 3, none⟩ = some (.int .i64 (gx 3)) := (blk_cell HX.out 3).trans rfl
    have x4 : V3.cell? ⟨Bx, 4, none⟩ = some (.int .i64 (gx 4)) := (blk_cell HX.out 4).trans rfl
    have x5 : V3.cell? ⟨Bx, 5, none⟩ = some (.int .i64 (gx 5)) := (blk_cell HX.out 5).trans rfl
    have x6 : V3.cell? ⟨Bx, 6, none⟩ = some (.int .i64 (gx 6)) := (blk_cell HX.out 6).trans rfl
    have y0 : V3.cell? ⟨Bq + 1 + 1 + 1, 0, none⟩ = some (.int .i64 (g 0)) := (blk_cell H5.out 0).trans rfl
    have y1 : V3.cell? ⟨Bq + 1 + 1 + 1, 1, none⟩ = some (.int .i64 (g 1)) := (blk_cell H5.out 1).trans rfl
    have y2 : V3.cell? ⟨Bq + 1 + 1 + 1, 2, none⟩ = some (.int .i64 (g 2)) := (blk_cell H5.out 2).trans rfl
    have y3 : V3.cell? ⟨Bq + 1 + 1 + 1, 3, none⟩ = some (.int .i64 (g 3)) := (blk_cell H5.out 3).trans rfl
    have y4 : V3.cell? ⟨Bq + 1 + 1 + 1, 4, none⟩ = some (.int .i64 (g 4)) := (blk_cell H5.out 4).trans rfl
    have y5 : V3.cell? ⟨Bq + 1 + 1 + 1, 5, none⟩ = some (.int .i64 (g 5)) := (blk_cell H5.out 5).trans rfl
    have y6 : V3.cell? ⟨Bq + 1 + 1 + 1, 6, none⟩ = some (.int .i64 (g 6)) := (blk_cell H5.out 6).trans rfl
    have a0 : V3.cell? ⟨Bq + 1, 0, none⟩ = some (.int .i64 (cnt D Q pre)) := (blk_cell H3.out 0).trans rfl
    have a1 : V3.cell? ⟨Bq + 1 + 1, 0, none⟩ = some (.int .i64 pre.length) := (blk_cell H4.out 0).trans rfl
    have a2 : V3.cell? ⟨Bb, 0, none⟩ = some (.bool (Q g)) := (blk_cell H6.out 0).trans rfl
    have a3 : V3.cell? ⟨Bq, 0, none⟩ = some (.func (.func f) #[] caps) := (blk_cell H2.out 0).trans rfl
    have fa0 := blk_frozen H3.out 0
    have fa1 := blk_frozen H4.out 0
    have fa2 := blk_frozen H6.out 0
    have heq := g5 V3 gx g
    obtain ⟨q, hq⟩ : ∃ q, eq7 gx g = q := ⟨_, rfl⟩
    have HE := Aside0.mk hq
    rw [hq] at heq
    clear hq
    have hcn : cnt D Q pre ≤ pre.length := List.countP_le_length
    have hpl : pre.length < 1664 := by
      have h1 := hpre.length_le
      have h2 := truthsL_len hV but
      simp at h1; omega
    have fin : ∀ (a : Act) (W4 : World) (g' : Nat → Int), Chg (fun k => k = Bq + 1 ∨ k = Bq + 1 + 1 ∨ k = Bq + 1 + 1 + 1 ∨ k = Bb) V3 W4 → W4.heap[Bq + 1]? = some (.cells #[.int .i64 (cnt D Q (pre ++ [x]))] 3 (0, 0)) → W4.heap[Bq + 1 + 1]? = some (.cells #[.int .i64 ((pre.length : Int) + 1)] 3 (0, 0)) →
        W4.heap[Bq + 1 + 1 + 1]? = some (.cells (vec g') 118 (0, 0)) → W4.heap[Bb]? = some (.cells #[.bool (Q g')] 4 (0, 0)) →
        roundQ (Ok w0 D A4 c4 A5 c5 but mp b (Bb + 1)) (fun pre Fp V => Fp = (fun k => k = Bq + 1 ∨ k = Bq + 1 + 1 ∨ k = Bq + 1 + 1 + 1 ∨ k = Bb) ∧ V.heap[Bq]? = some (.cells #[.func (.func f) #[] caps] 121 (0, 0)) ∧ V.heap[Bq + 1]? = some (.cells #[.int .i64 (cnt D Q pre)] 3 (0, 0)) ∧
      V.heap[Bq + 1 + 1]? = some (.cells #[.int .i64 pre.length] 3 (0, 0)) ∧ (∃ g, V.heap[Bq + 1 + 1 + 1]? = some (.cells (vec g) 118 (0, 0)) ∧ V.heap[Bb]? = some (.cells #[.bool (Q g)] 4 (0, 0))) ∧ Chg (fun k => k = mp) W V ∧ CQ V)
        (fun c pre V => False) (fun k => k = Bq + 1 ∨ k = Bq + 1 + 1 ∨ k = Bq + 1 + 1 + 1 ∨ k = Bb) (pre ++ [x]) V3 .normal a W4 := fun a W4 g' hc e1 e2 e3 e4 =>
      ⟨_, ⟨rfl, hc.heap H2.out (by omega), e1, by rw [e2]; simp, ⟨g', e3, e4⟩, H7.out.then_ hc (fun k hk hx => by omega), HQ.out.stable _ _ _ H8.out hc (fun k hx => by omega)⟩, hc, HK.out.chg hc (fun k hx => by omega), fun k hk => ⟨by have := hc.size; have := HZX.out k hk; omega, fun _ => hk⟩⟩
    have FIN := Aside0.mk fin
    clear fin
    have hct : ∀ q, Q gx = q → (cnt D Q (pre ++ [x]) : Int) = (cnt D Q pre : Int) + if q = true then 1 else 0 := fun q hq => by rw [cnt_snoc, HGX.out, hq]; split <;> simp
    have HCT := Aside0.mk hct
    clear hct
    cases q
    · have hmix : Try.prog.follows .mixedOrders = true := by kernel_rfl
      gi_wp2
      gi_cut [] from 21 (fun wc => Aside0 (∃ w1, Chg (fun _ => False) V3 w1 ∧ wc = (st7 w1 (Bq + 1 + 1 + 1) gx).setCell ⟨Bb, 0, none⟩ (.bool (Q gx))))
      case first =>
        gi_region_with_o (refine ⟨trivial, rfl, ?_⟩; refine (CallsIn.inRound l (callsIn_wide.2 (HQ.out.calls gx _ (HQ.out.stable _ _ _ H8.out (Chg.refl (fun _ => False) V3).drew (fun _ x => x.elim))))).mono ?_; rintro e w1 ⟨rfl, hcw⟩; have hcc := (Chg.refl (fun _ => False) V3).drew.trans hcw; have x0' := hcc.cell x0 id; have x1' := hcc.cell x1 id; have x2' := hcc.cell x2 id; have x3' := hcc.cell x3 id; have x4' := hcc.cell x4 id; have x5' := hcc.cell x5 id; have x6' := hcc.cell x6 id; have y0' := hcc.cell y0 id; have y1' := hcc.cell y1 id; have y2' := hcc.cell y2 id; have y3' := hcc.cell y3 id; have y4' := hcc.cell y4 id; have y5' := hcc.cell y5 id; have y6' := hcc.cell y6 id; have a2' := hcc.cell a2 id; have fl' := fun k => blk_frozen (hcc.heap H5.out id) k; have fb' := blk_frozen (hcc.heap H6.out id) 0; have HCC := Aside0.mk hcc; clear hcc hcw)
        all_goals
          gi_wp2
          gi_meet
          case rel => exact ⟨⟨_, HCC.out, rfl⟩⟩
      case rest =>
        clear x0 y0 x1 y1 x2 y2 x3 y3 x4 y4 x5 y5 x6 y6 heq hmix a2 fa2
        obtain ⟨⟨w1, HC, rfl⟩⟩ := hcut
        have HCC := Aside0.mk HC
        have b0 := HC.cell a0 id
        have b1 := HC.cell a1 id
        have HB3 := Aside0.mk (HC.heap H3.out id)
        have HB4 := Aside0.mk (HC.heap H4.out id)
        have HB5 := Aside0.mk (HC.heap H5.out id)
        have HB6 := Aside0.mk (HC.heap H6.out id)
        clear HC a0 a1 fa0 fa1
        have HC5 : Aside0 (Chg (fun k => k = Bq + 1 ∨ k = Bq + 1 + 1 ∨ k = Bq + 1 + 1 + 1 ∨ k = Bb) V3 ((st7 w1 (Bq + 1 + 1 + 1) gx).setCell ⟨Bb, 0, none⟩ (.bool (Q gx)))) := ⟨(st7_chg (HCC.out.mono (fun _ _ x => x.elim)) (fun _ => .inr (.inr (.inl rfl))) gx).setCell (p := ⟨Bb, 0, none⟩) (fun _ => .inr (.inr (.inr rfl))) _⟩
        have HC6 : Aside0 (Chg (fun k => k = Bq + 1 + 1 + 1 ∨ k = Bb) w1 ((st7 w1 (Bq + 1 + 1 + 1) gx).setCell ⟨Bb, 0, none⟩ (.bool (Q gx)))) := ⟨(st7_chg (Chg.refl _ w1) (fun _ => .inl rfl) gx).setCell (p := ⟨Bb, 0, none⟩) (fun _ => .inr rfl) _⟩
        have HN3 := Aside0.mk (HC6.out.heap HB3.out (by omega))
        have HN4 := Aside0.mk (HC6.out.heap HB4.out (by omega))
        have HN5 := Aside0.mk (blk_far (st7_heap HB5.out gx) (p := ⟨Bb, 0, none⟩) (by simp; omega) (.bool (Q gx)))
        have HN6 : Aside0 (((st7 w1 (Bq + 1 + 1 + 1) gx).setCell ⟨Bb, 0, none⟩ (.bool (Q gx))).heap[Bb]? = some (.cells #[.bool (Q gx)] 4 (0, 0))) := ⟨blk_set ((st7_chg (Chg.refl (fun k => k = Bq + 1 + 1 + 1) w1) (fun _ => rfl) gx).heap HB6.out (by omega)) 0 _⟩
        obtain ⟨V5, hV5⟩ : ∃ V5, (st7 w1 (Bq + 1 + 1 + 1) gx).setCell ⟨Bb, 0, none⟩ (.bool (Q gx)) = V5 := ⟨_, rfl⟩
        rw [hV5] at HC5 HN3 HN4 HN5 HN6
        rw [hV5]
        clear hV5 HC6 HB3 HB4 HB5 HB6 b0 b1 HCC
        obtain ⟨qg, hqg⟩ : ∃ qg, Q gx = qg := ⟨_, rfl⟩
        have HQG := Aside0.mk hqg
        have a2 : V5.cell? ⟨Bb, 0, none⟩ = some (.bool qg) := by rw [← hqg]; exact (blk_cell HN6.out 0).trans rfl
        have a0 : V5.cell? ⟨Bq + 1, 0, none⟩ = some (.int .i64 (cnt D Q pre)) := (blk_cell HN3.out 0).trans rfl
        have a1 : V5.cell? ⟨Bq + 1 + 1, 0, none⟩ = some (.int .i64 pre.length) := (blk_cell HN4.out 0).trans rfl
        have fa0 := blk_frozen HN3.out 0
        have fa1 := blk_frozen HN4.out 0
        clear hqg
        cases qg
        · gi_wp2
          refine FIN.out _ _ gx (HC5.out.setCell (p := ⟨Bq + 1 + 1, 0, none⟩) (fun _ => .inr (.inl rfl)) _) ?_ (blk_set HN4.out 0 _) (blk_far HN5.out (by simp) _) (by rw [Below.heap_setCell _ _ _ _ (by simp; omega), HN6.out])
          rw [Below.heap_setCell _ _ _ _ (by simp), HN3.out, HCT.out false HQG.out]; simp
        · gi_wp2
          refine FIN.out _ _ gx ((HC5.out.setCell (p := ⟨Bq + 1 + 1, 0, none⟩) (fun _ => .inr (.inl rfl)) _).setCell (p := ⟨Bq + 1, 0, none⟩) (fun _ => .inl rfl) _) ?_ (blk_far (blk_set HN4.out 0 _) (by simp) _) (blk_far (blk_far HN5.out (by simp) _) (by simp; omega) _) (by rw [Below.heap_setCell _ _ _ _ (by simp; omega), Below.heap_setCell _ _ _ _ (by simp; omega), HN6.out])
          have := blk_set (blk_far HN3.out (p := ⟨Bq + 1 + 1, 0, none⟩) (by simp) (.int .i64 ((pre.length : Int) + 1))) 0 (.int .i64 ((cnt D Q pre : Int) + 1))
          rw [HCT.out true HQG.out]; exact this
    · have HQX : Aside0 (Q gx = Q g) := ⟨HQ.out.ext _ _ (eq7_iff HE.out)⟩
      obtain ⟨qg, hqg⟩ : ∃ qg, Q g = qg := ⟨_, rfl⟩
      have HQG := Aside0.mk hqg
      rw [hqg] at a2
      clear hqg
      cases qg
      · gi_wp2
        refine FIN.out _ _ g ((Chg.refl _ V3).setCell (p := ⟨Bq + 1 + 1, 0, none⟩) (fun _ => .inr (.inl rfl)) _) ?_ (blk_set H4.out 0 _) (blk_far H5.out (by simp) _) (by rw [Below.heap_setCell _ _ _ _ (by simp; omega), H6.out])
        rw [Below.heap_setCell _ _ _ _ (by simp), H3.out, HCT.out false (by rw [HQX.out, HQG.out])]; simp
      · gi_wp2
        refine FIN.out _ _ g (((Chg.refl _ V3).setCell (p := ⟨Bq + 1 + 1, 0, none⟩) (fun _ => .inr (.inl rfl)) _).setCell (p := ⟨Bq + 1, 0, none⟩) (fun _ => .inl rfl) _) ?_ (blk_far (blk_set H4.out 0 _) (by simp) _) (blk_far (blk_far H5.out (by simp) _) (by simp; omega) _) (by rw [Below.heap_setCell _ _ _ _ (by simp; omega), Below.heap_setCell _ _ _ _ (by simp; omega), H6.out])
        have := blk_set (blk_far H3.out (p := ⟨Bq + 1 + 1, 0, none⟩) (by simp) (.int .i64 ((pre.length : Int) + 1))) 0 (.int .i64 ((cnt D Q pre : Int) + 1))
        rw [HCT.out true (by rw [HQX.out, HQG.out])]; exact this
  · rintro Fp V ⟨rfl, h2, h3, h4, _, h7, h8⟩ hok hfD hD hsz
    have H3 := Aside0.mk h3
    have H4 := Aside0.mk h4
    have H7 := Aside0.mk h7
    have H8 := Aside0.mk h8
    have HK := Aside0.mk hok
    have HD := Aside0.mk hD
    have a0 : V.cell? ⟨Bq + 1, 0, none⟩ = some (.int .i64 (cnt D Q (truthsL D but))) := (blk_cell h3 0).trans rfl
    have a1 : V.cell? ⟨Bq + 1 + 1, 0, none⟩ = some (.int .i64 (truthsL D but).length) := (blk_cell h4 0).trans rfl
    have fa0 := blk_frozen h3 0
    have fa1 := blk_frozen h4 0
    clear h2 h3 h4 h7 h8 hok hD
    have hmix : Try.prog.follows .mixedOrders = true := by kernel_rfl
    gi_wp2
    gi_region_o
    gi_wp2
    have HD4 : Aside0 (((V.setCell ⟨Bq + 1, 0, none⟩ (.int .i64 (cnt D Q (truthsL D but)))).setCell ⟨Bq + 1 + 1, 0, none⟩ (.int .i64 (truthsL D but).length)).drew.heap[V2.heap.size]? = some (.deferred (some []))) := ⟨by
      rw [heap_drew, Below.heap_setCell _ _ _ _ (by simp; omega), Below.heap_setCell _ _ _ _ (by simp; omega)]; exact HD.out⟩
    have HC4 : Aside0 (Chg (fun k => k = Bq + 1 ∨ k = Bq + 1 + 1 ∨ k = V2.heap.size) V (((V.setCell ⟨Bq + 1, 0, none⟩ (.int .i64 (cnt D Q (truthsL D but)))).setCell ⟨Bq + 1 + 1, 0, none⟩ (.int .i64 (truthsL D but).length)).drew.putObj V2.heap.size (.deferred none))) :=
      ⟨((((Chg.refl _ V).setCell (p := ⟨Bq + 1, 0, none⟩) (fun _ => .inl rfl) _).setCell (p := ⟨Bq + 1 + 1, 0, none⟩) (fun _ => .inr (.inl rfl)) _).drew).putObj (fun _ => .inr (.inr rfl)) _⟩
    have e1 : (((V.setCell ⟨Bq + 1, 0, none⟩ (.int .i64 (cnt D Q (truthsL D but)))).setCell ⟨Bq + 1 + 1, 0, none⟩ (.int .i64 (truthsL D but).length)).drew).cell? ⟨Bq + 1, 0, none⟩ = some (.int .i64 (cnt D Q (truthsL D but))) :=
      (blk_cell (blk_drew (blk_far (blk_set H3.out 0 (.int .i64 (cnt D Q (truthsL D but)))) (p := ⟨Bq + 1 + 1, 0, none⟩) (by simp) (.int .i64 (truthsL D but).length))) 0).trans rfl
    have e2 : (((V.setCell ⟨Bq + 1, 0, none⟩ (.int .i64 (cnt D Q (truthsL D but)))).setCell ⟨Bq + 1 + 1, 0, none⟩ (.int .i64 (truthsL D but).length)).drew).cell? ⟨Bq + 1 + 1, 0, none⟩ = some (.int .i64 (truthsL D but).length) :=
      (blk_cell (blk_drew (blk_set (blk_far H4.out (p := ⟨Bq + 1, 0, none⟩) (by simp) (.int .i64 (cnt D Q (truthsL D but)))) 0 (.int .i64 (truthsL D but).length))) 0).trans rfl
    refine leave_mark HD4.out (v := .tuple #[.int .i64 (cnt D Q (truthsL D but)), .int .i64 (truthsL D but).length]) (results_cell2 rfl _ _ (Bq + 1) (Bq + 1 + 1) _ _ _ _ rfl rfl (cell_putObj e1 HD4.out) Try.underlying3 rfl (cell_putObj e2 HD4.out) Try.underlying3 rfl)
      ⟨rfl, H7.out.then_ HC4.out (fun k hk hx => by omega), HK.out.s.chg HC4.out (fun k hx => by omega), HQ.out.stable _ _ _ H8.out HC4.out (fun k hx => by omega)⟩
end Go.Proofs.Ytemeapfnfegkiaa.D
end
section
/- Package disk: Is, One. -/
namespace Go.Proofs.Ytemeapfnfegkiaa.D
open Go Go.RowKit Go.Proofs.YtemeapfnfegkiaaK Go.Proofs.YtemeapfnfegkiaaW.PrintWords Go.Proofs.YtemeapfnfegkiaaW.PrintLast Go.Proofs.YtemeapfnfegkiaaW.PrintMore Go.Proofs.Ytemeapfnfegkiaa.PR
set_option linter.unusedVariables false
set_option linter.unusedSimpArgs false

def toldF (yes all : Int) : Int := if yes = all then 1 else if yes = 0 then 2 else 0
set_option maxHeartbeats 400000 in
theorem told_calls (yes all : Int) (w : World) : Calls Try.prog 91 #[.int .i64 yes, .int .i64 all] w fun e w' => e = .returned (.int .i64 (toldF yes all)) ∧ w = w' := by
  by_cases h : yes = all
  · subst h
    go_enter Try.func91, Try.ntmps91
    go_wp2
    go_ret
    exact ⟨by simp [toldF], rfl⟩
  · have h1 : (yes == all) = false := beq_eq_false_iff_ne.2 h
    by_cases h0 : yes = 0
    · have h2 : (yes == 0) = true := beq_iff_eq.2 h0
      have H := Aside0.mk h
      have H0 := Aside0.mk h0
      clear h h0
      go_enter Try.func91, Try.ntmps91
      go_wp2
      go_ret
      exact ⟨by rw [toldF, if_neg H.out, if_pos H0.out]; rfl, rfl⟩
    · have h2 : (yes == 0) = false := beq_eq_false_iff_ne.2 h0
      have H := Aside0.mk h
      have H0 := Aside0.mk h0
      clear h h0
      go_enter Try.func91, Try.ntmps91
      go_wp2
      go_ret
      exact ⟨by rw [toldF, if_neg H.out, if_neg H0.out]; rfl, rfl⟩

def isQ (dot : Nat) (g : Nat → Int) : Bool := decide (0 < g dot)
def oneQ (a b : Nat) (g : Nat → Int) : Bool := decide (0 < g a) && g a == g b

set_option maxHeartbeats 400000 in
theorem IsC_calls (g : Nat → Int) (dot Bd : Nat) (w : World) (hd : dot < 7) (hb : w.heap[Bd]? = some (.cells #[.int .i64 dot] 3 (0, 0))) :
    Calls Try.prog 93 #[.agg (vec g), .pointer (some ⟨Bd, 0, none⟩)] w fun e w' => e = .returned (.bool (isQ dot g)) ∧ Chg (fun _ => False) w w' := by
  have c0 : w.cell? ⟨Bd, 0, none⟩ = some (.int .i64 dot) := (blk_cell hb 0).trans rfl
  have lb := blk_lt hb
  clear hb
  go_enter Try.func93, Try.ntmps93
  go_upto_region 1 with (fail)
  have HX : Aside0 ((w.alloc (.cells (vec g) 118)).heap[w.heap.size]? = some (.cells (vec g) 118 (0, 0))) := ⟨blk_new _ _⟩
  have hx : (w.alloc (.cells (vec g) 118)).cell? ⟨w.heap.size, dot, none⟩ = some (.int .i64 (g dot)) := (blk_cell HX.out dot).trans (vec_get g dot hd)
  go_wp2
  go_ret
  exact ⟨rfl, (Chg.refl _ w).alloc _⟩

set_option maxRecDepth 100000 in
set_option maxHeartbeats 400000 in
theorem oneC_calls (g : Nat → Int) (a b Ba Bb : Nat) (w : World) (ha : a < 7) (hb : b < 7) (h1 : w.heap[Ba]? = some (.cells #[.int .i64 a] 3 (0, 0))) (h2 : w.heap[Bb]? = some (.cells #[.int .i64 b] 3 (0, 0))) :
    Calls Try.prog 119 #[.agg (vec g), .pointer (some ⟨Ba, 0, none⟩), .pointer (some ⟨Bb, 0, none⟩)] w fun e w' => e = .returned (.bool (oneQ a b g)) ∧ Chg (fun _ => False) w w' := by
  have HX : Aside0 ((w.alloc (.cells (vec g) 118)).heap[w.heap.size]? = some (.cells (vec g) 118 (0, 0))) := ⟨blk_new _ _⟩
  have HA := Aside0.mk (blk_alloc h1 (.cells (vec g) 118))
  have HB := Aside0.mk (blk_alloc h2 (.cells (vec g) 118))
  have HC : Aside0 (Chg (fun _ => False) w (w.alloc (.cells (vec g) 118))) := ⟨(Chg.refl _ w).alloc _⟩
  clear h1 h2
  go_enter Try.func119, Try.ntmps119
  go_upto_region 1 with (fail)
  obtain ⟨Bx, hBx⟩ : ∃ Bx, w.heap.size = Bx := ⟨_, rfl⟩
  rw [hBx] at HX ⊢
  clear hBx
  generalize w.alloc (.cells (vec g) 118) = W1 at HX HA HB HC ⊢
  have a0 : W1.cell? ⟨Ba, 0, none⟩ = some (.int .i64 a) := (blk_cell HA.out 0).trans rfl
  have b0 : W1.cell? ⟨Bb, 0, none⟩ = some (.int .i64 b) := (blk_cell HB.out 0).trans rfl
  have hxa : W1.cell? ⟨Bx, a, none⟩ = some (.int .i64 (g a)) := (blk_cell HX.out a).trans (vec_get g a ha)
  have hxb : W1.cell? ⟨Bx, b, none⟩ = some (.int .i64 (g b)) := (blk_cell HX.out b).trans (vec_get g b hb)
  have hE : oneQ a b g = (decide (0 < g a) && g a == g b) := rfl
  have HE := Aside0.mk hE
  clear hE
  by_cases hg : 0 < g a
  · have hgd : decide (0 < g a) = true := by simpa using hg
    have HG := Aside0.mk hgd
    go_wp2
    go_quiet (fail)
    go_wp2
    go_ret
    exact ⟨by rw [HE.out, HG.out]; simp, HC.out.drewN _⟩
  · have hgd : decide (0 < g a) = false := by simpa using hg
    have HG := Aside0.mk hgd
    go_wp2
    go_quiet (fail)
    go_wp2
    go_ret
    exact ⟨by rw [HE.out, HG.out]; simp, HC.out.drewN _⟩

theorem enters93 (args : Array Value) (w : World) : (callFunc 93 args).run Try.prog w = .ok (.enter 93 args) w := enters_of Try.func93 (by kernel_rfl) rfl args w
theorem enters119 (args : Array Value) (w : World) : (callFunc 119 args).run Try.prog w = .ok (.enter 119 args) w := enters_of Try.func119 (by kernel_rfl) rfl args w
theorem isAsks (n0 mp Bd dot : Nat) (hd : dot < 7) (h1 : Bd < n0) (h2 : Bd ≠ mp) : Asks n0 mp 93 #[.pointer (some ⟨Bd, 0, none⟩)] (fun V => V.heap[Bd]? = some (.cells #[.int .i64 dot] 3 (0, 0))) (isQ dot) where
  enters := enters93
  calls := fun g V hV => IsC_calls g dot Bd V hd hV
  stable := fun A B S h hc hs => hc.heap h (fun hx => by have := hs _ hx; omega)
  ext := fun g h e => by rw [isQ, isQ, e _ hd]
theorem oneAsks (n0 mp Ba Bb a b : Nat) (ha : a < 7) (hb : b < 7) (h1 : Ba < n0) (h2 : Ba ≠ mp) (h3 : Bb < n0) (h4 : Bb ≠ mp) :
    Asks n0 mp 119 #[.pointer (some ⟨Ba, 0, none⟩), .pointer (some ⟨Bb, 0, none⟩)] (fun V => V.heap[Ba]? = some (.cells #[.int .i64 a] 3 (0, 0)) ∧ V.heap[Bb]? = some (.cells #[.int .i64 b] 3 (0, 0))) (oneQ a b) where
  enters := enters119
  calls := fun g V hV => oneC_calls g a b Ba Bb V ha hb hV.1 hV.2
  stable := fun A B S h hc hs => ⟨hc.heap h.1 (fun hx => by have := hs _ hx; omega), hc.heap h.2 (fun hx => by have := hs _ hx; omega)⟩
  ext := fun g h e => by rw [oneQ, oneQ, e _ ha, e _ hb]
end Go.Proofs.Ytemeapfnfegkiaa.D
end
section
/- Package disk: Is, One. -/
namespace Go.Proofs.Ytemeapfnfegkiaa.D
open Go Go.RowKit Go.Proofs.YtemeapfnfegkiaaK Go.Proofs.YtemeapfnfegkiaaW.PrintWords Go.Proofs.YtemeapfnfegkiaaW.PrintLast Go.Proofs.YtemeapfnfegkiaaW.PrintMore Go.Proofs.Ytemeapfnfegkiaa.PR
set_option linter.unusedVariables false
set_option linter.unusedSimpArgs false

theorem enterE_ok {D : Dat} {dots : List Int} (h : enterE D dots = 0) : Valid D ∧ outB 0 ((D.spots.length : Int) - 1) dots = false ∧ ¬ (dots.length = 2 ∧ rd dots 0 = rd dots 1) ∧ (truthsL D 0).isEmpty = false ∧ (checkF D).2.2 = 0 := by
  unfold enterE at h
  split at h
  · next h1 => exact absurd h h1
  · next h1 =>
    have hc : (checkF D).2.2 = 0 := Decidable.of_not_not h1
    split at h
    · cases h
    · next h2 =>
      split at h
      · cases h
      · next h3 =>
        split at h
        · cases h
        · next h4 => exact ⟨(check_valid hc).1, by simpa using h2, h3, by simpa using h4, hc⟩

def isF (D : Dat) (dot : Int) : Int × Int := if enterE D [dot] = 0 then (toldF (cnt D (isQ dot.toNat) (truthsL D 0)) (truthsL D 0).length, 0) else (0, enterE D [dot])
def oneF (D : Dat) (a b : Int) : Int × Int := if enterE D [a, b] = 0 then (toldF (cnt D (oneQ a.toNat b.toNat) (truthsL D 0)) (truthsL D 0).length, 0) else (0, enterE D [a, b])

theorem cellsQ : (Try.prog.info? 121).map (·.size) = some 1 := by kernel_rfl
set_option maxHeartbeats 400000 in
theorem one_calls (a b : Int) (w : World) :
    Calls Try.prog 97 #[.int .i64 a, .int .i64 b] w fun e w' => e = .returned (.agg #[.func (.func 119) #[] #[.pointer (some ⟨w.heap.size, 0, none⟩), .pointer (some ⟨w.heap.size + 1, 0, none⟩)]]) ∧
      w'.heap[w.heap.size]? = some (.cells #[.int .i64 a] 3 (0, 0)) ∧ w'.heap[w.heap.size + 1]? = some (.cells #[.int .i64 b] 3 (0, 0)) ∧ Chg (fun _ => False) w w' := by
  go_enter Try.func97, Try.ntmps97
  go_wp2
  refine bodyPost_ret (v := .agg #[.func (.func 119) #[] #[.pointer (some ⟨w.heap.size, 0, none⟩), .pointer (some ⟨w.heap.size + 1, 0, none⟩)]]) (results_cell_row rfl _ _ (w.heap.size + 1 + 1) 121 _ (0, 0) _ rfl (new_at (by simp) _) Try.underlying121 rfl cellsQ) rfl
    ⟨rfl, blk_alloc (blk_alloc (blk_new _ _) _) _, blk_alloc (new_at (by simp) _) _, (((Chg.refl _ w).alloc _).alloc _).alloc _⟩

set_option maxHeartbeats 1000000 in
theorem Is_calls (D : Dat) (A4 : Option Addr) (c4 : Nat) (A5 : Option Addr) (c5 : Nat) (dot : Int) (w : World) (h : Arg w D A4 c4 A5 c5) :
    Calls Try.prog 23 #[.agg #[.string D.nm, .int .i64 D.rad, .int .i64 D.lo, .int .i64 D.hi, .slice A4 D.spots.length c4, .slice A5 D.told.length c5], .int .i64 dot] w
      fun e w' => e = .returned (.tuple #[.int .i64 (isF D dot).1, .int .i64 (isF D dot).2]) ∧ Below w.heap.size w w' := by
  have hb3 := below_alloc (below_alloc (below_alloc (Below.refl w.heap.size w) (.cells #[.string D.nm, .int .i64 D.rad, .int .i64 D.lo, .int .i64 D.hi, .slice A4 D.spots.length c4, .slice A5 D.told.length c5] 27)) (.cells #[.int .i64 dot] 3)) (.cells #[.int .i64 dot] 3)
  have HB3 := Aside0.mk hb3
  have HA3 := Aside0.mk (h.below hb3)
  have HD3 : Aside0 ((((w.alloc (.cells #[.string D.nm, .int .i64 D.rad, .int .i64 D.lo, .int .i64 D.hi, .slice A4 D.spots.length c4, .slice A5 D.told.length c5] 27)).alloc (.cells #[.int .i64 dot] 3)).alloc (.cells #[.int .i64 dot] 3)).heap[w.heap.size + 1]? = some (.cells #[.int .i64 dot] 3 (0, 0))) := ⟨blk_alloc (new_at (by simp) _) _⟩
  have hz : (((w.alloc (.cells #[.string D.nm, .int .i64 D.rad, .int .i64 D.lo, .int .i64 D.hi, .slice A4 D.spots.length c4, .slice A5 D.told.length c5] 27)).alloc (.cells #[.int .i64 dot] 3)).alloc (.cells #[.int .i64 dot] 3)).heap.size = w.heap.size + 3 := by simp
  have HL := Aside0.mk (lit1 (W := (w.alloc (.cells #[.string D.nm, .int .i64 D.rad, .int .i64 D.lo, .int .i64 D.hi, .slice A4 D.spots.length c4, .slice A5 D.told.length c5] 27)).alloc (.cells #[.int .i64 dot] 3)) (b := w.heap.size + 1 + 1) (t := 3) dot (by simp))
  clear hb3 h
  obtain ⟨r, hr⟩ : ∃ r, isF D dot = r := ⟨_, rfl⟩
  have HF := Aside0.mk hr
  rw [hr]
  clear hr
  go_enter Try.func23, Try.ntmps23
  go_wp2_with fail
  generalize hW : ((w.alloc (.cells #[.string D.nm, .int .i64 D.rad, .int .i64 D.lo, .int .i64 D.hi, .slice A4 D.spots.length c4, .slice A5 D.told.length c5] 27)).alloc (.cells #[.int .i64 dot] 3)).alloc (.cells #[.int .i64 dot] 3) = W3 at HB3 HA3 HD3 HL hz ⊢
  clear hW
  refine (enter_calls D A4 c4 A5 c5 [dot] _ 1 W3 HA3.out HL.out).mono ?_
  rintro e w1 ⟨v, rfl, hb1, hs1⟩
  have HB1 := Aside0.mk (HB3.out.trans (hb1.mono HB3.out.size))
  have HD1 := Aside0.mk (blk_below HD3.out hb1)
  have HS1 := Aside0.mk hs1
  clear hb1 hs1
  obtain ⟨en, hen⟩ : ∃ en, enterE D [dot] = en := ⟨_, rfl⟩
  have HEN := Aside0.mk hen
  rw [hen]
  clear hen
  by_cases h0 : en = 0
  · subst h0
    obtain ⟨mp, b, rfl, hsh⟩ := HS1.out HEN.out
    obtain ⟨hV, ho, _, _, _⟩ := enterE_ok HEN.out
    have HV := Aside0.mk hV
    have hn7 := hV.n7
    simp only [outB_cons, outB_nil] at ho
    obtain ⟨⟨hd0, hd1⟩, _⟩ := ho
    obtain ⟨d, rfl⟩ := Int.eq_ofNat_of_zero_le hd0
    have HSH := Aside0.mk hsh
    clear hsh hV HS1
    have hlt := blk_lt HD1.out
    have hmp : w.heap.size + 1 ≠ mp := by have := HSH.out.gm; omega
    have hr : r = (toldF (cnt D (isQ d) (truthsL D 0)) (truthsL D 0).length, 0) := by rw [← HF.out, isF, if_pos HEN.out]; rfl
    subst hr
    go_wp2_with (first | (go_at_call 92; refine (count_calls W3 w1 D A4 c4 A5 c5 0 mp b 93 _ _ (isQ d) HA3.out HV.out (by decide) HSH.out (isAsks _ mp (w.heap.size + 1) d (by omega) hlt hmp) HD1.out).mono ?_; rintro e w2 ⟨rfl, hc2, hs2, _⟩; have HC2 := Aside0.mk hc2; have HS2 := Aside0.mk hs2; clear hc2 hs2) | (go_at_call 91; refine (told_calls _ _ _).mono ?_; rintro e w2 ⟨rfl, rfl⟩))
    go_ret2
    exact ⟨rfl, HB1.out.trans (HC2.out.below (fun k hk e => by have := HSH.out.gm; omega) HB1.out.size)⟩
  · have hr : r = (0, en) := by rw [← HF.out, isF, HEN.out, if_neg h0]
    subst hr
    go_wp2
    go_ret2
    exact ⟨rfl, HB1.out⟩

set_option maxHeartbeats 1000000 in
theorem One_calls (D : Dat) (A4 : Option Addr) (c4 : Nat) (A5 : Option Addr) (c5 : Nat) (a b : Int) (w : World) (h : Arg w D A4 c4 A5 c5) :
    Calls Try.prog 25 #[.agg #[.string D.nm, .int .i64 D.rad, .int .i64 D.lo, .int .i64 D.hi, .slice A4 D.spots.length c4, .slice A5 D.told.length c5], .int .i64 a, .int .i64 b] w
      fun e w' => e = .returned (.tuple #[.int .i64 (oneF D a b).1, .int .i64 (oneF D a b).2]) ∧ Below w.heap.size w w' := by
  have hb3 := below_alloc (below_alloc (Below.refl w.heap.size w) (.cells #[.string D.nm, .int .i64 D.rad, .int .i64 D.lo, .int .i64 D.hi, .slice A4 D.spots.length c4, .slice A5 D.told.length c5] 27)) (.cells #[.int .i64 a, .int .i64 b] 3)
  have HB3 := Aside0.mk hb3
  have HA3 := Aside0.mk (h.below hb3)
  have HL := Aside0.mk (lit2 (W := w.alloc (.cells #[.string D.nm, .int .i64 D.rad, .int .i64 D.lo, .int .i64 D.hi, .slice A4 D.spots.length c4, .slice A5 D.told.length c5] 27)) (b := w.heap.size + 1) (t := 3) a b (by simp))
  clear hb3 h
  obtain ⟨r, hr⟩ : ∃ r, oneF D a b = r := ⟨_, rfl⟩
  have HF := Aside0.mk hr
  rw [hr]
  clear hr
  go_enter Try.func25, Try.ntmps25
  go_wp2_with fail
  generalize hW : (w.alloc (.cells #[.string D.nm, .int .i64 D.rad, .int .i64 D.lo, .int .i64 D.hi, .slice A4 D.spots.length c4, .slice A5 D.told.length c5] 27)).alloc (.cells #[.int .i64 a, .int .i64 b] 3) = W3 at HB3 HA3 HL ⊢
  clear hW
  refine (enter_calls D A4 c4 A5 c5 [a, b] _ 2 W3 HA3.out HL.out).mono ?_
  rintro e w1 ⟨v, rfl, hb1, hs1⟩
  have HB1 := Aside0.mk (HB3.out.trans (hb1.mono HB3.out.size))
  have HS1 := Aside0.mk hs1
  clear hb1 hs1
  obtain ⟨en, hen⟩ : ∃ en, enterE D [a, b] = en := ⟨_, rfl⟩
  have HEN := Aside0.mk hen
  rw [hen]
  clear hen
  by_cases h0 : en = 0
  · subst h0
    obtain ⟨mp, b', rfl, hsh⟩ := HS1.out HEN.out
    obtain ⟨hV, ho, _, _, _⟩ := enterE_ok HEN.out
    have HV := Aside0.mk hV
    have hn7 := hV.n7
    simp only [outB_cons, outB_nil] at ho
    obtain ⟨⟨hd0, hd1⟩, ⟨hd2, hd3⟩, _⟩ := ho
    obtain ⟨x, rfl⟩ := Int.eq_ofNat_of_zero_le hd0
    obtain ⟨y, rfl⟩ := Int.eq_ofNat_of_zero_le hd2
    have HSH := Aside0.mk hsh
    clear hsh hV HS1
    have hr : r = (toldF (cnt D (oneQ x y) (truthsL D 0)) (truthsL D 0).length, 0) := by rw [← HF.out, oneF, if_pos HEN.out]; rfl
    subst hr
    go_wp2_with fail
    refine (one_calls _ _ w1).mono ?_
    rintro e w2 ⟨rfl, hx, hy, hc⟩
    have hlx := blk_lt hx
    have hly := blk_lt hy
    have hmp0 := HSH.out.mp_lt
    have HSH2 := Aside0.mk (HSH.out.chg hc (fun _ x => x.elim))
    have HB2 := Aside0.mk (HB1.out.trans ((hc.below (B := w.heap.size) (fun _ _ x => x.elim) HB1.out.size)))
    have HX := Aside0.mk (And.intro hx hy)
    clear hc hx hy
    go_wp2_with (first | (go_at_call 92; refine (count_calls W3 w2 D A4 c4 A5 c5 0 mp b' 119 _ _ (oneQ x y) HA3.out HV.out (by decide) HSH2.out (oneAsks _ mp w1.heap.size (w1.heap.size + 1) x y (by omega) (by omega) hlx (by omega) hly (by omega)) HX.out).mono ?_; rintro e w3 ⟨rfl, hc2, hs2, _⟩; have HC2 := Aside0.mk hc2; have HS2 := Aside0.mk hs2; clear hc2 hs2) | (go_at_call 91; refine (told_calls _ _ _).mono ?_; rintro e w2 ⟨rfl, rfl⟩))
    go_ret2
    exact ⟨rfl, HB2.out.trans (HC2.out.below (fun k hk e => by have := HSH.out.gm; have := HB3.out.size; omega) HB2.out.size)⟩
  · have hr : r = (0, en) := by rw [← HF.out, oneF, HEN.out, if_neg h0]
    subst hr
    go_wp2
    go_ret2
    exact ⟨rfl, HB1.out⟩
end Go.Proofs.Ytemeapfnfegkiaa.D
end
section
/- Package disk: Min and Max of a row of int, many, spots. -/
namespace Go.Proofs.Ytemeapfnfegkiaa.D
open Go Go.RowKit Go.Proofs.YtemeapfnfegkiaaK Go.Proofs.YtemeapfnfegkiaaW.PrintWords Go.Proofs.YtemeapfnfegkiaaW.PrintLast Go.Proofs.YtemeapfnfegkiaaW.PrintMore Go.Proofs.Ytemeapfnfegkiaa.PR
set_option linter.unusedVariables false
set_option linter.unusedSimpArgs false

def foldL (f : Int → Int → Int) : List Int → Int
  | [] => 0
  | x :: xs => xs.foldl f x
theorem foldL_take (f : Int → Int → Int) (l : List Int) (k : Nat) (h0 : 0 < k) (hk : k < l.length) : foldL f (l.take (k + 1)) = f (foldL f (l.take k)) l[k] := by
  obtain ⟨x, xs, rfl⟩ : ∃ x xs, l = x :: xs := by cases l with | nil => simp at hk | cons x xs => exact ⟨x, xs, rfl⟩
  obtain ⟨k, rfl⟩ : ∃ j, k = j + 1 := ⟨k - 1, by omega⟩
  have hk' : k < xs.length := by simpa using hk
  simp only [List.take_succ_cons, foldL, List.getElem_cons_succ]
  rw [List.take_succ_eq_append_getElem hk', List.foldl_append]; rfl
abbrev minL := foldL min
abbrev maxL := foldL max

set_option maxHeartbeats 400000 in
theorem minI_calls (l : List Int) (A : Option Addr) (c : Nat) (w : World) (h0 : 0 < l.length) (hr : Kd.C (Kd.int .i64) w A l.length l) :
    Calls Try.prog 120 #[.slice A l.length c] w fun e w' => e = .returned (.int .i64 (minL l)) ∧ w = w' := by
  have hlen := hr.2.1
  have HR := Aside0.mk hr
  obtain ⟨ad0, e0, hc0⟩ := at_nat hr 0 h0
  subst e0
  have hx0 : foldL min (l.take 1) = rd l 0 := by cases l with | nil => simp at h0 | cons x xs => rfl
  have HX0 := Aside0.mk hx0
  have hc0 : w.cell? ad0 = some (.int .i64 (rd l 0)) := hc0
  clear hr hx0
  go_enter Try.func120, Try.ntmps120
  go_wp2
  go_loop [3, 4] (fun m i => ∃ k : Nat, 0 < k ∧ k ≤ l.length ∧ i = .int .i64 k ∧ m = .int .i64 (minL (l.take k))) (fun m i => l.length - (intOf i).toNat)
  case atStart => exact ⟨1, by omega, h0, rfl, congrArg (Value.int .i64) HX0.out.symm⟩
  case round =>
    obtain ⟨k, hk0, hk, rfl, rfl⟩ := hrel
    by_cases hlt : k < l.length
    · obtain ⟨ad, e, hc⟩ := at_nat HR.out k hlt
      have HO : Aside0 (minL (l.take (k + 1)) = min (minL (l.take k)) l[k]) := ⟨foldL_take min l k hk0 hlt⟩
      have hd : rd l k = l[k] := by simp [rd, hlt]
      rw [hd] at hc
      cases e
      generalize l[k] = x at *
      generalize minL (l.take k) = m at *
      by_cases hm : x < m
      all_goals
        go_wp2
        go_round
        case rel => exact ⟨k + 1, by omega, by omega, by go_num, congrArg (Value.int .i64) (by rw [HO.out]; omega)⟩
        case measure => simp [intOf]; omega
    · obtain rfl : k = l.length := by omega
      go_wp2
      go_ret
      exact ⟨rfl, rfl⟩
set_option maxHeartbeats 400000 in
theorem maxI_calls (l : List Int) (A : Option Addr) (c : Nat) (w : World) (h0 : 0 < l.length) (hr : Kd.C (Kd.int .i64) w A l.length l) :
    Calls Try.prog 121 #[.slice A l.length c] w fun e w' => e = .returned (.int .i64 (maxL l)) ∧ w = w' := by
  have hlen := hr.2.1
  have HR := Aside0.mk hr
  obtain ⟨ad0, e0, hc0⟩ := at_nat hr 0 h0
  subst e0
  have hx0 : foldL max (l.take 1) = rd l 0 := by cases l with | nil => simp at h0 | cons x xs => rfl
  have HX0 := Aside0.mk hx0
  have hc0 : w.cell? ad0 = some (.int .i64 (rd l 0)) := hc0
  clear hr hx0
  go_enter Try.func121, Try.ntmps121
  go_wp2
  go_loop [3, 4] (fun m i => ∃ k : Nat, 0 < k ∧ k ≤ l.length ∧ i = .int .i64 k ∧ m = .int .i64 (maxL (l.take k))) (fun m i => l.length - (intOf i).toNat)
  case atStart => exact ⟨1, by omega, h0, rfl, congrArg (Value.int .i64) HX0.out.symm⟩
  case round =>
    obtain ⟨k, hk0, hk, rfl, rfl⟩ := hrel
    by_cases hlt : k < l.length
    · obtain ⟨ad, e, hc⟩ := at_nat HR.out k hlt
      have HO : Aside0 (maxL (l.take (k + 1)) = max (maxL (l.take k)) l[k]) := ⟨foldL_take max l k hk0 hlt⟩
      have hd : rd l k = l[k] := by simp [rd, hlt]
      rw [hd] at hc
      cases e
      generalize l[k] = x at *
      generalize maxL (l.take k) = m at *
      by_cases hm : m < x
      all_goals
        go_wp2
        go_round
        case rel => exact ⟨k + 1, by omega, by omega, by go_num, congrArg (Value.int .i64) (by rw [HO.out]; omega)⟩
        case measure => simp [intOf]; omega
    · obtain rfl : k = l.length := by omega
      go_wp2
      go_ret
      exact ⟨rfl, rfl⟩

def manyF (g : Nat → Int) : Int := maxL [g 0, g 1, g 2, g 3, g 4, g 5, g 6]
theorem vec_map (g : Nat → Int) : vec g = ([g 0, g 1, g 2, g 3, g 4, g 5, g 6].map (Value.int .i64)).toArray := rfl
theorem many_calls (v0 v1 : Value) (g : Nat → Int) (w : World) : Calls Try.prog 100 #[.agg #[v0, v1], .agg (vec g)] w fun e w' => e = .returned (.int .i64 (manyF g)) ∧ Chg (fun _ => False) w w' := by
  go_enter Try.func100, Try.ntmps100
  go_upto_region 1 with (fail)
  have HX : Aside0 (((w.alloc (.cells #[v0, v1] 130)).alloc (.cells (vec g) 118)).heap[w.heap.size + 1]? = some (.cells (vec g) 118 (0, 0))) := ⟨new_at (by simp) _⟩
  have HC : Aside0 (Chg (fun _ => False) w ((w.alloc (.cells #[v0, v1] 130)).alloc (.cells (vec g) 118))) := ⟨((Chg.refl _ w).alloc _).alloc _⟩
  generalize ((w.alloc (.cells #[v0, v1] 130)).alloc (.cells (vec g) 118)) = W1 at HX HC ⊢
  obtain ⟨Bx, hBx⟩ : ∃ Bx, w.heap.size + 1 = Bx := ⟨_, rfl⟩
  rw [hBx] at HX ⊢
  clear hBx
  have lx := blk_lt HX.out
  go_wp2_with (go_at_call 121; refine (maxI_calls [g 0, g 1, g 2, g 3, g 4, g 5, g 6] _ 7 _ (by simp) (C_lit (by rw [HX.out, vec_map]) (by simp))).mono ?_; rintro e w1 ⟨rfl, rfl⟩)
  go_ret
  exact ⟨rfl, HC.out⟩

theorem run_index_vec (w : World) (g : Nat → Int) (k : Nat) (hk : k < 7) : (Instr.index 118 (.agg (vec g)) (.int .i64 k)).run Try.prog w = .ok (.int .i64 (g k)) w := by
  obtain ⟨i, hi⟩ := g3
  have h1 : (part 3 (vec g) k).run Try.prog w = .ok (.int .i64 (g k)) w := run_part_plain w v3 (vec_get g k hk)
  have h2 : (0 : Int) ≤ k ∧ (k : Int) < 7 := by omega
  have h3 : (sizeOf 3).run Try.prog w = .ok 1 w := by rw [run_sizeOf w hi, g2]
  simp [Instr.index, asIntOf, run_underlying g1, hk, h3, h1]

def spotsTo (g : Nat → Int) : Nat → Int
  | 0 => 0
  | k + 1 => spotsTo g k + min (g k) 1
set_option maxRecDepth 100000 in
set_option maxHeartbeats 400000 in
theorem spots_calls (v0 v1 : Value) (g : Nat → Int) (w : World) (hg : ∀ k, k < 7 → 0 ≤ g k) : Calls Try.prog 101 #[.agg #[v0, v1], .agg (vec g)] w fun e w' => e = .returned (.int .i64 (spotsTo g 7)) ∧ Chg (fun _ => False) w w' := by
  go_enter Try.func101, Try.ntmps101
  go_upto_region 1 with (fail)
  have HX : Aside0 (((w.alloc (.cells #[v0, v1] 130)).alloc (.cells (vec g) 118)).heap[w.heap.size + 1]? = some (.cells (vec g) 118 (0, 0))) := ⟨new_at (by simp) _⟩
  have HC : Aside0 (Chg (fun _ => False) w ((w.alloc (.cells #[v0, v1] 130)).alloc (.cells (vec g) 118))) := ⟨((Chg.refl _ w).alloc _).alloc _⟩
  generalize ((w.alloc (.cells #[v0, v1] 130)).alloc (.cells (vec g) 118)) = W1 at HX HC ⊢
  obtain ⟨Bx, hBx⟩ : ∃ Bx, w.heap.size + 1 = Bx := ⟨_, rfl⟩
  rw [hBx] at HX ⊢
  clear hBx
  have lx := blk_lt HX.out
  have x0 : W1.cell? ⟨Bx, 0, none⟩ = some (.int .i64 (g 0)) := (blk_cell HX.out 0).trans rfl
  have x1 : W1.cell? ⟨Bx, 1, none⟩ = some (.int .i64 (g 1)) := (blk_cell HX.out 1).trans rfl
  have x2 : W1.cell? ⟨Bx, 2, none⟩ = some (.int .i64 (g 2)) := (blk_cell HX.out 2).trans rfl
  have x3 : W1.cell? ⟨Bx, 3, none⟩ = some (.int .i64 (g 3)) := (blk_cell HX.out 3).trans rfl
  have x4 : W1.cell? ⟨Bx, 4, none⟩ = some (.int .i64 (g 4)) := (blk_cell HX.out 4).trans rfl
  have x5 : W1.cell? ⟨Bx, 5, none⟩ = some (.int .i64 (g 5)) := (blk_cell HX.out 5).trans rfl
  have x6 : W1.cell? ⟨Bx, 6, none⟩ = some (.int .i64 (g 6)) := (blk_cell HX.out 6).trans rfl
  go_wp2
  clear x0 x1 x2 x3 x4 x5 x6
  go_loop [4, 8] (fun n i => ∃ k : Nat, k ≤ 7 ∧ i = .int .i64 k ∧ n = .int .i64 (spotsTo g k) ∧ 0 ≤ spotsTo g k ∧ spotsTo g k ≤ k) (fun n i => 7 - (intOf i).toNat)
  case atStart => exact ⟨0, Nat.zero_le _, rfl, rfl, Int.le_refl 0, Int.le_refl 0⟩
  case round =>
    obtain ⟨k, hk, rfl, rfl, h1, h2⟩ := hrel
    have hgk := hg k
    by_cases hlt : k < 7
    · have hgk := hgk hlt
      obtain ⟨m', hm'⟩ : ∃ m', spotsTo g (k + 1) = m' := ⟨_, rfl⟩
      have hs : m' = spotsTo g k + min (g k) 1 := hm'.symm
      have HM := Aside0.mk hm'
      have HS := Aside0.mk hs
      clear hs hm'
      have hix : ∀ w, (Instr.index 118 (.agg #[.int .i64 (g 0), .int .i64 (g 1), .int .i64 (g 2), .int .i64 (g 3), .int .i64 (g 4), .int .i64 (g 5), .int .i64 (g 6)]) (.int .i64 k)).run Try.prog w = .ok (.int .i64 (g k)) w := fun w => run_index_vec w g k hlt
      by_cases hm : g k < 1
      all_goals
        obtain ⟨m, hm2⟩ : ∃ m, spotsTo g k = m := ⟨_, rfl⟩
        rw [hm2] at h1 h2 HS ⊢
        clear hm2
        go_wp2
        go_round
        case rel => exact ⟨k + 1, by omega, by go_num, congrArg (Value.int .i64) (by rw [HM.out, HS.out]; omega), by rw [HM.out, HS.out]; omega, by rw [HM.out, HS.out]; omega⟩
        case measure => simp [intOf]; omega
    · obtain rfl : k = 7 := by omega
      go_wp2
      go_ret
      exact ⟨rfl, HC.out⟩
end Go.Proofs.Ytemeapfnfegkiaa.D
end
section
/- General lemmas of this session's own: a row of ints that grows by append. -/
namespace Go.Proofs.YtemeapfnfegkiaaK
open Go Go.RowKit Go.Proofs.YtemeapfnfegkiaaW.PrintWords Go.Proofs.YtemeapfnfegkiaaW.PrintLast Go.Proofs.YtemeapfnfegkiaaW.PrintMore
set_option linter.unusedVariables false
set_option linter.unusedSimpArgs false
variable {P : Program}

def Row (w : World) (n0 e : Nat) (v : Value) (l : List Int) : Prop := w.ownsRow n0 e 1 v l.length (l.map (Value.int .i64))

namespace Row
variable {w w' : World} {n0 e : Nat} {v : Value} {l : List Int}
theorem nil (w : World) (n0 e : Nat) : Row w n0 e (.slice none 0 0) [] := World.ownsRow_nil w n0 e 1
theorem lt (h : Row w n0 e v l) : ∀ k, v.ownBlock = some k → n0 ≤ k ∧ k < w.heap.size := World.ownsRow.lt h
theorem chg {S : Nat → Prop} (h : Row w n0 e v l) (hc : Chg S w w') (hs : ∀ k, v.ownBlock = some k → ¬ S k) : Row w' n0 e v l := by
  refine ⟨h.1, ?_⟩
  rcases h.2 with hn | ⟨g, cap, cur, rfl, hb, hgg, rest⟩
  · exact .inl hn
  · exact .inr ⟨g, cap, cur, rfl, hb, hc.heap hgg (hs g rfl), rest⟩
theorem ne (h : Row w n0 e v l) {B : Nat} {cs : Array Value} {t : TypeId} {fr : Nat × Nat} (hB : w.heap[B]? = some (.cells cs t fr)) (ht : t ≠ e) : v.ownBlock ≠ some B := fun hv => by
  rcases h.2 with ⟨rfl, _⟩ | ⟨g, cap, cur, rfl, hb, hgg, rest⟩
  · simp [Value.ownBlock] at hv
  · simp [Value.ownBlock] at hv
    subst hv
    rw [hgg] at hB
    injection hB with hB
    injection hB with h1 h2
    exact ht h2.symm
theorem shape (h : Row w n0 e v l) : ∃ A c, v = .slice A l.length c ∧ l.length ≤ c := by
  rcases h.2 with ⟨rfl, h0⟩ | ⟨g, cap, cur, rfl, hb, hgg, hc, _⟩
  · exact ⟨none, 0, by rw [h0], by omega⟩
  · exact ⟨_, _, rfl, hc⟩
theorem read (h : Row w n0 e v l) {A : Option Addr} {n c : Nat} (hv : v = .slice A n c) (hl : l.length ≤ 9223372036854775807) : Kd.C (Kd.int .i64) w A l.length l := by
  refine ⟨rfl, hl, fun h0 => ?_⟩
  rcases h.2 with ⟨rfl, hn⟩ | ⟨g, cap, cur, rfl, hb, hgg, hc, hm, hs, ht⟩
  · omega
  · injection hv with h1 h2 h3
    subst h1
    refine ⟨_, rfl, fun j p hj => ⟨[.int .i64 p], rfl, rfl, fun i u hu => ?_⟩⟩
    have hi : i = 0 := by
      have := (List.getElem?_eq_some_iff.1 hu).1
      simpa using this
    subst hi
    simp at hu
    subst hu
    have hadd : (⟨g, 0, none⟩ : Addr).add (j * 1 + 0) = ⟨g, j, none⟩ := by unfold Addr.add; split <;> simp_all
    have hjl := (List.getElem?_eq_some_iff.1 hj).1
    show w.cell? ((⟨g, 0, none⟩ : Addr).add (j * 1 + 0)) = _
    rw [hadd, cell_of_row w g j cur e (0, 0) hgg]
    have hx : (l.map (Value.int .i64))[j]? = some (.int .i64 p) := by rw [List.getElem?_map, hj]; rfl
    rw [← ht, List.getElem?_take] at hx
    split at hx
    · simpa using hx
    · cases hx

theorem append (h : Row w n0 e v l) {t : TypeId} (ty : TypeId) {i : TypeInfo} (ht : P.underlying t = some (.slice e)) (hi : P.info? e = some i) (hz : i.zero = some (.int .i64 0)) (hsize : i.size = 1) (hby : i.bytes = 8)
    {b : Nat} {x : Int} {t' : TypeId} (hx : w.heap[b]? = some (.cells #[.int .i64 x] t' (0, 0))) (hl : l.length ≤ 1000000) (hn0 : n0 ≤ w.heap.size) :
    ∃ v' w', (Builtin.append_ #[t, t] ty #[v, .slice (some ⟨b, 0, none⟩) 1 1]).run P w = .ok v' w' ∧ Row w' n0 e v' (l ++ [x]) ∧ Chg (fun k => v.ownBlock = some k) w w' ∧ (∀ k, v'.ownBlock = some k → k < w'.heap.size ∧ (v.ownBlock = some k ∨ k = w.heap.size)) := by
  obtain ⟨g, cap, w', hr, ho, hg, hor, hlt⟩ := run_append_lies (P := P) w t ty n0 e i _ 1 8 ht hi hz hsize hby rfl (by decide) v l.length _ h ⟨b, 0, none⟩ 1 1 [.int .i64 x] rfl (by
    intro j u hu
    have := World.news_of_block hx j u (by simpa using hu)
    exact this) (by simp [Value.oneCell']) (by decide) (by simp only [maxLen]; omega) (by omega) hn0 w.heap.size rfl
  refine ⟨_, w', hr, ?_, ⟨hg.os, hg.tape, hg.output, hg.size, fun k hk hn => hg.block k hk (fun e => hn e.symm)⟩, ?_⟩
  · unfold Row
    rw [List.length_append, List.map_append]
    exact ho
  · intro k hk
    simp [Value.ownBlock] at hk
    subst hk
    exact ⟨hlt, hor⟩
end Row
end Go.Proofs.YtemeapfnfegkiaaK
end
section
/- Package disk: hull. -/
namespace Go.Proofs.Ytemeapfnfegkiaa.D
open Go Go.RowKit Go.Proofs.YtemeapfnfegkiaaK Go.Proofs.YtemeapfnfegkiaaW.PrintWords Go.Proofs.YtemeapfnfegkiaaW.PrintLast Go.Proofs.YtemeapfnfegkiaaW.PrintMore Go.Proofs.Ytemeapfnfegkiaa.PR
set_option linter.unusedVariables false
set_option linter.unusedSimpArgs false
attribute [local go_sem] Oper.semAt_some
attribute [-go_sem] Builtin.append_

theorem foldl_keep {α β : Type} (P : β → Prop) (f : β → α → β) (hf : ∀ b a, P b → P (f b a)) (l : List α) (b : β) (h : P b) : P (l.foldl f b) := by
  induction l generalizing b with
  | nil => exact h
  | cons x xs ih => exact ih _ (hf _ _ h)
theorem joinF_all (P : Int → Prop) (adj : Nat → Nat → Bool) (n : Nat) (m : Int) (hm : P m) (f : Nat) : ∀ (g : Nat → Int) (d : Nat), (∀ k, P (g k)) → ∀ k, P (joinF adj n m f g d k) := by
  induction f with
  | zero => intro g d h; exact h
  | succ f ih =>
    intro g d h
    refine foldl_keep (fun g : Nat → Int => ∀ k, P (g k)) _ ?_ _ _ ?_
    · intro g k hg
      split
      · exact ih _ _ hg
      · exact hg
    · intro k
      unfold upd
      split
      · exact hm
      · exact h k
theorem groupsTo_all (adj : Nat → Nat → Bool) (n set : Nat) (k : Nat) : 0 ≤ (groupsTo adj n set k).1 ∧ (groupsTo adj n set k).1 ≤ k ∧ ∀ j, 0 ≤ (groupsTo adj n set k).2 j ∧ (groupsTo adj n set k).2 j ≤ k := by
  induction k with
  | zero => simp [groupsTo]
  | succ k ih =>
    rw [groupsTo_succ]
    obtain ⟨h1, h2, h3⟩ := ih
    split
    · refine ⟨by simp; omega, by simp; omega, joinF_all (fun x => 0 ≤ x ∧ x ≤ ((k + 1 : Nat) : Int)) _ _ _ (by omega) _ _ _ (fun j => by have := h3 j; omega)⟩
    · refine ⟨h1, by omega, fun j => by have := h3 j; omega⟩
theorem G_in {D : Dat} (hV : Valid D) (near : Int) (set : Nat) (k : Nat) : 0 ≤ G D near set k ∧ G D near set k ≤ 7 := by
  have := (groupsTo_all (adjS D.spots near set) D.spots.length set D.spots.length).2.2 k
  have := hV.n7
  unfold G; omega

structure Vals (f : Nat) (F : Int → (Nat → Int) → Int) : Prop where
  enters : ∀ args w, (callFunc f args).run Try.prog w = .ok (.enter f args) w
  calls : ∀ (n : Int) (s : Nat) g V, (∀ k, 0 ≤ g k ∧ g k ≤ 7) → Calls Try.prog f #[.agg #[.int .i64 n, .int .i64 s], .agg (vec g)] V fun e V' => e = .returned (.int .i64 (F n g)) ∧ Chg (fun _ => False) V V'

def valsL (D : Dat) (F : Int → (Nat → Int) → Int) (l : List (Int × Nat)) : List Int := l.map fun x => F x.1 (G D x.1 x.2)
theorem i3 : ∃ i, Try.prog.info? 3 = some i ∧ i.zero = some (.int .i64 0) ∧ i.size = 1 ∧ i.bytes = 8 := by
  have h := info3
  cases hi : Try.prog.info? 3 with
  | none => rw [hi] at h; cases h
  | some i => rw [hi] at h; simp at h; exact ⟨i, rfl, h.1, h.2.1, h.2.2⟩

def calm (Q : Exit → Act → World → Prop) : Exit → Act → World → Prop
  | .normal, a, w => Q .normal a w
  | .ret, a, w => Q .ret a w
  | .exit i, a, w => Q (.exit i) a w
  | .goto i, a, w => Q (.goto i) a w
  | .panic _, _, _ => False
  | .outgrown, _, _ => False
theorem wpIn_calm {F : Fence} {n : Nat} {P : Program} {c : Code} {Q : Exit → Act → World → Prop} {a : Act} {w : World} (h : c.wpIn F n P (calm Q) a w) : c.wpIn F n P Q a w :=
  wpIn_mono h (fun e a w hq => by cases e <;> first | exact hq | exact hq.elim)
theorem info23s : (Try.prog.info? 23).map (·.size) = some 2 := by kernel_rfl
set_option maxRecDepth 100000 in
set_option maxHeartbeats 1000000 in
theorem hull_calls (w0 W : World) (D : Dat) (A4 : Option Addr) (c4 : Nat) (A5 : Option Addr) (c5 : Nat) (but : Nat) (mp b f : Nat) (F : Int → (Nat → Int) → Int)
    (hA : Arg w0 D A4 c4 A5 c5) (hV : Valid D) (hbut : but < 2 ^ 62) (h : Sh w0 W D A4 c4 A5 c5 but mp b) (hq : Vals f F) (hne : truthsL D but ≠ []) :
    Calls Try.prog 99 #[.pointer (some ⟨b, 0, none⟩), .func (.func f) #[] #[]] W
      fun e W' => e = .returned (.agg #[.int .i64 (minL (valsL D F (truthsL D but))), .int .i64 (maxL (valsL D F (truthsL D but)))]) ∧ Chg (fun k => k = mp) W W' ∧ Sh w0 W' D A4 c4 A5 c5 but mp b := by
  have H := Aside0.mk h
  have HNE := Aside0.mk hne
  have hmp := h.mp_lt
  have hb0 := blk_lt h.sh
  have he := hq.enters
  have HQ := Aside0.mk hq
  clear h hq hne
  refine (callsIn_wide (n := 0)).1 ?_
  refine callsIn_of_wp_marks Try.func99 rfl trivial ?_
  simp only [Try.ntmps99, List.size_toArray, List.length_cons, List.length_nil, Nat.reduceAdd, Nat.reduceSub, Array.replicate_succ, Array.replicate_zero, List.push_toArray, List.append_toArray, List.nil_append, List.cons_append]
  gi_wp2_with (refine ⟨trivial, rfl, ?_⟩; gi_at_call 118; refine (callsIn_wide.2 (truths_calls _ b)).mono ?_; rintro e w1 ⟨rfl, rfl⟩)
  obtain ⟨V1, hV1⟩ : ∃ V1, ((((W.alloc (.cells #[.func (.func f) #[] #[]] 127)).alloc (.cells #[.int .i64 0, .int .i64 0] 23)).alloc (.cells #[.slice none 0 0] 46)).alloc (.cells #[.pointer (some ⟨b, 0, none⟩)] 112)) = V1 := ⟨_, rfl⟩
  have hch : Chg (fun _ => False) W V1 := by rw [← hV1]; exact ((((Chg.refl _ W).alloc _).alloc _).alloc _).alloc _
  have HBf : Aside0 (V1.heap[W.heap.size]? = some (.cells #[.func (.func f) #[] #[]] 127 (0, 0))) := ⟨by rw [← hV1]; exact blk_alloc (blk_alloc (blk_alloc (blk_new _ _) _) _) _⟩
  have HBr : Aside0 (V1.heap[W.heap.size + 1]? = some (.cells #[.int .i64 0, .int .i64 0] 23 (0, 0))) := ⟨by rw [← hV1]; exact blk_alloc (blk_alloc (new_at (by simp) _) _) _⟩
  have HBl : Aside0 (V1.heap[W.heap.size + 1 + 1]? = some (.cells #[.slice none 0 0] 46 (0, 0))) := ⟨by rw [← hV1]; exact blk_alloc (new_at (by simp) _) _⟩
  have HBs : Aside0 (V1.heap[W.heap.size + 1 + 1 + 1]? = some (.cells #[.pointer (some ⟨b, 0, none⟩)] 112 (0, 0))) := ⟨by rw [← hV1]; exact new_at (by simp) _⟩
  rw [hV1]
  have HC1 := Aside0.mk hch
  clear hch hV1
  obtain ⟨B, hB⟩ : ∃ B, W.heap.size = B := ⟨_, rfl⟩
  rw [hB] at HBf HBr HBl HBs hmp hb0 ⊢
  have HOk : Aside0 (Ok w0 D A4 c4 A5 c5 but mp b (B + 1 + 1 + 1) V1) := ⟨H.out.chg HC1.out (fun _ x => x.elim), HBs.out⟩
  have z2 := blk_lt HBs.out
  have zb := H.out.base.size
  have z3 : mp < V1.heap.size := by omega
  refine rangeFunc (gf := 129) (lb := #[.pointer (some ⟨B + 1 + 1 + 1, 0, none⟩)]) rfl enters129 (truthsC_iter w0 V1 D A4 c4 A5 c5 but mp b (B + 1 + 1 + 1) hA hV hbut z3) (fun _ => rfl)
    (fun pre Fp V => ∃ v, Fp = (fun k => k = B + 1 + 1 ∨ v.ownBlock = some k) ∧ V.heap[B]? = some (.cells #[.func (.func f) #[] #[]] 127 (0, 0)) ∧ V.heap[B + 1]? = some (.cells #[.int .i64 0, .int .i64 0] 23 (0, 0)) ∧
      V.heap[B + 1 + 1]? = some (.cells #[v] 46 (0, 0)) ∧ Row V B 3 v (valsL D F pre) ∧ Chg (fun k => k = mp) W V)
    (fun c pre V => False)
    (fun k => k = B + 1 + 1) (fun k e => by omega) (fun A C ho hc => ho.chg hc (fun k hk => by omega)) ?_ (fun c pre A B h => h.elim) ⟨.slice none 0 0, by funext k; simp [Value.ownBlock], HBf.out, HBr.out, HBl.out, Row.nil _ _ _, HC1.out.mono (fun _ _ x => x.elim)⟩ (fun k e => by omega) HOk.out ?_ ?_ (fun c pre V _ h => h.elim)
  · rintro pre Fp A C ⟨v, rfl, h2, h3, h4, h5, h6⟩ hc hok
    have n1 := h5.ne h2 (by decide)
    have n2 := h5.ne h3 (by decide)
    have n3 := h5.lt
    refine ⟨v, rfl, hc.heap h2 ?_, hc.heap h3 ?_, hc.heap h4 (by omega), h5.chg hc ?_, h6.then_ hc (fun k hk hx => by omega)⟩
    · rintro (e | e)
      · omega
      · omega
    · rintro (e | e)
      · omega
      · omega
    · rintro k hk (e | e)
      · have := n3 k hk; omega
      · exact e.2 (.inr hk)
  · rintro l pre x Fp V hl1 hl2 hfl hFp hpre hI hok
    dsimp only [encT]
    gi_wp2
    have HX0 : Aside0 (((V.alloc (.cells #[.int .i64 x.1, .int .i64 x.2] 130)).alloc (.cells (vec (G D x.1 x.2)) 118)).heap[V.heap.size + 1]? = some (.cells (vec (G D x.1 x.2)) 118 (0, 0))) := ⟨new_at (by simp) _⟩
    have HY0 : Aside0 (((V.alloc (.cells #[.int .i64 x.1, .int .i64 x.2] 130)).alloc (.cells (vec (G D x.1 x.2)) 118)).heap[V.heap.size]? = some (.cells #[.int .i64 x.1, .int .i64 x.2] 130 (0, 0))) := ⟨blk_alloc (blk_new _ _) _⟩
    refine ⟨((Chg.refl _ _).alloc _).alloc _, ?_⟩
    clear hI hok
    rintro V3 hc3 hs3 ⟨v, rfl, h2, h3, h4, h5, h6⟩ hok
    have HX := Aside0.mk (hc3.heap HX0.out (by omega))
    have HY := Aside0.mk (hc3.heap HY0.out (by omega))
    clear HX0 HY0 hc3
    obtain ⟨Bx, hBx⟩ : ∃ Bx, V.heap.size = Bx := ⟨_, rfl⟩
    have zx : ∀ k, (k = B + 1 + 1 ∨ v.ownBlock = some k) → k < Bx := fun k hk => by have := hFp k hk; omega
    have HZX := Aside0.mk zx
    have z5 := zx _ (.inl rfl)
    clear zx hFp hs3
    rw [hBx] at HX HY ⊢
    clear hBx
    have HG0 : Aside0 (∀ k, 0 ≤ G D x.1 x.2 k ∧ G D x.1 x.2 k ≤ 7) := ⟨G_in hV x.1 x.2⟩
    have HVL : Aside0 (valsL D F (pre ++ [x]) = valsL D F pre ++ [F x.1 (G D x.1 x.2)]) := ⟨by simp [valsL]⟩
    obtain ⟨gx, hgx⟩ : ∃ gx, G D x.1 x.2 = gx := ⟨_, rfl⟩
    rw [hgx] at HX HG0 HVL
    clear hgx
    have H2 := Aside0.mk h2
    have H3 := Aside0.mk h3
    have H4 := Aside0.mk h4
    have H5 := Aside0.mk h5
    have H6 := Aside0.mk h6
    have HK := Aside0.mk hok
    have n1 := h5.ne h2 (by decide)
    have n2 := h5.ne h3 (by decide)
    have n3 := h5.ne h4 (by decide)
    have n4 := h5.ne hok.bs (by decide)
    have n5 := h5.lt
    have HN : Aside0 (∀ k, v.ownBlock = some k → B ≤ k ∧ k ≠ B ∧ k ≠ B + 1 ∧ k ≠ B + 1 + 1 ∧ k ≠ B + 1 + 1 + 1 ∧ k < Bx) := ⟨fun k hk => ⟨(n5 k hk).1, fun e => n1 (e ▸ hk), fun e => n2 (e ▸ hk), fun e => n3 (e ▸ hk), fun e => n4 (e ▸ hk), HZX.out k (.inr hk)⟩⟩
    clear n1 n2 n3 n4 n5 h2 h3 h4 h5 h6 hok
    have lx := blk_lt HX.out
    have lb3 := blk_lt H4.out
    have x0 : V3.cell? ⟨Bx + 1, 0, none⟩ = some (.int .i64 (gx 0)) := (blk_cell HX.out 0).trans rfl
    have x1 : V3.cell? ⟨Bx + 1, 1, none⟩ = some (.int .i64 (gx 1)) := (blk_cell HX.out 1).trans rfl
    have x2 : V3.cell? ⟨Bx + 1, 2, none⟩ = some (.int .i64 (gx 2)) := (blk_cell HX.out 2).trans rfl
    have x3 : V3.cell? ⟨Bx + 1, 3, none⟩ = some (.int .i64 (gx 3)) := (blk_cell HX.out 3).trans rfl
    have x4 : V3.cell? ⟨Bx + 1, 4, none⟩ = some (.int .i64 (gx 4)) := (blk_cell HX.out 4).trans rfl
    have x5 : V3.cell? ⟨Bx + 1, 5, none⟩ = some (.int .i64 (gx 5)) := (blk_cell HX.out 5).trans rfl
    have x6 : V3.cell? ⟨Bx + 1, 6, none⟩ = some (.int .i64 (gx 6)) := (blk_cell HX.out 6).trans rfl
    have y0 : V3.cell? ⟨Bx, 0, none⟩ = some (.int .i64 x.1) := (blk_cell HY.out 0).trans rfl
    have y1 : V3.cell? ⟨Bx, 1, none⟩ = some (.int .i64 x.2) := (blk_cell HY.out 1).trans rfl
    have a0 : V3.cell? ⟨B + 1 + 1, 0, none⟩ = some v := (blk_cell H4.out 0).trans rfl
    have a1 : V3.cell? ⟨B, 0, none⟩ = some (.func (.func f) #[] #[]) := (blk_cell H2.out 0).trans rfl
    have hpl : (valsL D F pre).length ≤ 1000000 := by
      have h1 := hpre.length_le
      have h2 := truthsL_len hV but
      simp [valsL] at h1 ⊢; omega
    have hmix : Try.prog.follows .mixedOrders = true := by kernel_rfl
    have hI3 := i3
    obtain ⟨i, hi, hz, hs, hby⟩ := hI3
    have HAP : Aside0 (∀ w1, Chg (fun _ => False) V3 w1 → ∃ v' w2, (Builtin.append_ #[46, 46] 46 #[v, .slice (some ⟨w1.heap.size, 0, none⟩) 1 1]).run Try.prog (w1.alloc (.cells #[.int .i64 (F x.1 gx)] 3)) = .ok v' w2 ∧
        w2.heap[B + 1 + 1]? = some (.cells #[v] 46 (0, 0)) ∧ Row w2 B 3 v' (valsL D F (pre ++ [x])) ∧ Chg (fun k => v.ownBlock = some k) V3 w2 ∧ (∀ k, v'.ownBlock = some k → k < w2.heap.size ∧ (v.ownBlock = some k ∨ V3.heap.size ≤ k))) := ⟨by
      intro w1 hc
      have hca := hc.alloc (.cells #[.int .i64 (F x.1 gx)] 3)
      obtain ⟨v', w2, e1, e2, e3, e4⟩ := Row.append (P := Try.prog) (H5.out.chg hca (fun _ _ x => x)) 46 Try.underlying46 hi hz hs hby (b := w1.heap.size) (blk_new w1 (.cells #[.int .i64 (F x.1 gx)] 3)) hpl (by have := hca.size; omega)
      exact ⟨v', w2, e1, e3.heap (hca.heap H4.out id) (fun hk => by have := (HN.out _ hk); omega), by rw [HVL.out]; exact e2, (hca.mono (fun _ _ x => x.elim)).trans e3, fun k hk => ⟨(e4 k hk).1, (e4 k hk).2.imp id (fun e => by have := hc.size; have := hca.size; simp at e; omega)⟩⟩⟩
    clear hi hz hs hby hpl
    have FIN : Aside0 (∀ (a : Act) (v' : Value) (w2 : World), w2.heap[B + 1 + 1]? = some (.cells #[v] 46 (0, 0)) → Row w2 B 3 v' (valsL D F (pre ++ [x])) → Chg (fun k => v.ownBlock = some k) V3 w2 → (∀ k, v'.ownBlock = some k → k < w2.heap.size ∧ (v.ownBlock = some k ∨ V3.heap.size ≤ k)) →
        roundQ (Ok w0 D A4 c4 A5 c5 but mp b (B + 1 + 1 + 1)) (fun pre Fp V => ∃ v, Fp = (fun k => k = B + 1 + 1 ∨ v.ownBlock = some k) ∧ V.heap[B]? = some (.cells #[.func (.func f) #[] #[]] 127 (0, 0)) ∧ V.heap[B + 1]? = some (.cells #[.int .i64 0, .int .i64 0] 23 (0, 0)) ∧
      V.heap[B + 1 + 1]? = some (.cells #[v] 46 (0, 0)) ∧ Row V B 3 v (valsL D F pre) ∧ Chg (fun k => k = mp) W V)
        (fun c pre V => False) (fun k => k = B + 1 + 1 ∨ v.ownBlock = some k) (pre ++ [x]) V3 .normal a (w2.setCell ⟨B + 1 + 1, 0, none⟩ v')) := ⟨by
      intro a v' w2 hl hr hc ho
      have hS := (Chg.refl (fun k => k = B + 1 + 1) w2).setCell (p := ⟨B + 1 + 1, 0, none⟩) (fun _ => rfl) v'
      have hT : Chg (fun k => k = B + 1 + 1 ∨ v.ownBlock = some k) V3 (w2.setCell ⟨B + 1 + 1, 0, none⟩ v') := (hc.mono (fun k _ e => .inr e)).trans (hS.mono (fun k _ e => .inl e))
      have hn := hr.ne hl (by decide)
      refine ⟨_, ⟨v', rfl, hT.heap H2.out ?_, hT.heap H3.out ?_, blk_set hl 0 _, hr.chg hS (fun k hk e => hn (e ▸ hk)), H6.out.then_ hT ?_⟩, hT, HK.out.chg hT ?_, ?_⟩
      · rintro (e | e)
        · omega
        · have := HN.out _ e; omega
      · rintro (e | e)
        · omega
        · have := HN.out _ e; omega
      · rintro k hk (e | e)
        · omega
        · have := HN.out _ e; omega
      · rintro k (e | e)
        · omega
        · have := HN.out _ e; omega
      · rintro k (e | e)
        · exact ⟨by have := blk_lt (blk_set hl 0 v'); omega, fun _ => .inl e⟩
        · have := ho k e
          exact ⟨by have := hS.size; omega, fun h => .inr (this.2.resolve_right (by omega))⟩⟩
    gi_wp2
    gi_region_with_o (refine ⟨trivial, rfl, ?_⟩; refine (CallsIn.inRound l (callsIn_wide.2 (HQ.out.calls x.1 x.2 gx _ HG0.out))).mono ?_; rintro e w1 ⟨rfl, hcw⟩; have hcc := (Chg.refl (fun _ => False) V3).drew.trans hcw; have a0' := hcc.cell a0 id; have a0'' := (hcc.alloc (.cells #[.int .i64 (F x.1 gx)] 3)).cell a0 id; obtain ⟨v', w2, hap, hl2, hr2, hc2, ho2⟩ := HAP.out _ hcc; obtain ⟨A', c', rfl, hcap⟩ := hr2.shape; clear hcap; have b0 : w2.cell? ⟨B + 1 + 1, 0, none⟩ = some v := (blk_cell hl2 0).trans rfl; have bf := blk_frozen hl2 0; have bl := blk_lt hl2; have HL2 := Aside0.mk hl2; have HR2 := Aside0.mk hr2; have HC2 := Aside0.mk hc2; have HO2 := Aside0.mk ho2; clear hl2 hr2 hc2 ho2 hcc hcw)
    all_goals
      gi_wp2
      exact FIN.out _ _ _ HL2.out HR2.out HC2.out HO2.out
  · rintro Fp V ⟨v, rfl, h2, h3, h4, h5, h6⟩ hok hfD hD hsz
    obtain ⟨A, c, rfl, hcap⟩ := h5.shape
    have hle : (valsL D F (truthsL D but)).length ≤ 1664 := by
      have h2 := truthsL_len hV but
      simp [valsL]; omega
    have hpos : 0 < (valsL D F (truthsL D but)).length := by
      have := List.length_pos_iff.2 HNE.out
      simpa [valsL] using this
    have HRD := Aside0.mk (Kd.C_drew (h5.read rfl (by omega)))
    have H3 := Aside0.mk h3
    have H6 := Aside0.mk h6
    have HK := Aside0.mk hok
    have HD := Aside0.mk hD
    have a0 : V.cell? ⟨B + 1 + 1, 0, none⟩ = some (.slice A (valsL D F (truthsL D but)).length c) := (blk_cell h4 0).trans rfl
    have b0 : V.cell? ⟨B + 1, 0, none⟩ = some (.int .i64 0) := (blk_cell h3 0).trans rfl
    have b1 : V.cell? ⟨B + 1, 1, none⟩ = some (.int .i64 0) := (blk_cell h3 1).trans rfl
    have f0 := blk_frozen h3 0
    have f1 := blk_frozen h3 1
    have l3 := blk_lt h3
    have l4 := blk_lt h4
    have HS := Aside0.mk h5.lt
    clear h2 h3 h4 h5 h6 hok hfD hD hcap
    have hmix : Try.prog.follows .mixedOrders = true := by kernel_rfl
    obtain ⟨L, hL⟩ : ∃ L, valsL D F (truthsL D but) = L := ⟨_, rfl⟩
    have HL := Aside0.mk hL
    rw [hL] at a0 HRD hpos hle HS
    clear hL
    gi_wp2
    refine wpIn_calm ?_
    gi_region_with_o (refine ⟨trivial, rfl, ?_⟩; first | (gi_at_call 120; refine (callsIn_wide.2 (minI_calls L A c _ hpos HRD.out)).mono ?_; rintro e w1 ⟨rfl, rfl⟩) | (gi_at_call 121; refine (callsIn_wide.2 (maxI_calls L A c _ hpos HRD.out)).mono ?_; rintro e w1 ⟨rfl, rfl⟩))
    all_goals
      dsimp only [calm]
      gi_wp2
      have HB := Aside0.mk (blk_drew (blk_set (blk_set H3.out 0 (.int .i64 (minL L))) 1 (.int .i64 (maxL L))))
      have HC : Aside0 (Chg (fun k => k = B + 1) V ((V.setCell ⟨B + 1, 0, none⟩ (.int .i64 (minL L))).setCell ⟨B + 1, 1, none⟩ (.int .i64 (maxL L))).drew) := ⟨(((Chg.refl (fun k => k = B + 1) V).setCell (p := ⟨B + 1, 0, none⟩) (fun _ => rfl) _).setCell (p := ⟨B + 1, 1, none⟩) (fun _ => rfl) _).drew⟩
      generalize ((V.setCell ⟨B + 1, 0, none⟩ (.int .i64 (minL L))).setCell ⟨B + 1, 1, none⟩ (.int .i64 (maxL L))).drew = V2 at HB HC ⊢
      have z9 := blk_lt HB.out
      have HD2 := Aside0.mk (HC.out.heap HD.out (by omega))
      have HC2 := Aside0.mk ((HC.out.mono (S' := fun k => k = B + 1 ∨ k = V1.heap.size) (fun k _ e => .inl e)).putObj (l := V1.heap.size) (fun _ => .inr rfl) (.deferred none))
      refine leave_mark HD2.out (v := .agg #[.int .i64 (minL L), .int .i64 (maxL L)]) (results_cell_row rfl _ _ (B + 1) 23 _ (0, 0) _ rfl ((World.putObj_heap_other (by omega)).trans HB.out) Try.underlying23 rfl info23s) ⟨by rw [HL.out], H6.out.then_ HC2.out (fun k hk e => by omega), HK.out.s.chg HC2.out (fun k e => by omega)⟩
end Go.Proofs.Ytemeapfnfegkiaa.D
end
section
/- Package disk: the closures that hull asks, Counts, Number, Near. -/
namespace Go.Proofs.Ytemeapfnfegkiaa.D
open Go Go.RowKit Go.Proofs.YtemeapfnfegkiaaK Go.Proofs.YtemeapfnfegkiaaW.PrintWords Go.Proofs.YtemeapfnfegkiaaW.PrintLast Go.Proofs.YtemeapfnfegkiaaW.PrintMore Go.Proofs.Ytemeapfnfegkiaa.PR
set_option linter.unusedVariables false
set_option linter.unusedSimpArgs false

theorem enters100 (args : Array Value) (w : World) : (callFunc 100 args).run Try.prog w = .ok (.enter 100 args) w := enters_of Try.func100 (by kernel_rfl) rfl args w
theorem enters101 (args : Array Value) (w : World) : (callFunc 101 args).run Try.prog w = .ok (.enter 101 args) w := enters_of Try.func101 (by kernel_rfl) rfl args w
theorem enters103 (args : Array Value) (w : World) : (callFunc 103 args).run Try.prog w = .ok (.enter 103 args) w := enters_of Try.func103 (by kernel_rfl) rfl args w
theorem enters104 (args : Array Value) (w : World) : (callFunc 104 args).run Try.prog w = .ok (.enter 104 args) w := enters_of Try.func104 (by kernel_rfl) rfl args w

theorem manyVals : Vals 100 (fun _ g => manyF g) where
  enters := enters100
  calls := fun n s g V _ => many_calls _ _ g V
theorem spotsVals : Vals 101 (fun _ g => spotsTo g 7) where
  enters := enters101
  calls := fun n s g V hg => spots_calls _ _ g V (fun k _ => (hg k).1)
theorem nearVals : Vals 104 (fun n _ => n) where
  enters := enters104
  calls := fun n s g V _ => by
    go_enter Try.func104, Try.ntmps104
    go_wp2
    go_ret
    exact ⟨rfl, ((Chg.refl _ V).alloc _).alloc _⟩

theorem wrapI {n : Int} (h0 : -9223372036854775808 ≤ n) (h1 : n ≤ 9223372036854775807) : IntKind.i64.wrap n = n := by
  simp [IntKind.wrap, IntKind.bits, IntKind.signed]; omega
theorem manyF_in {g : Nat → Int} (hg : ∀ k, 0 ≤ g k ∧ g k ≤ 7) : 0 ≤ manyF g ∧ manyF g ≤ 7 := by
  have h0 := hg 0; have h1 := hg 1; have h2 := hg 2; have h3 := hg 3; have h4 := hg 4; have h5 := hg 5; have h6 := hg 6
  unfold manyF maxL foldL
  simp only [List.foldl]
  omega
theorem spotsTo_in {g : Nat → Int} (hg : ∀ k, 0 ≤ g k ∧ g k ≤ 7) (k : Nat) : 0 ≤ spotsTo g k ∧ spotsTo g k ≤ k := by
  induction k with
  | zero => simp [spotsTo]
  | succ k ih => have := hg k; unfold spotsTo; omega

set_option maxRecDepth 100000 in
set_option maxHeartbeats 1000000 in
theorem NumberC_calls (n : Int) (s : Nat) (g : Nat → Int) (w : World) (hg : ∀ k, 0 ≤ g k ∧ g k ≤ 7) : Calls Try.prog 103 #[.agg #[.int .i64 n, .int .i64 s], .agg (vec g)] w fun e w' => e = .returned (.int .i64 (10 * manyF g + spotsTo g 7)) ∧ Chg (fun _ => False) w w' := by
  go_enter Try.func103, Try.ntmps103
  go_upto_region 1 with (fail)
  have HX : Aside0 (((w.alloc (.cells #[.int .i64 n, .int .i64 s] 130)).alloc (.cells (vec g) 118)).heap[w.heap.size + 1]? = some (.cells (vec g) 118 (0, 0))) := ⟨new_at (by simp) _⟩
  have HY : Aside0 (((w.alloc (.cells #[.int .i64 n, .int .i64 s] 130)).alloc (.cells (vec g) 118)).heap[w.heap.size]? = some (.cells #[.int .i64 n, .int .i64 s] 130 (0, 0))) := ⟨blk_alloc (blk_new _ _) _⟩
  have HC : Aside0 (Chg (fun _ => False) w ((w.alloc (.cells #[.int .i64 n, .int .i64 s] 130)).alloc (.cells (vec g) 118))) := ⟨((Chg.refl _ w).alloc _).alloc _⟩
  generalize ((w.alloc (.cells #[.int .i64 n, .int .i64 s] 130)).alloc (.cells (vec g) 118)) = W1 at HX HY HC ⊢
  obtain ⟨Bx, hBx⟩ : ∃ Bx, w.heap.size = Bx := ⟨_, rfl⟩
  rw [hBx] at HX HY ⊢
  clear hBx
  have lx := blk_lt HX.out
  have x0 : W1.cell? ⟨Bx + 1, 0, none⟩ = some (.int .i64 (g 0)) := (blk_cell HX.out 0).trans rfl
  have x1 : W1.cell? ⟨Bx + 1, 1, none⟩ = some (.int .i64 (g 1)) := (blk_cell HX.out 1).trans rfl
  have x2 : W1.cell? ⟨Bx + 1, 2, none⟩ = some (.int .i64 (g 2)) := (blk_cell HX.out 2).trans rfl
  have x3 : W1.cell? ⟨Bx + 1, 3, none⟩ = some (.int .i64 (g 3)) := (blk_cell HX.out 3).trans rfl
  have x4 : W1.cell? ⟨Bx + 1, 4, none⟩ = some (.int .i64 (g 4)) := (blk_cell HX.out 4).trans rfl
  have x5 : W1.cell? ⟨Bx + 1, 5, none⟩ = some (.int .i64 (g 5)) := (blk_cell HX.out 5).trans rfl
  have x6 : W1.cell? ⟨Bx + 1, 6, none⟩ = some (.int .i64 (g 6)) := (blk_cell HX.out 6).trans rfl
  have y0 : W1.cell? ⟨Bx, 0, none⟩ = some (.int .i64 n) := (blk_cell HY.out 0).trans rfl
  have y1 : W1.cell? ⟨Bx, 1, none⟩ = some (.int .i64 s) := (blk_cell HY.out 1).trans rfl
  have hm := manyF_in hg
  have hs := spotsTo_in hg 7
  obtain ⟨m, hm'⟩ : ∃ m, manyF g = m := ⟨_, rfl⟩
  obtain ⟨t, ht'⟩ : ∃ t, spotsTo g 7 = t := ⟨_, rfl⟩
  have HM := Aside0.mk hm'
  have HT := Aside0.mk ht'
  have HG := Aside0.mk hg
  rw [hm'] at hm
  rw [ht'] at hs
  clear hm' ht' hg
  go_wp2
  go_region_held3 (fun w' : World => w'.cell? ⟨Bx + 1, 0, none⟩ = some (.int .i64 (g 0)) ∧ w'.cell? ⟨Bx + 1, 1, none⟩ = some (.int .i64 (g 1)) ∧ w'.cell? ⟨Bx + 1, 2, none⟩ = some (.int .i64 (g 2)) ∧ w'.cell? ⟨Bx + 1, 3, none⟩ = some (.int .i64 (g 3)) ∧ w'.cell? ⟨Bx + 1, 4, none⟩ = some (.int .i64 (g 4)) ∧ w'.cell? ⟨Bx + 1, 5, none⟩ = some (.int .i64 (g 5)) ∧ w'.cell? ⟨Bx + 1, 6, none⟩ = some (.int .i64 (g 6)) ∧ w'.cell? ⟨Bx, 0, none⟩ = some (.int .i64 n) ∧ w'.cell? ⟨Bx, 1, none⟩ = some (.int .i64 s)) (simp [*]) (first | (go_at_call 100; refine (many_calls (.int .i64 n) (.int .i64 s) g _).mono ?_; rw [HM.out]; rintro e w1 ⟨rfl, hc1⟩; have HC1 := Aside0.mk hc1; have x0a := hc1.cell x0 id; have x1a := hc1.cell x1 id; have x2a := hc1.cell x2 id; have x3a := hc1.cell x3 id; have x4a := hc1.cell x4 id; have x5a := hc1.cell x5 id; have x6a := hc1.cell x6 id; have y0a := hc1.cell y0 id; have y1a := hc1.cell y1 id; clear hc1) | (go_at_call 101; refine (spots_calls (.int .i64 n) (.int .i64 s) g _ (fun k _ => (HG.out k).1)).mono ?_; rw [HT.out]; rintro e w2 ⟨rfl, hc2⟩; have HC2 := Aside0.mk hc2; have x0b := hc2.cell x0a id; have x1b := hc2.cell x1a id; have x2b := hc2.cell x2a id; have x3b := hc2.cell x3a id; have x4b := hc2.cell x4a id; have x5b := hc2.cell x5a id; have x6b := hc2.cell x6a id; have y0b := hc2.cell y0a id; have y1b := hc2.cell y1a id; clear hc2))
  go_wp2
  go_ret
  have e1 : IntKind.i64.wrap (10 * m) = 10 * m := wrapI (by omega) (by omega)
  have e2 : IntKind.i64.wrap (10 * m + t) = 10 * m + t := wrapI (by omega) (by omega)
  exact ⟨by rw [HM.out, HT.out]; exact congrArg (fun x => Ending.returned (Value.int .i64 x)) (by rw [e1, e2]), HC.out.trans ((Chg.refl _ W1).drew.trans (HC1.out.trans HC2.out))⟩
theorem numberVals : Vals 103 (fun _ g => 10 * manyF g + spotsTo g 7) where
  enters := enters103
  calls := fun n s g V hg => NumberC_calls n s g V hg

theorem results_row_tmp {P : Program} {fn : Func} {p q : Tmp} {ty : TypeId} (h : fn.results = #[.cell p ty, .tmp q]) (tmps : Array Value) (w : World) (g : Nat) (t : TypeId) (cs : Array Value) (fr : Nat × Nat) (d : TypeDesc) (v : Value)
    (hp : tmps.getD p undef = .pointer (some ⟨g, 0, none⟩)) (hg : w.heap[g]? = some (.cells cs t fr))
    (hu : P.underlying ty = some d) (hd : (match d with | .struct _ | .array _ _ => true | _ => false) = true) (hi : (P.info? ty).map (·.size) = some cs.size) (hv : tmps.getD q undef = v) :
    (results fn tmps).run P w = .ok (.tuple #[.agg cs, v]) w := by
  have hp' : tmps[p]?.getD undef = .pointer (some ⟨g, 0, none⟩) := by simpa using hp
  have hv' : tmps[q]?.getD undef = v := by simpa using hv
  simp [results, h, hp', hv', asAddr, run_loadVar_row w g t ty cs fr d hg hu hd hi]
theorem results_row2_tmp {P : Program} {fn : Func} {p p' q : Tmp} {ty : TypeId} (h : fn.results = #[.cell p ty, .cell p' ty, .tmp q]) (tmps : Array Value) (w : World) (g g' : Nat) (t : TypeId) (cs cs' : Array Value) (fr fr' : Nat × Nat) (d : TypeDesc) (v : Value)
    (hp : tmps.getD p undef = .pointer (some ⟨g, 0, none⟩)) (hp' : tmps.getD p' undef = .pointer (some ⟨g', 0, none⟩)) (hg : w.heap[g]? = some (.cells cs t fr)) (hg' : w.heap[g']? = some (.cells cs' t fr'))
    (hu : P.underlying ty = some d) (hd : (match d with | .struct _ | .array _ _ => true | _ => false) = true) (hi : (P.info? ty).map (·.size) = some cs.size) (hi' : (P.info? ty).map (·.size) = some cs'.size) (hv : tmps.getD q undef = v) :
    (results fn tmps).run P w = .ok (.tuple #[.agg cs, .agg cs', v]) w := by
  have h1 : tmps[p]?.getD undef = .pointer (some ⟨g, 0, none⟩) := by simpa using hp
  have h1' : tmps[p']?.getD undef = .pointer (some ⟨g', 0, none⟩) := by simpa using hp'
  have hv' : tmps[q]?.getD undef = v := by simpa using hv
  simp [results, h, h1, h1', hv', asAddr, run_loadVar_row w g t ty cs fr d hg hu hd hi, run_loadVar_row w g' t ty cs' fr' d hg' hu hd hi']

def spanF (D : Dat) (F : Int → (Nat → Int) → Int) : Int × Int := if enterE D [] = 0 then (minL (valsL D F (truthsL D 0)), maxL (valsL D F (truthsL D 0))) else (0, 0)

set_option maxHeartbeats 1000000 in
theorem Near_calls (D : Dat) (A4 : Option Addr) (c4 : Nat) (A5 : Option Addr) (c5 : Nat) (w : World) (h : Arg w D A4 c4 A5 c5) :
    Calls Try.prog 31 #[.agg #[.string D.nm, .int .i64 D.rad, .int .i64 D.lo, .int .i64 D.hi, .slice A4 D.spots.length c4, .slice A5 D.told.length c5]] w
      fun e w' => e = .returned (.tuple #[.agg #[.int .i64 (spanF D (fun n _ => n)).1, .int .i64 (spanF D (fun n _ => n)).2], .int .i64 (enterE D [])]) ∧ Below w.heap.size w w' := by
  have hb3 := below_alloc (below_alloc (Below.refl w.heap.size w) (.cells #[.string D.nm, .int .i64 D.rad, .int .i64 D.lo, .int .i64 D.hi, .slice A4 D.spots.length c4, .slice A5 D.told.length c5] 27)) (.cells #[.int .i64 0, .int .i64 0] 23)
  have HB3 := Aside0.mk hb3
  have HA3 := Aside0.mk (h.below hb3)
  have HD3 : Aside0 (((w.alloc (.cells #[.string D.nm, .int .i64 D.rad, .int .i64 D.lo, .int .i64 D.hi, .slice A4 D.spots.length c4, .slice A5 D.told.length c5] 27)).alloc (.cells #[.int .i64 0, .int .i64 0] 23)).heap[w.heap.size + 1]? = some (.cells #[.int .i64 0, .int .i64 0] 23 (0, 0))) := ⟨new_at (by simp) _⟩
  clear hb3 h
  obtain ⟨r, hr⟩ : ∃ r, spanF D (fun n _ => n) = r := ⟨_, rfl⟩
  have HF := Aside0.mk hr
  rw [hr]
  clear hr
  go_enter Try.func31, Try.ntmps31
  go_wp2_with fail
  generalize hW : (w.alloc (.cells #[.string D.nm, .int .i64 D.rad, .int .i64 D.lo, .int .i64 D.hi, .slice A4 D.spots.length c4, .slice A5 D.told.length c5] 27)).alloc (.cells #[.int .i64 0, .int .i64 0] 23) = W3 at HB3 HA3 HD3 ⊢
  clear hW
  refine (enter_calls D A4 c4 A5 c5 [] none 0 W3 HA3.out (by exact ⟨rfl, by simp, fun h => absurd h (by simp)⟩)).mono ?_
  rintro e w1 ⟨v, rfl, hb1, hs1⟩
  have HB1 := Aside0.mk (HB3.out.trans (hb1.mono HB3.out.size))
  have HD1 := Aside0.mk (blk_below HD3.out hb1)
  have HS1 := Aside0.mk hs1
  have b0 : w1.cell? ⟨w.heap.size + 1, 0, none⟩ = some (.int .i64 0) := (blk_cell HD1.out 0).trans rfl
  have b1 : w1.cell? ⟨w.heap.size + 1, 1, none⟩ = some (.int .i64 0) := (blk_cell HD1.out 1).trans rfl
  have f0 := blk_frozen HD1.out 0
  have f1 := blk_frozen HD1.out 1
  have lb1 := blk_lt HD1.out
  clear hb1 hs1
  obtain ⟨en, hen⟩ : ∃ en, enterE D [] = en := ⟨_, rfl⟩
  have HEN := Aside0.mk hen
  rw [hen]
  clear hen
  by_cases h0 : en = 0
  · subst h0
    obtain ⟨mp, b, rfl, hsh⟩ := HS1.out HEN.out
    obtain ⟨hV, _, _, hne, _⟩ := enterE_ok HEN.out
    have HV := Aside0.mk hV
    have HN : Aside0 (truthsL D 0 ≠ []) := ⟨by intro e; rw [e] at hne; simp at hne⟩
    have HSH := Aside0.mk hsh
    clear hsh hV hne HS1 b0 b1 f0 f1
    have hmp : w.heap.size + 1 ≠ mp := by have := HSH.out.gm; have := blk_lt HD3.out; omega
    have hr : r = (minL (valsL D (fun n _ => n) (truthsL D 0)), maxL (valsL D (fun n _ => n) (truthsL D 0))) := by rw [← HF.out, spanF, if_pos HEN.out]
    subst hr
    go_wp2_with (go_at_call 99; refine (hull_calls W3 w1 D A4 c4 A5 c5 0 mp b 104 (fun n _ => n) HA3.out HV.out (by decide) HSH.out nearVals HN.out).mono ?_; rintro e w2 ⟨rfl, hc2, hs2⟩; have HC2 := Aside0.mk hc2; have hd2 := hc2.heap HD1.out hmp; have HD2 := Aside0.mk hd2; have b0 : w2.cell? ⟨w.heap.size + 1, 0, none⟩ = some (.int .i64 0) := (blk_cell hd2 0).trans rfl; have b1 : w2.cell? ⟨w.heap.size + 1, 1, none⟩ = some (.int .i64 0) := (blk_cell hd2 1).trans rfl; have f0 := blk_frozen hd2 0; have f1 := blk_frozen hd2 1; have lb2 := blk_lt hd2; clear hc2 hs2 hd2)
    have HB2 := Aside0.mk (HB1.out.trans (HC2.out.below (fun k hk e => by have := HSH.out.gm; have := HB3.out.size; omega) HB1.out.size))
    refine bodyPost_ret (v := .tuple #[.agg #[.int .i64 (minL (valsL D (fun n _ => n) (truthsL D 0))), .int .i64 (maxL (valsL D (fun n _ => n) (truthsL D 0)))], .int .i64 0]) (results_row_tmp rfl _ _ (w.heap.size + 1) 23 _ (0, 0) _ _ rfl (blk_set (blk_set HD2.out 0 _) 1 _) Try.underlying23 rfl info23s rfl) rfl
      ⟨by rw [HEN.out], below_set (below_set HB2.out (by simp)) (by simp)⟩
  · have hr : r = (0, 0) := by rw [← HF.out, spanF, HEN.out, if_neg h0]
    subst hr
    go_wp2
    refine bodyPost_ret (v := .tuple #[.agg #[.int .i64 0, .int .i64 0], .int .i64 en]) (results_row_tmp rfl _ _ (w.heap.size + 1) 23 _ (0, 0) _ _ rfl (blk_set (blk_set HD1.out 0 _) 1 _) Try.underlying23 rfl info23s rfl) rfl
      ⟨by rw [HEN.out], below_set (below_set HB1.out (by simp)) (by simp)⟩

set_option maxHeartbeats 1000000 in
theorem Number_calls (D : Dat) (A4 : Option Addr) (c4 : Nat) (A5 : Option Addr) (c5 : Nat) (w : World) (h : Arg w D A4 c4 A5 c5) :
    Calls Try.prog 29 #[.agg #[.string D.nm, .int .i64 D.rad, .int .i64 D.lo, .int .i64 D.hi, .slice A4 D.spots.length c4, .slice A5 D.told.length c5]] w
      fun e w' => e = .returned (.tuple #[.agg #[.int .i64 (spanF D (fun _ g => 10 * manyF g + spotsTo g 7)).1, .int .i64 (spanF D (fun _ g => 10 * manyF g + spotsTo g 7)).2], .int .i64 (enterE D [])]) ∧ Below w.heap.size w w' := by
  have hb3 := below_alloc (below_alloc (Below.refl w.heap.size w) (.cells #[.string D.nm, .int .i64 D.rad, .int .i64 D.lo, .int .i64 D.hi, .slice A4 D.spots.length c4, .slice A5 D.told.length c5] 27)) (.cells #[.int .i64 0, .int .i64 0] 23)
  have HB3 := Aside0.mk hb3
  have HA3 := Aside0.mk (h.below hb3)
  have HD3 : Aside0 (((w.alloc (.cells #[.string D.nm, .int .i64 D.rad, .int .i64 D.lo, .int .i64 D.hi, .slice A4 D.spots.length c4, .slice A5 D.told.length c5] 27)).alloc (.cells #[.int .i64 0, .int .i64 0] 23)).heap[w.heap.size + 1]? = some (.cells #[.int .i64 0, .int .i64 0] 23 (0, 0))) := ⟨new_at (by simp) _⟩
  clear hb3 h
  obtain ⟨r, hr⟩ : ∃ r, spanF D (fun _ g => 10 * manyF g + spotsTo g 7) = r := ⟨_, rfl⟩
  have HF := Aside0.mk hr
  rw [hr]
  clear hr
  go_enter Try.func29, Try.ntmps29
  go_wp2_with fail
  generalize hW : (w.alloc (.cells #[.string D.nm, .int .i64 D.rad, .int .i64 D.lo, .int .i64 D.hi, .slice A4 D.spots.length c4, .slice A5 D.told.length c5] 27)).alloc (.cells #[.int .i64 0, .int .i64 0] 23) = W3 at HB3 HA3 HD3 ⊢
  clear hW
  refine (enter_calls D A4 c4 A5 c5 [] none 0 W3 HA3.out (by exact ⟨rfl, by simp, fun h => absurd h (by simp)⟩)).mono ?_
  rintro e w1 ⟨v, rfl, hb1, hs1⟩
  have HB1 := Aside0.mk (HB3.out.trans (hb1.mono HB3.out.size))
  have HD1 := Aside0.mk (blk_below HD3.out hb1)
  have HS1 := Aside0.mk hs1
  have b0 : w1.cell? ⟨w.heap.size + 1, 0, none⟩ = some (.int .i64 0) := (blk_cell HD1.out 0).trans rfl
  have b1 : w1.cell? ⟨w.heap.size + 1, 1, none⟩ = some (.int .i64 0) := (blk_cell HD1.out 1).trans rfl
  have f0 := blk_frozen HD1.out 0
  have f1 := blk_frozen HD1.out 1
  have lb1 := blk_lt HD1.out
  clear hb1 hs1
  obtain ⟨en, hen⟩ : ∃ en, enterE D [] = en := ⟨_, rfl⟩
  have HEN := Aside0.mk hen
  rw [hen]
  clear hen
  by_cases h0 : en = 0
  · subst h0
    obtain ⟨mp, b, rfl, hsh⟩ := HS1.out HEN.out
    obtain ⟨hV, _, _, hne, _⟩ := enterE_ok HEN.out
    have HV := Aside0.mk hV
    have HN : Aside0 (truthsL D 0 ≠ []) := ⟨by intro e; rw [e] at hne; simp at hne⟩
    have HSH := Aside0.mk hsh
    clear hsh hV hne HS1 b0 b1 f0 f1
    have hmp : w.heap.size + 1 ≠ mp := by have := HSH.out.gm; have := blk_lt HD3.out; omega
    have hr : r = (minL (valsL D (fun _ g => 10 * manyF g + spotsTo g 7) (truthsL D 0)), maxL (valsL D (fun _ g => 10 * manyF g + spotsTo g 7) (truthsL D 0))) := by rw [← HF.out, spanF, if_pos HEN.out]
    subst hr
    go_wp2_with (go_at_call 99; refine (hull_calls W3 w1 D A4 c4 A5 c5 0 mp b 103 (fun _ g => 10 * manyF g + spotsTo g 7) HA3.out HV.out (by decide) HSH.out numberVals HN.out).mono ?_; rintro e w2 ⟨rfl, hc2, hs2⟩; have HC2 := Aside0.mk hc2; have hd2 := hc2.heap HD1.out hmp; have HD2 := Aside0.mk hd2; have b0 : w2.cell? ⟨w.heap.size + 1, 0, none⟩ = some (.int .i64 0) := (blk_cell hd2 0).trans rfl; have b1 : w2.cell? ⟨w.heap.size + 1, 1, none⟩ = some (.int .i64 0) := (blk_cell hd2 1).trans rfl; have f0 := blk_frozen hd2 0; have f1 := blk_frozen hd2 1; have lb2 := blk_lt hd2; clear hc2 hs2 hd2)
    have HB2 := Aside0.mk (HB1.out.trans (HC2.out.below (fun k hk e => by have := HSH.out.gm; have := HB3.out.size; omega) HB1.out.size))
    refine bodyPost_ret (v := .tuple #[.agg #[.int .i64 (minL (valsL D (fun _ g => 10 * manyF g + spotsTo g 7) (truthsL D 0))), .int .i64 (maxL (valsL D (fun _ g => 10 * manyF g + spotsTo g 7) (truthsL D 0)))], .int .i64 0]) (results_row_tmp rfl _ _ (w.heap.size + 1) 23 _ (0, 0) _ _ rfl (blk_set (blk_set HD2.out 0 _) 1 _) Try.underlying23 rfl info23s rfl) rfl
      ⟨by rw [HEN.out], below_set (below_set HB2.out (by simp)) (by simp)⟩
  · have hr : r = (0, 0) := by rw [← HF.out, spanF, HEN.out, if_neg h0]
    subst hr
    go_wp2
    refine bodyPost_ret (v := .tuple #[.agg #[.int .i64 0, .int .i64 0], .int .i64 en]) (results_row_tmp rfl _ _ (w.heap.size + 1) 23 _ (0, 0) _ _ rfl (blk_set (blk_set HD1.out 0 _) 1 _) Try.underlying23 rfl info23s rfl) rfl
      ⟨by rw [HEN.out], below_set (below_set HB1.out (by simp)) (by simp)⟩
end Go.Proofs.Ytemeapfnfegkiaa.D
end
section
/- Package disk: Counts. -/
namespace Go.Proofs.Ytemeapfnfegkiaa.D
open Go Go.RowKit Go.Proofs.YtemeapfnfegkiaaK Go.Proofs.YtemeapfnfegkiaaW.PrintWords Go.Proofs.YtemeapfnfegkiaaW.PrintLast Go.Proofs.YtemeapfnfegkiaaW.PrintMore Go.Proofs.Ytemeapfnfegkiaa.PR
set_option linter.unusedVariables false
set_option linter.unusedSimpArgs false

set_option maxHeartbeats 1000000 in
theorem Counts_calls (D : Dat) (A4 : Option Addr) (c4 : Nat) (A5 : Option Addr) (c5 : Nat) (w : World) (h : Arg w D A4 c4 A5 c5) :
    Calls Try.prog 27 #[.agg #[.string D.nm, .int .i64 D.rad, .int .i64 D.lo, .int .i64 D.hi, .slice A4 D.spots.length c4, .slice A5 D.told.length c5]] w
      fun e w' => e = .returned (.tuple #[.agg #[.int .i64 (spanF D (fun _ g => manyF g)).1, .int .i64 (spanF D (fun _ g => manyF g)).2], .agg #[.int .i64 (spanF D (fun _ g => spotsTo g 7)).1, .int .i64 (spanF D (fun _ g => spotsTo g 7)).2], .int .i64 (enterE D [])]) ∧ Below w.heap.size w w' := by
  have hb3 := below_alloc (below_alloc (below_alloc (Below.refl w.heap.size w) (.cells #[.string D.nm, .int .i64 D.rad, .int .i64 D.lo, .int .i64 D.hi, .slice A4 D.spots.length c4, .slice A5 D.told.length c5] 27)) (.cells #[.int .i64 0, .int .i64 0] 23)) (.cells #[.int .i64 0, .int .i64 0] 23)
  have HB3 := Aside0.mk hb3
  have HA3 := Aside0.mk (h.below hb3)
  have HD3 : Aside0 ((((w.alloc (.cells #[.string D.nm, .int .i64 D.rad, .int .i64 D.lo, .int .i64 D.hi, .slice A4 D.spots.length c4, .slice A5 D.told.length c5] 27)).alloc (.cells #[.int .i64 0, .int .i64 0] 23)).alloc (.cells #[.int .i64 0, .int .i64 0] 23)).heap[w.heap.size + 1]? = some (.cells #[.int .i64 0, .int .i64 0] 23 (0, 0))) := ⟨blk_alloc (new_at (by simp) _) _⟩
  have HE3 : Aside0 ((((w.alloc (.cells #[.string D.nm, .int .i64 D.rad, .int .i64 D.lo, .int .i64 D.hi, .slice A4 D.spots.length c4, .slice A5 D.told.length c5] 27)).alloc (.cells #[.int .i64 0, .int .i64 0] 23)).alloc (.cells #[.int .i64 0, .int .i64 0] 23)).heap[w.heap.size + 1 + 1]? = some (.cells #[.int .i64 0, .int .i64 0] 23 (0, 0))) := ⟨new_at (by simp) _⟩
  clear hb3 h
  obtain ⟨r, hr⟩ : ∃ r, spanF D (fun _ g => manyF g) = r := ⟨_, rfl⟩
  obtain ⟨t, ht⟩ : ∃ t, spanF D (fun _ g => spotsTo g 7) = t := ⟨_, rfl⟩
  have HF := Aside0.mk hr
  have HG := Aside0.mk ht
  rw [hr, ht]
  clear hr ht
  go_enter Try.func27, Try.ntmps27
  go_wp2_with fail
  generalize hW : ((w.alloc (.cells #[.string D.nm, .int .i64 D.rad, .int .i64 D.lo, .int .i64 D.hi, .slice A4 D.spots.length c4, .slice A5 D.told.length c5] 27)).alloc (.cells #[.int .i64 0, .int .i64 0] 23)).alloc (.cells #[.int .i64 0, .int .i64 0] 23) = W3 at HB3 HA3 HD3 HE3 ⊢
  clear hW
  refine (enter_calls D A4 c4 A5 c5 [] none 0 W3 HA3.out (by exact ⟨rfl, by simp, fun h => absurd h (by simp)⟩)).mono ?_
  rintro e w1 ⟨v, rfl, hb1, hs1⟩
  have HB1 := Aside0.mk (HB3.out.trans (hb1.mono HB3.out.size))
  have HD1 := Aside0.mk (blk_below HD3.out hb1)
  have HE1 := Aside0.mk (blk_below HE3.out hb1)
  have HS1 := Aside0.mk hs1
  have b0 : w1.cell? ⟨w.heap.size + 1, 0, none⟩ = some (.int .i64 0) := (blk_cell HD1.out 0).trans rfl
  have b1 : w1.cell? ⟨w.heap.size + 1, 1, none⟩ = some (.int .i64 0) := (blk_cell HD1.out 1).trans rfl
  have f0 := blk_frozen HD1.out 0
  have f1 := blk_frozen HD1.out 1
  have lb1 := blk_lt HD1.out
  have d0 : w1.cell? ⟨w.heap.size + 1 + 1, 0, none⟩ = some (.int .i64 0) := (blk_cell HE1.out 0).trans rfl
  have d1 : w1.cell? ⟨w.heap.size + 1 + 1, 1, none⟩ = some (.int .i64 0) := (blk_cell HE1.out 1).trans rfl
  have g0 := blk_frozen HE1.out 0
  have g1 := blk_frozen HE1.out 1
  have ld1 := blk_lt HE1.out
  clear hb1 hs1
  obtain ⟨en, hen⟩ : ∃ en, enterE D [] = en := ⟨_, rfl⟩
  have HEN := Aside0.mk hen
  rw [hen]
  clear hen
  by_cases h0 : en = 0
  · subst h0
    obtain ⟨mp, b, rfl, hsh⟩ := HS1.out HEN.out
    obtain ⟨hV, _, _, hne, _⟩ := enterE_ok HEN.out
    have HV := Aside0.mk hV
    have HN : Aside0 (truthsL D 0 ≠ []) := ⟨by intro e; rw [e] at hne; simp at hne⟩
    have HSH := Aside0.mk hsh
    clear hsh hV hne HS1 b0 b1 f0 f1 d0 d1 g0 g1
    have hmp : w.heap.size + 1 ≠ mp := by have := HSH.out.gm; have := blk_lt HD3.out; omega
    have hmp' : w.heap.size + 1 + 1 ≠ mp := by have := HSH.out.gm; have := blk_lt HE3.out; omega
    have hr : r = (minL (valsL D (fun _ g => manyF g) (truthsL D 0)), maxL (valsL D (fun _ g => manyF g) (truthsL D 0))) := by rw [← HF.out, spanF, if_pos HEN.out]
    have ht : t = (minL (valsL D (fun _ g => spotsTo g 7) (truthsL D 0)), maxL (valsL D (fun _ g => spotsTo g 7) (truthsL D 0))) := by rw [← HG.out, spanF, if_pos HEN.out]
    subst hr ht
    go_wp2_with fail
    refine (hull_calls W3 w1 D A4 c4 A5 c5 0 mp b 100 (fun _ g => manyF g) HA3.out HV.out (by decide) HSH.out manyVals HN.out).mono ?_
    rintro e w2 ⟨rfl, hc2, hs2⟩
    have HC2 := Aside0.mk hc2
    have HS2 := Aside0.mk hs2
    have HD2 := Aside0.mk (hc2.heap HD1.out hmp)
    have HE2 := Aside0.mk (hc2.heap HE1.out hmp')
    clear hc2 hs2
    go_wp2_with fail
    refine (hull_calls W3 w2 D A4 c4 A5 c5 0 mp b 101 (fun _ g => spotsTo g 7) HA3.out HV.out (by decide) HS2.out spotsVals HN.out).mono ?_
    rintro e w3 ⟨rfl, hc3, hs3⟩
    have HC3 := Aside0.mk (HC2.out.trans hc3)
    have HDE := Aside0.mk (hc3.heap HD2.out hmp)
    have HEE := Aside0.mk (hc3.heap HE2.out hmp')
    have b0 : w3.cell? ⟨w.heap.size + 1, 0, none⟩ = some (.int .i64 0) := (blk_cell HDE.out 0).trans rfl
    have b1 : w3.cell? ⟨w.heap.size + 1, 1, none⟩ = some (.int .i64 0) := (blk_cell HDE.out 1).trans rfl
    have f0 := blk_frozen HDE.out 0
    have f1 := blk_frozen HDE.out 1
    have lb3 := blk_lt HDE.out
    have d0 : w3.cell? ⟨w.heap.size + 1 + 1, 0, none⟩ = some (.int .i64 0) := (blk_cell HEE.out 0).trans rfl
    have d1 : w3.cell? ⟨w.heap.size + 1 + 1, 1, none⟩ = some (.int .i64 0) := (blk_cell HEE.out 1).trans rfl
    have g0 := blk_frozen HEE.out 0
    have g1 := blk_frozen HEE.out 1
    have ld3 := blk_lt HEE.out
    clear hc3 hs3
    go_wp2
    have HB2 := Aside0.mk (HB1.out.trans (HC3.out.below (fun k hk e => by have := HSH.out.gm; have := HB3.out.size; omega) HB1.out.size))
    refine bodyPost_ret (v := .tuple #[.agg #[.int .i64 (minL (valsL D (fun _ g => manyF g) (truthsL D 0))), .int .i64 (maxL (valsL D (fun _ g => manyF g) (truthsL D 0)))], .agg #[.int .i64 (minL (valsL D (fun _ g => spotsTo g 7) (truthsL D 0))), .int .i64 (maxL (valsL D (fun _ g => spotsTo g 7) (truthsL D 0)))], .int .i64 0])
      (results_row2_tmp rfl _ _ (w.heap.size + 1) (w.heap.size + 1 + 1) 23 _ _ (0, 0) (0, 0) _ _ rfl rfl (blk_far (blk_far (blk_set (blk_set HDE.out 0 _) 1 _) (by simp) _) (by simp) _) (blk_set (blk_set (blk_far (blk_far HEE.out (by simp) _) (by simp) _) 0 _) 1 _) Try.underlying23 rfl info23s info23s rfl) rfl
      ⟨by rw [HEN.out], below_set (below_set (below_set (below_set HB2.out (by simp)) (by simp)) (Nat.le_trans (Nat.le_succ _) (Nat.le_succ _))) (Nat.le_trans (Nat.le_succ _) (Nat.le_succ _))⟩
  · have hr : r = (0, 0) := by rw [← HF.out, spanF, HEN.out, if_neg h0]
    have ht : t = (0, 0) := by rw [← HG.out, spanF, HEN.out, if_neg h0]
    subst hr ht
    go_wp2
    go_region
    go_wp2
    refine bodyPost_ret (v := .tuple #[.agg #[.int .i64 0, .int .i64 0], .agg #[.int .i64 0, .int .i64 0], .int .i64 en])
      (results_row2_tmp rfl _ _ (w.heap.size + 1) (w.heap.size + 1 + 1) 23 _ _ (0, 0) (0, 0) _ _ rfl rfl (blk_drew (blk_far (blk_far (blk_set (blk_set HD1.out 0 _) 1 _) (by simp) _) (by simp) _)) (blk_drew (blk_set (blk_set (blk_far (blk_far HE1.out (by simp) _) (by simp) _) 0 _) 1 _)) Try.underlying23 rfl info23s info23s rfl) rfl
      ⟨by rw [HEN.out], below_drew1 (below_set (below_set (below_set (below_set HB1.out (by simp)) (by simp)) (Nat.le_trans (Nat.le_succ _) (Nat.le_succ _))) (Nat.le_trans (Nat.le_succ _) (Nat.le_succ _)))⟩
end Go.Proofs.Ytemeapfnfegkiaa.D
end
section
/- Package disk: Ask. -/
namespace Go.Proofs.Ytemeapfnfegkiaa.D
open Go Go.RowKit Go.Proofs.YtemeapfnfegkiaaK Go.Proofs.YtemeapfnfegkiaaW.PrintWords Go.Proofs.YtemeapfnfegkiaaW.PrintLast Go.Proofs.YtemeapfnfegkiaaW.PrintMore Go.Proofs.Ytemeapfnfegkiaa.PR
set_option linter.unusedVariables false
set_option linter.unusedSimpArgs false

def askStep (D : Dat) (i k : Nat) (s : Int × Int × Int) : Int × Int × Int :=
  let y : Int := cnt D (oneQ i k) (truthsL D 0)
  let n : Int := max y ((truthsL D 0).length - y)
  if n < (truthsL D 0).length ∧ (s.2.2 = 0 ∨ n < s.2.2) then (i, k, n) else s
def askRow (D : Dat) (i : Nat) (s : Int × Int × Int) (m : Nat) : Int × Int × Int := (List.range m).foldl (fun s j => askStep D i (i + 1 + j) s) s
def askTo (D : Dat) (i : Nat) : Int × Int × Int := (List.range i).foldl (fun s i => askRow D i s (D.spots.length - (i + 1))) (0, 0, 0)
theorem askRow_succ (D : Dat) (i : Nat) (s : Int × Int × Int) (m : Nat) : askRow D i s (m + 1) = askStep D i (i + 1 + m) (askRow D i s m) := by simp [askRow, List.range_succ]
theorem askTo_succ (D : Dat) (i : Nat) : askTo D (i + 1) = askRow D i (askTo D i) (D.spots.length - (i + 1)) := by simp [askTo, List.range_succ]
def askF (D : Dat) : Int × Int × Int × Int :=
  if enterE D [] = 0 then (if (askTo D D.spots.length).2.2 = 0 then (0, 0, 0, 9) else ((askTo D D.spots.length).1, (askTo D D.spots.length).2.1, (askTo D D.spots.length).2.2, 0)) else (0, 0, 0, enterE D [])

theorem results_tmp4 {P : Program} {fn : Func} {p q r t : Tmp} (h : fn.results = #[.tmp p, .tmp q, .tmp r, .tmp t]) (tmps : Array Value) (w : World) (a b c d : Value) (ha : tmps.getD p undef = a) (hb : tmps.getD q undef = b) (hc : tmps.getD r undef = c) (hd : tmps.getD t undef = d) :
    (results fn tmps).run P w = .ok (.tuple #[a, b, c, d]) w := by
  have ha' : tmps[p]?.getD undef = a := by simpa using ha
  have hb' : tmps[q]?.getD undef = b := by simpa using hb
  have hc' : tmps[r]?.getD undef = c := by simpa using hc
  have hd' : tmps[t]?.getD undef = d := by simpa using hd
  simp [results, h, ha', hb', hc', hd']
set_option maxHeartbeats 2000000 in
theorem Ask_calls (D : Dat) (A4 : Option Addr) (c4 : Nat) (A5 : Option Addr) (c5 : Nat) (w : World) (h : Arg w D A4 c4 A5 c5) :
    Calls Try.prog 33 #[.agg #[.string D.nm, .int .i64 D.rad, .int .i64 D.lo, .int .i64 D.hi, .slice A4 D.spots.length c4, .slice A5 D.told.length c5]] w
      fun e w' => e = .returned (.tuple #[.int .i64 (askF D).1, .int .i64 (askF D).2.1, .int .i64 (askF D).2.2.1, .int .i64 (askF D).2.2.2]) ∧ Below w.heap.size w w' := by
  have hb3 := below_alloc (Below.refl w.heap.size w) (.cells #[.string D.nm, .int .i64 D.rad, .int .i64 D.lo, .int .i64 D.hi, .slice A4 D.spots.length c4, .slice A5 D.told.length c5] 27)
  have HB3 := Aside0.mk hb3
  have HA3 := Aside0.mk (h.below hb3)
  have HD3 : Aside0 ((w.alloc (.cells #[.string D.nm, .int .i64 D.rad, .int .i64 D.lo, .int .i64 D.hi, .slice A4 D.spots.length c4, .slice A5 D.told.length c5] 27)).heap[w.heap.size]? = some (.cells #[.string D.nm, .int .i64 D.rad, .int .i64 D.lo, .int .i64 D.hi, .slice A4 D.spots.length c4, .slice A5 D.told.length c5] 27 (0, 0))) := ⟨blk_new _ _⟩
  clear hb3 h
  obtain ⟨r, hr⟩ : ∃ r, askF D = r := ⟨_, rfl⟩
  have HF := Aside0.mk hr
  rw [hr]
  clear hr
  go_enter Try.func33, Try.ntmps33
  go_wp2_with fail
  generalize hW : w.alloc (.cells #[.string D.nm, .int .i64 D.rad, .int .i64 D.lo, .int .i64 D.hi, .slice A4 D.spots.length c4, .slice A5 D.told.length c5] 27) = W3 at HB3 HA3 HD3 ⊢
  clear hW
  refine (enter_calls D A4 c4 A5 c5 [] none 0 W3 HA3.out (by exact ⟨rfl, by simp, fun h => absurd h (by simp)⟩)).mono ?_
  rintro e w1 ⟨v, rfl, hb1, hs1⟩
  have HB1 := Aside0.mk (HB3.out.trans (hb1.mono HB3.out.size))
  have HD1 := Aside0.mk (blk_below HD3.out hb1)
  have HS1 := Aside0.mk hs1
  have b4 : w1.cell? ⟨w.heap.size, 4, none⟩ = some (.slice A4 D.spots.length c4) := (blk_cell HD1.out 4).trans rfl
  have lb1 := blk_lt HD1.out
  clear hb1 hs1
  obtain ⟨en, hen⟩ : ∃ en, enterE D [] = en := ⟨_, rfl⟩
  have HEN := Aside0.mk hen
  rw [hen]
  clear hen
  by_cases h0 : en = 0
  · subst h0
    obtain ⟨mp, b, rfl, hsh⟩ := HS1.out HEN.out
    obtain ⟨hV, _, _, hne, _⟩ := enterE_ok HEN.out
    have HV := Aside0.mk hV
    have hn7 := hV.n7
    have HSH := Aside0.mk hsh
    clear hsh hV hne HS1
    have hmp : w.heap.size ≠ mp := by have := HSH.out.gm; have := blk_lt HD3.out; omega
    have hr : r = (if (askTo D D.spots.length).2.2 = 0 then (0, 0, 0, 9) else ((askTo D D.spots.length).1, (askTo D D.spots.length).2.1, (askTo D D.spots.length).2.2, 0)) := by rw [← HF.out, askF, if_pos HEN.out]
    have HR := Aside0.mk hr
    clear hr
    go_wp2
    clear b4
    go_loopw [2, 3, 4, 23] (fun a c l j wr => ∃ i : Nat, i ≤ D.spots.length ∧ j = .int .i64 i ∧ ∃ x y z, a = .int .i64 x ∧ c = .int .i64 y ∧ l = .int .i64 z ∧ Aside0 (askTo D i = (x, y, z)) ∧ Aside0 (Chg (fun k => k = mp) w1 wr) ∧ Aside0 (Sh W3 wr D A4 c4 A5 c5 0 mp b)) (fun a c l j _ => D.spots.length - (intOf j).toNat)
    case atStart => exact ⟨0, Nat.zero_le _, rfl, 0, 0, 0, rfl, rfl, rfl, ⟨rfl⟩, ⟨Chg.refl _ _⟩, HSH⟩
    case round =>
      obtain ⟨i, hi, rfl, x, y, z, rfl, rfl, rfl, HT, HC, HS⟩ := hrel
      by_cases hlt : i < D.spots.length
      · go_wp2
        go_loopw [2, 3, 4, 8] (fun a c l j wr => ∃ k : Nat, i + 1 ≤ k ∧ k ≤ D.spots.length ∧ j = .int .i64 k ∧ ∃ x' y' z', a = .int .i64 x' ∧ c = .int .i64 y' ∧ l = .int .i64 z' ∧ Aside0 (askRow D i (x, y, z) (k - (i + 1)) = (x', y', z')) ∧ Aside0 (Chg (fun k => k = mp) w1 wr) ∧ Aside0 (Sh W3 wr D A4 c4 A5 c5 0 mp b)) (fun a c l j _ => D.spots.length - (intOf j).toNat)
        case atStart => exact ⟨i + 1, Nat.le_refl _, by omega, by go_num, x, y, z, rfl, rfl, rfl, ⟨by rw [Nat.sub_self]; rfl⟩, HC, HS⟩
        case round =>
          clear HC HS
          obtain ⟨k, hk0, hk, rfl, x', y', z', rfl, rfl, rfl, HQ, HC, HS⟩ := hrel
          have HD2 := Aside0.mk (HC.out.heap HD1.out hmp)
          have b4 := (blk_cell HD2.out 4).trans (show _ = some (.slice A4 D.spots.length c4) from rfl)
          have lb4 := blk_lt HD2.out
          by_cases hlm : k < D.spots.length
          · go_wp2_with fail
            refine (one_calls _ _ wr).mono ?_
            rintro e w2 ⟨rfl, hx, hy, hc⟩
            have hlx := blk_lt hx
            have hly := blk_lt hy
            have hmp0 := HS.out.mp_lt
            have HS2 := Aside0.mk (HS.out.chg hc (fun _ x => x.elim))
            have HC2 := Aside0.mk (HC.out.trans (hc.mono (fun _ _ x => x.elim)))
            have HX := Aside0.mk (And.intro hx hy)
            clear hc hx hy b4 lb4
            go_wp2_with fail
            refine (count_calls W3 w2 D A4 c4 A5 c5 0 mp b 119 _ _ (oneQ i k) HA3.out HV.out (by decide) HS2.out (oneAsks _ mp wr.heap.size (wr.heap.size + 1) i k (by omega) (by omega) hlx (by omega) hly (by omega)) HX.out).mono ?_
            rintro e w3 ⟨rfl, hc2, hs2, _⟩
            have HC3 := Aside0.mk (HC2.out.trans hc2)
            have HS3 := Aside0.mk hs2
            clear hc2 hs2 hlx hly hmp0
            have hN := truthsL_len HV.out 0
            have hyN : cnt D (oneQ i k) (truthsL D 0) ≤ (truthsL D 0).length := List.countP_le_length
            have HSTEP : Aside0 (askRow D i (x, y, z) (k + 1 - (i + 1)) = if max (cnt D (oneQ i k) (truthsL D 0) : Int) ((truthsL D 0).length - cnt D (oneQ i k) (truthsL D 0)) < (truthsL D 0).length ∧ (z' = 0 ∨ max (cnt D (oneQ i k) (truthsL D 0) : Int) ((truthsL D 0).length - cnt D (oneQ i k) (truthsL D 0)) < z') then ((i : Int), (k : Int), max (cnt D (oneQ i k) (truthsL D 0) : Int) ((truthsL D 0).length - cnt D (oneQ i k) (truthsL D 0))) else (x', y', z')) := ⟨by
              rw [show k + 1 - (i + 1) = (k - (i + 1)) + 1 by omega, askRow_succ, HQ.out, show i + 1 + (k - (i + 1)) = k by omega]; rfl⟩
            generalize cnt D (oneQ i k) (truthsL D 0) = Y at hyN HSTEP ⊢
            generalize (truthsL D 0).length = N at hN hyN HSTEP ⊢
            by_cases hle : (N : Int) - Y ≤ Y
            · by_cases c1 : (Y : Int) < (N : Int)
              · by_cases c2 : z' = 0
                · subst c2
                  go_wp2
                  all_goals try (exfalso; omega)
                  all_goals
                    go_roundw
                    case rel => exact ⟨k + 1, by omega, by omega, by go_num, _, _, _, rfl, rfl, rfl, ⟨by rw [HSTEP.out, show max (Y : Int) (N - Y) = (Y : Int) by omega, if_pos ⟨by omega, .inl (by simp)⟩]⟩, HC3, HS3⟩
                    case measure => simp [intOf]; omega
                · have c2' : (z' == 0) = false := beq_eq_false_iff_ne.2 c2
                  by_cases c3 : (Y : Int) < z'
                  · go_wp2
                    all_goals try (exfalso; omega)
                    all_goals
                      go_roundw
                      case rel => exact ⟨k + 1, by omega, by omega, by go_num, _, _, _, rfl, rfl, rfl, ⟨by rw [HSTEP.out, show max (Y : Int) (N - Y) = (Y : Int) by omega, if_pos ⟨by omega, .inr (by omega)⟩]⟩, HC3, HS3⟩
                      case measure => simp [intOf]; omega
                  · go_wp2
                    all_goals try (exfalso; omega)
                    all_goals
                      go_roundw
                      case rel => exact ⟨k + 1, by omega, by omega, by go_num, _, _, _, rfl, rfl, rfl, ⟨by rw [HSTEP.out, show max (Y : Int) (N - Y) = (Y : Int) by omega, if_neg (fun h => h.2.elim c2 (fun h => by omega))]⟩, HC3, HS3⟩
                      case measure => simp [intOf]; omega
              · go_wp2
                all_goals try (exfalso; omega)
                all_goals
                  go_roundw
                  case rel => exact ⟨k + 1, by omega, by omega, by go_num, _, _, _, rfl, rfl, rfl, ⟨by rw [HSTEP.out, show max (Y : Int) (N - Y) = (Y : Int) by omega, if_neg (fun h => by have := h.1; omega)]⟩, HC3, HS3⟩
                  case measure => simp [intOf]; omega
            · by_cases c1 : ((N : Int) - Y) < (N : Int)
              · by_cases c2 : z' = 0
                · subst c2
                  go_wp2
                  all_goals try (exfalso; omega)
                  all_goals
                    go_roundw
                    case rel => exact ⟨k + 1, by omega, by omega, by go_num, _, _, _, rfl, rfl, rfl, ⟨by rw [HSTEP.out, show max (Y : Int) (N - Y) = ((N : Int) - Y) by omega, if_pos ⟨by omega, .inl (by simp)⟩]⟩, HC3, HS3⟩
                    case measure => simp [intOf]; omega
                · have c2' : (z' == 0) = false := beq_eq_false_iff_ne.2 c2
                  by_cases c3 : ((N : Int) - Y) < z'
                  · go_wp2
                    all_goals try (exfalso; omega)
                    all_goals
                      go_roundw
                      case rel => exact ⟨k + 1, by omega, by omega, by go_num, _, _, _, rfl, rfl, rfl, ⟨by rw [HSTEP.out, show max (Y : Int) (N - Y) = ((N : Int) - Y) by omega, if_pos ⟨by omega, .inr (by omega)⟩]⟩, HC3, HS3⟩
                      case measure => simp [intOf]; omega
                  · go_wp2
                    all_goals try (exfalso; omega)
                    all_goals
                      go_roundw
                      case rel => exact ⟨k + 1, by omega, by omega, by go_num, _, _, _, rfl, rfl, rfl, ⟨by rw [HSTEP.out, show max (Y : Int) (N - Y) = ((N : Int) - Y) by omega, if_neg (fun h => h.2.elim c2 (fun h => by omega))]⟩, HC3, HS3⟩
                      case measure => simp [intOf]; omega
              · go_wp2
                all_goals try (exfalso; omega)
                all_goals
                  go_roundw
                  case rel => exact ⟨k + 1, by omega, by omega, by go_num, _, _, _, rfl, rfl, rfl, ⟨by rw [HSTEP.out, show max (Y : Int) (N - Y) = ((N : Int) - Y) by omega, if_neg (fun h => by have := h.1; omega)]⟩, HC3, HS3⟩
                  case measure => simp [intOf]; omega
          · obtain rfl : k = D.spots.length := by omega
            go_wp2
            go_roundw
            case rel => exact ⟨i + 1, by omega, by go_num, x', y', z', rfl, rfl, rfl, ⟨by rw [askTo_succ, HT.out, HQ.out]⟩, HC, HS⟩
            case measure => simp [intOf]; omega
      · obtain rfl : i = D.spots.length := by omega
        rw [HT.out] at HR
        have HR' := Aside0.mk HR.out
        simp only at HR'
        by_cases hz : z = 0
        · subst hz
          go_wp2
          exact bodyPost_ret (results_tmp4 rfl _ _ _ _ _ _ rfl rfl rfl rfl) rfl ⟨by rw [HR'.out]; rfl, HB1.out.trans (HC.out.below (fun k hk e => by have := HSH.out.gm; have := HB3.out.size; omega) HB1.out.size)⟩
        · go_wp2
          exact bodyPost_ret (results_tmp4 rfl _ _ _ _ _ _ rfl rfl rfl rfl) rfl ⟨by rw [HR'.out, if_neg hz]; rfl, HB1.out.trans (HC.out.below (fun k hk e => by have := HSH.out.gm; have := HB3.out.size; omega) HB1.out.size)⟩
  · have hr : r = (0, 0, 0, en) := by rw [← HF.out, askF, HEN.out, if_neg h0]
    subst hr
    go_wp2
    exact bodyPost_ret (results_tmp4 rfl _ _ _ _ _ _ rfl rfl rfl rfl) rfl ⟨rfl, HB1.out⟩
end Go.Proofs.Ytemeapfnfegkiaa.D
end
section
/- General lemmas of this session's own: a block of ints, known whole; make, copy, clear, stores. -/
namespace Go.Proofs.YtemeapfnfegkiaaK
open Go Go.RowKit Go.Proofs.YtemeapfnfegkiaaW.PrintWords Go.Proofs.YtemeapfnfegkiaaW.PrintLast Go.Proofs.YtemeapfnfegkiaaW.PrintMore
set_option linter.unusedVariables false
set_option linter.unusedSimpArgs false
variable {P : Program}

def IB (w : World) (e g : Nat) (L : List Int) : Prop := w.heap[g]? = some (.cells (L.map (Value.int .i64)).toArray e (0, 0))
namespace IB
variable {w w' : World} {e g : Nat} {L : List Int}
theorem lt (h : IB w e g L) : g < w.heap.size := (Array.getElem?_eq_some_iff.1 h).1
theorem chg {S : Nat → Prop} (h : IB w e g L) (hc : Chg S w w') (hs : ¬ S g) : IB w' e g L := hc.heap h hs
theorem cell (h : IB w e g L) (k : Nat) (hk : k < L.length) : w.cell? ⟨g, k, none⟩ = some (.int .i64 L[k]) := by
  rw [cell_of_row w g k _ e (0, 0) h]; simp [hk]
theorem frozen (h : IB w e g L) (k : Nat) : w.frozen? ⟨g, k, none⟩ = false := blk_frozen h k
theorem set (h : IB w e g L) (k : Nat) (x : Int) : IB (w.setCell ⟨g, k, none⟩ (.int .i64 x)) e g (L.set k x) := by
  have := blk_set h k (.int .i64 x)
  unfold IB
  rw [this]
  congr 2
  apply Array.ext'
  simp [List.map_set]
theorem read (h : IB w e g L) (n : Nat) (hn : n ≤ L.length) (hl : L.length ≤ 9223372036854775807) : Kd.C (Kd.int .i64) w (some ⟨g, 0, none⟩) n (L.take n) := by
  refine ⟨by rw [List.length_take]; omega, by omega, fun _ => ⟨_, rfl, fun j p hj => ⟨[.int .i64 p], rfl, rfl, fun i u hu => ?_⟩⟩⟩
  have hi : i = 0 := by
    have := (List.getElem?_eq_some_iff.1 hu).1
    simpa using this
  subst hi
  simp at hu
  subst hu
  have hadd : (⟨g, 0, none⟩ : Addr).add (j * 1 + 0) = ⟨g, j, none⟩ := by unfold Addr.add; split <;> simp_all
  show w.cell? ((⟨g, 0, none⟩ : Addr).add (j * 1 + 0)) = _
  rw [List.getElem?_take] at hj
  split at hj
  · rw [hadd]
    obtain ⟨h1, h2⟩ := List.getElem?_eq_some_iff.1 hj
    rw [h.cell j h1, h2]
  · cases hj
theorem of_owns {b : Nat} {cap n : Nat} (h : w.ownsRow b e 1 (.slice (some ⟨g, 0, none⟩) n n) n (madeCells #[.int .i64 0] (n * 1)).toList) : IB w e g (List.replicate n 0) := by
  rcases h.2 with ⟨h0, _⟩ | ⟨g', cap, cur, hv, _, hg, _, _, hs, ht⟩
  · cases h0
  · injection hv with h1 h2 h3
    injection h1 with h1
    injection h1 with h1
    subst h1
    subst h3
    unfold IB
    rw [hg]
    congr 2
    apply Array.ext'
    have hl : cur.toList.take (n * 1) = cur.toList := List.take_of_length_le (by simp; omega)
    rw [← hl, ht]
    apply List.ext_getElem
    · simp [madeCells]
    · intro i h1 h2
      simp [madeCells, Nat.mod_one]
end IB

theorem IB.setCells {e g : Nat} : ∀ (xs : List Int) (o : Nat) (w : World) (L : List Int), IB w e g L → o + xs.length ≤ L.length → IB (w.setCells g o (xs.map (Value.int .i64))) e g (L.take o ++ xs ++ L.drop (o + xs.length))
  | [], o, w, L, h, _ => by simpa [World.setCells] using h
  | x :: xs, o, w, L, h, hl => by
    simp only [List.length_cons] at hl
    have := IB.setCells xs (o + 1) _ _ (h.set o x) (by simp; omega)
    simp only [List.map_cons, World.setCells]
    have e1 : (L.set o x).take (o + 1) ++ xs ++ (L.set o x).drop (o + 1 + xs.length) = L.take o ++ (x :: xs) ++ L.drop (o + (x :: xs).length) := by
      rw [List.take_succ_eq_append_getElem (by simp; omega), List.take_set_of_le (Nat.le_refl _), List.getElem_set_self, List.drop_set_of_lt (by omega)]
      simp [Nat.add_assoc, Nat.add_comm 1]
    rw [← e1]; exact this
theorem Chg.setCells {S : Nat → Prop} {w : World} {g : Nat} (hg : g < w.heap.size → S g) : ∀ (vs : List Value) (o : Nat) (w1 : World), Chg S w w1 → Chg S w (w1.setCells g o vs)
  | [], _, _, h => h
  | v :: vs, o, w1, h => by
    simp only [World.setCells]
    exact Chg.setCells hg vs (o + 1) _ (h.setCell (p := ⟨g, o, none⟩) hg v)
theorem Chg.setRow {S : Nat → Prop} {w w1 : World} {g : Nat} (h : Chg S w w1) (hg : g < w.heap.size → S g) (cs : Array Value) : Chg S w (w1.setRow g cs) := by
  refine ⟨h.os, h.tape, h.output, by simpa [World.setRow] using h.size, fun i hi hs => ?_⟩
  have hne : g ≠ i := fun e => hs (e ▸ hg (by omega))
  have : (w1.setRow g cs).heap[i]? = w1.heap[i]? := by simp [World.setRow, Array.getElem?_modify, hne]
  rw [this]; exact h.block i hi hs
end Go.Proofs.YtemeapfnfegkiaaK
end
section
/- Package disk: list and what it calls. -/
namespace Go.Proofs.Ytemeapfnfegkiaa.D
open Go Go.RowKit Go.Proofs.YtemeapfnfegkiaaK Go.Proofs.YtemeapfnfegkiaaW.PrintWords Go.Proofs.YtemeapfnfegkiaaW.PrintLast Go.Proofs.YtemeapfnfegkiaaW.PrintMore Go.Proofs.Ytemeapfnfegkiaa.PR
set_option linter.unusedVariables false
set_option linter.unusedSimpArgs false

abbrev ints (l : List Nat) : List Int := l.map Int.ofNat
def outP (set : Nat) (k : Nat) : Bool := !set.testBit k

theorem idxFrom_none {α : Type} {p : α → Bool} : ∀ {l : List α} {k : Nat}, idxFrom p l k = -1 → ∀ x ∈ l, p x = false
  | [], _, _ => by simp
  | x :: xs, k, h => by
    unfold idxFrom at h
    by_cases hp : p x = true
    · rw [if_pos hp] at h; omega
    · rw [if_neg hp] at h
      intro y hy
      rcases List.mem_cons.1 hy with rfl | hy
      · simpa using hp
      · exact idxFrom_none h y hy
theorem idxFrom_some {α : Type} {p : α → Bool} : ∀ {l : List α} {k : Nat}, idxFrom p l k ≠ -1 → ∃ i, i < l.length ∧ idxFrom p l k = ((k + i : Nat) : Int) ∧ (l.take i).all (fun x => !p x) = true ∧ (l.take (i + 1)).filter (fun x => !p x) = l.take i
  | [], _, h => absurd rfl h
  | x :: xs, k, h => by
    unfold idxFrom at h ⊢
    by_cases hp : p x = true
    · rw [if_pos hp] at h ⊢
      exact ⟨0, by simp, by simp, by simp, by simp [hp]⟩
    · rw [if_neg hp] at h ⊢
      obtain ⟨i, h1, h2, h3, h4⟩ := idxFrom_some h
      refine ⟨i + 1, by simp; omega, by rw [h2]; omega, ?_, ?_⟩
      · simp only [List.take_succ_cons, List.all_cons, h3, Bool.and_true]; simpa using hp
      · rw [List.take_succ_cons, List.take_succ_cons, List.filter_cons, if_pos (by simpa using hp), h4]

set_option maxHeartbeats 400000 in
theorem listC_calls (set k Bs : Nat) (w : World) (hset : set < 2 ^ 62) (hk : k < 62) (hb : w.heap[Bs]? = some (.cells #[.int .i64 set] 3 (0, 0))) :
    Calls Try.prog 123 #[.int .i64 k, .pointer (some ⟨Bs, 0, none⟩)] w fun e w' => e = .returned (.bool (outP set k)) ∧ w = w' := by
  have c0 : w.cell? ⟨Bs, 0, none⟩ = some (.int .i64 set) := (blk_cell hb 0).trans rfl
  have lb := blk_lt hb
  clear hb
  have hbit := bit1 set k hset
  have hmin : min k 64 = k := by omega
  obtain ⟨q, hq⟩ : ∃ q, set.testBit k = q := ⟨_, rfl⟩
  have HQ := Aside0.mk hq
  rw [hq] at hbit
  clear hq
  cases q
  · rw [if_neg (by simp)] at hbit
    go_enter Try.func123, Try.ntmps123
    go_wp2
    go_ret
    exact ⟨by rw [outP, HQ.out]; rfl, rfl⟩
  · rw [if_pos rfl] at hbit
    go_enter Try.func123, Try.ntmps123
    go_wp2
    go_ret
    exact ⟨by rw [outP, HQ.out]; rfl, rfl⟩
theorem enters123 (args : Array Value) (w : World) : (callFunc 123 args).run Try.prog w = .ok (.enter 123 args) w := enters_of Try.func123 (by kernel_rfl) rfl args w

theorem ints_get (l : List Nat) (k : Nat) (h : k < l.length) : rd (ints l) (k : Int) = (l[k] : Int) := by simp [rd, ints, h]

set_option maxHeartbeats 400000 in
theorem indexI_calls (l : List Nat) (set Bs : Nat) (A : Option Addr) (c : Nat) (w : World) (hset : set < 2 ^ 62) (hl : ∀ x ∈ l, x < 62) (hr : Kd.C (Kd.int .i64) w A l.length (ints l)) (hb : w.heap[Bs]? = some (.cells #[.int .i64 set] 3 (0, 0))) :
    Calls Try.prog 132 #[.slice A l.length c, .func (.func 123) #[] #[.pointer (some ⟨Bs, 0, none⟩)]] w fun e w' => e = .returned (.int .i64 (idxFrom (outP set) l 0)) ∧ w = w' := by
  have hlen := hr.2.1
  have HR := Aside0.mk hr
  have HB := Aside0.mk hb
  have he := enters123
  clear hr hb
  go_enter Try.func132, Try.ntmps132
  go_wp2
  go_loop [8] (fun j => ∃ k : Nat, k ≤ l.length ∧ j = .int .i64 k ∧ Aside0 (idxFrom (outP set) l 0 = idxFrom (outP set) (l.drop k) k)) (fun j => l.length - (intOf j).toNat)
  case atStart => exact ⟨0, Nat.zero_le _, rfl, ⟨rfl⟩⟩
  case round =>
    obtain ⟨k, hk, rfl, HO⟩ := hrel
    by_cases hlt : k < l.length
    · obtain ⟨ad, e, hc⟩ := at_nat HR.out k hlt
      rw [ints_get l k hlt] at hc
      subst e
      have HD : Aside0 (l.drop k = l[k] :: l.drop (k + 1)) := ⟨List.drop_eq_getElem_cons hlt⟩
      have hx := hl l[k] (List.getElem_mem hlt)
      generalize l[k] = x at hc HD hx
      obtain ⟨q, hq⟩ : ∃ q, outP set x = q := ⟨_, rfl⟩
      have HQ := Aside0.mk hq
      clear hq
      cases q
      · go_wp2_with (refine (listC_calls set x Bs _ hset hx HB.out).mono ?_; rw [HQ.out]; rintro e w1 ⟨rfl, rfl⟩)
        go_round
        case rel => exact ⟨k + 1, by omega, by go_num, ⟨by rw [HO.out, HD.out, idxFrom, HQ.out]; simp⟩⟩
        case measure => simp [intOf]; omega
      · go_wp2_with (refine (listC_calls set x Bs _ hset hx HB.out).mono ?_; rw [HQ.out]; rintro e w1 ⟨rfl, rfl⟩)
        go_ret
        exact ⟨by rw [HO.out, HD.out, idxFrom, HQ.out]; rfl, rfl⟩
    · obtain rfl : k = l.length := by omega
      go_wp2
      go_ret
      exact ⟨by rw [HO.out]; simp [idxFrom], rfl⟩
end Go.Proofs.Ytemeapfnfegkiaa.D
end
