/- Contracts of the functions that this claim reaches, and the words for them. -/
import Derived.RangeFuncNested
import Derived.RangeFuncBound
import Derived.RangeFuncCalls
import Derived.RangeFuncLeaves
import Derived.Below
import Derived.Deep.Draws
import Derived.Laws.BitsLemmas
import Derived.ChangeKeysEq
import Derived.KernelRfl
import Derived.Laws.Rows
import Derived.Deep.AppendLies
import Derived.Test.YtemeapfnfegkiaaPRx0
import Derived.Laws.CopyRow
import Derived.Lib.SliceRun
import Derived.OwnWalk
import Derived.OrdersHeld
import Derived.StillTactics
import Derived.Deep.RegionHeld3
/- General lemmas of this session's own: what a call may change ('Chg'), an iterator's contract ('Iter'), and the law of a range over a function by it. -/
section
namespace Go.Proofs.YtemeapfnfegkiaaK
open Go Go.RowKit
set_option linter.unusedVariables false

/-- Every block of w outside S lies in w' as it lay; the streams are as they were. -/
structure Chg (S : Nat → Prop) (w w' : World) : Prop where
  os : w'.os = w.os
  tape : w'.tape = w.tape
  output : w'.output = w.output
  size : w.heap.size ≤ w'.heap.size
  block : ∀ k, k < w.heap.size → ¬ S k → w'.heap[k]? = w.heap[k]?

namespace Chg
variable {S S' : Nat → Prop} {w w1 w2 : World}
theorem refl (S : Nat → Prop) (w : World) : Chg S w w := ⟨rfl, rfl, rfl, Nat.le_refl _, fun _ _ _ => rfl⟩
theorem trans (h : Chg S w w1) (k : Chg S w1 w2) : Chg S w w2 :=
  ⟨k.os.trans h.os, k.tape.trans h.tape, k.output.trans h.output, Nat.le_trans h.size k.size, fun i hi hs => (k.block i (Nat.lt_of_lt_of_le hi h.size) hs).trans (h.block i hi hs)⟩
theorem mono (h : Chg S w w1) (hs : ∀ k, k < w.heap.size → S k → S' k) : Chg S' w w1 := ⟨h.os, h.tape, h.output, h.size, fun i hi hn => h.block i hi (fun x => hn (hs i hi x))⟩
/-- the second step may change what is new as well -/
theorem then_ (h : Chg S w w1) (k : Chg S' w1 w2) (hs : ∀ k, k < w.heap.size → S' k → S k) : Chg S w w2 :=
  ⟨k.os.trans h.os, k.tape.trans h.tape, k.output.trans h.output, Nat.le_trans h.size k.size, fun i hi hn => (k.block i (Nat.lt_of_lt_of_le hi h.size) (fun x => hn (hs i hi x))).trans (h.block i hi hn)⟩
theorem alloc (h : Chg S w w1) (o : Obj) : Chg S w (w1.alloc o) :=
  ⟨h.os, h.tape, h.output, by rw [World.size_alloc]; exact Nat.le_succ_of_le h.size, fun i hi hs => (Below.heap_alloc _ _ _ (Nat.lt_of_lt_of_le hi h.size)).trans (h.block i hi hs)⟩
theorem drew (h : Chg S w w1) : Chg S w w1.drew := ⟨h.os, h.tape, h.output, h.size, h.block⟩
theorem drewN (h : Chg S w w1) (n : Nat) : Chg S w (w1.drewN n) := ⟨h.os, h.tape, h.output, h.size, h.block⟩
theorem setCell (h : Chg S w w1) {p : Addr} (hp : p.block < w.heap.size → S p.block) (u : Value) : Chg S w (w1.setCell p u) :=
  ⟨h.os, h.tape, h.output, by simpa [World.setCell] using h.size, fun i hi hs => (Below.heap_setCell _ _ _ _ (fun e => by subst e; exact hs (hp hi))).trans (h.block i hi hs)⟩
theorem putObj (h : Chg S w w1) {l : Nat} (hp : l < w.heap.size → S l) (o : Obj) : Chg S w (w1.putObj l o) :=
  ⟨h.os, h.tape, h.output, by simpa using h.size, fun i hi hs => (World.putObj_heap_other (fun e => by subst e; exact hs (hp hi))).trans (h.block i hi hs)⟩
theorem of_below {B : Nat} (h : Below B w w1) : Chg (fun k => B ≤ k) w w1 := ⟨h.os, h.tape, h.output, h.size, fun i hi hs => h.block i (by omega)⟩
theorem of_new (h : Below w.heap.size w w1) (S : Nat → Prop) : Chg S w w1 := ⟨h.os, h.tape, h.output, h.size, fun i hi _ => h.block i hi⟩
theorem below (h : Chg S w w1) {B : Nat} (hs : ∀ k, k < w.heap.size → S k → B ≤ k) (hB : B ≤ w.heap.size) : Below B w w1 :=
  ⟨h.os, h.tape, h.output, h.size, fun i hi => h.block i (by omega) (fun x => by have := hs i (by omega) x; omega)⟩
theorem grown {row : Option Nat} (h : w.grownBy w1 row) : Chg (fun k => some k = row) w w1 := ⟨h.os, h.tape, h.output, h.size, fun i hi hn => h.block i hi hn⟩
theorem heap (h : Chg S w w1) {k : Nat} {o : Obj} (hk : w.heap[k]? = some o) (hs : ¬ S k) : w1.heap[k]? = some o :=
  (h.block k (Array.getElem?_eq_some_iff.1 hk).1 hs).trans hk
theorem cell (h : Chg S w w1) {a : Addr} {v : Value} (hk : w.cell? a = some v) (hs : ¬ S a.block) : w1.cell? a = some v := by
  have hlt := World.block_lt_of_cell? w a hk
  rw [World.cell?_of_block (w := w) (h.block a.block hlt hs)]; exact hk
end Chg

/-! ### An iterator's contract -/
/-- The iterator (function g, with lb captured), entered behind w, gives xs to its loop's body, or a part of them; of what lay in w it changes the blocks of M alone, and Ok holds whenever the body runs, and behind the call. 'J pre Fp W': what its user wants between two rounds, Fp being the blocks that the user's rounds may change. -/
def Iter {α : Type} (P : Program) (g : FuncId) (lb : Array Value) (encs : α → Array Value) (M : Nat → Prop) (Ok : World → Prop) (xs : List α) (w : World) : Prop :=
  ∀ (l : Nat) (J : List α → (Nat → Prop) → World → Prop) (Jx : List α → World → Prop) (W : World) (Fp0 : Nat → Prop), Below w.heap.size w W → w.heap.size ≤ l → l < W.heap.size → (∀ k, Fp0 k → k < W.heap.size) →
    (∀ pre Fp A B, J pre Fp A → Chg (fun k => M k ∨ (W.heap.size ≤ k ∧ ¬ Fp k)) A B → Ok B → J pre Fp B) →
    (∀ pre A B, Jx pre A → Chg (fun k => M k ∨ W.heap.size ≤ k) A B → Ok B → Jx pre B) →
    (∀ pre x Fp A, pre ++ [x] <+: xs → J pre Fp A → Ok A → (∀ k, Fp k → k < A.heap.size) → YieldAt Fence.wide 0 P l (encs x) A fun e B =>
      (e = .returned (.bool true) ∧ ∃ Fp', J (pre ++ [x]) Fp' B ∧ Chg (fun k => Fp k ∨ k = l) A B ∧ Ok B ∧ ∀ k, Fp' k → k < B.heap.size ∧ (k < A.heap.size → Fp k)) ∨
      (e = .returned (.bool false) ∧ Jx (pre ++ [x]) B ∧ Ok B)) →
    J [] Fp0 W → Ok W →
    CallsIn Fence.wide 0 P g (#[.func (.yield l) #[] #[]] ++ lb) W fun e W' => (∃ v, e = .returned v) ∧
      ((∃ Fp, J xs Fp W' ∧ Ok W' ∧ ∀ k, Fp k → k < W'.heap.size) ∨ ∃ pre, pre <+: xs ∧ Jx pre W' ∧ Ok W')

/-- How the body of a round may be left. -/
def roundQ {α : Type} (Ok : World → Prop) (I : List α → (Nat → Prop) → World → Prop) (Ix : Code → List α → World → Prop) (Fp : Nat → Prop) (pre : List α) (W : World) : Exit → Act → World → Prop
  | .normal, _, W3 => ∃ Fp', I pre Fp' W3 ∧ Chg Fp W W3 ∧ Ok W3 ∧ ∀ k, Fp' k → k < W3.heap.size ∧ (k < W.heap.size → Fp k)
  | .ret, _, W3 => Ix .ret pre W3 ∧ Chg Fp W W3 ∧ Ok W3
  | .exit id, _, W3 => Ix (.exit id) pre W3 ∧ Chg Fp W W3 ∧ Ok W3
  | .goto t, _, W3 => Ix (.goto t) pre W3 ∧ Chg Fp W W3 ∧ Ok W3
  | .panic _, _, _ => False
  | .outgrown, _, _ => False

theorem rangeFunc {α : Type} {P : Program} {g : Operand} {ps : Array Tmp} {assign body : Code} {Q : Exit → Act → World → Prop} {a : Act} {w : World}
    {gf : Nat} {lb : Array Value} (hg : a.eval g = .func (.func gf) #[] lb) (eg : ∀ args w, (callFunc gf args).run P w = .ok (.enter gf args) w)
    {encs : α → Array Value} {M : Nat → Prop} {Ok : World → Prop} {xs : List α} (hit : Iter P gf lb encs M Ok xs w) (hps : ∀ x, (encs x).size = ps.size)
    (I : List α → (Nat → Prop) → World → Prop) (Ix : Code → List α → World → Prop) (Fp0 : Nat → Prop) (hM : ∀ k, M k → k < w.heap.size)
    (hOkn : ∀ A B, Ok A → Chg (fun k => w.heap.size ≤ k) A B → Ok B)
    (hI : ∀ pre Fp A B, I pre Fp A → Chg (fun k => M k ∨ (w.heap.size ≤ k ∧ ¬ Fp k)) A B → Ok B → I pre Fp B)
    (hIx : ∀ c pre A B, Ix c pre A → Chg (fun k => M k ∨ w.heap.size ≤ k) A B → Ok B → Ix c pre B)
    (h0 : I [] Fp0 w) (hF0 : ∀ k, Fp0 k → k < w.heap.size) (hOk : Ok w)
    (hround : ∀ (l : Nat) (pre : List α) (x : α) (Fp : Nat → Prop) (W : World), w.heap.size < l → l < W.heap.size → ¬ Fp l → (∀ k, Fp k → k < W.heap.size) → pre ++ [x] <+: xs → I pre Fp W → Ok W →
      assign.wpIn (Fence.wide.inRound l) 0 P (Exit.then (fun a1 W1 => Chg (fun _ => False) W W1 ∧ ∀ W2, Chg (fun k => k = l) W1 W2 → W1.heap.size = W2.heap.size → I pre Fp W2 → Ok W2 → body.wpIn (Fence.wide.inRound l) 0 P (roundQ Ok I Ix Fp (pre ++ [x]) W2) a1 W2) (fun _ _ _ => False))
        { tmps := (ps.zip (encs x)).foldl (fun t (p, v) => t.setIfInBounds p v) a.tmps, defers := [] } W)
    (hdone : ∀ (Fp : Nat → Prop) (W : World), I xs Fp W → Ok W → ¬ Fp w.heap.size → W.heap[w.heap.size]? = some (.deferred (some [])) → w.heap.size < W.heap.size → Q .normal { a with defers := { target := .collected w.heap.size, args := #[] } :: a.defers } W)
    (hstop : ∀ (c : Code) (pre : List α) (W : World), pre <+: xs → Ix c pre W → Ok W → W.heap[w.heap.size]? = some (.deferred (some [])) → w.heap.size < W.heap.size → c.wpIn Fence.wide 0 P Q { a with defers := { target := .collected w.heap.size, args := #[] } :: a.defers } W) :
    (Code.rangeFunc g ps assign body).wpIn Fence.wide 0 P Q a w := by
  refine wpIn_rangeFunc ?_
  intro fn hfn
  rw [show Fence.wide.round = none from rfl]
  obtain ⟨rec, hrec⟩ : ∃ rec : LoopState → Option Code → Loop, rec = fun st pe => { state := st, pending := pe, fn, tmps := a.tmps, params := ps, assign, body, defers := w.heap.size } := ⟨_, rfl⟩
  obtain ⟨W1, hW1⟩ : ∃ W1, (w.alloc (.deferred (some []))).alloc (.loop (rec .ready none)) = W1 := ⟨_, rfl⟩
  have hsz : W1.heap.size = w.heap.size + 2 := by rw [← hW1]; simp
  have hL1 : W1.heap[w.heap.size + 1]? = some (.loop (rec .ready none)) := by
    rw [← hW1]; have := World.alloc_heap_new (w.alloc (.deferred (some []))) (.loop (rec .ready none)); rwa [World.size_alloc] at this
  have hK1 : W1.heap[w.heap.size]? = some (.deferred (some [])) := by
    rw [← hW1]; exact (Below.heap_alloc _ _ _ (by simp)).trans (World.alloc_heap_new w _)
  have hch : ∀ S, Chg S w W1 := fun S => by rw [← hW1]; exact ((Chg.refl S w).alloc _).alloc _
  have hOk1 : Ok W1 := hOkn _ _ hOk (hch _)
  have hI1 : I [] Fp0 W1 := hI _ _ _ _ h0 (hch _) hOk1
  have hb1 : Below w.heap.size w W1 := (hch (fun k => w.heap.size ≤ k)).below (fun k _ h => h) (Nat.le_refl _)
  refine ⟨w.heap.size + 1, [{ target := .collected w.heap.size, args := #[] }], W1, { target := .fn (.func gf) lb, args := #[.func (.yield (w.heap.size + 1)) #[] #[]] }, W1, gf,
    #[.func (.yield (w.heap.size + 1)) #[] #[]] ++ lb, W1, ?_, ?_, ?_, ?_, (fun h => by cases h), ?_⟩
  · rw [← hW1, hrec]; exact run_enterLoop_outer _ _ _ _ _
  · simp only [resolve, hg]
    simp [go_sem]
  · intro f' _; trivial
  · simp [invoke, go_sem, eg]
  · refine (hit (w.heap.size + 1)
      (fun pre Fp W => I pre Fp W ∧ ¬ Fp w.heap.size ∧ ¬ Fp (w.heap.size + 1) ∧ W.heap[w.heap.size + 1]? = some (.loop (rec .ready none)) ∧ W.heap[w.heap.size]? = some (.deferred (some [])))
      (fun pre W => ∃ c, Ix c pre W ∧ W.heap[w.heap.size + 1]? = some (.loop (rec .done (some c))) ∧ W.heap[w.heap.size]? = some (.deferred (some [])))
      W1 Fp0 hb1 (by omega) (by omega) (fun k hk => by have := hF0 k hk; omega) ?_ ?_ ?_
      ⟨hI1, fun h => by have := hF0 _ h; omega, fun h => by have := hF0 _ h; omega, hL1, hK1⟩ hOk1).mono ?_
    · rintro pre Fp A B ⟨hi, hfD, hfl, hl, hk⟩ hc hok
      refine ⟨hI _ _ _ _ hi (hc.mono (fun k _ h => h.imp id (fun h => ⟨by omega, h.2⟩))) hok, hfD, hfl, hc.heap hl (fun h => ?_), hc.heap hk (fun h => ?_)⟩
      · rcases h with h | h
        · have := hM _ h; omega
        · have := h.1; omega
      · rcases h with h | h
        · have := hM _ h; omega
        · have := h.1; omega
    · rintro pre A B ⟨c, hi, hl, hk⟩ hc hok
      refine ⟨c, hIx _ _ _ _ hi (hc.mono (fun k _ h => h.imp id (fun h => by omega))) hok, hc.heap hl (fun h => ?_), hc.heap hk (fun h => ?_)⟩
      · rcases h with h | h
        · have := hM _ h; omega
        · omega
      · rcases h with h | h
        · have := hM _ h; omega
        · omega
    · -- ONE ROUND
      rintro pre x Fp W hpre ⟨hi, hfD, hfl, hl, hk⟩ hok hFp
      have hlt : w.heap.size + 1 < W.heap.size := (Array.getElem?_eq_some_iff.1 hl).1
      have hy := run_yield (P := P) (args := encs x) hl (by rw [hrec]; exact hps x)
      rw [hrec] at hy
      refine ⟨fn, _, assign, body, hy, roundIn_of_wpIn hfn (wpIn_mono (hround _ pre x Fp W (by omega) hlt hfl hFp hpre hi hok) ?_)⟩
      clear hy
      intro e a1 Wa hp
      cases e with
      | normal =>
        obtain ⟨hca, hbody⟩ := hp
        have hla := hca.heap hl (fun h => h)
        have hka := hca.heap hk (fun h => h)
        have hlta : w.heap.size + 1 < Wa.heap.size := (Array.getElem?_eq_some_iff.1 hla).1
        refine ⟨_, run_beginRound hla (by rw [hrec]), ?_⟩
        have hl2 : (Wa.putObj (w.heap.size + 1) (.loop { rec .ready none with state := .busy })).heap[w.heap.size + 1]? = some (.loop { rec .ready none with state := .busy }) := World.putObj_heap_same hlta
        have hk2 : (Wa.putObj (w.heap.size + 1) (.loop { rec .ready none with state := .busy })).heap[w.heap.size]? = some (.deferred (some [])) := (World.putObj_heap_other (by omega)).trans hka
        have hc2 : Chg (fun k => k = w.heap.size + 1) Wa (Wa.putObj (w.heap.size + 1) (.loop { rec .ready none with state := .busy })) := (Chg.refl (fun k => k = w.heap.size + 1) _).putObj (l := w.heap.size + 1) (fun _ => rfl) _
        have hcW : Chg (fun k => k = w.heap.size + 1) W (Wa.putObj (w.heap.size + 1) (.loop { rec .ready none with state := .busy })) := (hca.mono (fun _ _ h => h.elim)).trans hc2
        have hok2 : Ok (Wa.putObj (w.heap.size + 1) (.loop { rec .ready none with state := .busy })) := hOkn _ _ hok (hcW.mono (fun k _ e => by omega))
        have hi2 : I pre Fp (Wa.putObj (w.heap.size + 1) (.loop { rec .ready none with state := .busy })) := hI _ _ _ _ hi (hcW.mono (fun k _ e => .inr ⟨by omega, by rw [e]; exact hfl⟩)) hok2
        refine wpIn_mono (hbody _ hc2 (by simp) hi2 hok2) ?_
        have hszl : (Wa.putObj (w.heap.size + 1) (.loop { rec .ready none with state := .busy })).heap.size = Wa.heap.size := by simp
        have hWa : W.heap.size ≤ Wa.heap.size := hca.size
        have fin : ∀ (jump : Option Code) (W3 : World), Chg Fp (Wa.putObj (w.heap.size + 1) (.loop { rec .ready none with state := .busy })) W3 →
            (Instr.endRound (w.heap.size + 1) jump).run P W3 = .ok (.bool jump.isNone) (W3.putObj (w.heap.size + 1) (.loop (rec (if jump.isNone then .ready else .done) jump))) ∧
            W3.heap[w.heap.size + 1]? = some (.loop { rec .ready none with state := .busy }) ∧
            (W3.putObj (w.heap.size + 1) (.loop (rec (if jump.isNone then .ready else .done) jump))).heap[w.heap.size + 1]? = some (.loop (rec (if jump.isNone then .ready else .done) jump)) ∧
            (W3.putObj (w.heap.size + 1) (.loop (rec (if jump.isNone then .ready else .done) jump))).heap[w.heap.size]? = some (.deferred (some [])) := fun jump W3 hk3 => by
          have hl3 := hk3.heap hl2 hfl
          have := run_endRound (P := P) jump hl3
          rw [hrec] at this ⊢
          exact ⟨this, by rw [hrec] at hl3; exact hl3, World.putObj_heap_same (Array.getElem?_eq_some_iff.1 hl3).1, (World.putObj_heap_other (by omega)).trans (hk3.heap hk2 hfD)⟩
        rintro e a3 W3 hp
        cases e with
        | normal =>
          obtain ⟨Fp', hi3, hc3, hok3, hF3⟩ := hp
          obtain ⟨hr, hl3, hl4, hk4⟩ := fin none W3 hc3
          have hlt3 : w.heap.size + 1 < W3.heap.size := (Array.getElem?_eq_some_iff.1 hl3).1
          have hnl : ¬ Fp' (w.heap.size + 1) := fun h => hfl ((hF3 _ h).2 (by rw [hszl]; omega))
          have hnD : ¬ Fp' w.heap.size := fun h => hfD ((hF3 _ h).2 (by rw [hszl]; omega))
          have hc4 : Chg (fun k => k = w.heap.size + 1) W3 (W3.putObj (w.heap.size + 1) (.loop (rec .ready none))) := (Chg.refl (fun k => k = w.heap.size + 1) _).putObj (l := w.heap.size + 1) (fun _ => rfl) _
          have hok4 : Ok (W3.putObj (w.heap.size + 1) (.loop (rec .ready none))) := hOkn _ _ hok3 (hc4.mono (fun k _ e => by omega))
          refine ⟨_, _, hr, .inl ⟨rfl, Fp', ⟨hI _ _ _ _ hi3 (hc4.mono (fun k _ e => .inr ⟨by omega, by rw [e]; exact hnl⟩)) hok4, hnD, hnl, hl4, hk4⟩, ?_, hok4, fun k hk' => ⟨by have := (hF3 k hk').1; simpa using this, fun hlt' => (hF3 k hk').2 (by rw [hszl]; omega)⟩⟩⟩
          exact ((hcW.mono (fun k _ e => .inr e)).trans (hc3.mono (fun k _ e => .inl e))).trans (hc4.mono (fun k _ e => .inr e))
        | ret =>
          obtain ⟨hi3, hc3, hok3⟩ := hp
          obtain ⟨hr, hl3, hl4, hk4⟩ := fin (some .ret) W3 hc3
          have hc4 : Chg (fun k => w.heap.size ≤ k) W3 (W3.putObj (w.heap.size + 1) (.loop (rec .done (some .ret)))) := (Chg.refl _ _).putObj (fun _ => by omega) _
          have hok4 := hOkn _ _ hok3 hc4
          exact ⟨_, _, hr, .inr ⟨rfl, ⟨.ret, hIx _ _ _ _ hi3 (hc4.mono (fun k _ h => .inr h)) hok4, hl4, hk4⟩, hok4⟩⟩
        | exit id =>
          obtain ⟨hi3, hc3, hok3⟩ := hp
          obtain ⟨hr, hl3, hl4, hk4⟩ := fin (some (.exit id)) W3 hc3
          have hc4 : Chg (fun k => w.heap.size ≤ k) W3 (W3.putObj (w.heap.size + 1) (.loop (rec .done (some (.exit id))))) := (Chg.refl _ _).putObj (fun _ => by omega) _
          have hok4 := hOkn _ _ hok3 hc4
          exact ⟨_, _, hr, .inr ⟨rfl, ⟨.exit id, hIx _ _ _ _ hi3 (hc4.mono (fun k _ h => .inr h)) hok4, hl4, hk4⟩, hok4⟩⟩
        | goto t =>
          obtain ⟨hi3, hc3, hok3⟩ := hp
          obtain ⟨hr, hl3, hl4, hk4⟩ := fin (some (.goto t)) W3 hc3
          have hc4 : Chg (fun k => w.heap.size ≤ k) W3 (W3.putObj (w.heap.size + 1) (.loop (rec .done (some (.goto t))))) := (Chg.refl _ _).putObj (fun _ => by omega) _
          have hok4 := hOkn _ _ hok3 hc4
          exact ⟨_, _, hr, .inr ⟨rfl, ⟨.goto t, hIx _ _ _ _ hi3 (hc4.mono (fun k _ h => .inr h)) hok4, hl4, hk4⟩, hok4⟩⟩
        | panic ch => exact hp.elim
        | outgrown => exact hp.elim
      | ret => exact hp.elim
      | exit id => exact hp.elim
      | goto t => exact hp.elim
      | panic ch => exact hp.elim
      | outgrown => exact hp.elim
    · -- BEHIND THE ITERATOR
      rintro e W2 ⟨⟨v, rfl⟩, (⟨Fp, ⟨hi, hfD, hfl, hl, hk⟩, hok, hF⟩ | ⟨pre, hpre, ⟨c, hi, hl, hk⟩, hok⟩)⟩
      · have hc4 : Chg (fun k => k = w.heap.size + 1) W2 (W2.putObj (w.heap.size + 1) (.loop { rec .ready none with state := .exhausted })) := (Chg.refl (fun k => k = w.heap.size + 1) _).putObj (l := w.heap.size + 1) (fun _ => rfl) _
        have hok4 := hOkn _ _ hok (hc4.mono (fun k _ e => by omega))
        have hlt : w.heap.size + 1 < W2.heap.size := (Array.getElem?_eq_some_iff.1 hl).1
        exact ⟨none, _, by have := run_endLoop (P := P) hl (by rw [hrec]; simp); rw [hrec] at this ⊢; exact this,
          hdone Fp _ (hI _ _ _ _ hi (hc4.mono (fun k _ e => .inr ⟨by omega, by rw [e]; exact hfl⟩)) hok4) hok4 hfD ((World.putObj_heap_other (by omega)).trans hk) (by rw [World.putObj_size]; omega)⟩
      · have hc4 : Chg (fun k => w.heap.size ≤ k) W2 (W2.putObj (w.heap.size + 1) (.loop { rec .done (some c) with state := .exhausted })) := (Chg.refl _ _).putObj (fun _ => by omega) _
        have hok4 := hOkn _ _ hok hc4
        have hlt : w.heap.size + 1 < W2.heap.size := (Array.getElem?_eq_some_iff.1 hl).1
        exact ⟨some c, _, by have := run_endLoop (P := P) hl (by rw [hrec]; simp); rw [hrec] at this ⊢; exact this,
          hstop c pre _ hpre (hIx _ _ _ _ hi (hc4.mono (fun k _ h => .inr h)) hok4) hok4 ((World.putObj_heap_other (by omega)).trans hk) (by rw [World.putObj_size]; omega)⟩
end Go.Proofs.YtemeapfnfegkiaaK
end
/- General lemmas of this session's own: bits of int. -/
section
namespace Go.Proofs.YtemeapfnfegkiaaK
open Go Go.RowKit
set_option linter.unusedVariables false

theorem wraps_i64 (n : Int) (h₀ : 0 ≤ n) (h₁ : n < 2 ^ 62) : IntKind.i64.wrap n = n := by rw [IntKind.wrap_i64]; omega
theorem and_i64 (a b : Nat) (ha : a < 2 ^ 62) (hb : b < 2 ^ 62) : bits .and .i64 (a : Int) (b : Int) = ((a &&& b : Nat) : Int) := (bits_nat .i64 62 (by decide) wraps_i64 a b ha hb).1
theorem or_i64 (a b : Nat) (ha : a < 2 ^ 62) (hb : b < 2 ^ 62) : bits .or .i64 (a : Int) (b : Int) = ((a ||| b : Nat) : Int) := (bits_nat .i64 62 (by decide) wraps_i64 a b ha hb).2
/-- the bits of a that b has not -/
def less (a b : Nat) : Nat := a ^^^ (a &&& b)
theorem less_testBit (a b k : Nat) : (less a b).testBit k = (a.testBit k && !b.testBit k) := by
  simp only [less, Nat.testBit_xor, Nat.testBit_and]
  cases a.testBit k <;> cases b.testBit k <;> rfl
theorem andNot_i64 (a b : Nat) (ha : a < 2 ^ 62) (hb : b < 2 ^ 62) : bits .andNot .i64 (a : Int) (b : Int) = ((less a b : Nat) : Int) := by
  have h1 : (BitVec.ofInt 64 (a : Int)).toNat = a := by
    rw [BitVec.ofInt_natCast, BitVec.toNat_ofNat]; exact Nat.mod_eq_of_lt (by omega)
  have h2 : (BitVec.ofInt 64 (b : Int)).toNat = b := by
    rw [BitVec.ofInt_natCast, BitVec.toNat_ofNat]; exact Nat.mod_eq_of_lt (by omega)
  have e : (BitVec.ofInt 64 (a : Int) &&& ~~~ BitVec.ofInt 64 (b : Int)).toNat = less a b := by
    apply Nat.eq_of_testBit_eq
    intro i
    rw [less_testBit, BitVec.testBit_toNat, BitVec.getLsbD_and, BitVec.getLsbD_not, ← BitVec.testBit_toNat, ← BitVec.testBit_toNat, h1, h2]
    by_cases hi : i < 64
    · simp [hi]
    · have : a.testBit i = false := Nat.testBit_lt_two_pow (Nat.lt_of_lt_of_le ha (Nat.pow_le_pow_right (by decide) (by omega)))
      simp [this]
  have hlt : less a b < 2 ^ 62 := Nat.xor_lt_two_pow ha (Nat.and_lt_two_pow _ hb)
  show IntKind.i64.wrap ((BitVec.ofInt 64 (a : Int) &&& ~~~ BitVec.ofInt 64 (b : Int)).toNat : Int) = _
  rw [e]
  exact wraps_i64 _ (by omega) (by exact_mod_cast hlt)
theorem bit1 (a k : Nat) (ha : a < 2 ^ 62) : bits .and .i64 ((a : Int) / 2 ^ k) 1 = if a.testBit k = true then 1 else 0 := by
  have e : ((a : Int) / 2 ^ k) = ((a / 2 ^ k : Nat) : Int) := by push_cast; rfl
  have h := and_i64 (a / 2 ^ k) 1 (Nat.lt_of_le_of_lt (Nat.div_le_self _ _) ha) (by decide)
  rw [e, show ((1 : Int)) = ((1 : Nat) : Int) from rfl, h, Nat.and_one_is_mod, Nat.testBit_eq_decide_div_mod_eq]
  by_cases hb : a / 2 ^ k % 2 = 1
  · simp [hb]
  · have : a / 2 ^ k % 2 = 0 := by omega
    simp [this]
theorem shl1 (k : Nat) (hk : k < 62) : IntKind.i64.wrap (1 * 2 ^ k) = ((2 ^ k : Nat) : Int) := by
  have : (2 : Nat) ^ k < 2 ^ 62 := Nat.pow_lt_pow_right (by decide) hk
  rw [Int.one_mul, wraps_i64 _ (Int.pow_nonneg (by decide)) (by exact_mod_cast this)]; push_cast; rfl
end Go.Proofs.YtemeapfnfegkiaaK
end
/- General lemmas of this session's own: equality of structs of two ints, of arrays of ints; maps by such keys. -/
section
namespace Go.Proofs.YtemeapfnfegkiaaK
open Go Go.RowKit
set_option linter.unusedVariables false
set_option linter.unusedSimpArgs false
variable {P : Program}

theorem eqItems_ints {e : TypeId} (hu : P.underlying e = some (.int .i64)) (hp : P.plainKey e = true) (d : Nat) (xs ys : List Int) (w : World) : ∀ (is : List Nat), (∀ i, i ∈ is → i < xs.length ∧ i < ys.length) →
    (Op.eqItems (d + 1) e 1 (xs.map (Value.int .i64)).toArray (ys.map (Value.int .i64)).toArray is).run P w = .ok (is.all fun i => xs[i]?.getD 0 == ys[i]?.getD 0) w
  | [], _ => by simp [Op.eqItems]
  | i :: is, h => by
    obtain ⟨hx, hy⟩ := h i (by simp)
    have h1 : (part e (xs.map (Value.int .i64)).toArray i).run P w = .ok (.int .i64 xs[i]) w := run_part_plain w hp (by simp [hx])
    have h2 : (part e (ys.map (Value.int .i64)).toArray i).run P w = .ok (.int .i64 ys[i]) w := run_part_plain w hp (by simp [hy])
    have h3 : (Op.equalIn (d + 1) e (.int .i64 xs[i]) (.int .i64 ys[i])).run P w = .ok (xs[i] == ys[i]) w := run_equalIn_int w d e .i64 .i64 _ _ hu
    have ih := eqItems_ints hu hp d xs ys w is (fun j hj => h j (by simp [hj]))
    simp only [Op.eqItems, Nat.mul_one, Sem.run_bind, h1, h2, h3, Result.andThen_ok, List.all_cons, List.getElem?_eq_getElem hx, List.getElem?_eq_getElem hy, Option.getD_some]
    cases (xs[i] == ys[i]) with
    | false => simp
    | true => simpa using ih

theorem all_get (xs ys : List Int) (h : xs.length = ys.length) : ((List.range xs.length).all fun i => xs[i]?.getD 0 == ys[i]?.getD 0) = (xs == ys) := by
  rw [Bool.eq_iff_iff, List.all_eq_true, beq_iff_eq]
  constructor
  · intro hh
    apply List.ext_getElem h
    intro i h1 h2
    have := hh i (by simpa using h1)
    simpa [h1, h2] using this
  · rintro rfl
    intro i _
    simp

/-- '==' of two arrays of ints -/
theorem equal_array (w : World) {T e : TypeId} {n : Nat} {i : TypeInfo} (ht : P.underlying T = some (.array n e)) (hi : P.info? e = some i) (hc : P.cellsOf e = 1) (hu : P.underlying e = some (.int .i64)) (hp : P.plainKey e = true)
    (xs ys : List Int) (hx : xs.length = n) (hy : ys.length = n) (d : Nat) (hd : 0 < d) :
    (Op.equalIn (d + 1) T (.agg (xs.map (Value.int .i64)).toArray) (.agg (ys.map (Value.int .i64)).toArray)).run P w = .ok (xs == ys) w := by
  obtain ⟨d, rfl⟩ : ∃ m, d = m + 1 := ⟨d - 1, by omega⟩
  rw [run_equalIn_array w (d + 1) _ _ ht hi, hc, eqItems_ints hu hp d xs ys w _ (fun j hj => by simp at hj; omega), ← hx, all_get xs ys (by omega)]

/-- '==' of two structs of two ints -/
theorem equal_two (w : World) {T e : TypeId} (ht : P.underlying T = some (.struct (P.fieldsOf T))) (hs : P.stoodInHeld T = false) (hu : P.underlying e = some (.int .i64)) (hp : P.plainKey e = true)
    (hf : ((P.fieldsOf T).toList.map fun f => (f.name == "_", f.type, f.offset)) = [(false, e, 0), (false, e, 1)]) (a b c d : Int) (n : Nat) (hn : 0 < n) :
    (Op.equalIn (n + 1) T (.agg #[.int .i64 a, .int .i64 b]) (.agg #[.int .i64 c, .int .i64 d])).run P w = .ok (a == c && b == d) w := by
  obtain ⟨n, rfl⟩ : ∃ m, n = m + 1 := ⟨n - 1, by omega⟩
  rw [run_equalIn_struct w (n + 1) _ _ _ ht hs]
  revert hf
  generalize (P.fieldsOf T).toList = F
  intro hf
  have hl : F.length = 2 := by simpa using congrArg List.length hf
  obtain ⟨f1, f2, rfl⟩ : ∃ f1 f2, F = [f1, f2] := by
    rcases F with _ | ⟨f1, _ | ⟨f2, _ | ⟨f3, F⟩⟩⟩ <;> first | exact ⟨_, _, rfl⟩ | simp at hl
  · skip
    simp only [List.map_cons, List.map_nil, List.cons.injEq, Prod.mk.injEq, and_true] at hf
    obtain ⟨⟨n1, t1, o1⟩, n2, t2, o2⟩ := hf
    have n1' : f1.name ≠ "_" := by simpa using n1
    have n2' : f2.name ≠ "_" := by simpa using n2
    have p1 : ∀ (a b : Int), (part e #[.int .i64 a, .int .i64 b] 0).run P w = .ok (.int .i64 a) w := fun a b => run_part_plain w hp rfl
    have p2 : ∀ (a b : Int), (part e #[.int .i64 a, .int .i64 b] 1).run P w = .ok (.int .i64 b) w := fun a b => run_part_plain w hp rfl
    have q : ∀ (a b : Int), (Op.equalIn (n + 1) e (.int .i64 a) (.int .i64 b)).run P w = .ok (a == b) w := fun a b => run_equalIn_int w n e .i64 .i64 a b hu
    have e2 : (Op.eqFields (n + 1) #[.int .i64 a, .int .i64 b] #[.int .i64 c, .int .i64 d] [f2]).run P w = .ok (b == d) w := by
      simp only [Op.eqFields, t2, o2, n2', ne_eq, not_false_eq_true, if_true, Sem.run_bind, p2, q, Result.andThen_ok]
      cases (b == d) <;> simp
    rw [Op.eqFields]
    simp only [t1, o1, n1', ne_eq, not_false_eq_true, if_true, Sem.run_bind, p1, q, Result.andThen_ok]
    cases (a == c) with
    | false => simp
    | true => simpa using e2

/-! ### maps by keys that are compared by content -/
structure KeyRun {α : Type} [DecidableEq α] (P : Program) (k : TypeId) (enc : α → Value) : Prop where
  chk : ∀ e a w, (Instr.checkKey e 10000 k (enc a)).run P w = .ok () w
  eq : ∀ a b w, (Op.equal k (enc a) (enc b)).run P w = .ok (decide (a = b)) w
  und : ∃ desc, P.underlying k = some desc ∧ ∀ a b, Instr.sameNow desc (enc a) (enc b) = none
  same : ∀ a, Instr.sameBits 10000 (enc a) (enc a) = true

/-- block m is a map that holds l -/
def MapAt {α : Type} (W : World) (m : Nat) (enc : α → Value) (l : List (α × Value)) : Prop :=
  ∃ es clock, W.heap[m]? = some (.map es clock) ∧ es.toList.map (fun e => (e.key, e.val)) = l.map (fun p => (enc p.1, p.2))
theorem MapAt.chg {α : Type} {W W' : World} {m : Nat} {enc : α → Value} {l : List (α × Value)} {S : Nat → Prop} (h : MapAt W m enc l) (hc : Chg S W W') (hs : ¬ S m) : MapAt W' m enc l := by
  obtain ⟨es, clock, hb, he⟩ := h
  exact ⟨es, clock, hc.heap hb hs, he⟩
theorem MapAt.made {α : Type} (W : World) (enc : α → Value) : MapAt (W.alloc (.map #[] 0)) W.heap.size enc [] := ⟨#[], 0, World.alloc_heap_new _ _, rfl⟩

section
variable {α : Type} [DecidableEq α] {k : TypeId} {enc : α → Value}
def mlook (a : α) : List (α × Value) → Option Value
  | [] => none
  | (b, v) :: l => if a = b then some v else mlook a l
def mput (a : α) (v : Value) : List (α × Value) → List (α × Value)
  | [] => [(a, v)]
  | (b, u) :: l => if a = b then (b, v) :: l else (b, u) :: mput a v l
theorem look_none {a : α} {v : Value} : ∀ {l : List (α × Value)}, mlook a l = none → mput a v l = l ++ [(a, v)]
  | [], _ => rfl
  | (b, u) :: l, h => by
    unfold mlook at h
    by_cases e : a = b
    · rw [if_pos e] at h; cases h
    · rw [if_neg e] at h; rw [mput, if_neg e, look_none h]; rfl
theorem look_mem {a : α} {v : Value} : ∀ {l : List (α × Value)}, mlook a l = some v → (a, v) ∈ l
  | [], h => by cases h
  | (b, u) :: l, h => by
    unfold mlook at h
    by_cases e : a = b
    · rw [if_pos e] at h; cases h; subst e; simp
    · rw [if_neg e] at h; simp [look_mem h]

/-- at which place the key stands -/
def place (a : α) : List (α × Value) → Nat → Option (Nat × Value)
  | [], _ => none
  | (b, v) :: l, i => if a = b then some (i, v) else place a l (i + 1)
theorem place_look (a : α) : ∀ (l : List (α × Value)) (i : Nat), (place a l i).map (·.2) = mlook a l
  | [], _ => rfl
  | (b, v) :: l, i => by
    unfold place mlook
    by_cases e : a = b
    · simp [e]
    · simp [e, place_look a l (i + 1)]
theorem findAsking_run (K : KeyRun P k enc) (a : α) (w : World) : ∀ (es : List MapEntry) (l : List (α × Value)) (i : Nat), es.map (fun e => (e.key, e.val)) = l.map (fun p => (enc p.1, p.2)) →
    (Instr.findAsking k (enc a) es i).run P w = .ok (place a l i) w
  | [], l, i, h => by
    have : l = [] := by simpa using h.symm
    subst this; simp [Instr.findAsking, place]
  | e :: es, l, i, h => by
    match l, h with
    | (b, v) :: l, h =>
      simp only [List.map_cons, List.cons.injEq, Prod.mk.injEq] at h
      obtain ⟨⟨h1, h2⟩, h3⟩ := h
      have ih := findAsking_run K a w es l (i + 1) h3
      simp only [Instr.findAsking, Sem.run_bind, h1, K.eq, Result.andThen_ok, place]
      by_cases e : a = b
      · simp [e, h2]
      · simpa [e] using ih
theorem findKey_run (K : KeyRun P k enc) (a : α) (w : World) (es : List MapEntry) (l : List (α × Value)) (h : es.map (fun e => (e.key, e.val)) = l.map (fun p => (enc p.1, p.2))) :
    (Instr.findKey k (enc a) es).run P w = .ok (place a l 0) w := by
  obtain ⟨desc, hd, hs⟩ := K.und
  match es, l, h with
  | [], l, h =>
    have : l = [] := by simpa using h.symm
    subst this
    simp [Instr.findKey, Sem.run_bind, run_underlying hd, Instr.findNow, place, Result.andThen_ok]
  | e :: es, [], h => simp at h
  | e :: es, (b, v) :: l, h =>
    have h' := h
    simp only [List.map_cons, List.cons.injEq, Prod.mk.injEq] at h'
    have hk : e.key = enc b := h'.1.1
    have := findAsking_run K a w (e :: es) ((b, v) :: l) 0 h
    simpa only [Instr.findKey, Sem.run_bind, run_underlying hd, Instr.findNow, hk, hs, Result.andThen_ok] using this
theorem lookup_run (K : KeyRun P k enc) {T elem : TypeId} (hT : P.underlying T = some (.map k elem)) {z : Value} {W : World} (hz : (zeroValue elem).run P W = .ok z W) {m : Nat} {l : List (α × Value)} (h : MapAt W m enc l) (a : α) (c : Bool) :
    (Instr.lookup T (.map (some m)) (enc a) c).run P W = .ok (match mlook a l with | some v => (if c then .tuple #[v, .bool true] else v) | none => (if c then .tuple #[z, .bool false] else z)) W := by
  obtain ⟨es, clock, hb, he⟩ := h
  have hg : (getObj m).run P W = .ok (.map es clock) W := by simp [getObj, Sem.run, hb]
  simp only [Instr.lookup, Sem.run_bind, run_underlying hT, Result.andThen_ok, hg, Sem.run_pure, K.chk, findKey_run K a W es.toList l he]
  rw [← place_look a l 0]
  cases place a l 0 with
  | none => cases c <;> simp [hz, Sem.run_bind]
  | some p => cases c <;> simp [Sem.run_bind]
theorem modify_put (a : α) (v : Value) : ∀ (es : List MapEntry) (l : List (α × Value)) (i j : Nat) (u : Value), es.map (fun e => (e.key, e.val)) = l.map (fun p => (enc p.1, p.2)) → place a l i = some (j, u) →
    i ≤ j ∧ (es[j - i]?.map (·.key)) = some (enc a) ∧ (es.modify (j - i) fun e => { e with key := enc a, val := v }).map (fun e => (e.key, e.val)) = (mput a v l).map (fun p => (enc p.1, p.2))
  | [], l, i, j, u, h, hp => by
    have : l = [] := by simpa using h.symm
    subst this; cases hp
  | e :: es, l, i, j, u, h, hp => by
    match l, h with
    | (b, x) :: l, h =>
      simp only [List.map_cons, List.cons.injEq, Prod.mk.injEq] at h
      obtain ⟨⟨h1, h2⟩, h3⟩ := h
      unfold place at hp
      by_cases eb : a = b
      · rw [if_pos eb] at hp
        simp only [Option.some.injEq, Prod.mk.injEq] at hp
        obtain ⟨rfl, rfl⟩ := hp
        refine ⟨Nat.le_refl _, by simp [h1, eb], ?_⟩
        rw [mput, if_pos eb]
        subst eb
        simp [h3]
      · rw [if_neg eb] at hp
        obtain ⟨q1, q2, q3⟩ := modify_put a v es l (i + 1) j u h3 hp
        refine ⟨by omega, ?_, ?_⟩
        · rw [show j - i = (j - (i + 1)) + 1 from by omega]; simpa using q2
        · rw [show j - i = (j - (i + 1)) + 1 from by omega, mput, if_neg eb]
          simp [q3, h1, h2]
theorem put_run (K : KeyRun P k enc) {T elem : TypeId} (hT : P.underlying T = some (.map k elem)) {W : World} {m : Nat} {l : List (α × Value)} (h : MapAt W m enc l) (a : α) (v : Value) :
    ∃ W', (Instr.mapUpdate T (.map (some m)) (enc a) v).run P W = .ok () W' ∧ MapAt W' m enc (mput a v l) ∧ Chg (fun k => k = m) W W' ∧ W'.heap.size = W.heap.size := by
  obtain ⟨es, clock, hb, he⟩ := h
  have hg : (getObj m).run P W = .ok (.map es clock) W := by simp [getObj, Sem.run, hb]
  have hlt : m < W.heap.size := (Array.getElem?_eq_some_iff.1 hb).1
  have hset : ∀ o, (setObj m o).run P W = .ok () (W.putObj m o) := fun o => by simp [setObj, Sem.run, hb, World.putObj]
  have hc : ∀ o, Chg (fun k => k = m) W (W.putObj m o) := fun o => (Chg.refl (fun k => k = m) W).putObj (l := m) (fun _ => rfl) o
  cases hp : place a l 0 with
  | none =>
    refine ⟨_, by simp only [Instr.mapUpdate, Sem.run_bind, run_underlying hT, Result.andThen_ok, hg, Sem.run_pure, K.chk, findKey_run K a W es.toList l he, hp, hset]; rfl, ⟨_, _, World.putObj_heap_same hlt, ?_⟩, hc _, by simp⟩
    have hl : mlook a l = none := by rw [← place_look a l 0, hp]; rfl
    rw [look_none hl]; simp [he]
  | some p =>
    obtain ⟨i, u⟩ := p
    obtain ⟨_, q2, q3⟩ := modify_put (enc := enc) a v es.toList l 0 i u he hp
    simp only [Nat.sub_zero] at q2 q3
    have hkey : ((es[i]?).map (·.key)).getD (enc a) = enc a := by
      have : es[i]?.map (·.key) = some (enc a) := by simpa using q2
      rw [this]; rfl
    refine ⟨_, by simp only [Instr.mapUpdate, Sem.run_bind, run_underlying hT, Result.andThen_ok, hg, Sem.run_pure, K.chk, findKey_run K a W es.toList l he, hp, hkey, Instr.keyThatStays, K.same, if_true, hset]; rfl, ⟨_, _, World.putObj_heap_same hlt, ?_⟩, hc _, by simp⟩
    simpa using q3
end
end Go.Proofs.YtemeapfnfegkiaaK
end
/- General lemmas of this session's own: results that lie in cells; leaving behind a range over a function. -/
section
namespace Go.Proofs.YtemeapfnfegkiaaK
open Go Go.RowKit
set_option linter.unusedVariables false
set_option linter.unusedSimpArgs false
variable {P : Program}

theorem load_one {w : World} {ty : TypeId} {g : Nat} {v : Value} {d : TypeDesc} (hc : w.cell? ⟨g, 0, none⟩ = some v) (hu : P.underlying ty = some d) (hd : (match d with | .struct _ | .array _ _ => true | _ => false) = false) :
    (loadVar ty ⟨g, 0, none⟩).run P w = .ok v w := by
  have hagg : (isAgg ty).run P w = .ok false w := by
    unfold isAgg
    rw [Sem.run_bind, run_underlying hu w]
    cases d <;> simp_all
  simp [loadVar, Sem.run_bind, hagg]
  rw [hc]
theorem results_cell1 {fn : Func} {p : Tmp} {ty : TypeId} (h : fn.results = #[.cell p ty]) (tmps : Array Value) (w : World) (g : Nat) (v : Value) (d : TypeDesc) (hp : tmps.getD p undef = .pointer (some ⟨g, 0, none⟩))
    (hc : w.cell? ⟨g, 0, none⟩ = some v) (hu : P.underlying ty = some d) (hd : (match d with | .struct _ | .array _ _ => true | _ => false) = false) : (results fn tmps).run P w = .ok v w := by
  have hp' : tmps[p]?.getD undef = .pointer (some ⟨g, 0, none⟩) := by simpa using hp
  simp [results, h, hp', asAddr, load_one hc hu hd]
theorem results_cell2 {fn : Func} {p q : Tmp} {ty tz : TypeId} (h : fn.results = #[.cell p ty, .cell q tz]) (tmps : Array Value) (w : World) (g k : Nat) (u v : Value) (d e : TypeDesc) (hp : tmps.getD p undef = .pointer (some ⟨g, 0, none⟩)) (hq : tmps.getD q undef = .pointer (some ⟨k, 0, none⟩))
    (hc : w.cell? ⟨g, 0, none⟩ = some u) (hu : P.underlying ty = some d) (hd : (match d with | .struct _ | .array _ _ => true | _ => false) = false)
    (hc' : w.cell? ⟨k, 0, none⟩ = some v) (hu' : P.underlying tz = some e) (hd' : (match e with | .struct _ | .array _ _ => true | _ => false) = false) : (results fn tmps).run P w = .ok (.tuple #[u, v]) w := by
  have hp' : tmps[p]?.getD undef = .pointer (some ⟨g, 0, none⟩) := by simpa using hp
  have hq' : tmps[q]?.getD undef = .pointer (some ⟨k, 0, none⟩) := by simpa using hq
  simp [results, h, hp', hq', asAddr, load_one hc hu hd, load_one hc' hu' hd']

/-- A function that holds one range over a function leaves: the mark is come to; the results are read behind it. -/
theorem leave_mark {fn : Func} {R : Ending → World → Prop} {tmps : Array Value} {D : Nat} {w : World} {v : Value} (hD : w.heap[D]? = some (.deferred (some [])))
    (hr : (results fn tmps).run P (w.putObj D (.deferred none)) = .ok v (w.putObj D (.deferred none))) (h : R (.returned v) (w.putObj D (.deferred none))) :
    bodyPostM Fence.wide 0 P fn R .ret { tmps := tmps, defers := [{ target := .collected D, args := #[] }] } w :=
  ⟨by simp, .inl ⟨_, _, rfl, run_takeDeferred hD, ⟨v, hr, h⟩⟩⟩
theorem cell_putObj {w : World} {D : Nat} {o : Obj} {a : Addr} {v : Value} (h : w.cell? a = some v) (hD : w.heap[D]? = some (.deferred (some []))) : (w.putObj D o).cell? a = some v := by
  have hne : a.block ≠ D := fun e => by
    rw [World.cell?, e, hD] at h; cases h
  have : (w.putObj D o).heap[a.block]? = w.heap[a.block]? := World.putObj_heap_other hne
  rw [World.cell?_of_block (w := w) this]; exact h
end Go.Proofs.YtemeapfnfegkiaaK
end
/- General lemmas of this session's own: a row of ints that grows by append. -/
section
namespace Go.Proofs.YtemeapfnfegkiaaK
open Go Go.RowKit Go.Proofs.YtemeapfnfegkiaaW.PrintWords Go.Proofs.YtemeapfnfegkiaaW.PrintLast Go.Proofs.YtemeapfnfegkiaaW.PrintMore
set_option linter.unusedVariables false
set_option linter.unusedSimpArgs false
variable {P : Program}

/-- a slice that owns a row of ints, from block n0 on -/
def Row (w : World) (n0 e : Nat) (v : Value) (l : List Int) : Prop := w.ownsRow n0 e 1 v l.length (l.map (Value.int .i64))

namespace Row
variable {w w' : World} {n0 e : Nat} {v : Value} {l : List Int}
theorem nil (w : World) (n0 e : Nat) : Row w n0 e (.slice none 0 0) [] := World.ownsRow_nil w n0 e 1
theorem lt (h : Row w n0 e v l) : ∀ k, v.ownBlock = some k → n0 ≤ k ∧ k < w.heap.size := World.ownsRow.lt h
theorem chg {S : Nat → Prop} (h : Row w n0 e v l) (hc : Chg S w w') (hs : ∀ k, v.ownBlock = some k → ¬ S k) : Row w' n0 e v l := by
  refine ⟨h.1, ?_⟩
  rcases h.2 with hn | ⟨g, cap, cur, rfl, hb, hgg, rest⟩
  · exact .inl hn
  · exact .inr ⟨g, cap, cur, rfl, hb, hc.heap hgg (hs g rfl), rest⟩
theorem ne (h : Row w n0 e v l) {B : Nat} {cs : Array Value} {t : TypeId} {fr : Nat × Nat} (hB : w.heap[B]? = some (.cells cs t fr)) (ht : t ≠ e) : v.ownBlock ≠ some B := fun hv => by
  rcases h.2 with ⟨rfl, _⟩ | ⟨g, cap, cur, rfl, hb, hgg, rest⟩
  · simp [Value.ownBlock] at hv
  · simp [Value.ownBlock] at hv
    subst hv
    rw [hgg] at hB
    injection hB with hB
    injection hB with h1 h2
    exact ht h2.symm
theorem ne' (h : Row w n0 e v l) {B : Nat} {o : Obj} (hB : w.heap[B]? = some o) (ho : o.isCells = false) : v.ownBlock ≠ some B := fun hv => by
  rcases h.2 with ⟨rfl, _⟩ | ⟨g, cap, cur, rfl, hb, hgg, rest⟩
  · simp [Value.ownBlock] at hv
  · simp [Value.ownBlock] at hv
    subst hv
    rw [hgg] at hB
    injection hB with hB
    subst hB
    simp [Obj.isCells] at ho
theorem shape (h : Row w n0 e v l) : ∃ A c, v = .slice A l.length c ∧ l.length ≤ c := by
  rcases h.2 with ⟨rfl, h0⟩ | ⟨g, cap, cur, rfl, hb, hgg, hc, _⟩
  · exact ⟨none, 0, by rw [h0], by omega⟩
  · exact ⟨_, _, rfl, hc⟩
theorem read (h : Row w n0 e v l) {A : Option Addr} {n c : Nat} (hv : v = .slice A n c) (hl : l.length ≤ 9223372036854775807) : Kd.C (Kd.int .i64) w A l.length l := by
  refine ⟨rfl, hl, fun h0 => ?_⟩
  rcases h.2 with ⟨rfl, hn⟩ | ⟨g, cap, cur, rfl, hb, hgg, hc, hm, hs, ht⟩
  · omega
  · injection hv with h1 h2 h3
    subst h1
    refine ⟨_, rfl, fun j p hj => ⟨[.int .i64 p], rfl, rfl, fun i u hu => ?_⟩⟩
    have hi : i = 0 := by
      have := (List.getElem?_eq_some_iff.1 hu).1
      simpa using this
    subst hi
    simp at hu
    subst hu
    have hadd : (⟨g, 0, none⟩ : Addr).add (j * 1 + 0) = ⟨g, j, none⟩ := by unfold Addr.add; split <;> simp_all
    have hjl := (List.getElem?_eq_some_iff.1 hj).1
    show w.cell? ((⟨g, 0, none⟩ : Addr).add (j * 1 + 0)) = _
    rw [hadd, cell_of_row w g j cur e (0, 0) hgg]
    have hx : (l.map (Value.int .i64))[j]? = some (.int .i64 p) := by rw [List.getElem?_map, hj]; rfl
    rw [← ht, List.getElem?_take] at hx
    split at hx
    · simpa using hx
    · cases hx

/-- 'append(l, x)' -/
theorem append (h : Row w n0 e v l) {t : TypeId} (ty : TypeId) {i : TypeInfo} (ht : P.underlying t = some (.slice e)) (hi : P.info? e = some i) (hz : i.zero = some (.int .i64 0)) (hsize : i.size = 1) (hby : i.bytes = 8)
    {b : Nat} {x : Int} {t' : TypeId} (hx : w.heap[b]? = some (.cells #[.int .i64 x] t' (0, 0))) (hl : l.length ≤ 1000000) (hn0 : n0 ≤ w.heap.size) :
    ∃ v' w', (Builtin.append_ #[t, t] ty #[v, .slice (some ⟨b, 0, none⟩) 1 1]).run P w = .ok v' w' ∧ Row w' n0 e v' (l ++ [x]) ∧ Chg (fun k => v.ownBlock = some k) w w' ∧ (∀ k, v'.ownBlock = some k → k < w'.heap.size ∧ (v.ownBlock = some k ∨ k = w.heap.size)) := by
  obtain ⟨g, cap, w', hr, ho, hg, hor, hlt⟩ := run_append_lies (P := P) w t ty n0 e i _ 1 8 ht hi hz hsize hby rfl (by decide) v l.length _ h ⟨b, 0, none⟩ 1 1 [.int .i64 x] rfl (by
    intro j u hu
    have := World.news_of_block hx j u (by simpa using hu)
    exact this) (by simp [Value.oneCell']) (by decide) (by simp only [maxLen]; omega) (by omega) hn0 w.heap.size rfl
  refine ⟨_, w', hr, ?_, ⟨hg.os, hg.tape, hg.output, hg.size, fun k hk hn => hg.block k hk (fun e => hn e.symm)⟩, ?_⟩
  · unfold Row
    rw [List.length_append, List.map_append]
    exact ho
  · intro k hk
    simp [Value.ownBlock] at hk
    subst hk
    exact ⟨hlt, hor⟩
end Row
end Go.Proofs.YtemeapfnfegkiaaK
end
/- General lemmas of this session's own: a block of ints, known whole; make, copy, clear, stores. -/
section
namespace Go.Proofs.YtemeapfnfegkiaaK
open Go Go.RowKit Go.Proofs.YtemeapfnfegkiaaW.PrintWords Go.Proofs.YtemeapfnfegkiaaW.PrintLast Go.Proofs.YtemeapfnfegkiaaW.PrintMore
set_option linter.unusedVariables false
set_option linter.unusedSimpArgs false
variable {P : Program}

/-- block g holds these ints -/
def IB (w : World) (e g : Nat) (L : List Int) : Prop := w.heap[g]? = some (.cells (L.map (Value.int .i64)).toArray e (0, 0))
namespace IB
variable {w w' : World} {e g : Nat} {L : List Int}
theorem lt (h : IB w e g L) : g < w.heap.size := (Array.getElem?_eq_some_iff.1 h).1
theorem chg {S : Nat → Prop} (h : IB w e g L) (hc : Chg S w w') (hs : ¬ S g) : IB w' e g L := hc.heap h hs
theorem cell (h : IB w e g L) (k : Nat) (hk : k < L.length) : w.cell? ⟨g, k, none⟩ = some (.int .i64 L[k]) := by
  rw [cell_of_row w g k _ e (0, 0) h]; simp [hk]
theorem frozen (h : IB w e g L) (k : Nat) : w.frozen? ⟨g, k, none⟩ = false := blk_frozen h k
theorem set (h : IB w e g L) (k : Nat) (x : Int) : IB (w.setCell ⟨g, k, none⟩ (.int .i64 x)) e g (L.set k x) := by
  have := blk_set h k (.int .i64 x)
  unfold IB
  rw [this]
  congr 2
  apply Array.ext'
  simp [List.map_set]
theorem read (h : IB w e g L) (n : Nat) (hn : n ≤ L.length) (hl : L.length ≤ 9223372036854775807) : Kd.C (Kd.int .i64) w (some ⟨g, 0, none⟩) n (L.take n) := by
  refine ⟨by rw [List.length_take]; omega, by omega, fun _ => ⟨_, rfl, fun j p hj => ⟨[.int .i64 p], rfl, rfl, fun i u hu => ?_⟩⟩⟩
  have hi : i = 0 := by
    have := (List.getElem?_eq_some_iff.1 hu).1
    simpa using this
  subst hi
  simp at hu
  subst hu
  have hadd : (⟨g, 0, none⟩ : Addr).add (j * 1 + 0) = ⟨g, j, none⟩ := by unfold Addr.add; split <;> simp_all
  show w.cell? ((⟨g, 0, none⟩ : Addr).add (j * 1 + 0)) = _
  rw [List.getElem?_take] at hj
  split at hj
  · rw [hadd]
    obtain ⟨h1, h2⟩ := List.getElem?_eq_some_iff.1 hj
    rw [h.cell j h1, h2]
  · cases hj
theorem of_owns {b : Nat} {cap n : Nat} (h : w.ownsRow b e 1 (.slice (some ⟨g, 0, none⟩) n n) n (madeCells #[.int .i64 0] (n * 1)).toList) : IB w e g (List.replicate n 0) := by
  rcases h.2 with ⟨h0, _⟩ | ⟨g', cap, cur, hv, _, hg, _, _, hs, ht⟩
  · cases h0
  · injection hv with h1 h2 h3
    injection h1 with h1
    injection h1 with h1
    subst h1
    subst h3
    unfold IB
    rw [hg]
    congr 2
    apply Array.ext'
    have hl : cur.toList.take (n * 1) = cur.toList := List.take_of_length_le (by simp; omega)
    rw [← hl, ht]
    apply List.ext_getElem
    · simp [madeCells]
    · intro i h1 h2
      simp [madeCells, Nat.mod_one]
end IB

/-- cells that are stored one behind the other -/
theorem IB.setCells {e g : Nat} : ∀ (xs : List Int) (o : Nat) (w : World) (L : List Int), IB w e g L → o + xs.length ≤ L.length → IB (w.setCells g o (xs.map (Value.int .i64))) e g (L.take o ++ xs ++ L.drop (o + xs.length))
  | [], o, w, L, h, _ => by simpa [World.setCells] using h
  | x :: xs, o, w, L, h, hl => by
    simp only [List.length_cons] at hl
    have := IB.setCells xs (o + 1) _ _ (h.set o x) (by simp; omega)
    simp only [List.map_cons, World.setCells]
    have e1 : (L.set o x).take (o + 1) ++ xs ++ (L.set o x).drop (o + 1 + xs.length) = L.take o ++ (x :: xs) ++ L.drop (o + (x :: xs).length) := by
      rw [List.take_succ_eq_append_getElem (by simp; omega), List.take_set_of_le (Nat.le_refl _), List.getElem_set_self, List.drop_set_of_lt (by omega)]
      simp [Nat.add_assoc, Nat.add_comm 1]
    rw [← e1]; exact this
theorem Chg.setCells {S : Nat → Prop} {w : World} {g : Nat} (hg : g < w.heap.size → S g) : ∀ (vs : List Value) (o : Nat) (w1 : World), Chg S w w1 → Chg S w (w1.setCells g o vs)
  | [], _, _, h => h
  | v :: vs, o, w1, h => by
    simp only [World.setCells]
    exact Chg.setCells hg vs (o + 1) _ (h.setCell (p := ⟨g, o, none⟩) hg v)
theorem Chg.setRow {S : Nat → Prop} {w w1 : World} {g : Nat} (h : Chg S w w1) (hg : g < w.heap.size → S g) (cs : Array Value) : Chg S w (w1.setRow g cs) := by
  refine ⟨h.os, h.tape, h.output, by simpa [World.setRow] using h.size, fun i hi hs => ?_⟩
  have hne : g ≠ i := fun e => hs (e ▸ hg (by omega))
  have : (w1.setRow g cs).heap[i]? = w1.heap[i]? := by simp [World.setRow, Array.getElem?_modify, hne]
  rw [this]; exact h.block i hi hs
end Go.Proofs.YtemeapfnfegkiaaK
end
/- Regions that draw their order: a run of operations each of which is the only one that may come up next. -/
section
namespace Go.Proofs.YtemeapfnfegkiaaK
open Go
set_option linter.unusedVariables false

/-- the first i of n have come up -/
def pre (n i : Nat) : Array Bool := (List.replicate i true ++ List.replicate (n - i) false).toArray
theorem pre_zero (n : Nat) : Array.replicate n false = pre n 0 := by simp [pre, ← List.toArray_replicate]
theorem pre_succ {n i : Nat} (h : i < n) : (pre n i).setIfInBounds i true = pre n (i + 1) := by
  unfold pre
  rw [List.setIfInBounds_toArray]
  congr 1
  have e : n - i = (n - (i + 1)) + 1 := by omega
  rw [e, List.replicate_succ, List.set_append_right _ _ (by simp)]
  simp only [List.length_replicate, Nat.sub_self, List.set_cons_zero]
  rw [List.replicate_succ', List.append_assoc]
  rfl
theorem pre_getD (n k i : Nat) (d : Bool) (hk : k ≤ n) : (pre n k).getD i d = if i < n then decide (i < k) else d := by
  unfold pre
  simp only [Array.getD_eq_getD_getElem?, List.getElem?_toArray]
  by_cases h : i < k
  · rw [List.getElem?_append_left (by simpa using h), List.getElem?_replicate, if_pos h, if_pos (by omega)]; simp [h]
  · rw [List.getElem?_append_right (by simp; omega), List.length_replicate, List.getElem?_replicate]
    by_cases h' : i < n
    · rw [if_pos (by omega), if_pos h']; simp [h]
    · rw [if_neg (by omega), if_neg h']; rfl
/-- behind which place all lies for which an operation waits -/
def maxA : List Edge → Nat
  | [] => 0
  | e :: l => if Region.binds .any e = true then max (e.on + 1) (maxA l) else maxA l
theorem maxA_le {k : Nat} : ∀ {l : List Edge}, maxA l ≤ k ↔ ∀ e ∈ l, Region.binds .any e = true → e.on < k
  | [] => by simp [maxA]
  | e :: l => by
    have ih := @maxA_le k l
    unfold maxA
    split
    · rename_i h
      simp only [List.mem_cons, forall_eq_or_imp]
      rw [← ih]
      constructor
      · intro h'; exact ⟨fun _ => by omega, by omega⟩
      · rintro ⟨h1, h2⟩; have := h1 h; omega
    · rename_i h
      simp only [List.mem_cons, forall_eq_or_imp]
      rw [← ih]
      exact ⟨fun h' => ⟨fun x => absurd x h, h'⟩, fun h' => h'.2⟩
def waits (ops : Array Oper) : List Nat := ops.toList.map fun o => maxA o.after.toList
theorem range_one {n k : Nat} (h : k < n) : (List.range n).filter (fun i => i == k) = [k] := by
  induction n with
  | zero => omega
  | succ n ih =>
    rw [List.range_succ, List.filter_append]
    by_cases e : k = n
    · subst e
      have : (List.range k).filter (fun i => i == k) = [] := List.filter_eq_nil_iff.2 fun i hi hh => by
        have := List.mem_range.1 hi
        have := eq_of_beq hh
        omega
      rw [this]; simp
    · rw [ih (by omega)]
      have : (n == k) = false := by simpa using fun x => e x.symm
      simp [this]
theorem ready_one {ops : Array Oper} {n k : Nat} {M : List Nat} (hn : ops.size = n) (hM : waits ops = M) (hk : k < n) (h1 : M.getD k 0 ≤ k) (h2 : ∀ j, k < j → j < n → k < M.getD j 0) : Region.ready .any ops (pre n k) = [k] := by
  unfold Region.ready
  rw [hn, ← range_one hk]
  refine List.filter_congr fun i hi => ?_
  have hin := List.mem_range.1 hi
  have ho : ops[i]? = some (ops[i]'(by omega)) := Array.getElem?_eq_getElem (by omega)
  have hMi : M.getD i 0 = maxA (ops[i]'(by omega)).after.toList := by
    rw [← hM]
    unfold waits
    rw [List.getD_eq_getElem?_getD, List.getElem?_map, Array.getElem?_toList, ho]; rfl
  rw [pre_getD n k i true (by omega), if_pos hin, ho]
  simp only [Option.map_some, Option.getD_some]
  rcases Nat.lt_trichotomy i k with h | h | h
  · rw [decide_eq_true h]
    have : (i == k) = false := by simpa using Nat.ne_of_lt h
    simp [this]
  · subst h
    rw [decide_eq_false (by omega)]
    simp only [Bool.not_false, Bool.true_and, beq_self_eq_true]
    rw [← Array.all_toList, List.all_eq_true]
    intro e he
    by_cases hb : Region.binds .any e = true
    · have := maxA_le.1 (hMi ▸ h1) e he hb
      rw [pre_getD n i e.on false (by omega), if_pos (by omega), decide_eq_true this]; simp
    · have : Region.binds .any e = false := by simpa using hb
      rw [this]; rfl
  · have hne : (i == k) = false := by simpa using Nat.ne_of_gt h
    rw [hne, Bool.eq_false_iff]
    intro hh
    have hh2 := (Bool.and_eq_true_iff.1 hh).2
    rw [← Array.all_toList, List.all_eq_true] at hh2
    have hlt := h2 i h hin
    rw [hMi] at hlt
    have : maxA (ops[i]'(by omega)).after.toList ≤ k := maxA_le.2 fun e he hb => by
      have := hh2 e he
      rw [hb, pre_getD n k e.on false (by omega)] at this
      by_cases hen : e.on < n
      · rw [if_pos hen] at this; simpa using this
      · rw [if_neg hen] at this; simp at this
    omega
def soleM (M : List Nat) (n k m : Nat) : Bool := (List.range m).all fun j => Nat.ble (M.getD (k + j) 0) (k + j) && ((M.take n).drop (k + j + 1)).all fun x => Nat.ble (k + j + 1) x
theorem soleM_at {ops : Array Oper} {n k m : Nat} {M : List Nat} (hn : ops.size = n) (hM : waits ops = M) (hkm : k + m ≤ n) (h : soleM M n k m = true) {j : Nat} (hj : j < m) : Region.ready .any ops (pre n (k + j)) = [k + j] := by
  have := List.all_eq_true.1 h j (List.mem_range.2 hj)
  obtain ⟨h1, h2⟩ := Bool.and_eq_true_iff.1 this
  refine ready_one hn hM (by omega) (Nat.le_of_ble_eq_true h1) (fun i hi hin => ?_)
  have hl : M.length = n := by rw [← hM]; simp [waits, hn]
  have h3 := List.all_eq_true.1 h2 (M.getD i 0) (by
    have e : M.getD i 0 = M[i]'(by omega) := by simp [List.getD_eq_getElem?_getD, hl, hin]
    rw [e, List.mem_iff_getElem?]
    refine ⟨i - (k + j + 1), ?_⟩
    rw [List.getElem?_drop, show k + j + 1 + (i - (k + j + 1)) = i by omega, List.getElem?_take_of_lt hin, List.getElem?_eq_getElem (by omega)])
  have := Nat.le_of_ble_eq_true h3
  omega

section
variable {P : Program} {ops : Array Oper} {Q : Exit → Act → World → Prop} {S : World → Prop} {n : Nat}
theorem wpAnyH_run {w : World} (hS : S w) : ∀ (l : List Oper) (k fuel : Nat) (a : Act), (∀ j, j < l.length → ops[k + j]? = l[j]?) → k + l.length ≤ n → (∀ j, j < l.length → Region.ready .any ops (pre n (k + j)) = [k + j]) →
    wpStill P ops w (fun a' => wpAnyH P .any ops Q S fuel (pre n (k + l.length)) a' w) l a → wpAnyH P .any ops Q S (fuel + l.length) (pre n k) a w
  | [], k, fuel, a, _, _, _, h => h
  | o :: l, k, fuel, a, hl, hn, hr, h => by
    have h0 : ops[k]? = some o := by simpa using hl 0 (by simp)
    have hr0 := hr 0 (by simp)
    have ih : ∀ a', wpStill P ops w (fun a' => wpAnyH P .any ops Q S fuel (pre n (k + (o :: l).length)) a' w) l a' → wpAnyH P .any ops Q S (fuel + l.length) (pre n (k + 1)) a' w := fun a' h' => by
      refine wpAnyH_run hS l (k + 1) fuel a' (fun j hj => ?_) (by simp only [List.length_cons] at hn; omega) (fun j hj => ?_) ?_
      · have := hl (j + 1) (by simp; omega)
        rw [show k + 1 + j = k + (j + 1) by omega, this]; rfl
      · have := hr (j + 1) (by simp; omega)
        rw [show k + 1 + j = k + (j + 1) by omega, this]
      · have e : k + 1 + l.length = k + (o :: l).length := by simp only [List.length_cons]; omega
        rw [e]; exact h'
    refine wpAnyH_all (rs := [k]) hr0 (by simp) (fun i hi => ?_)
    obtain rfl : i = k := by simpa using hi
    rw [pre_succ (by simp only [List.length_cons] at hn; omega)]
    unfold wpOp
    rw [h0]
    simp only [wpStill] at h
    show if Region.wanted o (yielded ops a.tmps) = true then _ else _
    split
    · rename_i hw
      rw [if_pos hw] at h
      exact .inl (Oper.wp_of_still (fun a' hK => ⟨hS, ih a' hK⟩) h)
    · rename_i hw
      rw [if_neg hw] at h
      exact ⟨hS, ih _ h⟩
theorem wpAnyH_seg {w : World} {a : Act} (k m fuel : Nat) (hS : S w) (hl : (List.drop k ops.toList).length ≥ m) (hn : k + m ≤ n) (hz : ops.size = n) {M : List Nat} (hM : waits ops = M) (hr : soleM M n k m = true)
    (h : wpStill P ops w (fun a' => wpAnyH P .any ops Q S fuel (pre n (k + m)) a' w) ((ops.toList.drop k).take m) a) : wpAnyH P .any ops Q S (fuel + m) (pre n k) a w := by
  have e : ((ops.toList.drop k).take m).length = m := by rw [List.length_take]; omega
  have := wpAnyH_run (P := P) (Q := Q) (n := n) hS ((ops.toList.drop k).take m) k fuel a (fun j hj => by
    rw [List.getElem?_take_of_lt (by omega), List.getElem?_drop, Array.getElem?_toList]) (by omega) (fun j hj => soleM_at hz hM hn hr (by omega)) (by rw [e]; exact h)
  rw [e] at this
  exact this
theorem wpAnyH_start {w : World} {a : Act} (n : Nat) (hn : ops.size = n) (h : wpAnyH P .any ops Q S n (pre n 0) a w) : wpAnyH P .any ops Q S ops.size (Array.replicate ops.size false) a w := by
  rw [hn, pre_zero]; exact h
/-- one that is the only one -/
theorem wpAnyH_one {w : World} {a : Act} {i fuel : Nat} {o : Oper} (hi : i + 1 ≤ n) (ho : ops[i]? = some o) (hz : ops.size = n) {M : List Nat} (hM : waits ops = M) (hr : soleM M n i 1 = true)
    (h : ∀ K' : Act → World → Prop, Shut (∀ a w, S w → (S w → wpAnyH P .any ops Q S fuel (pre n (i + 1)) a w) → K' a w) → if Region.wanted o (yielded ops a.tmps) = true then Oper.wp P o a w K' Q else K' (a.put o.dst undef) w) :
    wpAnyH P .any ops Q S (fuel + 1) (pre n i) a w := by
  refine wpAnyH_ready (by simpa using soleM_at hz hM hi hr (Nat.zero_lt_one)) (by simp) (AllReadyH.cons ho (fun K' hK => h K' ?_) AllReadyH.nil)
  rw [pre_succ hi] at hK
  exact hK
/-- one that yields in every world that meets S is taken first -/
theorem wpAnyH_load {w : World} {a : Act} {i fuel : Nat} {o : Oper} {v : Value} (hi : i < n) (ho : ops[i]? = some o) (hs : Region.noSelect ops = true) (hf : Region.free .any ops (pre n i) i = true) (hr : (Region.ready .any ops (pre n i)).contains i = true)
    (hQ : ∀ c a w, Q (.panic c) (a.put o.dst v) w → Q (.panic c) a w) (hy : YieldsIf P ops S o v a) (hS : S w) (h : wpAnyH P .any ops Q S fuel (pre n (i + 1)) (a.put o.dst v) w) :
    wpAnyH P .any ops Q S (fuel + 1) (pre n i) a w := by
  refine wpAnyH_take ho hs hf hr hQ hy hS ?_
  rw [pre_succ hi]; exact h
end
end Go.Proofs.YtemeapfnfegkiaaK
end
