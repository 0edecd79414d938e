/- GlassTrue returns true for any shelf, list of bytes and year. -/
import Derived.Test.YtgoidclnccjdeaaRows
import Derived.Test.YtgoidclnccjdeaaCg
import Derived.WalkKit
import Derived.ProofKit
import Derived.OpenShut
import Derived.ShutString
import Derived.ChangeOld
import Derived.Below

namespace Go.Proofs.Ytgoidclnccjdeaa.D
open Go Go.RowKit Go.ChangeShapes Go.WideShapes Go.Deep Go.Proofs.YtgoidclnccjdeaaK Go.Proofs.YtgoidclnccjdeaaW.PrintWords Go.Proofs.YtgoidclnccjdeaaW.PrintLast Go.Proofs.YtgoidclnccjdeaaW.PrintMore Go.Proofs.Ytgoidclnccjdeaa.PR
set_option linter.unusedVariables false
set_option linter.unusedSimpArgs false
set_option maxRecDepth 100000 in
theorem open_bytes {H : Type} {enc : TypeId × Value → H} {w : World} {base : Nat} {spare : Nat → Bool} {held : Bool} {r : Reach} {b0 : Nat} {v : Value} {d : DataW H} {p : List MemPlace} (hv : Value.okWide Try.prog w r b0 53 v) (h : DataW.Trod enc Try.prog w base spare held 53 v d p) :
    ∃ (A : Option Addr) (c : Nat) (l : List Int), v = .slice A l.length c ∧ l.length ≤ c ∧ Kd.C (Kd.int .u8) w A l.length l ∧ ∀ x ∈ l, (Lit.int .u8 x).wf = true := by
  have hI : Try.prog.cellsOf 5 = 1 := by kernel_rfl
  have e1 := Try.underlying53
  have e3 := Try.underlying5
  generalize Try.prog = P at hv h hI e1 e3
  obtain ⟨A, n, c, rfl⟩ := okWide_slice e1 hv
  obtain ⟨fuel, hf⟩ := h
  obtain ⟨A', c', l, hA, hle, hR, hw⟩ := open_rowG (K := (Kd.int .u8).K) (Wf := fun x : Int => (Lit.int .u8 x).wf = true) 0 e1 hI (fun hh => by
    obtain ⟨i, rfl, _, hi⟩ := DataW.trod_int e3 hh
    exact ⟨i, rfl, hi⟩) hf
  cases hA
  exact ⟨_, _, l, rfl, hle, hR, hw⟩
end Go.Proofs.Ytgoidclnccjdeaa.D
namespace Go.Proofs.Ytgoidclnccjdeaa.glassTrue
open Go.ChangeShapes Go.WideShapes Go.ChangeAt Go.RowKit
open Go.ChangeMaps (open_string shut_string)
set_option linter.unusedVariables false

theorem own : ownKnob Try.prog.godebug = none := by kernel_rfl
theorem laidOut : laidOutB Try.prog = true := by kernel_rfl

set_option maxRecDepth 100000 in
theorem lifted (os : Os) (started : os.Started) (H : Type) (enc : TypeId × Value → H) :
    ReturnsInHanded {} Try.checked os 8 .any (Rows.glassTrueSpec.pre6 enc Try.prog Try.f8 Rows.glassTrueRow.domain false) (Rows.glassTrueSpec.post enc Try.prog Try.f8 false true false false) := by
  refine returnsInHanded_of_change (C := Try.checked) own started (by kernel_rfl) Try.func8
    (ChangeSpec.witness6 (enc := enc) (C := Try.checked) false ⟨#[], #[.agg #[.slice none 0 0, .int .i64 0, .int .i64 0, .slice none 0 0, .slice none 0 0], .slice none 0 0, .int .u8 0], []⟩ 8 (by kernel_rfl) (by kernel_rfl) (by kernel_rfl) (by kernel_rfl)) ?_
  intro W base args ds gs before hval0 hW hcnd _
  have hval : ∀ (j : Nat) t v, Try.f8.params[j]? = some t → args[j]? = some v → Value.okWide Try.prog W .any base t v := hval0
  have hW' := hW
  obtain ⟨p, q, hA0, hV, rfl, hfz, hnd⟩ := hW
  have hA : DataW.TrodAll enc Try.prog W 0 (fun _ => true) true Try.f8.params.toList args.toList ds p := hA0
  rw [Try.params8] at hA hval
  obtain ⟨v0, vs0, d0, ds0, p0, q0, hargs, rfl, rfl, h0, r0⟩ := trodAll_cons hA
  obtain ⟨v1, vs1, d1, ds1, p1, q1, rfl, rfl, rfl, h1, r1⟩ := trodAll_cons r0
  obtain ⟨v2, vs2, d2, ds2, p2, q2, rfl, rfl, rfl, h2, r2⟩ := trodAll_cons r1
  obtain ⟨rfl, rfl, rfl⟩ := trodAll_nil r2
  obtain rfl : args = #[v0, v1, v2] := by cases args; simp_all
  obtain ⟨rfl, rfl⟩ := trodVars_none hV
  have k0 := h0
  have lt0 : ∀ x ∈ p0, x.block < W.heap.size := by obtain ⟨m, hm⟩ := k0; exact DataW.trod_lt m _ _ _ hm
  obtain ⟨X0, A00, c00, A30, c30, A40, c40, rfl, hArg0, hWf0⟩ := D.open_shelf (hval 0 28 v0 rfl rfl) h0
  have k1 := h1
  have lt1 : ∀ x ∈ p1, x.block < W.heap.size := by obtain ⟨m, hm⟩ := k1; exact DataW.trod_lt m _ _ _ hm
  obtain ⟨A1, c1, l1, rfl, hle1, hC1, hw1⟩ := D.open_bytes (hval 1 53 v1 rfl rfl) h1
  obtain ⟨i2, rfl, rfl, rfl, w2⟩ := open_int Try.underlying5 (hval 2 5 v2 rfl rfl) h2
  clear hA0 hval0
  refine (D.GlassTrue_calls X0 A00 c00 A30 c30 A40 c40 A1 c1 l1 i2 W hArg0 hle1 hC1 (fun x hx => bounds_u8 (hw1 x hx)) (bounds_u8 w2)).mono fun e W' ⟨he, bel⟩ => ?_
  subst he
  exact ⟨_, rfl, _, _, _, [], _, [], hW', trodAll_mk1 (shut_bool Try.underlying4 _), (trodAll_cons_mk (Below.trod laidOut (by kernel_rfl) (of_decide_eq_true (by kernel_rfl)) k0 bel lt0) (trodAll_cons_mk (Below.trod laidOut (by kernel_rfl) (of_decide_eq_true (by kernel_rfl)) k1 bel lt1) (trodAll_cons_mk (shut_int Try.underlying5 w2) trodAll_mk0))), rfl, bel.frame _, fun h => by cases h⟩

theorem over : Rows.glassTrueRow.holds Try.pinned (OpenSpec.ofChange Rows.glassTrueSpec) :=
  OpenClaim.holds_of_wide 8 Try.f8 rfl rfl rfl rfl rfl rfl rfl ⟨rfl, rfl, rfl, rfl, rfl⟩ rfl rfl rfl rfl rfl (by kernel_rfl) Try.func8 (by kernel_rfl)
    (of_decide_eq_true (by kernel_rfl)) (by unfold Func.isWrapper; first | (rw [if_pos (by decide +kernel)]; kernel_rfl) | (rw [if_neg (by decide +kernel)]; exact ⟨rfl, rfl⟩))
    (fun os started H enc _ => lifted os started H enc)

theorem proved : Rows.GlassTrueSaid := over
#print axioms proved
end Go.Proofs.Ytgoidclnccjdeaa.glassTrue
namespace Go.Proofs.Ytgoidclnccjdeaa
/-- The row, under a short name, for the claim. -/
theorem glassTrue_holds : Rows.GlassTrueSaid := glassTrue.proved
end Go.Proofs.Ytgoidclnccjdeaa
