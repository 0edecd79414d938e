/- TopAnewGlass returns true for any arguments that are no larger than the row's bound. -/
import Derived.Test.YtgoidclnccjdeaaRows
import Derived.Test.YtgoidclnccjdeaaBe
import Derived.WalkKit
import Derived.ProofKit
import Derived.OpenShut
import Derived.ShutString
import Derived.ChangeOld
import Derived.Below

namespace Go.Proofs.Ytgoidclnccjdeaa.D
open Go Go.RowKit Go.ChangeShapes Go.WideShapes Go.Deep Go.Proofs.YtgoidclnccjdeaaK Go.Proofs.YtgoidclnccjdeaaW.PrintWords Go.Proofs.YtgoidclnccjdeaaW.PrintLast Go.Proofs.YtgoidclnccjdeaaW.PrintMore Go.Proofs.Ytgoidclnccjdeaa.PR
set_option linter.unusedVariables false
set_option linter.unusedSimpArgs false
set_option linter.unusedSectionVars false

theorem bulk_pos {H : Type} (d : DataW H) : 1 ≤ Rows.uptoBulk d := by
  cases d with
  | lit l => cases l <;> simp [Rows.uptoBulk]
  | _ => simp [Rows.uptoBulk]
theorem bulk_len {H : Type} : ∀ l : List (DataW H), l.length ≤ Rows.uptoBulkAll l
  | [] => by simp
  | d :: r => by
    have h1 := bulk_pos d
    have h2 := bulk_len r
    simp [Rows.uptoBulkAll]; omega
theorem bulk_mem {H : Type} : ∀ (l : List (DataW H)) (d : DataW H), d ∈ l → Rows.uptoBulk d ≤ Rows.uptoBulkAll l
  | x :: r, d, h => by
    rcases List.mem_cons.1 h with rfl | h
    · simp [Rows.uptoBulkAll]
    · have := bulk_mem r d h
      simp [Rows.uptoBulkAll]; omega
section
variable {H : Type} {enc : TypeId × Value → H} {P : Program} {w : World} {base : Nat} {spare : Nat → Bool} {held : Bool}
theorem slice_bulk {t e : TypeId} {fuel n c : Nat} {A : Option Addr} {x : DataW H × List MemPlace} (ht : P.underlying t = some (.slice e)) (h : DataW.trod enc P w base spare held fuel t [.slice A n c] = some x) : n ≤ Rows.uptoBulk x.1 := by
  rcases open_slice ht h with ⟨h1, h2⟩ | ⟨a, len, cap, m, k, D, Pl, h1, hb, hl, hm, hmm, rfl, hx⟩
  · cases h1; simp
  · cases h1
    have := bulk_len ((List.range n).map D)
    simp [Rows.uptoBulk] at this ⊢; omega
end
section
variable {H : Type} {enc : TypeId × Value → H} {w : World} {base : Nat} {spare : Nat → Bool} {held : Bool}
theorem shelf_bulk {D : Dat} {A0 : Option Addr} {k0 : Nat} {A3 : Option Addr} {k3 : Nat} {A4 : Option Addr} {k4 : Nat} {d : DataW H} {p : List MemPlace}
    (h : DataW.Trod enc Try.prog w base spare held 28 (.agg #[.slice A0 D.gl.length k0, .int .i64 D.lo, .int .i64 D.hi, .slice A3 D.sp.length k3, .slice A4 D.dr.length k4]) d p) : D.gl.length ≤ Rows.uptoBulk d ∧ D.sp.length ≤ Rows.uptoBulk d ∧ D.dr.length ≤ Rows.uptoBulk d := by
  have hC : Try.prog.cellsOf 28 = 5 := by kernel_rfl
  have hS : Try.prog.cellsOf 24 = 2 := by kernel_rfl
  have h0 : Try.prog.cellsOf 22 = 1 := by kernel_rfl
  have h3 : Try.prog.cellsOf 25 = 1 := by kernel_rfl
  have h4 : Try.prog.cellsOf 26 = 1 := by kernel_rfl
  have e28 := Try.underlying28
  have e22 := Try.underlying22
  have e25 := Try.underlying25
  have e26 := Try.underlying26
  generalize Try.prog = P at h hC hS h0 h3 h4 e28 e22 e25 e26
  obtain ⟨fuel, hf⟩ := h
  obtain ⟨xs, n, _, hx, _, hlen, hg⟩ := DataW.trod_struct e28 hf
  have g0 := hg 0 _ rfl
  have g2 := hg 2 _ rfl
  have g3 := hg 3 _ rfl
  have hl4 : xs.length = 4 := hlen
  rw [List.getElem?_eq_getElem (by omega)] at g0 g2 g3
  simp only [Value.cells, List.getElem_toArray, List.getElem_cons_zero, List.getElem_cons_succ, hS, h0, h3, h4, List.drop_zero, List.drop_succ_cons, List.take_succ_cons, List.take_zero] at g0 g2 g3
  obtain ⟨rfl, _⟩ := Prod.mk.inj hx
  have w0 := slice_bulk e22 g0
  have w2 := slice_bulk e25 g2
  have w3 := slice_bulk e26 g3
  have m0 := bulk_mem (xs.map (·.1)) (xs[0].1) (List.mem_map.2 ⟨xs[0], List.getElem_mem _, rfl⟩)
  have m2 := bulk_mem (xs.map (·.1)) (xs[2].1) (List.mem_map.2 ⟨xs[2], List.getElem_mem _, rfl⟩)
  have m3 := bulk_mem (xs.map (·.1)) (xs[3].1) (List.mem_map.2 ⟨xs[3], List.getElem_mem _, rfl⟩)
  simp only [Rows.uptoBulk]
  omega
set_option maxRecDepth 100000 in
theorem open_shelf5 {c0 c1 c2 c3 c4 : Value} {d : DataW H} {p : List MemPlace} (h : DataW.Trod enc Try.prog w base spare held 28 (.agg #[c0, c1, c2, c3, c4]) d p) :
    ∃ (D : Dat) (A0 : Option Addr) (k0 : Nat) (A3 : Option Addr) (k3 : Nat) (A4 : Option Addr) (k4 : Nat), (.agg #[c0, c1, c2, c3, c4] : Value) = .agg #[.slice A0 D.gl.length k0, .int .i64 D.lo, .int .i64 D.hi, .slice A3 D.sp.length k3, .slice A4 D.dr.length k4] ∧ Arg w D A0 k0 A3 k3 A4 k4 ∧ D.Wf := by
  have hC : Try.prog.cellsOf 28 = 5 := by kernel_rfl
  have hS : Try.prog.cellsOf 24 = 2 := by kernel_rfl
  have hI : Try.prog.cellsOf 3 = 1 := by kernel_rfl
  have hN : Try.prog.cellsOf 9 = 1 := by kernel_rfl
  have h0 : Try.prog.cellsOf 22 = 1 := by kernel_rfl
  have h3 : Try.prog.cellsOf 25 = 1 := by kernel_rfl
  have h4 : Try.prog.cellsOf 26 = 1 := by kernel_rfl
  have hs0 : Try.prog.cellsOf 95 = 3 := by kernel_rfl
  have hs4 : Try.prog.cellsOf 72 = 3 := by kernel_rfl
  have e28 := Try.underlying28
  have e24 := Try.underlying24
  have e3 := Try.underlying3
  have e9 := Try.underlying9
  have e22 := Try.underlying22
  have e25 := Try.underlying25
  have e26 := Try.underlying26
  have e95 := Try.underlying95
  have e72 := Try.underlying72
  generalize Try.prog = P at h hC hS hI hN h0 h3 h4 hs0 hs4 e28 e24 e3 e9 e22 e25 e26 e95 e72 ⊢
  obtain ⟨fuel, hf⟩ := h
  obtain ⟨xs, n, _, hx, _, hlen, hg⟩ := DataW.trod_struct e28 hf
  have g0 := hg 0 _ rfl
  have g1 := hg 1 _ rfl
  have g2 := hg 2 _ rfl
  have g3 := hg 3 _ rfl
  have hl4 : xs.length = 4 := hlen
  rw [List.getElem?_eq_getElem (by omega)] at g0 g1 g2 g3
  simp only [Value.cells, List.getElem_toArray, List.getElem_cons_zero, List.getElem_cons_succ, hS, h0, h3, h4, List.drop_zero, List.drop_succ_cons, List.take_succ_cons, List.take_zero] at g0 g1 g2 g3
  obtain ⟨lo, hi, hlh, wlo, whi⟩ := open_two e24 ⟨_, rfl, rfl, e3, hI⟩ ⟨_, rfl, rfl, e3, hI⟩ hS g1
  obtain ⟨A0, k0, l0, hA0, hk0, hR0, w0⟩ := open_rowG (K := k95.K) (Wf := fun p : S95 => p.f0.size ≤ 9223372036854775807 ∧ wf p.f1.f0 ∧ wf p.f1.f1) z95 e22 hs0 (fun hh => by
    obtain ⟨s, a, b, rfl, ws, wa, wb⟩ := open_named e95 e24 ⟨_, rfl, rfl, e9, hN⟩ ⟨_, rfl, rfl, rfl⟩ ⟨_, rfl, rfl, e3, hI⟩ ⟨_, rfl, rfl, e3, hI⟩ hs0 hS hh
    exact ⟨⟨s, ⟨a, b⟩⟩, k95_mk w _, ws, wa, wb⟩) g0
  obtain ⟨A3, k3, l3, hA3, hk3, hR3, w3⟩ := open_rowG (K := k24.K) (Wf := fun p : S24 => wf p.f0 ∧ wf p.f1) z24 e25 hS (fun hh => by
    obtain ⟨a, b, rfl, wa, wb⟩ := open_two e24 ⟨_, rfl, rfl, e3, hI⟩ ⟨_, rfl, rfl, e3, hI⟩ hS hh
    exact ⟨⟨a, b⟩, k24_mk w _, wa, wb⟩) g2
  obtain ⟨A4, k4, l4, hA4, hk4, hR4, w4⟩ := open_rowG (K := k72.K) (Wf := fun p : S72 => wf p.f0 ∧ wf p.f1 ∧ wf p.f2) z72 e26 hs4 (fun hh => by
    obtain ⟨a, b, c, rfl, wa, wb, wc⟩ := open_ints3 e72 ⟨_, rfl, rfl, e3, hI⟩ ⟨_, rfl, rfl, e3, hI⟩ ⟨_, rfl, rfl, e3, hI⟩ hs4 hh
    exact ⟨⟨a, b, c⟩, k72_mk w _, wa, wb, wc⟩) g3
  cases hlh; cases hA0; cases hA3; cases hA4
  exact ⟨⟨l0, lo, hi, l3, l4⟩, A0, k0, A3, k3, A4, k4, rfl, ⟨hR0, hk0, fun x hx => (w0 x hx).1, hR3, hk3, hR4, hk4⟩, ⟨wlo, whi, w0, w3, w4⟩⟩
set_option maxRecDepth 100000 in
theorem open_anew {r : Reach} {b0 : Nat} {v : Value} {d : DataW H} {p : List MemPlace} (hv : Value.okWide Try.prog w r b0 76 v) (h : DataW.Trod enc Try.prog w base spare held 76 v d p) :
    ∃ (D : Dat) (A0 : Option Addr) (k0 : Nat) (A3 : Option Addr) (k3 : Nat) (A4 : Option Addr) (k4 : Nat) (i1 i2 i3 i4 i5 i6 : Int), v = .agg #[.slice A0 D.gl.length k0, .int .i64 D.lo, .int .i64 D.hi, .slice A3 D.sp.length k3, .slice A4 D.dr.length k4, .int .i64 i1, .int .i64 i2, .int .i64 i3, .int .i64 i4, .int .i64 i5, .int .i64 i6] ∧ Arg w D A0 k0 A3 k3 A4 k4 ∧ D.gl.length ≤ Rows.uptoBulk d ∧ D.sp.length ≤ Rows.uptoBulk d ∧ D.dr.length ≤ Rows.uptoBulk d := by
  have hC : Try.prog.cellsOf 76 = 11 := by kernel_rfl
  have hS : Try.prog.cellsOf 28 = 5 := by kernel_rfl
  have hI : Try.prog.cellsOf 3 = 1 := by kernel_rfl
  have e85 := Try.underlying76
  have e3 := Try.underlying3
  have hop := @open_shelf5 H enc w base spare held
  have hbu := @shelf_bulk H enc w base spare held
  generalize Try.prog = P at hv h hC hS hI e85 e3 hop hbu ⊢
  obtain ⟨cs, rfl, hsz⟩ := okWide_struct e85 hv
  obtain ⟨l⟩ := cs
  rw [hC] at hsz
  match l, hsz with
  | [v0, v1, v2, v3, v4, v5, v6, v7, v8, v9, v10], _ =>
    obtain ⟨fuel, hf⟩ := h
    obtain ⟨xs, n, _, hx, _, hlen, hg⟩ := DataW.trod_struct e85 hf
    have g0 := hg 0 _ rfl
    have g1 := hg 1 _ rfl
    have g2 := hg 2 _ rfl
    have g3 := hg 3 _ rfl
    have g4 := hg 4 _ rfl
    have g5 := hg 5 _ rfl
    have g6 := hg 6 _ rfl
    have hl7 : xs.length = 7 := hlen
    rw [List.getElem?_eq_getElem (by omega)] at g0 g1 g2 g3 g4 g5 g6
    simp only [Value.cells, List.getElem_toArray, List.getElem_cons_zero, List.getElem_cons_succ, hI, hS, List.drop_zero, List.drop_succ_cons, List.take_succ_cons, List.take_zero] at g0 g1 g2 g3 g4 g5 g6
    obtain ⟨rfl, _⟩ := Prod.mk.inj hx
    obtain ⟨i1, h1, _, _⟩ := DataW.trod_int e3 g1
    obtain ⟨i2, h2, _, _⟩ := DataW.trod_int e3 g2
    obtain ⟨i3, h3, _, _⟩ := DataW.trod_int e3 g3
    obtain ⟨i4, h4, _, _⟩ := DataW.trod_int e3 g4
    obtain ⟨i5, h5, _, _⟩ := DataW.trod_int e3 g5
    obtain ⟨i6, h6, _, _⟩ := DataW.trod_int e3 g6
    have ht : DataW.Trod enc P w base spare held 28 (.agg #[v0, v1, v2, v3, v4]) xs[0].1 xs[0].2 := ⟨n, g0⟩
    obtain ⟨D, A0, k0, A3, k3, A4, k4, he, hA, _⟩ := hop ht
    rw [he] at ht
    obtain ⟨w0, w3, w4⟩ := hbu ht
    have m1 := bulk_mem (xs.map (·.1)) (xs[0].1) (List.mem_map.2 ⟨xs[0], List.getElem_mem _, rfl⟩)
    cases h1; cases h2; cases h3; cases h4; cases h5; cases h6; cases he
    refine ⟨D, A0, k0, A3, k3, A4, k4, i1, i2, i3, i4, i5, i6, rfl, hA, ?_, ?_, ?_⟩ <;> (simp only [Rows.uptoBulk]; omega)
end
end Go.Proofs.Ytgoidclnccjdeaa.D
namespace Go.Proofs.Ytgoidclnccjdeaa.topAnewGlass
open Go.ChangeShapes Go.WideShapes Go.ChangeAt Go.RowKit
open Go.ChangeMaps (open_string shut_string)
set_option linter.unusedVariables false

theorem own : ownKnob Try.prog.godebug = none := by kernel_rfl
theorem laidOut : laidOutB Try.prog = true := by kernel_rfl

set_option maxRecDepth 100000 in
theorem lifted (os : Os) (started : os.Started) (H : Type) (enc : TypeId × Value → H) (F : Stop.Interp) :
    ReturnsInHanded {} Try.checked os 12 .any ((Rows.OpenSpec.upto Rows.topAnewGlassSpec).pre6 enc Try.prog Try.f12 Rows.topAnewGlassUptoRow.domain false) (((Rows.OpenSpec.upto Rows.topAnewGlassSpec).at F).post enc Try.prog Try.f12 false true false false) := by
  have hw : (DataW.whole enc Try.prog (World.plainHolding Try.prog os ⟨#[], #[.agg #[.slice none 0 0, .int .i64 0, .int .i64 0, .slice none 0 0, .slice none 0 0, .int .i64 0, .int .i64 0, .int .i64 0, .int .i64 0, .int .i64 0, .int .i64 0]], []⟩).memory Try.f12.params.toList (Rows.OpenSpec.upto Rows.topAnewGlassSpec).vars false (⟨#[], #[.agg #[.slice none 0 0, .int .i64 0, .int .i64 0, .slice none 0 0, .slice none 0 0, .int .i64 0, .int .i64 0, .int .i64 0, .int .i64 0, .int .i64 0, .int .i64 0]], []⟩ : Input).args.toList 8).map (fun x => Rows.uptoSmall H (x.1 ++ x.2.1)) = some true := by kernel_rfl
  obtain ⟨x, hx, hx1⟩ := Option.map_eq_some_iff.1 hw
  refine returnsInHanded_of_cond (C := Try.checked) (s := Rows.OpenSpec.upto Rows.topAnewGlassSpec) (k := Rows.uptoSmall) rfl own started (by kernel_rfl) Try.func12
    (OpenSpec.witness (enc := enc) (C := Try.checked) (s := Rows.OpenSpec.upto Rows.topAnewGlassSpec) (k := Rows.uptoSmall) rfl false ⟨#[], #[.agg #[.slice none 0 0, .int .i64 0, .int .i64 0, .slice none 0 0, .slice none 0 0, .int .i64 0, .int .i64 0, .int .i64 0, .int .i64 0, .int .i64 0, .int .i64 0]], []⟩ 8 (by kernel_rfl) (by kernel_rfl) (by kernel_rfl) hx (by rfl) hx1) ?_
  intro W base args ds gs before hval0 hW hcnd hk0 _
  have hval : ∀ (j : Nat) t v, Try.f12.params[j]? = some t → args[j]? = some v → Value.okWide Try.prog W .any base t v := hval0
  have hW' := hW
  obtain ⟨p, q, hA0, hV0, rfl, hfz, hnd⟩ := hW
  have hA : DataW.TrodAll enc Try.prog W 0 (fun _ => true) true Try.f12.params.toList args.toList ds p := hA0
  rw [Try.params12] at hA hval
  obtain ⟨v0, vs0, d0, ds0, p0, q0, hargs, rfl, rfl, h0, r0⟩ := trodAll_cons hA
  obtain ⟨rfl, rfl, rfl⟩ := trodAll_nil r0
  obtain rfl : args = #[v0] := by cases args; simp_all
  obtain ⟨rfl, rfl⟩ := trodVars_none hV0
  have hk : Rows.uptoBulk d0 ≤ 1048576 := by
    have h := of_decide_eq_true (show decide (Rows.uptoBulkAll ([d0] ++ []) ≤ 1048576) = true from hk0)
    simp only [List.append_nil, Rows.uptoBulkAll] at h
    omega
  have k0 := h0
  have lt0 : ∀ x ∈ p0, x.block < W.heap.size := by obtain ⟨m, hm⟩ := k0; exact DataW.trod_lt m _ _ _ hm
  obtain ⟨X0, A00, c00, A30, c30, A40, c40, i1, i2, i3, i4, i5, i6, rfl, hArg0, hb0, hb3, hb4⟩ := D.open_anew (hval 0 76 v0 rfl rfl) h0
  clear hA0 hval0
  refine (D.TopAnewGlass_calls X0 A00 c00 A30 c30 A40 c40 i1 i2 i3 i4 i5 i6 W hArg0 (Nat.le_trans hb0 hk) (Nat.le_trans hb3 hk) (Nat.le_trans hb4 hk)).mono fun e W' ⟨he, bel⟩ => ?_
  subst he
  exact ⟨_, rfl, _, _, _, [], _, [], hW', trodAll_mk1 (shut_bool Try.underlying4 _), (trodAll_cons_mk (Below.trod laidOut (by kernel_rfl) (of_decide_eq_true (by kernel_rfl)) k0 bel lt0) trodAll_mk0), rfl, bel.frame _, fun h => by cases h⟩

theorem over : Rows.topAnewGlassUptoRow.holds Try.pinned (Rows.OpenSpec.upto Rows.topAnewGlassSpec) :=
  OpenClaim.holds_of_cond 12 Try.f12 rfl rfl rfl rfl rfl rfl rfl ⟨rfl, rfl, rfl, rfl, rfl⟩ rfl rfl rfl rfl rfl (by kernel_rfl) Try.func12 (by kernel_rfl)
    (of_decide_eq_true (by kernel_rfl)) (by unfold Func.isWrapper; first | (rw [if_pos (by decide +kernel)]; kernel_rfl) | (rw [if_neg (by decide +kernel)]; exact ⟨rfl, rfl⟩))
    (fun os started H enc _ F => lifted os started H enc F)

theorem proved : Rows.TopAnewGlassUptoSaid := over
#print axioms proved
end Go.Proofs.Ytgoidclnccjdeaa.topAnewGlass
namespace Go.Proofs.Ytgoidclnccjdeaa
/-- The row, under a short name, for the claim. -/
theorem topAnewGlassUpto_holds : Rows.TopAnewGlassUptoSaid := topAnewGlass.proved
end Go.Proofs.Ytgoidclnccjdeaa
