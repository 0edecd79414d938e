/- Asked twice, each function of package disk answers alike, and changes nothing: TopAnewDisk returns true. For whatever sheet, string and numbers, where what it reads is of bulk at most 1048576. -/
import Derived.Test.YtemeapfnfegkiaaRows
import Derived.Test.YtemeapfnfegkiaaOe
import Derived.JoinedCond
import Derived.WalkKit
import Derived.ProofKit
import Derived.OpenShut
import Derived.ShutString
import Derived.ChangeOld
import Derived.Below

namespace Go.Proofs.Ytemeapfnfegkiaa.D
open Go Go.RowKit Go.ChangeShapes Go.WideShapes Go.Deep Go.Proofs.YtemeapfnfegkiaaK Go.Proofs.YtemeapfnfegkiaaW.PrintWords Go.Proofs.YtemeapfnfegkiaaW.PrintLast Go.Proofs.YtemeapfnfegkiaaW.PrintMore Go.Proofs.Ytemeapfnfegkiaa.PR
set_option linter.unusedVariables false
set_option linter.unusedSimpArgs false
set_option linter.unusedSectionVars false

theorem bulk_pos {H : Type} (d : DataW H) : 1 ≤ Rows.uptoBulk d := by
  cases d with
  | lit l => cases l <;> simp [Rows.uptoBulk]
  | _ => simp [Rows.uptoBulk]
theorem bulk_len {H : Type} : ∀ l : List (DataW H), l.length ≤ Rows.uptoBulkAll l
  | [] => by simp
  | d :: r => by
    have h1 := bulk_pos d
    have h2 := bulk_len r
    simp [Rows.uptoBulkAll]; omega
theorem bulk_mem {H : Type} : ∀ (l : List (DataW H)) (d : DataW H), d ∈ l → Rows.uptoBulk d ≤ Rows.uptoBulkAll l
  | x :: r, d, h => by
    rcases List.mem_cons.1 h with rfl | h
    · simp [Rows.uptoBulkAll]
    · have := bulk_mem r d h
      simp [Rows.uptoBulkAll]; omega
section
variable {H : Type} {enc : TypeId × Value → H} {P : Program} {w : World} {base : Nat} {spare : Nat → Bool} {held : Bool}
theorem slice_bulk {t e : TypeId} {fuel n c : Nat} {A : Option Addr} {x : DataW H × List MemPlace} (ht : P.underlying t = some (.slice e)) (h : DataW.trod enc P w base spare held fuel t [.slice A n c] = some x) : n ≤ Rows.uptoBulk x.1 := by
  rcases open_slice ht h with ⟨h1, h2⟩ | ⟨a, len, cap, m, k, D, Pl, h1, hb, hl, hm, hmm, rfl, hx⟩
  · cases h1; simp
  · cases h1
    have := bulk_len ((List.range n).map D)
    simp [Rows.uptoBulk] at this ⊢; omega
end
section
variable {H : Type} {enc : TypeId × Value → H} {w : World} {base : Nat} {spare : Nat → Bool} {held : Bool}
theorem sheet_bulk {D : Dat} {A4 : Option Addr} {c4 : Nat} {A5 : Option Addr} {c5 : Nat} {d : DataW H} {p : List MemPlace}
    (h : DataW.Trod enc Try.prog w base spare held 27 (.agg #[.string D.nm, .int .i64 D.rad, .int .i64 D.lo, .int .i64 D.hi, .slice A4 D.spots.length c4, .slice A5 D.told.length c5]) d p) : D.spots.length ≤ Rows.uptoBulk d ∧ D.told.length ≤ Rows.uptoBulk d := by
  have hC : Try.prog.cellsOf 27 = 6 := by kernel_rfl
  have hS : Try.prog.cellsOf 23 = 2 := by kernel_rfl
  have hI : Try.prog.cellsOf 3 = 1 := by kernel_rfl
  have hN : Try.prog.cellsOf 9 = 1 := by kernel_rfl
  have h4 : Try.prog.cellsOf 24 = 1 := by kernel_rfl
  have h5 : Try.prog.cellsOf 25 = 1 := by kernel_rfl
  have e27 := Try.underlying27
  have e24 := Try.underlying24
  have e25 := Try.underlying25
  generalize Try.prog = P at h hC hS hI hN h4 h5 e27 e24 e25
  obtain ⟨fuel, hf⟩ := h
  obtain ⟨xs, n, _, hx, _, hlen, hg⟩ := DataW.trod_struct e27 hf
  have g3 := hg 3 _ rfl
  have g4 := hg 4 _ rfl
  have hl5 : xs.length = 5 := hlen
  rw [List.getElem?_eq_getElem (by omega)] at g3 g4
  simp only [Value.cells, List.getElem_toArray, List.getElem_cons_zero, List.getElem_cons_succ, hN, hI, hS, h4, h5, List.drop_zero, List.drop_succ_cons, List.take_succ_cons, List.take_zero] at g3 g4
  obtain ⟨rfl, _⟩ := Prod.mk.inj hx
  have w3 := slice_bulk e24 g3
  have w4 := slice_bulk e25 g4
  have m3 := bulk_mem (xs.map (·.1)) (xs[3].1) (List.mem_map.2 ⟨xs[3], List.getElem_mem _, rfl⟩)
  have m4 := bulk_mem (xs.map (·.1)) (xs[4].1) (List.mem_map.2 ⟨xs[4], List.getElem_mem _, rfl⟩)
  simp only [Rows.uptoBulk]
  omega
theorem open_sheet6 {c0 c1 c2 c3 c4 c5 : Value} {d : DataW H} {p : List MemPlace} (h : DataW.Trod enc Try.prog w base spare held 27 (.agg #[c0, c1, c2, c3, c4, c5]) d p) :
    ∃ (D : Dat) (A4 : Option Addr) (k4 : Nat) (A5 : Option Addr) (k5 : Nat), (.agg #[c0, c1, c2, c3, c4, c5] : Value) = .agg #[.string D.nm, .int .i64 D.rad, .int .i64 D.lo, .int .i64 D.hi, .slice A4 D.spots.length k4, .slice A5 D.told.length k5] ∧ Arg w D A4 k4 A5 k5 ∧ D.Wf := by
  have hC : Try.prog.cellsOf 27 = 6 := by kernel_rfl
  have hS : Try.prog.cellsOf 23 = 2 := by kernel_rfl
  have hI : Try.prog.cellsOf 3 = 1 := by kernel_rfl
  have hN : Try.prog.cellsOf 9 = 1 := by kernel_rfl
  have h4 : Try.prog.cellsOf 24 = 1 := by kernel_rfl
  have h5 : Try.prog.cellsOf 25 = 1 := by kernel_rfl
  have hs4 : Try.prog.cellsOf 80 = 3 := by kernel_rfl
  have hs5 : Try.prog.cellsOf 52 = 3 := by kernel_rfl
  have hB : Try.prog.cellsOf 4 = 1 := by kernel_rfl
  have e27 := Try.underlying27
  have e23 := Try.underlying23
  have e3 := Try.underlying3
  have e4 := Try.underlying4
  have e9 := Try.underlying9
  have e24 := Try.underlying24
  have e25 := Try.underlying25
  have e80 := Try.underlying80
  have e52 := Try.underlying52
  generalize Try.prog = P at h hC hS hI hN h4 h5 hs4 hs5 hB e27 e23 e3 e4 e9 e24 e25 e80 e52 ⊢
  obtain ⟨fuel, hf⟩ := h
  obtain ⟨xs, n, _, hx, _, hlen, hg⟩ := DataW.trod_struct e27 hf
  have g0 := hg 0 _ rfl
  have g1 := hg 1 _ rfl
  have g2 := hg 2 _ rfl
  have g3 := hg 3 _ rfl
  have g4 := hg 4 _ rfl
  have hl5 : xs.length = 5 := hlen
  rw [List.getElem?_eq_getElem (by omega)] at g0 g1 g2 g3 g4
  simp only [Value.cells, List.getElem_toArray, List.getElem_cons_zero, List.getElem_cons_succ, hN, hI, hS, h4, h5, List.drop_zero, List.drop_succ_cons, List.take_succ_cons, List.take_zero] at g0 g1 g2 g3 g4
  obtain ⟨s, hs, _, ws⟩ := DataW.trod_string e9 g0
  obtain ⟨rad, hr, _, wr⟩ := DataW.trod_int e3 g1
  obtain ⟨ys, m, _, _, _, hyl, hy⟩ := DataW.trod_struct e23 g2
  have y0 := hy 0 _ rfl
  have y1 := hy 1 _ rfl
  have hy2 : ys.length = 2 := hyl
  rw [List.getElem?_eq_getElem (by omega)] at y0 y1
  simp only [hI, List.getElem_toArray, List.getElem_cons_zero, List.getElem_cons_succ, List.drop_zero, List.drop_succ_cons, List.take_succ_cons, List.take_zero] at y0 y1
  obtain ⟨lo, hlo, _, wlo⟩ := DataW.trod_int e3 y0
  obtain ⟨hi, hhi, _, whi⟩ := DataW.trod_int e3 y1
  obtain ⟨A4, k4, l4, hA4, hk4, hR4, w4⟩ := open_row3 (K := k80.K) (mk := S80.mk) (g0 := S80.f0) (g1 := S80.f1) (fun w a b c => k80_mk w ⟨a, b, c⟩) (fun _ _ _ => rfl) (fun _ _ _ => rfl) e24 e80 ⟨_, rfl, rfl, e3, hI⟩ ⟨_, rfl, rfl, e3, hI⟩ ⟨_, rfl, rfl, e4, hB⟩ hs4 g3
  obtain ⟨A5, k5, l5, hA5, hk5, hR5, w5⟩ := open_row3 (K := k52.K) (mk := S52.mk) (g0 := S52.f0) (g1 := S52.f1) (fun w a b c => k52_mk w ⟨a, b, c⟩) (fun _ _ _ => rfl) (fun _ _ _ => rfl) e25 e52 ⟨_, rfl, rfl, e3, hI⟩ ⟨_, rfl, rfl, e3, hI⟩ ⟨_, rfl, rfl, e4, hB⟩ hs5 g4
  cases hs; cases hr; cases hlo; cases hhi; cases hA4; cases hA5
  exact ⟨⟨s, rad, lo, hi, l4, l5⟩, A4, k4, A5, k5, rfl, ⟨ws, hR4, hk4, hR5, hk5⟩, ⟨wr, wlo, whi, w4, w5⟩⟩
set_option maxRecDepth 100000 in
theorem open_anew {r : Reach} {b0 : Nat} {v : Value} {d : DataW H} {p : List MemPlace} (hv : Value.okWide Try.prog w r b0 85 v) (h : DataW.Trod enc Try.prog w base spare held 85 v d p) :
    ∃ (S : ByteArray) (D : Dat) (A4 : Option Addr) (c4 : Nat) (A5 : Option Addr) (c5 : Nat) (dot a b : Int), v = .agg #[.string S, .string D.nm, .int .i64 D.rad, .int .i64 D.lo, .int .i64 D.hi, .slice A4 D.spots.length c4, .slice A5 D.told.length c5, .int .i64 dot, .int .i64 a, .int .i64 b] ∧ Arg w D A4 c4 A5 c5 ∧ S.size ≤ 9223372036854775807 ∧ D.spots.length ≤ Rows.uptoBulk d ∧ D.told.length ≤ Rows.uptoBulk d := by
  have hC : Try.prog.cellsOf 85 = 10 := by kernel_rfl
  have hS : Try.prog.cellsOf 27 = 6 := by kernel_rfl
  have hI : Try.prog.cellsOf 3 = 1 := by kernel_rfl
  have hN : Try.prog.cellsOf 9 = 1 := by kernel_rfl
  have e85 := Try.underlying85
  have e3 := Try.underlying3
  have e9 := Try.underlying9
  have hop := @open_sheet6 H enc w base spare held
  have hbu := @sheet_bulk H enc w base spare held
  generalize Try.prog = P at hv h hC hS hI hN e85 e3 e9 hop hbu ⊢
  obtain ⟨cs, rfl, hsz⟩ := okWide_struct e85 hv
  obtain ⟨l⟩ := cs
  rw [hC] at hsz
  match l, hsz with
  | [v0, v1, v2, v3, v4, v5, v6, v7, v8, v9], _ =>
    obtain ⟨fuel, hf⟩ := h
    obtain ⟨xs, n, _, hx, _, hlen, hg⟩ := DataW.trod_struct e85 hf
    have g0 := hg 0 _ rfl
    have g1 := hg 1 _ rfl
    have g2 := hg 2 _ rfl
    have g3 := hg 3 _ rfl
    have g4 := hg 4 _ rfl
    have hl5 : xs.length = 5 := hlen
    rw [List.getElem?_eq_getElem (by omega)] at g0 g1 g2 g3 g4
    simp only [Value.cells, List.getElem_toArray, List.getElem_cons_zero, List.getElem_cons_succ, hN, hI, hS, List.drop_zero, List.drop_succ_cons, List.take_succ_cons, List.take_zero] at g0 g1 g2 g3 g4
    obtain ⟨rfl, _⟩ := Prod.mk.inj hx
    obtain ⟨s, hs, _, ws⟩ := DataW.trod_string e9 g0
    obtain ⟨i2, h2, _, _⟩ := DataW.trod_int e3 g2
    obtain ⟨i3, h3, _, _⟩ := DataW.trod_int e3 g3
    obtain ⟨i4, h4, _, _⟩ := DataW.trod_int e3 g4
    have ht : DataW.Trod enc P w base spare held 27 (.agg #[v1, v2, v3, v4, v5, v6]) xs[1].1 xs[1].2 := ⟨n, g1⟩
    obtain ⟨D, A4, k4, A5, k5, he, hA, _⟩ := hop ht
    rw [he] at ht
    obtain ⟨w4, w5⟩ := hbu ht
    have m1 := bulk_mem (xs.map (·.1)) (xs[1].1) (List.mem_map.2 ⟨xs[1], List.getElem_mem _, rfl⟩)
    cases hs; cases h2; cases h3; cases h4; cases he
    refine ⟨s, D, A4, k4, A5, k5, i2, i3, i4, rfl, hA, ws, ?_, ?_⟩ <;> (simp only [Rows.uptoBulk]; omega)
end
end Go.Proofs.Ytemeapfnfegkiaa.D
namespace Go.Proofs.Ytemeapfnfegkiaa.topAnewDisk
open Go.ChangeShapes Go.WideShapes Go.ChangeAt Go.RowKit
open Go.ChangeMaps (open_string shut_string)
set_option linter.unusedVariables false

theorem own : ownKnob Try.prog.godebug = none := by kernel_rfl
theorem laidOut : laidOutB Try.prog = true := by kernel_rfl

set_option maxRecDepth 100000 in
theorem lifted (os : Os) (started : os.Started) (H : Type) (enc : TypeId × Value → H) (F : Stop.Interp) :
    ReturnsInHanded {} Try.checked os 17 .any ((Rows.OpenSpec.upto Rows.topAnewDiskSpec).pre6 enc Try.prog Try.f17 Rows.topAnewDiskUptoRow.domain false) (((Rows.OpenSpec.upto Rows.topAnewDiskSpec).at F).post enc Try.prog Try.f17 false true false false) := by
  have hw : (DataW.whole enc Try.prog (World.plainHolding Try.prog os ⟨#[], #[.agg #[.string ⟨#[]⟩, .string ⟨#[]⟩, .int .i64 0, .int .i64 0, .int .i64 0, .slice none 0 0, .slice none 0 0, .int .i64 0, .int .i64 0, .int .i64 0]], []⟩).memory Try.f17.params.toList (Rows.OpenSpec.upto Rows.topAnewDiskSpec).vars false (⟨#[], #[.agg #[.string ⟨#[]⟩, .string ⟨#[]⟩, .int .i64 0, .int .i64 0, .int .i64 0, .slice none 0 0, .slice none 0 0, .int .i64 0, .int .i64 0, .int .i64 0]], []⟩ : Input).args.toList 8).map (fun x => Rows.uptoSmall H (x.1 ++ x.2.1)) = some true := by kernel_rfl
  obtain ⟨x, hx, hx1⟩ := Option.map_eq_some_iff.1 hw
  refine returnsInHanded_of_cond (C := Try.checked) (s := Rows.OpenSpec.upto Rows.topAnewDiskSpec) (k := Rows.uptoSmall) rfl own started (by kernel_rfl) Try.func17
    (OpenSpec.witness (enc := enc) (C := Try.checked) (s := Rows.OpenSpec.upto Rows.topAnewDiskSpec) (k := Rows.uptoSmall) rfl false ⟨#[], #[.agg #[.string ⟨#[]⟩, .string ⟨#[]⟩, .int .i64 0, .int .i64 0, .int .i64 0, .slice none 0 0, .slice none 0 0, .int .i64 0, .int .i64 0, .int .i64 0]], []⟩ 8 (by kernel_rfl) (by kernel_rfl) (by kernel_rfl) hx (by rfl) hx1) ?_
  intro W base args ds gs before hval0 hW hcnd hk0 _
  have hval : ∀ (j : Nat) t v, Try.f17.params[j]? = some t → args[j]? = some v → Value.okWide Try.prog W .any base t v := hval0
  have hW' := hW
  obtain ⟨p, q, hA0, hV0, rfl, hfz, hnd⟩ := hW
  have hA : DataW.TrodAll enc Try.prog W 0 (fun _ => true) true Try.f17.params.toList args.toList ds p := hA0
  rw [Try.params17] at hA hval
  obtain ⟨v0, vs0, d0, ds0, p0, q0, hargs, rfl, rfl, h0, r0⟩ := trodAll_cons hA
  obtain ⟨rfl, rfl, rfl⟩ := trodAll_nil r0
  obtain rfl : args = #[v0] := by cases args; simp_all
  obtain ⟨rfl, rfl⟩ := trodVars_none hV0
  have hk : Rows.uptoBulk d0 ≤ 1048576 := by
    have h := of_decide_eq_true (show decide (Rows.uptoBulkAll ([d0] ++ []) ≤ 1048576) = true from hk0)
    simp only [List.append_nil, Rows.uptoBulkAll] at h
    omega
  have k0 := h0
  have lt0 : ∀ x ∈ p0, x.block < W.heap.size := by obtain ⟨m, hm⟩ := k0; exact DataW.trod_lt m _ _ _ hm
  obtain ⟨S, X0, A40, c40, A50, c50, dot, a, b, rfl, hArg0, hS, hb4, hb5⟩ := D.open_anew (hval 0 85 v0 rfl rfl) h0
  clear hA0 hval0
  refine (D.TopAnewDisk_calls S X0 A40 c40 A50 c50 dot a b W hArg0 hS (Nat.le_trans hb4 hk) (Nat.le_trans hb5 hk)).mono fun e W' ⟨he, bel⟩ => ?_
  subst he
  exact ⟨_, rfl, _, _, _, [], _, [], hW', trodAll_mk1 (shut_bool Try.underlying4 _), (trodAll_cons_mk (Below.trod laidOut (by kernel_rfl) (of_decide_eq_true (by kernel_rfl)) k0 bel lt0) trodAll_mk0), rfl, bel.frame _, fun h => by cases h⟩

theorem over : Rows.topAnewDiskUptoRow.holds Try.pinned (Rows.OpenSpec.upto Rows.topAnewDiskSpec) :=
  OpenClaim.holds_of_cond 17 Try.f17 rfl rfl rfl rfl rfl rfl rfl ⟨rfl, rfl, rfl, rfl, rfl⟩ rfl rfl rfl rfl rfl (by kernel_rfl) Try.func17 (by kernel_rfl)
    (of_decide_eq_true (by kernel_rfl)) (by unfold Func.isWrapper; first | (rw [if_pos (by decide +kernel)]; kernel_rfl) | (rw [if_neg (by decide +kernel)]; exact ⟨rfl, rfl⟩))
    (fun os started H enc _ F => lifted os started H enc F)

theorem proved : Rows.TopAnewDiskUptoSaid := over
#print axioms proved
end Go.Proofs.Ytemeapfnfegkiaa.topAnewDisk
namespace Go.Proofs.Ytemeapfnfegkiaa
/-- The row, under a short name, for the claim. -/
theorem topAnewDiskUpto_holds : Rows.TopAnewDiskUptoSaid := topAnewDisk.proved
end Go.Proofs.Ytemeapfnfegkiaa
