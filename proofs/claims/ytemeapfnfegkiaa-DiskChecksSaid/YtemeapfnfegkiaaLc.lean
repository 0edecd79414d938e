/- Package disk: a sheet that came in as an argument, opened. -/
import Derived.Test.YtemeapfnfegkiaaQa
import Derived.Deep.Slices
import Derived.Deep.Fields
import Derived.ChangeSame
import Derived.ProofKit
import Derived.SizedLaws
namespace Go.Proofs.Ytemeapfnfegkiaa.D
open Go Go.RowKit Go.ChangeShapes Go.WideShapes Go.Deep Go.Proofs.YtemeapfnfegkiaaK Go.Proofs.YtemeapfnfegkiaaW.PrintWords Go.Proofs.YtemeapfnfegkiaaW.PrintLast Go.Proofs.YtemeapfnfegkiaaW.PrintMore Go.Proofs.Ytemeapfnfegkiaa.PR
set_option linter.unusedVariables false
set_option linter.unusedSimpArgs false
set_option linter.unusedSectionVars false

section
variable {H : Type} {enc : TypeId × Value → H} {P : Program} {w : World} {base : Nat} {spare : Nat → Bool} {held : Bool}
/-- three cells of a struct of two ints and a bool -/
theorem open_three {t : TypeId} {F : Array Field} {fuel : Nat} {cs : List Value} {x : DataW H × List MemPlace} (ht : P.underlying t = some (.struct F))
    (h0 : ∃ f, F[0]? = some f ∧ f.offset = 0 ∧ P.underlying f.type = some (.int .i64) ∧ P.cellsOf f.type = 1)
    (h1 : ∃ f, F[1]? = some f ∧ f.offset = 1 ∧ P.underlying f.type = some (.int .i64) ∧ P.cellsOf f.type = 1)
    (h2 : ∃ f, F[2]? = some f ∧ f.offset = 2 ∧ P.underlying f.type = some .bool ∧ P.cellsOf f.type = 1)
    (hc : P.cellsOf t = 3) (h : DataW.trod enc P w base spare held fuel t cs = some x) :
    ∃ a b c, cs = [.int .i64 a, .int .i64 b, .bool c] ∧ (Lit.int .i64 a).wf = true ∧ (Lit.int .i64 b).wf = true := by
  obtain ⟨xs, n, rfl, hx, hl, hlen, hf⟩ := DataW.trod_struct ht h
  rw [hc] at hl
  match cs, hl with
  | [v0, v1, v2], _ =>
    obtain ⟨g0, e0, o0, u0, c0⟩ := h0
    obtain ⟨g1, e1, o1, u1, c1⟩ := h1
    obtain ⟨g2, e2, o2, u2, c2⟩ := h2
    have k0 := hf 0 g0 e0
    have k1 := hf 1 g1 e1
    have k2 := hf 2 g2 e2
    have l0 : 0 < F.size := (Array.getElem?_eq_some_iff.1 e0).1
    have l1 : 1 < F.size := (Array.getElem?_eq_some_iff.1 e1).1
    have l2 : 2 < F.size := (Array.getElem?_eq_some_iff.1 e2).1
    rw [o0, c0, List.getElem?_eq_getElem (by omega)] at k0
    rw [o1, c1, List.getElem?_eq_getElem (by omega)] at k1
    rw [o2, c2, List.getElem?_eq_getElem (by omega)] at k2
    obtain ⟨a, ha, _, wa⟩ := DataW.trod_int u0 k0
    obtain ⟨b, hb, _, wb⟩ := DataW.trod_int u1 k1
    obtain ⟨c, hc, _⟩ := DataW.trod_bool u2 k2
    simp only [List.drop_zero, List.take_succ_cons, List.take_zero, List.drop_succ_cons] at ha hb hc
    cases ha; cases hb; cases hc
    exact ⟨a, b, c, rfl, wa, wb⟩

/-- a slice of such structs -/
theorem open_row3 {α : Type} {mk : Int → Int → Bool → α} {t e : TypeId} {F : Array Field} {fuel : Nat} {cs : List Value} {x : DataW H × List MemPlace} {K : World → α → List Value → Prop}
    (hK : ∀ w a b c, K w (mk a b c) [.int .i64 a, .int .i64 b, .bool c]) {g0 g1 : α → Int} (hg0 : ∀ a b c, g0 (mk a b c) = a) (hg1 : ∀ a b c, g1 (mk a b c) = b)
    (ht : P.underlying t = some (.slice e)) (he : P.underlying e = some (.struct F))
    (h0 : ∃ f, F[0]? = some f ∧ f.offset = 0 ∧ P.underlying f.type = some (.int .i64) ∧ P.cellsOf f.type = 1)
    (h1 : ∃ f, F[1]? = some f ∧ f.offset = 1 ∧ P.underlying f.type = some (.int .i64) ∧ P.cellsOf f.type = 1)
    (h2 : ∃ f, F[2]? = some f ∧ f.offset = 2 ∧ P.underlying f.type = some .bool ∧ P.cellsOf f.type = 1)
    (hc : P.cellsOf e = 3) (h : DataW.trod enc P w base spare held fuel t cs = some x) :
    ∃ (A : Option Addr) (cap : Nat) (l : List α), cs = [.slice A l.length cap] ∧ l.length ≤ cap ∧ ReadsRow (K w) 3 w A l.length l ∧ ∀ p ∈ l, (Lit.int .i64 (g0 p)).wf = true ∧ (Lit.int .i64 (g1 p)).wf = true := by
  rcases open_slice ht h with ⟨rfl, rfl⟩ | ⟨a, len, cap, m, n, D, Pl, rfl, hb, hl, hm, hmm, hx, hi⟩
  · exact ⟨none, 0, [], rfl, Nat.le_refl _, ⟨rfl, Nat.zero_le _, fun h => absurd h (Nat.lt_irrefl 0)⟩, fun p hp => by simp at hp⟩
  · have hml : len ≤ m := by rw [hmm]; split <;> omega
    have hh : ∀ i, ∃ p : α, i < len → (∃ c, c.length = 3 ∧ K w p c ∧ ∀ j u, c[j]? = some u → w.cell? (a.add (i * 3 + j)) = some u) ∧ (Lit.int .i64 (g0 p)).wf = true ∧ (Lit.int .i64 (g1 p)).wf = true := by
      intro i
      by_cases hil : i < len
      · obtain ⟨cs', hcc, htt⟩ := hi i (by omega)
        rw [hc] at hcc
        obtain ⟨_, hcl, hat⟩ := World.cells?_some hcc
        obtain ⟨p, q, r, rfl, w1, w2⟩ := open_three he h0 h1 h2 hc htt
        refine ⟨mk p q r, fun _ => ⟨⟨_, rfl, hK w p q r, fun j u hu => ?_⟩, by rw [hg0]; exact w1, by rw [hg1]; exact w2⟩⟩
        have hj : j < 3 := (List.getElem?_eq_some_iff.1 hu).1
        have := hat j hj
        rw [hu] at this
        rw [← this, Go.Deep.add_add]
      · exact ⟨mk 0 0 false, fun h => absurd h hil⟩
    let pick : Nat → α := fun i => (hh i).choose
    have hpick : ∀ i, i < len → (∃ c, c.length = 3 ∧ K w (pick i) c ∧ ∀ j u, c[j]? = some u → w.cell? (a.add (i * 3 + j)) = some u) ∧ (Lit.int .i64 (g0 (pick i))).wf = true ∧ (Lit.int .i64 (g1 (pick i))).wf = true := fun i => (hh i).choose_spec
    have hlen : ((List.range len).map pick).length = len := by simp
    refine ⟨some a, cap, (List.range len).map pick, by rw [hlen], by rw [hlen]; exact hl, ⟨rfl, by rw [hlen]; unfold maxLen at hm; omega, fun _ => ⟨a, rfl, fun j p hp => ?_⟩⟩, fun p hp => ?_⟩
    · have hj : j < len := by have := (List.getElem?_eq_some_iff.1 hp).1; simpa using this
      have : p = pick j := by
        have h := (List.getElem?_eq_some_iff.1 hp).2
        rw [← h]; simp
      subst this
      obtain ⟨c, h1, h2, h3⟩ := (hpick j hj).1
      exact ⟨c, h1, h2, h3⟩
    · obtain ⟨i, hi, rfl⟩ := List.mem_map.1 hp
      exact (hpick i (List.mem_range.1 hi)).2
end

/-- each number of a sheet is an int's -/
structure Dat.Wf (D : Dat) : Prop where
  rad : (Lit.int .i64 D.rad).wf = true
  lo : (Lit.int .i64 D.lo).wf = true
  hi : (Lit.int .i64 D.hi).wf = true
  spots : ∀ p ∈ D.spots, (Lit.int .i64 p.f0).wf = true ∧ (Lit.int .i64 p.f1).wf = true
  told : ∀ p ∈ D.told, (Lit.int .i64 p.f0).wf = true ∧ (Lit.int .i64 p.f1).wf = true

section
variable {H : Type} {enc : TypeId × Value → H} {w : World} {base : Nat} {spare : Nat → Bool} {held : Bool}
set_option maxRecDepth 100000 in
theorem open_sheet {r : Reach} {b0 : Nat} {v : Value} {d : DataW H} {p : List MemPlace} (hv : Value.okWide Try.prog w r b0 27 v) (h : DataW.Trod enc Try.prog w base spare held 27 v d p) :
    ∃ (D : Dat) (A4 : Option Addr) (c4 : Nat) (A5 : Option Addr) (c5 : Nat), v = .agg #[.string D.nm, .int .i64 D.rad, .int .i64 D.lo, .int .i64 D.hi, .slice A4 D.spots.length c4, .slice A5 D.told.length c5] ∧ Arg w D A4 c4 A5 c5 ∧ D.Wf := by
  have hC : Try.prog.cellsOf 27 = 6 := by kernel_rfl
  have hS : Try.prog.cellsOf 23 = 2 := by kernel_rfl
  have hI : Try.prog.cellsOf 3 = 1 := by kernel_rfl
  have hN : Try.prog.cellsOf 9 = 1 := by kernel_rfl
  have h4 : Try.prog.cellsOf 24 = 1 := by kernel_rfl
  have h5 : Try.prog.cellsOf 25 = 1 := by kernel_rfl
  have hs4 : Try.prog.cellsOf 80 = 3 := by kernel_rfl
  have hs5 : Try.prog.cellsOf 52 = 3 := by kernel_rfl
  have hB : Try.prog.cellsOf 4 = 1 := by kernel_rfl
  have e27 := Try.underlying27
  have e23 := Try.underlying23
  have e3 := Try.underlying3
  have e4 := Try.underlying4
  have e9 := Try.underlying9
  have e24 := Try.underlying24
  have e25 := Try.underlying25
  have e80 := Try.underlying80
  have e52 := Try.underlying52
  generalize Try.prog = P at hv h hC hS hI hN h4 h5 hs4 hs5 hB e27 e23 e3 e4 e9 e24 e25 e80 e52 ⊢
  obtain ⟨cs, rfl, hsz⟩ := okWide_struct e27 hv
  obtain ⟨l⟩ := cs
  rw [hC] at hsz
  match l, hsz with
  | [c0, c1, c2, c3, c4, c5], _ =>
    obtain ⟨fuel, hf⟩ := h
    obtain ⟨xs, n, _, hx, _, hlen, hg⟩ := DataW.trod_struct e27 hf
    have g0 := hg 0 _ rfl
    have g1 := hg 1 _ rfl
    have g2 := hg 2 _ rfl
    have g3 := hg 3 _ rfl
    have g4 := hg 4 _ rfl
    have hl5 : xs.length = 5 := hlen
    rw [List.getElem?_eq_getElem (by omega)] at g0 g1 g2 g3 g4
    simp only [Value.cells, List.getElem_toArray, List.getElem_cons_zero, List.getElem_cons_succ, hN, hI, hS, h4, h5, List.drop_zero, List.drop_succ_cons, List.take_succ_cons, List.take_zero] at g0 g1 g2 g3 g4
    obtain ⟨s, hs, _, ws⟩ := DataW.trod_string e9 g0
    obtain ⟨rad, hr, _, wr⟩ := DataW.trod_int e3 g1
    obtain ⟨ys, m, _, _, _, hyl, hy⟩ := DataW.trod_struct e23 g2
    have y0 := hy 0 _ rfl
    have y1 := hy 1 _ rfl
    have hy2 : ys.length = 2 := hyl
    rw [List.getElem?_eq_getElem (by omega)] at y0 y1
    simp only [hI, List.getElem_toArray, List.getElem_cons_zero, List.getElem_cons_succ, List.drop_zero, List.drop_succ_cons, List.take_succ_cons, List.take_zero] at y0 y1
    obtain ⟨lo, hlo, _, wlo⟩ := DataW.trod_int e3 y0
    obtain ⟨hi, hhi, _, whi⟩ := DataW.trod_int e3 y1
    obtain ⟨A4, k4, l4, hA4, hk4, hR4, w4⟩ := open_row3 (K := k80.K) (mk := S80.mk) (g0 := S80.f0) (g1 := S80.f1) (fun w a b c => k80_mk w ⟨a, b, c⟩) (fun _ _ _ => rfl) (fun _ _ _ => rfl) e24 e80 ⟨_, rfl, rfl, e3, hI⟩ ⟨_, rfl, rfl, e3, hI⟩ ⟨_, rfl, rfl, e4, hB⟩ hs4 g3
    obtain ⟨A5, k5, l5, hA5, hk5, hR5, w5⟩ := open_row3 (K := k52.K) (mk := S52.mk) (g0 := S52.f0) (g1 := S52.f1) (fun w a b c => k52_mk w ⟨a, b, c⟩) (fun _ _ _ => rfl) (fun _ _ _ => rfl) e25 e52 ⟨_, rfl, rfl, e3, hI⟩ ⟨_, rfl, rfl, e3, hI⟩ ⟨_, rfl, rfl, e4, hB⟩ hs5 g4
    cases hs; cases hr; cases hlo; cases hhi; cases hA4; cases hA5
    exact ⟨⟨s, rad, lo, hi, l4, l5⟩, A4, k4, A5, k5, rfl, ⟨ws, hR4, hk4, hR5, hk5⟩, ⟨wr, wlo, whi, w4, w5⟩⟩
end
end Go.Proofs.Ytemeapfnfegkiaa.D
