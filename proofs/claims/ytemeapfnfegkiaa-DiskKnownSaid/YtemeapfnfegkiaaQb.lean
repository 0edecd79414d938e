/- Contracts of the functions that this claim reaches, and the words for them. -/
import Derived.Test.YtemeapfnfegkiaaQa
import Derived.Sort.CutIn
import Derived.Test.YtemeapfnfegkiaaQk
import Derived.BigQuiet
import Derived.Deep.RegionHeld3
/- Package disk: count. -/
section
namespace Go.Proofs.Ytemeapfnfegkiaa.D
open Go Go.RowKit Go.Proofs.YtemeapfnfegkiaaK Go.Proofs.YtemeapfnfegkiaaW.PrintWords Go.Proofs.YtemeapfnfegkiaaW.PrintLast Go.Proofs.YtemeapfnfegkiaaW.PrintMore Go.Proofs.Ytemeapfnfegkiaa.PR
set_option linter.unusedVariables false
set_option linter.unusedSimpArgs false
attribute [local go_sem] Oper.semAt_some

/-- what is asked of the groups of a truth: a function value, and what it answers -/
structure Asks (n0 mp f : Nat) (caps : Array Value) (CQ : World → Prop) (Q : (Nat → Int) → Bool) : Prop where
  enters : ∀ args w, (callFunc f args).run Try.prog w = .ok (.enter f args) w
  calls : ∀ g V, CQ V → Calls Try.prog f (#[.agg (vec g)] ++ caps) V fun e V' => e = .returned (.bool (Q g)) ∧ Chg (fun _ => False) V V'
  stable : ∀ A B S, CQ A → Chg S A B → (∀ k, S k → n0 ≤ k ∨ k = mp) → CQ B
  ext : ∀ g h, (∀ k, k < 7 → g k = h k) → Q g = Q h

def eq7 (g h : Nat → Int) : Bool := [g 0, g 1, g 2, g 3, g 4, g 5, g 6] == [h 0, h 1, h 2, h 3, h 4, h 5, h 6]
theorem eq7_iff {g h : Nat → Int} (e : eq7 g h = true) : ∀ k, k < 7 → g k = h k := by
  simp only [eq7, beq_iff_eq, List.cons.injEq, and_true] at e
  obtain ⟨e0, e1, e2, e3, e4, e5, e6⟩ := e
  intro k hk
  match k, hk with
  | 0, _ => exact e0 | 1, _ => exact e1 | 2, _ => exact e2 | 3, _ => exact e3 | 4, _ => exact e4 | 5, _ => exact e5 | 6, _ => exact e6
theorem g1 : Try.prog.underlying 118 = some (.array 7 3) := by kernel_rfl
theorem g2 : Try.prog.cellsOf 3 = 1 := by kernel_rfl
theorem g30 : (Try.prog.info? 3).map (·.size) = some 1 := by kernel_rfl
theorem g3 : ∃ i, Try.prog.info? 3 = some i := by
  cases h : Try.prog.info? 3 with
  | none => have := g30; rw [h] at this; cases this
  | some i => exact ⟨i, rfl⟩
theorem g4 (w : World) (g h : Nat → Int) : (Op.equalIn (9999 + 1) 118 (.agg (vec g)) (.agg (vec h))).run Try.prog w = .ok (eq7 g h) w := by
  obtain ⟨i, hi⟩ := g3
  exact equal_array w g1 hi g2 Try.underlying3 v3 [g 0, g 1, g 2, g 3, g 4, g 5, g 6] [h 0, h 1, h 2, h 3, h 4, h 5, h 6] rfl rfl 9999 (by decide)
theorem g5 (w : World) (g h : Nat → Int) : (Op.equalIn 10000 118 (.agg (vec g)) (.agg (vec h))).run Try.prog w = .ok (eq7 g h) w := g4 w g h

/-- in how many of some truths something is so -/
def cnt (D : Dat) (Q : (Nat → Int) → Bool) (l : List (Int × Nat)) : Nat := l.countP fun x => Q (G D x.1 x.2)

theorem cnt_snoc (D : Dat) (Q : (Nat → Int) → Bool) (l : List (Int × Nat)) (x : Int × Nat) : cnt D Q (l ++ [x]) = cnt D Q l + if Q (G D x.1 x.2) = true then 1 else 0 := by
  simp [cnt, List.countP_append, List.countP_cons]
theorem setsTo_len (D : Dat) (but : Nat) (near : Int) (s : Nat) : (setsTo D but near s).length ≤ s := by
  have := List.length_filter_le (isTruth D but near) (List.range s)
  simpa [setsTo] using this
theorem nearsTo_len (D : Dat) (but : Nat) (k : Nat) : (nearsTo D but k).length ≤ k * 2 ^ D.spots.length := by
  induction k with
  | zero => simp [nearsTo]
  | succ k ih =>
    rw [nearsTo_succ, List.length_append, Nat.succ_mul]
    have := setsTo_len D but (D.lo + k) (2 ^ D.spots.length)
    omega
theorem truthsL_len {D : Dat} (hV : Valid D) (but : Nat) : (truthsL D but).length ≤ 1664 := by
  have h1 := nearsTo_len D but (D.hi - D.lo + 1).toNat
  have h2 : 2 ^ D.spots.length ≤ 2 ^ 7 := Nat.pow_le_pow_right (by decide) hV.n7
  have h3 : (D.hi - D.lo + 1).toNat ≤ 13 := by have := hV.hi; have := hV.lo; omega
  have h4 := Nat.mul_le_mul h3 h2
  unfold truthsL
  omega

set_option maxRecDepth 100000 in
set_option maxHeartbeats 1000000 in
theorem count_calls (w0 W : World) (D : Dat) (A4 : Option Addr) (c4 : Nat) (A5 : Option Addr) (c5 : Nat) (but : Nat) (mp b f : Nat) (caps : Array Value) (CQ : World → Prop) (Q : (Nat → Int) → Bool)
    (hA : Arg w0 D A4 c4 A5 c5) (hV : Valid D) (hbut : but < 2 ^ 62) (h : Sh w0 W D A4 c4 A5 c5 but mp b) (hq : Asks W.heap.size mp f caps CQ Q) (hcq : CQ W) :
    Calls Try.prog 92 #[.pointer (some ⟨b, 0, none⟩), .agg #[.func (.func f) #[] caps]] W
      fun e W' => e = .returned (.tuple #[.int .i64 (cnt D Q (truthsL D but)), .int .i64 (truthsL D but).length]) ∧ Chg (fun k => k = mp) W W' ∧ Sh w0 W' D A4 c4 A5 c5 but mp b ∧ CQ W' := by
  have H := Aside0.mk h
  have hmp := h.mp_lt
  have hb0 := blk_lt h.sh
  have he := hq.enters
  have HQ := Aside0.mk hq
  clear h hq
  refine (callsIn_wide (n := 0)).1 ?_
  refine callsIn_of_wp_marks Try.func92 rfl trivial ?_
  simp only [Try.ntmps92, List.size_toArray, List.length_cons, List.length_nil, Nat.reduceAdd, Nat.reduceSub, Array.replicate_succ, Array.replicate_zero, List.push_toArray, List.append_toArray, List.nil_append, List.cons_append]
  gi_wp2_with fail
  obtain ⟨V1, hV1⟩ : ∃ V1, ((((W.alloc (.cells #[.func (.func f) #[] caps] 121)).alloc (.cells #[.int .i64 0] 3)).alloc (.cells #[.int .i64 0] 3)).alloc (.cells (vec fun _ => 0) 118)) = V1 := ⟨_, rfl⟩
  have hch : Chg (fun _ => False) W V1 := by rw [← hV1]; exact ((((Chg.refl _ W).alloc _).alloc _).alloc _).alloc _
  have HBq : Aside0 (V1.heap[W.heap.size]? = some (.cells #[.func (.func f) #[] caps] 121 (0, 0))) := ⟨by rw [← hV1]; exact blk_alloc (blk_alloc (blk_alloc (blk_new _ _) _) _) _⟩
  have HBy : Aside0 (V1.heap[W.heap.size + 1]? = some (.cells #[.int .i64 0] 3 (0, 0))) := ⟨by rw [← hV1]; exact blk_alloc (blk_alloc (new_at (by simp) _) _) _⟩
  have HBa : Aside0 (V1.heap[W.heap.size + 1 + 1]? = some (.cells #[.int .i64 0] 3 (0, 0))) := ⟨by rw [← hV1]; exact blk_alloc (new_at (by simp) _) _⟩
  have HBl : Aside0 (V1.heap[W.heap.size + 1 + 1 + 1]? = some (.cells (vec fun _ => 0) 118 (0, 0))) := ⟨by rw [← hV1]; exact new_at (by simp) _⟩
  rw [hV1]
  have HC1 := Aside0.mk hch
  clear hch hV1
  obtain ⟨Bq, hBq⟩ : ∃ Bq, W.heap.size = Bq := ⟨_, rfl⟩
  rw [hBq] at HBq HBy HBa HBl HQ ⊢
  refine ⟨trivial, rfl, (callsIn_wide.2 (HQ.out.calls (fun _ => 0) V1 (HQ.out.stable _ _ _ hcq HC1.out (fun _ x => x.elim)))).mono ?_⟩
  rintro e w1 ⟨rfl, hc1⟩
  have HC2 := Aside0.mk (HC1.out.trans hc1)
  have HBq1 := Aside0.mk (hc1.heap HBq.out id)
  have HBy1 := Aside0.mk (hc1.heap HBy.out id)
  have HBa1 := Aside0.mk (hc1.heap HBa.out id)
  have HBl1 := Aside0.mk (hc1.heap HBl.out id)
  clear hc1 HBq HBy HBa HBl HC1
  gi_wp2_with (refine ⟨trivial, rfl, ?_⟩; gi_at_call 118; refine (callsIn_wide.2 (truths_calls _ b)).mono ?_; rintro e w1 ⟨rfl, rfl⟩)
  obtain ⟨V2, hV2⟩ : ∃ V2, (w1.alloc (.cells #[.bool (Q fun _ => 0)] 4)).alloc (.cells #[.pointer (some ⟨b, 0, none⟩)] 112) = V2 := ⟨_, rfl⟩
  have hch : Chg (fun _ => False) w1 V2 := by rw [← hV2]; exact ((Chg.refl _ w1).alloc _).alloc _
  have HC3 := Aside0.mk (HC2.out.trans hch)
  have HBq2 := Aside0.mk (hch.heap HBq1.out id)
  have HBy2 := Aside0.mk (hch.heap HBy1.out id)
  have HBa2 := Aside0.mk (hch.heap HBa1.out id)
  have HBl2 := Aside0.mk (hch.heap HBl1.out id)
  have HBb2 : Aside0 (V2.heap[w1.heap.size]? = some (.cells #[.bool (Q fun _ => 0)] 4 (0, 0))) := ⟨by rw [← hV2]; exact blk_alloc (blk_new _ _) _⟩
  have HBs2 : Aside0 (V2.heap[w1.heap.size + 1]? = some (.cells #[.pointer (some ⟨b, 0, none⟩)] 112 (0, 0))) := ⟨by rw [← hV2]; exact new_at (by simp) _⟩
  rw [hV2]
  clear hch hV2
  have z1 := HC2.out.size
  have z0 := blk_lt HBl1.out
  clear HBq1 HBy1 HBa1 HBl1 HC2
  obtain ⟨Bb, hBb⟩ : ∃ Bb, w1.heap.size = Bb := ⟨_, rfl⟩
  rw [hBb] at HBb2 HBs2 z1 z0 ⊢
  have HOk : Aside0 (Ok w0 D A4 c4 A5 c5 but mp b (Bb + 1) V2) := ⟨H.out.chg HC3.out (fun _ x => x.elim), HBs2.out⟩
  have HCQ := Aside0.mk (HQ.out.stable _ _ _ hcq HC3.out (fun _ x => x.elim))
  have z2 := blk_lt HBs2.out
  have zb := H.out.base.size
  have z3 : mp < V2.heap.size := by omega
  have z4 : b < V2.heap.size := by omega
  have hmp' : mp < Bq := by omega
  have hb0' : b < Bq := by omega
  refine rangeFunc (gf := 129) (lb := #[.pointer (some ⟨Bb + 1, 0, none⟩)]) rfl enters129 (truthsC_iter w0 V2 D A4 c4 A5 c5 but mp b (Bb + 1) hA hV hbut z3) (fun _ => rfl)
    (fun pre Fp V => Fp = (fun k => k = Bq + 1 ∨ k = Bq + 1 + 1 ∨ k = Bq + 1 + 1 + 1 ∨ k = Bb) ∧ V.heap[Bq]? = some (.cells #[.func (.func f) #[] caps] 121 (0, 0)) ∧ V.heap[Bq + 1]? = some (.cells #[.int .i64 (cnt D Q pre)] 3 (0, 0)) ∧
      V.heap[Bq + 1 + 1]? = some (.cells #[.int .i64 pre.length] 3 (0, 0)) ∧ (∃ g, V.heap[Bq + 1 + 1 + 1]? = some (.cells (vec g) 118 (0, 0)) ∧ V.heap[Bb]? = some (.cells #[.bool (Q g)] 4 (0, 0))) ∧ Chg (fun k => k = mp) W V ∧ CQ V)
    (fun c pre V => False)
    (fun k => k = Bq + 1 ∨ k = Bq + 1 + 1 ∨ k = Bq + 1 + 1 + 1 ∨ k = Bb) (fun k e => by omega) (fun A B ho hc => ho.chg hc (fun k hk => by omega)) ?_ (fun c pre A B h => h.elim) ⟨rfl, HBq2.out, HBy2.out, HBa2.out, ⟨_, HBl2.out, HBb2.out⟩, HC3.out.mono (fun _ _ x => x.elim), HCQ.out⟩ (fun k e => by omega) HOk.out ?_ ?_ (fun c pre V _ h => h.elim)
  · rintro pre Fp A B ⟨rfl, h2, h3, h4, ⟨g, h5, h6⟩, h7, h8⟩ hc hok
    exact ⟨rfl, hc.heap h2 (by omega), hc.heap h3 (by omega), hc.heap h4 (by omega), ⟨g, hc.heap h5 (by omega), hc.heap h6 (by omega)⟩, h7.then_ hc (fun k hk hx => by omega), HQ.out.stable _ _ _ h8 hc (fun k hx => by omega)⟩
  · rintro l pre x Fp V hl1 hl2 hfl hFp hpre hI hok
    dsimp only [encT]
    gi_wp2
    have HX0 : Aside0 ((V.alloc (.cells (vec (G D x.1 x.2)) 118)).heap[V.heap.size]? = some (.cells (vec (G D x.1 x.2)) 118 (0, 0))) := ⟨blk_new _ _⟩
    refine ⟨(Chg.refl _ _).alloc _, ?_⟩
    clear hI hok
    rintro V3 hc3 hs3 ⟨rfl, h2, h3, h4, ⟨g, h5, h6⟩, h7, h8⟩ hok
    have HX := Aside0.mk (hc3.heap HX0.out (by omega))
    clear HX0 hc3
    obtain ⟨Bx, hBx⟩ : ∃ Bx, V.heap.size = Bx := ⟨_, rfl⟩
    have zx : ∀ k, (k = Bq + 1 ∨ k = Bq + 1 + 1 ∨ k = Bq + 1 + 1 + 1 ∨ k = Bb) → k < Bx := fun k hk => by have := hFp k hk; omega
    have HZX := Aside0.mk zx
    have z5 := zx _ (.inl rfl)
    have z6 := zx _ (.inr (.inl rfl))
    have z7 := zx _ (.inr (.inr (.inl rfl)))
    have z8 := zx _ (.inr (.inr (.inr rfl)))
    clear zx hFp hs3
    rw [hBx] at HX ⊢
    clear hBx
    obtain ⟨gx, hgx⟩ : ∃ gx, G D x.1 x.2 = gx := ⟨_, rfl⟩
    have HGX := Aside0.mk hgx
    rw [hgx] at HX
    clear hgx
    have H2 := Aside0.mk h2
    have H3 := Aside0.mk h3
    have H4 := Aside0.mk h4
    have H5 := Aside0.mk h5
    have H6 := Aside0.mk h6
    have H7 := Aside0.mk h7
    have H8 := Aside0.mk h8
    have HK := Aside0.mk hok
    clear h2 h3 h4 h5 h6 h7 h8 hok
    have lx := blk_lt HX.out
    have x0 : V3.cell? ⟨Bx, 0, none⟩ = some (.int .i64 (gx 0)) := (blk_cell HX.out 0).trans rfl
    have x1 : V3.cell? ⟨Bx, 1, none⟩ = some (.int .i64 (gx 1)) := (blk_cell HX.out 1).trans rfl
    have x2 : V3.cell? ⟨Bx, 2, none⟩ = some (.int .i64 (gx 2)) := (blk_cell HX.out 2).trans rfl
    have x3 : V3.cell? ⟨Bx, 3, none⟩ = some (.int .i64 (gx 3)) := (blk_cell HX.out 3).trans rfl
    have x4 : V3.cell? ⟨Bx, 4, none⟩ = some (.int .i64 (gx 4)) := (blk_cell HX.out 4).trans rfl
    have x5 : V3.cell? ⟨Bx, 5, none⟩ = some (.int .i64 (gx 5)) := (blk_cell HX.out 5).trans rfl
    have x6 : V3.cell? ⟨Bx, 6, none⟩ = some (.int .i64 (gx 6)) := (blk_cell HX.out 6).trans rfl
    have y0 : V3.cell? ⟨Bq + 1 + 1 + 1, 0, none⟩ = some (.int .i64 (g 0)) := (blk_cell H5.out 0).trans rfl
    have y1 : V3.cell? ⟨Bq + 1 + 1 + 1, 1, none⟩ = some (.int .i64 (g 1)) := (blk_cell H5.out 1).trans rfl
    have y2 : V3.cell? ⟨Bq + 1 + 1 + 1, 2, none⟩ = some (.int .i64 (g 2)) := (blk_cell H5.out 2).trans rfl
    have y3 : V3.cell? ⟨Bq + 1 + 1 + 1, 3, none⟩ = some (.int .i64 (g 3)) := (blk_cell H5.out 3).trans rfl
    have y4 : V3.cell? ⟨Bq + 1 + 1 + 1, 4, none⟩ = some (.int .i64 (g 4)) := (blk_cell H5.out 4).trans rfl
    have y5 : V3.cell? ⟨Bq + 1 + 1 + 1, 5, none⟩ = some (.int .i64 (g 5)) := (blk_cell H5.out 5).trans rfl
    have y6 : V3.cell? ⟨Bq + 1 + 1 + 1, 6, none⟩ = some (.int .i64 (g 6)) := (blk_cell H5.out 6).trans rfl
    have a0 : V3.cell? ⟨Bq + 1, 0, none⟩ = some (.int .i64 (cnt D Q pre)) := (blk_cell H3.out 0).trans rfl
    have a1 : V3.cell? ⟨Bq + 1 + 1, 0, none⟩ = some (.int .i64 pre.length) := (blk_cell H4.out 0).trans rfl
    have a2 : V3.cell? ⟨Bb, 0, none⟩ = some (.bool (Q g)) := (blk_cell H6.out 0).trans rfl
    have a3 : V3.cell? ⟨Bq, 0, none⟩ = some (.func (.func f) #[] caps) := (blk_cell H2.out 0).trans rfl
    have fa0 := blk_frozen H3.out 0
    have fa1 := blk_frozen H4.out 0
    have fa2 := blk_frozen H6.out 0
    have heq := g5 V3 gx g
    obtain ⟨q, hq⟩ : ∃ q, eq7 gx g = q := ⟨_, rfl⟩
    have HE := Aside0.mk hq
    rw [hq] at heq
    clear hq
    have hcn : cnt D Q pre ≤ pre.length := List.countP_le_length
    have hpl : pre.length < 1664 := by
      have h1 := hpre.length_le
      have h2 := truthsL_len hV but
      simp at h1; omega
    have fin : ∀ (a : Act) (W4 : World) (g' : Nat → Int), Chg (fun k => k = Bq + 1 ∨ k = Bq + 1 + 1 ∨ k = Bq + 1 + 1 + 1 ∨ k = Bb) V3 W4 → W4.heap[Bq + 1]? = some (.cells #[.int .i64 (cnt D Q (pre ++ [x]))] 3 (0, 0)) → W4.heap[Bq + 1 + 1]? = some (.cells #[.int .i64 ((pre.length : Int) + 1)] 3 (0, 0)) →
        W4.heap[Bq + 1 + 1 + 1]? = some (.cells (vec g') 118 (0, 0)) → W4.heap[Bb]? = some (.cells #[.bool (Q g')] 4 (0, 0)) →
        roundQ (Ok w0 D A4 c4 A5 c5 but mp b (Bb + 1)) (fun pre Fp V => Fp = (fun k => k = Bq + 1 ∨ k = Bq + 1 + 1 ∨ k = Bq + 1 + 1 + 1 ∨ k = Bb) ∧ V.heap[Bq]? = some (.cells #[.func (.func f) #[] caps] 121 (0, 0)) ∧ V.heap[Bq + 1]? = some (.cells #[.int .i64 (cnt D Q pre)] 3 (0, 0)) ∧
      V.heap[Bq + 1 + 1]? = some (.cells #[.int .i64 pre.length] 3 (0, 0)) ∧ (∃ g, V.heap[Bq + 1 + 1 + 1]? = some (.cells (vec g) 118 (0, 0)) ∧ V.heap[Bb]? = some (.cells #[.bool (Q g)] 4 (0, 0))) ∧ Chg (fun k => k = mp) W V ∧ CQ V)
        (fun c pre V => False) (fun k => k = Bq + 1 ∨ k = Bq + 1 + 1 ∨ k = Bq + 1 + 1 + 1 ∨ k = Bb) (pre ++ [x]) V3 .normal a W4 := fun a W4 g' hc e1 e2 e3 e4 =>
      ⟨_, ⟨rfl, hc.heap H2.out (by omega), e1, by rw [e2]; simp, ⟨g', e3, e4⟩, H7.out.then_ hc (fun k hk hx => by omega), HQ.out.stable _ _ _ H8.out hc (fun k hx => by omega)⟩, hc, HK.out.chg hc (fun k hx => by omega), fun k hk => ⟨by have := hc.size; have := HZX.out k hk; omega, fun _ => hk⟩⟩
    have FIN := Aside0.mk fin
    clear fin
    have hct : ∀ q, Q gx = q → (cnt D Q (pre ++ [x]) : Int) = (cnt D Q pre : Int) + if q = true then 1 else 0 := fun q hq => by rw [cnt_snoc, HGX.out, hq]; split <;> simp
    have HCT := Aside0.mk hct
    clear hct
    cases q
    · have hmix : Try.prog.follows .mixedOrders = true := by kernel_rfl
      gi_wp2
      gi_cut [] from 21 (fun wc => Aside0 (∃ w1, Chg (fun _ => False) V3 w1 ∧ wc = (st7 w1 (Bq + 1 + 1 + 1) gx).setCell ⟨Bb, 0, none⟩ (.bool (Q gx))))
      case first =>
        gi_region_with_o (refine ⟨trivial, rfl, ?_⟩; refine (CallsIn.inRound l (callsIn_wide.2 (HQ.out.calls gx _ (HQ.out.stable _ _ _ H8.out (Chg.refl (fun _ => False) V3).drew (fun _ x => x.elim))))).mono ?_; rintro e w1 ⟨rfl, hcw⟩; have hcc := (Chg.refl (fun _ => False) V3).drew.trans hcw; have x0' := hcc.cell x0 id; have x1' := hcc.cell x1 id; have x2' := hcc.cell x2 id; have x3' := hcc.cell x3 id; have x4' := hcc.cell x4 id; have x5' := hcc.cell x5 id; have x6' := hcc.cell x6 id; have y0' := hcc.cell y0 id; have y1' := hcc.cell y1 id; have y2' := hcc.cell y2 id; have y3' := hcc.cell y3 id; have y4' := hcc.cell y4 id; have y5' := hcc.cell y5 id; have y6' := hcc.cell y6 id; have a2' := hcc.cell a2 id; have fl' := fun k => blk_frozen (hcc.heap H5.out id) k; have fb' := blk_frozen (hcc.heap H6.out id) 0; have HCC := Aside0.mk hcc; clear hcc hcw)
        all_goals
          gi_wp2
          gi_meet
          case rel => exact ⟨⟨_, HCC.out, rfl⟩⟩
      case rest =>
        clear x0 y0 x1 y1 x2 y2 x3 y3 x4 y4 x5 y5 x6 y6 heq hmix a2 fa2
        obtain ⟨⟨w1, HC, rfl⟩⟩ := hcut
        have HCC := Aside0.mk HC
        have b0 := HC.cell a0 id
        have b1 := HC.cell a1 id
        have HB3 := Aside0.mk (HC.heap H3.out id)
        have HB4 := Aside0.mk (HC.heap H4.out id)
        have HB5 := Aside0.mk (HC.heap H5.out id)
        have HB6 := Aside0.mk (HC.heap H6.out id)
        clear HC a0 a1 fa0 fa1
        have HC5 : Aside0 (Chg (fun k => k = Bq + 1 ∨ k = Bq + 1 + 1 ∨ k = Bq + 1 + 1 + 1 ∨ k = Bb) V3 ((st7 w1 (Bq + 1 + 1 + 1) gx).setCell ⟨Bb, 0, none⟩ (.bool (Q gx)))) := ⟨(st7_chg (HCC.out.mono (fun _ _ x => x.elim)) (fun _ => .inr (.inr (.inl rfl))) gx).setCell (p := ⟨Bb, 0, none⟩) (fun _ => .inr (.inr (.inr rfl))) _⟩
        have HC6 : Aside0 (Chg (fun k => k = Bq + 1 + 1 + 1 ∨ k = Bb) w1 ((st7 w1 (Bq + 1 + 1 + 1) gx).setCell ⟨Bb, 0, none⟩ (.bool (Q gx)))) := ⟨(st7_chg (Chg.refl _ w1) (fun _ => .inl rfl) gx).setCell (p := ⟨Bb, 0, none⟩) (fun _ => .inr rfl) _⟩
        have HN3 := Aside0.mk (HC6.out.heap HB3.out (by omega))
        have HN4 := Aside0.mk (HC6.out.heap HB4.out (by omega))
        have HN5 := Aside0.mk (blk_far (st7_heap HB5.out gx) (p := ⟨Bb, 0, none⟩) (by simp; omega) (.bool (Q gx)))
        have HN6 : Aside0 (((st7 w1 (Bq + 1 + 1 + 1) gx).setCell ⟨Bb, 0, none⟩ (.bool (Q gx))).heap[Bb]? = some (.cells #[.bool (Q gx)] 4 (0, 0))) := ⟨blk_set ((st7_chg (Chg.refl (fun k => k = Bq + 1 + 1 + 1) w1) (fun _ => rfl) gx).heap HB6.out (by omega)) 0 _⟩
        obtain ⟨V5, hV5⟩ : ∃ V5, (st7 w1 (Bq + 1 + 1 + 1) gx).setCell ⟨Bb, 0, none⟩ (.bool (Q gx)) = V5 := ⟨_, rfl⟩
        rw [hV5] at HC5 HN3 HN4 HN5 HN6
        rw [hV5]
        clear hV5 HC6 HB3 HB4 HB5 HB6 b0 b1 HCC
        obtain ⟨qg, hqg⟩ : ∃ qg, Q gx = qg := ⟨_, rfl⟩
        have HQG := Aside0.mk hqg
        have a2 : V5.cell? ⟨Bb, 0, none⟩ = some (.bool qg) := by rw [← hqg]; exact (blk_cell HN6.out 0).trans rfl
        have a0 : V5.cell? ⟨Bq + 1, 0, none⟩ = some (.int .i64 (cnt D Q pre)) := (blk_cell HN3.out 0).trans rfl
        have a1 : V5.cell? ⟨Bq + 1 + 1, 0, none⟩ = some (.int .i64 pre.length) := (blk_cell HN4.out 0).trans rfl
        have fa0 := blk_frozen HN3.out 0
        have fa1 := blk_frozen HN4.out 0
        clear hqg
        cases qg
        · gi_wp2
          refine FIN.out _ _ gx (HC5.out.setCell (p := ⟨Bq + 1 + 1, 0, none⟩) (fun _ => .inr (.inl rfl)) _) ?_ (blk_set HN4.out 0 _) (blk_far HN5.out (by simp) _) (by rw [Below.heap_setCell _ _ _ _ (by simp; omega), HN6.out])
          rw [Below.heap_setCell _ _ _ _ (by simp), HN3.out, HCT.out false HQG.out]; simp
        · gi_wp2
          refine FIN.out _ _ gx ((HC5.out.setCell (p := ⟨Bq + 1 + 1, 0, none⟩) (fun _ => .inr (.inl rfl)) _).setCell (p := ⟨Bq + 1, 0, none⟩) (fun _ => .inl rfl) _) ?_ (blk_far (blk_set HN4.out 0 _) (by simp) _) (blk_far (blk_far HN5.out (by simp) _) (by simp; omega) _) (by rw [Below.heap_setCell _ _ _ _ (by simp; omega), Below.heap_setCell _ _ _ _ (by simp; omega), HN6.out])
          have := blk_set (blk_far HN3.out (p := ⟨Bq + 1 + 1, 0, none⟩) (by simp) (.int .i64 ((pre.length : Int) + 1))) 0 (.int .i64 ((cnt D Q pre : Int) + 1))
          rw [HCT.out true HQG.out]; exact this
    · have HQX : Aside0 (Q gx = Q g) := ⟨HQ.out.ext _ _ (eq7_iff HE.out)⟩
      obtain ⟨qg, hqg⟩ : ∃ qg, Q g = qg := ⟨_, rfl⟩
      have HQG := Aside0.mk hqg
      rw [hqg] at a2
      clear hqg
      cases qg
      · gi_wp2
        refine FIN.out _ _ g ((Chg.refl _ V3).setCell (p := ⟨Bq + 1 + 1, 0, none⟩) (fun _ => .inr (.inl rfl)) _) ?_ (blk_set H4.out 0 _) (blk_far H5.out (by simp) _) (by rw [Below.heap_setCell _ _ _ _ (by simp; omega), H6.out])
        rw [Below.heap_setCell _ _ _ _ (by simp), H3.out, HCT.out false (by rw [HQX.out, HQG.out])]; simp
      · gi_wp2
        refine FIN.out _ _ g (((Chg.refl _ V3).setCell (p := ⟨Bq + 1 + 1, 0, none⟩) (fun _ => .inr (.inl rfl)) _).setCell (p := ⟨Bq + 1, 0, none⟩) (fun _ => .inl rfl) _) ?_ (blk_far (blk_set H4.out 0 _) (by simp) _) (blk_far (blk_far H5.out (by simp) _) (by simp; omega) _) (by rw [Below.heap_setCell _ _ _ _ (by simp; omega), Below.heap_setCell _ _ _ _ (by simp; omega), H6.out])
        have := blk_set (blk_far H3.out (p := ⟨Bq + 1 + 1, 0, none⟩) (by simp) (.int .i64 ((pre.length : Int) + 1))) 0 (.int .i64 ((cnt D Q pre : Int) + 1))
        rw [HCT.out true (by rw [HQX.out, HQG.out])]; exact this
  · rintro Fp V ⟨rfl, h2, h3, h4, _, h7, h8⟩ hok hfD hD hsz
    have H3 := Aside0.mk h3
    have H4 := Aside0.mk h4
    have H7 := Aside0.mk h7
    have H8 := Aside0.mk h8
    have HK := Aside0.mk hok
    have HD := Aside0.mk hD
    have a0 : V.cell? ⟨Bq + 1, 0, none⟩ = some (.int .i64 (cnt D Q (truthsL D but))) := (blk_cell h3 0).trans rfl
    have a1 : V.cell? ⟨Bq + 1 + 1, 0, none⟩ = some (.int .i64 (truthsL D but).length) := (blk_cell h4 0).trans rfl
    have fa0 := blk_frozen h3 0
    have fa1 := blk_frozen h4 0
    clear h2 h3 h4 h7 h8 hok hD
    have hmix : Try.prog.follows .mixedOrders = true := by kernel_rfl
    gi_wp2
    gi_region_o
    gi_wp2
    have HD4 : Aside0 (((V.setCell ⟨Bq + 1, 0, none⟩ (.int .i64 (cnt D Q (truthsL D but)))).setCell ⟨Bq + 1 + 1, 0, none⟩ (.int .i64 (truthsL D but).length)).drew.heap[V2.heap.size]? = some (.deferred (some []))) := ⟨by
      rw [heap_drew, Below.heap_setCell _ _ _ _ (by simp; omega), Below.heap_setCell _ _ _ _ (by simp; omega)]; exact HD.out⟩
    have HC4 : Aside0 (Chg (fun k => k = Bq + 1 ∨ k = Bq + 1 + 1 ∨ k = V2.heap.size) V (((V.setCell ⟨Bq + 1, 0, none⟩ (.int .i64 (cnt D Q (truthsL D but)))).setCell ⟨Bq + 1 + 1, 0, none⟩ (.int .i64 (truthsL D but).length)).drew.putObj V2.heap.size (.deferred none))) :=
      ⟨((((Chg.refl _ V).setCell (p := ⟨Bq + 1, 0, none⟩) (fun _ => .inl rfl) _).setCell (p := ⟨Bq + 1 + 1, 0, none⟩) (fun _ => .inr (.inl rfl)) _).drew).putObj (fun _ => .inr (.inr rfl)) _⟩
    have e1 : (((V.setCell ⟨Bq + 1, 0, none⟩ (.int .i64 (cnt D Q (truthsL D but)))).setCell ⟨Bq + 1 + 1, 0, none⟩ (.int .i64 (truthsL D but).length)).drew).cell? ⟨Bq + 1, 0, none⟩ = some (.int .i64 (cnt D Q (truthsL D but))) :=
      (blk_cell (blk_drew (blk_far (blk_set H3.out 0 (.int .i64 (cnt D Q (truthsL D but)))) (p := ⟨Bq + 1 + 1, 0, none⟩) (by simp) (.int .i64 (truthsL D but).length))) 0).trans rfl
    have e2 : (((V.setCell ⟨Bq + 1, 0, none⟩ (.int .i64 (cnt D Q (truthsL D but)))).setCell ⟨Bq + 1 + 1, 0, none⟩ (.int .i64 (truthsL D but).length)).drew).cell? ⟨Bq + 1 + 1, 0, none⟩ = some (.int .i64 (truthsL D but).length) :=
      (blk_cell (blk_drew (blk_set (blk_far H4.out (p := ⟨Bq + 1, 0, none⟩) (by simp) (.int .i64 (cnt D Q (truthsL D but)))) 0 (.int .i64 (truthsL D but).length))) 0).trans rfl
    refine leave_mark HD4.out (v := .tuple #[.int .i64 (cnt D Q (truthsL D but)), .int .i64 (truthsL D but).length]) (results_cell2 rfl _ _ (Bq + 1) (Bq + 1 + 1) _ _ _ _ rfl rfl (cell_putObj e1 HD4.out) Try.underlying3 rfl (cell_putObj e2 HD4.out) Try.underlying3 rfl)
      ⟨rfl, H7.out.then_ HC4.out (fun k hk hx => by omega), HK.out.s.chg HC4.out (fun k hx => by omega), HQ.out.stable _ _ _ H8.out HC4.out (fun k hx => by omega)⟩
end Go.Proofs.Ytemeapfnfegkiaa.D
end
/- Package disk: Is, One. -/
section
namespace Go.Proofs.Ytemeapfnfegkiaa.D
open Go Go.RowKit Go.Proofs.YtemeapfnfegkiaaK Go.Proofs.YtemeapfnfegkiaaW.PrintWords Go.Proofs.YtemeapfnfegkiaaW.PrintLast Go.Proofs.YtemeapfnfegkiaaW.PrintMore Go.Proofs.Ytemeapfnfegkiaa.PR
set_option linter.unusedVariables false
set_option linter.unusedSimpArgs false

def toldF (yes all : Int) : Int := if yes = all then 1 else if yes = 0 then 2 else 0
set_option maxHeartbeats 400000 in
theorem told_calls (yes all : Int) (w : World) : Calls Try.prog 91 #[.int .i64 yes, .int .i64 all] w fun e w' => e = .returned (.int .i64 (toldF yes all)) ∧ w = w' := by
  by_cases h : yes = all
  · subst h
    go_enter Try.func91, Try.ntmps91
    go_wp2
    go_ret
    exact ⟨by simp [toldF], rfl⟩
  · have h1 : (yes == all) = false := beq_eq_false_iff_ne.2 h
    by_cases h0 : yes = 0
    · have h2 : (yes == 0) = true := beq_iff_eq.2 h0
      have H := Aside0.mk h
      have H0 := Aside0.mk h0
      clear h h0
      go_enter Try.func91, Try.ntmps91
      go_wp2
      go_ret
      exact ⟨by rw [toldF, if_neg H.out, if_pos H0.out]; rfl, rfl⟩
    · have h2 : (yes == 0) = false := beq_eq_false_iff_ne.2 h0
      have H := Aside0.mk h
      have H0 := Aside0.mk h0
      clear h h0
      go_enter Try.func91, Try.ntmps91
      go_wp2
      go_ret
      exact ⟨by rw [toldF, if_neg H.out, if_neg H0.out]; rfl, rfl⟩

def isQ (dot : Nat) (g : Nat → Int) : Bool := decide (0 < g dot)
def oneQ (a b : Nat) (g : Nat → Int) : Bool := decide (0 < g a) && g a == g b

set_option maxHeartbeats 400000 in
theorem IsC_calls (g : Nat → Int) (dot Bd : Nat) (w : World) (hd : dot < 7) (hb : w.heap[Bd]? = some (.cells #[.int .i64 dot] 3 (0, 0))) :
    Calls Try.prog 93 #[.agg (vec g), .pointer (some ⟨Bd, 0, none⟩)] w fun e w' => e = .returned (.bool (isQ dot g)) ∧ Chg (fun _ => False) w w' := by
  have c0 : w.cell? ⟨Bd, 0, none⟩ = some (.int .i64 dot) := (blk_cell hb 0).trans rfl
  have lb := blk_lt hb
  clear hb
  go_enter Try.func93, Try.ntmps93
  go_upto_region 1 with (fail)
  have HX : Aside0 ((w.alloc (.cells (vec g) 118)).heap[w.heap.size]? = some (.cells (vec g) 118 (0, 0))) := ⟨blk_new _ _⟩
  have hx : (w.alloc (.cells (vec g) 118)).cell? ⟨w.heap.size, dot, none⟩ = some (.int .i64 (g dot)) := (blk_cell HX.out dot).trans (vec_get g dot hd)
  go_wp2
  go_ret
  exact ⟨rfl, (Chg.refl _ w).alloc _⟩

set_option maxRecDepth 100000 in
set_option maxHeartbeats 400000 in
theorem oneC_calls (g : Nat → Int) (a b Ba Bb : Nat) (w : World) (ha : a < 7) (hb : b < 7) (h1 : w.heap[Ba]? = some (.cells #[.int .i64 a] 3 (0, 0))) (h2 : w.heap[Bb]? = some (.cells #[.int .i64 b] 3 (0, 0))) :
    Calls Try.prog 119 #[.agg (vec g), .pointer (some ⟨Ba, 0, none⟩), .pointer (some ⟨Bb, 0, none⟩)] w fun e w' => e = .returned (.bool (oneQ a b g)) ∧ Chg (fun _ => False) w w' := by
  have HX : Aside0 ((w.alloc (.cells (vec g) 118)).heap[w.heap.size]? = some (.cells (vec g) 118 (0, 0))) := ⟨blk_new _ _⟩
  have HA := Aside0.mk (blk_alloc h1 (.cells (vec g) 118))
  have HB := Aside0.mk (blk_alloc h2 (.cells (vec g) 118))
  have HC : Aside0 (Chg (fun _ => False) w (w.alloc (.cells (vec g) 118))) := ⟨(Chg.refl _ w).alloc _⟩
  clear h1 h2
  go_enter Try.func119, Try.ntmps119
  go_upto_region 1 with (fail)
  obtain ⟨Bx, hBx⟩ : ∃ Bx, w.heap.size = Bx := ⟨_, rfl⟩
  rw [hBx] at HX ⊢
  clear hBx
  generalize w.alloc (.cells (vec g) 118) = W1 at HX HA HB HC ⊢
  have a0 : W1.cell? ⟨Ba, 0, none⟩ = some (.int .i64 a) := (blk_cell HA.out 0).trans rfl
  have b0 : W1.cell? ⟨Bb, 0, none⟩ = some (.int .i64 b) := (blk_cell HB.out 0).trans rfl
  have hxa : W1.cell? ⟨Bx, a, none⟩ = some (.int .i64 (g a)) := (blk_cell HX.out a).trans (vec_get g a ha)
  have hxb : W1.cell? ⟨Bx, b, none⟩ = some (.int .i64 (g b)) := (blk_cell HX.out b).trans (vec_get g b hb)
  have hE : oneQ a b g = (decide (0 < g a) && g a == g b) := rfl
  have HE := Aside0.mk hE
  clear hE
  by_cases hg : 0 < g a
  · have hgd : decide (0 < g a) = true := by simpa using hg
    have HG := Aside0.mk hgd
    go_wp2
    go_quiet (fail)
    go_wp2
    go_ret
    exact ⟨by rw [HE.out, HG.out]; simp, HC.out.drewN _⟩
  · have hgd : decide (0 < g a) = false := by simpa using hg
    have HG := Aside0.mk hgd
    go_wp2
    go_quiet (fail)
    go_wp2
    go_ret
    exact ⟨by rw [HE.out, HG.out]; simp, HC.out.drewN _⟩

theorem enters93 (args : Array Value) (w : World) : (callFunc 93 args).run Try.prog w = .ok (.enter 93 args) w := enters_of Try.func93 (by kernel_rfl) rfl args w
theorem enters119 (args : Array Value) (w : World) : (callFunc 119 args).run Try.prog w = .ok (.enter 119 args) w := enters_of Try.func119 (by kernel_rfl) rfl args w
theorem isAsks (n0 mp Bd dot : Nat) (hd : dot < 7) (h1 : Bd < n0) (h2 : Bd ≠ mp) : Asks n0 mp 93 #[.pointer (some ⟨Bd, 0, none⟩)] (fun V => V.heap[Bd]? = some (.cells #[.int .i64 dot] 3 (0, 0))) (isQ dot) where
  enters := enters93
  calls := fun g V hV => IsC_calls g dot Bd V hd hV
  stable := fun A B S h hc hs => hc.heap h (fun hx => by have := hs _ hx; omega)
  ext := fun g h e => by rw [isQ, isQ, e _ hd]
theorem oneAsks (n0 mp Ba Bb a b : Nat) (ha : a < 7) (hb : b < 7) (h1 : Ba < n0) (h2 : Ba ≠ mp) (h3 : Bb < n0) (h4 : Bb ≠ mp) :
    Asks n0 mp 119 #[.pointer (some ⟨Ba, 0, none⟩), .pointer (some ⟨Bb, 0, none⟩)] (fun V => V.heap[Ba]? = some (.cells #[.int .i64 a] 3 (0, 0)) ∧ V.heap[Bb]? = some (.cells #[.int .i64 b] 3 (0, 0))) (oneQ a b) where
  enters := enters119
  calls := fun g V hV => oneC_calls g a b Ba Bb V ha hb hV.1 hV.2
  stable := fun A B S h hc hs => ⟨hc.heap h.1 (fun hx => by have := hs _ hx; omega), hc.heap h.2 (fun hx => by have := hs _ hx; omega)⟩
  ext := fun g h e => by rw [oneQ, oneQ, e _ ha, e _ hb]
end Go.Proofs.Ytemeapfnfegkiaa.D
end
/- Package disk: Is, One. -/
section
namespace Go.Proofs.Ytemeapfnfegkiaa.D
open Go Go.RowKit Go.Proofs.YtemeapfnfegkiaaK Go.Proofs.YtemeapfnfegkiaaW.PrintWords Go.Proofs.YtemeapfnfegkiaaW.PrintLast Go.Proofs.YtemeapfnfegkiaaW.PrintMore Go.Proofs.Ytemeapfnfegkiaa.PR
set_option linter.unusedVariables false
set_option linter.unusedSimpArgs false

theorem enterE_ok {D : Dat} {dots : List Int} (h : enterE D dots = 0) : Valid D ∧ outB 0 ((D.spots.length : Int) - 1) dots = false ∧ ¬ (dots.length = 2 ∧ rd dots 0 = rd dots 1) ∧ (truthsL D 0).isEmpty = false ∧ (checkF D).2.2 = 0 := by
  unfold enterE at h
  split at h
  · next h1 => exact absurd h h1
  · next h1 =>
    have hc : (checkF D).2.2 = 0 := Decidable.of_not_not h1
    split at h
    · cases h
    · next h2 =>
      split at h
      · cases h
      · next h3 =>
        split at h
        · cases h
        · next h4 => exact ⟨(check_valid hc).1, by simpa using h2, h3, by simpa using h4, hc⟩

def isF (D : Dat) (dot : Int) : Int × Int := if enterE D [dot] = 0 then (toldF (cnt D (isQ dot.toNat) (truthsL D 0)) (truthsL D 0).length, 0) else (0, enterE D [dot])
def oneF (D : Dat) (a b : Int) : Int × Int := if enterE D [a, b] = 0 then (toldF (cnt D (oneQ a.toNat b.toNat) (truthsL D 0)) (truthsL D 0).length, 0) else (0, enterE D [a, b])

theorem cellsQ : (Try.prog.info? 121).map (·.size) = some 1 := by kernel_rfl
set_option maxHeartbeats 400000 in
theorem one_calls (a b : Int) (w : World) :
    Calls Try.prog 97 #[.int .i64 a, .int .i64 b] w fun e w' => e = .returned (.agg #[.func (.func 119) #[] #[.pointer (some ⟨w.heap.size, 0, none⟩), .pointer (some ⟨w.heap.size + 1, 0, none⟩)]]) ∧
      w'.heap[w.heap.size]? = some (.cells #[.int .i64 a] 3 (0, 0)) ∧ w'.heap[w.heap.size + 1]? = some (.cells #[.int .i64 b] 3 (0, 0)) ∧ Chg (fun _ => False) w w' := by
  go_enter Try.func97, Try.ntmps97
  go_wp2
  refine bodyPost_ret (v := .agg #[.func (.func 119) #[] #[.pointer (some ⟨w.heap.size, 0, none⟩), .pointer (some ⟨w.heap.size + 1, 0, none⟩)]]) (results_cell_row rfl _ _ (w.heap.size + 1 + 1) 121 _ (0, 0) _ rfl (new_at (by simp) _) Try.underlying121 rfl cellsQ) rfl
    ⟨rfl, blk_alloc (blk_alloc (blk_new _ _) _) _, blk_alloc (new_at (by simp) _) _, (((Chg.refl _ w).alloc _).alloc _).alloc _⟩

set_option maxHeartbeats 1000000 in
theorem Is_calls (D : Dat) (A4 : Option Addr) (c4 : Nat) (A5 : Option Addr) (c5 : Nat) (dot : Int) (w : World) (h : Arg w D A4 c4 A5 c5) :
    Calls Try.prog 23 #[.agg #[.string D.nm, .int .i64 D.rad, .int .i64 D.lo, .int .i64 D.hi, .slice A4 D.spots.length c4, .slice A5 D.told.length c5], .int .i64 dot] w
      fun e w' => e = .returned (.tuple #[.int .i64 (isF D dot).1, .int .i64 (isF D dot).2]) ∧ Below w.heap.size w w' := by
  have hb3 := below_alloc (below_alloc (below_alloc (Below.refl w.heap.size w) (.cells #[.string D.nm, .int .i64 D.rad, .int .i64 D.lo, .int .i64 D.hi, .slice A4 D.spots.length c4, .slice A5 D.told.length c5] 27)) (.cells #[.int .i64 dot] 3)) (.cells #[.int .i64 dot] 3)
  have HB3 := Aside0.mk hb3
  have HA3 := Aside0.mk (h.below hb3)
  have HD3 : Aside0 ((((w.alloc (.cells #[.string D.nm, .int .i64 D.rad, .int .i64 D.lo, .int .i64 D.hi, .slice A4 D.spots.length c4, .slice A5 D.told.length c5] 27)).alloc (.cells #[.int .i64 dot] 3)).alloc (.cells #[.int .i64 dot] 3)).heap[w.heap.size + 1]? = some (.cells #[.int .i64 dot] 3 (0, 0))) := ⟨blk_alloc (new_at (by simp) _) _⟩
  have hz : (((w.alloc (.cells #[.string D.nm, .int .i64 D.rad, .int .i64 D.lo, .int .i64 D.hi, .slice A4 D.spots.length c4, .slice A5 D.told.length c5] 27)).alloc (.cells #[.int .i64 dot] 3)).alloc (.cells #[.int .i64 dot] 3)).heap.size = w.heap.size + 3 := by simp
  have HL := Aside0.mk (lit1 (W := (w.alloc (.cells #[.string D.nm, .int .i64 D.rad, .int .i64 D.lo, .int .i64 D.hi, .slice A4 D.spots.length c4, .slice A5 D.told.length c5] 27)).alloc (.cells #[.int .i64 dot] 3)) (b := w.heap.size + 1 + 1) (t := 3) dot (by simp))
  clear hb3 h
  obtain ⟨r, hr⟩ : ∃ r, isF D dot = r := ⟨_, rfl⟩
  have HF := Aside0.mk hr
  rw [hr]
  clear hr
  go_enter Try.func23, Try.ntmps23
  go_wp2_with fail
  generalize hW : ((w.alloc (.cells #[.string D.nm, .int .i64 D.rad, .int .i64 D.lo, .int .i64 D.hi, .slice A4 D.spots.length c4, .slice A5 D.told.length c5] 27)).alloc (.cells #[.int .i64 dot] 3)).alloc (.cells #[.int .i64 dot] 3) = W3 at HB3 HA3 HD3 HL hz ⊢
  clear hW
  refine (enter_calls D A4 c4 A5 c5 [dot] _ 1 W3 HA3.out HL.out).mono ?_
  rintro e w1 ⟨v, rfl, hb1, hs1⟩
  have HB1 := Aside0.mk (HB3.out.trans (hb1.mono HB3.out.size))
  have HD1 := Aside0.mk (blk_below HD3.out hb1)
  have HS1 := Aside0.mk hs1
  clear hb1 hs1
  obtain ⟨en, hen⟩ : ∃ en, enterE D [dot] = en := ⟨_, rfl⟩
  have HEN := Aside0.mk hen
  rw [hen]
  clear hen
  by_cases h0 : en = 0
  · subst h0
    obtain ⟨mp, b, rfl, hsh⟩ := HS1.out HEN.out
    obtain ⟨hV, ho, _, _, _⟩ := enterE_ok HEN.out
    have HV := Aside0.mk hV
    have hn7 := hV.n7
    simp only [outB_cons, outB_nil] at ho
    obtain ⟨⟨hd0, hd1⟩, _⟩ := ho
    obtain ⟨d, rfl⟩ := Int.eq_ofNat_of_zero_le hd0
    have HSH := Aside0.mk hsh
    clear hsh hV HS1
    have hlt := blk_lt HD1.out
    have hmp : w.heap.size + 1 ≠ mp := by have := HSH.out.gm; omega
    have hr : r = (toldF (cnt D (isQ d) (truthsL D 0)) (truthsL D 0).length, 0) := by rw [← HF.out, isF, if_pos HEN.out]; rfl
    subst hr
    go_wp2_with (first | (go_at_call 92; refine (count_calls W3 w1 D A4 c4 A5 c5 0 mp b 93 _ _ (isQ d) HA3.out HV.out (by decide) HSH.out (isAsks _ mp (w.heap.size + 1) d (by omega) hlt hmp) HD1.out).mono ?_; rintro e w2 ⟨rfl, hc2, hs2, _⟩; have HC2 := Aside0.mk hc2; have HS2 := Aside0.mk hs2; clear hc2 hs2) | (go_at_call 91; refine (told_calls _ _ _).mono ?_; rintro e w2 ⟨rfl, rfl⟩))
    go_ret2
    exact ⟨rfl, HB1.out.trans (HC2.out.below (fun k hk e => by have := HSH.out.gm; omega) HB1.out.size)⟩
  · have hr : r = (0, en) := by rw [← HF.out, isF, HEN.out, if_neg h0]
    subst hr
    go_wp2
    go_ret2
    exact ⟨rfl, HB1.out⟩

set_option maxHeartbeats 1000000 in
theorem One_calls (D : Dat) (A4 : Option Addr) (c4 : Nat) (A5 : Option Addr) (c5 : Nat) (a b : Int) (w : World) (h : Arg w D A4 c4 A5 c5) :
    Calls Try.prog 25 #[.agg #[.string D.nm, .int .i64 D.rad, .int .i64 D.lo, .int .i64 D.hi, .slice A4 D.spots.length c4, .slice A5 D.told.length c5], .int .i64 a, .int .i64 b] w
      fun e w' => e = .returned (.tuple #[.int .i64 (oneF D a b).1, .int .i64 (oneF D a b).2]) ∧ Below w.heap.size w w' := by
  have hb3 := below_alloc (below_alloc (Below.refl w.heap.size w) (.cells #[.string D.nm, .int .i64 D.rad, .int .i64 D.lo, .int .i64 D.hi, .slice A4 D.spots.length c4, .slice A5 D.told.length c5] 27)) (.cells #[.int .i64 a, .int .i64 b] 3)
  have HB3 := Aside0.mk hb3
  have HA3 := Aside0.mk (h.below hb3)
  have HL := Aside0.mk (lit2 (W := w.alloc (.cells #[.string D.nm, .int .i64 D.rad, .int .i64 D.lo, .int .i64 D.hi, .slice A4 D.spots.length c4, .slice A5 D.told.length c5] 27)) (b := w.heap.size + 1) (t := 3) a b (by simp))
  clear hb3 h
  obtain ⟨r, hr⟩ : ∃ r, oneF D a b = r := ⟨_, rfl⟩
  have HF := Aside0.mk hr
  rw [hr]
  clear hr
  go_enter Try.func25, Try.ntmps25
  go_wp2_with fail
  generalize hW : (w.alloc (.cells #[.string D.nm, .int .i64 D.rad, .int .i64 D.lo, .int .i64 D.hi, .slice A4 D.spots.length c4, .slice A5 D.told.length c5] 27)).alloc (.cells #[.int .i64 a, .int .i64 b] 3) = W3 at HB3 HA3 HL ⊢
  clear hW
  refine (enter_calls D A4 c4 A5 c5 [a, b] _ 2 W3 HA3.out HL.out).mono ?_
  rintro e w1 ⟨v, rfl, hb1, hs1⟩
  have HB1 := Aside0.mk (HB3.out.trans (hb1.mono HB3.out.size))
  have HS1 := Aside0.mk hs1
  clear hb1 hs1
  obtain ⟨en, hen⟩ : ∃ en, enterE D [a, b] = en := ⟨_, rfl⟩
  have HEN := Aside0.mk hen
  rw [hen]
  clear hen
  by_cases h0 : en = 0
  · subst h0
    obtain ⟨mp, b', rfl, hsh⟩ := HS1.out HEN.out
    obtain ⟨hV, ho, _, _, _⟩ := enterE_ok HEN.out
    have HV := Aside0.mk hV
    have hn7 := hV.n7
    simp only [outB_cons, outB_nil] at ho
    obtain ⟨⟨hd0, hd1⟩, ⟨hd2, hd3⟩, _⟩ := ho
    obtain ⟨x, rfl⟩ := Int.eq_ofNat_of_zero_le hd0
    obtain ⟨y, rfl⟩ := Int.eq_ofNat_of_zero_le hd2
    have HSH := Aside0.mk hsh
    clear hsh hV HS1
    have hr : r = (toldF (cnt D (oneQ x y) (truthsL D 0)) (truthsL D 0).length, 0) := by rw [← HF.out, oneF, if_pos HEN.out]; rfl
    subst hr
    go_wp2_with fail
    refine (one_calls _ _ w1).mono ?_
    rintro e w2 ⟨rfl, hx, hy, hc⟩
    have hlx := blk_lt hx
    have hly := blk_lt hy
    have hmp0 := HSH.out.mp_lt
    have HSH2 := Aside0.mk (HSH.out.chg hc (fun _ x => x.elim))
    have HB2 := Aside0.mk (HB1.out.trans ((hc.below (B := w.heap.size) (fun _ _ x => x.elim) HB1.out.size)))
    have HX := Aside0.mk (And.intro hx hy)
    clear hc hx hy
    go_wp2_with (first | (go_at_call 92; refine (count_calls W3 w2 D A4 c4 A5 c5 0 mp b' 119 _ _ (oneQ x y) HA3.out HV.out (by decide) HSH2.out (oneAsks _ mp w1.heap.size (w1.heap.size + 1) x y (by omega) (by omega) hlx (by omega) hly (by omega)) HX.out).mono ?_; rintro e w3 ⟨rfl, hc2, hs2, _⟩; have HC2 := Aside0.mk hc2; have HS2 := Aside0.mk hs2; clear hc2 hs2) | (go_at_call 91; refine (told_calls _ _ _).mono ?_; rintro e w2 ⟨rfl, rfl⟩))
    go_ret2
    exact ⟨rfl, HB2.out.trans (HC2.out.below (fun k hk e => by have := HSH.out.gm; have := HB3.out.size; omega) HB2.out.size)⟩
  · have hr : r = (0, en) := by rw [← HF.out, oneF, HEN.out, if_neg h0]
    subst hr
    go_wp2
    go_ret2
    exact ⟨rfl, HB1.out⟩
end Go.Proofs.Ytemeapfnfegkiaa.D
end
/- Package disk: Min and Max of a row of int, many, spots. -/
section
namespace Go.Proofs.Ytemeapfnfegkiaa.D
open Go Go.RowKit Go.Proofs.YtemeapfnfegkiaaK Go.Proofs.YtemeapfnfegkiaaW.PrintWords Go.Proofs.YtemeapfnfegkiaaW.PrintLast Go.Proofs.YtemeapfnfegkiaaW.PrintMore Go.Proofs.Ytemeapfnfegkiaa.PR
set_option linter.unusedVariables false
set_option linter.unusedSimpArgs false

def foldL (f : Int → Int → Int) : List Int → Int
  | [] => 0
  | x :: xs => xs.foldl f x
theorem foldL_take (f : Int → Int → Int) (l : List Int) (k : Nat) (h0 : 0 < k) (hk : k < l.length) : foldL f (l.take (k + 1)) = f (foldL f (l.take k)) l[k] := by
  obtain ⟨x, xs, rfl⟩ : ∃ x xs, l = x :: xs := by cases l with | nil => simp at hk | cons x xs => exact ⟨x, xs, rfl⟩
  obtain ⟨k, rfl⟩ : ∃ j, k = j + 1 := ⟨k - 1, by omega⟩
  have hk' : k < xs.length := by simpa using hk
  simp only [List.take_succ_cons, foldL, List.getElem_cons_succ]
  rw [List.take_succ_eq_append_getElem hk', List.foldl_append]; rfl
abbrev minL := foldL min
abbrev maxL := foldL max

set_option maxHeartbeats 400000 in
theorem minI_calls (l : List Int) (A : Option Addr) (c : Nat) (w : World) (h0 : 0 < l.length) (hr : Kd.C (Kd.int .i64) w A l.length l) :
    Calls Try.prog 120 #[.slice A l.length c] w fun e w' => e = .returned (.int .i64 (minL l)) ∧ w = w' := by
  have hlen := hr.2.1
  have HR := Aside0.mk hr
  obtain ⟨ad0, e0, hc0⟩ := at_nat hr 0 h0
  subst e0
  have hx0 : foldL min (l.take 1) = rd l 0 := by cases l with | nil => simp at h0 | cons x xs => rfl
  have HX0 := Aside0.mk hx0
  have hc0 : w.cell? ad0 = some (.int .i64 (rd l 0)) := hc0
  clear hr hx0
  go_enter Try.func120, Try.ntmps120
  go_wp2
  go_loop [3, 4] (fun m i => ∃ k : Nat, 0 < k ∧ k ≤ l.length ∧ i = .int .i64 k ∧ m = .int .i64 (minL (l.take k))) (fun m i => l.length - (intOf i).toNat)
  case atStart => exact ⟨1, by omega, h0, rfl, congrArg (Value.int .i64) HX0.out.symm⟩
  case round =>
    obtain ⟨k, hk0, hk, rfl, rfl⟩ := hrel
    by_cases hlt : k < l.length
    · obtain ⟨ad, e, hc⟩ := at_nat HR.out k hlt
      have HO : Aside0 (minL (l.take (k + 1)) = min (minL (l.take k)) l[k]) := ⟨foldL_take min l k hk0 hlt⟩
      have hd : rd l k = l[k] := by simp [rd, hlt]
      rw [hd] at hc
      cases e
      generalize l[k] = x at *
      generalize minL (l.take k) = m at *
      by_cases hm : x < m
      all_goals
        go_wp2
        go_round
        case rel => exact ⟨k + 1, by omega, by omega, by go_num, congrArg (Value.int .i64) (by rw [HO.out]; omega)⟩
        case measure => simp [intOf]; omega
    · obtain rfl : k = l.length := by omega
      go_wp2
      go_ret
      exact ⟨rfl, rfl⟩
set_option maxHeartbeats 400000 in
theorem maxI_calls (l : List Int) (A : Option Addr) (c : Nat) (w : World) (h0 : 0 < l.length) (hr : Kd.C (Kd.int .i64) w A l.length l) :
    Calls Try.prog 121 #[.slice A l.length c] w fun e w' => e = .returned (.int .i64 (maxL l)) ∧ w = w' := by
  have hlen := hr.2.1
  have HR := Aside0.mk hr
  obtain ⟨ad0, e0, hc0⟩ := at_nat hr 0 h0
  subst e0
  have hx0 : foldL max (l.take 1) = rd l 0 := by cases l with | nil => simp at h0 | cons x xs => rfl
  have HX0 := Aside0.mk hx0
  have hc0 : w.cell? ad0 = some (.int .i64 (rd l 0)) := hc0
  clear hr hx0
  go_enter Try.func121, Try.ntmps121
  go_wp2
  go_loop [3, 4] (fun m i => ∃ k : Nat, 0 < k ∧ k ≤ l.length ∧ i = .int .i64 k ∧ m = .int .i64 (maxL (l.take k))) (fun m i => l.length - (intOf i).toNat)
  case atStart => exact ⟨1, by omega, h0, rfl, congrArg (Value.int .i64) HX0.out.symm⟩
  case round =>
    obtain ⟨k, hk0, hk, rfl, rfl⟩ := hrel
    by_cases hlt : k < l.length
    · obtain ⟨ad, e, hc⟩ := at_nat HR.out k hlt
      have HO : Aside0 (maxL (l.take (k + 1)) = max (maxL (l.take k)) l[k]) := ⟨foldL_take max l k hk0 hlt⟩
      have hd : rd l k = l[k] := by simp [rd, hlt]
      rw [hd] at hc
      cases e
      generalize l[k] = x at *
      generalize maxL (l.take k) = m at *
      by_cases hm : m < x
      all_goals
        go_wp2
        go_round
        case rel => exact ⟨k + 1, by omega, by omega, by go_num, congrArg (Value.int .i64) (by rw [HO.out]; omega)⟩
        case measure => simp [intOf]; omega
    · obtain rfl : k = l.length := by omega
      go_wp2
      go_ret
      exact ⟨rfl, rfl⟩

def manyF (g : Nat → Int) : Int := maxL [g 0, g 1, g 2, g 3, g 4, g 5, g 6]
theorem vec_map (g : Nat → Int) : vec g = ([g 0, g 1, g 2, g 3, g 4, g 5, g 6].map (Value.int .i64)).toArray := rfl
theorem many_calls (v0 v1 : Value) (g : Nat → Int) (w : World) : Calls Try.prog 100 #[.agg #[v0, v1], .agg (vec g)] w fun e w' => e = .returned (.int .i64 (manyF g)) ∧ Chg (fun _ => False) w w' := by
  go_enter Try.func100, Try.ntmps100
  go_upto_region 1 with (fail)
  have HX : Aside0 (((w.alloc (.cells #[v0, v1] 130)).alloc (.cells (vec g) 118)).heap[w.heap.size + 1]? = some (.cells (vec g) 118 (0, 0))) := ⟨new_at (by simp) _⟩
  have HC : Aside0 (Chg (fun _ => False) w ((w.alloc (.cells #[v0, v1] 130)).alloc (.cells (vec g) 118))) := ⟨((Chg.refl _ w).alloc _).alloc _⟩
  generalize ((w.alloc (.cells #[v0, v1] 130)).alloc (.cells (vec g) 118)) = W1 at HX HC ⊢
  obtain ⟨Bx, hBx⟩ : ∃ Bx, w.heap.size + 1 = Bx := ⟨_, rfl⟩
  rw [hBx] at HX ⊢
  clear hBx
  have lx := blk_lt HX.out
  go_wp2_with (go_at_call 121; refine (maxI_calls [g 0, g 1, g 2, g 3, g 4, g 5, g 6] _ 7 _ (by simp) (C_lit (by rw [HX.out, vec_map]) (by simp))).mono ?_; rintro e w1 ⟨rfl, rfl⟩)
  go_ret
  exact ⟨rfl, HC.out⟩

theorem run_index_vec (w : World) (g : Nat → Int) (k : Nat) (hk : k < 7) : (Instr.index 118 (.agg (vec g)) (.int .i64 k)).run Try.prog w = .ok (.int .i64 (g k)) w := by
  obtain ⟨i, hi⟩ := g3
  have h1 : (part 3 (vec g) k).run Try.prog w = .ok (.int .i64 (g k)) w := run_part_plain w v3 (vec_get g k hk)
  have h2 : (0 : Int) ≤ k ∧ (k : Int) < 7 := by omega
  have h3 : (sizeOf 3).run Try.prog w = .ok 1 w := by rw [run_sizeOf w hi, g2]
  simp [Instr.index, asIntOf, run_underlying g1, hk, h3, h1]

def spotsTo (g : Nat → Int) : Nat → Int
  | 0 => 0
  | k + 1 => spotsTo g k + min (g k) 1
set_option maxRecDepth 100000 in
set_option maxHeartbeats 400000 in
theorem spots_calls (v0 v1 : Value) (g : Nat → Int) (w : World) (hg : ∀ k, k < 7 → 0 ≤ g k) : Calls Try.prog 101 #[.agg #[v0, v1], .agg (vec g)] w fun e w' => e = .returned (.int .i64 (spotsTo g 7)) ∧ Chg (fun _ => False) w w' := by
  go_enter Try.func101, Try.ntmps101
  go_upto_region 1 with (fail)
  have HX : Aside0 (((w.alloc (.cells #[v0, v1] 130)).alloc (.cells (vec g) 118)).heap[w.heap.size + 1]? = some (.cells (vec g) 118 (0, 0))) := ⟨new_at (by simp) _⟩
  have HC : Aside0 (Chg (fun _ => False) w ((w.alloc (.cells #[v0, v1] 130)).alloc (.cells (vec g) 118))) := ⟨((Chg.refl _ w).alloc _).alloc _⟩
  generalize ((w.alloc (.cells #[v0, v1] 130)).alloc (.cells (vec g) 118)) = W1 at HX HC ⊢
  obtain ⟨Bx, hBx⟩ : ∃ Bx, w.heap.size + 1 = Bx := ⟨_, rfl⟩
  rw [hBx] at HX ⊢
  clear hBx
  have lx := blk_lt HX.out
  have x0 : W1.cell? ⟨Bx, 0, none⟩ = some (.int .i64 (g 0)) := (blk_cell HX.out 0).trans rfl
  have x1 : W1.cell? ⟨Bx, 1, none⟩ = some (.int .i64 (g 1)) := (blk_cell HX.out 1).trans rfl
  have x2 : W1.cell? ⟨Bx, 2, none⟩ = some (.int .i64 (g 2)) := (blk_cell HX.out 2).trans rfl
  have x3 : W1.cell? ⟨Bx, 3, none⟩ = some (.int .i64 (g 3)) := (blk_cell HX.out 3).trans rfl
  have x4 : W1.cell? ⟨Bx, 4, none⟩ = some (.int .i64 (g 4)) := (blk_cell HX.out 4).trans rfl
  have x5 : W1.cell? ⟨Bx, 5, none⟩ = some (.int .i64 (g 5)) := (blk_cell HX.out 5).trans rfl
  have x6 : W1.cell? ⟨Bx, 6, none⟩ = some (.int .i64 (g 6)) := (blk_cell HX.out 6).trans rfl
  go_wp2
  clear x0 x1 x2 x3 x4 x5 x6
  go_loop [4, 8] (fun n i => ∃ k : Nat, k ≤ 7 ∧ i = .int .i64 k ∧ n = .int .i64 (spotsTo g k) ∧ 0 ≤ spotsTo g k ∧ spotsTo g k ≤ k) (fun n i => 7 - (intOf i).toNat)
  case atStart => exact ⟨0, Nat.zero_le _, rfl, rfl, Int.le_refl 0, Int.le_refl 0⟩
  case round =>
    obtain ⟨k, hk, rfl, rfl, h1, h2⟩ := hrel
    have hgk := hg k
    by_cases hlt : k < 7
    · have hgk := hgk hlt
      obtain ⟨m', hm'⟩ : ∃ m', spotsTo g (k + 1) = m' := ⟨_, rfl⟩
      have hs : m' = spotsTo g k + min (g k) 1 := hm'.symm
      have HM := Aside0.mk hm'
      have HS := Aside0.mk hs
      clear hs hm'
      have hix : ∀ w, (Instr.index 118 (.agg #[.int .i64 (g 0), .int .i64 (g 1), .int .i64 (g 2), .int .i64 (g 3), .int .i64 (g 4), .int .i64 (g 5), .int .i64 (g 6)]) (.int .i64 k)).run Try.prog w = .ok (.int .i64 (g k)) w := fun w => run_index_vec w g k hlt
      by_cases hm : g k < 1
      all_goals
        obtain ⟨m, hm2⟩ : ∃ m, spotsTo g k = m := ⟨_, rfl⟩
        rw [hm2] at h1 h2 HS ⊢
        clear hm2
        go_wp2
        go_round
        case rel => exact ⟨k + 1, by omega, by go_num, congrArg (Value.int .i64) (by rw [HM.out, HS.out]; omega), by rw [HM.out, HS.out]; omega, by rw [HM.out, HS.out]; omega⟩
        case measure => simp [intOf]; omega
    · obtain rfl : k = 7 := by omega
      go_wp2
      go_ret
      exact ⟨rfl, HC.out⟩
end Go.Proofs.Ytemeapfnfegkiaa.D
end
/- Package disk: hull. -/
section
namespace Go.Proofs.Ytemeapfnfegkiaa.D
open Go Go.RowKit Go.Proofs.YtemeapfnfegkiaaK Go.Proofs.YtemeapfnfegkiaaW.PrintWords Go.Proofs.YtemeapfnfegkiaaW.PrintLast Go.Proofs.YtemeapfnfegkiaaW.PrintMore Go.Proofs.Ytemeapfnfegkiaa.PR
set_option linter.unusedVariables false
set_option linter.unusedSimpArgs false
attribute [local go_sem] Oper.semAt_some
attribute [-go_sem] Builtin.append_

theorem foldl_keep {α β : Type} (P : β → Prop) (f : β → α → β) (hf : ∀ b a, P b → P (f b a)) (l : List α) (b : β) (h : P b) : P (l.foldl f b) := by
  induction l generalizing b with
  | nil => exact h
  | cons x xs ih => exact ih _ (hf _ _ h)
theorem joinF_all (P : Int → Prop) (adj : Nat → Nat → Bool) (n : Nat) (m : Int) (hm : P m) (f : Nat) : ∀ (g : Nat → Int) (d : Nat), (∀ k, P (g k)) → ∀ k, P (joinF adj n m f g d k) := by
  induction f with
  | zero => intro g d h; exact h
  | succ f ih =>
    intro g d h
    refine foldl_keep (fun g : Nat → Int => ∀ k, P (g k)) _ ?_ _ _ ?_
    · intro g k hg
      split
      · exact ih _ _ hg
      · exact hg
    · intro k
      unfold upd
      split
      · exact hm
      · exact h k
theorem groupsTo_all (adj : Nat → Nat → Bool) (n set : Nat) (k : Nat) : 0 ≤ (groupsTo adj n set k).1 ∧ (groupsTo adj n set k).1 ≤ k ∧ ∀ j, 0 ≤ (groupsTo adj n set k).2 j ∧ (groupsTo adj n set k).2 j ≤ k := by
  induction k with
  | zero => simp [groupsTo]
  | succ k ih =>
    rw [groupsTo_succ]
    obtain ⟨h1, h2, h3⟩ := ih
    split
    · refine ⟨by simp; omega, by simp; omega, joinF_all (fun x => 0 ≤ x ∧ x ≤ ((k + 1 : Nat) : Int)) _ _ _ (by omega) _ _ _ (fun j => by have := h3 j; omega)⟩
    · refine ⟨h1, by omega, fun j => by have := h3 j; omega⟩
theorem G_in {D : Dat} (hV : Valid D) (near : Int) (set : Nat) (k : Nat) : 0 ≤ G D near set k ∧ G D near set k ≤ 7 := by
  have := (groupsTo_all (adjS D.spots near set) D.spots.length set D.spots.length).2.2 k
  have := hV.n7
  unfold G; omega

/-- a number of a truth: a function value, and what it answers -/
structure Vals (f : Nat) (F : Int → (Nat → Int) → Int) : Prop where
  enters : ∀ args w, (callFunc f args).run Try.prog w = .ok (.enter f args) w
  calls : ∀ (n : Int) (s : Nat) g V, (∀ k, 0 ≤ g k ∧ g k ≤ 7) → Calls Try.prog f #[.agg #[.int .i64 n, .int .i64 s], .agg (vec g)] V fun e V' => e = .returned (.int .i64 (F n g)) ∧ Chg (fun _ => False) V V'

def valsL (D : Dat) (F : Int → (Nat → Int) → Int) (l : List (Int × Nat)) : List Int := l.map fun x => F x.1 (G D x.1 x.2)
theorem i3 : ∃ i, Try.prog.info? 3 = some i ∧ i.zero = some (.int .i64 0) ∧ i.size = 1 ∧ i.bytes = 8 := by
  have h := info3
  cases hi : Try.prog.info? 3 with
  | none => rw [hi] at h; cases h
  | some i => rw [hi] at h; simp at h; exact ⟨i, rfl, h.1, h.2.1, h.2.2⟩

/-- a post that bears no panic -/
def calm (Q : Exit → Act → World → Prop) : Exit → Act → World → Prop
  | .normal, a, w => Q .normal a w
  | .ret, a, w => Q .ret a w
  | .exit i, a, w => Q (.exit i) a w
  | .goto i, a, w => Q (.goto i) a w
  | .panic _, _, _ => False
  | .outgrown, _, _ => False
theorem wpIn_calm {F : Fence} {n : Nat} {P : Program} {c : Code} {Q : Exit → Act → World → Prop} {a : Act} {w : World} (h : c.wpIn F n P (calm Q) a w) : c.wpIn F n P Q a w :=
  wpIn_mono h (fun e a w hq => by cases e <;> first | exact hq | exact hq.elim)
theorem info23s : (Try.prog.info? 23).map (·.size) = some 2 := by kernel_rfl
set_option maxRecDepth 100000 in
set_option maxHeartbeats 1000000 in
theorem hull_calls (w0 W : World) (D : Dat) (A4 : Option Addr) (c4 : Nat) (A5 : Option Addr) (c5 : Nat) (but : Nat) (mp b f : Nat) (F : Int → (Nat → Int) → Int)
    (hA : Arg w0 D A4 c4 A5 c5) (hV : Valid D) (hbut : but < 2 ^ 62) (h : Sh w0 W D A4 c4 A5 c5 but mp b) (hq : Vals f F) (hne : truthsL D but ≠ []) :
    Calls Try.prog 99 #[.pointer (some ⟨b, 0, none⟩), .func (.func f) #[] #[]] W
      fun e W' => e = .returned (.agg #[.int .i64 (minL (valsL D F (truthsL D but))), .int .i64 (maxL (valsL D F (truthsL D but)))]) ∧ Chg (fun k => k = mp) W W' ∧ Sh w0 W' D A4 c4 A5 c5 but mp b := by
  have H := Aside0.mk h
  have HNE := Aside0.mk hne
  have hmp := h.mp_lt
  have hb0 := blk_lt h.sh
  have he := hq.enters
  have HQ := Aside0.mk hq
  clear h hq hne
  refine (callsIn_wide (n := 0)).1 ?_
  refine callsIn_of_wp_marks Try.func99 rfl trivial ?_
  simp only [Try.ntmps99, List.size_toArray, List.length_cons, List.length_nil, Nat.reduceAdd, Nat.reduceSub, Array.replicate_succ, Array.replicate_zero, List.push_toArray, List.append_toArray, List.nil_append, List.cons_append]
  gi_wp2_with (refine ⟨trivial, rfl, ?_⟩; gi_at_call 118; refine (callsIn_wide.2 (truths_calls _ b)).mono ?_; rintro e w1 ⟨rfl, rfl⟩)
  obtain ⟨V1, hV1⟩ : ∃ V1, ((((W.alloc (.cells #[.func (.func f) #[] #[]] 127)).alloc (.cells #[.int .i64 0, .int .i64 0] 23)).alloc (.cells #[.slice none 0 0] 46)).alloc (.cells #[.pointer (some ⟨b, 0, none⟩)] 112)) = V1 := ⟨_, rfl⟩
  have hch : Chg (fun _ => False) W V1 := by rw [← hV1]; exact ((((Chg.refl _ W).alloc _).alloc _).alloc _).alloc _
  have HBf : Aside0 (V1.heap[W.heap.size]? = some (.cells #[.func (.func f) #[] #[]] 127 (0, 0))) := ⟨by rw [← hV1]; exact blk_alloc (blk_alloc (blk_alloc (blk_new _ _) _) _) _⟩
  have HBr : Aside0 (V1.heap[W.heap.size + 1]? = some (.cells #[.int .i64 0, .int .i64 0] 23 (0, 0))) := ⟨by rw [← hV1]; exact blk_alloc (blk_alloc (new_at (by simp) _) _) _⟩
  have HBl : Aside0 (V1.heap[W.heap.size + 1 + 1]? = some (.cells #[.slice none 0 0] 46 (0, 0))) := ⟨by rw [← hV1]; exact blk_alloc (new_at (by simp) _) _⟩
  have HBs : Aside0 (V1.heap[W.heap.size + 1 + 1 + 1]? = some (.cells #[.pointer (some ⟨b, 0, none⟩)] 112 (0, 0))) := ⟨by rw [← hV1]; exact new_at (by simp) _⟩
  rw [hV1]
  have HC1 := Aside0.mk hch
  clear hch hV1
  obtain ⟨B, hB⟩ : ∃ B, W.heap.size = B := ⟨_, rfl⟩
  rw [hB] at HBf HBr HBl HBs hmp hb0 ⊢
  have HOk : Aside0 (Ok w0 D A4 c4 A5 c5 but mp b (B + 1 + 1 + 1) V1) := ⟨H.out.chg HC1.out (fun _ x => x.elim), HBs.out⟩
  have z2 := blk_lt HBs.out
  have zb := H.out.base.size
  have z3 : mp < V1.heap.size := by omega
  refine rangeFunc (gf := 129) (lb := #[.pointer (some ⟨B + 1 + 1 + 1, 0, none⟩)]) rfl enters129 (truthsC_iter w0 V1 D A4 c4 A5 c5 but mp b (B + 1 + 1 + 1) hA hV hbut z3) (fun _ => rfl)
    (fun pre Fp V => ∃ v, Fp = (fun k => k = B + 1 + 1 ∨ v.ownBlock = some k) ∧ V.heap[B]? = some (.cells #[.func (.func f) #[] #[]] 127 (0, 0)) ∧ V.heap[B + 1]? = some (.cells #[.int .i64 0, .int .i64 0] 23 (0, 0)) ∧
      V.heap[B + 1 + 1]? = some (.cells #[v] 46 (0, 0)) ∧ Row V B 3 v (valsL D F pre) ∧ Chg (fun k => k = mp) W V)
    (fun c pre V => False)
    (fun k => k = B + 1 + 1) (fun k e => by omega) (fun A C ho hc => ho.chg hc (fun k hk => by omega)) ?_ (fun c pre A B h => h.elim) ⟨.slice none 0 0, by funext k; simp [Value.ownBlock], HBf.out, HBr.out, HBl.out, Row.nil _ _ _, HC1.out.mono (fun _ _ x => x.elim)⟩ (fun k e => by omega) HOk.out ?_ ?_ (fun c pre V _ h => h.elim)
  · rintro pre Fp A C ⟨v, rfl, h2, h3, h4, h5, h6⟩ hc hok
    have n1 := h5.ne h2 (by decide)
    have n2 := h5.ne h3 (by decide)
    have n3 := h5.lt
    refine ⟨v, rfl, hc.heap h2 ?_, hc.heap h3 ?_, hc.heap h4 (by omega), h5.chg hc ?_, h6.then_ hc (fun k hk hx => by omega)⟩
    · rintro (e | e)
      · omega
      · omega
    · rintro (e | e)
      · omega
      · omega
    · rintro k hk (e | e)
      · have := n3 k hk; omega
      · exact e.2 (.inr hk)
  · rintro l pre x Fp V hl1 hl2 hfl hFp hpre hI hok
    dsimp only [encT]
    gi_wp2
    have HX0 : Aside0 (((V.alloc (.cells #[.int .i64 x.1, .int .i64 x.2] 130)).alloc (.cells (vec (G D x.1 x.2)) 118)).heap[V.heap.size + 1]? = some (.cells (vec (G D x.1 x.2)) 118 (0, 0))) := ⟨new_at (by simp) _⟩
    have HY0 : Aside0 (((V.alloc (.cells #[.int .i64 x.1, .int .i64 x.2] 130)).alloc (.cells (vec (G D x.1 x.2)) 118)).heap[V.heap.size]? = some (.cells #[.int .i64 x.1, .int .i64 x.2] 130 (0, 0))) := ⟨blk_alloc (blk_new _ _) _⟩
    refine ⟨((Chg.refl _ _).alloc _).alloc _, ?_⟩
    clear hI hok
    rintro V3 hc3 hs3 ⟨v, rfl, h2, h3, h4, h5, h6⟩ hok
    have HX := Aside0.mk (hc3.heap HX0.out (by omega))
    have HY := Aside0.mk (hc3.heap HY0.out (by omega))
    clear HX0 HY0 hc3
    obtain ⟨Bx, hBx⟩ : ∃ Bx, V.heap.size = Bx := ⟨_, rfl⟩
    have zx : ∀ k, (k = B + 1 + 1 ∨ v.ownBlock = some k) → k < Bx := fun k hk => by have := hFp k hk; omega
    have HZX := Aside0.mk zx
    have z5 := zx _ (.inl rfl)
    clear zx hFp hs3
    rw [hBx] at HX HY ⊢
    clear hBx
    have HG0 : Aside0 (∀ k, 0 ≤ G D x.1 x.2 k ∧ G D x.1 x.2 k ≤ 7) := ⟨G_in hV x.1 x.2⟩
    have HVL : Aside0 (valsL D F (pre ++ [x]) = valsL D F pre ++ [F x.1 (G D x.1 x.2)]) := ⟨by simp [valsL]⟩
    obtain ⟨gx, hgx⟩ : ∃ gx, G D x.1 x.2 = gx := ⟨_, rfl⟩
    rw [hgx] at HX HG0 HVL
    clear hgx
    have H2 := Aside0.mk h2
    have H3 := Aside0.mk h3
    have H4 := Aside0.mk h4
    have H5 := Aside0.mk h5
    have H6 := Aside0.mk h6
    have HK := Aside0.mk hok
    have n1 := h5.ne h2 (by decide)
    have n2 := h5.ne h3 (by decide)
    have n3 := h5.ne h4 (by decide)
    have n4 := h5.ne hok.bs (by decide)
    have n5 := h5.lt
    have HN : Aside0 (∀ k, v.ownBlock = some k → B ≤ k ∧ k ≠ B ∧ k ≠ B + 1 ∧ k ≠ B + 1 + 1 ∧ k ≠ B + 1 + 1 + 1 ∧ k < Bx) := ⟨fun k hk => ⟨(n5 k hk).1, fun e => n1 (e ▸ hk), fun e => n2 (e ▸ hk), fun e => n3 (e ▸ hk), fun e => n4 (e ▸ hk), HZX.out k (.inr hk)⟩⟩
    clear n1 n2 n3 n4 n5 h2 h3 h4 h5 h6 hok
    have lx := blk_lt HX.out
    have lb3 := blk_lt H4.out
    have x0 : V3.cell? ⟨Bx + 1, 0, none⟩ = some (.int .i64 (gx 0)) := (blk_cell HX.out 0).trans rfl
    have x1 : V3.cell? ⟨Bx + 1, 1, none⟩ = some (.int .i64 (gx 1)) := (blk_cell HX.out 1).trans rfl
    have x2 : V3.cell? ⟨Bx + 1, 2, none⟩ = some (.int .i64 (gx 2)) := (blk_cell HX.out 2).trans rfl
    have x3 : V3.cell? ⟨Bx + 1, 3, none⟩ = some (.int .i64 (gx 3)) := (blk_cell HX.out 3).trans rfl
    have x4 : V3.cell? ⟨Bx + 1, 4, none⟩ = some (.int .i64 (gx 4)) := (blk_cell HX.out 4).trans rfl
    have x5 : V3.cell? ⟨Bx + 1, 5, none⟩ = some (.int .i64 (gx 5)) := (blk_cell HX.out 5).trans rfl
    have x6 : V3.cell? ⟨Bx + 1, 6, none⟩ = some (.int .i64 (gx 6)) := (blk_cell HX.out 6).trans rfl
    have y0 : V3.cell? ⟨Bx, 0, none⟩ = some (.int .i64 x.1) := (blk_cell HY.out 0).trans rfl
    have y1 : V3.cell? ⟨Bx, 1, none⟩ = some (.int .i64 x.2) := (blk_cell HY.out 1).trans rfl
    have a0 : V3.cell? ⟨B + 1 + 1, 0, none⟩ = some v := (blk_cell H4.out 0).trans rfl
    have a1 : V3.cell? ⟨B, 0, none⟩ = some (.func (.func f) #[] #[]) := (blk_cell H2.out 0).trans rfl
    have hpl : (valsL D F pre).length ≤ 1000000 := by
      have h1 := hpre.length_le
      have h2 := truthsL_len hV but
      simp [valsL] at h1 ⊢; omega
    have hmix : Try.prog.follows .mixedOrders = true := by kernel_rfl
    have hI3 := i3
    obtain ⟨i, hi, hz, hs, hby⟩ := hI3
    have HAP : Aside0 (∀ w1, Chg (fun _ => False) V3 w1 → ∃ v' w2, (Builtin.append_ #[46, 46] 46 #[v, .slice (some ⟨w1.heap.size, 0, none⟩) 1 1]).run Try.prog (w1.alloc (.cells #[.int .i64 (F x.1 gx)] 3)) = .ok v' w2 ∧
        w2.heap[B + 1 + 1]? = some (.cells #[v] 46 (0, 0)) ∧ Row w2 B 3 v' (valsL D F (pre ++ [x])) ∧ Chg (fun k => v.ownBlock = some k) V3 w2 ∧ (∀ k, v'.ownBlock = some k → k < w2.heap.size ∧ (v.ownBlock = some k ∨ V3.heap.size ≤ k))) := ⟨by
      intro w1 hc
      have hca := hc.alloc (.cells #[.int .i64 (F x.1 gx)] 3)
      obtain ⟨v', w2, e1, e2, e3, e4⟩ := Row.append (P := Try.prog) (H5.out.chg hca (fun _ _ x => x)) 46 Try.underlying46 hi hz hs hby (b := w1.heap.size) (blk_new w1 (.cells #[.int .i64 (F x.1 gx)] 3)) hpl (by have := hca.size; omega)
      exact ⟨v', w2, e1, e3.heap (hca.heap H4.out id) (fun hk => by have := (HN.out _ hk); omega), by rw [HVL.out]; exact e2, (hca.mono (fun _ _ x => x.elim)).trans e3, fun k hk => ⟨(e4 k hk).1, (e4 k hk).2.imp id (fun e => by have := hc.size; have := hca.size; simp at e; omega)⟩⟩⟩
    clear hi hz hs hby hpl
    have FIN : Aside0 (∀ (a : Act) (v' : Value) (w2 : World), w2.heap[B + 1 + 1]? = some (.cells #[v] 46 (0, 0)) → Row w2 B 3 v' (valsL D F (pre ++ [x])) → Chg (fun k => v.ownBlock = some k) V3 w2 → (∀ k, v'.ownBlock = some k → k < w2.heap.size ∧ (v.ownBlock = some k ∨ V3.heap.size ≤ k)) →
        roundQ (Ok w0 D A4 c4 A5 c5 but mp b (B + 1 + 1 + 1)) (fun pre Fp V => ∃ v, Fp = (fun k => k = B + 1 + 1 ∨ v.ownBlock = some k) ∧ V.heap[B]? = some (.cells #[.func (.func f) #[] #[]] 127 (0, 0)) ∧ V.heap[B + 1]? = some (.cells #[.int .i64 0, .int .i64 0] 23 (0, 0)) ∧
      V.heap[B + 1 + 1]? = some (.cells #[v] 46 (0, 0)) ∧ Row V B 3 v (valsL D F pre) ∧ Chg (fun k => k = mp) W V)
        (fun c pre V => False) (fun k => k = B + 1 + 1 ∨ v.ownBlock = some k) (pre ++ [x]) V3 .normal a (w2.setCell ⟨B + 1 + 1, 0, none⟩ v')) := ⟨by
      intro a v' w2 hl hr hc ho
      have hS := (Chg.refl (fun k => k = B + 1 + 1) w2).setCell (p := ⟨B + 1 + 1, 0, none⟩) (fun _ => rfl) v'
      have hT : Chg (fun k => k = B + 1 + 1 ∨ v.ownBlock = some k) V3 (w2.setCell ⟨B + 1 + 1, 0, none⟩ v') := (hc.mono (fun k _ e => .inr e)).trans (hS.mono (fun k _ e => .inl e))
      have hn := hr.ne hl (by decide)
      refine ⟨_, ⟨v', rfl, hT.heap H2.out ?_, hT.heap H3.out ?_, blk_set hl 0 _, hr.chg hS (fun k hk e => hn (e ▸ hk)), H6.out.then_ hT ?_⟩, hT, HK.out.chg hT ?_, ?_⟩
      · rintro (e | e)
        · omega
        · have := HN.out _ e; omega
      · rintro (e | e)
        · omega
        · have := HN.out _ e; omega
      · rintro k hk (e | e)
        · omega
        · have := HN.out _ e; omega
      · rintro k (e | e)
        · omega
        · have := HN.out _ e; omega
      · rintro k (e | e)
        · exact ⟨by have := blk_lt (blk_set hl 0 v'); omega, fun _ => .inl e⟩
        · have := ho k e
          exact ⟨by have := hS.size; omega, fun h => .inr (this.2.resolve_right (by omega))⟩⟩
    gi_wp2
    gi_region_with_o (refine ⟨trivial, rfl, ?_⟩; refine (CallsIn.inRound l (callsIn_wide.2 (HQ.out.calls x.1 x.2 gx _ HG0.out))).mono ?_; rintro e w1 ⟨rfl, hcw⟩; have hcc := (Chg.refl (fun _ => False) V3).drew.trans hcw; have a0' := hcc.cell a0 id; have a0'' := (hcc.alloc (.cells #[.int .i64 (F x.1 gx)] 3)).cell a0 id; obtain ⟨v', w2, hap, hl2, hr2, hc2, ho2⟩ := HAP.out _ hcc; obtain ⟨A', c', rfl, hcap⟩ := hr2.shape; clear hcap; have b0 : w2.cell? ⟨B + 1 + 1, 0, none⟩ = some v := (blk_cell hl2 0).trans rfl; have bf := blk_frozen hl2 0; have bl := blk_lt hl2; have HL2 := Aside0.mk hl2; have HR2 := Aside0.mk hr2; have HC2 := Aside0.mk hc2; have HO2 := Aside0.mk ho2; clear hl2 hr2 hc2 ho2 hcc hcw)
    all_goals
      gi_wp2
      exact FIN.out _ _ _ HL2.out HR2.out HC2.out HO2.out
  · rintro Fp V ⟨v, rfl, h2, h3, h4, h5, h6⟩ hok hfD hD hsz
    obtain ⟨A, c, rfl, hcap⟩ := h5.shape
    have hle : (valsL D F (truthsL D but)).length ≤ 1664 := by
      have h2 := truthsL_len hV but
      simp [valsL]; omega
    have hpos : 0 < (valsL D F (truthsL D but)).length := by
      have := List.length_pos_iff.2 HNE.out
      simpa [valsL] using this
    have HRD := Aside0.mk (Kd.C_drew (h5.read rfl (by omega)))
    have H3 := Aside0.mk h3
    have H6 := Aside0.mk h6
    have HK := Aside0.mk hok
    have HD := Aside0.mk hD
    have a0 : V.cell? ⟨B + 1 + 1, 0, none⟩ = some (.slice A (valsL D F (truthsL D but)).length c) := (blk_cell h4 0).trans rfl
    have b0 : V.cell? ⟨B + 1, 0, none⟩ = some (.int .i64 0) := (blk_cell h3 0).trans rfl
    have b1 : V.cell? ⟨B + 1, 1, none⟩ = some (.int .i64 0) := (blk_cell h3 1).trans rfl
    have f0 := blk_frozen h3 0
    have f1 := blk_frozen h3 1
    have l3 := blk_lt h3
    have l4 := blk_lt h4
    have HS := Aside0.mk h5.lt
    clear h2 h3 h4 h5 h6 hok hfD hD hcap
    have hmix : Try.prog.follows .mixedOrders = true := by kernel_rfl
    obtain ⟨L, hL⟩ : ∃ L, valsL D F (truthsL D but) = L := ⟨_, rfl⟩
    have HL := Aside0.mk hL
    rw [hL] at a0 HRD hpos hle HS
    clear hL
    gi_wp2
    refine wpIn_calm ?_
    gi_region_with_o (refine ⟨trivial, rfl, ?_⟩; first | (gi_at_call 120; refine (callsIn_wide.2 (minI_calls L A c _ hpos HRD.out)).mono ?_; rintro e w1 ⟨rfl, rfl⟩) | (gi_at_call 121; refine (callsIn_wide.2 (maxI_calls L A c _ hpos HRD.out)).mono ?_; rintro e w1 ⟨rfl, rfl⟩))
    all_goals
      dsimp only [calm]
      gi_wp2
      have HB := Aside0.mk (blk_drew (blk_set (blk_set H3.out 0 (.int .i64 (minL L))) 1 (.int .i64 (maxL L))))
      have HC : Aside0 (Chg (fun k => k = B + 1) V ((V.setCell ⟨B + 1, 0, none⟩ (.int .i64 (minL L))).setCell ⟨B + 1, 1, none⟩ (.int .i64 (maxL L))).drew) := ⟨(((Chg.refl (fun k => k = B + 1) V).setCell (p := ⟨B + 1, 0, none⟩) (fun _ => rfl) _).setCell (p := ⟨B + 1, 1, none⟩) (fun _ => rfl) _).drew⟩
      generalize ((V.setCell ⟨B + 1, 0, none⟩ (.int .i64 (minL L))).setCell ⟨B + 1, 1, none⟩ (.int .i64 (maxL L))).drew = V2 at HB HC ⊢
      have z9 := blk_lt HB.out
      have HD2 := Aside0.mk (HC.out.heap HD.out (by omega))
      have HC2 := Aside0.mk ((HC.out.mono (S' := fun k => k = B + 1 ∨ k = V1.heap.size) (fun k _ e => .inl e)).putObj (l := V1.heap.size) (fun _ => .inr rfl) (.deferred none))
      refine leave_mark HD2.out (v := .agg #[.int .i64 (minL L), .int .i64 (maxL L)]) (results_cell_row rfl _ _ (B + 1) 23 _ (0, 0) _ rfl ((World.putObj_heap_other (by omega)).trans HB.out) Try.underlying23 rfl info23s) ⟨by rw [HL.out], H6.out.then_ HC2.out (fun k hk e => by omega), HK.out.s.chg HC2.out (fun k e => by omega)⟩
end Go.Proofs.Ytemeapfnfegkiaa.D
end
/- Package disk: the closures that hull asks, Counts, Number, Near. -/
section
namespace Go.Proofs.Ytemeapfnfegkiaa.D
open Go Go.RowKit Go.Proofs.YtemeapfnfegkiaaK Go.Proofs.YtemeapfnfegkiaaW.PrintWords Go.Proofs.YtemeapfnfegkiaaW.PrintLast Go.Proofs.YtemeapfnfegkiaaW.PrintMore Go.Proofs.Ytemeapfnfegkiaa.PR
set_option linter.unusedVariables false
set_option linter.unusedSimpArgs false

theorem enters100 (args : Array Value) (w : World) : (callFunc 100 args).run Try.prog w = .ok (.enter 100 args) w := enters_of Try.func100 (by kernel_rfl) rfl args w
theorem enters101 (args : Array Value) (w : World) : (callFunc 101 args).run Try.prog w = .ok (.enter 101 args) w := enters_of Try.func101 (by kernel_rfl) rfl args w
theorem enters103 (args : Array Value) (w : World) : (callFunc 103 args).run Try.prog w = .ok (.enter 103 args) w := enters_of Try.func103 (by kernel_rfl) rfl args w
theorem enters104 (args : Array Value) (w : World) : (callFunc 104 args).run Try.prog w = .ok (.enter 104 args) w := enters_of Try.func104 (by kernel_rfl) rfl args w

theorem manyVals : Vals 100 (fun _ g => manyF g) where
  enters := enters100
  calls := fun n s g V _ => many_calls _ _ g V
theorem spotsVals : Vals 101 (fun _ g => spotsTo g 7) where
  enters := enters101
  calls := fun n s g V hg => spots_calls _ _ g V (fun k _ => (hg k).1)
theorem nearVals : Vals 104 (fun n _ => n) where
  enters := enters104
  calls := fun n s g V _ => by
    go_enter Try.func104, Try.ntmps104
    go_wp2
    go_ret
    exact ⟨rfl, ((Chg.refl _ V).alloc _).alloc _⟩

theorem wrapI {n : Int} (h0 : -9223372036854775808 ≤ n) (h1 : n ≤ 9223372036854775807) : IntKind.i64.wrap n = n := by
  simp [IntKind.wrap, IntKind.bits, IntKind.signed]; omega
theorem manyF_in {g : Nat → Int} (hg : ∀ k, 0 ≤ g k ∧ g k ≤ 7) : 0 ≤ manyF g ∧ manyF g ≤ 7 := by
  have h0 := hg 0; have h1 := hg 1; have h2 := hg 2; have h3 := hg 3; have h4 := hg 4; have h5 := hg 5; have h6 := hg 6
  unfold manyF maxL foldL
  simp only [List.foldl]
  omega
theorem spotsTo_in {g : Nat → Int} (hg : ∀ k, 0 ≤ g k ∧ g k ≤ 7) (k : Nat) : 0 ≤ spotsTo g k ∧ spotsTo g k ≤ k := by
  induction k with
  | zero => simp [spotsTo]
  | succ k ih => have := hg k; unfold spotsTo; omega

set_option maxRecDepth 100000 in
set_option maxHeartbeats 1000000 in
theorem NumberC_calls (n : Int) (s : Nat) (g : Nat → Int) (w : World) (hg : ∀ k, 0 ≤ g k ∧ g k ≤ 7) : Calls Try.prog 103 #[.agg #[.int .i64 n, .int .i64 s], .agg (vec g)] w fun e w' => e = .returned (.int .i64 (10 * manyF g + spotsTo g 7)) ∧ Chg (fun _ => False) w w' := by
  go_enter Try.func103, Try.ntmps103
  go_upto_region 1 with (fail)
  have HX : Aside0 (((w.alloc (.cells #[.int .i64 n, .int .i64 s] 130)).alloc (.cells (vec g) 118)).heap[w.heap.size + 1]? = some (.cells (vec g) 118 (0, 0))) := ⟨new_at (by simp) _⟩
  have HY : Aside0 (((w.alloc (.cells #[.int .i64 n, .int .i64 s] 130)).alloc (.cells (vec g) 118)).heap[w.heap.size]? = some (.cells #[.int .i64 n, .int .i64 s] 130 (0, 0))) := ⟨blk_alloc (blk_new _ _) _⟩
  have HC : Aside0 (Chg (fun _ => False) w ((w.alloc (.cells #[.int .i64 n, .int .i64 s] 130)).alloc (.cells (vec g) 118))) := ⟨((Chg.refl _ w).alloc _).alloc _⟩
  generalize ((w.alloc (.cells #[.int .i64 n, .int .i64 s] 130)).alloc (.cells (vec g) 118)) = W1 at HX HY HC ⊢
  obtain ⟨Bx, hBx⟩ : ∃ Bx, w.heap.size = Bx := ⟨_, rfl⟩
  rw [hBx] at HX HY ⊢
  clear hBx
  have lx := blk_lt HX.out
  have x0 : W1.cell? ⟨Bx + 1, 0, none⟩ = some (.int .i64 (g 0)) := (blk_cell HX.out 0).trans rfl
  have x1 : W1.cell? ⟨Bx + 1, 1, none⟩ = some (.int .i64 (g 1)) := (blk_cell HX.out 1).trans rfl
  have x2 : W1.cell? ⟨Bx + 1, 2, none⟩ = some (.int .i64 (g 2)) := (blk_cell HX.out 2).trans rfl
  have x3 : W1.cell? ⟨Bx + 1, 3, none⟩ = some (.int .i64 (g 3)) := (blk_cell HX.out 3).trans rfl
  have x4 : W1.cell? ⟨Bx + 1, 4, none⟩ = some (.int .i64 (g 4)) := (blk_cell HX.out 4).trans rfl
  have x5 : W1.cell? ⟨Bx + 1, 5, none⟩ = some (.int .i64 (g 5)) := (blk_cell HX.out 5).trans rfl
  have x6 : W1.cell? ⟨Bx + 1, 6, none⟩ = some (.int .i64 (g 6)) := (blk_cell HX.out 6).trans rfl
  have y0 : W1.cell? ⟨Bx, 0, none⟩ = some (.int .i64 n) := (blk_cell HY.out 0).trans rfl
  have y1 : W1.cell? ⟨Bx, 1, none⟩ = some (.int .i64 s) := (blk_cell HY.out 1).trans rfl
  have hm := manyF_in hg
  have hs := spotsTo_in hg 7
  obtain ⟨m, hm'⟩ : ∃ m, manyF g = m := ⟨_, rfl⟩
  obtain ⟨t, ht'⟩ : ∃ t, spotsTo g 7 = t := ⟨_, rfl⟩
  have HM := Aside0.mk hm'
  have HT := Aside0.mk ht'
  have HG := Aside0.mk hg
  rw [hm'] at hm
  rw [ht'] at hs
  clear hm' ht' hg
  go_wp2
  go_region_held3 (fun w' : World => w'.cell? ⟨Bx + 1, 0, none⟩ = some (.int .i64 (g 0)) ∧ w'.cell? ⟨Bx + 1, 1, none⟩ = some (.int .i64 (g 1)) ∧ w'.cell? ⟨Bx + 1, 2, none⟩ = some (.int .i64 (g 2)) ∧ w'.cell? ⟨Bx + 1, 3, none⟩ = some (.int .i64 (g 3)) ∧ w'.cell? ⟨Bx + 1, 4, none⟩ = some (.int .i64 (g 4)) ∧ w'.cell? ⟨Bx + 1, 5, none⟩ = some (.int .i64 (g 5)) ∧ w'.cell? ⟨Bx + 1, 6, none⟩ = some (.int .i64 (g 6)) ∧ w'.cell? ⟨Bx, 0, none⟩ = some (.int .i64 n) ∧ w'.cell? ⟨Bx, 1, none⟩ = some (.int .i64 s)) (simp [*]) (first | (go_at_call 100; refine (many_calls (.int .i64 n) (.int .i64 s) g _).mono ?_; rw [HM.out]; rintro e w1 ⟨rfl, hc1⟩; have HC1 := Aside0.mk hc1; have x0a := hc1.cell x0 id; have x1a := hc1.cell x1 id; have x2a := hc1.cell x2 id; have x3a := hc1.cell x3 id; have x4a := hc1.cell x4 id; have x5a := hc1.cell x5 id; have x6a := hc1.cell x6 id; have y0a := hc1.cell y0 id; have y1a := hc1.cell y1 id; clear hc1) | (go_at_call 101; refine (spots_calls (.int .i64 n) (.int .i64 s) g _ (fun k _ => (HG.out k).1)).mono ?_; rw [HT.out]; rintro e w2 ⟨rfl, hc2⟩; have HC2 := Aside0.mk hc2; have x0b := hc2.cell x0a id; have x1b := hc2.cell x1a id; have x2b := hc2.cell x2a id; have x3b := hc2.cell x3a id; have x4b := hc2.cell x4a id; have x5b := hc2.cell x5a id; have x6b := hc2.cell x6a id; have y0b := hc2.cell y0a id; have y1b := hc2.cell y1a id; clear hc2))
  go_wp2
  go_ret
  have e1 : IntKind.i64.wrap (10 * m) = 10 * m := wrapI (by omega) (by omega)
  have e2 : IntKind.i64.wrap (10 * m + t) = 10 * m + t := wrapI (by omega) (by omega)
  exact ⟨by rw [HM.out, HT.out]; exact congrArg (fun x => Ending.returned (Value.int .i64 x)) (by rw [e1, e2]), HC.out.trans ((Chg.refl _ W1).drew.trans (HC1.out.trans HC2.out))⟩
theorem numberVals : Vals 103 (fun _ g => 10 * manyF g + spotsTo g 7) where
  enters := enters103
  calls := fun n s g V hg => NumberC_calls n s g V hg

theorem results_row_tmp {P : Program} {fn : Func} {p q : Tmp} {ty : TypeId} (h : fn.results = #[.cell p ty, .tmp q]) (tmps : Array Value) (w : World) (g : Nat) (t : TypeId) (cs : Array Value) (fr : Nat × Nat) (d : TypeDesc) (v : Value)
    (hp : tmps.getD p undef = .pointer (some ⟨g, 0, none⟩)) (hg : w.heap[g]? = some (.cells cs t fr))
    (hu : P.underlying ty = some d) (hd : (match d with | .struct _ | .array _ _ => true | _ => false) = true) (hi : (P.info? ty).map (·.size) = some cs.size) (hv : tmps.getD q undef = v) :
    (results fn tmps).run P w = .ok (.tuple #[.agg cs, v]) w := by
  have hp' : tmps[p]?.getD undef = .pointer (some ⟨g, 0, none⟩) := by simpa using hp
  have hv' : tmps[q]?.getD undef = v := by simpa using hv
  simp [results, h, hp', hv', asAddr, run_loadVar_row w g t ty cs fr d hg hu hd hi]
theorem results_row2_tmp {P : Program} {fn : Func} {p p' q : Tmp} {ty : TypeId} (h : fn.results = #[.cell p ty, .cell p' ty, .tmp q]) (tmps : Array Value) (w : World) (g g' : Nat) (t : TypeId) (cs cs' : Array Value) (fr fr' : Nat × Nat) (d : TypeDesc) (v : Value)
    (hp : tmps.getD p undef = .pointer (some ⟨g, 0, none⟩)) (hp' : tmps.getD p' undef = .pointer (some ⟨g', 0, none⟩)) (hg : w.heap[g]? = some (.cells cs t fr)) (hg' : w.heap[g']? = some (.cells cs' t fr'))
    (hu : P.underlying ty = some d) (hd : (match d with | .struct _ | .array _ _ => true | _ => false) = true) (hi : (P.info? ty).map (·.size) = some cs.size) (hi' : (P.info? ty).map (·.size) = some cs'.size) (hv : tmps.getD q undef = v) :
    (results fn tmps).run P w = .ok (.tuple #[.agg cs, .agg cs', v]) w := by
  have h1 : tmps[p]?.getD undef = .pointer (some ⟨g, 0, none⟩) := by simpa using hp
  have h1' : tmps[p']?.getD undef = .pointer (some ⟨g', 0, none⟩) := by simpa using hp'
  have hv' : tmps[q]?.getD undef = v := by simpa using hv
  simp [results, h, h1, h1', hv', asAddr, run_loadVar_row w g t ty cs fr d hg hu hd hi, run_loadVar_row w g' t ty cs' fr' d hg' hu hd hi']

/-- the error of a sheet whose truths are looked at, and the ends of a number of them -/
def spanF (D : Dat) (F : Int → (Nat → Int) → Int) : Int × Int := if enterE D [] = 0 then (minL (valsL D F (truthsL D 0)), maxL (valsL D F (truthsL D 0))) else (0, 0)

set_option maxHeartbeats 1000000 in
theorem Near_calls (D : Dat) (A4 : Option Addr) (c4 : Nat) (A5 : Option Addr) (c5 : Nat) (w : World) (h : Arg w D A4 c4 A5 c5) :
    Calls Try.prog 31 #[.agg #[.string D.nm, .int .i64 D.rad, .int .i64 D.lo, .int .i64 D.hi, .slice A4 D.spots.length c4, .slice A5 D.told.length c5]] w
      fun e w' => e = .returned (.tuple #[.agg #[.int .i64 (spanF D (fun n _ => n)).1, .int .i64 (spanF D (fun n _ => n)).2], .int .i64 (enterE D [])]) ∧ Below w.heap.size w w' := by
  have hb3 := below_alloc (below_alloc (Below.refl w.heap.size w) (.cells #[.string D.nm, .int .i64 D.rad, .int .i64 D.lo, .int .i64 D.hi, .slice A4 D.spots.length c4, .slice A5 D.told.length c5] 27)) (.cells #[.int .i64 0, .int .i64 0] 23)
  have HB3 := Aside0.mk hb3
  have HA3 := Aside0.mk (h.below hb3)
  have HD3 : Aside0 (((w.alloc (.cells #[.string D.nm, .int .i64 D.rad, .int .i64 D.lo, .int .i64 D.hi, .slice A4 D.spots.length c4, .slice A5 D.told.length c5] 27)).alloc (.cells #[.int .i64 0, .int .i64 0] 23)).heap[w.heap.size + 1]? = some (.cells #[.int .i64 0, .int .i64 0] 23 (0, 0))) := ⟨new_at (by simp) _⟩
  clear hb3 h
  obtain ⟨r, hr⟩ : ∃ r, spanF D (fun n _ => n) = r := ⟨_, rfl⟩
  have HF := Aside0.mk hr
  rw [hr]
  clear hr
  go_enter Try.func31, Try.ntmps31
  go_wp2_with fail
  generalize hW : (w.alloc (.cells #[.string D.nm, .int .i64 D.rad, .int .i64 D.lo, .int .i64 D.hi, .slice A4 D.spots.length c4, .slice A5 D.told.length c5] 27)).alloc (.cells #[.int .i64 0, .int .i64 0] 23) = W3 at HB3 HA3 HD3 ⊢
  clear hW
  refine (enter_calls D A4 c4 A5 c5 [] none 0 W3 HA3.out (by exact ⟨rfl, by simp, fun h => absurd h (by simp)⟩)).mono ?_
  rintro e w1 ⟨v, rfl, hb1, hs1⟩
  have HB1 := Aside0.mk (HB3.out.trans (hb1.mono HB3.out.size))
  have HD1 := Aside0.mk (blk_below HD3.out hb1)
  have HS1 := Aside0.mk hs1
  have b0 : w1.cell? ⟨w.heap.size + 1, 0, none⟩ = some (.int .i64 0) := (blk_cell HD1.out 0).trans rfl
  have b1 : w1.cell? ⟨w.heap.size + 1, 1, none⟩ = some (.int .i64 0) := (blk_cell HD1.out 1).trans rfl
  have f0 := blk_frozen HD1.out 0
  have f1 := blk_frozen HD1.out 1
  have lb1 := blk_lt HD1.out
  clear hb1 hs1
  obtain ⟨en, hen⟩ : ∃ en, enterE D [] = en := ⟨_, rfl⟩
  have HEN := Aside0.mk hen
  rw [hen]
  clear hen
  by_cases h0 : en = 0
  · subst h0
    obtain ⟨mp, b, rfl, hsh⟩ := HS1.out HEN.out
    obtain ⟨hV, _, _, hne, _⟩ := enterE_ok HEN.out
    have HV := Aside0.mk hV
    have HN : Aside0 (truthsL D 0 ≠ []) := ⟨by intro e; rw [e] at hne; simp at hne⟩
    have HSH := Aside0.mk hsh
    clear hsh hV hne HS1 b0 b1 f0 f1
    have hmp : w.heap.size + 1 ≠ mp := by have := HSH.out.gm; have := blk_lt HD3.out; omega
    have hr : r = (minL (valsL D (fun n _ => n) (truthsL D 0)), maxL (valsL D (fun n _ => n) (truthsL D 0))) := by rw [← HF.out, spanF, if_pos HEN.out]
    subst hr
    go_wp2_with (go_at_call 99; refine (hull_calls W3 w1 D A4 c4 A5 c5 0 mp b 104 (fun n _ => n) HA3.out HV.out (by decide) HSH.out nearVals HN.out).mono ?_; rintro e w2 ⟨rfl, hc2, hs2⟩; have HC2 := Aside0.mk hc2; have hd2 := hc2.heap HD1.out hmp; have HD2 := Aside0.mk hd2; have b0 : w2.cell? ⟨w.heap.size + 1, 0, none⟩ = some (.int .i64 0) := (blk_cell hd2 0).trans rfl; have b1 : w2.cell? ⟨w.heap.size + 1, 1, none⟩ = some (.int .i64 0) := (blk_cell hd2 1).trans rfl; have f0 := blk_frozen hd2 0; have f1 := blk_frozen hd2 1; have lb2 := blk_lt hd2; clear hc2 hs2 hd2)
    have HB2 := Aside0.mk (HB1.out.trans (HC2.out.below (fun k hk e => by have := HSH.out.gm; have := HB3.out.size; omega) HB1.out.size))
    refine bodyPost_ret (v := .tuple #[.agg #[.int .i64 (minL (valsL D (fun n _ => n) (truthsL D 0))), .int .i64 (maxL (valsL D (fun n _ => n) (truthsL D 0)))], .int .i64 0]) (results_row_tmp rfl _ _ (w.heap.size + 1) 23 _ (0, 0) _ _ rfl (blk_set (blk_set HD2.out 0 _) 1 _) Try.underlying23 rfl info23s rfl) rfl
      ⟨by rw [HEN.out], below_set (below_set HB2.out (by simp)) (by simp)⟩
  · have hr : r = (0, 0) := by rw [← HF.out, spanF, HEN.out, if_neg h0]
    subst hr
    go_wp2
    refine bodyPost_ret (v := .tuple #[.agg #[.int .i64 0, .int .i64 0], .int .i64 en]) (results_row_tmp rfl _ _ (w.heap.size + 1) 23 _ (0, 0) _ _ rfl (blk_set (blk_set HD1.out 0 _) 1 _) Try.underlying23 rfl info23s rfl) rfl
      ⟨by rw [HEN.out], below_set (below_set HB1.out (by simp)) (by simp)⟩

set_option maxHeartbeats 1000000 in
theorem Number_calls (D : Dat) (A4 : Option Addr) (c4 : Nat) (A5 : Option Addr) (c5 : Nat) (w : World) (h : Arg w D A4 c4 A5 c5) :
    Calls Try.prog 29 #[.agg #[.string D.nm, .int .i64 D.rad, .int .i64 D.lo, .int .i64 D.hi, .slice A4 D.spots.length c4, .slice A5 D.told.length c5]] w
      fun e w' => e = .returned (.tuple #[.agg #[.int .i64 (spanF D (fun _ g => 10 * manyF g + spotsTo g 7)).1, .int .i64 (spanF D (fun _ g => 10 * manyF g + spotsTo g 7)).2], .int .i64 (enterE D [])]) ∧ Below w.heap.size w w' := by
  have hb3 := below_alloc (below_alloc (Below.refl w.heap.size w) (.cells #[.string D.nm, .int .i64 D.rad, .int .i64 D.lo, .int .i64 D.hi, .slice A4 D.spots.length c4, .slice A5 D.told.length c5] 27)) (.cells #[.int .i64 0, .int .i64 0] 23)
  have HB3 := Aside0.mk hb3
  have HA3 := Aside0.mk (h.below hb3)
  have HD3 : Aside0 (((w.alloc (.cells #[.string D.nm, .int .i64 D.rad, .int .i64 D.lo, .int .i64 D.hi, .slice A4 D.spots.length c4, .slice A5 D.told.length c5] 27)).alloc (.cells #[.int .i64 0, .int .i64 0] 23)).heap[w.heap.size + 1]? = some (.cells #[.int .i64 0, .int .i64 0] 23 (0, 0))) := ⟨new_at (by simp) _⟩
  clear hb3 h
  obtain ⟨r, hr⟩ : ∃ r, spanF D (fun _ g => 10 * manyF g + spotsTo g 7) = r := ⟨_, rfl⟩
  have HF := Aside0.mk hr
  rw [hr]
  clear hr
  go_enter Try.func29, Try.ntmps29
  go_wp2_with fail
  generalize hW : (w.alloc (.cells #[.string D.nm, .int .i64 D.rad, .int .i64 D.lo, .int .i64 D.hi, .slice A4 D.spots.length c4, .slice A5 D.told.length c5] 27)).alloc (.cells #[.int .i64 0, .int .i64 0] 23) = W3 at HB3 HA3 HD3 ⊢
  clear hW
  refine (enter_calls D A4 c4 A5 c5 [] none 0 W3 HA3.out (by exact ⟨rfl, by simp, fun h => absurd h (by simp)⟩)).mono ?_
  rintro e w1 ⟨v, rfl, hb1, hs1⟩
  have HB1 := Aside0.mk (HB3.out.trans (hb1.mono HB3.out.size))
  have HD1 := Aside0.mk (blk_below HD3.out hb1)
  have HS1 := Aside0.mk hs1
  have b0 : w1.cell? ⟨w.heap.size + 1, 0, none⟩ = some (.int .i64 0) := (blk_cell HD1.out 0).trans rfl
  have b1 : w1.cell? ⟨w.heap.size + 1, 1, none⟩ = some (.int .i64 0) := (blk_cell HD1.out 1).trans rfl
  have f0 := blk_frozen HD1.out 0
  have f1 := blk_frozen HD1.out 1
  have lb1 := blk_lt HD1.out
  clear hb1 hs1
  obtain ⟨en, hen⟩ : ∃ en, enterE D [] = en := ⟨_, rfl⟩
  have HEN := Aside0.mk hen
  rw [hen]
  clear hen
  by_cases h0 : en = 0
  · subst h0
    obtain ⟨mp, b, rfl, hsh⟩ := HS1.out HEN.out
    obtain ⟨hV, _, _, hne, _⟩ := enterE_ok HEN.out
    have HV := Aside0.mk hV
    have HN : Aside0 (truthsL D 0 ≠ []) := ⟨by intro e; rw [e] at hne; simp at hne⟩
    have HSH := Aside0.mk hsh
    clear hsh hV hne HS1 b0 b1 f0 f1
    have hmp : w.heap.size + 1 ≠ mp := by have := HSH.out.gm; have := blk_lt HD3.out; omega
    have hr : r = (minL (valsL D (fun _ g => 10 * manyF g + spotsTo g 7) (truthsL D 0)), maxL (valsL D (fun _ g => 10 * manyF g + spotsTo g 7) (truthsL D 0))) := by rw [← HF.out, spanF, if_pos HEN.out]
    subst hr
    go_wp2_with (go_at_call 99; refine (hull_calls W3 w1 D A4 c4 A5 c5 0 mp b 103 (fun _ g => 10 * manyF g + spotsTo g 7) HA3.out HV.out (by decide) HSH.out numberVals HN.out).mono ?_; rintro e w2 ⟨rfl, hc2, hs2⟩; have HC2 := Aside0.mk hc2; have hd2 := hc2.heap HD1.out hmp; have HD2 := Aside0.mk hd2; have b0 : w2.cell? ⟨w.heap.size + 1, 0, none⟩ = some (.int .i64 0) := (blk_cell hd2 0).trans rfl; have b1 : w2.cell? ⟨w.heap.size + 1, 1, none⟩ = some (.int .i64 0) := (blk_cell hd2 1).trans rfl; have f0 := blk_frozen hd2 0; have f1 := blk_frozen hd2 1; have lb2 := blk_lt hd2; clear hc2 hs2 hd2)
    have HB2 := Aside0.mk (HB1.out.trans (HC2.out.below (fun k hk e => by have := HSH.out.gm; have := HB3.out.size; omega) HB1.out.size))
    refine bodyPost_ret (v := .tuple #[.agg #[.int .i64 (minL (valsL D (fun _ g => 10 * manyF g + spotsTo g 7) (truthsL D 0))), .int .i64 (maxL (valsL D (fun _ g => 10 * manyF g + spotsTo g 7) (truthsL D 0)))], .int .i64 0]) (results_row_tmp rfl _ _ (w.heap.size + 1) 23 _ (0, 0) _ _ rfl (blk_set (blk_set HD2.out 0 _) 1 _) Try.underlying23 rfl info23s rfl) rfl
      ⟨by rw [HEN.out], below_set (below_set HB2.out (by simp)) (by simp)⟩
  · have hr : r = (0, 0) := by rw [← HF.out, spanF, HEN.out, if_neg h0]
    subst hr
    go_wp2
    refine bodyPost_ret (v := .tuple #[.agg #[.int .i64 0, .int .i64 0], .int .i64 en]) (results_row_tmp rfl _ _ (w.heap.size + 1) 23 _ (0, 0) _ _ rfl (blk_set (blk_set HD1.out 0 _) 1 _) Try.underlying23 rfl info23s rfl) rfl
      ⟨by rw [HEN.out], below_set (below_set HB1.out (by simp)) (by simp)⟩
end Go.Proofs.Ytemeapfnfegkiaa.D
end
/- Package disk: Counts. -/
section
namespace Go.Proofs.Ytemeapfnfegkiaa.D
open Go Go.RowKit Go.Proofs.YtemeapfnfegkiaaK Go.Proofs.YtemeapfnfegkiaaW.PrintWords Go.Proofs.YtemeapfnfegkiaaW.PrintLast Go.Proofs.YtemeapfnfegkiaaW.PrintMore Go.Proofs.Ytemeapfnfegkiaa.PR
set_option linter.unusedVariables false
set_option linter.unusedSimpArgs false

set_option maxHeartbeats 1000000 in
theorem Counts_calls (D : Dat) (A4 : Option Addr) (c4 : Nat) (A5 : Option Addr) (c5 : Nat) (w : World) (h : Arg w D A4 c4 A5 c5) :
    Calls Try.prog 27 #[.agg #[.string D.nm, .int .i64 D.rad, .int .i64 D.lo, .int .i64 D.hi, .slice A4 D.spots.length c4, .slice A5 D.told.length c5]] w
      fun e w' => e = .returned (.tuple #[.agg #[.int .i64 (spanF D (fun _ g => manyF g)).1, .int .i64 (spanF D (fun _ g => manyF g)).2], .agg #[.int .i64 (spanF D (fun _ g => spotsTo g 7)).1, .int .i64 (spanF D (fun _ g => spotsTo g 7)).2], .int .i64 (enterE D [])]) ∧ Below w.heap.size w w' := by
  have hb3 := below_alloc (below_alloc (below_alloc (Below.refl w.heap.size w) (.cells #[.string D.nm, .int .i64 D.rad, .int .i64 D.lo, .int .i64 D.hi, .slice A4 D.spots.length c4, .slice A5 D.told.length c5] 27)) (.cells #[.int .i64 0, .int .i64 0] 23)) (.cells #[.int .i64 0, .int .i64 0] 23)
  have HB3 := Aside0.mk hb3
  have HA3 := Aside0.mk (h.below hb3)
  have HD3 : Aside0 ((((w.alloc (.cells #[.string D.nm, .int .i64 D.rad, .int .i64 D.lo, .int .i64 D.hi, .slice A4 D.spots.length c4, .slice A5 D.told.length c5] 27)).alloc (.cells #[.int .i64 0, .int .i64 0] 23)).alloc (.cells #[.int .i64 0, .int .i64 0] 23)).heap[w.heap.size + 1]? = some (.cells #[.int .i64 0, .int .i64 0] 23 (0, 0))) := ⟨blk_alloc (new_at (by simp) _) _⟩
  have HE3 : Aside0 ((((w.alloc (.cells #[.string D.nm, .int .i64 D.rad, .int .i64 D.lo, .int .i64 D.hi, .slice A4 D.spots.length c4, .slice A5 D.told.length c5] 27)).alloc (.cells #[.int .i64 0, .int .i64 0] 23)).alloc (.cells #[.int .i64 0, .int .i64 0] 23)).heap[w.heap.size + 1 + 1]? = some (.cells #[.int .i64 0, .int .i64 0] 23 (0, 0))) := ⟨new_at (by simp) _⟩
  clear hb3 h
  obtain ⟨r, hr⟩ : ∃ r, spanF D (fun _ g => manyF g) = r := ⟨_, rfl⟩
  obtain ⟨t, ht⟩ : ∃ t, spanF D (fun _ g => spotsTo g 7) = t := ⟨_, rfl⟩
  have HF := Aside0.mk hr
  have HG := Aside0.mk ht
  rw [hr, ht]
  clear hr ht
  go_enter Try.func27, Try.ntmps27
  go_wp2_with fail
  generalize hW : ((w.alloc (.cells #[.string D.nm, .int .i64 D.rad, .int .i64 D.lo, .int .i64 D.hi, .slice A4 D.spots.length c4, .slice A5 D.told.length c5] 27)).alloc (.cells #[.int .i64 0, .int .i64 0] 23)).alloc (.cells #[.int .i64 0, .int .i64 0] 23) = W3 at HB3 HA3 HD3 HE3 ⊢
  clear hW
  refine (enter_calls D A4 c4 A5 c5 [] none 0 W3 HA3.out (by exact ⟨rfl, by simp, fun h => absurd h (by simp)⟩)).mono ?_
  rintro e w1 ⟨v, rfl, hb1, hs1⟩
  have HB1 := Aside0.mk (HB3.out.trans (hb1.mono HB3.out.size))
  have HD1 := Aside0.mk (blk_below HD3.out hb1)
  have HE1 := Aside0.mk (blk_below HE3.out hb1)
  have HS1 := Aside0.mk hs1
  have b0 : w1.cell? ⟨w.heap.size + 1, 0, none⟩ = some (.int .i64 0) := (blk_cell HD1.out 0).trans rfl
  have b1 : w1.cell? ⟨w.heap.size + 1, 1, none⟩ = some (.int .i64 0) := (blk_cell HD1.out 1).trans rfl
  have f0 := blk_frozen HD1.out 0
  have f1 := blk_frozen HD1.out 1
  have lb1 := blk_lt HD1.out
  have d0 : w1.cell? ⟨w.heap.size + 1 + 1, 0, none⟩ = some (.int .i64 0) := (blk_cell HE1.out 0).trans rfl
  have d1 : w1.cell? ⟨w.heap.size + 1 + 1, 1, none⟩ = some (.int .i64 0) := (blk_cell HE1.out 1).trans rfl
  have g0 := blk_frozen HE1.out 0
  have g1 := blk_frozen HE1.out 1
  have ld1 := blk_lt HE1.out
  clear hb1 hs1
  obtain ⟨en, hen⟩ : ∃ en, enterE D [] = en := ⟨_, rfl⟩
  have HEN := Aside0.mk hen
  rw [hen]
  clear hen
  by_cases h0 : en = 0
  · subst h0
    obtain ⟨mp, b, rfl, hsh⟩ := HS1.out HEN.out
    obtain ⟨hV, _, _, hne, _⟩ := enterE_ok HEN.out
    have HV := Aside0.mk hV
    have HN : Aside0 (truthsL D 0 ≠ []) := ⟨by intro e; rw [e] at hne; simp at hne⟩
    have HSH := Aside0.mk hsh
    clear hsh hV hne HS1 b0 b1 f0 f1 d0 d1 g0 g1
    have hmp : w.heap.size + 1 ≠ mp := by have := HSH.out.gm; have := blk_lt HD3.out; omega
    have hmp' : w.heap.size + 1 + 1 ≠ mp := by have := HSH.out.gm; have := blk_lt HE3.out; omega
    have hr : r = (minL (valsL D (fun _ g => manyF g) (truthsL D 0)), maxL (valsL D (fun _ g => manyF g) (truthsL D 0))) := by rw [← HF.out, spanF, if_pos HEN.out]
    have ht : t = (minL (valsL D (fun _ g => spotsTo g 7) (truthsL D 0)), maxL (valsL D (fun _ g => spotsTo g 7) (truthsL D 0))) := by rw [← HG.out, spanF, if_pos HEN.out]
    subst hr ht
    go_wp2_with fail
    refine (hull_calls W3 w1 D A4 c4 A5 c5 0 mp b 100 (fun _ g => manyF g) HA3.out HV.out (by decide) HSH.out manyVals HN.out).mono ?_
    rintro e w2 ⟨rfl, hc2, hs2⟩
    have HC2 := Aside0.mk hc2
    have HS2 := Aside0.mk hs2
    have HD2 := Aside0.mk (hc2.heap HD1.out hmp)
    have HE2 := Aside0.mk (hc2.heap HE1.out hmp')
    clear hc2 hs2
    go_wp2_with fail
    refine (hull_calls W3 w2 D A4 c4 A5 c5 0 mp b 101 (fun _ g => spotsTo g 7) HA3.out HV.out (by decide) HS2.out spotsVals HN.out).mono ?_
    rintro e w3 ⟨rfl, hc3, hs3⟩
    have HC3 := Aside0.mk (HC2.out.trans hc3)
    have HDE := Aside0.mk (hc3.heap HD2.out hmp)
    have HEE := Aside0.mk (hc3.heap HE2.out hmp')
    have b0 : w3.cell? ⟨w.heap.size + 1, 0, none⟩ = some (.int .i64 0) := (blk_cell HDE.out 0).trans rfl
    have b1 : w3.cell? ⟨w.heap.size + 1, 1, none⟩ = some (.int .i64 0) := (blk_cell HDE.out 1).trans rfl
    have f0 := blk_frozen HDE.out 0
    have f1 := blk_frozen HDE.out 1
    have lb3 := blk_lt HDE.out
    have d0 : w3.cell? ⟨w.heap.size + 1 + 1, 0, none⟩ = some (.int .i64 0) := (blk_cell HEE.out 0).trans rfl
    have d1 : w3.cell? ⟨w.heap.size + 1 + 1, 1, none⟩ = some (.int .i64 0) := (blk_cell HEE.out 1).trans rfl
    have g0 := blk_frozen HEE.out 0
    have g1 := blk_frozen HEE.out 1
    have ld3 := blk_lt HEE.out
    clear hc3 hs3
    go_wp2
    have HB2 := Aside0.mk (HB1.out.trans (HC3.out.below (fun k hk e => by have := HSH.out.gm; have := HB3.out.size; omega) HB1.out.size))
    refine bodyPost_ret (v := .tuple #[.agg #[.int .i64 (minL (valsL D (fun _ g => manyF g) (truthsL D 0))), .int .i64 (maxL (valsL D (fun _ g => manyF g) (truthsL D 0)))], .agg #[.int .i64 (minL (valsL D (fun _ g => spotsTo g 7) (truthsL D 0))), .int .i64 (maxL (valsL D (fun _ g => spotsTo g 7) (truthsL D 0)))], .int .i64 0])
      (results_row2_tmp rfl _ _ (w.heap.size + 1) (w.heap.size + 1 + 1) 23 _ _ (0, 0) (0, 0) _ _ rfl rfl (blk_far (blk_far (blk_set (blk_set HDE.out 0 _) 1 _) (by simp) _) (by simp) _) (blk_set (blk_set (blk_far (blk_far HEE.out (by simp) _) (by simp) _) 0 _) 1 _) Try.underlying23 rfl info23s info23s rfl) rfl
      ⟨by rw [HEN.out], below_set (below_set (below_set (below_set HB2.out (by simp)) (by simp)) (Nat.le_trans (Nat.le_succ _) (Nat.le_succ _))) (Nat.le_trans (Nat.le_succ _) (Nat.le_succ _))⟩
  · have hr : r = (0, 0) := by rw [← HF.out, spanF, HEN.out, if_neg h0]
    have ht : t = (0, 0) := by rw [← HG.out, spanF, HEN.out, if_neg h0]
    subst hr ht
    go_wp2
    go_region
    go_wp2
    refine bodyPost_ret (v := .tuple #[.agg #[.int .i64 0, .int .i64 0], .agg #[.int .i64 0, .int .i64 0], .int .i64 en])
      (results_row2_tmp rfl _ _ (w.heap.size + 1) (w.heap.size + 1 + 1) 23 _ _ (0, 0) (0, 0) _ _ rfl rfl (blk_drew (blk_far (blk_far (blk_set (blk_set HD1.out 0 _) 1 _) (by simp) _) (by simp) _)) (blk_drew (blk_set (blk_set (blk_far (blk_far HE1.out (by simp) _) (by simp) _) 0 _) 1 _)) Try.underlying23 rfl info23s info23s rfl) rfl
      ⟨by rw [HEN.out], below_drew1 (below_set (below_set (below_set (below_set HB1.out (by simp)) (by simp)) (Nat.le_trans (Nat.le_succ _) (Nat.le_succ _))) (Nat.le_trans (Nat.le_succ _) (Nat.le_succ _)))⟩
end Go.Proofs.Ytemeapfnfegkiaa.D
end
/- Package disk: Ask. -/
section
namespace Go.Proofs.Ytemeapfnfegkiaa.D
open Go Go.RowKit Go.Proofs.YtemeapfnfegkiaaK Go.Proofs.YtemeapfnfegkiaaW.PrintWords Go.Proofs.YtemeapfnfegkiaaW.PrintLast Go.Proofs.YtemeapfnfegkiaaW.PrintMore Go.Proofs.Ytemeapfnfegkiaa.PR
set_option linter.unusedVariables false
set_option linter.unusedSimpArgs false

/-- one pair of dots is looked at -/
def askStep (D : Dat) (i k : Nat) (s : Int × Int × Int) : Int × Int × Int :=
  let y : Int := cnt D (oneQ i k) (truthsL D 0)
  let n : Int := max y ((truthsL D 0).length - y)
  if n < (truthsL D 0).length ∧ (s.2.2 = 0 ∨ n < s.2.2) then (i, k, n) else s
def askRow (D : Dat) (i : Nat) (s : Int × Int × Int) (m : Nat) : Int × Int × Int := (List.range m).foldl (fun s j => askStep D i (i + 1 + j) s) s
def askTo (D : Dat) (i : Nat) : Int × Int × Int := (List.range i).foldl (fun s i => askRow D i s (D.spots.length - (i + 1))) (0, 0, 0)
theorem askRow_succ (D : Dat) (i : Nat) (s : Int × Int × Int) (m : Nat) : askRow D i s (m + 1) = askStep D i (i + 1 + m) (askRow D i s m) := by simp [askRow, List.range_succ]
theorem askTo_succ (D : Dat) (i : Nat) : askTo D (i + 1) = askRow D i (askTo D i) (D.spots.length - (i + 1)) := by simp [askTo, List.range_succ]
def askF (D : Dat) : Int × Int × Int × Int :=
  if enterE D [] = 0 then (if (askTo D D.spots.length).2.2 = 0 then (0, 0, 0, 9) else ((askTo D D.spots.length).1, (askTo D D.spots.length).2.1, (askTo D D.spots.length).2.2, 0)) else (0, 0, 0, enterE D [])

theorem results_tmp4 {P : Program} {fn : Func} {p q r t : Tmp} (h : fn.results = #[.tmp p, .tmp q, .tmp r, .tmp t]) (tmps : Array Value) (w : World) (a b c d : Value) (ha : tmps.getD p undef = a) (hb : tmps.getD q undef = b) (hc : tmps.getD r undef = c) (hd : tmps.getD t undef = d) :
    (results fn tmps).run P w = .ok (.tuple #[a, b, c, d]) w := by
  have ha' : tmps[p]?.getD undef = a := by simpa using ha
  have hb' : tmps[q]?.getD undef = b := by simpa using hb
  have hc' : tmps[r]?.getD undef = c := by simpa using hc
  have hd' : tmps[t]?.getD undef = d := by simpa using hd
  simp [results, h, ha', hb', hc', hd']
set_option maxHeartbeats 2000000 in
theorem Ask_calls (D : Dat) (A4 : Option Addr) (c4 : Nat) (A5 : Option Addr) (c5 : Nat) (w : World) (h : Arg w D A4 c4 A5 c5) :
    Calls Try.prog 33 #[.agg #[.string D.nm, .int .i64 D.rad, .int .i64 D.lo, .int .i64 D.hi, .slice A4 D.spots.length c4, .slice A5 D.told.length c5]] w
      fun e w' => e = .returned (.tuple #[.int .i64 (askF D).1, .int .i64 (askF D).2.1, .int .i64 (askF D).2.2.1, .int .i64 (askF D).2.2.2]) ∧ Below w.heap.size w w' := by
  have hb3 := below_alloc (Below.refl w.heap.size w) (.cells #[.string D.nm, .int .i64 D.rad, .int .i64 D.lo, .int .i64 D.hi, .slice A4 D.spots.length c4, .slice A5 D.told.length c5] 27)
  have HB3 := Aside0.mk hb3
  have HA3 := Aside0.mk (h.below hb3)
  have HD3 : Aside0 ((w.alloc (.cells #[.string D.nm, .int .i64 D.rad, .int .i64 D.lo, .int .i64 D.hi, .slice A4 D.spots.length c4, .slice A5 D.told.length c5] 27)).heap[w.heap.size]? = some (.cells #[.string D.nm, .int .i64 D.rad, .int .i64 D.lo, .int .i64 D.hi, .slice A4 D.spots.length c4, .slice A5 D.told.length c5] 27 (0, 0))) := ⟨blk_new _ _⟩
  clear hb3 h
  obtain ⟨r, hr⟩ : ∃ r, askF D = r := ⟨_, rfl⟩
  have HF := Aside0.mk hr
  rw [hr]
  clear hr
  go_enter Try.func33, Try.ntmps33
  go_wp2_with fail
  generalize hW : w.alloc (.cells #[.string D.nm, .int .i64 D.rad, .int .i64 D.lo, .int .i64 D.hi, .slice A4 D.spots.length c4, .slice A5 D.told.length c5] 27) = W3 at HB3 HA3 HD3 ⊢
  clear hW
  refine (enter_calls D A4 c4 A5 c5 [] none 0 W3 HA3.out (by exact ⟨rfl, by simp, fun h => absurd h (by simp)⟩)).mono ?_
  rintro e w1 ⟨v, rfl, hb1, hs1⟩
  have HB1 := Aside0.mk (HB3.out.trans (hb1.mono HB3.out.size))
  have HD1 := Aside0.mk (blk_below HD3.out hb1)
  have HS1 := Aside0.mk hs1
  have b4 : w1.cell? ⟨w.heap.size, 4, none⟩ = some (.slice A4 D.spots.length c4) := (blk_cell HD1.out 4).trans rfl
  have lb1 := blk_lt HD1.out
  clear hb1 hs1
  obtain ⟨en, hen⟩ : ∃ en, enterE D [] = en := ⟨_, rfl⟩
  have HEN := Aside0.mk hen
  rw [hen]
  clear hen
  by_cases h0 : en = 0
  · subst h0
    obtain ⟨mp, b, rfl, hsh⟩ := HS1.out HEN.out
    obtain ⟨hV, _, _, hne, _⟩ := enterE_ok HEN.out
    have HV := Aside0.mk hV
    have hn7 := hV.n7
    have HSH := Aside0.mk hsh
    clear hsh hV hne HS1
    have hmp : w.heap.size ≠ mp := by have := HSH.out.gm; have := blk_lt HD3.out; omega
    have hr : r = (if (askTo D D.spots.length).2.2 = 0 then (0, 0, 0, 9) else ((askTo D D.spots.length).1, (askTo D D.spots.length).2.1, (askTo D D.spots.length).2.2, 0)) := by rw [← HF.out, askF, if_pos HEN.out]
    have HR := Aside0.mk hr
    clear hr
    go_wp2
    clear b4
    go_loopw [2, 3, 4, 23] (fun a c l j wr => ∃ i : Nat, i ≤ D.spots.length ∧ j = .int .i64 i ∧ ∃ x y z, a = .int .i64 x ∧ c = .int .i64 y ∧ l = .int .i64 z ∧ Aside0 (askTo D i = (x, y, z)) ∧ Aside0 (Chg (fun k => k = mp) w1 wr) ∧ Aside0 (Sh W3 wr D A4 c4 A5 c5 0 mp b)) (fun a c l j _ => D.spots.length - (intOf j).toNat)
    case atStart => exact ⟨0, Nat.zero_le _, rfl, 0, 0, 0, rfl, rfl, rfl, ⟨rfl⟩, ⟨Chg.refl _ _⟩, HSH⟩
    case round =>
      obtain ⟨i, hi, rfl, x, y, z, rfl, rfl, rfl, HT, HC, HS⟩ := hrel
      by_cases hlt : i < D.spots.length
      · go_wp2
        go_loopw [2, 3, 4, 8] (fun a c l j wr => ∃ k : Nat, i + 1 ≤ k ∧ k ≤ D.spots.length ∧ j = .int .i64 k ∧ ∃ x' y' z', a = .int .i64 x' ∧ c = .int .i64 y' ∧ l = .int .i64 z' ∧ Aside0 (askRow D i (x, y, z) (k - (i + 1)) = (x', y', z')) ∧ Aside0 (Chg (fun k => k = mp) w1 wr) ∧ Aside0 (Sh W3 wr D A4 c4 A5 c5 0 mp b)) (fun a c l j _ => D.spots.length - (intOf j).toNat)
        case atStart => exact ⟨i + 1, Nat.le_refl _, by omega, by go_num, x, y, z, rfl, rfl, rfl, ⟨by rw [Nat.sub_self]; rfl⟩, HC, HS⟩
        case round =>
          clear HC HS
          obtain ⟨k, hk0, hk, rfl, x', y', z', rfl, rfl, rfl, HQ, HC, HS⟩ := hrel
          have HD2 := Aside0.mk (HC.out.heap HD1.out hmp)
          have b4 := (blk_cell HD2.out 4).trans (show _ = some (.slice A4 D.spots.length c4) from rfl)
          have lb4 := blk_lt HD2.out
          by_cases hlm : k < D.spots.length
          · go_wp2_with fail
            refine (one_calls _ _ wr).mono ?_
            rintro e w2 ⟨rfl, hx, hy, hc⟩
            have hlx := blk_lt hx
            have hly := blk_lt hy
            have hmp0 := HS.out.mp_lt
            have HS2 := Aside0.mk (HS.out.chg hc (fun _ x => x.elim))
            have HC2 := Aside0.mk (HC.out.trans (hc.mono (fun _ _ x => x.elim)))
            have HX := Aside0.mk (And.intro hx hy)
            clear hc hx hy b4 lb4
            go_wp2_with fail
            refine (count_calls W3 w2 D A4 c4 A5 c5 0 mp b 119 _ _ (oneQ i k) HA3.out HV.out (by decide) HS2.out (oneAsks _ mp wr.heap.size (wr.heap.size + 1) i k (by omega) (by omega) hlx (by omega) hly (by omega)) HX.out).mono ?_
            rintro e w3 ⟨rfl, hc2, hs2, _⟩
            have HC3 := Aside0.mk (HC2.out.trans hc2)
            have HS3 := Aside0.mk hs2
            clear hc2 hs2 hlx hly hmp0
            have hN := truthsL_len HV.out 0
            have hyN : cnt D (oneQ i k) (truthsL D 0) ≤ (truthsL D 0).length := List.countP_le_length
            have HSTEP : Aside0 (askRow D i (x, y, z) (k + 1 - (i + 1)) = if max (cnt D (oneQ i k) (truthsL D 0) : Int) ((truthsL D 0).length - cnt D (oneQ i k) (truthsL D 0)) < (truthsL D 0).length ∧ (z' = 0 ∨ max (cnt D (oneQ i k) (truthsL D 0) : Int) ((truthsL D 0).length - cnt D (oneQ i k) (truthsL D 0)) < z') then ((i : Int), (k : Int), max (cnt D (oneQ i k) (truthsL D 0) : Int) ((truthsL D 0).length - cnt D (oneQ i k) (truthsL D 0))) else (x', y', z')) := ⟨by
              rw [show k + 1 - (i + 1) = (k - (i + 1)) + 1 by omega, askRow_succ, HQ.out, show i + 1 + (k - (i + 1)) = k by omega]; rfl⟩
            generalize cnt D (oneQ i k) (truthsL D 0) = Y at hyN HSTEP ⊢
            generalize (truthsL D 0).length = N at hN hyN HSTEP ⊢
            by_cases hle : (N : Int) - Y ≤ Y
            · by_cases c1 : (Y : Int) < (N : Int)
              · by_cases c2 : z' = 0
                · subst c2
                  go_wp2
                  all_goals try (exfalso; omega)
                  all_goals
                    go_roundw
                    case rel => exact ⟨k + 1, by omega, by omega, by go_num, _, _, _, rfl, rfl, rfl, ⟨by rw [HSTEP.out, show max (Y : Int) (N - Y) = (Y : Int) by omega, if_pos ⟨by omega, .inl (by simp)⟩]⟩, HC3, HS3⟩
                    case measure => simp [intOf]; omega
                · have c2' : (z' == 0) = false := beq_eq_false_iff_ne.2 c2
                  by_cases c3 : (Y : Int) < z'
                  · go_wp2
                    all_goals try (exfalso; omega)
                    all_goals
                      go_roundw
                      case rel => exact ⟨k + 1, by omega, by omega, by go_num, _, _, _, rfl, rfl, rfl, ⟨by rw [HSTEP.out, show max (Y : Int) (N - Y) = (Y : Int) by omega, if_pos ⟨by omega, .inr (by omega)⟩]⟩, HC3, HS3⟩
                      case measure => simp [intOf]; omega
                  · go_wp2
                    all_goals try (exfalso; omega)
                    all_goals
                      go_roundw
                      case rel => exact ⟨k + 1, by omega, by omega, by go_num, _, _, _, rfl, rfl, rfl, ⟨by rw [HSTEP.out, show max (Y : Int) (N - Y) = (Y : Int) by omega, if_neg (fun h => h.2.elim c2 (fun h => by omega))]⟩, HC3, HS3⟩
                      case measure => simp [intOf]; omega
              · go_wp2
                all_goals try (exfalso; omega)
                all_goals
                  go_roundw
                  case rel => exact ⟨k + 1, by omega, by omega, by go_num, _, _, _, rfl, rfl, rfl, ⟨by rw [HSTEP.out, show max (Y : Int) (N - Y) = (Y : Int) by omega, if_neg (fun h => by have := h.1; omega)]⟩, HC3, HS3⟩
                  case measure => simp [intOf]; omega
            · by_cases c1 : ((N : Int) - Y) < (N : Int)
              · by_cases c2 : z' = 0
                · subst c2
                  go_wp2
                  all_goals try (exfalso; omega)
                  all_goals
                    go_roundw
                    case rel => exact ⟨k + 1, by omega, by omega, by go_num, _, _, _, rfl, rfl, rfl, ⟨by rw [HSTEP.out, show max (Y : Int) (N - Y) = ((N : Int) - Y) by omega, if_pos ⟨by omega, .inl (by simp)⟩]⟩, HC3, HS3⟩
                    case measure => simp [intOf]; omega
                · have c2' : (z' == 0) = false := beq_eq_false_iff_ne.2 c2
                  by_cases c3 : ((N : Int) - Y) < z'
                  · go_wp2
                    all_goals try (exfalso; omega)
                    all_goals
                      go_roundw
                      case rel => exact ⟨k + 1, by omega, by omega, by go_num, _, _, _, rfl, rfl, rfl, ⟨by rw [HSTEP.out, show max (Y : Int) (N - Y) = ((N : Int) - Y) by omega, if_pos ⟨by omega, .inr (by omega)⟩]⟩, HC3, HS3⟩
                      case measure => simp [intOf]; omega
                  · go_wp2
                    all_goals try (exfalso; omega)
                    all_goals
                      go_roundw
                      case rel => exact ⟨k + 1, by omega, by omega, by go_num, _, _, _, rfl, rfl, rfl, ⟨by rw [HSTEP.out, show max (Y : Int) (N - Y) = ((N : Int) - Y) by omega, if_neg (fun h => h.2.elim c2 (fun h => by omega))]⟩, HC3, HS3⟩
                      case measure => simp [intOf]; omega
              · go_wp2
                all_goals try (exfalso; omega)
                all_goals
                  go_roundw
                  case rel => exact ⟨k + 1, by omega, by omega, by go_num, _, _, _, rfl, rfl, rfl, ⟨by rw [HSTEP.out, show max (Y : Int) (N - Y) = ((N : Int) - Y) by omega, if_neg (fun h => by have := h.1; omega)]⟩, HC3, HS3⟩
                  case measure => simp [intOf]; omega
          · obtain rfl : k = D.spots.length := by omega
            go_wp2
            go_roundw
            case rel => exact ⟨i + 1, by omega, by go_num, x', y', z', rfl, rfl, rfl, ⟨by rw [askTo_succ, HT.out, HQ.out]⟩, HC, HS⟩
            case measure => simp [intOf]; omega
      · obtain rfl : i = D.spots.length := by omega
        rw [HT.out] at HR
        have HR' := Aside0.mk HR.out
        simp only at HR'
        by_cases hz : z = 0
        · subst hz
          go_wp2
          exact bodyPost_ret (results_tmp4 rfl _ _ _ _ _ _ rfl rfl rfl rfl) rfl ⟨by rw [HR'.out]; rfl, HB1.out.trans (HC.out.below (fun k hk e => by have := HSH.out.gm; have := HB3.out.size; omega) HB1.out.size)⟩
        · go_wp2
          exact bodyPost_ret (results_tmp4 rfl _ _ _ _ _ _ rfl rfl rfl rfl) rfl ⟨by rw [HR'.out, if_neg hz]; rfl, HB1.out.trans (HC.out.below (fun k hk e => by have := HSH.out.gm; have := HB3.out.size; omega) HB1.out.size)⟩
  · have hr : r = (0, 0, 0, en) := by rw [← HF.out, askF, HEN.out, if_neg h0]
    subst hr
    go_wp2
    exact bodyPost_ret (results_tmp4 rfl _ _ _ _ _ _ rfl rfl rfl rfl) rfl ⟨rfl, HB1.out⟩
end Go.Proofs.Ytemeapfnfegkiaa.D
end
