/- Contracts of the functions that this claim reaches, with the words for them: pruned and packed by wip/tools/prune.py. -/
import Derived.Test.YtgoidclnccjdeaaTf
import Derived.Deep.Slices
import Derived.Deep.Fields
import Derived.ChangeSame
import Derived.ProofKit
import Derived.SizedLaws
import Derived.KernelRfl
section
/- The reference's Truths (by hand). -/
namespace Go.Proofs.Ytgoidclnccjdeaa.PR
open Go Go.RowKit Go.Proofs.YtgoidclnccjdeaaK Go.Proofs.Ytgoidclnccjdeaa.D Go.Proofs.YtgoidclnccjdeaaW.PrintWords Go.Proofs.YtgoidclnccjdeaaW.PrintLast Go.Proofs.YtgoidclnccjdeaaW.PrintMore
set_option linter.unusedVariables false
set_option linter.unusedSimpArgs false

def r7_Truths.one (k : Nat) (l0_0 : List (S95)) (a0_1 : Int) (a0_2 : Int) (l0_3 : List (S24)) (l0_4 : List (S72)) (but : List Int) (t : S56) (acc : List (List Int)) (i : Nat) : Option (List Int × Bool) :=
 (r1_Has.f k but (i : Int)).bind fun h => if h = true then some ([], true) else
  (r7_used.f k l0_0 a0_1 a0_2 l0_3 l0_4 t.f0 t.f1 t.f2 acc (rd_T72 l0_4 (i : Int)).f0 (rd_T72 l0_4 (i : Int)).f1 (rd_T72 l0_4 (i : Int)).f2).bind fun o => some (o, decide (0 < o.length))
def r7_Truths.row (k : Nat) (l0_0 : List (S95)) (a0_1 : Int) (a0_2 : Int) (l0_3 : List (S24)) (l0_4 : List (S72)) (but : List Int) (t : S56) : Nat → Nat → List (List Int) → Option (Bool × List (List Int))
 | 0, _, acc => some (true, acc)
 | n + 1, i, acc => if acc.length < 1000000 then (r7_Truths.one k l0_0 a0_1 a0_2 l0_3 l0_4 but t acc i).bind fun p => if p.2 = true then r7_Truths.row k l0_0 a0_1 a0_2 l0_3 l0_4 but t n (i + 1) (acc ++ [p.1]) else some (false, acc ++ [p.1]) else none
def r7_Truths.go (k : Nat) (l0_0 : List (S95)) (a0_1 : Int) (a0_2 : Int) (l0_3 : List (S24)) (l0_4 : List (S72)) (but : List Int) : List S56 → List S56 → Option (List S56)
 | [], out => some out
 | t :: l, out => if out.length < 1000000 then (r7_Truths.row k l0_0 a0_1 a0_2 l0_3 l0_4 but t l0_4.length 0 t.f3).bind fun p => if p.1 = true then r7_Truths.go k l0_0 a0_1 a0_2 l0_3 l0_4 but l (out ++ [⟨t.f0, t.f1, t.f2, p.2⟩]) else r7_Truths.go k l0_0 a0_1 a0_2 l0_3 l0_4 but l out else none
def r7_Truths.f (k : Nat) (l0_0 : List (S95)) (a0_1 : Int) (a0_2 : Int) (l0_3 : List (S24)) (l0_4 : List (S72)) (l1 : List Int) : Option (List S56) := (r7_All.f k l0_0 a0_1 a0_2 l0_3 l0_4).bind fun l => r7_Truths.go k l0_0 a0_1 a0_2 l0_3 l0_4 l1 l []
abbrev bxS (A0 : Option Addr) (n0 c0 : Nat) (a1 a2 : Int) (A3 : Option Addr) (n3 c3 : Nat) (A4 : Option Addr) (n4 c4 : Nat) : Array Value := #[.slice A0 n0 c0, .int .i64 a1, .int .i64 a2, .slice A3 n3 c3, .slice A4 n4 c4]
theorem cell_below {w w' : World} {a : Addr} {v : Value} (h : w.cell? a = some v) (hb : Below w.heap.size w w') : w'.cell? a = some v := (Chg.of_below hb).cell h (fun hx => Nat.lt_irrefl _ (Nat.lt_of_lt_of_le (World.block_lt_of_cell? _ _ h) hx))
theorem FK_slice {W : World} {ok : Nat → Prop} {A : Option Addr} {c : Nat} {o : List Int} (hl : o.length ≤ c) (h : Kd.F (Kd.int .i64) W ok A o.length o) : Kd.FK (Kd.slice 3 (Kd.int .i64)) W ok o [.slice A o.length c] := fun W' hW => ⟨A, c, rfl, hl, h W' hW⟩

set_option maxRecDepth 100000 in
set_option maxHeartbeats 8000000 in
theorem r7_Truths.calls (k : Nat) (A0_0 : Option Addr) (c0_0 : Nat) (l0_0 : List (S95)) (a0_1 : Int) (a0_2 : Int) (A0_3 : Option Addr) (c0_3 : Nat) (l0_3 : List (S24)) (A0_4 : Option Addr) (c0_4 : Nat) (l0_4 : List (S72)) (A1 : Option Addr) (c1 : Nat) (l1 : List Int) (r : List (S56)) (w : World)
  (hr0_0 : Kd.C k95 w A0_0 l0_0.length l0_0) (hc0_0 : l0_0.length ≤ c0_0) (hr0_3 : Kd.C k24 w A0_3 l0_3.length l0_3) (hc0_3 : l0_3.length ≤ c0_3) (hr0_4 : Kd.C k72 w A0_4 l0_4.length l0_4) (hc0_4 : l0_4.length ≤ c0_4) (hr1 : Kd.C (Kd.int .i64) w A1 l1.length l1) (hc1 : l1.length ≤ c1) (h : r7_Truths.f k l0_0 a0_1 a0_2 l0_3 l0_4 l1 = some r) :
  Calls Try.prog 49 #[.agg #[.slice A0_0 l0_0.length c0_0, .int .i64 a0_1, .int .i64 a0_2, .slice A0_3 l0_3.length c0_3, .slice A0_4 l0_4.length c0_4], .slice A1 l1.length c1] w fun e w' => ∃ v0_ : Value, e = .returned (v0_) ∧ Kd.N k56 56 w' w.heap.size (fun k_ => (w.heap.size ≤ k_)) v0_ r ∧ Below w.heap.size w w' := by
 have HR0 := Aside0.mk hr0_0
 have HR3 := Aside0.mk hr0_3
 have HR4 := Aside0.mk hr0_4
 have HR1 := Aside0.mk hr1
 have hmax := hr0_4.2.1
 have HCS := Aside0.mk (And.intro hc0_0 (And.intro hc0_3 (And.intro hc0_4 hc1)))
 clear hr0_0 hr0_3 hr0_4 hr1 hc0_0 hc0_3 hc0_4 hc1
 obtain ⟨L, hL, hgo⟩ := Option.bind_eq_some_iff.1 h
 have HAL := Aside0.mk hL
 have HGO := Aside0.mk hgo
 clear h hL hgo
 have HB1 : Aside0 (Below w.heap.size w (w.alloc (.cells (bxS A0_0 l0_0.length c0_0 a0_1 a0_2 A0_3 l0_3.length c0_3 A0_4 l0_4.length c0_4) 28))) := ⟨below_alloc (Below.refl _ _) _⟩
 have HX1 : Aside0 ((w.alloc (.cells (bxS A0_0 l0_0.length c0_0 a0_1 a0_2 A0_3 l0_3.length c0_3 A0_4 l0_4.length c0_4) 28)).heap[w.heap.size]? = some (.cells (bxS A0_0 l0_0.length c0_0 a0_1 a0_2 A0_3 l0_3.length c0_3 A0_4 l0_4.length c0_4) 28 (0, 0))) := ⟨blk_new _ _⟩
 go_enter Try.func49, Try.ntmps49
 go_upto_region 1 with (fail)
 generalize w.alloc (.cells (bxS A0_0 l0_0.length c0_0 a0_1 a0_2 A0_3 l0_3.length c0_3 A0_4 l0_4.length c0_4) 28) = w1 at HB1 HX1 ⊢
 obtain ⟨q, hq⟩ : ∃ q, w.heap.size = q := ⟨_, rfl⟩
 rw [hq] at HX1 ⊢
 have k0 := (blk_cell HX1.out 0).trans rfl
 have k1 := (blk_cell HX1.out 1).trans rfl
 have k2 := (blk_cell HX1.out 2).trans rfl
 have k3 := (blk_cell HX1.out 3).trans rfl
 have k4 := (blk_cell HX1.out 4).trans rfl
 have kl := blk_lt HX1.out
 go_wp2_with fail
 refine (r7_All.calls k A0_0 c0_0 l0_0 a0_1 a0_2 A0_3 c0_3 l0_3 A0_4 c0_4 l0_4 L w1 (Kd.C_below HR0.out HB1.out) HCS.out.1 (Kd.C_below HR3.out HB1.out) HCS.out.2.1 (Kd.C_below HR4.out HB1.out) HCS.out.2.2.1 HAL.out).mono ?_
 rintro e wl ⟨vl, rfl, hN, hb⟩
 have HBl := Aside0.mk (HB1.out.trans (hb.mono HB1.out.size))
 have HXl := Aside0.mk (blk_below HX1.out hb)
 have hN2 := Kd.N_mono (Kd.N_lower hN HB1.out.size) (ok' := fun k_ => w.heap.size ≤ k_) (fun k_ hk => Nat.le_trans HB1.out.size hk)
 clear k0 k1 k2 k3 k4 kl
 obtain ⟨Al, cl, rfl, hll, hlr⟩ := Kd.N_reads hN2
 have hlm := hlr.2.1
 have HFl := Aside0.mk (Kd.F_bound (Kd.N_F hN2))
 clear hN hN2 hb hlr HB1 HX1
 obtain ⟨n1, hn1⟩ : ∃ n1, wl.heap.size = n1 := ⟨_, rfl⟩
 have HN1 := Aside0.mk hn1
 rw [hn1] at HFl
 go_wp2
 go_loopw [6, 7] (fun vo ji wr => ∃ (i : Nat) (out : List S56) (vout : Value), i ≤ L.length ∧ ji = .int .i64 i ∧ vout = vo ∧ Aside0 (r7_Truths.go k l0_0 a0_1 a0_2 l0_3 l0_4 l1 (L.drop i) out = some r) ∧ Aside0 (Kd.N k56 56 wr n1 (fun k_ => w.heap.size ≤ k_) vout out) ∧ Aside0 (Below n1 wl wr)) (fun _ ji _ => L.length - (intOf ji).toNat)
 case atStart => exact ⟨0, [], _, Nat.zero_le _, rfl, rfl, ⟨by simpa using HGO.out⟩, ⟨Kd.N_nil _ _ _ _ _⟩, ⟨Below.refl _ _⟩⟩
 case round =>
  obtain ⟨i, out, vout, hi, rfl, rfl, HG, HO, HB⟩ := hrel
  rename World => wo
  by_cases hlt : i < L.length
  ·
   have HFr := Aside0.mk (Kd.F_step (W1 := wo) HFl.out (fun k_ hk _ => HB.out.block k_ hk.2))
   obtain ⟨ad, cs, e, hcl, hFK, hcc, hin⟩ := Kd.F_get HFr.out z56 (i : Int) (by omega) (by omega)
   subst e
   obtain ⟨t, ht⟩ : ∃ t, L.getD (i : Int).toNat z56 = t := ⟨_, rfl⟩
   rw [ht] at hFK
   have hdr : L.drop i = t :: L.drop (i + 1) := by
    rw [List.drop_eq_getElem_cons hlt]
    congr 1
    rw [← ht]
    simp [hlt]
   have hG := HG.out
   rw [hdr] at hG
   simp only [r7_Truths.go] at hG
   have hol : out.length < 1000000 := by
    by_cases ho : out.length < 1000000
    ·
     exact ho
    ·
     rw [if_neg ho] at hG; cases hG
   rw [if_pos hol] at hG
   obtain ⟨p, hrow, hG2⟩ := Option.bind_eq_some_iff.1 hG
   have HRW := Aside0.mk hrow
   have HG2 := Aside0.mk hG2
   clear ht hdr hG hrow hG2 hin
   obtain ⟨B0, d0, B2, d2, B3, d3, rfl, g0, F0, g2, F2, g3, F3⟩ := k56_openF hFK
   have hc0 := hcc 0 _ rfl
   have hc1 := hcc 1 _ rfl
   have hc2 := hcc 2 _ rfl
   have hc3 := hcc 3 _ rfl
   simp only [Int.toNat_natCast, show (k56).sz = 4 from rfl, Nat.add_zero] at hc0 hc1 hc2 hc3
   rw [add_field _ _ 1 (by omega)] at hc1
   rw [add_field _ _ 2 (by omega)] at hc2
   rw [add_field _ _ 3 (by omega)] at hc3
   have HF0 := Aside0.mk F0
   have HF2 := Aside0.mk F2
   have HF3 := Aside0.mk F3
   clear hcc hFK F0 F2 F3 hcl
   have HZ0 := Aside0.mk HB.out.size
   go_upto_region 9 with (fail)
   obtain ⟨W0, hW0⟩ : ∃ W0, wo.alloc (.cells #[.slice B0 t.f0.length d0, .int .i64 t.f1, .slice B2 t.f2.length d2, .slice B3 t.f3.length d3] 56) = W0 := ⟨_, rfl⟩
   obtain ⟨bt, hbt⟩ : ∃ bt, wo.heap.size = bt := ⟨_, rfl⟩
   have HT0 : Aside0 (W0.heap[bt]? = some (.cells #[.slice B0 t.f0.length d0, .int .i64 t.f1, .slice B2 t.f2.length d2, .slice B3 t.f3.length d3] 56 (0, 0))) := ⟨by rw [← hW0, ← hbt]; exact blk_new _ _⟩
   have HBW : Aside0 (Below bt wo W0) := ⟨by rw [← hW0, ← hbt]; exact below_alloc (Below.refl _ _) _⟩
   have HBT := Aside0.mk hbt
   have hn1bt : n1 ≤ bt := by rw [← hbt, ← hn1]; exact HB.out.size
   have HN1B := Aside0.mk hn1bt
   have HNW : Aside0 (w.heap.size ≤ n1) := ⟨by rw [← hn1]; exact HBl.out.size⟩
   rw [hW0, hbt]
   clear hW0 hbt hc0 hc1 hc2 hc3
   -- what stays: below bt; the box of t is block bt
   go_loopw [9, 10] (fun bi ji wi => ∃ (j : Nat) (acc : List (List Int)) (is : Bool) (A3 : Option Addr) (c3 : Nat), j ≤ l0_4.length ∧ ji = .int .i64 j ∧ bi = .bool is ∧ Aside0 ((if is = true then r7_Truths.row k l0_0 a0_1 a0_2 l0_3 l0_4 l1 t (l0_4.length - j) j acc else some (false, acc)) = some p) ∧ Aside0 (Below bt wo wi) ∧ Aside0 (wi.heap[bt]? = some (.cells #[.slice B0 t.f0.length d0, .int .i64 t.f1, .slice B2 t.f2.length d2, .slice A3 acc.length c3] 56 (0, 0))) ∧ acc.length ≤ c3 ∧ Aside0 (Kd.F (Kd.slice 3 (Kd.int .i64)) wi (fun k_ => w.heap.size ≤ k_ ∧ (k_ < n1 ∨ bt < k_)) A3 acc.length acc)) (fun _ ji _ => l0_4.length - (intOf ji).toNat)
   case atStart => exact ⟨0, t.f3, true, B3, d3, Nat.zero_le _, rfl, rfl, ⟨by simpa using HRW.out⟩, HBW, HT0, g3, ⟨Kd.F_mono (Kd.F_step (W1 := W0) HF3.out (fun k_ hk _ => HBW.out.block k_ (by have := hk.2; have := HN1B.out; omega))) (fun k_ hk => ⟨hk.1, .inl hk.2⟩)⟩⟩
   case round =>
    obtain ⟨j, acc, is, A3, c3, hj, rfl, rfl, HR, HBi, HTi, hac, HFi⟩ := hrel
    have HWB := Aside0.mk (HB.out.trans (HBi.out.mono HN1B.out))
    have HWA := Aside0.mk (HBl.out.trans (HWB.out.mono HNW.out))
    have hqn := blk_lt HXl.out
    rw [HN1.out] at hqn
    have HQN := Aside0.mk hqn
    have HXi := Aside0.mk ((HWB.out.block q hqn).trans HXl.out)
    have k4 : wr.cell? ⟨q, 4, none⟩ = some (.slice A0_4 l0_4.length c0_4) := (blk_cell HXi.out 4).trans rfl
    have kl := blk_lt HXi.out
    cases is with
    | false =>
     obtain rfl : (false, acc) = p := Option.some.inj HR.out
     have hg := HG2.out
     simp only [Bool.false_eq_true, if_false] at hg
     have HG3 := Aside0.mk hg
     clear hg
     have HO3 := Aside0.mk (Kd.N_step (w1 := wr) (Kd.N_bound HO.out) (fun k_ hk _ => HBi.out.block k_ (by have := hk.2; have := HBT.out; omega)))
     by_cases hjl : j < l0_4.length
     ·
      go_wp2
      clear k4 kl
      go_roundw
      case rel => exact ⟨i + 1, out, _, by omega, by go_num, rfl, HG3, ⟨Kd.N_mono HO3.out (fun k_ hk => hk.1)⟩, HWB⟩
      case measure => simp [intOf]; omega
     ·
      go_wp2
      clear k4 kl
      go_roundw
      case rel => exact ⟨i + 1, out, _, by omega, by go_num, rfl, HG3, ⟨Kd.N_mono HO3.out (fun k_ hk => hk.1)⟩, HWB⟩
      case measure => simp [intOf]; omega
    | true =>
     by_cases hjl : j < l0_4.length
     ·
      have hR := HR.out
      rw [if_pos rfl, show l0_4.length - j = (l0_4.length - (j + 1)) + 1 by omega, r7_Truths.row] at hR
      have hal : acc.length < 1000000 := by
       by_cases ho : acc.length < 1000000
       ·
        exact ho
       ·
        rw [if_neg ho] at hR; cases hR
      rw [if_pos hal] at hR
      obtain ⟨pp, hone, hR2⟩ := Option.bind_eq_some_iff.1 hR
      have HR2 := Aside0.mk hR2
      obtain ⟨hs, hhas, hone2⟩ := Option.bind_eq_some_iff.1 hone
      have HHS := Aside0.mk hhas
      clear hR hR2 hone hhas
      cases hs with
      | true =>
       obtain rfl : ([], true) = pp := Option.some.inj hone2
       clear hone2
       go_wp2_with fail
       refine (r1_Has.calls k A1 c1 l1 j true _ (Kd.C_below HR1.out HWA.out) HCS.out.2.2.2 HHS.out).mono ?_
       rintro e V ⟨rfl, hd⟩
       have HBV := Aside0.mk hd.below
       clear hd k4 kl
       have HFO : Aside0 (Kd.F (Kd.int .i64) V (fun k_ => w.heap.size ≤ k_ ∧ (k_ < n1 ∨ bt < k_)) none ([] : List Int).length []) := ⟨Kd.F_nil _ _ _⟩
       have HLO : Aside0 (([] : List Int).length ≤ 0) := ⟨Nat.le_refl _⟩
       have hvz : bt < V.heap.size := by have := blk_lt HTi.out; have := HBV.out.size; omega
       have HVZ := Aside0.mk hvz
       have HBo := Aside0.mk (HBi.out.trans (HBV.out.mono (Nat.le_of_lt (blk_lt HTi.out))))
       have HTV := Aside0.mk (blk_below HTi.out HBV.out)
       have HFV := Aside0.mk (Kd.F_bound (Kd.F_below HFi.out HBV.out))
       have HFX := Aside0.mk (Kd.F_bound HFO.out)
       have hfr : ∀ k_, V.heap.size ≤ k_ → w.heap.size ≤ k_ ∧ (k_ < n1 ∨ bt < k_) := fun k_ hk => by have := HNW.out; have := HN1B.out; have := HVZ.out; omega
       have HFR := Aside0.mk hfr
       have HAL2 := Aside0.mk hal
       clear hvz hfr hal
       have b0 := (blk_cell HTV.out 0).trans rfl
       go_wp2_with (first
        | ((with_reducible refine gate_dst (N := 49) rfl ?_); refine Kd.R_lit (Kd.slice 3 (Kd.int .i64)) _ 39 ?hg (N := 49) ?hd (xs := ([] : List (List Int))) (inner := []) (ok := fun _ => True) (okp := fun _ => True) ?hr ?hp (fun _ hk => hk) trivial (Below.refl _ _) (Nat.le_refl _) (by simp) ?_; (case hd => rfl); (case hg => rfl); (case hr => first | (go_simp; done) | (go_simp; rfl)); (case hp => exact (Reps.none _ _)); intro v1 w4 ho1 hb1 hg1_ hnew1; have HN4 := Aside0.mk (Kd.N_mono (ok' := (fun k_ => w.heap.size ≤ k_ ∧ (k_ < n1 ∨ bt < k_))) (Kd.R_N (Kd.R_bound ho1)) (fun k_ hk => HFR.out k_ hk.2.1)); have HB4 := Aside0.mk hb1; have HT4 := Aside0.mk (blk_below HTV.out hb1); have b3 : w4.cell? ⟨bt, 3, none⟩ = some (.slice A3 acc.length c3) := (blk_cell HT4.out 3).trans rfl; have bl := blk_lt HT4.out; clear ho1 hb1 hg1_ hnew1)
        | ((with_reducible refine gate_builtin (b := .append) (xs := #[.tmp 49, .tmp 51]) rfl ?_); at_builtin; refine Kd.N_append_rows (Kd.slice 3 (Kd.int .i64)) (w0 := V) V.heap.size rfl (.tmp 49) (.tmp 51) 54 39 (.slice none 0 0) 24 rfl Try.underlying54 info39 rfl (by decide) (by omega) v1 [] acc A3 acc.length c3 (fun k_ => w.heap.size ≤ k_ ∧ (k_ < n1 ∨ bt < k_)) (fun k_ => (w.heap.size ≤ k_ ∧ (k_ < n1 ∨ bt < k_)) ∧ k_ < V.heap.size) rfl rfl HN4.out (Kd.F_below HFV.out HB4.out) (fun k_ hk => ⟨hk.1, fun e => by have := Kd.N_base HN4.out k_ e.symm; have := hk.2; omega⟩) (fun k_ hk => HFR.out k_ (Nat.le_trans HB4.out.size hk)) HB4.out HB4.out.size (by have := HAL2.out; simp only [List.length_nil]; omega) ?_; intro v2 w5 ho2 hb2 hg2 hat2; rw [List.nil_append] at ho2; have HN5 := Aside0.mk ho2; have HB5 := Aside0.mk hb2; have HT5 := Aside0.mk (blk_grown HT4.out hg2 (fun e => by have := Kd.N_base HN4.out bt e.symm; have := HVZ.out; omega)); clear b3 bl ho2 hb2 hg2 hat2)
        | ((with_reducible refine gate_builtin (b := .append) (xs := #[.tmp 52, .tmp 54]) rfl ?_); at_builtin; refine Kd.N_append (Kd.slice 3 (Kd.int .i64)) (w0 := V) V.heap.size rfl (.tmp 52) (.tmp 54) 54 39 (.slice none 0 0) 24 rfl Try.underlying54 info39 rfl (by decide) (by omega) v2 acc [] [.slice none 0 0] (fun k_ => w.heap.size ≤ k_ ∧ (k_ < n1 ∨ bt < k_)) (fun k_ => (w.heap.size ≤ k_ ∧ (k_ < n1 ∨ bt < k_)) ∧ k_ < V.heap.size) rfl rfl (FK_slice (A := none) (c := 0) (o := []) (Nat.le_refl _) (Kd.F_below HFX.out HB5.out)) (fun k_ hk => ⟨hk.1, fun e => by have := Kd.N_base HN5.out k_ e.symm; have := hk.2; omega⟩) (fun k_ hk => HFR.out k_ (Nat.le_trans HB5.out.size hk)) HN5.out HB5.out HB5.out.size (by have := HAL2.out; omega) ?_; intro v3 w6 ho3 hb3 hg3 hat3; obtain ⟨A6, c6, rfl, hl6, _⟩ := Kd.N_reads ho3; have HF6 := Aside0.mk (Kd.N_F ho3); have HL6 := Aside0.mk hl6; have HB6 := Aside0.mk hb3; have HT6 := Aside0.mk (blk_grown HT5.out hg3 (fun e => by have := Kd.N_base HN5.out bt e.symm; have := HVZ.out; omega)); have b3 : w6.cell? ⟨bt, 3, none⟩ = some (.slice A3 acc.length c3) := (blk_cell HT6.out 3).trans rfl; have bf := blk_frozen HT6.out 3; have bl := blk_lt HT6.out; clear ho3 hb3 hg3 hat3 hl6))
       go_roundw
       case rel => exact ⟨j + 1, acc ++ [[]], _, A6, c6, by omega, by go_num, rfl, ⟨by simpa using HR2.out⟩, ⟨((HBo.out.trans (HB6.out.mono (Nat.le_of_lt HVZ.out))).setCell (Nat.le_refl _) _)⟩, ⟨by have h9 := blk_set HT6.out 3 (.slice A6 (acc ++ [[]]).length c6); simp only [List.length_append, List.length_cons, List.length_nil, Nat.zero_add] at h9 ⊢; exact h9⟩, HL6.out, ⟨Kd.F_far HF6.out (fun k_ hk e => by have e2 : k_ = bt := e; have := hk.2; have := HN1B.out; omega) _⟩⟩
       case measure => simp [intOf]; omega
      | false =>
       obtain ⟨o, huse, hpp⟩ := Option.bind_eq_some_iff.1 hone2
       obtain rfl : (o, decide (0 < o.length)) = pp := Option.some.inj hpp
       have HUS := Aside0.mk huse
       clear hone2 huse hpp
       go_wp2_with fail
       refine (r1_Has.calls k A1 c1 l1 j false _ (Kd.C_below HR1.out HWA.out) HCS.out.2.2.2 HHS.out).mono ?_
       rintro e V0 ⟨rfl, hd⟩
       have HBV0 := Aside0.mk hd.below
       clear hd k4 kl
       have HWV := Aside0.mk (HWA.out.trans (HBV0.out.mono HWA.out.size))
       have HXV := Aside0.mk (blk_below HXi.out HBV0.out)
       have HTv := Aside0.mk (blk_below HTi.out HBV0.out)
       have HBo0 := Aside0.mk (HBi.out.trans (HBV0.out.mono (Nat.le_of_lt (blk_lt HTi.out))))
       have hxl := blk_lt HXV.out
       have htl := blk_lt HTv.out
       obtain ⟨ad4, e4, h40, h41, h42⟩ := at_dr (Kd.C_below HR4.out HWV.out) j hjl
       subst e4
       obtain ⟨dd, hdd⟩ : ∃ d, rd_T72 l0_4 (j : Int) = d := ⟨_, rfl⟩
       rw [hdd] at h40 h41 h42 HUS
       clear hdd
       go_wp2
       refine wp_region_G (List.range 10) (S := fun w' : World => w'.cell? ⟨q, 0, none⟩ = some (.slice A0_0 l0_0.length c0_0) ∧ w'.cell? ⟨q, 1, none⟩ = some (.int .i64 a0_1) ∧ w'.cell? ⟨q, 2, none⟩ = some (.int .i64 a0_2) ∧ w'.cell? ⟨q, 3, none⟩ = some (.slice A0_3 l0_3.length c0_3) ∧ w'.cell? ⟨q, 4, none⟩ = some (.slice (some ad4) l0_4.length c0_4) ∧ w'.cell? ⟨bt, 0, none⟩ = some (.slice B0 t.f0.length d0) ∧ w'.cell? ⟨bt, 1, none⟩ = some (.int .i64 t.f1) ∧ w'.cell? ⟨bt, 2, none⟩ = some (.slice B2 t.f2.length d2) ∧ w'.cell? ⟨bt, 3, none⟩ = some (.slice A3 acc.length c3) ∧ w'.cell? (ad4.add (j * 3)) = some (.int .i64 dd.f0) ∧ w'.cell? ⟨(ad4.add (j * 3)).block, (ad4.add (j * 3)).off + 1, none⟩ = some (.int .i64 dd.f1) ∧ w'.cell? ⟨(ad4.add (j * 3)).block, (ad4.add (j * 3)).off + 2, none⟩ = some (.int .i64 dd.f2)) (by kernel_rfl) ⟨(blk_cell HXV.out 0).trans rfl, (blk_cell HXV.out 1).trans rfl, (blk_cell HXV.out 2).trans rfl, (blk_cell HXV.out 3).trans rfl, (blk_cell HXV.out 4).trans rfl, (blk_cell HTv.out 0).trans rfl, (blk_cell HTv.out 1).trans rfl, (blk_cell HTv.out 2).trans rfl, (blk_cell HTv.out 3).trans rfl, h40, h41, h42⟩ (fun hHeld => ?_)
       refine takeG 0 ?_
       refine takeG 1 ?_
       refine takeG 2 ?_
       refine takeG 3 ?_
       refine takeG 4 ?_
       refine takeG 5 ?_
       refine takeG 6 ?_
       clear h40 h41 h42
       refine wpAnyG_only (i := 7) (by kernel_rfl) rfl (fun K hK => ?_)
       go_simp
       refine (r7_used.calls k A0_0 c0_0 l0_0 a0_1 a0_2 A0_3 c0_3 l0_3 (some ad4) c0_4 l0_4 B0 d0 t.f0 t.f1 B2 d2 t.f2 A3 c3 acc dd.f0 dd.f1 dd.f2 o _ (Kd.C_drew (Kd.C_below HR0.out HWV.out)) HCS.out.1 (Kd.C_drew (Kd.C_below HR3.out HWV.out)) HCS.out.2.1 (Kd.C_drew (Kd.C_below HR4.out HWV.out)) HCS.out.2.2.1 (Kd.C_drew (Kd.F_now (Kd.F_step (W1 := V0) HF0.out (fun k_ hk _ => HBo0.out.block k_ (by have := hk.2; have := HN1B.out; omega))))) g0 (Kd.C_drew (Kd.F_now (Kd.F_step (W1 := V0) HF2.out (fun k_ hk _ => HBo0.out.block k_ (by have := hk.2; have := HN1B.out; omega))))) g2 (Kd.C_drew (Kd.F_now (Kd.F_below HFi.out HBV0.out))) hac HUS.out).mono ?_
       rintro e V ⟨vo, rfl, hRo, hbV⟩
       obtain ⟨Ao, co, rfl, hlo, _⟩ := Kd.R_reads hRo
       have HLO := Aside0.mk hlo
       have HFO : Aside0 (Kd.F (Kd.int .i64) V (fun k_ => w.heap.size ≤ k_ ∧ (k_ < n1 ∨ bt < k_)) Ao o.length o) := ⟨Kd.F_mono (Kd.R_F (Kd.R_bound hRo)) (fun k_ hk => by have h1 := hk.2.1; have h2 : V0.drew.heap.size = V0.heap.size := rfl; have := HNW.out; have := HN1B.out; exact ⟨by omega, by omega⟩)⟩
       have HBV := Aside0.mk (HBV0.out.trans (((below_drew1 (Below.refl V0.heap.size V0)).trans hbV).mono HBV0.out.size))
       refine hK.out _ _ ⟨cell_below hHeld.1 hbV, cell_below hHeld.2.1 hbV, cell_below hHeld.2.2.1 hbV, cell_below hHeld.2.2.2.1 hbV, cell_below hHeld.2.2.2.2.1 hbV, cell_below hHeld.2.2.2.2.2.1 hbV, cell_below hHeld.2.2.2.2.2.2.1 hbV, cell_below hHeld.2.2.2.2.2.2.2.1 hbV, cell_below hHeld.2.2.2.2.2.2.2.2.1 hbV, cell_below hHeld.2.2.2.2.2.2.2.2.2.1 hbV, cell_below hHeld.2.2.2.2.2.2.2.2.2.2.1 hbV, cell_below hHeld.2.2.2.2.2.2.2.2.2.2.2 hbV⟩ (by trivial) (fun hHeld2 _ => ?_)
       clear hRo hbV hlo hxl htl hHeld
       clear hK K
       refine putG ?_
       refine takeG 8 ?_
       refine doneG ?_
       clear hHeld2
       have hvz : bt < V.heap.size := by have := blk_lt HTi.out; have := HBV.out.size; omega
       have HVZ := Aside0.mk hvz
       have HBo := Aside0.mk (HBi.out.trans (HBV.out.mono (Nat.le_of_lt (blk_lt HTi.out))))
       have HTV := Aside0.mk (blk_below HTi.out HBV.out)
       have HFV := Aside0.mk (Kd.F_bound (Kd.F_below HFi.out HBV.out))
       have HFX := Aside0.mk (Kd.F_bound HFO.out)
       have hfr : ∀ k_, V.heap.size ≤ k_ → w.heap.size ≤ k_ ∧ (k_ < n1 ∨ bt < k_) := fun k_ hk => by have := HNW.out; have := HN1B.out; have := HVZ.out; omega
       have HFR := Aside0.mk hfr
       have HAL2 := Aside0.mk hal
       clear hvz hfr hal
       have b0 := (blk_cell HTV.out 0).trans rfl
       go_wp2_with (first
        | ((with_reducible refine gate_dst (N := 49) rfl ?_); refine Kd.R_lit (Kd.slice 3 (Kd.int .i64)) _ 39 ?hg (N := 49) ?hd (xs := ([] : List (List Int))) (inner := []) (ok := fun _ => True) (okp := fun _ => True) ?hr ?hp (fun _ hk => hk) trivial (Below.refl _ _) (Nat.le_refl _) (by simp) ?_; (case hd => rfl); (case hg => rfl); (case hr => first | (go_simp; done) | (go_simp; rfl)); (case hp => exact (Reps.none _ _)); intro v1 w4 ho1 hb1 hg1_ hnew1; have HN4 := Aside0.mk (Kd.N_mono (ok' := (fun k_ => w.heap.size ≤ k_ ∧ (k_ < n1 ∨ bt < k_))) (Kd.R_N (Kd.R_bound ho1)) (fun k_ hk => HFR.out k_ hk.2.1)); have HB4 := Aside0.mk hb1; have HT4 := Aside0.mk (blk_below HTV.out hb1); have b3 : w4.cell? ⟨bt, 3, none⟩ = some (.slice A3 acc.length c3) := (blk_cell HT4.out 3).trans rfl; have bl := blk_lt HT4.out; clear ho1 hb1 hg1_ hnew1)
        | ((with_reducible refine gate_builtin (b := .append) (xs := #[.tmp 49, .tmp 51]) rfl ?_); at_builtin; refine Kd.N_append_rows (Kd.slice 3 (Kd.int .i64)) (w0 := V) V.heap.size rfl (.tmp 49) (.tmp 51) 54 39 (.slice none 0 0) 24 rfl Try.underlying54 info39 rfl (by decide) (by omega) v1 [] acc A3 acc.length c3 (fun k_ => w.heap.size ≤ k_ ∧ (k_ < n1 ∨ bt < k_)) (fun k_ => (w.heap.size ≤ k_ ∧ (k_ < n1 ∨ bt < k_)) ∧ k_ < V.heap.size) rfl rfl HN4.out (Kd.F_below HFV.out HB4.out) (fun k_ hk => ⟨hk.1, fun e => by have := Kd.N_base HN4.out k_ e.symm; have := hk.2; omega⟩) (fun k_ hk => HFR.out k_ (Nat.le_trans HB4.out.size hk)) HB4.out HB4.out.size (by have := HAL2.out; simp only [List.length_nil]; omega) ?_; intro v2 w5 ho2 hb2 hg2 hat2; rw [List.nil_append] at ho2; have HN5 := Aside0.mk ho2; have HB5 := Aside0.mk hb2; have HT5 := Aside0.mk (blk_grown HT4.out hg2 (fun e => by have := Kd.N_base HN4.out bt e.symm; have := HVZ.out; omega)); clear b3 bl ho2 hb2 hg2 hat2)
        | ((with_reducible refine gate_builtin (b := .append) (xs := #[.tmp 52, .tmp 54]) rfl ?_); at_builtin; refine Kd.N_append (Kd.slice 3 (Kd.int .i64)) (w0 := V) V.heap.size rfl (.tmp 52) (.tmp 54) 54 39 (.slice none 0 0) 24 rfl Try.underlying54 info39 rfl (by decide) (by omega) v2 acc o [.slice Ao o.length co] (fun k_ => w.heap.size ≤ k_ ∧ (k_ < n1 ∨ bt < k_)) (fun k_ => (w.heap.size ≤ k_ ∧ (k_ < n1 ∨ bt < k_)) ∧ k_ < V.heap.size) rfl rfl (FK_slice HLO.out (Kd.F_below HFX.out HB5.out)) (fun k_ hk => ⟨hk.1, fun e => by have := Kd.N_base HN5.out k_ e.symm; have := hk.2; omega⟩) (fun k_ hk => HFR.out k_ (Nat.le_trans HB5.out.size hk)) HN5.out HB5.out HB5.out.size (by have := HAL2.out; omega) ?_; intro v3 w6 ho3 hb3 hg3 hat3; obtain ⟨A6, c6, rfl, hl6, _⟩ := Kd.N_reads ho3; have HF6 := Aside0.mk (Kd.N_F ho3); have HL6 := Aside0.mk hl6; have HB6 := Aside0.mk hb3; have HT6 := Aside0.mk (blk_grown HT5.out hg3 (fun e => by have := Kd.N_base HN5.out bt e.symm; have := HVZ.out; omega)); have b3 : w6.cell? ⟨bt, 3, none⟩ = some (.slice A3 acc.length c3) := (blk_cell HT6.out 3).trans rfl; have bf := blk_frozen HT6.out 3; have bl := blk_lt HT6.out; clear ho3 hb3 hg3 hat3 hl6))
       go_roundw
       case rel => exact ⟨j + 1, acc ++ [o], _, A6, c6, by omega, by go_num, rfl, ⟨by simpa using HR2.out⟩, ⟨((HBo.out.trans (HB6.out.mono (Nat.le_of_lt HVZ.out))).setCell (Nat.le_refl _) _)⟩, ⟨by have h9 := blk_set HT6.out 3 (.slice A6 (acc ++ [o]).length c6); simp only [List.length_append, List.length_cons, List.length_nil, Nat.zero_add] at h9 ⊢; exact h9⟩, HL6.out, ⟨Kd.F_far HF6.out (fun k_ hk e => by have e2 : k_ = bt := e; have := hk.2; have := HN1B.out; omega) _⟩⟩
       case measure => simp [intOf]; omega
     ·
      obtain rfl : j = l0_4.length := by omega
      obtain rfl : (true, acc) = p := by
       have h9 := HR.out
       simp only [if_true, Nat.sub_self, r7_Truths.row] at h9
       exact Option.some.inj h9
      have hg := HG2.out
      simp only [if_true] at hg
      have HG3 := Aside0.mk hg
      have HO3 := Aside0.mk (Kd.N_mono (Kd.N_step (w1 := wr) (Kd.N_bound HO.out) (fun k_ hk _ => HBi.out.block k_ (by have := hk.2; have := HBT.out; omega))) (fun k_ hk => hk.1) (ok' := fun k_ => w.heap.size ≤ k_))
      have hnb : ∀ k_, vout.ownBlock = some k_ → n1 ≤ k_ ∧ k_ < bt := fun k_ e => ⟨Kd.N_base HO.out k_ e, by have := Kd.N_lt HO.out k_ e; have := HBT.out; omega⟩
      have HNB := Aside0.mk hnb
      have hwz : n1 ≤ wr.heap.size := by have := HWB.out.size; have := HN1.out; omega
      have HWZ := Aside0.mk hwz
      have HOL := Aside0.mk hol
      have F0' := Aside0.mk (Kd.F_mono (Kd.F_step (W1 := wr) HF0.out (fun k_ hk _ => HBi.out.block k_ (by have := hk.2; have := HN1B.out; omega))) (fun k_ hk => ⟨hk.1, .inl hk.2⟩) (ok' := (fun k_ => w.heap.size ≤ k_ ∧ (k_ < n1 ∨ bt < k_))))
      have F2' := Aside0.mk (Kd.F_mono (Kd.F_step (W1 := wr) HF2.out (fun k_ hk _ => HBi.out.block k_ (by have := hk.2; have := HN1B.out; omega))) (fun k_ hk => ⟨hk.1, .inl hk.2⟩) (ok' := (fun k_ => w.heap.size ≤ k_ ∧ (k_ < n1 ∨ bt < k_))))
      clear hg hnb hwz hol
      have b0 := (blk_cell HTi.out 0).trans rfl
      have b1 := (blk_cell HTi.out 1).trans rfl
      have b2 := (blk_cell HTi.out 2).trans rfl
      have b3 := (blk_cell HTi.out 3).trans rfl
      have bl := blk_lt HTi.out
      go_wp2_with (first
       | ((with_reducible refine gate_builtin (b := .append) (xs := #[.tmp 58, .tmp 60]) rfl ?_); at_builtin; refine Kd.N_append k56 (w0 := wl) n1 rfl (.tmp 58) (.tmp 60) 68 56 (.agg #[(.slice none 0 0), (.int .i64 0), (.slice none 0 0), (.slice none 0 0)]) 80 rfl Try.underlying68 info56 rfl (by decide) (by omega) vout out (⟨t.f0, t.f1, t.f2, acc⟩ : S56) [.slice B0 t.f0.length d0, .int .i64 t.f1, .slice B2 t.f2.length d2, .slice A3 acc.length c3] (fun k_ => w.heap.size ≤ k_) (fun k_ => w.heap.size ≤ k_ ∧ (k_ < n1 ∨ bt < k_)) rfl rfl (k56_mkF _ _ (⟨t.f0, t.f1, t.f2, acc⟩ : S56) g0 F0'.out g2 F2'.out hac HFi.out) (fun k_ hk => ⟨hk.1, fun e => by have := HNB.out k_ e.symm; have := hk.2; omega⟩) (fun k_ hk => by have := HNW.out; have := HWZ.out; omega) HO3.out HWB.out HWZ.out (by have := HOL.out; omega) ?_; intro v2 w5 ho hb hg hat; have HO5 := Aside0.mk ho; have HB5 := Aside0.mk hb; clear ho hb hg hat b0 b1 b2 b3 bl))
      go_roundw
      case rel => exact ⟨i + 1, out ++ [⟨t.f0, t.f1, t.f2, acc⟩], _, by omega, by go_num, rfl, HG3, HO5, HB5⟩
      case measure => simp [intOf]; omega
  ·
   obtain rfl : i = L.length := by omega
   have hg := HG.out
   simp only [List.drop_length, r7_Truths.go] at hg
   obtain rfl := Option.some.inj hg
   have hz : w.heap.size ≤ n1 := by rw [← hn1]; exact HBl.out.size
   have hbw := HBl.out.trans (HB.out.mono hz)
   clear hg
   go_wp2
   go_ret
   exact ⟨_, rfl, Kd.N_lower HO.out hz, hbw⟩
end Go.Proofs.Ytgoidclnccjdeaa.PR
end
section
namespace Go.Proofs.Ytgoidclnccjdeaa.PR
open Go.RowKit Go.Proofs.YtgoidclnccjdeaaW.PrintWords Go.Proofs.YtgoidclnccjdeaaW.PrintLast Go.Proofs.YtgoidclnccjdeaaW.PrintMore
attribute [local go_sem] max2_int min2_int max_two min_two max_three min_three max_four min_four   -- for this text's walks alone
set_option linter.unusedVariables false
set_option linter.unusedSimpArgs false

mutual
def r7_Wrong.l0 : Nat → Int → List (S95) → Int → Int → List (S24) → List (S72) → Option (List Int × Int)
 | 0, _, _, _, _, _, _ => none
 | k + 1, x7, x341000, x341001, x341002, x341003, x341004 => if x7 < (x341004.length : Int) then ((r1_Choices.f k (x341004.length : Int) x7).bind fun t348 => (r7_Wrong.l1 k x7 t348 0 x341000 x341001 x341002 x341003 x341004)) else ((r1_Choices.f k (x341004.length : Int) (x341004.length : Int)).bind fun t344 => (if 0 < (t344.length : Int) then (some (rd_L2 t344 0, 0)) else (none)))
def r7_Wrong.l1 : Nat → Int → List (List Int) → Int → List (S95) → Int → Int → List (S24) → List (S72) → Option (List Int × Int)
 | 0, _, _, _, _, _, _, _, _ => none
 | k + 1, x7, x8, x9, x341000, x341001, x341002, x341003, x341004 => if x9 < (x8.length : Int) then (if 0 ≤ x9 then ((r7_Truths.f k x341000 x341001 x341002 x341003 x341004 (rd_L2 x8 x9)).bind fun t352 => (if (t352.length : Int) > 0 then (some (rd_L2 x8 x9, 0)) else (r7_Wrong.l1 k x7 x8 (wrap64 (x9 + 1)) x341000 x341001 x341002 x341003 x341004))) else (none)) else (r7_Wrong.l0 k (wrap64 (x7 + 1)) x341000 x341001 x341002 x341003 x341004)
end
def r7_Wrong.f (k : Nat) (l0_0 : List (S95)) (a0_1 : Int) (a0_2 : Int) (l0_3 : List (S24)) (l0_4 : List (S72)) : Option (List Int × Int) := (r7_Check.f k l0_0 a0_1 a0_2 l0_3 l0_4).bind fun bt341 => (if bt341.2.2 = 0 then (r7_Wrong.l0 k 0 l0_0 a0_1 a0_2 l0_3 l0_4) else (some (([] : List Int), bt341.2.2)))
def r7_Wrong.T11 : Bool × List (List Nat × List Nat) := (true, [([], []), ([], []), ([], []), ([1, 2], [1, 2]), ([3], [3]), ([0, 4], [0, 4]), ([5], [5]), ([6], [6])])
def r7_Wrong.B11 : List Nat := [0, 0, 0, 6, 14, 31, 63, 127]
theorem r7_Wrong.tab11 : rtab .any (opsOf Try.f36 11) = r7_Wrong.T11 := by kernel_rfl
theorem r7_Wrong.bits11 : waitsOk r7_Wrong.T11.2 r7_Wrong.B11 = true := by kernel_rfl
set_option maxHeartbeats 8000000 in
set_option maxRecDepth 100000 in
theorem r7_Wrong.calls (k : Nat) (A0_0 : Option Addr) (c0_0 : Nat) (l0_0 : List (S95)) (a0_1 : Int) (a0_2 : Int) (A0_3 : Option Addr) (c0_3 : Nat) (l0_3 : List (S24)) (A0_4 : Option Addr) (c0_4 : Nat) (l0_4 : List (S72)) (r1 : List Int) (r2 : Int) (w : World) (hr0_0 : Kd.C k95 w A0_0 l0_0.length l0_0) (hc0_0 : l0_0.length ≤ c0_0) (hr0_3 : Kd.C k24 w A0_3 l0_3.length l0_3) (hc0_3 : l0_3.length ≤ c0_3) (hr0_4 : Kd.C k72 w A0_4 l0_4.length l0_4) (hc0_4 : l0_4.length ≤ c0_4) (h : r7_Wrong.f k l0_0 a0_1 a0_2 l0_3 l0_4 = some (r1, r2)) :
  Calls Try.prog 36 #[.agg #[.slice A0_0 l0_0.length c0_0, .int .i64 a0_1, .int .i64 a0_2, .slice A0_3 l0_3.length c0_3, .slice A0_4 l0_4.length c0_4]] w fun e w' => ∃ v0_ : Value, e = .returned (.tuple #[v0_, .int .i64 r2]) ∧ Kd.V (Kd.int .i64) 3 w' w.heap.size (fun k_ => (w.heap.size ≤ k_)) v0_ r1 ∧ Below w.heap.size w w' := by
 have hu28 := Try.underlying28
 have HR0_0 := Aside0.mk hr0_0
 have HC0_0 := Aside0.mk hc0_0
 clear hr0_0 hc0_0
 have HR0_3 := Aside0.mk hr0_3
 have HC0_3 := Aside0.mk hc0_3
 clear hr0_3 hc0_3
 have HR0_4 := Aside0.mk hr0_4
 have HC0_4 := Aside0.mk hc0_4
 clear hr0_4 hc0_4
 have HB := Aside0.mk (Below.refl w.heap.size w)
 have H : ((r7_Check.f k l0_0 a0_1 a0_2 l0_3 l0_4).bind fun bt341 => (if bt341.2.2 = 0 then (r7_Wrong.l0 k 0 l0_0 a0_1 a0_2 l0_3 l0_4) else (some (([] : List Int), bt341.2.2)))) = some (r1, r2) := h
 clear h
 replace H := Option.bind_eq_some_iff.mp H
 obtain ⟨⟨t341, t342, t343⟩, A20, H⟩ := H
 replace H : (if t343 = 0 then (r7_Wrong.l0 k 0 l0_0 a0_1 a0_2 l0_3 l0_4) else (some (([] : List Int), t343))) = some (r1, r2) := H
 have A2 := Aside0.mk A20
 clear A20
 by_cases c3 : t343 = 0
 ·
  rw [if_pos c3] at H
  have c3b0 : (t343 == 0) = true := beq_iff_eq.mpr c3
  have c3b1 : (t343 != 0) = false := bne_eq_false_iff_eq.mpr c3
  clear c3
  have H' := Aside0.mk H
  clear H
  go_enter Try.func36, Try.ntmps36
  go_wp2_with (first | ((with_reducible refine gate_dst (N := 1) rfl ?_); refine box_event ?hg (N := 1) ?hd (cs := #[.slice A0_0 l0_0.length c0_0, .int .i64 a0_1, .int .i64 a0_2, .slice A0_3 l0_3.length c0_3, .slice A0_4 l0_4.length c0_4]) (t := 28) ?hr ?_; (case hd => rfl); (case hg => rfl); (case hr => first | (go_simp; done) | (go_simp; rfl)); intro gb340 hg w4 hbox hb; have n0_ := Aside0.mk (below_step (by repeat (first | (with_reducible first | exact HB.out | apply below_alloc | apply pw_below_drewN | apply below_drew1) | exact HB.out)) hb); have n1_ := Aside0.mk (hbox); have n2_ := Aside0.mk ((by rw [hg]; exact (below_size (by repeat (first | (with_reducible first | exact HB.out | apply below_alloc | apply pw_below_drewN | apply below_drew1) | exact HB.out))) : w.heap.size ≤ gb340)); have n3_ := Aside0.mk ((by rw [hg]; exact (below_size (by repeat (first | (with_reducible first | exact HB.out | apply below_alloc | apply pw_below_drewN | apply below_drew1) | exact HB.out))) : w.heap.size ≤ gb340)); clear HB; have HB := n0_; have BK340 := n1_; have GW340 := n2_; have GE340 := n3_; clear n0_ n1_ n2_ n3_; clear hb hbox hg; have hcz5_0 : w4.cell? ⟨gb340, 0, none⟩ = some (.slice A0_0 l0_0.length c0_0) := (blk_cell BK340.out 0).trans rfl; have hcz5_1 : w4.cell? ⟨gb340, 1, none⟩ = some (.int .i64 a0_1) := (blk_cell BK340.out 1).trans rfl; have hcz5_2 : w4.cell? ⟨gb340, 2, none⟩ = some (.int .i64 a0_2) := (blk_cell BK340.out 2).trans rfl; have hcz5_3 : w4.cell? ⟨gb340, 3, none⟩ = some (.slice A0_3 l0_3.length c0_3) := (blk_cell BK340.out 3).trans rfl; have hcz5_4 : w4.cell? ⟨gb340, 4, none⟩ = some (.slice A0_4 l0_4.length c0_4) := (blk_cell BK340.out 4).trans rfl; have hfz5_0 := blk_frozen BK340.out 0; have hfz5_1 := blk_frozen BK340.out 1; have hfz5_2 := blk_frozen BK340.out 2; have hfz5_3 := blk_frozen BK340.out 3; have hfz5_4 := blk_frozen BK340.out 4) | ((with_reducible refine gate_callee (f := 18) rfl ?_); refine goesL_ (some 12) rfl rfl Try.func18 (by kernel_rfl) rfl #[.agg #[.slice A0_0 l0_0.length c0_0, .int .i64 a0_1, .int .i64 a0_2, .slice A0_3 l0_3.length c0_3, .slice A0_4 l0_4.length c0_4]] rfl (by (try simp only [List.map_toArray, List.map_cons, List.map_nil]); first | done | rfl | (simp only [List.length_drop, List.length_take]; rfl)) ?_; (with_reducible refine (r7_Check.calls k _ _ l0_0 a0_1 a0_2 _ _ l0_3 _ _ l0_4 t341 t342 t343 _ ?side1 ?side2 ?side3 ?side4 ?side5 ?side6 A2.out).mono ?_); (case side1 => repeat (first | exact (Kd.C_below HR0_0.out HB.out) | (with_reducible refine Kd.C_alloc ?_ _) | (with_reducible refine Kd.C_drewN ?_ _) | (with_reducible refine Kd.C_drew ?_))); (case side2 => exact HC0_0.out); (case side3 => repeat (first | exact (Kd.C_below HR0_3.out HB.out) | (with_reducible refine Kd.C_alloc ?_ _) | (with_reducible refine Kd.C_drewN ?_ _) | (with_reducible refine Kd.C_drew ?_))); (case side4 => exact HC0_3.out); (case side5 => repeat (first | exact (Kd.C_below HR0_4.out HB.out) | (with_reducible refine Kd.C_alloc ?_ _) | (with_reducible refine Kd.C_drewN ?_ _) | (with_reducible refine Kd.C_drew ?_))); (case side6 => exact HC0_4.out); rintro e w6 ⟨rfl, hb⟩; refine ⟨_, rfl, ?_⟩; have n0_ := Aside0.mk (blk_below (g := gb340) (o := .cells #[.slice A0_0 l0_0.length c0_0, .int .i64 a0_1, .int .i64 a0_2, .slice A0_3 l0_3.length c0_3, .slice A0_4 l0_4.length c0_4] 28 (0, 0)) (by (with_reducible repeat (first | refine blk_drewN ?_ _ | refine blk_drew ?_ | refine blk_alloc ?_ _)); exact BK340.out) hb); have n1_ := Aside0.mk (below_step (by repeat (first | (with_reducible first | exact HB.out | apply below_alloc | apply pw_below_drewN | apply below_drew1 | refine below_set ?_ GE340.out) | exact HB.out)) hb); clear BK340; clear HB; have BK340 := n0_; have HB := n1_; clear n0_ n1_; (try clear hb); (try clear hb2); (try clear hk); (try clear hi)))
  go_loopg [7] k (fun kq v7 w' => ∃ (x7_1 : Int), v7 = .int .i64 x7_1 ∧ Aside0 (r7_Wrong.l0 kq x7_1 l0_0 a0_1 a0_2 l0_3 l0_4 = some (r1, r2)) ∧ Aside0 (kq ≤ k) ∧ Aside0 (w'.heap[gb340]? = some (.cells #[(.slice A0_0 l0_0.length c0_0), .int .i64 a0_1, .int .i64 a0_2, (.slice A0_3 l0_3.length c0_3), (.slice A0_4 l0_4.length c0_4)] 28 (0, 0))) ∧ Aside0 (Below w.heap.size w w'))
  case atStart => exact ⟨(0), (by first | rfl | (simp; done) | (simp [*]; done)), H', ⟨Nat.le_refl _⟩, ⟨by (with_reducible repeat (first | refine blk_drewN ?_ _ | refine blk_drew ?_ | refine blk_alloc ?_ _)); exact BK340.out⟩, ⟨by repeat (first | (with_reducible first | exact HB.out | apply below_alloc | apply pw_below_drewN | apply below_drew1 | refine below_set ?_ GE340.out) | exact HB.out)⟩⟩
  case round =>
   clear H'
   try clear c1
   try clear p2
   try clear c3
   try clear c3b0
   try clear c3b1
   try clear hcz5_0
   try clear hcz5_1
   try clear hcz5_2
   try clear hcz5_3
   try clear hcz5_4
   try clear hfz5_0
   try clear hfz5_1
   try clear hfz5_2
   try clear hfz5_3
   try clear hfz5_4
   obtain ⟨x7_1, rfl, HA, HK1, BK340, HB⟩ := hrel
   cases gk with
   | zero => exact absurd HA.out (by simp [r7_Wrong.l0])
   | succ k1 =>
    have H := HA.out
    clear HA
    simp only [r7_Wrong.l0] at H
    by_cases c7 : x7_1 < (l0_4.length : Int)
    ·
     rw [if_pos c7] at H
     have c7b0 : decide (x7_1 < (l0_4.length : Int)) = true := decide_eq_true c7
     clear c7
     replace H := Option.bind_eq_some_iff.mp H
     obtain ⟨t348, A80, H⟩ := H
     replace H : (r7_Wrong.l1 k1 x7_1 t348 0 l0_0 a0_1 a0_2 l0_3 l0_4) = some (r1, r2) := H
     have A8 := Aside0.mk A80
     clear A80
     have H' := Aside0.mk H
     clear H
     have hcz9_0 : wr.cell? ⟨gb340, 0, none⟩ = some (.slice A0_0 l0_0.length c0_0) := (blk_cell BK340.out 0).trans rfl
     have hcz9_1 : wr.cell? ⟨gb340, 1, none⟩ = some (.int .i64 a0_1) := (blk_cell BK340.out 1).trans rfl
     have hcz9_2 : wr.cell? ⟨gb340, 2, none⟩ = some (.int .i64 a0_2) := (blk_cell BK340.out 2).trans rfl
     have hcz9_3 : wr.cell? ⟨gb340, 3, none⟩ = some (.slice A0_3 l0_3.length c0_3) := (blk_cell BK340.out 3).trans rfl
     have hcz9_4 : wr.cell? ⟨gb340, 4, none⟩ = some (.slice A0_4 l0_4.length c0_4) := (blk_cell BK340.out 4).trans rfl
     have hfz9_0 := blk_frozen BK340.out 0
     have hfz9_1 := blk_frozen BK340.out 1
     have hfz9_2 := blk_frozen BK340.out 2
     have hfz9_3 := blk_frozen BK340.out 3
     have hfz9_4 := blk_frozen BK340.out 4
     go_wp2_with (first | ((with_reducible refine gate_callee (f := 110) rfl ?_); refine goesL_ (some 30) rfl rfl Try.func110 (by kernel_rfl) rfl #[.int .i64 (l0_4.length : Int), .int .i64 x7_1] rfl (by (try simp only [List.map_toArray, List.map_cons, List.map_nil]); first | done | rfl | (simp only [List.length_drop, List.length_take]; rfl)) ?_; (with_reducible refine (r1_Choices.calls k1 (l0_4.length : Int) x7_1 t348 _ A8.out).mono ?_); rintro e w10 ⟨v349, rfl, ho0, hb⟩; refine ⟨_, rfl, ?_⟩; have n0_ := Aside0.mk (Kd.N_lower (Kd.N_mono (ok' := fun k_ => (w.heap.size ≤ k_) ∧ k_ ≠ gb340) (Kd.S_N (Kd.S_bound ho0)) (fun k_ hk_ => ⟨(Nat.le_trans (below_size (by repeat (first | (with_reducible first | exact HB.out | apply below_alloc | apply pw_below_drewN | apply below_drew1 | refine below_set ?_ GE340.out) | exact HB.out))) hk_.2.1), (Kd.freshB (g := gb340) (o := .cells #[.slice A0_0 l0_0.length c0_0, .int .i64 a0_1, .int .i64 a0_2, .slice A0_3 l0_3.length c0_3, .slice A0_4 l0_4.length c0_4] 28 (0, 0)) (by (with_reducible repeat (first | refine blk_drewN ?_ _ | refine blk_drew ?_ | refine blk_alloc ?_ _)); exact BK340.out) k_ hk_.2.1)⟩)) (below_size (by repeat (first | (with_reducible first | exact HB.out | apply below_alloc | apply pw_below_drewN | apply below_drew1 | refine below_set ?_ GE340.out) | exact HB.out)))); have n1_ := Aside0.mk (blk_below (g := gb340) (o := .cells #[.slice A0_0 l0_0.length c0_0, .int .i64 a0_1, .int .i64 a0_2, .slice A0_3 l0_3.length c0_3, .slice A0_4 l0_4.length c0_4] 28 (0, 0)) (by (with_reducible repeat (first | refine blk_drewN ?_ _ | refine blk_drew ?_ | refine blk_alloc ?_ _)); exact BK340.out) hb); have n2_ := Aside0.mk (below_step (by repeat (first | (with_reducible first | exact HB.out | apply below_alloc | apply pw_below_drewN | apply below_drew1 | refine below_set ?_ GE340.out) | exact HB.out)) hb); clear BK340; clear HB; have HO350 := n0_; have BK340 := n1_; have HB := n2_; clear n0_ n1_ n2_; (try clear hb); (try clear hb2); (try clear hk); (try clear hi); (try clear ho0)))
     go_loopg [9] k1 (fun kq v9 w' => ∃ (x9_2 : Int), v9 = .int .i64 x9_2 ∧ Aside0 (r7_Wrong.l1 kq x7_1 t348 x9_2 l0_0 a0_1 a0_2 l0_3 l0_4 = some (r1, r2)) ∧ Aside0 (kq ≤ k1) ∧ Aside0 (Kd.N (Kd.slice 3 (Kd.int .i64)) 39 w' w.heap.size (fun k_ => (w.heap.size ≤ k_) ∧ k_ ≠ gb340) v349 t348) ∧ Aside0 (w'.heap[gb340]? = some (.cells #[(.slice A0_0 l0_0.length c0_0), .int .i64 a0_1, .int .i64 a0_2, (.slice A0_3 l0_3.length c0_3), (.slice A0_4 l0_4.length c0_4)] 28 (0, 0))) ∧ Aside0 (Below w.heap.size w w'))
     case atStart => exact ⟨(0), (by first | rfl | (simp; done) | (simp [*]; done)), H', ⟨Nat.le_refl _⟩, ⟨by (with_reducible repeat (first | apply Kd.N_alloc | apply Kd.N_drewN | apply Kd.N_drew)); exact HO350.out⟩, ⟨by (with_reducible repeat (first | refine blk_drewN ?_ _ | refine blk_drew ?_ | refine blk_alloc ?_ _)); exact BK340.out⟩, ⟨by repeat (first | (with_reducible first | exact HB.out | apply below_alloc | apply pw_below_drewN | apply below_drew1 | refine below_set ?_ GE340.out) | exact HB.out)⟩⟩
     case round =>
      clear H'
      try clear c1
      try clear p2
      try clear c3
      try clear c3b0
      try clear c3b1
      try clear c7
      try clear c7b0
      try clear hcz5_0
      try clear hcz5_1
      try clear hcz5_2
      try clear hcz5_3
      try clear hcz5_4
      try clear hcz9_0
      try clear hcz9_1
      try clear hcz9_2
      try clear hcz9_3
      try clear hcz9_4
      try clear hfz5_0
      try clear hfz5_1
      try clear hfz5_2
      try clear hfz5_3
      try clear hfz5_4
      try clear hfz9_0
      try clear hfz9_1
      try clear hfz9_2
      try clear hfz9_3
      try clear hfz9_4
      try clear p2
      obtain ⟨x9_2, rfl, HA, HK2, HO_8, BK340, HB⟩ := hrel
      cases gk with
      | zero => exact absurd HA.out (by simp [r7_Wrong.l1])
      | succ k2 =>
       have H := HA.out
       clear HA
       simp only [r7_Wrong.l1] at H
       by_cases c11 : x9_2 < (t348.length : Int)
       ·
        rw [if_pos c11] at H
        have c11b0 : decide (x9_2 < (t348.length : Int)) = true := decide_eq_true c11
        clear c11
        by_cases c12 : 0 ≤ x9_2
        ·
         rw [if_pos c12] at H
         have c12b0 : decide (0 ≤ x9_2) = true := decide_eq_true c12
         clear c12
         replace H := Option.bind_eq_some_iff.mp H
         obtain ⟨t352, A130, H⟩ := H
         replace H : (if (t352.length : Int) > 0 then (some (rd_L2 t348 x9_2, 0)) else (r7_Wrong.l1 k2 x7_1 t348 (wrap64 (x9_2 + 1)) l0_0 a0_1 a0_2 l0_3 l0_4)) = some (r1, r2) := H
         have A13 := Aside0.mk A130
         clear A130
         by_cases c14 : (t352.length : Int) > 0
         ·
          rw [if_pos c14] at H
          have c14b0 : decide (0 < (t352.length : Int)) = true := decide_eq_true c14
          have c14b1 : decide (0 < t352.length) = true := decide_eq_true (by omega)
          clear c14
          simp only [Option.some.injEq, Prod.mk.injEq] at H
          obtain ⟨rfl, rfl⟩ := H
          obtain ⟨Ao15, co15, eo15⟩ := Kd.N_slice HO_8.out
          subst eo15
          try go_wp2
          have n0_ := Aside0.mk (Kd.N_drew HO_8.out)
          have n1_ := Aside0.mk (blk_drew BK340.out)
          have n2_ := Aside0.mk (below_drew1 HB.out)
          clear HO_8
          clear BK340
          clear HB
          have HO_8 := n0_
          have BK340 := n1_
          have HB := n2_
          clear n0_ n1_ n2_
          have p351 : 0 ≤ (x9_2 : Int) := of_decide_eq_true (by first | (with_reducible assumption) | assumption)
          have q351 : x9_2 < (t348.length : Int) := of_decide_eq_true (by first | (with_reducible assumption) | assumption)
          obtain ⟨ad351, A351_0, c351_0, e351, hx351_0, hl351_0, hi351_0⟩ := at_L2 (Kd.N_reads' HO_8.out).2.2 x9_2 p351 q351
          cases e351
          obtain ⟨ce351, hce351, hMe351, hcc351⟩ := Kd.N_get HO_8.out [] x9_2 p351 (by first | exact q351 | exact of_decide_eq_true (by first | (with_reducible assumption) | assumption) | (have e_ := (Kd.N_reads' HO_8.out).1; omega))
          obtain ⟨ua351_0, uc351_0, rfl, ul351_0, ge351_0⟩ := Kd.FK_slice_open hMe351
          have hv351_0 := hcc351 0 _ rfl
          rw [Nat.add_zero, show ((Kd.slice 3 (Kd.int .i64))).sz = 1 from rfl, Nat.mul_one] at hv351_0
          replace hv351_0 := Option.some.inj (hv351_0.symm.trans hx351_0)
          injection hv351_0 with hva_ hvn_ hvc_
          rw [hva_] at ge351_0
          rw [hvc_] at ul351_0
          have HL351_0 := Aside0.mk (show Kd.V (Kd.int .i64) 3 _ w.heap.size _ _ (rd_L2 t348 x9_2) from Kd.V_mk ul351_0 ge351_0)
          clear hva_ hvn_ hvc_ ge351_0 ul351_0
          clear hcc351 hce351
          have HR351_0 := Aside0.mk hi351_0
          have HC351_0 := Aside0.mk hl351_0
          clear hi351_0 hl351_0
          replace p351 := eq_true p351
          replace q351 := eq_true q351
          refine start_ (n := 8) (S := fun w' => w'.cell? ⟨gb340, 0, none⟩ = some (.slice A0_0 l0_0.length c0_0) ∧ w'.cell? ⟨gb340, 1, none⟩ = some (.int .i64 a0_1) ∧ w'.cell? ⟨gb340, 2, none⟩ = some (.int .i64 a0_2) ∧ w'.cell? ⟨gb340, 3, none⟩ = some (.slice A0_3 l0_3.length c0_3) ∧ w'.cell? ⟨gb340, 4, none⟩ = some (.slice A0_4 l0_4.length c0_4) ∧ w'.cell? (ad351.add (x9_2).toNat) = some (.slice A351_0 (rd_L2 t348 x9_2).length c351_0)) (ds := []) #[false, false, false, false, false, false, false, false] (by kernel_rfl) rfl rfl ⟨(blk_cell BK340.out 0).trans rfl, (blk_cell BK340.out 1).trans rfl, (blk_cell BK340.out 2).trans rfl, (blk_cell BK340.out 3).trans rfl, (blk_cell BK340.out 4).trans rfl, hx351_0⟩ (fun hHeld => ?_); refine with_tabW r7_Wrong.tab11 r7_Wrong.bits11 (fun HT_ HW_ => ?_)
          generalize wr.drew = w16 at HO_8 BK340 HB HL351_0 HR351_0 hx351_0 hHeld ⊢
          refine pureQ 1 38 HT_.out ?_
          refine pureQ 2 39 HT_.out ?_
          refine pureQ 3 40 HT_.out ?_
          refine takeQ 0 37 HT_.out HW_.out hHeld ?_
          refine takeQ 4 41 HT_.out HW_.out hHeld ?_
          refine one_ (i := 5) (N := some 42) #[true, true, true, true, true, true, false, false] rfl rfl (one_of HT_.out (by kernel_rfl)) (by decide) (fun K hK => ?_)
          refine goes_ Try.func49 (by kernel_rfl) rfl #[.agg #[.slice A0_0 l0_0.length c0_0, .int .i64 a0_1, .int .i64 a0_2, .slice A0_3 l0_3.length c0_3, .slice A0_4 l0_4.length c0_4], .slice A351_0 (rd_L2 t348 x9_2).length c351_0] (by rfl) rfl rfl (by (try simp only [List.map_toArray, List.map_cons, List.map_nil]); first | done | rfl | (simp only [List.length_drop, List.length_take]; rfl)) ?_
          with_reducible refine (r7_Truths.calls k2 _ _ l0_0 a0_1 a0_2 _ _ l0_3 _ _ l0_4 _ _ (rd_L2 t348 x9_2) t352 _ ?side1 ?side2 ?side3 ?side4 ?side5 ?side6 ?side7 ?side8 A13.out).mono ?_
          (case side1 => repeat (first | exact (Kd.C_below HR0_0.out HB.out) | (with_reducible refine Kd.C_alloc ?_ _) | (with_reducible refine Kd.C_drewN ?_ _) | (with_reducible refine Kd.C_drew ?_)))
          (case side2 => exact HC0_0.out)
          (case side3 => repeat (first | exact (Kd.C_below HR0_3.out HB.out) | (with_reducible refine Kd.C_alloc ?_ _) | (with_reducible refine Kd.C_drewN ?_ _) | (with_reducible refine Kd.C_drew ?_)))
          (case side4 => exact HC0_3.out)
          (case side5 => repeat (first | exact (Kd.C_below HR0_4.out HB.out) | (with_reducible refine Kd.C_alloc ?_ _) | (with_reducible refine Kd.C_drewN ?_ _) | (with_reducible refine Kd.C_drew ?_)))
          (case side6 => exact HC0_4.out)
          (case side7 => repeat (first | exact (by repeat (first | (with_reducible exact HR351_0.out) | (with_reducible refine Kd.C_alloc ?_ _) | (with_reducible refine Kd.C_drewN ?_ _) | (with_reducible refine Kd.C_drew ?_) | exact HR351_0.out)) | (with_reducible refine Kd.C_alloc ?_ _) | (with_reducible refine Kd.C_drewN ?_ _) | (with_reducible refine Kd.C_drew ?_)))
          (case side8 => exact HC351_0.out)
          rintro e w17 ⟨v353, rfl, ho0, hb⟩
          have HS5_ := (hb.cell (World.block_lt_of_cell? _ _ (hHeld.2.2.2.2.2))).trans (hHeld.2.2.2.2.2)
          refine ⟨_, rfl, ?_⟩
          have n0_ := Aside0.mk (Kd.N_elder' (by (with_reducible repeat (first | apply Kd.N_alloc | apply Kd.N_drewN | apply Kd.N_drew)); exact HO_8.out) (Kd.N_base ho0) hb)
          have n1_ := Aside0.mk (Kd.V_elder' (by (with_reducible repeat (first | apply Kd.V_alloc | apply Kd.V_drewN | apply Kd.V_drew)); exact HL351_0.out) (Kd.N_base ho0) hb)
          have n2_ := Aside0.mk (Kd.N_lower (Kd.N_mono (ok' := fun k_ => (w.heap.size ≤ k_) ∧ some k_ ≠ (.slice (some ad351) t348.length co15 : Value).ownBlock ∧ k_ ≠ gb340) ho0 (fun k_ hk_ => ⟨(Nat.le_trans (below_size (by repeat (first | (with_reducible first | exact HB.out | apply below_alloc | apply pw_below_drewN | apply below_drew1 | refine below_set ?_ GE340.out) | exact HB.out))) hk_), (Kd.fresh' (Kd.N_lt (by (with_reducible repeat (first | apply Kd.N_alloc | apply Kd.N_drewN | apply Kd.N_drew)); exact HO_8.out)) k_ hk_), (Kd.freshB (g := gb340) (o := .cells #[.slice A0_0 l0_0.length c0_0, .int .i64 a0_1, .int .i64 a0_2, .slice A0_3 l0_3.length c0_3, .slice A0_4 l0_4.length c0_4] 28 (0, 0)) (by (with_reducible repeat (first | refine blk_drewN ?_ _ | refine blk_drew ?_ | refine blk_alloc ?_ _)); exact BK340.out) k_ hk_)⟩)) (below_size (by repeat (first | (with_reducible first | exact HB.out | apply below_alloc | apply pw_below_drewN | apply below_drew1 | refine below_set ?_ GE340.out) | exact HB.out))))
          have n3_ := Aside0.mk (blk_below (g := gb340) (o := .cells #[.slice A0_0 l0_0.length c0_0, .int .i64 a0_1, .int .i64 a0_2, .slice A0_3 l0_3.length c0_3, .slice A0_4 l0_4.length c0_4] 28 (0, 0)) (by (with_reducible repeat (first | refine blk_drewN ?_ _ | refine blk_drew ?_ | refine blk_alloc ?_ _)); exact BK340.out) hb)
          have n4_ := Aside0.mk (Kd.C_below (by repeat (first | (with_reducible exact HR351_0.out) | (with_reducible refine Kd.C_alloc ?_ _) | (with_reducible refine Kd.C_drewN ?_ _) | (with_reducible refine Kd.C_drew ?_) | exact HR351_0.out)) hb)
          have n5_ := Aside0.mk (below_step (by repeat (first | (with_reducible first | exact HB.out | apply below_alloc | apply pw_below_drewN | apply below_drew1 | refine below_set ?_ GE340.out) | exact HB.out)) hb)
          clear HO_8
          clear HL351_0
          clear BK340
          clear HR351_0
          clear HB
          have HO_8 := n0_
          have HL351_0 := n1_
          have HO354 := n2_
          have BK340 := n3_
          have HR351_0 := n4_
          have HB := n5_
          clear n0_ n1_ n2_ n3_ n4_ n5_
          (try clear hb)
          (try clear hb2)
          (try clear hk)
          (try clear hi)
          (try clear ho0)
          obtain ⟨Ao18, co18, eo18⟩ := Kd.N_slice HO354.out
          (first | subst eo18 | (injection eo18 with f1_ f2_ f3_; have f4_ := f1_.symm; have f5_ := f3_.symm; clear f1_ f2_ f3_; subst f4_; subst f5_))
          refine hK.out _ _ ⟨(blk_cell BK340.out 0).trans rfl, (blk_cell BK340.out 1).trans rfl, (blk_cell BK340.out 2).trans rfl, (blk_cell BK340.out 3).trans rfl, (blk_cell BK340.out 4).trans rfl, HS5_⟩ (fun hHeld => ?_)
          clear hK K
          refine norm_ (a' := ?_) ?_ ?_
          rotate_left
          ·
           show Act.put _ (some 42) _ = _
           simp only [Act.put, List.setIfInBounds_toArray, List.set_cons_zero, List.set_cons_succ, i64_w, i32_w]
           rfl
          refine pureQ 6 43 HT_.out ?_
          refine pureQ 7 44 HT_.out ?_
          refine done_ (done_of HT_.out (by kernel_rfl)) ?_
          have p355 : 0 ≤ (x9_2 : Int) := of_decide_eq_true (by first | (with_reducible assumption) | assumption)
          have q355 : x9_2 < (t348.length : Int) := of_decide_eq_true (by first | (with_reducible assumption) | assumption)
          obtain ⟨ad355, A355_0, c355_0, e355, hx355_0, hl355_0, hi355_0⟩ := at_L2 (Kd.N_reads' HO_8.out).2.2 x9_2 p355 q355
          obtain rfl : ad351 = ad355 := (by injection e355)
          obtain ⟨ce355, hce355, hMe355, hcc355⟩ := Kd.N_get HO_8.out [] x9_2 p355 (by first | exact q355 | exact of_decide_eq_true (by first | (with_reducible assumption) | assumption) | (have e_ := (Kd.N_reads' HO_8.out).1; omega))
          obtain ⟨ua355_0, uc355_0, rfl, ul355_0, ge355_0⟩ := Kd.FK_slice_open hMe355
          have hv355_0 := hcc355 0 _ rfl
          rw [Nat.add_zero, show ((Kd.slice 3 (Kd.int .i64))).sz = 1 from rfl, Nat.mul_one] at hv355_0
          replace hv355_0 := Option.some.inj (hv355_0.symm.trans hx355_0)
          injection hv355_0 with hva_ hvn_ hvc_
          rw [hva_] at ge355_0
          rw [hvc_] at ul355_0
          have HL355_0 := Aside0.mk (show Kd.V (Kd.int .i64) 3 _ w.heap.size _ _ (rd_L2 t348 x9_2) from Kd.V_mk ul355_0 ge355_0)
          clear hva_ hvn_ hvc_ ge355_0 ul355_0
          clear hcc355 hce355
          have HR355_0 := Aside0.mk hi355_0
          have HC355_0 := Aside0.mk hl355_0
          clear hi355_0 hl355_0
          replace p355 := eq_true p355
          replace q355 := eq_true q355
          try go_wp2
          go_ret2
          exact ⟨_, by first | rfl | (simp [errW_none, errW_some] <;> rfl) | (simp [*, errW_none, errW_some] <;> rfl), by (with_reducible repeat (first | apply Kd.V_alloc | apply Kd.V_drewN | apply Kd.V_drew)); first | exact Kd.V_mono HL355_0.out (fun _ hk => hk.1.1.1) | exact Kd.V_mono HL351_0.out (fun _ hk => hk.1.1.1) | exact Kd.V_mono HL351_0.out (fun _ hk => hk.1.1), by repeat (first | (with_reducible first | exact HB.out | apply below_alloc | apply pw_below_drewN | apply below_drew1 | refine below_set ?_ GE340.out) | exact HB.out)⟩
         ·
          rw [if_neg c14] at H
          have c14b0 : decide (0 < (t352.length : Int)) = false := decide_eq_false c14
          have c14b1 : decide (0 < t352.length) = false := decide_eq_false (by omega)
          clear c14
          have H' := Aside0.mk H
          clear H
          obtain ⟨Ao19, co19, eo19⟩ := Kd.N_slice HO_8.out
          subst eo19
          try go_wp2
          have n0_ := Aside0.mk (Kd.N_drew HO_8.out)
          have n1_ := Aside0.mk (blk_drew BK340.out)
          have n2_ := Aside0.mk (below_drew1 HB.out)
          clear HO_8
          clear BK340
          clear HB
          have HO_8 := n0_
          have BK340 := n1_
          have HB := n2_
          clear n0_ n1_ n2_
          have p351 : 0 ≤ (x9_2 : Int) := of_decide_eq_true (by first | (with_reducible assumption) | assumption)
          have q351 : x9_2 < (t348.length : Int) := of_decide_eq_true (by first | (with_reducible assumption) | assumption)
          obtain ⟨ad351, A351_0, c351_0, e351, hx351_0, hl351_0, hi351_0⟩ := at_L2 (Kd.N_reads' HO_8.out).2.2 x9_2 p351 q351
          cases e351
          obtain ⟨ce351, hce351, hMe351, hcc351⟩ := Kd.N_get HO_8.out [] x9_2 p351 (by first | exact q351 | exact of_decide_eq_true (by first | (with_reducible assumption) | assumption) | (have e_ := (Kd.N_reads' HO_8.out).1; omega))
          obtain ⟨ua351_0, uc351_0, rfl, ul351_0, ge351_0⟩ := Kd.FK_slice_open hMe351
          have hv351_0 := hcc351 0 _ rfl
          rw [Nat.add_zero, show ((Kd.slice 3 (Kd.int .i64))).sz = 1 from rfl, Nat.mul_one] at hv351_0
          replace hv351_0 := Option.some.inj (hv351_0.symm.trans hx351_0)
          injection hv351_0 with hva_ hvn_ hvc_
          rw [hva_] at ge351_0
          rw [hvc_] at ul351_0
          have HL351_0 := Aside0.mk (show Kd.V (Kd.int .i64) 3 _ w.heap.size _ _ (rd_L2 t348 x9_2) from Kd.V_mk ul351_0 ge351_0)
          clear hva_ hvn_ hvc_ ge351_0 ul351_0
          clear hcc351 hce351
          have HR351_0 := Aside0.mk hi351_0
          have HC351_0 := Aside0.mk hl351_0
          clear hi351_0 hl351_0
          replace p351 := eq_true p351
          replace q351 := eq_true q351
          refine start_ (n := 8) (S := fun w' => w'.cell? ⟨gb340, 0, none⟩ = some (.slice A0_0 l0_0.length c0_0) ∧ w'.cell? ⟨gb340, 1, none⟩ = some (.int .i64 a0_1) ∧ w'.cell? ⟨gb340, 2, none⟩ = some (.int .i64 a0_2) ∧ w'.cell? ⟨gb340, 3, none⟩ = some (.slice A0_3 l0_3.length c0_3) ∧ w'.cell? ⟨gb340, 4, none⟩ = some (.slice A0_4 l0_4.length c0_4) ∧ w'.cell? (ad351.add (x9_2).toNat) = some (.slice A351_0 (rd_L2 t348 x9_2).length c351_0)) (ds := []) #[false, false, false, false, false, false, false, false] (by kernel_rfl) rfl rfl ⟨(blk_cell BK340.out 0).trans rfl, (blk_cell BK340.out 1).trans rfl, (blk_cell BK340.out 2).trans rfl, (blk_cell BK340.out 3).trans rfl, (blk_cell BK340.out 4).trans rfl, hx351_0⟩ (fun hHeld => ?_); refine with_tabW r7_Wrong.tab11 r7_Wrong.bits11 (fun HT_ HW_ => ?_)
          generalize wr.drew = w20 at HO_8 BK340 HB HL351_0 HR351_0 hx351_0 hHeld ⊢
          refine pureQ 1 38 HT_.out ?_
          refine pureQ 2 39 HT_.out ?_
          refine pureQ 3 40 HT_.out ?_
          refine takeQ 0 37 HT_.out HW_.out hHeld ?_
          refine takeQ 4 41 HT_.out HW_.out hHeld ?_
          refine one_ (i := 5) (N := some 42) #[true, true, true, true, true, true, false, false] rfl rfl (one_of HT_.out (by kernel_rfl)) (by decide) (fun K hK => ?_)
          refine goes_ Try.func49 (by kernel_rfl) rfl #[.agg #[.slice A0_0 l0_0.length c0_0, .int .i64 a0_1, .int .i64 a0_2, .slice A0_3 l0_3.length c0_3, .slice A0_4 l0_4.length c0_4], .slice A351_0 (rd_L2 t348 x9_2).length c351_0] (by rfl) rfl rfl (by (try simp only [List.map_toArray, List.map_cons, List.map_nil]); first | done | rfl | (simp only [List.length_drop, List.length_take]; rfl)) ?_
          with_reducible refine (r7_Truths.calls k2 _ _ l0_0 a0_1 a0_2 _ _ l0_3 _ _ l0_4 _ _ (rd_L2 t348 x9_2) t352 _ ?side1 ?side2 ?side3 ?side4 ?side5 ?side6 ?side7 ?side8 A13.out).mono ?_
          (case side1 => repeat (first | exact (Kd.C_below HR0_0.out HB.out) | (with_reducible refine Kd.C_alloc ?_ _) | (with_reducible refine Kd.C_drewN ?_ _) | (with_reducible refine Kd.C_drew ?_)))
          (case side2 => exact HC0_0.out)
          (case side3 => repeat (first | exact (Kd.C_below HR0_3.out HB.out) | (with_reducible refine Kd.C_alloc ?_ _) | (with_reducible refine Kd.C_drewN ?_ _) | (with_reducible refine Kd.C_drew ?_)))
          (case side4 => exact HC0_3.out)
          (case side5 => repeat (first | exact (Kd.C_below HR0_4.out HB.out) | (with_reducible refine Kd.C_alloc ?_ _) | (with_reducible refine Kd.C_drewN ?_ _) | (with_reducible refine Kd.C_drew ?_)))
          (case side6 => exact HC0_4.out)
          (case side7 => repeat (first | exact (by repeat (first | (with_reducible exact HR351_0.out) | (with_reducible refine Kd.C_alloc ?_ _) | (with_reducible refine Kd.C_drewN ?_ _) | (with_reducible refine Kd.C_drew ?_) | exact HR351_0.out)) | (with_reducible refine Kd.C_alloc ?_ _) | (with_reducible refine Kd.C_drewN ?_ _) | (with_reducible refine Kd.C_drew ?_)))
          (case side8 => exact HC351_0.out)
          rintro e w21 ⟨v353, rfl, ho0, hb⟩
          have HS5_ := (hb.cell (World.block_lt_of_cell? _ _ (hHeld.2.2.2.2.2))).trans (hHeld.2.2.2.2.2)
          refine ⟨_, rfl, ?_⟩
          have n0_ := Aside0.mk (Kd.N_elder' (by (with_reducible repeat (first | apply Kd.N_alloc | apply Kd.N_drewN | apply Kd.N_drew)); exact HO_8.out) (Kd.N_base ho0) hb)
          have n1_ := Aside0.mk (Kd.V_elder' (by (with_reducible repeat (first | apply Kd.V_alloc | apply Kd.V_drewN | apply Kd.V_drew)); exact HL351_0.out) (Kd.N_base ho0) hb)
          have n2_ := Aside0.mk (Kd.N_lower (Kd.N_mono (ok' := fun k_ => (w.heap.size ≤ k_) ∧ some k_ ≠ (.slice (some ad351) t348.length co19 : Value).ownBlock ∧ k_ ≠ gb340) ho0 (fun k_ hk_ => ⟨(Nat.le_trans (below_size (by repeat (first | (with_reducible first | exact HB.out | apply below_alloc | apply pw_below_drewN | apply below_drew1 | refine below_set ?_ GE340.out) | exact HB.out))) hk_), (Kd.fresh' (Kd.N_lt (by (with_reducible repeat (first | apply Kd.N_alloc | apply Kd.N_drewN | apply Kd.N_drew)); exact HO_8.out)) k_ hk_), (Kd.freshB (g := gb340) (o := .cells #[.slice A0_0 l0_0.length c0_0, .int .i64 a0_1, .int .i64 a0_2, .slice A0_3 l0_3.length c0_3, .slice A0_4 l0_4.length c0_4] 28 (0, 0)) (by (with_reducible repeat (first | refine blk_drewN ?_ _ | refine blk_drew ?_ | refine blk_alloc ?_ _)); exact BK340.out) k_ hk_)⟩)) (below_size (by repeat (first | (with_reducible first | exact HB.out | apply below_alloc | apply pw_below_drewN | apply below_drew1 | refine below_set ?_ GE340.out) | exact HB.out))))
          have n3_ := Aside0.mk (blk_below (g := gb340) (o := .cells #[.slice A0_0 l0_0.length c0_0, .int .i64 a0_1, .int .i64 a0_2, .slice A0_3 l0_3.length c0_3, .slice A0_4 l0_4.length c0_4] 28 (0, 0)) (by (with_reducible repeat (first | refine blk_drewN ?_ _ | refine blk_drew ?_ | refine blk_alloc ?_ _)); exact BK340.out) hb)
          have n4_ := Aside0.mk (Kd.C_below (by repeat (first | (with_reducible exact HR351_0.out) | (with_reducible refine Kd.C_alloc ?_ _) | (with_reducible refine Kd.C_drewN ?_ _) | (with_reducible refine Kd.C_drew ?_) | exact HR351_0.out)) hb)
          have n5_ := Aside0.mk (below_step (by repeat (first | (with_reducible first | exact HB.out | apply below_alloc | apply pw_below_drewN | apply below_drew1 | refine below_set ?_ GE340.out) | exact HB.out)) hb)
          clear HO_8
          clear HL351_0
          clear BK340
          clear HR351_0
          clear HB
          have HO_8 := n0_
          have HL351_0 := n1_
          have HO354 := n2_
          have BK340 := n3_
          have HR351_0 := n4_
          have HB := n5_
          clear n0_ n1_ n2_ n3_ n4_ n5_
          (try clear hb)
          (try clear hb2)
          (try clear hk)
          (try clear hi)
          (try clear ho0)
          obtain ⟨Ao22, co22, eo22⟩ := Kd.N_slice HO354.out
          (first | subst eo22 | (injection eo22 with f1_ f2_ f3_; have f4_ := f1_.symm; have f5_ := f3_.symm; clear f1_ f2_ f3_; subst f4_; subst f5_))
          refine hK.out _ _ ⟨(blk_cell BK340.out 0).trans rfl, (blk_cell BK340.out 1).trans rfl, (blk_cell BK340.out 2).trans rfl, (blk_cell BK340.out 3).trans rfl, (blk_cell BK340.out 4).trans rfl, HS5_⟩ (fun hHeld => ?_)
          clear hK K
          refine norm_ (a' := ?_) ?_ ?_
          rotate_left
          ·
           show Act.put _ (some 42) _ = _
           simp only [Act.put, List.setIfInBounds_toArray, List.set_cons_zero, List.set_cons_succ, i64_w, i32_w]
           rfl
          refine pureQ 6 43 HT_.out ?_
          refine pureQ 7 44 HT_.out ?_
          refine done_ (done_of HT_.out (by kernel_rfl)) ?_
          try go_wp2
          go_roundg k2
          case measure => have := HK1.out; have := HK2.out; omega
          case rel => exact ⟨(wrap64 (x9_2 + 1)), (by first | rfl | (simp; done) | (simp [*]; done)), H', ⟨by have := HK1.out; have := HK2.out; omega⟩, ⟨by (with_reducible repeat (first | apply Kd.N_alloc | apply Kd.N_drewN | apply Kd.N_drew)); exact Kd.N_mono HO_8.out (fun _ hk => ⟨hk.1.1, hk.1.2⟩)⟩, ⟨by (with_reducible repeat (first | refine blk_drewN ?_ _ | refine blk_drew ?_ | refine blk_alloc ?_ _)); exact BK340.out⟩, ⟨by repeat (first | (with_reducible first | exact HB.out | apply below_alloc | apply pw_below_drewN | apply below_drew1 | refine below_set ?_ GE340.out) | exact HB.out)⟩⟩
        ·
         rw [if_neg c12] at H
         exact absurd H (by simp)
       ·
        rw [if_neg c11] at H
        have c11b0 : decide (x9_2 < (t348.length : Int)) = false := decide_eq_false c11
        clear c11
        have H' := Aside0.mk H
        clear H
        obtain ⟨Ao23, co23, eo23⟩ := Kd.N_slice HO_8.out
        subst eo23
        go_wp2
        go_roundg k2
        case measure => have := HK1.out; have := HK2.out; omega
        case rel => exact ⟨(wrap64 (x7_1 + 1)), (by first | rfl | (simp; done) | (simp [*]; done)), H', ⟨by have := HK1.out; have := HK2.out; omega⟩, ⟨by (with_reducible repeat (first | refine blk_drewN ?_ _ | refine blk_drew ?_ | refine blk_alloc ?_ _)); exact BK340.out⟩, ⟨by repeat (first | (with_reducible first | exact HB.out | apply below_alloc | apply pw_below_drewN | apply below_drew1 | refine below_set ?_ GE340.out) | exact HB.out)⟩⟩
    ·
     rw [if_neg c7] at H
     have c7b0 : decide (x7_1 < (l0_4.length : Int)) = false := decide_eq_false c7
     clear c7
     replace H := Option.bind_eq_some_iff.mp H
     obtain ⟨t344, A240, H⟩ := H
     replace H : (if 0 < (t344.length : Int) then (some (rd_L2 t344 0, 0)) else (none)) = some (r1, r2) := H
     have A24 := Aside0.mk A240
     clear A240
     by_cases c25 : 0 < (t344.length : Int)
     ·
      rw [if_pos c25] at H
      have c25b0 : decide (0 < (t344.length : Int)) = true := decide_eq_true c25
      have c25b1 : decide (0 < t344.length) = true := decide_eq_true (by omega)
      clear c25
      simp only [Option.some.injEq, Prod.mk.injEq] at H
      obtain ⟨rfl, rfl⟩ := H
      have hcz26_0 : wr.cell? ⟨gb340, 0, none⟩ = some (.slice A0_0 l0_0.length c0_0) := (blk_cell BK340.out 0).trans rfl
      have hcz26_1 : wr.cell? ⟨gb340, 1, none⟩ = some (.int .i64 a0_1) := (blk_cell BK340.out 1).trans rfl
      have hcz26_2 : wr.cell? ⟨gb340, 2, none⟩ = some (.int .i64 a0_2) := (blk_cell BK340.out 2).trans rfl
      have hcz26_3 : wr.cell? ⟨gb340, 3, none⟩ = some (.slice A0_3 l0_3.length c0_3) := (blk_cell BK340.out 3).trans rfl
      have hcz26_4 : wr.cell? ⟨gb340, 4, none⟩ = some (.slice A0_4 l0_4.length c0_4) := (blk_cell BK340.out 4).trans rfl
      have hfz26_0 := blk_frozen BK340.out 0
      have hfz26_1 := blk_frozen BK340.out 1
      have hfz26_2 := blk_frozen BK340.out 2
      have hfz26_3 := blk_frozen BK340.out 3
      have hfz26_4 := blk_frozen BK340.out 4
      go_wp2_with (first | ((with_reducible refine gate_callee (f := 110) rfl ?_); refine goesL_ (some 55) rfl rfl Try.func110 (by kernel_rfl) rfl #[.int .i64 (l0_4.length : Int), .int .i64 (l0_4.length : Int)] rfl (by (try simp only [List.map_toArray, List.map_cons, List.map_nil]); first | done | rfl | (simp only [List.length_drop, List.length_take]; rfl)) ?_; (with_reducible refine (r1_Choices.calls k1 (l0_4.length : Int) (l0_4.length : Int) t344 _ A24.out).mono ?_); rintro e w27 ⟨v345, rfl, ho0, hb⟩; refine ⟨_, rfl, ?_⟩; have n0_ := Aside0.mk (Kd.N_lower (Kd.N_mono (ok' := fun k_ => (w.heap.size ≤ k_) ∧ k_ ≠ gb340) (Kd.S_N (Kd.S_bound ho0)) (fun k_ hk_ => ⟨(Nat.le_trans (below_size (by repeat (first | (with_reducible first | exact HB.out | apply below_alloc | apply pw_below_drewN | apply below_drew1 | refine below_set ?_ GE340.out) | exact HB.out))) hk_.2.1), (Kd.freshB (g := gb340) (o := .cells #[.slice A0_0 l0_0.length c0_0, .int .i64 a0_1, .int .i64 a0_2, .slice A0_3 l0_3.length c0_3, .slice A0_4 l0_4.length c0_4] 28 (0, 0)) (by (with_reducible repeat (first | refine blk_drewN ?_ _ | refine blk_drew ?_ | refine blk_alloc ?_ _)); exact BK340.out) k_ hk_.2.1)⟩)) (below_size (by repeat (first | (with_reducible first | exact HB.out | apply below_alloc | apply pw_below_drewN | apply below_drew1 | refine below_set ?_ GE340.out) | exact HB.out)))); have n1_ := Aside0.mk (blk_below (g := gb340) (o := .cells #[.slice A0_0 l0_0.length c0_0, .int .i64 a0_1, .int .i64 a0_2, .slice A0_3 l0_3.length c0_3, .slice A0_4 l0_4.length c0_4] 28 (0, 0)) (by (with_reducible repeat (first | refine blk_drewN ?_ _ | refine blk_drew ?_ | refine blk_alloc ?_ _)); exact BK340.out) hb); have n2_ := Aside0.mk (below_step (by repeat (first | (with_reducible first | exact HB.out | apply below_alloc | apply pw_below_drewN | apply below_drew1 | refine below_set ?_ GE340.out) | exact HB.out)) hb); clear BK340; clear HB; have HO346 := n0_; have BK340 := n1_; have HB := n2_; clear n0_ n1_ n2_; (try clear hb); (try clear hb2); (try clear hk); (try clear hi); (try clear ho0); obtain ⟨Ao28, co28, eo28⟩ := Kd.N_slice HO346.out; subst eo28; have p347 : 0 ≤ (0 : Int) := (by omega); have q347 : 0 < (t344.length : Int) := of_decide_eq_true (by first | (with_reducible assumption) | assumption); obtain ⟨ad347, A347_0, c347_0, e347, hx347_0, hl347_0, hi347_0⟩ := at_L2 (Kd.N_reads' HO346.out).2.2 0 p347 q347; cases e347; obtain ⟨ce347, hce347, hMe347, hcc347⟩ := Kd.N_get HO346.out [] 0 p347 (by first | exact q347 | exact of_decide_eq_true (by first | (with_reducible assumption) | assumption) | (have e_ := (Kd.N_reads' HO346.out).1; omega)); obtain ⟨ua347_0, uc347_0, rfl, ul347_0, ge347_0⟩ := Kd.FK_slice_open hMe347; have hv347_0 := hcc347 0 _ rfl; rw [Nat.add_zero, show ((Kd.slice 3 (Kd.int .i64))).sz = 1 from rfl, Nat.mul_one] at hv347_0; replace hv347_0 := Option.some.inj (hv347_0.symm.trans hx347_0); injection hv347_0 with hva_ hvn_ hvc_; rw [hva_] at ge347_0; rw [hvc_] at ul347_0; have HL347_0 := Aside0.mk (show Kd.V (Kd.int .i64) 3 _ w.heap.size _ _ (rd_L2 t344 0) from Kd.V_mk ul347_0 ge347_0); clear hva_ hvn_ hvc_ ge347_0 ul347_0; clear hcc347 hce347; have qi347 : (0 < t344.length) = True := eq_true (by omega); (try rw [show ((0 : Int)).toNat = 0 from rfl] at hx347_0); (try rw [Addr.add_zero'] at hx347_0); have HR347_0 := Aside0.mk hi347_0; have HC347_0 := Aside0.mk hl347_0; clear hi347_0 hl347_0; replace p347 := eq_true p347; replace q347 := eq_true q347))
      go_ret2
      exact ⟨_, by first | rfl | (simp [errW_none, errW_some] <;> rfl) | (simp [*, errW_none, errW_some] <;> rfl), by (with_reducible repeat (first | apply Kd.V_alloc | apply Kd.V_drewN | apply Kd.V_drew)); exact Kd.V_mono HL347_0.out (fun _ hk => hk.1.1), by repeat (first | (with_reducible first | exact HB.out | apply below_alloc | apply pw_below_drewN | apply below_drew1 | refine below_set ?_ GE340.out) | exact HB.out)⟩
     ·
      rw [if_neg c25] at H
      exact absurd H (by simp)
 ·
  rw [if_neg c3] at H
  have c3b0 : (t343 == 0) = false := beq_eq_false_iff_ne.mpr c3
  have c3b1 : (t343 != 0) = true := bne_iff_ne.mpr c3
  simp only [Option.some.injEq, Prod.mk.injEq] at H
  obtain ⟨rfl, rfl⟩ := H
  go_enter Try.func36, Try.ntmps36
  go_wp2_with (first | ((with_reducible refine gate_dst (N := 1) rfl ?_); refine box_event ?hg (N := 1) ?hd (cs := #[.slice A0_0 l0_0.length c0_0, .int .i64 a0_1, .int .i64 a0_2, .slice A0_3 l0_3.length c0_3, .slice A0_4 l0_4.length c0_4]) (t := 28) ?hr ?_; (case hd => rfl); (case hg => rfl); (case hr => first | (go_simp; done) | (go_simp; rfl)); intro gb340 hg w29 hbox hb; have n0_ := Aside0.mk (below_step (by repeat (first | (with_reducible first | exact HB.out | apply below_alloc | apply pw_below_drewN | apply below_drew1) | exact HB.out)) hb); have n1_ := Aside0.mk (hbox); have n2_ := Aside0.mk ((by rw [hg]; exact (below_size (by repeat (first | (with_reducible first | exact HB.out | apply below_alloc | apply pw_below_drewN | apply below_drew1) | exact HB.out))) : w.heap.size ≤ gb340)); have n3_ := Aside0.mk ((by rw [hg]; exact (below_size (by repeat (first | (with_reducible first | exact HB.out | apply below_alloc | apply pw_below_drewN | apply below_drew1) | exact HB.out))) : w.heap.size ≤ gb340)); clear HB; have HB := n0_; have BK340 := n1_; have GW340 := n2_; have GE340 := n3_; clear n0_ n1_ n2_ n3_; clear hb hbox hg; have hcz30_0 : w29.cell? ⟨gb340, 0, none⟩ = some (.slice A0_0 l0_0.length c0_0) := (blk_cell BK340.out 0).trans rfl; have hcz30_1 : w29.cell? ⟨gb340, 1, none⟩ = some (.int .i64 a0_1) := (blk_cell BK340.out 1).trans rfl; have hcz30_2 : w29.cell? ⟨gb340, 2, none⟩ = some (.int .i64 a0_2) := (blk_cell BK340.out 2).trans rfl; have hcz30_3 : w29.cell? ⟨gb340, 3, none⟩ = some (.slice A0_3 l0_3.length c0_3) := (blk_cell BK340.out 3).trans rfl; have hcz30_4 : w29.cell? ⟨gb340, 4, none⟩ = some (.slice A0_4 l0_4.length c0_4) := (blk_cell BK340.out 4).trans rfl; have hfz30_0 := blk_frozen BK340.out 0; have hfz30_1 := blk_frozen BK340.out 1; have hfz30_2 := blk_frozen BK340.out 2; have hfz30_3 := blk_frozen BK340.out 3; have hfz30_4 := blk_frozen BK340.out 4) | ((with_reducible refine gate_callee (f := 18) rfl ?_); refine goesL_ (some 12) rfl rfl Try.func18 (by kernel_rfl) rfl #[.agg #[.slice A0_0 l0_0.length c0_0, .int .i64 a0_1, .int .i64 a0_2, .slice A0_3 l0_3.length c0_3, .slice A0_4 l0_4.length c0_4]] rfl (by (try simp only [List.map_toArray, List.map_cons, List.map_nil]); first | done | rfl | (simp only [List.length_drop, List.length_take]; rfl)) ?_; (with_reducible refine (r7_Check.calls k _ _ l0_0 a0_1 a0_2 _ _ l0_3 _ _ l0_4 t341 t342 t343 _ ?side1 ?side2 ?side3 ?side4 ?side5 ?side6 A2.out).mono ?_); (case side1 => repeat (first | exact (Kd.C_below HR0_0.out HB.out) | (with_reducible refine Kd.C_alloc ?_ _) | (with_reducible refine Kd.C_drewN ?_ _) | (with_reducible refine Kd.C_drew ?_))); (case side2 => exact HC0_0.out); (case side3 => repeat (first | exact (Kd.C_below HR0_3.out HB.out) | (with_reducible refine Kd.C_alloc ?_ _) | (with_reducible refine Kd.C_drewN ?_ _) | (with_reducible refine Kd.C_drew ?_))); (case side4 => exact HC0_3.out); (case side5 => repeat (first | exact (Kd.C_below HR0_4.out HB.out) | (with_reducible refine Kd.C_alloc ?_ _) | (with_reducible refine Kd.C_drewN ?_ _) | (with_reducible refine Kd.C_drew ?_))); (case side6 => exact HC0_4.out); rintro e w31 ⟨rfl, hb⟩; refine ⟨_, rfl, ?_⟩; have n0_ := Aside0.mk (blk_below (g := gb340) (o := .cells #[.slice A0_0 l0_0.length c0_0, .int .i64 a0_1, .int .i64 a0_2, .slice A0_3 l0_3.length c0_3, .slice A0_4 l0_4.length c0_4] 28 (0, 0)) (by (with_reducible repeat (first | refine blk_drewN ?_ _ | refine blk_drew ?_ | refine blk_alloc ?_ _)); exact BK340.out) hb); have n1_ := Aside0.mk (below_step (by repeat (first | (with_reducible first | exact HB.out | apply below_alloc | apply pw_below_drewN | apply below_drew1 | refine below_set ?_ GE340.out) | exact HB.out)) hb); clear BK340; clear HB; have BK340 := n0_; have HB := n1_; clear n0_ n1_; (try clear hb); (try clear hb2); (try clear hk); (try clear hi)))
  go_ret2
  exact ⟨_, by first | rfl | (simp [errW_none, errW_some] <;> rfl) | (simp [*, errW_none, errW_some] <;> rfl), Kd.R_V (base := w.heap.size) (show Kd.R (Kd.int .i64) 3 _ w.heap.size _ (.slice none 0 0) [] from Kd.R_nil _ _ _ _ _), by repeat (first | (with_reducible first | exact HB.out | apply below_alloc | apply pw_below_drewN | apply below_drew1 | refine below_set ?_ GE340.out) | exact HB.out)⟩

end Go.Proofs.Ytgoidclnccjdeaa.PR
end
section
/- Package glass: a shelf that came in as_ an argument, opened. -/
namespace Go.Proofs.Ytgoidclnccjdeaa.D
open Go Go.RowKit Go.ChangeShapes Go.WideShapes Go.Deep Go.Proofs.YtgoidclnccjdeaaK Go.Proofs.YtgoidclnccjdeaaW.PrintWords Go.Proofs.YtgoidclnccjdeaaW.PrintLast Go.Proofs.YtgoidclnccjdeaaW.PrintMore Go.Proofs.Ytgoidclnccjdeaa.PR
set_option linter.unusedVariables false
set_option linter.unusedSimpArgs false
set_option linter.unusedSectionVars false

section
variable {H : Type} {enc : TypeId × Value → H} {P : Program} {w : World} {base : Nat} {spare : Nat → Bool} {held : Bool}
theorem open_two {t : TypeId} {F : Array Field} {fuel : Nat} {cs : List Value} {x : DataW H × List MemPlace} (ht : P.underlying t = some (.struct F))
  (h0 : ∃ f, F[0]? = some f ∧ f.offset = 0 ∧ P.underlying f.type = some (.int .i64) ∧ P.cellsOf f.type = 1)
  (h1 : ∃ f, F[1]? = some f ∧ f.offset = 1 ∧ P.underlying f.type = some (.int .i64) ∧ P.cellsOf f.type = 1)
  (hc : P.cellsOf t = 2) (h : DataW.trod enc P w base spare held fuel t cs = some x) :
  ∃ a b, cs = [.int .i64 a, .int .i64 b] ∧ (Lit.int .i64 a).wf = true ∧ (Lit.int .i64 b).wf = true := by
 obtain ⟨xs, n, rfl, hx, hl, hlen, hf⟩ := DataW.trod_struct ht h
 rw [hc] at hl
 match cs, hl with
 | [v0, v1], _ =>
  obtain ⟨g0, e0, o0, u0, c0⟩ := h0
  obtain ⟨g1, e1, o1, u1, c1⟩ := h1
  have k0 := hf 0 g0 e0
  have k1 := hf 1 g1 e1
  have l0 : 0 < F.size := (Array.getElem?_eq_some_iff.1 e0).1
  have l1 : 1 < F.size := (Array.getElem?_eq_some_iff.1 e1).1
  rw [o0, c0, List.getElem?_eq_getElem (by omega)] at k0
  rw [o1, c1, List.getElem?_eq_getElem (by omega)] at k1
  obtain ⟨a, ha, _, wa⟩ := DataW.trod_int u0 k0
  obtain ⟨b, hb, _, wb⟩ := DataW.trod_int u1 k1
  simp only [List.drop_zero, List.take_succ_cons, List.take_zero, List.drop_succ_cons] at ha hb
  cases ha; cases hb
  exact ⟨a, b, rfl, wa, wb⟩
theorem open_ints3 {t : TypeId} {F : Array Field} {fuel : Nat} {cs : List Value} {x : DataW H × List MemPlace} (ht : P.underlying t = some (.struct F))
  (h0 : ∃ f, F[0]? = some f ∧ f.offset = 0 ∧ P.underlying f.type = some (.int .i64) ∧ P.cellsOf f.type = 1)
  (h1 : ∃ f, F[1]? = some f ∧ f.offset = 1 ∧ P.underlying f.type = some (.int .i64) ∧ P.cellsOf f.type = 1)
  (h2 : ∃ f, F[2]? = some f ∧ f.offset = 2 ∧ P.underlying f.type = some (.int .i64) ∧ P.cellsOf f.type = 1)
  (hc : P.cellsOf t = 3) (h : DataW.trod enc P w base spare held fuel t cs = some x) :
  ∃ a b c, cs = [.int .i64 a, .int .i64 b, .int .i64 c] ∧ (Lit.int .i64 a).wf = true ∧ (Lit.int .i64 b).wf = true ∧ (Lit.int .i64 c).wf = true := by
 obtain ⟨xs, n, rfl, hx, hl, hlen, hf⟩ := DataW.trod_struct ht h
 rw [hc] at hl
 match cs, hl with
 | [v0, v1, v2], _ =>
  obtain ⟨g0, e0, o0, u0, c0⟩ := h0
  obtain ⟨g1, e1, o1, u1, c1⟩ := h1
  obtain ⟨g2, e2, o2, u2, c2⟩ := h2
  have k0 := hf 0 g0 e0
  have k1 := hf 1 g1 e1
  have k2 := hf 2 g2 e2
  have l0 : 0 < F.size := (Array.getElem?_eq_some_iff.1 e0).1
  have l1 : 1 < F.size := (Array.getElem?_eq_some_iff.1 e1).1
  have l2 : 2 < F.size := (Array.getElem?_eq_some_iff.1 e2).1
  rw [o0, c0, List.getElem?_eq_getElem (by omega)] at k0
  rw [o1, c1, List.getElem?_eq_getElem (by omega)] at k1
  rw [o2, c2, List.getElem?_eq_getElem (by omega)] at k2
  obtain ⟨a, ha, _, wa⟩ := DataW.trod_int u0 k0
  obtain ⟨b, hb, _, wb⟩ := DataW.trod_int u1 k1
  obtain ⟨c, hc, _, wc⟩ := DataW.trod_int u2 k2
  simp only [List.drop_zero, List.take_succ_cons, List.take_zero, List.drop_succ_cons] at ha hb hc
  cases ha; cases hb; cases hc
  exact ⟨a, b, c, rfl, wa, wb, wc⟩
theorem open_named {t e : TypeId} {F G : Array Field} {fuel : Nat} {cs : List Value} {x : DataW H × List MemPlace} (ht : P.underlying t = some (.struct F)) (he : P.underlying e = some (.struct G))
  (h0 : ∃ f, F[0]? = some f ∧ f.offset = 0 ∧ P.underlying f.type = some .string ∧ P.cellsOf f.type = 1)
  (h1 : ∃ f, F[1]? = some f ∧ f.offset = 1 ∧ f.type = e)
  (i0 : ∃ f, G[0]? = some f ∧ f.offset = 0 ∧ P.underlying f.type = some (.int .i64) ∧ P.cellsOf f.type = 1)
  (i1 : ∃ f, G[1]? = some f ∧ f.offset = 1 ∧ P.underlying f.type = some (.int .i64) ∧ P.cellsOf f.type = 1)
  (hc : P.cellsOf t = 3) (hce : P.cellsOf e = 2) (h : DataW.trod enc P w base spare held fuel t cs = some x) :
  ∃ s a b, cs = [.string s, .int .i64 a, .int .i64 b] ∧ s.size ≤ 9223372036854775807 ∧ (Lit.int .i64 a).wf = true ∧ (Lit.int .i64 b).wf = true := by
 obtain ⟨xs, n, rfl, hx, hl, hlen, hf⟩ := DataW.trod_struct ht h
 rw [hc] at hl
 match cs, hl with
 | [v0, v1, v2], _ =>
  obtain ⟨g0, e0, o0, u0, c0⟩ := h0
  obtain ⟨g1, e1, o1, rfl⟩ := h1
  have k0 := hf 0 g0 e0
  have k1 := hf 1 g1 e1
  have l0 : 0 < F.size := (Array.getElem?_eq_some_iff.1 e0).1
  have l1 : 1 < F.size := (Array.getElem?_eq_some_iff.1 e1).1
  rw [o0, c0, List.getElem?_eq_getElem (by omega)] at k0
  rw [o1, hce, List.getElem?_eq_getElem (by omega)] at k1
  obtain ⟨s, hs, _, ws⟩ := DataW.trod_string u0 k0
  obtain ⟨a, b, hab, wa, wb⟩ := open_two he i0 i1 hce k1
  simp only [List.drop_zero, List.take_succ_cons, List.take_zero, List.drop_succ_cons] at hs hab
  cases hs; cases hab
  exact ⟨s, a, b, rfl, ws, wa, wb⟩
theorem open_rowG {α : Type} (z : α) {m : Nat} {K : World → α → List Value → Prop} {Wf : α → Prop} {t e : TypeId} {fuel : Nat} {cs : List Value} {x : DataW H × List MemPlace}
  (ht : P.underlying t = some (.slice e)) (hc : P.cellsOf e = m) (hopen : ∀ {fuel : Nat} {cs : List Value} {x : DataW H × List MemPlace}, DataW.trod enc P w base spare held fuel e cs = some x → ∃ p, K w p cs ∧ Wf p)
  (h : DataW.trod enc P w base spare held fuel t cs = some x) :
  ∃ (A : Option Addr) (cap : Nat) (l : List α), cs = [.slice A l.length cap] ∧ l.length ≤ cap ∧ ReadsRow (K w) m w A l.length l ∧ ∀ p ∈ l, Wf p := by
 rcases open_slice ht h with ⟨rfl, rfl⟩ | ⟨a, len, cap, mm, n, D, Pl, rfl, hb, hl, hm, hmm, hx, hi⟩
 ·
  exact ⟨none, 0, [], rfl, Nat.le_refl _, ⟨rfl, Nat.zero_le _, fun h => absurd h (Nat.lt_irrefl 0)⟩, fun p hp => by simp at hp⟩
 ·
  have hml : len ≤ mm := by rw [hmm]; split <;> omega
  have hh : ∀ i, ∃ p : α, i < len → (∃ c, c.length = m ∧ K w p c ∧ ∀ j u, c[j]? = some u → w.cell? (a.add (i * m + j)) = some u) ∧ Wf p := by
   intro i
   by_cases hil : i < len
   ·
    obtain ⟨cs', hcc, htt⟩ := hi i (by omega)
    rw [hc] at hcc
    obtain ⟨_, hcl, hat⟩ := World.cells?_some hcc
    obtain ⟨p, hp, hw⟩ := hopen htt
    refine ⟨p, fun _ => ⟨⟨cs', hcl, hp, fun j u hu => ?_⟩, hw⟩⟩
    have hj : j < m := by rw [← hcl]; exact (List.getElem?_eq_some_iff.1 hu).1
    have := hat j hj
    rw [hu] at this
    rw [← this, Go.Deep.add_add]
   ·
    exact ⟨z, fun h => absurd h hil⟩
  let pick : Nat → α := fun i => (hh i).choose
  have hpick : ∀ i, i < len → (∃ c, c.length = m ∧ K w (pick i) c ∧ ∀ j u, c[j]? = some u → w.cell? (a.add (i * m + j)) = some u) ∧ Wf (pick i) := fun i => (hh i).choose_spec
  have hlen : ((List.range len).map pick).length = len := by simp
  refine ⟨some a, cap, (List.range len).map pick, by rw [hlen], by rw [hlen]; exact hl, ⟨rfl, by rw [hlen]; unfold maxLen at hm; omega, fun _ => ⟨a, rfl, fun j p hp => ?_⟩⟩, fun p hp => ?_⟩
  ·
   have hj : j < len := by have := (List.getElem?_eq_some_iff.1 hp).1; simpa using this
   have : p = pick j := by
    have h := (List.getElem?_eq_some_iff.1 hp).2
    rw [← h]; simp
   subst this
   obtain ⟨c, h1, h2, h3⟩ := (hpick j hj).1
   exact ⟨c, h1, h2, h3⟩
  ·
   obtain ⟨i, hi, rfl⟩ := List.mem_map.1 hp
   exact (hpick i (List.mem_range.1 hi)).2
end

def wf (x : Int) : Prop := (Lit.int .i64 x).wf = true
structure Dat.Wf (D : Dat) : Prop where
 lo : wf D.lo
 hi : wf D.hi
 gl : ∀ p ∈ D.gl, p.f0.size ≤ 9223372036854775807 ∧ wf p.f1.f0 ∧ wf p.f1.f1
 sp : ∀ p ∈ D.sp, wf p.f0 ∧ wf p.f1
 dr : ∀ p ∈ D.dr, wf p.f0 ∧ wf p.f1 ∧ wf p.f2

section
variable {H : Type} {enc : TypeId × Value → H} {w : World} {base : Nat} {spare : Nat → Bool} {held : Bool}
set_option maxRecDepth 100000 in
theorem open_shelf {r : Reach} {b0 : Nat} {v : Value} {d : DataW H} {p : List MemPlace} (hv : Value.okWide Try.prog w r b0 28 v) (h : DataW.Trod enc Try.prog w base spare held 28 v d p) :
  ∃ (D : Dat) (A0 : Option Addr) (c0 : Nat) (A3 : Option Addr) (c3 : Nat) (A4 : Option Addr) (c4 : Nat), v = .agg (D.cells A0 c0 A3 c3 A4 c4) ∧ Arg w D A0 c0 A3 c3 A4 c4 ∧ D.Wf := by
 have hC : Try.prog.cellsOf 28 = 5 := by kernel_rfl
 have hS : Try.prog.cellsOf 24 = 2 := by kernel_rfl
 have hI : Try.prog.cellsOf 3 = 1 := by kernel_rfl
 have hN : Try.prog.cellsOf 9 = 1 := by kernel_rfl
 have h0 : Try.prog.cellsOf 22 = 1 := by kernel_rfl
 have h3 : Try.prog.cellsOf 25 = 1 := by kernel_rfl
 have h4 : Try.prog.cellsOf 26 = 1 := by kernel_rfl
 have hs0 : Try.prog.cellsOf 95 = 3 := by kernel_rfl
 have hs4 : Try.prog.cellsOf 72 = 3 := by kernel_rfl
 have e28 := Try.underlying28
 have e24 := Try.underlying24
 have e3 := Try.underlying3
 have e9 := Try.underlying9
 have e22 := Try.underlying22
 have e25 := Try.underlying25
 have e26 := Try.underlying26
 have e95 := Try.underlying95
 have e72 := Try.underlying72
 generalize Try.prog = P at hv h hC hS hI hN h0 h3 h4 hs0 hs4 e28 e24 e3 e9 e22 e25 e26 e95 e72 ⊢
 obtain ⟨cs, rfl, hsz⟩ := okWide_struct e28 hv
 obtain ⟨l⟩ := cs
 rw [hC] at hsz
 match l, hsz with
 | [c0, c1, c2, c3, c4], _ =>
  obtain ⟨fuel, hf⟩ := h
  obtain ⟨xs, n, _, hx, _, hlen, hg⟩ := DataW.trod_struct e28 hf
  have g0 := hg 0 _ rfl
  have g1 := hg 1 _ rfl
  have g2 := hg 2 _ rfl
  have g3 := hg 3 _ rfl
  have hl4 : xs.length = 4 := hlen
  rw [List.getElem?_eq_getElem (by omega)] at g0 g1 g2 g3
  simp only [Value.cells, List.getElem_toArray, List.getElem_cons_zero, List.getElem_cons_succ, hS, h0, h3, h4, List.drop_zero, List.drop_succ_cons, List.take_succ_cons, List.take_zero] at g0 g1 g2 g3
  obtain ⟨lo, hi, hlh, wlo, whi⟩ := open_two e24 ⟨_, rfl, rfl, e3, hI⟩ ⟨_, rfl, rfl, e3, hI⟩ hS g1
  obtain ⟨A0, k0, l0, hA0, hk0, hR0, w0⟩ := open_rowG (K := k95.K) (Wf := fun p : S95 => p.f0.size ≤ 9223372036854775807 ∧ wf p.f1.f0 ∧ wf p.f1.f1) z95 e22 hs0 (fun hh => by
   obtain ⟨s, a, b, rfl, ws, wa, wb⟩ := open_named e95 e24 ⟨_, rfl, rfl, e9, hN⟩ ⟨_, rfl, rfl, rfl⟩ ⟨_, rfl, rfl, e3, hI⟩ ⟨_, rfl, rfl, e3, hI⟩ hs0 hS hh
   exact ⟨⟨s, ⟨a, b⟩⟩, k95_mk w _, ws, wa, wb⟩) g0
  obtain ⟨A3, k3, l3, hA3, hk3, hR3, w3⟩ := open_rowG (K := k24.K) (Wf := fun p : S24 => wf p.f0 ∧ wf p.f1) z24 e25 hS (fun hh => by
   obtain ⟨a, b, rfl, wa, wb⟩ := open_two e24 ⟨_, rfl, rfl, e3, hI⟩ ⟨_, rfl, rfl, e3, hI⟩ hS hh
   exact ⟨⟨a, b⟩, k24_mk w _, wa, wb⟩) g2
  obtain ⟨A4, k4, l4, hA4, hk4, hR4, w4⟩ := open_rowG (K := k72.K) (Wf := fun p : S72 => wf p.f0 ∧ wf p.f1 ∧ wf p.f2) z72 e26 hs4 (fun hh => by
   obtain ⟨a, b, c, rfl, wa, wb, wc⟩ := open_ints3 e72 ⟨_, rfl, rfl, e3, hI⟩ ⟨_, rfl, rfl, e3, hI⟩ ⟨_, rfl, rfl, e3, hI⟩ hs4 hh
   exact ⟨⟨a, b, c⟩, k72_mk w _, wa, wb, wc⟩) g3
  cases hlh; cases hA0; cases hA3; cases hA4
  exact ⟨⟨l0, lo, hi, l3, l4⟩, A0, k0, A3, k3, A4, k4, rfl, ⟨hR0, hk0, fun x hx => (w0 x hx).1, hR3, hk3, hR4, hk4⟩, ⟨wlo, whi, w0, w3, w4⟩⟩
end
end Go.Proofs.Ytgoidclnccjdeaa.D
end
section
/- Package glass: what the reference's Check answers is what the program's does. -/
namespace Go.Proofs.Ytgoidclnccjdeaa.D
open Go Go.RowKit Go.Proofs.YtgoidclnccjdeaaK Go.Proofs.YtgoidclnccjdeaaW.PrintWords Go.Proofs.YtgoidclnccjdeaaW.PrintLast Go.Proofs.YtgoidclnccjdeaaW.PrintMore Go.Proofs.Ytgoidclnccjdeaa.PR
set_option linter.unusedVariables false
set_option linter.unusedSimpArgs false

theorem rIn (a lo hi : Int) : r1_In.f a lo hi = some (decide (lo ≤ a ∧ a ≤ hi)) := by
 unfold r1_In.f; split <;> simp [*]
theorem rletter (b : Int) : r1_letter.f b = some (decide (97 ≤ b ∧ b ≤ 122)) := by
 unfold r1_letter.f; split <;> simp <;> omega
theorem rdigit (b : Int) : r1_digit.f b = some (decide (48 ≤ b ∧ b ≤ 57)) := by
 unfold r1_digit.f; split <;> simp <;> omega
theorem wrapN {n : Nat} (h : n < 9223372036854775807) : wrap64 ((n : Int) + 1) = ((n + 1 : Nat) : Int) := by
 unfold wrap64; omega

theorem rName_l0 (s : ByteArray) (hs : s.size ≤ 9223372036854775807) : ∀ (d i : Nat), i + d = s.size → 1 ≤ i → okTo s i = true → Ev (fun k => r1_Name.l0 k s (i : Int)) (okTo s s.size)
 | 0, i, hd, _, h => by
  obtain rfl : i = s.size := by omega
  rw [h]
  exact Ev.step (f := fun _ => some true) (fun k => by simp only [r1_Name.l0]; rw [if_neg (by omega)]) (Ev.now _)
 | d + 1, i, hd, hi, h => by
  by_cases hb : okByte (i == 0) (bt s (i : Int)) = true
  ·
   have h1 : okTo s (i + 1) = true := by rw [okTo_succ, h, hb]; rfl
   have ih := rName_l0 s hs d (i + 1) (by omega) (by omega) h1
   refine Ev.step (f := fun k => r1_Name.l0 k s ((i + 1 : Nat) : Int)) (fun k => ?_) ih
   have hb' := (okByte_iff i _).1 hb
   simp only [r1_Name.l0, rletter, rdigit, Option.bind_some, decide_eq_true_eq]
   rw [if_pos (by omega), if_pos (by omega), wrapN (by omega)]
   split
   ·
    rfl
   ·
    split
    ·
     rfl
    ·
     rw [if_pos (by omega)]
  ·
   have hf : okByte (i == 0) (bt s (i : Int)) = false := by simpa using hb
   have h1 : okTo s (i + 1) = false := by rw [okTo_succ, hf]; simp
   rw [okTo_le s (by omega) h1]
   refine Ev.step (f := fun _ => some false) (fun k => ?_) (Ev.now _)
   have hb' : ¬ ((97 ≤ bt s (i : Int) ∧ bt s (i : Int) ≤ 122) ∨ (0 < i ∧ (bt s (i : Int) = 46 ∨ (48 ≤ bt s (i : Int) ∧ bt s (i : Int) ≤ 57)))) := fun x => hb ((okByte_iff i _).2 x)
   simp only [r1_Name.l0, rletter, rdigit, Option.bind_some, decide_eq_true_eq]
   rw [if_pos (by omega), if_pos (by omega), if_neg (by omega), if_neg (by omega), if_neg (by omega)]

theorem outB_one (lo hi a : Int) : outB lo hi [a] = true ↔ ¬ (lo ≤ a ∧ a ≤ hi) := by
 unfold outB; simp; omega
theorem outB_two (lo hi a b : Int) : outB lo hi [a, b] = true ↔ ¬ ((lo ≤ a ∧ a ≤ hi) ∧ (lo ≤ b ∧ b ≤ hi)) := by
 unfold outB; simp; omega

theorem rName (s : ByteArray) (hs : s.size ≤ 9223372036854775807) : Ev (fun k => r1_Name.f k s) (nameB s) := by
 unfold r1_Name.f
 simp only [rIn, rletter, Option.bind_some, decide_eq_true_eq]
 by_cases h : 1 ≤ (s.size : Int) ∧ (s.size : Int) ≤ 16
 ·
  have e : nameB s = okTo s s.size := by
   have : outB 1 16 [(s.size : Int)] = false := by rw [Bool.eq_false_iff]; exact fun x => (outB_one _ _ _).1 x h
   unfold nameB; rw [this]; rfl
  rw [e]
  refine Ev.congr (f := fun k => r1_Name.j0 k s (!decide (97 ≤ bt s 0 ∧ bt s 0 ≤ 122))) (fun k => by rw [if_pos h, if_pos (by omega)]) ?_
  by_cases hb : 97 ≤ bt s 0 ∧ bt s 0 ≤ 122
  ·
   have h1 : okTo s 1 = true := by
    have := (okByte_iff 0 (bt s ((0 : Nat) : Int))).2 (.inl hb)
    simp only [okTo, List.range_succ, List.range_zero, List.nil_append, List.all_cons, List.all_nil, Bool.and_true]
    exact this
   refine Ev.step (f := fun k => r1_Name.l0 k s ((1 : Nat) : Int)) (fun k => ?_) (rName_l0 s hs (s.size - 1) 1 (by omega) (by omega) h1)
   simp only [r1_Name.j0, decide_eq_true hb]
   rfl
  ·
   have h1 : okTo s 1 = false := by
    have := okByte_not 0 (bt s ((0 : Nat) : Int)) (fun x => by rcases x with x | x; exact hb x; omega)
    simp only [okTo, List.range_succ, List.range_zero, List.nil_append, List.all_cons, List.all_nil, Bool.and_true]
    exact this
   rw [okTo_le s (by omega) h1]
   refine Ev.step (f := fun _ => some false) (fun k => ?_) (Ev.now _)
   simp only [r1_Name.j0, decide_eq_false hb]
   rfl
 ·
  have e : nameB s = false := by
   have : outB 1 16 [(s.size : Int)] = true := (outB_one _ _ _).2 h
   unfold nameB; rw [this]; rfl
  rw [e]
  refine Ev.step (f := fun _ => some false) (fun k => ?_) (Ev.now _)
  rw [if_neg h]
  simp only [r1_Name.j0, if_true]

theorem rEnds (lo hi a b : Int) : Ev (fun k => r1_Ends.f k lo hi a b) (if outB a b [lo, hi] = true then 7 else if hi < lo then 2 else 0) := by
 unfold r1_Ends.f
 simp only [rIn, Option.bind_some, decide_eq_true_eq]
 refine Ev.step (f := fun _ => some (if outB a b [lo, hi] = true then 7 else if hi < lo then 2 else 0)) (fun k => ?_) (Ev.now _)
 simp only [outB_two, r1_Ends.j0]
 by_cases h1 : a ≤ lo ∧ lo ≤ b <;> by_cases h2 : a ≤ hi ∧ hi ≤ b <;> simp [h1, h2] <;> split <;> simp_all <;> omega

theorem rends (lo hi a b : Int) (ha : 0 ≤ a) (hb : b ≤ 1000) : Ev (fun k => r7_ends.f k lo hi a b) (endsE lo hi a b) := by
 unfold r7_ends.f
 refine Ev.bind (rEnds lo hi a b) ?_
 unfold endsE
 by_cases h1 : outB a b [lo, hi] = true
 ·
  simp only [h1, if_true]; rw [if_neg (by decide)]; exact Ev.now _
 ·
  have h2 : (a ≤ lo ∧ lo ≤ b) ∧ (a ≤ hi ∧ hi ≤ b) := by
   by_cases h : (a ≤ lo ∧ lo ≤ b) ∧ (a ≤ hi ∧ hi ≤ b)
   ·
    exact h
   ·
    exact absurd ((outB_two a b lo hi).2 h) h1
  have e : wrap64 (hi - lo) = hi - lo := by unfold wrap64; omega
  have ho := outB_one 0 2 (hi - lo)
  simp only [h1, if_false, e]
  by_cases h3 : hi < lo
  ·
   have : outB 0 2 [hi - lo] = true := ho.2 (by omega)
   simp only [h3, if_true, this]; rw [if_neg (by decide)]; exact Ev.now _
  ·
   simp only [h3, if_false, if_true]
   by_cases h4 : hi - lo > 2
   ·
    have : outB 0 2 [hi - lo] = true := ho.2 (by omega)
    simp only [h4, if_true, this]; exact Ev.now _
   ·
    have : outB 0 2 [hi - lo] = false := by rw [Bool.eq_false_iff]; exact fun x => ho.1 x ⟨by omega, by omega⟩
    simp only [h4, if_false, this]; exact Ev.now _

theorem rWhere0 (names : List ByteArray) (s : ByteArray) (hn : names.length ≤ 1000) : ∀ (d i : Nat), i + d = names.length → Ev (fun k => r1_Where.l0 k names s (i : Int)) (idxFrom (fun x => x.toList == s.toList) (names.drop i) i)
 | 0, i, hd => by
  rw [List.drop_eq_nil_of_le (by omega)]
  exact Ev.step (f := fun _ => some (-1)) (fun k => by simp only [r1_Where.l0]; rw [if_neg (by omega)]) (Ev.now _)
 | d + 1, i, hd => by
  have hi : i < names.length := by omega
  have e : rdOf ByteArray.empty names (i : Int) = names[i] := by simp [rdOf, hi]
  rw [List.drop_eq_getElem_cons hi]
  by_cases h : names[i].toList = s.toList
  ·
   refine Ev.step (f := fun _ => some (i : Int)) (fun k => ?_) (by simp only [idxFrom, h, beq_self_eq_true, if_true]; exact Ev.now _)
   simp only [r1_Where.l0, e]
   rw [if_pos (by omega), if_pos (by omega), if_pos h]
  ·
   refine Ev.step (f := fun k => r1_Where.l0 k names s ((i + 1 : Nat) : Int)) (fun k => ?_) ?_
   ·
    simp only [r1_Where.l0, e]
    rw [if_pos (by omega), if_pos (by omega), if_neg h, wrapN (by omega)]
   ·
    have hf : (names[i].toList == s.toList) = false := by simpa using h
    simp only [idxFrom, hf, Bool.false_eq_true, if_false]
    exact rWhere0 names s hn d (i + 1) (by omega)
theorem rWhere (names : List ByteArray) (s : ByteArray) (hn : names.length ≤ 1000) : Ev (fun k => r1_Where.f k names s) (idxFrom (fun x => x.toList == s.toList) names 0) := by
 have := rWhere0 names s hn names.length 0 (by omega)
 simpa [r1_Where.f] using this
theorem rFresh (s : ByteArray) (names : List ByteArray) (hs : s.size ≤ 9223372036854775807) (hn : names.length ≤ 1000) :
  Ev (fun k => r1_Fresh.f k s names) (if nameB s = false then 6 else if names.any (fun x => x.toList == s.toList) then 5 else 0) := by
 unfold r1_Fresh.f
 refine Ev.bind (rName s hs) ?_
 cases h : nameB s
 ·
  simp only [Bool.false_eq_true, if_false, if_true]; exact Ev.now _
 ·
  simp only [if_true, Bool.true_eq_false, if_false]
  refine Ev.bind (rWhere names s hn) ?_
  have hp := idxFrom_pos (fun x : ByteArray => x.toList == s.toList) names 0
  rw [← hp]
  by_cases h0 : 0 ≤ idxFrom (fun x : ByteArray => x.toList == s.toList) names 0
  ·
   rw [if_pos h0, decide_eq_true h0, if_pos rfl]; exact Ev.now _
  ·
   rw [if_neg h0, decide_eq_false h0, if_neg (by decide)]; exact Ev.now _

theorem rall0 (m : Nat) (hm : m ≤ 62) : ∀ (d i : Nat), i + d = m → Ev (fun k => r7_all.l0 k (m : Int) (((2 ^ i : Nat) : Int) - 1) (i : Int)) (((2 ^ m : Nat) : Int) - 1)
 | 0, i, hd => by
  obtain rfl : i = m := by omega
  exact Ev.step (f := fun _ => some _) (fun k => by simp only [r7_all.l0]; rw [if_neg (by omega)]) (Ev.now _)
 | d + 1, i, hd => by
  refine Ev.step (f := fun k => r7_all.l0 k (m : Int) (((2 ^ (i + 1) : Nat) : Int) - 1) ((i + 1 : Nat) : Int)) (fun k => ?_) (rall0 m hm d (i + 1) (by omega))
  have h2 : 2 ^ (i + 1) ≤ 2 ^ 62 := Nat.pow_le_pow_right (by decide) (by omega)
  have h3 : 2 ^ (i + 1) = 2 * 2 ^ i := by rw [Nat.pow_succ]; omega
  have h4 : (2 : Nat) ^ 62 = 4611686018427387904 := by decide
  have e1 : wrap64 (2 * (((2 ^ i : Nat) : Int) - 1)) = 2 * (((2 ^ i : Nat) : Int) - 1) := by
   generalize 2 ^ i = x at *; rw [h4] at h2; unfold wrap64; omega
  have e2 : wrap64 (2 * (((2 ^ i : Nat) : Int) - 1) + 1) = ((2 ^ (i + 1) : Nat) : Int) - 1 := by
   rw [h3] at h2 ⊢
   generalize 2 ^ i = x at *; rw [h4] at h2; unfold wrap64; omega
  simp only [r7_all.l0]
  rw [if_pos (by omega), e1, e2, wrapN (by omega)]
theorem rall (m : Nat) (hm : m ≤ 62) : Ev (fun k => r7_all.f k (m : Int)) (((2 ^ m : Nat) : Int) - 1) := rall0 m hm m 0 (by omega)
theorem rdrawing (D : Dat) (d : Dr) (hg : D.gl.length ≤ 9223372036854775807) (hs : D.sp.length ≤ 62) (i : Nat) :
  Ev (fun k => r7_drawing.f k D.gl D.lo D.hi D.sp D.dr d.f0 d.f1 d.f2) (errD D.gl.length D.sp.length i d) := by
 unfold r7_drawing.f errD
 have e : wrap64 ((D.gl.length : Int) - 1) = (D.gl.length : Int) - 1 := by unfold wrap64; omega
 simp only [rIn, e, Option.bind_some, decide_eq_true_eq]
 have o1 := outB_one (-1) ((D.gl.length : Int) - 1) d.f0
 have o2 := outB_one 0 9 d.f1
 have o3 := outB_one 0 (((2 ^ D.sp.length : Nat) : Int) - 1) d.f2
 by_cases h1 : -1 ≤ d.f0 ∧ d.f0 ≤ (D.gl.length : Int) - 1
 ·
  rw [Bool.eq_false_iff.2 (fun x => o1.1 x h1)]
  simp only [h1, and_self, if_true, Bool.false_eq_true, if_false]
  by_cases h2 : 0 ≤ d.f1 ∧ d.f1 ≤ 9
  ·
   rw [Bool.eq_false_iff.2 (fun x => o2.1 x h2)]
   simp only [h2, and_self, if_true, Bool.false_eq_true, if_false]
   refine Ev.bind (rall D.sp.length hs) ?_
   by_cases h3 : 0 ≤ d.f2 ∧ d.f2 ≤ ((2 ^ D.sp.length : Nat) : Int) - 1
   ·
    rw [Bool.eq_false_iff.2 (fun x => o3.1 x h3), if_pos h3]; exact Ev.now _
   ·
    rw [o3.2 h3, if_neg h3]; exact Ev.now _
  ·
   rw [o2.2 h2]; simp only [h2, if_false, if_true]; exact Ev.now _
 ·
  rw [o1.2 h1]; simp only [h1, if_false, if_true]; exact Ev.now _

def drF (D : Dat) (i : Nat) : Int × Int × Int := if (firstE (errD D.gl.length D.sp.length) (D.dr.drop i) i).2 ≠ 0 then (4, firstE (errD D.gl.length D.sp.length) (D.dr.drop i) i) else (0, 0, 0)
def drE (D : Dat) : Int × Int × Int := if (firstL D.dr 0 4 (errD D.gl.length D.sp.length)).2 ≠ 0 then (4, firstL D.dr 0 4 (errD D.gl.length D.sp.length)) else (0, 0, 0)
def spFr (D : Dat) (i : Nat) : Int × Int × Int := if (firstE errP (D.sp.drop i) i).2 ≠ 0 then (3, firstE errP (D.sp.drop i) i) else drE D
def spE (D : Dat) : Int × Int × Int := if (firstL D.sp 0 4 errP).2 ≠ 0 then (3, firstL D.sp 0 4 errP) else drE D
def glE (D : Dat) : Int × Int × Int := if endsE D.lo D.hi 0 3 ≠ 0 then (2, 0, endsE D.lo D.hi 0 3) else spE D
def glF (D : Dat) (i : Nat) : Int × Int × Int := if (firstE (errG D.gl) (D.gl.drop i) i).2 ≠ 0 then (1, firstE (errG D.gl) (D.gl.drop i) i) else glE D
theorem firstE_drop {α : Type} (E : Nat → α → Int) (l : List α) (i : Nat) (h : i < l.length) : firstE E (l.drop i) i = if E i l[i] = 0 then firstE E (l.drop (i + 1)) (i + 1) else (((i : Nat) : Int), E i l[i]) := by
 rw [List.drop_eq_getElem_cons h]; rfl
theorem rCheck_l2 (D : Dat) (hg : D.gl.length ≤ 1000) (hs : D.sp.length ≤ 62) (hd : D.dr.length ≤ 1000) : ∀ (d i : Nat), i + d = D.dr.length →
  Ev (fun k => r7_Check.l2 k (i : Int) D.gl D.lo D.hi D.sp D.dr) (drF D i)
 | 0, i, h => by
  have e : drF D i = (0, 0, 0) := by unfold drF; rw [List.drop_eq_nil_of_le (by omega)]; rfl
  rw [e]
  exact Ev.step (f := fun _ => some (0, 0, 0)) (fun k => by simp only [r7_Check.l2]; rw [if_neg (by omega)]) (Ev.now _)
 | d + 1, i, h => by
  have hi : i < D.dr.length := by omega
  have ih := rCheck_l2 D hg hs hd d (i + 1) (by omega)
  have e : drF D i = if errD D.gl.length D.sp.length i D.dr[i] = 0 then drF D (i + 1) else (4, (i : Int), errD D.gl.length D.sp.length i D.dr[i]) := by
   unfold drF
   rw [firstE_drop _ _ _ hi]
   by_cases e : errD D.gl.length D.sp.length i D.dr[i] = 0
   ·
    simp only [if_pos e]
   ·
    simp only [if_neg e, ne_eq]; rw [if_pos e]
  rw [e]
  refine Ev.step (f := fun k => (r7_drawing.f k D.gl D.lo D.hi D.sp D.dr D.dr[i].f0 D.dr[i].f1 D.dr[i].f2).bind fun t => if t = 0 then r7_Check.l2 k ((i + 1 : Nat) : Int) D.gl D.lo D.hi D.sp D.dr else some (4, (i : Int), t)) (fun k => ?_) ?_
  ·
   simp only [r7_Check.l2, dr_at _ _ hi]
   rw [if_pos (by omega), if_pos (by omega), wrapN (by omega)]
  ·
   refine Ev.bind (rdrawing D D.dr[i] (by omega) hs i) ?_
   by_cases e : errD D.gl.length D.sp.length i D.dr[i] = 0
   ·
    simp only [if_pos e]; exact ih
   ·
    simp only [if_neg e]; exact Ev.now _
theorem rCheck_l1 (D : Dat) (hg : D.gl.length ≤ 1000) (hs : D.sp.length ≤ 62) (hd : D.dr.length ≤ 9223372036854775807) : ∀ (d i : Nat), i + d = D.sp.length →
  Ev (fun k => r7_Check.l1 k (i : Int) D.gl D.lo D.hi D.sp D.dr) (spFr D i)
 | 0, i, h => by
  have e : spFr D i = drE D := by unfold spFr; rw [List.drop_eq_nil_of_le (by omega)]; rfl
  rw [e]
  by_cases h4 : (D.dr.length : Int) > 4
  ·
   have e : drE D = (4, 0, 3) := by
    have : outB 0 4 [(D.dr.length : Int)] = true := (outB_one _ _ _).2 (by omega)
    unfold drE firstL; rw [this]; rfl
   rw [e]
   exact Ev.step (f := fun _ => some (4, 0, 3)) (fun k => by simp only [r7_Check.l1]; rw [if_neg (by omega), if_pos h4]) (Ev.now _)
  ·
   have e : drE D = drF D 0 := by
    have : outB 0 4 [(D.dr.length : Int)] = false := by rw [Bool.eq_false_iff]; exact fun x => (outB_one _ _ _).1 x ⟨by omega, by omega⟩
    unfold drE firstL; rw [this]; rfl
   rw [e]
   exact Ev.step (f := fun k => r7_Check.l2 k ((0 : Nat) : Int) D.gl D.lo D.hi D.sp D.dr) (fun k => by simp only [r7_Check.l1]; rw [if_neg (by omega), if_neg h4]; rfl) (rCheck_l2 D hg hs (by omega) _ 0 (Nat.zero_add _))
 | d + 1, i, h => by
  have hi : i < D.sp.length := by omega
  have ih := rCheck_l1 D hg hs hd d (i + 1) (by omega)
  have e : spFr D i = if errP i D.sp[i] = 0 then spFr D (i + 1) else (3, (i : Int), errP i D.sp[i]) := by
   unfold spFr
   rw [firstE_drop _ _ _ hi]
   by_cases e : errP i D.sp[i] = 0
   ·
    simp only [if_pos e]
   ·
    simp only [if_neg e, ne_eq]; rw [if_pos e]
  rw [e]
  refine Ev.step (f := fun k => (r7_ends.f k D.sp[i].f0 D.sp[i].f1 1 60).bind fun t => if t = 0 then r7_Check.l1 k ((i + 1 : Nat) : Int) D.gl D.lo D.hi D.sp D.dr else some (3, (i : Int), t)) (fun k => ?_) ?_
  ·
   simp only [r7_Check.l1, sp_at _ _ hi]
   rw [if_pos (by omega), if_pos (by omega), wrapN (by omega)]
  ·
   refine Ev.bind (rends _ _ 1 60 (by decide) (by decide)) ?_
   show Ev (fun n => if errP i D.sp[i] = 0 then _ else some (3, (i : Int), errP i D.sp[i])) _
   by_cases e : errP i D.sp[i] = 0
   ·
    simp only [if_pos e]; exact ih
   ·
    simp only [if_neg e]; exact Ev.now _
theorem rCheck_l0 (D : Dat) (hn : ∀ x ∈ D.gl, x.f0.size ≤ 9223372036854775807) (hg : D.gl.length ≤ 1000) (hs : D.sp.length ≤ 9223372036854775807) (hd : D.dr.length ≤ 9223372036854775807) : ∀ (d i : Nat), i + d = D.gl.length →
  Ev (fun k => r7_Check.l0 k ((D.gl.take i).map fun x => x.f0) (i : Int) D.gl D.lo D.hi D.sp D.dr) (glF D i)
 | 0, i, h => by
  have e : glF D i = glE D := by unfold glF; rw [List.drop_eq_nil_of_le (by omega)]; rfl
  rw [e]
  refine Ev.step (f := fun k => (r7_ends.f k D.lo D.hi 0 3).bind fun t => if t = 0 then (if (D.sp.length : Int) > 4 then some (3, 0, 3) else r7_Check.l1 k 0 D.gl D.lo D.hi D.sp D.dr) else some (2, 0, t)) (fun k => by simp only [r7_Check.l0]; rw [if_neg (by omega)]) ?_
  refine Ev.bind (rends _ _ 0 3 (by decide) (by decide)) ?_
  unfold glE
  by_cases e : endsE D.lo D.hi 0 3 = 0
  ·
   simp only [if_pos e, e, ne_eq, not_true_eq_false, if_false]
   by_cases h4 : (D.sp.length : Int) > 4
   ·
    have e : spE D = (3, 0, 3) := by
     have : outB 0 4 [(D.sp.length : Int)] = true := (outB_one _ _ _).2 (by omega)
     unfold spE firstL; rw [this]; rfl
    rw [e]; simp only [if_pos h4]; exact Ev.now _
   ·
    have e : spE D = spFr D 0 := by
     have : outB 0 4 [(D.sp.length : Int)] = false := by rw [Bool.eq_false_iff]; exact fun x => (outB_one _ _ _).1 x ⟨by omega, by omega⟩
     unfold spE firstL; rw [this]; rfl
    rw [e]; simp only [if_neg h4]; exact rCheck_l1 D hg (by omega) hd _ 0 (Nat.zero_add _)
  ·
   simp only [if_neg e, ne_eq, e, not_false_eq_true, if_true]; exact Ev.now _
 | d + 1, i, h => by
  have hi : i < D.gl.length := by omega
  have ih := rCheck_l0 D hn hg hs hd d (i + 1) (by omega)
  have e : glF D i = if errG D.gl i D.gl[i] = 0 then glF D (i + 1) else (1, (i : Int), errG D.gl i D.gl[i]) := by
   unfold glF
   rw [firstE_drop _ _ _ hi]
   by_cases e : errG D.gl i D.gl[i] = 0
   ·
    simp only [if_pos e]
   ·
    simp only [if_neg e, ne_eq]; rw [if_pos e]
  rw [e]
  have hl : ((D.gl.take i).map fun x => x.f0).length = i := by simp; omega
  have hx : (D.gl.take i).map (fun x => x.f0) ++ [D.gl[i].f0] = (D.gl.take (i + 1)).map fun x => x.f0 := by
   rw [List.take_add_one, List.getElem?_eq_getElem hi, List.map_append]; rfl
  refine Ev.step (f := fun k => (r1_Fresh.f k D.gl[i].f0 ((D.gl.take i).map fun x => x.f0)).bind fun t => if t = 0 then ((r7_ends.f k D.gl[i].f1.f0 D.gl[i].f1.f1 1 40).bind fun u => if u = 0 then r7_Check.l0 k ((D.gl.take (i + 1)).map fun x => x.f0) ((i + 1 : Nat) : Int) D.gl D.lo D.hi D.sp D.dr else some (1, (i : Int), u)) else some (1, (i : Int), t)) (fun k => ?_) ?_
  ·
   simp only [r7_Check.l0, gl_at _ _ hi, hx]
   rw [if_pos (by omega), if_pos (by omega), wrapN (by omega)]
   congr 1
   funext t
   rw [if_pos (by rw [hl]; omega)]
  ·
   refine Ev.bind (rFresh _ _ (hn _ (List.getElem_mem hi)) (by rw [hl]; omega)) ?_
   have ha : ((D.gl.take i).map fun x => x.f0).any (fun x => x.toList == D.gl[i].f0.toList) = (D.gl.take i).any (sameName D.gl[i]) := by
    rw [List.any_map]; rfl
   rw [ha]
   unfold errG
   cases hnb : nameB D.gl[i].f0
   ·
    simp only [if_true]; exact Ev.congr (f := fun _ => some (1, (i : Int), 6)) (fun k => rfl) (Ev.now _)
   ·
    simp only [Bool.true_eq_false, if_false]
    cases hsn : (D.gl.take i).any (sameName D.gl[i])
    ·
     simp only [Bool.false_eq_true, if_false, if_true]
     refine Ev.bind (rends _ _ 1 40 (by decide) (by decide)) ?_
     by_cases e : endsE D.gl[i].f1.f0 D.gl[i].f1.f1 1 40 = 0
     ·
      simp only [if_pos e]; exact ih
     ·
      simp only [if_neg e]; exact Ev.now _
    ·
     simp only [if_true]; exact Ev.congr (f := fun _ => some (1, (i : Int), 5)) (fun k => rfl) (Ev.now _)
theorem rCheck (D : Dat) (hn : ∀ x ∈ D.gl, x.f0.size ≤ 9223372036854775807) (hg : D.gl.length ≤ 9223372036854775807) (hs : D.sp.length ≤ 9223372036854775807) (hd : D.dr.length ≤ 9223372036854775807) :
  Ev (fun k => r7_Check.f k D.gl D.lo D.hi D.sp D.dr) (checkF D) := by
 unfold r7_Check.f
 simp only [rIn, Option.bind_some, decide_eq_true_eq]
 have o := outB_one 1 3 (D.gl.length : Int)
 have e0 : checkF D = if (firstL D.gl 1 3 (errG D.gl)).2 ≠ 0 then (1, firstL D.gl 1 3 (errG D.gl)) else glE D := rfl
 rw [e0]
 by_cases h : 1 ≤ (D.gl.length : Int) ∧ (D.gl.length : Int) ≤ 3
 ·
  have e : (if (firstL D.gl 1 3 (errG D.gl)).2 ≠ 0 then (1, firstL D.gl 1 3 (errG D.gl)) else glE D) = glF D 0 := by
   unfold firstL; rw [Bool.eq_false_iff.2 (fun x => o.1 x h)]; rfl
  rw [e]
  simp only [h, and_self, if_true]
  exact rCheck_l0 D hn (by omega) hs hd _ 0 (Nat.zero_add _)
 ·
  have e : (if (firstL D.gl 1 3 (errG D.gl)).2 ≠ 0 then (1, firstL D.gl 1 3 (errG D.gl)) else glE D) = (1, 0, 3) := by
   unfold firstL; rw [o.2 h]; rfl
  rw [e]
  simp only [h, if_false]
  exact Ev.now _
theorem rd_nat (l : List Int) (k : Nat) : rd l (k : Int) = l.getD k 0 := by simp [rd]
theorem rHas0 (but : List Int) (hb : but.length ≤ 1000) (x : Int) (d : Nat) : ∀ (j : Nat), j + d = but.length → Ev (fun f => r1_Has.l0 f but x (j : Int)) ((but.drop j).any fun y => y == x) := by
 induction d with
 | zero =>
  intro j hd
  rw [List.drop_eq_nil_of_le (by omega)]
  refine Ev.step (f := fun _ => some false) (fun f => ?_) (Ev.now _)
  simp only [r1_Has.l0]
  rw [if_neg (by omega)]
 | succ d ih =>
  intro j hd
  have hj : j < but.length := by omega
  have e : rd but (j : Int) = but[j] := by rw [rd_nat, List.getD_eq_getElem?_getD, List.getElem?_eq_getElem hj]; rfl
  rw [List.drop_eq_getElem_cons hj, List.any_cons]
  by_cases h : but[j] = x
  ·
   rw [beq_iff_eq.2 h, Bool.true_or]
   refine Ev.step (f := fun _ => some true) (fun f => ?_) (Ev.now _)
   simp only [r1_Has.l0, e]
   rw [if_pos (by omega), if_pos (by omega), if_pos h]
  ·
   have hf : (but[j] == x) = false := by simpa using h
   rw [hf, Bool.false_or]
   refine Ev.step (f := fun f => r1_Has.l0 f but x ((j + 1 : Nat) : Int)) (fun f => ?_) (ih (j + 1) (by omega))
   simp only [r1_Has.l0, e]
   rw [if_pos (by omega), if_pos (by omega), if_neg h, wrapN (by omega)]
def hasB (but : List Int) (x : Nat) : Bool := but.any fun y => y == (x : Int)
theorem rHas (but : List Int) (hb : but.length ≤ 1000) (x : Nat) : Ev (fun f => r1_Has.f f but (x : Int)) (hasB but x) := rHas0 but hb x but.length 0 (by omega)

end Go.Proofs.Ytgoidclnccjdeaa.D
end
section
/- Package glass, plain: the numbers of all truths without drawings, as_ the program and as_ the reference go through them. -/
namespace Go.Proofs.Ytgoidclnccjdeaa.M
set_option linter.unusedVariables false

def vec (a : List Int) (n : Int) (b : List Int) : List Int := a ++ (List.replicate (3 - a.length) 0 ++ (n :: (b ++ List.replicate (4 - b.length) 0)))
def spans8 (g : List (Int × Int)) (d : Int × Int) (s : List (Int × Int)) : List (Int × Int) := g ++ (List.replicate (3 - g.length) (0, 0) ++ (d :: (s ++ List.replicate (4 - s.length) (0, 0))))
def allL (g : List (Int × Int)) (d : Int × Int) (s : List (Int × Int)) : List (List Int × Int × List Int) :=
 (prodL g).flatMap fun a => (rng d.1 d.2).flatMap fun n => (prodL s).map fun b => (a, n, b)
theorem fm_congr {α β : Type} {f g : α → List β} : ∀ (l : List α), (∀ x ∈ l, f x = g x) → l.flatMap f = l.flatMap g
 | [], _ => rfl
 | x :: r, h => by rw [List.flatMap_cons, List.flatMap_cons, h x (List.mem_cons_self ..), fm_congr r fun y hy => h y (List.mem_cons_of_mem _ hy)]
theorem fm_one {α β : Type} {f : α → List β} {g : α → β} : ∀ (l : List α), (∀ x ∈ l, f x = [g x]) → l.flatMap f = l.map g
 | [], _ => rfl
 | x :: r, h => by rw [List.flatMap_cons, List.map_cons, h x (List.mem_cons_self ..), fm_one r fun y hy => h y (List.mem_cons_of_mem _ hy)]; rfl
theorem prod_vec (g : List (Int × Int)) (d : Int × Int) (s : List (Int × Int)) : prodL (spans8 g d s) = (allL g d s).map fun t => vec t.1 t.2.1 t.2.2 := by
 have hS : prodL (s ++ List.replicate (4 - s.length) (0, 0)) = (prodL s).map fun b => b ++ List.replicate (4 - b.length) 0 := by
  rw [prodL_append, prodL_zeros]
  simp only [List.map_cons, List.map_nil]
  refine fm_one _ fun b hb => ?_
  rw [(mem_prodL s b hb).1]
 have hG : ∀ r, prodL (g ++ (List.replicate (3 - g.length) (0, 0) ++ r)) = (prodL g).flatMap fun a => (prodL r).map fun y => a ++ (List.replicate (3 - a.length) 0 ++ y) := by
  intro r
  rw [prodL_append, prodL_append, prodL_zeros]
  refine fm_congr _ fun a ha => ?_
  rw [(mem_prodL g a ha).1]
  simp
 unfold spans8 allL
 rw [hG]
 simp only [prodL, hS, List.map_flatMap, List.map_map]
 rfl
theorem vec_least {a : List Int} {n : Int} {b : List Int} {i : Nat} (hi : i < a.length) : (vec a n b).getD i 0 = a.getD i 0 := by
 simp [vec, List.getElem?_append_left hi]
theorem vec_dull {a : List Int} {n : Int} {b : List Int} (ha : a.length ≤ 3) : (vec a n b).getD 3 0 = n := by
 unfold vec
 rw [List.getD_eq_getElem?_getD, List.getElem?_append_right ha, List.getElem?_append_right (by simp)]
 simp
theorem vec_size {a : List Int} {n : Int} {b : List Int} {i : Nat} (ha : a.length ≤ 3) (hi : i < b.length) : (vec a n b).getD (4 + i) 0 = b.getD i 0 := by
 unfold vec
 rw [List.getD_eq_getElem?_getD, List.getElem?_append_right (by omega), List.getElem?_append_right (by simp; omega)]
 have e : 4 + i - a.length - (List.replicate (3 - a.length) (0 : Int)).length = i + 1 := by simp; omega
 rw [e, List.getElem?_cons_succ, List.getElem?_append_left hi]
 simp
end Go.Proofs.Ytgoidclnccjdeaa.M
end
section
/- Package glass: the reference's lists of a number of each span, and all truths without drawings. -/
namespace Go.Proofs.Ytgoidclnccjdeaa.D
open Go Go.RowKit Go.Proofs.YtgoidclnccjdeaaK Go.Proofs.YtgoidclnccjdeaaW.PrintWords Go.Proofs.YtgoidclnccjdeaaW.PrintLast Go.Proofs.YtgoidclnccjdeaaW.PrintMore Go.Proofs.Ytgoidclnccjdeaa.PR Go.Proofs.Ytgoidclnccjdeaa.M
set_option linter.unusedVariables false
set_option linter.unusedSimpArgs false

theorem L2_at (l : List (List Int)) (k : Nat) (h : k < l.length) : rd_L2 l (k : Int) = l[k] := by simp [rd_L2, h]
theorem wrapS {x : Int} (h : -1000000 ≤ x ∧ x ≤ 1000000) : wrap64 x = x := by unfold wrap64; omega
def SpOk (S : List Sp) : Prop := ∀ s ∈ S, -1000 ≤ s.f0 ∧ s.f0 ≤ s.f1 ∧ s.f1 ≤ 1000 ∧ s.f1 - s.f0 ≤ 2
abbrev pr (s : Sp) : Int × Int := (s.f0, s.f1)

theorem rE2 (S : List Sp) (out : List (List Int)) (i kk : Nat) (hi : i < S.length) (hk : kk < out.length) (hk' : out.length ≤ 100000) (hS : SpOk S) (hol : (out[kk]).length ≤ 1000) (r : List (List Int)) : ∀ (d : Nat) (n : Int) (next : List (List Int)), -1000 ≤ n → n + d = S[i].f1 + 1 → next.length + d ≤ 1000000 →
  Ev (fun k => r7_each.l1 k S out (i : Int) (next ++ (List.range d).map fun j : Nat => out[kk] ++ [n + (j : Int)]) ((kk + 1 : Nat) : Int)) r → Ev (fun k => r7_each.l2 k S out (i : Int) next (kk : Int) n) r
 | 0, n, next, h0, hn, hl, h => by
  refine Ev.step (f := fun k => r7_each.l1 k S out (i : Int) next ((kk + 1 : Nat) : Int)) (fun k => ?_) (by simpa using h)
  simp only [r7_each.l2, sp_at _ _ hi]
  rw [if_pos (by omega), if_pos (by omega), if_neg (by omega), wrapN (by omega)]
 | d + 1, n, next, h0, hn, hl, h => by
  have hs := hS _ (List.getElem_mem hi)
  refine Ev.step (f := fun k => r7_each.l2 k S out (i : Int) (next ++ [out[kk] ++ [n]]) (kk : Int) (n + 1)) (fun k => ?_) (rE2 S out i kk hi hk hk' hS hol r d (n + 1) (next ++ [out[kk] ++ [n]]) (by omega) (by omega) (by simp only [List.length_append, List.length_cons, List.length_nil]; omega) ?_)
  ·
   simp only [r7_each.l2, sp_at _ _ hi, L2_at _ _ hk, Option.bind_some, List.nil_append, List.length_nil]
   rw [if_pos (by omega), if_pos (by omega), if_pos (by omega), if_pos (by omega), if_pos (by omega), if_pos (by omega), if_pos (by omega), if_pos (by omega)]
   rw [wrapS (by omega)]
  ·
   have e : next ++ [out[kk] ++ [n]] ++ (List.range d).map (fun j : Nat => out[kk] ++ [n + 1 + (j : Int)]) = next ++ (List.range (d + 1)).map fun j : Nat => out[kk] ++ [n + (j : Int)] := by
    rw [List.range_succ_eq_map, List.map_cons, List.map_map, List.append_assoc]
    congr 1
    simp only [List.singleton_append, Int.natCast_zero, Int.add_zero]
    congr 1
    refine List.map_congr_left fun j _ => ?_
    show out[kk] ++ [n + 1 + (j : Int)] = out[kk] ++ [n + ((j + 1 : Nat) : Int)]
    congr 2; omega
   rw [e]; exact h
theorem rE1 (S : List Sp) (out : List (List Int)) (i : Nat) (hi : i < S.length) (hi' : i ≤ 1000) (hk' : out.length ≤ 100000) (hS : SpOk S) (hol : ∀ o ∈ out, o.length ≤ 1000) (r : List (List Int)) : ∀ (d kk : Nat) (next : List (List Int)), kk + d = out.length → next.length + 3 * d ≤ 1000000 →
  Ev (fun k => r7_each.l0 k S (next ++ (out.drop kk).flatMap fun o => (rng S[i].f0 S[i].f1).map fun n => o ++ [n]) ((i + 1 : Nat) : Int)) r → Ev (fun k => r7_each.l1 k S out (i : Int) next (kk : Int)) r
 | 0, kk, next, hd, hl, h => by
  rw [List.drop_eq_nil_of_le (by omega)] at h
  refine Ev.step (f := fun k => r7_each.l0 k S next ((i + 1 : Nat) : Int)) (fun k => ?_) (by simpa using h)
  simp only [r7_each.l1]
  rw [if_neg (by omega), wrapN (by omega)]
 | d + 1, kk, next, hd, hl, h => by
  have hk : kk < out.length := by omega
  have hs := hS _ (List.getElem_mem hi)
  refine Ev.step (f := fun k => r7_each.l2 k S out (i : Int) next (kk : Int) S[i].f0) (fun k => ?_) ?_
  ·
   simp only [r7_each.l1, sp_at _ _ hi]
   rw [if_pos (by omega), if_pos (by omega), if_pos (by omega)]
  ·
   have hdl : (S[i].f1 - S[i].f0 + 1).toNat ≤ 3 := by omega
   refine rE2 S out i kk hi hk hk' hS (hol _ (List.getElem_mem hk)) r (S[i].f1 - S[i].f0 + 1).toNat S[i].f0 next (by omega) (by omega) (by omega) ?_
   refine rE1 S out i hi hi' hk' hS hol r d (kk + 1) _ (by omega) (by simp only [List.length_append, List.length_map, List.length_range]; omega) ?_
   have e : (List.range (S[i].f1 - S[i].f0 + 1).toNat).map (fun j : Nat => out[kk] ++ [S[i].f0 + (j : Int)]) = (rng S[i].f0 S[i].f1).map fun n => out[kk] ++ [n] := by
    unfold rng; rw [List.map_map]; rfl
   rw [e, List.append_assoc]
   rw [List.drop_eq_getElem_cons hk, List.flatMap_cons] at h
   exact h
theorem fm_len3 {β : Type} (out : List β) (s : Sp) (h : s.f1 - s.f0 ≤ 2) (f : β → Int → List Int) : (out.flatMap fun o => (rng s.f0 s.f1).map (f o)).length ≤ 3 * out.length := by
 induction out with
 | nil => simp
 | cons x t ih =>
  have h3 : (rng s.f0 s.f1).length ≤ 3 := by rw [rng_len]; omega
  simp only [List.flatMap_cons, List.length_append, List.length_map, List.length_cons]
  omega
theorem rE0 (S : List Sp) (hS : SpOk S) (hl : S.length ≤ 4) : ∀ (d i : Nat) (out : List (List Int)), i + d = S.length → out.length ≤ 3 ^ i → (∀ o ∈ out, o.length ≤ i) →
  Ev (fun k => r7_each.l0 k S out (i : Int)) (((S.drop i).map pr).foldl (fun out s => out.flatMap fun o => (rng s.1 s.2).map fun n => o ++ [n]) out)
 | 0, i, out, hd, ho, hol => by
  rw [List.drop_eq_nil_of_le (by omega)]
  exact Ev.step (f := fun _ => some out) (fun k => by simp only [r7_each.l0]; rw [if_neg (by omega)]) (Ev.now _)
 | d + 1, i, out, hd, ho, hol => by
  have hi : i < S.length := by omega
  have hs := hS _ (List.getElem_mem hi)
  have h81 : 3 ^ i ≤ 3 ^ 4 := Nat.pow_le_pow_right (by decide) (by omega)
  have h81' : (3 : Nat) ^ 4 = 81 := by decide
  refine Ev.step (f := fun k => r7_each.l1 k S out (i : Int) [] ((0 : Nat) : Int)) (fun k => by simp only [r7_each.l0]; rw [if_pos (by omega)]; rfl) ?_
  refine rE1 S out i hi (by omega) (by omega) hS (fun o ho => Nat.le_trans (hol o ho) (by omega)) _ out.length 0 [] (by omega) (by simp only [List.length_nil]; omega) ?_
  rw [List.drop_zero, List.nil_append, List.drop_eq_getElem_cons hi, List.map_cons, List.foldl_cons]
  have hln := fm_len3 out S[i] (by omega) (fun o n => o ++ [n])
  refine rE0 S hS hl d (i + 1) _ (by omega) (by rw [Nat.pow_succ]; omega) (fun o ho => ?_)
  obtain ⟨x, hx, hy⟩ := List.mem_flatMap.1 ho
  obtain ⟨n, _, rfl⟩ := List.mem_map.1 hy
  have := hol x hx
  simp; omega
theorem rEach (S : List Sp) (hS : SpOk S) (hl : S.length ≤ 4) : Ev (fun k => r7_each.f k S) (prodL (S.map pr)) := by
 rw [← eachL_eq]
 have := rE0 S hS hl S.length 0 [[]] (by omega) (by simp) (by simp)
 simpa [r7_each.f, eachL] using this
end Go.Proofs.Ytgoidclnccjdeaa.D
end
section
/- Package glass: all truths without drawings, as_ the reference has them. -/
namespace Go.Proofs.Ytgoidclnccjdeaa.D
open Go Go.RowKit Go.Proofs.YtgoidclnccjdeaaK Go.Proofs.YtgoidclnccjdeaaW.PrintWords Go.Proofs.YtgoidclnccjdeaaW.PrintLast Go.Proofs.YtgoidclnccjdeaaW.PrintMore Go.Proofs.Ytgoidclnccjdeaa.PR Go.Proofs.Ytgoidclnccjdeaa.M
set_option linter.unusedVariables false
set_option linter.unusedSimpArgs false

abbrev tr0 (t : List Int × Int × List Int) : S56 := ⟨t.1, t.2.1, t.2.2, []⟩
theorem rA3 (D : Dat) (A B : List (List Int)) (i : Nat) (n : Int) (hi : i < A.length) (hA : A.length ≤ 1000) (hB : B.length ≤ 1000) (hn : -1000 ≤ n ∧ n ≤ 1000) (r : List S56) : ∀ (d kk : Nat) (out : List S56), kk + d = B.length → out.length + d ≤ 1000000 →
  Ev (fun k => r7_All.l2 k A B (out ++ (B.drop kk).map fun b => tr0 (A[i], n, b)) (i : Int) (n + 1) D.gl D.lo D.hi D.sp D.dr) r → Ev (fun k => r7_All.l3 k A B out (i : Int) n (kk : Int) D.gl D.lo D.hi D.sp D.dr) r
 | 0, kk, out, hd, hl, h => by
  rw [List.drop_eq_nil_of_le (by omega)] at h
  refine Ev.step (f := fun k => r7_All.l2 k A B out (i : Int) (n + 1) D.gl D.lo D.hi D.sp D.dr) (fun k => ?_) (by simpa using h)
  simp only [r7_All.l3]
  rw [if_neg (by omega), wrapS (by omega)]
 | d + 1, kk, out, hd, hl, h => by
  have hk : kk < B.length := by omega
  refine Ev.step (f := fun k => r7_All.l3 k A B (out ++ [tr0 (A[i], n, B[kk])]) (i : Int) n ((kk + 1 : Nat) : Int) D.gl D.lo D.hi D.sp D.dr) (fun k => ?_) (rA3 D A B i n hi hA hB hn r d (kk + 1) (out ++ [tr0 (A[i], n, B[kk])]) (by omega) (by simp only [List.length_append, List.length_cons, List.length_nil]; omega) ?_)
  ·
   simp only [r7_All.l3, L2_at _ _ hi, L2_at _ _ hk]
   rw [if_pos (by omega), if_pos (by omega), if_pos (by omega), if_pos (by omega), if_pos (by omega), wrapN (by omega)]
  ·
   rw [List.append_assoc]
   rw [List.drop_eq_getElem_cons hk, List.map_cons] at h
   exact h
theorem rA2 (D : Dat) (A B : List (List Int)) (i : Nat) (hi : i < A.length) (hA : A.length ≤ 1000) (hB : B.length ≤ 1000) (hh : D.hi ≤ 999) (r : List S56) : ∀ (d : Nat) (n : Int) (out : List S56), -1000 ≤ n → n + d = D.hi + 1 → out.length + d * B.length ≤ 1000000 →
  Ev (fun k => r7_All.l1 k A B (out ++ (List.range d).flatMap fun j : Nat => B.map fun b => tr0 (A[i], n + (j : Int), b)) ((i + 1 : Nat) : Int) D.gl D.lo D.hi D.sp D.dr) r → Ev (fun k => r7_All.l2 k A B out (i : Int) n D.gl D.lo D.hi D.sp D.dr) r
 | 0, n, out, h0, hn, hl, h => by
  refine Ev.step (f := fun k => r7_All.l1 k A B out ((i + 1 : Nat) : Int) D.gl D.lo D.hi D.sp D.dr) (fun k => ?_) (by simpa using h)
  simp only [r7_All.l2]
  rw [if_neg (by omega), wrapN (by omega)]
 | d + 1, n, out, h0, hn, hl, h => by
  have hmul : (d + 1) * B.length = d * B.length + B.length := by rw [Nat.add_mul]; omega
  refine Ev.step (f := fun k => r7_All.l3 k A B out (i : Int) n ((0 : Nat) : Int) D.gl D.lo D.hi D.sp D.dr) (fun k => by simp only [r7_All.l2]; rw [if_pos (by omega)]; rfl) ?_
  refine rA3 D A B i n hi hA hB (by omega) r B.length 0 out (by omega) (by omega) ?_
  rw [List.drop_zero]
  refine rA2 D A B i hi hA hB hh r d (n + 1) (out ++ B.map fun b => tr0 (A[i], n, b)) (by omega) (by omega) (by simp only [List.length_append, List.length_map]; omega) ?_
  have e : out ++ (B.map fun b => tr0 (A[i], n, b)) ++ ((List.range d).flatMap fun j : Nat => B.map fun b => tr0 (A[i], n + 1 + (j : Int), b)) = out ++ (List.range (d + 1)).flatMap fun j : Nat => B.map fun b => tr0 (A[i], n + (j : Int), b) := by
   rw [List.range_succ_eq_map, List.flatMap_cons, List.flatMap_map, List.append_assoc]
   congr 1
   simp only [Int.natCast_zero, Int.add_zero]
   congr 1
   refine fm_congr _ fun j _ => ?_
   have : n + 1 + (j : Int) = n + ((j + 1 : Nat) : Int) := by omega
   rw [this]
  rw [e]; exact h
theorem fm_le {α β : Type} (l : List α) (f : α → List β) (m : Nat) (h : ∀ x ∈ l, (f x).length ≤ m) : (l.flatMap f).length ≤ l.length * m := by
 induction l with
 | nil => simp
 | cons x t ih =>
  have h1 := h x (List.mem_cons_self ..)
  have h2 := ih (fun y hy => h y (List.mem_cons_of_mem _ hy))
  rw [List.flatMap_cons, List.length_append, List.length_cons, Nat.add_mul]
  omega
theorem rA1 (D : Dat) (A B : List (List Int)) (hA : A.length ≤ 100) (hB : B.length ≤ 100) (hlo : -1000 ≤ D.lo) (hle : D.lo ≤ D.hi + 1) (hh : D.hi ≤ 999) (hd2 : D.hi - D.lo ≤ 2) : ∀ (d i : Nat) (out : List S56), i + d = A.length → out.length + d * 300 ≤ 1000000 →
  Ev (fun k => r7_All.l1 k A B out (i : Int) D.gl D.lo D.hi D.sp D.dr) (out ++ (A.drop i).flatMap fun a => (rng D.lo D.hi).flatMap fun n => B.map fun b => tr0 (a, n, b))
 | 0, i, out, hd, hl => by
  rw [List.drop_eq_nil_of_le (by omega)]
  exact Ev.step (f := fun _ => some out) (fun k => by simp only [r7_All.l1]; rw [if_neg (by omega)]) (by simpa using Ev.now out)
 | d + 1, i, out, hd, hl => by
  have hi : i < A.length := by omega
  refine Ev.step (f := fun k => r7_All.l2 k A B out (i : Int) D.lo D.gl D.lo D.hi D.sp D.dr) (fun k => by simp only [r7_All.l1]; rw [if_pos (by omega)]) ?_
  have h3 : (D.hi - D.lo + 1).toNat ≤ 3 := by omega
  have h300 : (D.hi - D.lo + 1).toNat * B.length ≤ 300 := Nat.le_trans (Nat.mul_le_mul h3 hB) (by decide)
  refine rA2 D A B i hi (by omega) (by omega) hh _ (D.hi - D.lo + 1).toNat D.lo out hlo (by omega) (by omega) ?_
  have e : ((List.range (D.hi - D.lo + 1).toNat).flatMap fun j : Nat => B.map fun b => tr0 (A[i], D.lo + (j : Int), b)) = (rng D.lo D.hi).flatMap fun n => B.map fun b => tr0 (A[i], n, b) := by
   unfold rng; rw [List.flatMap_map]
  have hln : ((rng D.lo D.hi).flatMap fun n => B.map fun b => tr0 (A[i], n, b)).length ≤ 300 := by
   rw [← e]
   exact Nat.le_trans (fm_le _ _ B.length (fun x _ => by simp)) (by rw [List.length_range]; exact h300)
  have ih := rA1 D A B hA hB hlo hle hh hd2 d (i + 1) (out ++ ((rng D.lo D.hi).flatMap fun n => B.map fun b => tr0 (A[i], n, b))) (by omega) (by rw [List.length_append]; omega)
  rw [e]
  rw [List.drop_eq_getElem_cons hi, List.flatMap_cons, ← List.append_assoc]
  exact ih
theorem rA0 (D : Dat) (hg : D.gl.length ≤ 1000) (r : List S56) (h : Ev (fun k => (r7_each.f k (D.gl.map fun g => g.f1)).bind fun a => (r7_each.f k D.sp).bind fun b => r7_All.l1 k a b [] 0 D.gl D.lo D.hi D.sp D.dr) r) : ∀ (d i : Nat), i + d = D.gl.length →
  Ev (fun k => r7_All.l0 k ((D.gl.take i).map fun g => g.f1) (i : Int) D.gl D.lo D.hi D.sp D.dr) r
 | 0, i, hd => by
  rw [List.take_of_length_le (by omega)]
  exact Ev.step (fun k => by simp only [r7_All.l0]; rw [if_neg (by omega)]) h
 | d + 1, i, hd => by
  have hi : i < D.gl.length := by omega
  have hl : ((D.gl.take i).map fun g => g.f1).length = i := by simp; omega
  have hx : (D.gl.take i).map (fun g => g.f1) ++ [D.gl[i].f1] = (D.gl.take (i + 1)).map fun g => g.f1 := by
   rw [List.take_add_one, List.getElem?_eq_getElem hi, List.map_append]; rfl
  refine Ev.step (f := fun k => r7_All.l0 k ((D.gl.take (i + 1)).map fun g => g.f1) ((i + 1 : Nat) : Int) D.gl D.lo D.hi D.sp D.dr) (fun k => ?_) (rA0 D hg r h d (i + 1) (by omega))
  simp only [r7_All.l0, gl_at _ _ hi]
  rw [if_pos (by omega), if_pos (by omega), if_pos (by rw [hl]; omega), wrapN (by omega), ← hx]
theorem spOk_gl {D : Dat} (h : Valid D) : SpOk (D.gl.map fun g => g.f1) := by
 intro s hs
 obtain ⟨g, hg, rfl⟩ := List.mem_map.1 hs
 obtain ⟨k, hk, rfl⟩ := List.mem_iff_getElem.1 hg
 have := h.gl k hk
 rw [gl_at _ _ hk] at this
 omega
theorem spOk_sp {D : Dat} (h : Valid D) : SpOk D.sp := by
 intro s hs
 obtain ⟨k, hk, rfl⟩ := List.mem_iff_getElem.1 hs
 have := h.sp k hk
 rw [sp_at _ _ hk] at this
 omega
abbrev glS (D : Dat) : List (Int × Int) := D.gl.map fun g => (g.f1.f0, g.f1.f1)
abbrev spS (D : Dat) : List (Int × Int) := D.sp.map pr
theorem prodL_le3 (S : List (Int × Int)) (h : ∀ s ∈ S, s.2 - s.1 ≤ 2) : (prodL S).length ≤ 3 ^ S.length := prodL_len S h
theorem rAll {D : Dat} (h : Valid D) : Ev (fun k => r7_All.f k D.gl D.lo D.hi D.sp D.dr) ((allL (glS D) (D.lo, D.hi) (spS D)).map tr0) := by
 have hg := spOk_gl h
 have hs := spOk_sp h
 have hg3 := h.g3
 have hs4 := h.s4
 have hlo := h.lo
 have hle := h.le
 have hhi := h.hi
 have hdu := h.du
 have e0 : (D.gl.map fun g => g.f1).map pr = glS D := by unfold glS; rw [List.map_map]; rfl
 have hA : (prodL (glS D)).length ≤ 100 := by
  refine Nat.le_trans (prodL_le3 _ (fun s hs' => ?_)) (Nat.le_trans (Nat.pow_le_pow_right (n := 3) (i := (glS D).length) (j := 3) (by decide) (by simpa [glS] using hg3)) (by decide))
  rw [← e0] at hs'
  obtain ⟨t, ht, rfl⟩ := List.mem_map.1 hs'
  have := hg t ht
  exact this.2.2.2
 have hB : (prodL (spS D)).length ≤ 100 := by
  refine Nat.le_trans (prodL_le3 _ (fun s hs' => ?_)) (Nat.le_trans (Nat.pow_le_pow_right (n := 3) (i := (spS D).length) (j := 4) (by decide) (by simpa [spS] using hs4)) (by decide))
  obtain ⟨t, ht, rfl⟩ := List.mem_map.1 hs'
  have := hs t ht
  exact this.2.2.2
 refine rA0 D (by omega) _ ?_ D.gl.length 0 (by omega)
 have h1 := rEach (D.gl.map fun g => g.f1) hg (by simpa using Nat.le_trans hg3 (by decide))
 rw [e0] at h1
 refine Ev.bind (f := fun k a => (r7_each.f k D.sp).bind fun b => r7_All.l1 k a b [] 0 D.gl D.lo D.hi D.sp D.dr) h1 ?_
 refine Ev.bind (f := fun k b => r7_All.l1 k (prodL (glS D)) b [] 0 D.gl D.lo D.hi D.sp D.dr) (rEach D.sp hs hs4) ?_
 have h2 := rA1 D (prodL (glS D)) (prodL (spS D)) hA hB (by omega) (by omega) (by omega) hdu (prodL (glS D)).length 0 [] (by omega) (by simp only [List.length_nil]; omega)
 have e : (allL (glS D) (D.lo, D.hi) (spS D)).map tr0 = [] ++ ((prodL (glS D)).drop 0).flatMap fun a => (rng D.lo D.hi).flatMap fun n => (prodL (spS D)).map fun b => tr0 (a, n, b) := by
  unfold allL
  simp only [List.nil_append, List.drop_zero, List.map_flatMap, List.map_map]
  rfl
 rw [e]
 exact h2
end Go.Proofs.Ytgoidclnccjdeaa.D
end
section
/- Package glass: what is seen, and the glasses of a drawing, as_ the reference has them; its truths. -/
namespace Go.Proofs.Ytgoidclnccjdeaa.D
open Go Go.RowKit Go.Proofs.YtgoidclnccjdeaaK Go.Proofs.YtgoidclnccjdeaaW.PrintWords Go.Proofs.YtgoidclnccjdeaaW.PrintLast Go.Proofs.YtgoidclnccjdeaaW.PrintMore Go.Proofs.Ytgoidclnccjdeaa.PR Go.Proofs.Ytgoidclnccjdeaa.M
set_option linter.unusedVariables false
set_option linter.unusedSimpArgs false

abbrev Tr := List Int × Int × List Int
abbrev V8 (t : Tr) : List Int := vec t.1 t.2.1 t.2.2
abbrev allD (D : Dat) : List Tr := allL (glS D) (D.lo, D.hi) (spS D)
theorem spans8_eq {D : Dat} (h : Valid D) : spansL D = spans8 (glS D) (D.lo, D.hi) (spS D) := by
 have hg1 := h.g1
 have hg3 := h.g3
 have hs4 := h.s4
 have hl : (glS D).length = D.gl.length := by simp [glS]
 have hl2 : (spS D).length = D.sp.length := by simp [spS]
 have hgi : ∀ i, i < D.gl.length → (glS D)[i]? = some ((rd_T95 D.gl i).f1.f0, (rd_T95 D.gl i).f1.f1) := fun i hi => by
  simp only [glS, List.getElem?_map, List.getElem?_eq_getElem hi, Option.map_some, gl_at _ _ hi]
 have hsi : ∀ i, i < D.sp.length → (spS D)[i]? = some ((rd_T24 D.sp i).f0, (rd_T24 D.sp i).f1) := fun i hi => by
  simp only [spS, List.getElem?_map, List.getElem?_eq_getElem hi, Option.map_some, sp_at _ _ hi]
 refine List.ext_getElem? (fun i => ?_)
 unfold spans8
 rw [List.getElem?_append, List.getElem?_append, List.getElem?_cons, List.getElem?_append]
 simp only [List.length_replicate, hl, hl2]
 by_cases h8 : i < 8
 ·
  rw [List.getElem?_eq_getElem (by rw [spansL_len]; exact h8), spansL_get]
  unfold spanF
  by_cases c1 : i < D.gl.length
  ·
   rw [if_pos c1, if_pos c1, hgi i c1]
  ·
   rw [if_neg c1, if_neg c1]
   by_cases c2 : i - D.gl.length < 3 - D.gl.length
   ·
    have c5 : ¬ (4 ≤ i ∧ i < 4 + D.sp.length) := fun x => by omega
    rw [if_pos c2, if_neg (show ¬ i = 3 by omega), if_neg c5, List.getElem?_replicate, if_pos c2]
   ·
    rw [if_neg c2]
    by_cases c3 : i = 3
    ·
     rw [if_pos c3, if_pos (show i - D.gl.length - (3 - D.gl.length) = 0 by omega)]
    ·
     rw [if_neg c3, if_neg (show ¬ (i - D.gl.length - (3 - D.gl.length) = 0) by omega)]
     have e : i - D.gl.length - (3 - D.gl.length) - 1 = i - 4 := by omega
     rw [e]
     by_cases c4 : i - 4 < D.sp.length
     ·
      have c5 : 4 ≤ i ∧ i < 4 + D.sp.length := ⟨by omega, by omega⟩
      rw [if_pos c5, if_pos c4, hsi _ c4]
     ·
      have c5 : ¬ (4 ≤ i ∧ i < 4 + D.sp.length) := fun x => c4 (by omega)
      rw [if_neg c5, if_neg c4, List.getElem?_replicate, if_pos (show i - 4 - D.sp.length < 4 - D.sp.length by omega)]
 ·
  rw [List.getElem?_eq_none (by rw [spansL_len]; omega), if_neg (by omega), if_neg (by omega), if_neg (by omega), if_neg (by omega), List.getElem?_replicate, if_neg (by omega)]
theorem truthsL_eq {D : Dat} (h : Valid D) (but : Nat) : truthsL D but = ((allD D).filter fun t => soB D but (fn (V8 t))).map V8 := by
 unfold truthsL
 rw [spans8_eq h, prod_vec, List.filter_map]
 rfl
theorem mem_all {D : Dat} (h : Valid D) {t : Tr} (ht : t ∈ allD D) : t.1.length = D.gl.length ∧ t.2.2.length = D.sp.length ∧ (∀ i, 0 ≤ fn (V8 t) i ∧ fn (V8 t) i ≤ 60) ∧ t.1 ∈ prodL (glS D) ∧ t.2.1 ∈ rng D.lo D.hi ∧ t.2.2 ∈ prodL (spS D) := by
 have h8 : V8 t ∈ prodL (spansL D) := by rw [spans8_eq h, prod_vec]; exact List.mem_map.2 ⟨t, ht, rfl⟩
 obtain ⟨a, ha, h2⟩ := List.mem_flatMap.1 ht
 obtain ⟨n, hn, h3⟩ := List.mem_flatMap.1 h2
 obtain ⟨b, hb, rfl⟩ := List.mem_map.1 h3
 exact ⟨by simpa [glS] using (mem_prodL _ _ ha).1, by simpa [spS] using (mem_prodL _ _ hb).1, (mem_spans h h8).2, ha, hn, hb⟩

section
variable {D : Dat} (h : Valid D) {t : Tr} (ht : t ∈ allD D)
include h ht
theorem V_least {g : Nat} (hg : g < D.gl.length) : rd t.1 (g : Int) = fn (V8 t) g := by
 obtain ⟨h1, h2, _⟩ := mem_all h ht
 rw [rd_nat]; exact (vec_least (by omega)).symm
theorem V_dull : t.2.1 = fn (V8 t) 3 := by
 obtain ⟨h1, h2, _⟩ := mem_all h ht
 have := h.g3
 exact (vec_dull (by omega)).symm
theorem V_size {i : Nat} (hi : i < D.sp.length) : rd t.2.2 (i : Int) = fn (V8 t) (4 + i) := by
 obtain ⟨h1, h2, _⟩ := mem_all h ht
 have := h.g3
 rw [rd_nat]; exact (vec_size (by omega) (by omega)).symm
theorem rSeen (F : List (List Int)) {i g : Nat} {y : Int} (hi : i < D.sp.length) (hg : g < D.gl.length) (hy : 0 ≤ y ∧ y ≤ 9) : r7_Seen.f t.1 t.2.1 t.2.2 F (i : Int) (g : Int) y = some (seenB (fn (V8 t)) g y i) := by
 obtain ⟨h1, h2, hr, _⟩ := mem_all h ht
 unfold r7_Seen.f
 rw [if_pos (by omega), if_pos (by omega), if_pos (by omega), if_pos (by omega), V_size h ht hi, V_least h ht hg, V_dull h ht]
 have m := mul_in (hr 3).1 (hr 3).2 hy.1 hy.2
 have hg60 := hr g
 have e1 : wrap64 (fn (V8 t) 3 * y) = fn (V8 t) 3 * y := wrapS (by omega)
 rw [e1, wrapS (by omega)]
 rfl
end
theorem seenTo_testBit (n : Nat → Int) (g : Nat) (y : Int) : ∀ (k i : Nat), (seenTo n g y k).testBit i = (decide (i < k) && seenB n g y i)
 | 0, i => by simp [seenTo]
 | k + 1, i => by
  have ih := seenTo_testBit n g y k i
  unfold seenTo
  by_cases hs : seenB n g y k = true
  ·
   rw [if_pos hs, Nat.testBit_or, ih, Nat.testBit_two_pow]
   by_cases e : i = k
   ·
    subst e; simp [hs]
   ·
    have h2 : decide (k = i) = false := by simp; omega
    rw [h2, Bool.or_false]
    congr 1
    rw [decide_eq_decide]; omega
  ·
   rw [if_neg hs, ih]
   by_cases e : i = k
   ·
    subst e; simp [hs]
   ·
    congr 1
    rw [decide_eq_decide]; omega
theorem half_bit (x i : Nat) : x / 2 ^ i = 2 * (x / 2 ^ (i + 1)) + if x.testBit i = true then 1 else 0 := by
 have h1 : x / 2 ^ (i + 1) = x / 2 ^ i / 2 := by rw [Nat.pow_succ, Nat.div_div_eq_div_mul]
 rw [h1, Nat.testBit_eq_decide_div_mod_eq]
 by_cases h : x / 2 ^ i % 2 = 1
 ·
  simp only [h, decide_true, if_true]; omega
 ·
  simp only [h, decide_false, Bool.false_eq_true, if_false]; omega
theorem rBits {D : Dat} (h : Valid D) {t : Tr} (ht : t ∈ allD D) (F : List (List Int)) {g : Nat} {y : Int} (hg : g < D.gl.length) (hy : 0 ≤ y ∧ y ≤ 9) : Ev (fun k => r7_Bits.f k t.1 t.2.1 t.2.2 F (g : Int) y) (seenTo (fn (V8 t)) g y D.sp.length : Int) := by
 obtain ⟨h1, h2, hr, _⟩ := mem_all h ht
 have hs4 := h.s4
 obtain ⟨X, hX⟩ : ∃ X, seenTo (fn (V8 t)) g y D.sp.length = X := ⟨_, rfl⟩
 have hXb : ∀ i, i < D.sp.length → X.testBit i = seenB (fn (V8 t)) g y i := fun i hi => by rw [← hX, seenTo_testBit]; simp [hi]
 have hlt : X < 2 ^ D.sp.length := by rw [← hX]; exact seenTo_lt _ _ _ _
 have h16 : 2 ^ D.sp.length ≤ 2 ^ 4 := Nat.pow_le_pow_right (by decide) hs4
 have h16' : (2 : Nat) ^ 4 = 16 := by decide
 have key : ∀ (i : Nat), i ≤ D.sp.length → Ev (fun k => r7_Bits.l0 k (g : Int) y ((X / 2 ^ i : Nat) : Int) ((i : Int) - 1) t.1 t.2.1 t.2.2 F) (X : Int) := by
  intro i
  induction i with
  | zero =>
   intro _
   refine Ev.step (f := fun _ => some (X : Int)) (fun k => ?_) (Ev.now _)
   simp only [r7_Bits.l0]
   rw [if_neg (by omega)]
   simp
  | succ i ih =>
   intro hi
   have hx : X / 2 ^ i ≤ 16 := Nat.le_trans (Nat.div_le_self _ _) (by omega)
   have hx' : X / 2 ^ (i + 1) ≤ 16 := Nat.le_trans (Nat.div_le_self _ _) (by omega)
   have hb := half_bit X i
   rw [hXb i (by omega)] at hb
   have hrs := rSeen h ht F (show i < D.sp.length by omega) hg hy
   refine Ev.step (f := fun k => r7_Bits.l0 k (g : Int) y ((X / 2 ^ i : Nat) : Int) ((i : Int) - 1) t.1 t.2.1 t.2.2 F) (fun k => ?_) (ih (by omega))
   have e : ((i + 1 : Nat) : Int) - 1 = (i : Int) := by omega
   simp only [r7_Bits.l0, e, hrs, Option.bind_some]
   rw [if_pos (by omega), wrapS (x := 2 * ((X / 2 ^ (i + 1) : Nat) : Int)) (by omega), wrapS (x := 2 * ((X / 2 ^ (i + 1) : Nat) : Int) + 1) (by omega), wrapS (x := (i : Int) - 1) (by omega)]
   generalize X / 2 ^ i = u at *
   generalize X / 2 ^ (i + 1) = v at *
   cases hsb : seenB (fn (V8 t)) g y i
   ·
    rw [hsb] at hb
    simp only [Bool.false_eq_true, if_false] at hb ⊢
    rw [hb]; congr 1
   ·
    rw [hsb] at hb
    simp only [if_true] at hb ⊢
    rw [hb]; congr 1
 have hk := key D.sp.length (Nat.le_refl _)
 rw [Nat.div_eq_of_lt hlt] at hk
 rw [hX]
 unfold r7_Bits.f
 rw [h2, wrapS (by omega)]
 exact hk
end Go.Proofs.Ytgoidclnccjdeaa.D
end
section
/- Package glass: the reference's truths are the program's. -/
namespace Go.Proofs.Ytgoidclnccjdeaa.D
open Go Go.RowKit Go.Proofs.YtgoidclnccjdeaaK Go.Proofs.YtgoidclnccjdeaaW.PrintWords Go.Proofs.YtgoidclnccjdeaaW.PrintLast Go.Proofs.YtgoidclnccjdeaaW.PrintMore Go.Proofs.Ytgoidclnccjdeaa.PR Go.Proofs.Ytgoidclnccjdeaa.M
set_option linter.unusedVariables false
set_option linter.unusedSimpArgs false

def usedL (D : Dat) (t : Tr) (d : Dr) : List Nat := (List.range D.gl.length).filter (thrB D (fn (V8 t)) d)
def DrIn (D : Dat) (d : Dr) : Prop := 0 ≤ d.f1 ∧ d.f1 ≤ 9
theorem usedL_any (D : Dat) (t : Tr) (d : Dr) : decide (0 < (ints (usedL D t d)).length) = soD D (fn (V8 t)) d D.gl.length := by
 unfold usedL soD ints
 rw [List.length_map, Bool.eq_iff_iff, decide_eq_true_eq, List.length_filter_pos_iff, List.any_eq_true]
theorem rUsed {D : Dat} (h : Valid D) {t : Tr} (ht : t ∈ allD D) (F : List (List Int)) (d : Dr) (hd : DrIn D d) :
  Ev (fun k => r7_used.f k D.gl D.lo D.hi D.sp D.dr t.1 t.2.1 t.2.2 F d.f0 d.f1 d.f2) (ints (usedL D t d)) := by
 have hg3 := h.g3
 have key : ∀ (m g : Nat), g + m = D.gl.length → Ev (fun k => r7_used.l0 k (ints ((List.range g).filter (thrB D (fn (V8 t)) d))) (g : Int) D.gl D.lo D.hi D.sp D.dr t.1 t.2.1 t.2.2 F d.f0 d.f1 d.f2) (ints (usedL D t d)) := by
  intro m
  induction m with
  | zero =>
   intro g hg
   obtain rfl : g = D.gl.length := by omega
   exact Ev.step (f := fun _ => some (ints (usedL D t d))) (fun k => by simp only [r7_used.l0]; rw [if_neg (by omega)]; rfl) (Ev.now _)
  | succ m ih =>
   intro g hg
   have hlt : g < D.gl.length := by omega
   have ih' := ih (g + 1) (by omega)
   have hll : (ints ((List.range g).filter (thrB D (fn (V8 t)) d))).length ≤ 3 := by
    unfold ints; rw [List.length_map]
    exact Nat.le_trans (List.length_filter_le _ _) (by simp; omega)
   have hnx : (List.range (g + 1)).filter (thrB D (fn (V8 t)) d) = (List.range g).filter (thrB D (fn (V8 t)) d) ++ if thrB D (fn (V8 t)) d g = true then [g] else [] := by
    rw [List.range_succ, List.filter_append]
    congr 1
    cases hpb : thrB D (fn (V8 t)) d g <;> simp [hpb]
   have hB := rBits h ht F hlt hd
   have hth : thrB D (fn (V8 t)) d g = ((d.f0 == -1 || d.f0 == (g : Int)) && ((seenTo (fn (V8 t)) g d.f1 D.sp.length : Nat) : Int) == d.f2) := rfl
   obtain ⟨acc, hacc⟩ : ∃ acc, (List.range g).filter (thrB D (fn (V8 t)) d) = acc := ⟨_, rfl⟩
   rw [hacc] at hnx hll ⊢
   rw [hnx] at ih'
   obtain ⟨st, hst⟩ : ∃ st, seenTo (fn (V8 t)) g d.f1 D.sp.length = st := ⟨_, rfl⟩
   rw [hst] at hB hth
   have hins : ∀ l : List Nat, ints (l ++ [g]) = ints l ++ [(g : Int)] := fun l => by simp [ints]
   have hcore : Ev (fun k => (r7_Bits.f k t.1 t.2.1 t.2.2 F (g : Int) d.f1).bind fun b => if b = d.f2 then r7_used.l0 k (ints acc ++ [(g : Int)]) ((g + 1 : Nat) : Int) D.gl D.lo D.hi D.sp D.dr t.1 t.2.1 t.2.2 F d.f0 d.f1 d.f2 else r7_used.l0 k (ints acc) ((g + 1 : Nat) : Int) D.gl D.lo D.hi D.sp D.dr t.1 t.2.1 t.2.2 F d.f0 d.f1 d.f2) (ints (usedL D t d)) ∨ (d.f0 ≠ -1 ∧ d.f0 ≠ (g : Int)) := by
    by_cases h1 : d.f0 = -1 ∨ d.f0 = (g : Int)
    ·
     left
     have ho : (d.f0 == -1 || d.f0 == (g : Int)) = true := by rcases h1 with h1 | h1 <;> simp [h1]
     rw [ho, Bool.true_and] at hth
     refine Ev.bind hB ?_
     by_cases h2 : (st : Int) = d.f2
     ·
      have : thrB D (fn (V8 t)) d g = true := by rw [hth]; simp [h2]
      rw [this, if_pos rfl, hins] at ih'
      simp only [if_pos h2]; exact ih'
     ·
      have : thrB D (fn (V8 t)) d g = false := by rw [hth]; simp [h2]
      rw [this] at ih'
      simp only [if_neg h2]; simpa using ih'
    ·
     right; exact ⟨fun x => h1 (.inl x), fun x => h1 (.inr x)⟩
   rcases hcore with hcore | ⟨n1, n2⟩
   ·
    by_cases h1 : d.f0 = -1 ∨ d.f0 = (g : Int)
    ·
     refine Ev.step (fun k => ?_) hcore
     simp only [r7_used.l0]
     rw [if_pos (by omega)]
     have hk : ints acc = ints acc := rfl
     by_cases e1 : d.f0 = -1
     ·
      rw [if_pos e1]
      congr 1
      funext b
      rw [if_pos (show (ints acc).length < 17592186044416 by omega), wrapN (by omega)]
     ·
      rw [if_neg e1, if_pos (h1.resolve_left e1)]
      congr 1
      funext b
      rw [if_pos (show (ints acc).length < 17592186044416 by omega), wrapN (by omega)]
    ·
     have n1 : d.f0 ≠ -1 := fun x => h1 (.inl x)
     have n2 : d.f0 ≠ (g : Int) := fun x => h1 (.inr x)
     have : thrB D (fn (V8 t)) d g = false := by rw [hth]; simp [n1, n2]
     rw [this] at ih'
     refine Ev.step (f := fun k => r7_used.l0 k (ints acc) ((g + 1 : Nat) : Int) D.gl D.lo D.hi D.sp D.dr t.1 t.2.1 t.2.2 F d.f0 d.f1 d.f2) (fun k => ?_) (by simpa using ih')
     simp only [r7_used.l0]
     rw [if_pos (by omega), if_neg n1, if_neg n2, wrapN (by omega)]
   ·
    have : thrB D (fn (V8 t)) d g = false := by rw [hth]; simp [n1, n2]
    rw [this] at ih'
    refine Ev.step (f := fun k => r7_used.l0 k (ints acc) ((g + 1 : Nat) : Int) D.gl D.lo D.hi D.sp D.dr t.1 t.2.1 t.2.2 F d.f0 d.f1 d.f2) (fun k => ?_) (by simpa using ih')
    simp only [r7_used.l0]
    rw [if_pos (by omega), if_neg n1, if_neg n2, wrapN (by omega)]
 exact key D.gl.length 0 (by omega)

def ownL (D : Dat) (but : List Int) (t : Tr) (i : Nat) : List Int := if hasB but i = true then [] else ints (usedL D t (rd_T72 D.dr i))
def okI (D : Dat) (but : List Int) (t : Tr) (i : Nat) : Bool := hasB but i || soD D (fn (V8 t)) (rd_T72 D.dr i) D.gl.length
theorem rOne {D : Dat} (h : Valid D) {t : Tr} (ht : t ∈ allD D) (but : List Int) (hb : but.length ≤ 1000) (acc F : List (List Int)) (i : Nat) (hi : i < D.dr.length) :
  Ev (fun k => r7_Truths.one k D.gl D.lo D.hi D.sp D.dr but ⟨t.1, t.2.1, t.2.2, F⟩ acc i) (ownL D but t i, okI D but t i) := by
 unfold r7_Truths.one ownL okI
 refine Ev.bind (rHas but hb i) ?_
 cases hh : hasB but i
 ·
  simp only [Bool.false_eq_true, if_false, Bool.false_or]
  have hd := h.dr i hi
  have hu := rUsed h ht acc (rd_T72 D.dr (i : Int)) ⟨hd.2.2.1, hd.2.2.2.1⟩
  refine Ev.bind (f := fun _ o => some (o, decide (0 < o.length))) hu ?_
  simp only [usedL_any]
  exact Ev.now _
 ·
  simp only [if_true, Bool.true_or]
  exact Ev.now _
theorem rRow {D : Dat} (h : Valid D) {t : Tr} (ht : t ∈ allD D) (but : List Int) (hb : but.length ≤ 1000) (F : List (List Int)) : ∀ (n i : Nat) (acc : List (List Int)), i + n = D.dr.length → acc.length + n ≤ 1000 →
  ∃ p : Bool × List (List Int), Ev (fun k => r7_Truths.row k D.gl D.lo D.hi D.sp D.dr but ⟨t.1, t.2.1, t.2.2, F⟩ n i acc) p ∧ p.1 = ((List.range' i n).all fun j => okI D but t j) ∧ (p.1 = true → p.2 = acc ++ (List.range' i n).map (ownL D but t))
 | 0, i, acc, hi, hl => ⟨(true, acc), Ev.now _, by simp, fun _ => by simp⟩
 | n + 1, i, acc, hi, hl => by
  obtain ⟨p, hp, hp1, hp2⟩ := rRow h ht but hb F n (i + 1) (acc ++ [ownL D but t i]) (by omega) (by simp; omega)
  have h1 := rOne h ht but hb acc F i (by omega)
  cases ho : okI D but t i
  ·
   rw [ho] at h1
   refine ⟨(false, acc ++ [ownL D but t i]), ?_, ?_, fun x => by cases x⟩
   ·
    refine Ev.congr (fun k => by simp only [r7_Truths.row]; rw [if_pos (by omega)]) (Ev.bind (f := fun k q => if q.2 = true then r7_Truths.row k D.gl D.lo D.hi D.sp D.dr but ⟨t.1, t.2.1, t.2.2, F⟩ n (i + 1) (acc ++ [q.1]) else some (false, acc ++ [q.1])) h1 ?_)
    simp only [Bool.false_eq_true, if_false]
    exact Ev.now _
   ·
    rw [List.range'_succ, List.all_cons, ho]; rfl
  ·
   rw [ho] at h1
   refine ⟨p, ?_, ?_, fun x => ?_⟩
   ·
    refine Ev.congr (fun k => by simp only [r7_Truths.row]; rw [if_pos (by omega)]) (Ev.bind (f := fun k q => if q.2 = true then r7_Truths.row k D.gl D.lo D.hi D.sp D.dr but ⟨t.1, t.2.1, t.2.2, F⟩ n (i + 1) (acc ++ [q.1]) else some (false, acc ++ [q.1])) h1 ?_)
    simp only [if_true]
    exact hp
   ·
    rw [hp1, List.range'_succ, List.all_cons, ho]; rfl
   ·
    rw [hp2 x, List.range'_succ, List.map_cons, List.append_assoc]; rfl
def trU (D : Dat) (but : List Int) (t : Tr) : S56 := ⟨t.1, t.2.1, t.2.2, (List.range D.dr.length).map (ownL D but t)⟩
def okT (D : Dat) (but : List Int) (t : Tr) : Bool := (List.range D.dr.length).all fun j => okI D but t j
def truthsR (D : Dat) (but : List Int) : List S56 := ((allD D).filter (okT D but)).map (trU D but)
theorem rGo {D : Dat} (h : Valid D) (but : List Int) (hb : but.length ≤ 1000) : ∀ (l : List Tr) (out : List S56), (∀ t ∈ l, t ∈ allD D) → out.length + l.length ≤ 100000 →
  Ev (fun k => r7_Truths.go k D.gl D.lo D.hi D.sp D.dr but (l.map tr0) out) (out ++ (l.filter (okT D but)).map (trU D but))
 | [], out, hl, hn => by simpa [r7_Truths.go] using Ev.now out
 | t :: l, out, hl, hn => by
  have ht := hl t (List.mem_cons_self ..)
  have hd4 := h.d4
  obtain ⟨p, hp, hp1, hp2⟩ := rRow h ht but hb [] D.dr.length 0 [] (by omega) (by simp; omega)
  have hr : List.range' 0 D.dr.length = List.range D.dr.length := List.range_eq_range'.symm
  rw [hr] at hp1 hp2
  simp only [List.length_cons] at hn
  refine Ev.congr (fun k => by simp only [List.map_cons, r7_Truths.go]; rw [if_pos (by omega)]) (Ev.bind (f := fun k q => if q.1 = true then r7_Truths.go k D.gl D.lo D.hi D.sp D.dr but (l.map tr0) (out ++ [⟨t.1, t.2.1, t.2.2, q.2⟩]) else r7_Truths.go k D.gl D.lo D.hi D.sp D.dr but (l.map tr0) out) hp ?_)
  have hok : p.1 = okT D but t := hp1
  cases ho : okT D but t
  ·
   rw [ho] at hok
   rw [List.filter_cons_of_neg (by rw [ho]; simp)]
   simp only [hok, Bool.false_eq_true, if_false]
   exact rGo h but hb l out (fun x hx => hl x (List.mem_cons_of_mem _ hx)) (by omega)
  ·
   rw [ho] at hok
   rw [List.filter_cons_of_pos ho, List.map_cons]
   have e := hp2 hok
   simp only [hok, if_true, e, List.nil_append]
   have := rGo h but hb l (out ++ [trU D but t]) (fun x hx => hl x (List.mem_cons_of_mem _ hx)) (by simp; omega)
   rw [List.append_assoc] at this
   exact this
theorem allD_len {D : Dat} (h : Valid D) : (allD D).length ≤ 6561 := by
 have h1 := prodL_len (spansL D) (fun s hs => by
  obtain ⟨k, _, rfl⟩ := List.mem_map.1 hs
  exact spanF_wide h k)
 rw [spans8_eq h, prod_vec, List.length_map, ← spans8_eq h, spansL_len] at h1
 exact Nat.le_trans h1 (by decide)
theorem rTruths {D : Dat} (h : Valid D) (but : List Int) (hb : but.length ≤ 1000) : Ev (fun k => r7_Truths.f k D.gl D.lo D.hi D.sp D.dr but) (truthsR D but) := by
 unfold r7_Truths.f
 refine Ev.bind (rAll h) ?_
 have := rGo h but hb (allD D) [] (fun t ht => ht) (by have := allD_len h; simp; omega)
 simpa [truthsR] using this
def setIs (D : Dat) (but : List Int) (set : Nat) : Prop := ∀ i, i < D.dr.length → hasB but i = set.testBit i
theorem okT_so {D : Dat} {but : List Int} {set : Nat} (hs : setIs D but set) (t : Tr) : okT D but t = soB D set (fn (V8 t)) := by
 unfold okT soB soTo okI
 rw [Bool.eq_iff_iff, List.all_eq_true, List.all_eq_true]
 constructor
 ·
  intro hh i hi; have := hh i hi; rw [hs i (List.mem_range.1 hi)] at this; exact this
 ·
  intro hh i hi; have := hh i hi; rw [hs i (List.mem_range.1 hi)]; exact this
theorem truths_same {D : Dat} (h : Valid D) {but : List Int} {set : Nat} (hs : setIs D but set) : truthsL D set = ((allD D).filter (okT D but)).map V8 := by
 rw [truthsL_eq h]
 congr 1
 refine List.filter_congr fun t _ => (okT_so hs t).symm
end Go.Proofs.Ytgoidclnccjdeaa.D
end
section
/- Package glass: the reference's known and index. -/
namespace Go.Proofs.Ytgoidclnccjdeaa.D
open Go Go.RowKit Go.Proofs.YtgoidclnccjdeaaK Go.Proofs.YtgoidclnccjdeaaW.PrintWords Go.Proofs.YtgoidclnccjdeaaW.PrintLast Go.Proofs.YtgoidclnccjdeaaW.PrintMore Go.Proofs.Ytgoidclnccjdeaa.PR Go.Proofs.Ytgoidclnccjdeaa.M
set_option linter.unusedVariables false
set_option linter.unusedSimpArgs false

structure Fits (D : Dat) : Prop where
 nm : ∀ x ∈ D.gl, x.f0.size ≤ 9223372036854775807
 g : D.gl.length ≤ 9223372036854775807
 s : D.sp.length ≤ 9223372036854775807
 d : D.dr.length ≤ 9223372036854775807
theorem Arg.fits {w : World} {D : Dat} {A0 : Option Addr} {c0 : Nat} {A3 : Option Addr} {c3 : Nat} {A4 : Option Addr} {c4 : Nat} (h : Arg w D A0 c0 A3 c3 A4 c4) : Fits D := ⟨h.gn, h.g.2.1, h.s.2.1, h.d.2.1⟩
theorem rCheck' {D : Dat} (h : Fits D) : Ev (fun k => r7_Check.f k D.gl D.lo D.hi D.sp D.dr) (checkF D) := rCheck D h.nm h.g h.s h.d
end Go.Proofs.Ytgoidclnccjdeaa.D
end
section
/- Package glass: the reference's Used. -/
namespace Go.Proofs.Ytgoidclnccjdeaa.D
open Go Go.RowKit Go.Proofs.YtgoidclnccjdeaaK Go.Proofs.YtgoidclnccjdeaaW.PrintWords Go.Proofs.YtgoidclnccjdeaaW.PrintLast Go.Proofs.YtgoidclnccjdeaaW.PrintMore Go.Proofs.Ytgoidclnccjdeaa.PR Go.Proofs.Ytgoidclnccjdeaa.M
set_option linter.unusedVariables false
set_option linter.unusedSimpArgs false

theorem hasB_ints (l : List Nat) (g : Nat) : hasB (ints l) g = l.contains g := by
 unfold hasB ints
 rw [List.any_map, Bool.eq_iff_iff]
 simp only [List.any_eq_true, Function.comp, beq_iff_eq, List.contains_iff_mem]
 constructor
 ·
  rintro ⟨x, hx, e⟩
  have : x = g := Int.ofNat.inj e
  exact this ▸ hx
 ·
  intro hg; exact ⟨g, hg, rfl⟩
theorem own_nil (D : Dat) (t : Tr) (i : Nat) : ownL D [] t i = ints (usedL D t (rd_T72 D.dr i)) := by
 unfold ownL; rw [if_neg (by simp [hasB])]
section
variable {D : Dat} (h : Valid D) {d : Nat} (hd : d < D.dr.length)
include h hd
end
end Go.Proofs.Ytgoidclnccjdeaa.D
end
section
/- Package independent: the fewest of some things: the sets in order, what a search over all sets names. -/
namespace Go.Proofs.YtgoidclnccjdeaaK
open Go
set_option linter.unusedVariables false
set_option linter.unusedSimpArgs false

def cmpZ : List Int → List Int → Int
 | [], [] => 0
 | [], _ :: _ => -1
 | _ :: _, [] => 1
 | a :: l, b :: m => if (if a < b then (-1 : Int) else if b < a then 1 else 0) = 0 then cmpZ l m else (if a < b then -1 else if b < a then 1 else 0)
abbrev natZ (l : List Nat) : List Int := l.map Int.ofNat
def bitsL (set n : Nat) : List Nat := (List.range n).filter fun i => set.testBit i
theorem mem_bitsL {set n x : Nat} : x ∈ bitsL set n ↔ x < n ∧ set.testBit x = true := by simp [bitsL]
theorem bitsL_len (s k : Nat) : (bitsL s k).length ≤ k := by
 unfold bitsL; exact Nat.le_trans (List.length_filter_le _ _) (by simp)
def ordN : Nat → Nat → List Nat
 | 0, 0 => [0]
 | 1, 0 => [0] | 1, 1 => [1]
 | 2, 0 => [0] | 2, 1 => [1, 2] | 2, 2 => [3]
 | 3, 0 => [0] | 3, 1 => [1, 2, 4] | 3, 2 => [3, 5, 6] | 3, 3 => [7]
 | 4, 0 => [0] | 4, 1 => [1, 2, 4, 8] | 4, 2 => [3, 5, 9, 6, 10, 12] | 4, 3 => [7, 11, 13, 14] | 4, 4 => [15]
 | _, _ => []
def flatN (m : Nat) : List Nat := (List.range (m + 1)).flatMap (ordN m)
def kc (m a b : Nat) : Bool := decide ((bitsL a m).length < (bitsL b m).length) || ((bitsL b m).length == (bitsL a m).length && decide (0 < cmpZ (natZ (bitsL b m)) (natZ (bitsL a m))))
def pairB (m : Nat) : List Nat → Bool
 | [] => true
 | a :: l => (l.all fun b => kc m a b && !kc m b a) && pairB m l
theorem pairB_spec {m : Nat} : ∀ {pre post : List Nat} {s : Nat}, pairB m (pre ++ s :: post) = true → ∀ b ∈ post, kc m s b = true ∧ kc m b s = false
 | [], post, s, h => by
  simp only [List.nil_append, pairB, Bool.and_eq_true, List.all_eq_true] at h
  intro b hb
  have := h.1 b hb
  simpa using this
 | a :: pre, post, s, h => by
  simp only [List.cons_append, pairB, Bool.and_eq_true] at h
  exact pairB_spec h.2
theorem pair_ok : ∀ m, m ≤ 4 → pairB m (flatN m) = true
 | 0, _ => by kernel_rfl
 | 1, _ => by kernel_rfl
 | 2, _ => by kernel_rfl
 | 3, _ => by kernel_rfl
 | 4, _ => by kernel_rfl
 | m + 5, h => by omega
theorem flat_all : ∀ m, m ≤ 4 → ∀ s, s < 2 ^ m → s ∈ flatN m
 | 0, _ => by decide
 | 1, _ => by decide
 | 2, _ => by decide
 | 3, _ => by decide
 | 4, _ => by decide
 | m + 5, h => by omega
theorem flat_lt : ∀ m, m ≤ 4 → ∀ s ∈ flatN m, s < 2 ^ m
 | 0, _ => by decide
 | 1, _ => by decide
 | 2, _ => by decide
 | 3, _ => by decide
 | 4, _ => by decide
 | m + 5, h => by omega


def wStep (m : Nat) (P : Nat → Bool) (set : Nat) (s : Option (List Nat)) : Option (List Nat) :=
 if (match s with | some b => decide (b.length < (bitsL set m).length) || ((bitsL set m).length == b.length && decide (0 < cmpZ (natZ (bitsL set m)) (natZ b))) | none => false) = true then s
 else if P set = true then some (bitsL set m) else s
def wTo (m : Nat) (P : Nat → Bool) (k : Nat) : Option (List Nat) := (List.range k).foldl (fun s set => wStep m P set s) none
theorem wTo_succ (m : Nat) (P : Nat → Bool) (k : Nat) : wTo m P (k + 1) = wStep m P k (wTo m P k) := by simp [wTo, List.range_succ]
theorem wStep_some (m : Nat) (P : Nat → Bool) (set b : Nat) : wStep m P set (some (bitsL b m)) = if kc m b set = true then some (bitsL b m) else if P set = true then some (bitsL set m) else some (bitsL b m) := rfl
theorem wStep_none (m : Nat) (P : Nat → Bool) (set : Nat) : wStep m P set none = if P set = true then some (bitsL set m) else none := by unfold wStep; simp
theorem w_first {m : Nat} {P : Nat → Bool} (s n : Nat) (hs : P s = true) (hb : ∀ b, b < n → b ≠ s → P b = true → kc m s b = true ∧ kc m b s = false) : ∀ k, k ≤ n →
  (wTo m P k = none ∨ ∃ b, b < k ∧ P b = true ∧ wTo m P k = some (bitsL b m)) ∧ (s < k → wTo m P k = some (bitsL s m))
 | 0, _ => ⟨.inl rfl, fun h => absurd h (by omega)⟩
 | k + 1, hk => by
  obtain ⟨h1, h2⟩ := w_first (m := m) (P := P) s n hs hb k (by omega)
  rw [wTo_succ]
  rcases Nat.lt_trichotomy s k with hlt | heq | hgt
  ·
   rw [h2 hlt, wStep_some]
   have e : (if kc m s k = true then some (bitsL s m) else if P k = true then some (bitsL k m) else some (bitsL s m)) = some (bitsL s m) := by
    by_cases hP : P k = true
    ·
     rw [if_pos (hb k (by omega) (by omega) hP).1]
    ·
     rw [if_neg hP]; split <;> rfl
   rw [e]
   exact ⟨.inr ⟨s, by omega, hs, rfl⟩, fun _ => rfl⟩
  ·
   subst heq
   have e : wStep m P s (wTo m P s) = some (bitsL s m) := by
    rcases h1 with h | ⟨b, hb1, hb2, h⟩
    ·
     rw [h, wStep_none, if_pos hs]
    ·
     rw [h, wStep_some, (hb b (by omega) (by omega) hb2).2, if_neg (by decide), if_pos hs]
   rw [e]
   exact ⟨.inr ⟨s, by omega, hs, rfl⟩, fun _ => rfl⟩
  ·
   refine ⟨?_, fun h => absurd h (by omega)⟩
   rcases h1 with h | ⟨b, hb1, hb2, h⟩
   ·
    rw [h, wStep_none]
    by_cases hP : P k = true
    ·
     rw [if_pos hP]; exact .inr ⟨k, by omega, hP, rfl⟩
    ·
     rw [if_neg hP]; exact .inl rfl
   ·
    rw [h, wStep_some]
    by_cases hk' : kc m b k = true
    ·
     rw [if_pos hk']; exact .inr ⟨b, by omega, hb2, rfl⟩
    ·
     rw [if_neg hk']
     by_cases hP : P k = true
     ·
      rw [if_pos hP]; exact .inr ⟨k, by omega, hP, rfl⟩
     ·
      rw [if_neg hP]; exact .inr ⟨b, by omega, hb2, rfl⟩
theorem w_eq {m : Nat} {P : Nat → Bool} (h4 : m ≤ 4) {front back : List Nat} {s : Nat} (hf : flatN m = front ++ s :: back) (hn : ∀ b ∈ front, P b = false) (hs : P s = true) : wTo m P (2 ^ m) = some (bitsL s m) := by
 have hp := pair_ok _ h4
 rw [hf] at hp
 have hsl := flat_lt _ h4 s (by rw [hf]; simp)
 refine (w_first s (2 ^ m) hs (fun b hb hne hP => ?_) _ (Nat.le_refl _)).2 hsl
 have hm := flat_all _ h4 b hb
 rw [hf] at hm
 rcases List.mem_append.1 hm with h | h
 ·
  have := hn b h; rw [this] at hP; simp at hP
 ·
  rcases List.mem_cons.1 h with h | h
  ·
   exact absurd h hne
  ·
   exact pairB_spec hp b h
theorem flat_split {m k i s : Nat} (hk : k ≤ m) (hs : (ordN m k)[i]? = some s) : ∃ back, flatN m = ((List.range k).flatMap (ordN m) ++ (ordN m k).take i) ++ s :: back := by
 obtain ⟨hi, he⟩ := List.getElem?_eq_some_iff.1 hs
 have h1 : List.range (m + 1) = List.range k ++ k :: (List.range (m + 1)).drop (k + 1) := by
  have h2 := List.take_append_drop k (List.range (m + 1))
  rw [List.take_range, Nat.min_eq_left (by omega), List.drop_eq_getElem_cons (by simp; omega), List.getElem_range] at h2
  exact h2.symm
 have h3 : ordN m k = (ordN m k).take i ++ s :: (ordN m k).drop (i + 1) := by
  have h2 := List.take_append_drop i (ordN m k)
  rw [List.drop_eq_getElem_cons hi, he] at h2
  exact h2.symm
 refine ⟨(ordN m k).drop (i + 1) ++ ((List.range (m + 1)).drop (k + 1)).flatMap (ordN m), ?_⟩
 unfold flatN
 generalize (List.range (m + 1)).drop (k + 1) = rest at h1 ⊢
 rw [h1, List.flatMap_append, List.flatMap_cons]
 conv => lhs; rw [h3]
 simp
theorem ord_full : ∀ m, m ≤ 4 → ordN m m = [2 ^ m - 1]
 | 0, _ => rfl
 | 1, _ => rfl
 | 2, _ => rfl
 | 3, _ => rfl
 | 4, _ => rfl
 | m + 5, h => by omega
theorem w_at {m : Nat} {P : Nat → Bool} (h4 : m ≤ 4) {k i s : Nat} (hk : k ≤ m) (hs : (ordN m k)[i]? = some s) (h1 : ∀ b ∈ (List.range k).flatMap (ordN m), P b = false) (h2 : ∀ b ∈ (ordN m k).take i, P b = false) (hP : P s = true) :
  wTo m P (2 ^ m) = some (bitsL s m) := by
 obtain ⟨back, hb⟩ := flat_split hk hs
 exact w_eq h4 hb (fun b hb => (List.mem_append.1 hb).elim (h1 b) (h2 b)) hP
theorem flat_first {m : Nat} {P : Nat → Bool} (h : ∃ x ∈ flatN m, P x = true) : ∃ front s back, flatN m = front ++ s :: back ∧ (∀ b ∈ front, P b = false) ∧ P s = true := by
 generalize flatN m = l at h
 induction l with
 | nil => obtain ⟨x, hx, _⟩ := h; simp at hx
 | cons a l ih =>
  by_cases ha : P a = true
  ·
   exact ⟨[], a, l, rfl, fun b hb => by simp at hb, ha⟩
  ·
   obtain ⟨x, hx, hP⟩ := h
   rcases List.mem_cons.1 hx with rfl | hx
   ·
    exact absurd hP ha
   ·
    obtain ⟨front, s, back, e, hn, hs⟩ := ih ⟨x, hx, hP⟩
    refine ⟨a :: front, s, back, by rw [e]; rfl, fun b hb => ?_, hs⟩
    rcases List.mem_cons.1 hb with rfl | hb
    ·
     simpa using ha
    ·
     exact hn b hb
theorem w_found {m : Nat} {P : Nat → Bool} (h4 : m ≤ 4) (hfull : P (2 ^ m - 1) = true) : ∃ s, s < 2 ^ m ∧ wTo m P (2 ^ m) = some (bitsL s m) ∧ P s = true := by
 obtain ⟨front, s, back, hf, hn, hs⟩ := flat_first (m := m) (P := P) ⟨_, flat_all _ h4 _ (by have := Nat.two_pow_pos m; omega), hfull⟩
 exact ⟨s, flat_lt _ h4 s (by rw [hf]; simp), w_eq h4 hf hn hs, hs⟩
end Go.Proofs.YtgoidclnccjdeaaK
end
section
/- Package glass: the reference's two, Part and Wrong. -/
namespace Go.Proofs.Ytgoidclnccjdeaa.D
open Go Go.RowKit Go.Proofs.YtgoidclnccjdeaaK Go.Proofs.YtgoidclnccjdeaaW.PrintWords Go.Proofs.YtgoidclnccjdeaaW.PrintLast Go.Proofs.YtgoidclnccjdeaaW.PrintMore Go.Proofs.Ytgoidclnccjdeaa.PR Go.Proofs.Ytgoidclnccjdeaa.M
set_option linter.unusedVariables false
set_option linter.unusedSimpArgs false

section
variable {D : Dat} (h : Valid D) {a b : Nat} (ha : a < D.sp.length) (hb : b < D.sp.length) {y : Int} (hy : 0 ≤ y ∧ y ≤ 9) (hne : truthsL D 0 ≠ [])
include h ha hb hy hne
end
theorem cmpL_eq : ∀ a b : List Int, cmpL a b = cmpZ a b
 | [], [] => rfl
 | [], _ :: _ => rfl
 | _ :: _, [] => rfl
 | a :: l, b :: m => by simp only [cmpL, cmpZ, cmpI, cmpL_eq l m]
def someT (D : Dat) (set : Nat) : Bool := !(truthsL D set).isEmpty
theorem wrongStep_eq (D : Dat) (set : Nat) (s : Option (List Nat)) : wrongStep D set s = wStep D.dr.length (someT D) set s := by
 unfold wrongStep wStep someT
 have e : (List.range D.dr.length).filter (keepP set) = bitsL set D.dr.length := List.filter_congr fun i _ => by simp [keepP, outP]
 simp only [e, cmpL_eq]
 cases (truthsL D set).isEmpty <;> cases s <;> simp
theorem wrongTo_eq (D : Dat) (k : Nat) : wrongTo D k = wTo D.dr.length (someT D) k := by
 unfold wrongTo wTo
 congr 1
 funext s set
 exact wrongStep_eq D set s
theorem choices_ev : ∀ m k : Nat, k ≤ m → m ≤ 4 → ∃ K, r1_Choices.f K (m : Int) (k : Int) = some ((ordN m k).map fun s => ints (bitsL s m))
 | 0, 0, _, _ => ⟨200, by kernel_rfl⟩
 | 1, 0, _, _ => ⟨200, by kernel_rfl⟩
 | 1, 1, _, _ => ⟨200, by kernel_rfl⟩
 | 2, 0, _, _ => ⟨200, by kernel_rfl⟩
 | 2, 1, _, _ => ⟨200, by kernel_rfl⟩
 | 2, 2, _, _ => ⟨200, by kernel_rfl⟩
 | 3, 0, _, _ => ⟨200, by kernel_rfl⟩
 | 3, 1, _, _ => ⟨200, by kernel_rfl⟩
 | 3, 2, _, _ => ⟨200, by kernel_rfl⟩
 | 3, 3, _, _ => ⟨200, by kernel_rfl⟩
 | 4, 0, _, _ => ⟨200, by kernel_rfl⟩
 | 4, 1, _, _ => ⟨200, by kernel_rfl⟩
 | 4, 2, _, _ => ⟨200, by kernel_rfl⟩
 | 4, 3, _, _ => ⟨200, by kernel_rfl⟩
 | 4, 4, _, _ => ⟨200, by kernel_rfl⟩
 | 0, k + 1, h, _ => by omega
 | 1, k + 2, h, _ => by omega
 | 2, k + 3, h, _ => by omega
 | 3, k + 4, h, _ => by omega
 | 4, k + 5, h, _ => by omega
 | m + 5, _, _, h => by omega
theorem has_bits (s m i : Nat) (hi : i < m) : hasB (ints (bitsL s m)) i = s.testBit i := by
 rw [hasB_ints, Bool.eq_iff_iff, List.contains_iff_mem, mem_bitsL]
 exact ⟨fun x => x.2, fun x => ⟨hi, x⟩⟩
theorem truthsR_len' {D : Dat} (h : Valid D) {but : List Int} {set : Nat} (hs : setIs D but set) : (truthsR D but).length = (truthsL D set).length := by
 rw [truths_same h hs, truthsR, List.length_map, List.length_map]
theorem prodL_ne : ∀ (l : List (Int × Int)), (∀ s ∈ l, s.1 ≤ s.2) → prodL l ≠ []
 | [], _ => by simp [prodL]
 | s :: l, h => by
  have hs := h s (List.mem_cons_self ..)
  have ih := prodL_ne l (fun z hz => h z (List.mem_cons_of_mem _ hz))
  intro e
  obtain ⟨x, hx⟩ := List.exists_mem_of_ne_nil _ ih
  have : s.1 :: x ∈ prodL (s :: l) := by
   simp only [prodL, List.mem_flatMap, List.mem_map]
   exact ⟨s.1, mem_rng.2 ⟨Int.le_refl _, hs⟩, x, hx, rfl⟩
  rw [e] at this; simp at this
theorem ord_len : ∀ m k : Nat, m ≤ 4 → (ordN m k).length ≤ 6
 | 0, 0, _ => by decide
 | 1, 0, _ => by decide
 | 1, 1, _ => by decide
 | 2, 0, _ => by decide
 | 2, 1, _ => by decide
 | 2, 2, _ => by decide
 | 3, 0, _ => by decide
 | 3, 1, _ => by decide
 | 3, 2, _ => by decide
 | 3, 3, _ => by decide
 | 4, 0, _ => by decide
 | 4, 1, _ => by decide
 | 4, 2, _ => by decide
 | 4, 3, _ => by decide
 | 4, 4, _ => by decide
 | 0, _ + 1, _ => by simp [ordN]
 | 1, _ + 2, _ => by simp [ordN]
 | 2, _ + 3, _ => by simp [ordN]
 | 3, _ + 4, _ => by simp [ordN]
 | 4, _ + 5, _ => by simp [ordN]
 | _ + 5, _, h => by omega
theorem full_some {D : Dat} (h : Valid D) : someT D (2 ^ D.dr.length - 1) = true := by
 unfold someT
 have hne : prodL (spansL D) ≠ [] := prodL_ne (spansL D) (fun s hs => by
  obtain ⟨k, _, rfl⟩ := List.mem_map.1 hs
  exact (spanF_in h k).2.1)
 have hall : ∀ l ∈ prodL (spansL D), soB D (2 ^ D.dr.length - 1) (fn l) = true := fun l _ => by
  unfold soB soTo
  rw [List.all_eq_true]
  intro i hi
  rw [Nat.testBit_two_pow_sub_one, decide_eq_true (List.mem_range.1 hi)]; rfl
 unfold truthsL
 rw [List.filter_eq_self.2 hall]
 cases hp : prodL (spansL D) with
 | nil => exact absurd hp hne
 | cons a l => rfl
theorem rChoices (m k : Nat) (hk : k ≤ m) (hm : m ≤ 4) : Ev (fun K => r1_Choices.f K (m : Int) (k : Int)) ((ordN m k).map fun s => ints (bitsL s m)) := by
 obtain ⟨K, hK⟩ := choices_ev m k hk hm
 exact Ev.of (fun K => r1_Choices.mono _ _ K) hK
theorem ints_bits_len (s m : Nat) : (ints (bitsL s m)).length ≤ m := by unfold ints; rw [List.length_map]; exact bitsL_len s m
theorem rTruthsBut {D : Dat} (h : Valid D) (s : Nat) : ∃ rl, Ev (fun k => r7_Truths.f k D.gl D.lo D.hi D.sp D.dr (ints (bitsL s D.dr.length))) rl ∧ (0 < rl.length ↔ someT D s = true) := by
 have hd4 := h.d4
 have hl := ints_bits_len s D.dr.length
 refine ⟨_, rTruths h _ (by omega), ?_⟩
 rw [truthsR_len' h (set := s) (fun i hi => has_bits s _ i hi)]
 unfold someT
 cases truthsL D s <;> simp
section
variable {D : Dat} (h : Valid D) {res : List Nat} (hres : wTo D.dr.length (someT D) (2 ^ D.dr.length) = some res)
include h hres
theorem rWrong1 (k : Nat) (hk : k < D.dr.length) (h0 : ∀ b ∈ (List.range k).flatMap (ordN D.dr.length), someT D b = false)
  (hnx : (∀ b ∈ (List.range (k + 1)).flatMap (ordN D.dr.length), someT D b = false) → Ev (fun K => r7_Wrong.l0 K ((k + 1 : Nat) : Int) D.gl D.lo D.hi D.sp D.dr) (ints res, 0)) :
  ∀ (n i : Nat), i + n = (ordN D.dr.length k).length → (∀ b ∈ (ordN D.dr.length k).take i, someT D b = false) →
   Ev (fun K => r7_Wrong.l1 K (k : Int) ((ordN D.dr.length k).map fun s => ints (bitsL s D.dr.length)) (i : Int) D.gl D.lo D.hi D.sp D.dr) (ints res, 0)
 | 0, i, hi, hn => by
  have hd4 := h.d4
  rw [List.take_of_length_le (by omega)] at hn
  have := hnx (fun b hb => by
   rw [List.range_succ, List.flatMap_append] at hb
   rcases List.mem_append.1 hb with hb | hb
   ·
    exact h0 b hb
   ·
    simp at hb; exact hn b hb)
  refine Ev.step (fun K => ?_) this
  simp only [r7_Wrong.l1]
  rw [if_neg (by rw [List.length_map]; omega), wrapN (by omega)]
 | n + 1, i, hi, hn => by
  have hd4 := h.d4
  have hlt : i < (ordN D.dr.length k).length := by omega
  obtain ⟨s, hs⟩ : ∃ s, (ordN D.dr.length k)[i] = s := ⟨_, rfl⟩
  have hs' : (ordN D.dr.length k)[i]? = some s := by rw [List.getElem?_eq_getElem hlt, hs]
  have hol : (ordN D.dr.length k).length ≤ 6 := ord_len _ _ hd4
  obtain ⟨rl, hrl, hiff⟩ := rTruthsBut h s
  have hrd : rd_L2 ((ordN D.dr.length k).map fun s => ints (bitsL s D.dr.length)) (i : Int) = ints (bitsL s D.dr.length) := by
   simp only [rd_L2, Int.toNat_natCast, List.getD_eq_getElem?_getD, List.getElem?_map, hs', Option.map_some, Option.getD_some]
  refine Ev.step (fun K => by simp only [r7_Wrong.l1]; rw [if_pos (by rw [List.length_map]; omega), if_pos (by omega), hrd]) (Ev.bind hrl ?_)
  by_cases hP : someT D s = true
  ·
   have hw := w_at hd4 (Nat.le_of_lt hk) hs' h0 hn hP
   rw [hres] at hw
   have hpos := hiff.2 hP
   obtain rfl := Option.some.inj hw
   refine Ev.congr (f := fun _ => some _) (fun K => ?_) (Ev.now _)
   rw [if_pos (by omega)]
  ·
   have hz : rl.length = 0 := by
    have : ¬ 0 < rl.length := fun x => hP (hiff.1 x)
    omega
   refine Ev.congr (fun K => ?_) (rWrong1 k hk h0 hnx n (i + 1) (by omega) (fun b hb => by
    rw [List.take_add_one, hs'] at hb
    rcases List.mem_append.1 hb with hb | hb
    ·
     exact hn b hb
    ·
     simp at hb; subst hb; simpa using hP))
   rw [if_neg (by omega), wrapN (by omega)]
theorem rWrong0 : ∀ (n k : Nat), k + n = D.dr.length → (∀ b ∈ (List.range k).flatMap (ordN D.dr.length), someT D b = false) →
  Ev (fun K => r7_Wrong.l0 K (k : Int) D.gl D.lo D.hi D.sp D.dr) (ints res, 0)
 | 0, k, hk, h0 => by
  have hd4 := h.d4
  obtain rfl : k = D.dr.length := by omega
  have hfull := full_some h
  have hs' : (ordN D.dr.length D.dr.length)[0]? = some (2 ^ D.dr.length - 1) := by rw [ord_full _ hd4]; rfl
  have hw := w_at hd4 (Nat.le_refl _) hs' h0 (fun b hb => by simp at hb) hfull
  rw [hres] at hw
  obtain rfl := Option.some.inj hw
  refine Ev.step (fun K => by simp only [r7_Wrong.l0]; rw [if_neg (by omega)]) (Ev.bind (rChoices _ _ (Nat.le_refl _) hd4) ?_)
  rw [ord_full _ hd4]
  exact Ev.now _
 | n + 1, k, hk, h0 => by
  have hd4 := h.d4
  refine Ev.step (fun K => by simp only [r7_Wrong.l0]; rw [if_pos (by omega)]) (Ev.bind (rChoices D.dr.length k (by omega) hd4) ?_)
  exact rWrong1 h hres k (by omega) h0 (fun h1 => rWrong0 n (k + 1) (by omega) h1) (ordN D.dr.length k).length 0 (by omega) (fun b hb => by simp at hb)
end
theorem rWrongF {D : Dat} (h : Fits D) : Ev (fun k => r7_Wrong.f k D.gl D.lo D.hi D.sp D.dr) (ints (wrongF D).1, (wrongF D).2) := by
 unfold r7_Wrong.f
 refine Ev.bind (rCheck' h) ?_
 unfold wrongF
 by_cases hc : (checkF D).2.2 = 0
 ·
  have hV := (check_valid hc).1
  obtain ⟨s, _, hw, _⟩ := w_found (P := someT D) hV.d4 (full_some hV)
  rw [if_pos hc]
  simp only [if_pos hc]
  rw [wrongTo_eq, hw]
  exact rWrong0 hV hw D.dr.length 0 (by omega) (fun b hb => by simp at hb)
 ·
  rw [if_neg hc]
  simp only [if_neg hc]
  exact Ev.now _
end Go.Proofs.Ytgoidclnccjdeaa.D
end
section
/- Package glass: GlassWrongs. -/
namespace Go.Proofs.Ytgoidclnccjdeaa.D
open Go Go.RowKit Go.Proofs.YtgoidclnccjdeaaK Go.Proofs.YtgoidclnccjdeaaW.PrintWords Go.Proofs.YtgoidclnccjdeaaW.PrintLast Go.Proofs.YtgoidclnccjdeaaW.PrintMore Go.Proofs.Ytgoidclnccjdeaa.PR Go.Proofs.Ytgoidclnccjdeaa.M
set_option linter.unusedVariables false
set_option linter.unusedSimpArgs false

set_option maxRecDepth 100000 in
set_option maxHeartbeats 4000000 in
theorem GlassWrongs_calls (D : Dat) (A0 : Option Addr) (c0 : Nat) (A3 : Option Addr) (c3 : Nat) (A4 : Option Addr) (c4 : Nat) (w : World) (h : Arg w D A0 c0 A3 c3 A4 c4) :
  Calls Try.prog 6 #[.agg (D.cells A0 c0 A3 c3 A4 c4)] w
   fun e w' => e = .returned (.bool true) ∧ Below w.heap.size w w' := by
 have HS := Aside0.mk (blk_new w (.cells (D.cells A0 c0 A3 c3 A4 c4) 28))
 have HB := Aside0.mk (below_alloc (Below.refl w.heap.size w) (.cells (D.cells A0 c0 A3 c3 A4 c4) 28))
 have HA := Aside0.mk h
 obtain ⟨K1, hK1⟩ := (rWrongF h.fits).rounds
 clear h
 obtain ⟨q, hq⟩ : ∃ q, w.heap.size = q := ⟨_, rfl⟩
 obtain ⟨f, hf⟩ : ∃ z, wrongF D = z := ⟨_, rfl⟩
 try rw [hf] at hK1
 have Ef := Aside0.mk hf
 have HK1 := Aside0.mk hK1
 clear hf hK1
 go_enter Try.func6, Try.ntmps6
 go_upto_region 1 with (fail)
 generalize w.alloc (.cells (D.cells A0 c0 A3 c3 A4 c4) 28) = w1 at HS HB ⊢
 rw [hq] at HS
 try rw [hq]
 obtain ⟨f1, f2⟩ := f
 have k0 := (blk_cell HS.out 0).trans rfl
 have k1 := (blk_cell HS.out 1).trans rfl
 have k2 := (blk_cell HS.out 2).trans rfl
 have k3 := (blk_cell HS.out 3).trans rfl
 have k4 := (blk_cell HS.out 4).trans rfl
 have kl := blk_lt HS.out
 go_wp2_with fail
 clear k0 k1 k2 k3 k4 kl
 have hA := HA.out.below HB.out
 refine (Wrong_calls D A0 c0 A3 c3 A4 c4 w1 hA).mono ?_
 clear hA
 rw [Ef.out]
 rintro e w2 ⟨⟨v, rfl, hn⟩, hb⟩
 obtain ⟨Au, cu, rfl, hcu⟩ := hn.lit
 have Hu := Aside0.mk hcu
 clear hcu hn
 replace HB := Aside0.mk (HB.out.trans (hb.mono HB.out.size))
 replace HS := Aside0.mk (blk_below HS.out hb)
 clear hb
 go_upto_region 2 with (fail)
 have k0 := (blk_cell HS.out 0).trans rfl
 have k1 := (blk_cell HS.out 1).trans rfl
 have k2 := (blk_cell HS.out 2).trans rfl
 have k3 := (blk_cell HS.out 3).trans rfl
 have k4 := (blk_cell HS.out 4).trans rfl
 have kl := blk_lt HS.out
 go_wp2_with fail
 clear k0 k1 k2 k3 k4 kl
 have hA := HA.out.below HB.out
 refine (r7_Wrong.calls K1 A0 c0 D.gl D.lo D.hi A3 c3 D.sp A4 c4 D.dr (ints f1) f2 w2 hA.g hA.gc hA.s hA.sc hA.d hA.dc HK1.out).mono ?_
 clear hA
 rintro e w3 ⟨v, rfl, hn, hb⟩
 obtain ⟨Av, cv, rfl, _, hFv⟩ := hn
 have Hv := Aside0.mk (Kd.F_now hFv)
 clear hFv
 replace HB := Aside0.mk (HB.out.trans (hb.mono HB.out.size))
 replace HS := Aside0.mk (blk_below HS.out hb)
 replace Hu := Aside0.mk (Kd.C_below Hu.out hb)
 clear hb
 go_upto_region 3 with (fail)
 go_wp2_with fail
 have hI := Ints_calls (ints f1) (ints f1) Au Av f1.length f1.length cu cv w3 (by simp [ints]) (by simp [ints]) Hu.out (by have h9 := Hv.out; simpa [ints] using h9)
 rw [beq_self_eq_true] at hI
 refine Calls.mono (by first | exact hI | (simpa [ints] using hI)) ?_
 clear hI
 rintro e w4 ⟨rfl, hc⟩
 have hb := hc.below (fun _ _ x => x.elim) (Nat.le_refl _)
 clear hc
 replace HB := Aside0.mk (HB.out.trans (hb.mono HB.out.size))
 replace HS := Aside0.mk (blk_below HS.out hb)
 replace Hu := Aside0.mk (Kd.C_below Hu.out hb)
 replace Hv := Aside0.mk (Kd.C_below Hv.out hb)
 clear hb
 go_wp2_with fail
 refine (Awake_calls _).mono ?_
 rintro e wA ⟨rfl, hb⟩
 replace HB := Aside0.mk (HB.out.trans (hb.mono HB.out.size))
 clear hb
 go_wp2
 go_ret
 exact ⟨rfl, by first | exact HB.out | (rw [← hq]; exact HB.out)⟩
end Go.Proofs.Ytgoidclnccjdeaa.D
end
