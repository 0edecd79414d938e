/- Contracts of the functions that this claim reaches, with the words for them: pruned and packed by wip/tools/prune.py. -/
import Derived.Test.YtemeapfnfegkiaaIe
import Derived.Deep.QuietTactic
import Derived.BigQuiet
import Derived.Deep.RegionHeld3
import Derived.Deep.AppendLies
import Derived.OpenShut
import Derived.Laws.IdiomArrays
section
/- Package disk: DiskAsked. -/
namespace Go.Proofs.Ytemeapfnfegkiaa.D
open Go Go.RowKit Go.Proofs.YtemeapfnfegkiaaK Go.Proofs.YtemeapfnfegkiaaW.PrintWords Go.Proofs.YtemeapfnfegkiaaW.PrintLast Go.Proofs.YtemeapfnfegkiaaW.PrintMore Go.Proofs.Ytemeapfnfegkiaa.PR
set_option linter.unusedVariables false
set_option linter.unusedSimpArgs false

set_option maxRecDepth 100000 in
set_option maxHeartbeats 8000000 in
theorem DiskAsked_calls (D : Dat) (A4 : Option Addr) (c4 : Nat) (A5 : Option Addr) (c5 : Nat) (x y0 y1 : Int) (w : World) (h : Arg w D A4 c4 A5 c5) (hz : D.spots.length * 24 ≤ 140737488351232 ∧ D.told.length * 24 ≤ 140737488351232) (hx : 0 ≤ x ∧ x ≤ 65535) (hy0 : 0 ≤ y0 ∧ y0 ≤ 255) (hy1 : 0 ≤ y1 ∧ y1 ≤ 255) :
    Calls Try.prog 12 #[.agg #[.string D.nm, .int .i64 D.rad, .int .i64 D.lo, .int .i64 D.hi, .slice A4 D.spots.length c4, .slice A5 D.told.length c5], .int .u16 x, .agg #[.int .u8 y0, .int .u8 y1]] w
      fun e w' => e = .returned (.bool true) ∧ Below w.heap.size w w' := by
  have hb1 := below_alloc (below_alloc (Below.refl w.heap.size w) (.cells (shP D A4 c4 A5 c5) 27)) (.cells #[.int .u8 y0, .int .u8 y1] 75)
  have HB := Aside0.mk hb1
  have HS := Aside0.mk (blk_alloc (blk_new w (.cells (shP D A4 c4 A5 c5) 27)) (.cells #[.int .u8 y0, .int .u8 y1] 75))
  have HX := Aside0.mk (new_at (W := w.alloc (.cells (shP D A4 c4 A5 c5) 27)) (n := w.heap.size + 1) (by simp) (.cells #[.int .u8 y0, .int .u8 y1] 75))
  have HA := Aside0.mk h
  have HZ := Aside0.mk hz
  have HW := Aside0.mk hx
  have HY0 := Aside0.mk hy0
  have HY1 := Aside0.mk hy1
  obtain ⟨K1, hK1⟩ := (rSome h.fits).rounds
  have HK1 := Aside0.mk hK1
  clear h hb1 hx hK1 hz hy0 hy1
  obtain ⟨⟨r1, r2, r3, r4⟩, hak⟩ : ∃ s, askF D = s := ⟨_, rfl⟩
  have HAK := Aside0.mk hak
  clear hak
  obtain ⟨q, hq⟩ : ∃ q, w.heap.size = q := ⟨_, rfl⟩
  go_enter Try.func12, Try.ntmps12
  go_wp2_with fail
  generalize (w.alloc (.cells (shP D A4 c4 A5 c5) 27)).alloc (.cells #[.int .u8 y0, .int .u8 y1] 75) = w1 at HB HS HX ⊢
  rw [hq] at HS HX
  have HQ := Aside0.mk hq
  clear hq
  refine (Ask_calls D A4 c4 A5 c5 w1 (HA.out.below HB.out)).mono ?_
  rw [HAK.out]
  rintro e w2 ⟨rfl, hb⟩
  replace HB := Aside0.mk (HB.out.trans (hb.mono HB.out.size))
  replace HS := Aside0.mk (blk_below HS.out hb)
  replace HX := Aside0.mk (blk_below HX.out hb)
  clear hb
  go_upto_region 2 with (fail)
  have k0 := (blk_cell HS.out 0).trans rfl
  have k1 := (blk_cell HS.out 1).trans rfl
  have k2 := (blk_cell HS.out 2).trans rfl
  have k3 := (blk_cell HS.out 3).trans rfl
  have k4 := (blk_cell HS.out 4).trans rfl
  have k5 := (blk_cell HS.out 5).trans rfl
  have kl := blk_lt HS.out
  go_wp2_with fail
  clear k0 k1 k2 k3 k4 k5 kl
  have hA := HA.out.below HB.out
  refine (helioscopelaw01_some.calls K1 D.nm D.rad D.lo D.hi A4 c4 D.spots A5 c5 D.told _ w2 hA.s hA.sc hA.t hA.tc HK1.out).mono ?_
  rintro e w3 ⟨rfl, hb⟩
  replace HB := Aside0.mk (HB.out.trans (hb.mono HB.out.size))
  replace HS := Aside0.mk (blk_below HS.out hb)
  replace HX := Aside0.mk (blk_below HX.out hb)
  clear hb
  clear HK1 hA
  by_cases hc : enterE D [] = 0
  · rw [decide_eq_true hc]
    have E0 := Aside0.mk hc
    have hV := (enterE_ok hc).1
    have HV := Aside0.mk hV
    have hn7 := hV.n7
    have HASK := Aside0.mk (asked hc)
    clear hc hV
    obtain ⟨K, hK⟩ := (rTruths HV.out [] (by decide)).rounds
    have HK := Aside0.mk hK
    clear hK
    obtain ⟨rl, hrl⟩ : ∃ rl, (truthsN D []).map (toR D) = rl := ⟨_, rfl⟩
    have HRL := Aside0.mk hrl
    have HLEN : Aside0 (allL D = rl.length) := ⟨by rw [← hrl, List.length_map]; exact (truths_perm0 D).length_eq.symm⟩
    have hle : rl.length ≤ 1664 := by rw [← hrl, List.length_map]; exact truthsN_len HV.out []
    have hpos : 0 < rl.length := by rw [← HLEN.out]; exact HASK.out.1
    rw [hrl] at HK
    clear hrl
    have k0 := (blk_cell HS.out 0).trans rfl
    have k1 := (blk_cell HS.out 1).trans rfl
    have k2 := (blk_cell HS.out 2).trans rfl
    have k3 := (blk_cell HS.out 3).trans rfl
    have k4 := (blk_cell HS.out 4).trans rfl
    have k5 := (blk_cell HS.out 5).trans rfl
    have kl := blk_lt HS.out
    go_wp2_with fail
    clear k0 k1 k2 k3 k4 k5 kl
    have hA := HA.out.below HB.out
    refine (helioscoperef01_Truths.calls K D.nm D.rad D.lo D.hi A4 c4 D.spots A5 c5 D.told none 0 [] rl w3 hA.s hA.sc hA.t hA.tc ⟨rfl, Nat.zero_le _, fun h => absurd h (Nat.lt_irrefl 0)⟩ (Nat.le_refl 0) HK.out).mono ?_
    rintro e w4 ⟨v0, rfl, hn, hb⟩
    obtain ⟨A, c, rfl⟩ := Kd.N_slice hn
    have HC := Aside0.mk (Kd.N_reads' hn).2.2
    have HCL := Aside0.mk (Kd.N_reads' hn).2.1
    replace HB := Aside0.mk (HB.out.trans (hb.mono HB.out.size))
    replace HS := Aside0.mk (blk_below HS.out hb)
    replace HX := Aside0.mk (blk_below HX.out hb)
    clear hb
    clear hA hn HK
    by_cases hn0 : D.spots.length = 0
    · have hcase := HASK.out.2
      rcases hcase with ⟨h9, hall⟩ | ⟨a, b, _, hab, hb, _⟩
      · have k0 := (blk_cell HS.out 0).trans rfl
        have k1 := (blk_cell HS.out 1).trans rfl
        have k2 := (blk_cell HS.out 2).trans rfl
        have k3 := (blk_cell HS.out 3).trans rfl
        have k4 := (blk_cell HS.out 4).trans rfl
        have k5 := (blk_cell HS.out 5).trans rfl
        have kl := blk_lt HS.out
        have he : (r1, r2, r3, r4) = ((0 : Int), (0 : Int), (0 : Int), (9 : Int)) := by rw [← HAK.out]; exact h9
        simp only [Prod.mk.injEq] at he
        obtain ⟨rfl, rfl, rfl, rfl⟩ := he
        clear h9 hall
        go_wp2_with fail
        refine (Awake_calls _).mono ?_
        rintro e wA ⟨rfl, hb⟩
        replace HB := Aside0.mk (HB.out.trans (hb.mono HB.out.size))
        clear hb
        go_wp2
        go_ret
        exact ⟨rfl, HB.out⟩
      · exfalso; omega
    · have hmz : ((D.spots.length : Int) == 0) = false := beq_eq_false_iff_ne.2 (by omega)
      have hmz1 : ¬ ((D.spots.length : Int) = 0) := by omega
      have hmz2 : ¬ (D.spots.length = 0) := hn0
      have hmp : decide (0 < (D.spots.length : Int)) = true := decide_eq_true (by omega)
      have hmp2 : decide (0 < D.spots.length) = true := decide_eq_true (by omega)
      obtain ⟨i, hi, him⟩ : ∃ i : Nat, i < D.spots.length ∧ y0.tmod (D.spots.length : Int) = (i : Int) := by
        have := HY0.out
        refine ⟨y0.toNat % D.spots.length, Nat.mod_lt _ (by omega), ?_⟩
        obtain ⟨z, rfl⟩ : ∃ z : Nat, y0 = z := ⟨y0.toNat, by omega⟩
        rw [Int.toNat_natCast]; exact (Int.ofNat_tmod _ _).symm
      obtain ⟨k, hk, hkm⟩ : ∃ i : Nat, i < D.spots.length ∧ y1.tmod (D.spots.length : Int) = (i : Int) := by
        have := HY1.out
        refine ⟨y1.toNat % D.spots.length, Nat.mod_lt _ (by omega), ?_⟩
        obtain ⟨z, rfl⟩ : ∃ z : Nat, y1 = z := ⟨y1.toNat, by omega⟩
        rw [Int.toNat_natCast]; exact (Int.ofNat_tmod _ _).symm
      have hwy0 : IntKind.i64.wrap y0 = y0 := wrapI (by have := HY0.out; omega) (by have := HY0.out; omega)
      have hwy1 : IntKind.i64.wrap y1 = y1 := wrapI (by have := HY1.out; omega) (by have := HY1.out; omega)
      have hvy0 : wrap64 y0 = y0 := (by have := HY0.out; unfold wrap64; omega)
      have hvy1 : wrap64 y1 = y1 := (by have := HY1.out; unfold wrap64; omega)
      have m0 := (blk_cell HS.out 0).trans rfl
      have m1 := (blk_cell HS.out 1).trans rfl
      have m2 := (blk_cell HS.out 2).trans rfl
      have m3 := (blk_cell HS.out 3).trans rfl
      have m4 := (blk_cell HS.out 4).trans rfl
      have m5 := (blk_cell HS.out 5).trans rfl
      have ml := blk_lt HS.out
      have x0 := (blk_cell HX.out 0).trans rfl
      have x1 := (blk_cell HX.out 1).trans rfl
      have xl := blk_lt HX.out
      go_wp2_with fail
      go_quiet (fail)
      clear m0 m1 m2 m3 m4 m5 ml
      clear x0 x1 xl
      clear hmz hmz1 hmz2 hmp hmp2 him hkm hwy0 hwy1 hvy0 hvy1
      generalize hw5 : w4.drewN _ = w5
      have hb : Below w4.heap.size w4 w5 := by rw [← hw5]; exact pw_below_drewN (Below.refl _ _) _
      clear hw5
      replace HB := Aside0.mk (HB.out.trans (hb.mono HB.out.size))
      replace HS := Aside0.mk (blk_below HS.out hb)
      replace HC := Aside0.mk (Kd.C_below HC.out hb)
      clear hb
      clear HX
      by_cases hik : i < k
      · have hL := rLeft HV.out i k hi hk
        rw [HRL.out] at hL
        obtain ⟨K2, hK2⟩ := hL.rounds
        have hK3 : helioscoperef01_Left.f K2 rl (i : Int) (k : Int) = some (leftN D i k) := hK2
        have HK2 := Aside0.mk hK3
        clear hL hK2 hK3
        obtain ⟨o, ho⟩ : ∃ o, leftN D i k = o := ⟨_, rfl⟩
        have HO := Aside0.mk ho
        rw [ho] at HK2
        go_wp2_with fail
        refine (helioscoperef01_Left.calls K2 A c rl (i : Int) (k : Int) o w5 HC.out HCL.out HK2.out).mono ?_
        rintro e w6 ⟨rfl, hb⟩
        replace HB := Aside0.mk (HB.out.trans (hb.mono HB.out.size))
        replace HS := Aside0.mk (blk_below HS.out hb)
        replace HC := Aside0.mk (Kd.C_below HC.out hb)
        clear hb
        rcases HASK.out.2 with ⟨h9, hall⟩ | ⟨a, b, hsome, hab, hbn, hlt, hpl, hall⟩
        · have hor : o = (rl.length : Int) := by rw [← ho, hall i k hik hk, HLEN.out]
          subst hor
          clear ho
          have he : (r1, r2, r3, r4) = ((0 : Int), (0 : Int), (0 : Int), (9 : Int)) := by rw [← HAK.out]; exact h9
          simp only [Prod.mk.injEq] at he
          obtain ⟨rfl, rfl, rfl, rfl⟩ := he
          clear h9
          go_wp2_with fail
          refine (Awake_calls _).mono ?_
          rintro e wA ⟨rfl, hb⟩
          replace HB := Aside0.mk (HB.out.trans (hb.mono HB.out.size))
          clear hb
          go_wp2
          go_ret
          exact ⟨rfl, HB.out⟩
        · have hge : leftN D a b ≤ o := by rw [← ho]; exact (hall i k hik hk).1
          have hlx : ¬ leftN D a b < o → ¬ (i < a ∨ i = a ∧ k < b) := fun h1 h2 => h1 (by rw [← ho]; exact (hall i k hik hk).2 h2)
          clear ho hall
          have he : (r1, r2, r3, r4) = ((a : Int), (b : Int), leftN D a b, (0 : Int)) := by rw [← HAK.out]; exact hsome
          obtain ⟨L, hL⟩ : ∃ L, leftN D a b = L := ⟨_, rfl⟩
          have HLL := Aside0.mk hL
          rw [hL] at he hge hlt hpl
          simp only [Prod.mk.injEq] at he
          obtain ⟨rfl, rfl, rfl, rfl⟩ := he
          rw [HLEN.out] at hlt
          clear hsome hL HAK
          have w1' : IntKind.i64.wrap ((D.spots.length : Int) - 1) = (D.spots.length : Int) - 1 := wrapI (by omega) (by omega)
          have w2' : IntKind.i64.wrap ((a : Int) + 1) = (a : Int) + 1 := wrapI (by omega) (by omega)
          have HI1 : Aside0 (helioscoperef01_In.f (a : Int) 0 ((D.spots.length : Int) - 1) = some true) := ⟨by rw [rIn]; rw [decide_eq_true (by omega)]⟩
          have HI2 : Aside0 (helioscoperef01_In.f (b : Int) ((a : Int) + 1) ((D.spots.length : Int) - 1) = some true) := ⟨by rw [rIn]; rw [decide_eq_true (by omega)]⟩
          have t1 : decide (r3 < 1) = false := decide_eq_false (by omega)
          have t2 : decide ((rl.length : Int) ≤ r3) = false := decide_eq_false (by omega)
          have t3 : decide (o < r3) = false := decide_eq_false (by omega)
          go_wp2_with fail
          refine (helioscoperef01_In.calls _ _ _ true _ HI1.out).mono ?_
          rintro e u1 ⟨rfl, nd1, rfl⟩
          go_wp2_with fail
          refine (helioscoperef01_In.calls _ _ _ true _ HI2.out).mono ?_
          rintro e u2 ⟨rfl, nd2, rfl⟩
          obtain ⟨w7, hw7⟩ : ∃ w7, (w6.drewN nd1).drewN nd2 = w7 := ⟨_, rfl⟩
          have hb : Below w6.heap.size w6 w7 := by rw [← hw7]; exact pw_below_drewN (pw_below_drewN (Below.refl _ _) _) _
          rw [hw7]
          clear hw7 HI1 HI2
          replace HB := Aside0.mk (HB.out.trans (hb.mono HB.out.size))
          replace HS := Aside0.mk (blk_below HS.out hb)
          replace HC := Aside0.mk (Kd.C_below HC.out hb)
          clear hb
          obtain ⟨j, hj, hjm⟩ : ∃ j : Nat, j < rl.length ∧ Int.tmod x (rl.length : Int) = (j : Int) := by
            have h0 := HW.out.1
            refine ⟨x.toNat % rl.length, Nat.mod_lt _ hpos, ?_⟩
            obtain ⟨y, rfl⟩ : ∃ y : Nat, x = y := ⟨x.toNat, by omega⟩
            rw [Int.toNat_natCast]; exact (Int.ofNat_tmod _ _).symm
          obtain ⟨ad, A1, c1, hA', hx0, hx1, hA2, hA3⟩ := at_T57 HC.out (j : Int) (by omega) (by omega)
          subst hA'
          rw [Int.toNat_natCast] at hx0 hx1
          have hjt : j < (truthsN D []).length := by rw [← List.length_map (f := toR D), HRL.out]; exact hj
          have hel : rd_T57 rl (j : Int) = ⟨((truthsN D [])[j]'hjt).1, RG D ((truthsN D [])[j]'hjt).1 ((truthsN D [])[j]'hjt).2⟩ := by
            have h9 := rd_toR (D := D) (truthsN D []) j hjt
            rw [HRL.out] at h9; exact h9
          obtain ⟨r, hr⟩ : ∃ r, helioscoperef01_Together.f (rd_T57 rl (j : Int)).f0 (rd_T57 rl (j : Int)).f1 (a : Int) (b : Int) = some r := ⟨_, by
            rw [hel]; exact rTogether (RG_ref HV.out _ _) (fun z => G_nonneg HV.out _ _ z) _ (a : Int) (b : Int) (by omega) (by omega)⟩
          obtain ⟨S0, hS0⟩ : ∃ S0, rd_T57 rl (j : Int) = S0 := ⟨_, rfl⟩
          rw [hS0] at hx0 hx1 hA2 hA3 hr
          have HTOG := Aside0.mk hr
          have HA2 := Aside0.mk hA2
          have HROW := Aside0.mk hA3
          clear hel hS0 hr hA2 hA3 hjt
          have hnz : ((rl.length : Int) == 0) = false := beq_eq_false_iff_ne.2 (by omega)
          have hnz0 : ¬ ((rl.length : Int) = 0) := by omega
          have hnz1 : ¬ (rl.length = 0) := by omega
          have hwx : IntKind.i64.wrap x = x := wrapI (by have := HW.out; omega) (by have := HW.out; omega)
          have hwx2 : wrap64 x = x := (by have := HW.out; unfold wrap64; omega)
          have m0 := (blk_cell HS.out 0).trans rfl
          have m1 := (blk_cell HS.out 1).trans rfl
          have m2 := (blk_cell HS.out 2).trans rfl
          have m3 := (blk_cell HS.out 3).trans rfl
          have m4 := (blk_cell HS.out 4).trans rfl
          have m5 := (blk_cell HS.out 5).trans rfl
          have ml := blk_lt HS.out
          go_upto_region 18 with (fail)
          clear m0 m1 m2 m3 m4 m5 ml
          have hqz := blk_lt HS.out
          have hb : Below w7.heap.size w7 ((w7.alloc (.cells #[.int .i64 S0.f0, .slice A1 S0.f1.length c1] 57)).alloc (.cells (shP D A4 c4 A5 c5) 27)) := below_alloc (below_alloc (Below.refl _ _) _) _
          have n0 := Aside0.mk (blk_alloc (blk_new w7 (.cells #[.int .i64 S0.f0, .slice A1 S0.f1.length c1] 57)) (.cells (shP D A4 c4 A5 c5) 27))
          have n1 := Aside0.mk (new_at (W := w7.alloc (.cells #[.int .i64 S0.f0, .slice A1 S0.f1.length c1] 57)) (n := w7.heap.size + 1) (by simp) (.cells (shP D A4 c4 A5 c5) 27))
          have hws : ((w7.alloc (.cells #[.int .i64 S0.f0, .slice A1 S0.f1.length c1] 57)).alloc (.cells (shP D A4 c4 A5 c5) 27)).heap.size = w7.heap.size + 2 := by simp
          replace HB := Aside0.mk (HB.out.trans (hb.mono HB.out.size))
          replace HS := Aside0.mk (blk_below HS.out hb)
          replace HROW := Aside0.mk (Kd.C_below HROW.out hb)
          clear hb
          generalize (w7.alloc (.cells #[.int .i64 S0.f0, .slice A1 S0.f1.length c1] 57)).alloc (.cells (shP D A4 c4 A5 c5) 27) = v1 at HB HS HROW n0 n1 hws ⊢
          obtain ⟨Z, hZ⟩ : ∃ b, w7.heap.size = b := ⟨_, rfl⟩
          rw [hZ] at n0 n1 hws hqz ⊢
          have HT := n0
          have HM := n1
          have HWS := Aside0.mk hws
          have HQZ := Aside0.mk hqz
          clear n0 n1 hws hZ HC HCL hnz hnz0 hnz1 hwx hwx2 hjm hx0 hx1
          have hqz2 := HQZ.out
          have HA1 := Aside0.mk (HA.out.below HB.out)
          have hln : D.told.length * 24 ≤ 140737488351232 := HZ.out.2
          have hk0 : Below v1.heap.size v1 v1.drew := below_drew1 (Below.refl _ _)
          have k5 : v1.drew.cell? ⟨q, 5, none⟩ = some (.slice A5 D.told.length c5) := (blk_cell HS.out 5).trans rfl
          have z0 : v1.drew.cell? ⟨Z, 0, none⟩ = some (.int .i64 S0.f0) := (blk_cell HT.out 0).trans rfl
          have z1 : v1.drew.cell? ⟨Z, 1, none⟩ = some (.slice A1 S0.f1.length c1) := (blk_cell HT.out 1).trans rfl
          refine region_mid (X := Nat × Nat × Nat × Nat × Nat × Nat) (fun x a_ => ((((((((((((((a_.put (some 122) (.slice (some ⟨x.1, 0, none⟩) 0 0)).put (some 123) (.pointer (some ⟨q, 5, none⟩))).put (some 124) (.slice A5 D.told.length c5)).put (some 125) (.slice (some ⟨x.2.1, 0, none⟩) D.told.length x.2.2.1)).put (some 126) (.int .i64 (a : Int))).put (some 127) (.int .i64 (b : Int))).put (some 128) (.agg #[.int .i64 S0.f0, .slice A1 S0.f1.length c1])).put (some 129) (.int .i64 (a : Int))).put (some 130) (.int .i64 (b : Int))).put (some 131) (.bool r)).put (some 132) (.agg #[.int .i64 (a : Int), .int .i64 (b : Int), .bool r])).put (some 133) (.slice (some ⟨x.2.2.2.1, 0, none⟩) 1 1)).put (some 134) (.slice (some ⟨x.2.2.2.2.1, 0, none⟩) (D.told.length + 1) x.2.2.2.2.2)).put (some 135) (.pointer (some ⟨Z + 1, 5, none⟩))))
              (fun x w' => ∃ w0, w' = w0.setCell ⟨Z + 1, 5, none⟩ (.slice (some ⟨x.2.2.2.2.1, 0, none⟩) (D.told.length + 1) x.2.2.2.2.2) ∧ Below v1.heap.size v1 w0 ∧ w0.ownsRow v1.heap.size 52 3 (.slice (some ⟨x.2.2.2.2.1, 0, none⟩) (D.told.length + 1) x.2.2.2.2.2) (D.told ++ [(⟨(a : Int), (b : Int), r⟩ : Told)]).length ((D.told ++ [(⟨(a : Int), (b : Int), r⟩ : Told)]).flatMap encD)) ?_ ?_
          · go_region_held3 (fun w' => w'.cell? ⟨q, 5, none⟩ = some (.slice A5 D.told.length c5) ∧ w'.cell? ⟨Z, 0, none⟩ = some (.int .i64 S0.f0) ∧ w'.cell? ⟨Z, 1, none⟩ = some (.slice A1 S0.f1.length c1))
                (first | (refine ⟨(blk_cell (blk_far (p := ⟨Z + 1, 5, none⟩) (blk_below HS.out hz31) (show q ≠ Z + 1 by omega) _) 5).trans rfl, (blk_cell (blk_far (p := ⟨Z + 1, 5, none⟩) (blk_below HT.out hz31) (show Z ≠ Z + 1 by omega) _) 0).trans rfl, (blk_cell (blk_far (p := ⟨Z + 1, 5, none⟩) (blk_below HT.out hz31) (show Z ≠ Z + 1 by omega) _) 1).trans rfl⟩) | (refine ⟨(blk_cell (blk_below HS.out (by repeat (first | assumption | exact Below.refl _ _ | apply below_alloc | apply below_drew1))) 5).trans rfl, (blk_cell (blk_below HT.out (by repeat (first | assumption | exact Below.refl _ _ | apply below_alloc | apply below_drew1))) 0).trans rfl, (blk_cell (blk_below HT.out (by repeat (first | assumption | exact Below.refl _ _ | apply below_alloc | apply below_drew1))) 1).trans rfl⟩))
                (first
                  | (refine step_tolds (base := v1.heap.size) (ys := []) (xs := D.told) (k0 := D.told.length) rfl (.tmp 122) (.tmp 124) rfl rfl rfl rfl rfl (by simp) (by first | exact pw_own_below (own_new0 (w := v1) (Nat.le_refl _)) (by repeat (first | assumption | exact Below.refl _ _ | apply below_alloc | apply below_drew1)) | exact pw_own_below (own_new0 (w := wT) hsT) (by repeat (first | assumption | exact Below.refl _ _ | apply below_alloc | apply below_drew1)) | exact pw_own_below (own_new1 (w := wT.alloc (.cells #[.int .i64 (a : Int), .int .i64 (b : Int), .bool r] 52)) (n := wT.heap.size + 1) (by simp) (by omega)) (by repeat (first | assumption | exact Below.refl _ _ | apply below_alloc | apply below_drew1))) (Kd.C_below HA1.out.t (by repeat (first | assumption | exact Below.refl _ _ | apply below_alloc | apply below_drew1))) (by simp; omega) (Below.size (by repeat (first | assumption | exact Below.refl _ _ | apply below_alloc | apply below_drew1))) ?_
                     intro g28 c28 w5 hg28 ho28 hz28 hr28
                     replace hz28 := Below.trans (show Below v1.heap.size v1 _ from by repeat (first | assumption | exact Below.refl _ _ | apply below_alloc | apply below_drew1)) hz28)
                  | (go_at_call 46
                     refine (helioscoperef01_Together.calls _ _ _ _ _ _ _ _ (Kd.C_below HROW.out (show Below v1.heap.size v1 _ from by repeat (first | assumption | exact Below.refl _ _ | apply below_alloc | apply below_drew1))) HA2.out HTOG.out).mono ?_
                     rintro e wT ⟨rfl, hbT⟩
                     have hbT2 := Below.trans (show Below v1.heap.size v1 _ from by repeat (first | assumption | exact Below.refl _ _ | apply below_alloc | apply below_drew1)) (hbT.mono (Below.size (show Below v1.heap.size v1 _ from by repeat (first | assumption | exact Below.refl _ _ | apply below_alloc | apply below_drew1))))
                     have hsT := hbT2.size)
                  | (refine step_tolds (base := v1.heap.size) (ys := D.told) (xs := [(⟨(a : Int), (b : Int), r⟩ : Told)]) (n := 1) (k0 := D.told.length + 1) rfl (.tmp 125) (.tmp 133) rfl rfl rfl rfl rfl (by simp) (by first | exact ho28 | exact pw_own_below ho28 (by repeat (first | assumption | exact Below.refl _ _ | apply below_alloc | apply below_drew1))) (by first | exact C_one_told (⟨(a : Int), (b : Int), r⟩ : Told) (blk_new _ _) | exact C_one_told (⟨(a : Int), (b : Int), r⟩ : Told) ((hr28.block _ (by simp <;> omega) (by have := hbT.size; simp at this ⊢ <;> omega)).trans (blk_new wT _)) | exact C_one_told (⟨(a : Int), (b : Int), r⟩ : Told) ((hr28.block _ (by simp <;> omega) (by simp <;> omega)).trans (new_at (W := wT.alloc (.cells #[] 52)) (n := wT.heap.size + 1) (by simp) _)) | exact C_one_told (⟨(a : Int), (b : Int), r⟩ : Told) ((hr28.block _ (by simp <;> omega) (by simp <;> omega)).trans (blk_alloc (blk_new wT _) _))) (by simp; omega) (Below.size (by repeat (first | assumption | exact Below.refl _ _ | apply below_alloc | apply below_drew1))) ?_
                     intro g31 c31 w6 hg31 ho31 hz31 hr31
                     replace hz31 := Below.trans (show Below v1.heap.size v1 _ from by repeat (first | assumption | exact Below.refl _ _ | apply below_alloc | apply below_drew1)) hz31
                     have n31 := blk_below HM.out hz31
                     have m4 := (blk_cell n31 5).trans rfl
                     have f4 := blk_frozen n31 5
                     have m31 := blk_lt n31
                     clear n31))
            all_goals exact ⟨(_, _, _, _, _, _), rfl, _, rfl, hz31, ho31⟩
          · rintro ⟨g25, g28, c28, g30, g31, c31⟩ w' ⟨w0, rfl, hz0, ho31⟩
            simp only at ho31
            have hbase := HWS.out
            obtain ⟨A6, c6, e6, hc6, hR6⟩ := tolds_read (own_far ho31 (p := ⟨Z + 1, 5, none⟩) (show Z + 1 < v1.heap.size by omega) (.slice (some ⟨g31, 0, none⟩) (D.told.length + 1) c31)) (by simp; omega)
            obtain ⟨Tl, hTl⟩ : ∃ Tl, D.told ++ [⟨(a : Int), (b : Int), r⟩] = Tl := ⟨_, rfl⟩
            have hTlen : Tl.length = D.told.length + 1 := by rw [← hTl]; simp
            have ee : ((.slice (some ⟨g31, 0, none⟩) (D.told.length + 1) c31) : Value) = .slice A6 Tl.length c6 := by rw [← hTl]; exact e6
            have n1 := blk_set (blk_below HM.out hz0) 5 (.slice (some ⟨g31, 0, none⟩) (D.told.length + 1) c31)
            have n4 : Below w.heap.size w (w0.setCell ⟨Z + 1, 5, none⟩ (.slice (some ⟨g31, 0, none⟩) (D.told.length + 1) c31)) := below_set (HB.out.trans (hz0.mono HB.out.size)) (by have := HQ.out; omega)
            dsimp only
            rw [hTl] at hc6 hR6
            rw [ee] at n1 n4 hR6 ⊢
            clear e6 ee ho31 hz0 hbase HS HM HB HA1 HT
            generalize w0.setCell ⟨Z + 1, 5, none⟩ (.slice A6 Tl.length c6) = w8 at n1 n4 hR6 ⊢
            have HM : Aside0 (w8.heap[Z + 1]? = some (.cells #[.string D.nm, .int .i64 D.rad, .int .i64 D.lo, .int .i64 D.hi, .slice A4 D.spots.length c4, .slice A6 Tl.length c6] 27 (0, 0))) := ⟨n1⟩
            have HB := Aside0.mk n4
            have HR6 := Aside0.mk hR6
            have HC6 := Aside0.mk hc6
            have hTab : ∀ m : Nat, m < Tl.length → 0 ≤ (rd_T52 Tl m).f0 ∧ (rd_T52 Tl m).f0 < D.spots.length ∧ 0 ≤ (rd_T52 Tl m).f1 ∧ (rd_T52 Tl m).f1 < D.spots.length := by
              intro m hm
              rw [← hTl]
              by_cases hmo : m < D.told.length
              · rw [tl_old hmo]; have := HV.out.ab m hmo; exact ⟨this.1, this.2.1, this.2.2.1, this.2.2.2.1⟩
              · obtain rfl : m = D.told.length := by omega
                rw [tl_new]; simp only; omega
            obtain ⟨K5, hK5⟩ := (rTruthsT HV.out (by have := HV.out.t4; omega) hTab [] (by decide)).rounds
            obtain ⟨rl2, hrl2⟩ : ∃ rl2, (truthsT D Tl []).map (toR D) = rl2 := ⟨_, rfl⟩
            rw [hrl2] at hK5
            have HK5 := Aside0.mk hK5
            have hll : (rl2.length : Int) ≤ r3 := by
              rw [← hrl2, List.length_map, ← hTl, truthsT_more, ← HLL.out]
              exact asked_left D a b r
            have HTLEN := Aside0.mk hTlen
            clear n1 n4 hR6 hc6 hTab hK5 hrl2 hTl hTlen HTOG HA2 HROW HRL HLEN HASK k5 z0 z1 hk0
            have m0 := (blk_cell HM.out 0).trans rfl
            have m1 := (blk_cell HM.out 1).trans rfl
            have m2 := (blk_cell HM.out 2).trans rfl
            have m3 := (blk_cell HM.out 3).trans rfl
            have m4 := (blk_cell HM.out 4).trans rfl
            have m5 := (blk_cell HM.out 5).trans rfl
            have ml := blk_lt HM.out
            go_wp2_with fail
            clear m0 m1 m2 m3 m4 m5 ml
            have hA := HA.out.below HB.out
            refine (helioscoperef01_Truths.calls K5 D.nm D.rad D.lo D.hi A4 c4 D.spots A6 c6 Tl none 0 [] rl2 w8 hA.s hA.sc HR6.out HC6.out ⟨rfl, Nat.zero_le _, fun h => absurd h (Nat.lt_irrefl 0)⟩ (Nat.le_refl 0) HK5.out).mono ?_
            clear hA
            rintro e w9 ⟨v0, rfl, hn, hb⟩
            obtain ⟨A7, c7, rfl⟩ := Kd.N_slice hn
            replace HB := Aside0.mk (HB.out.trans (hb.mono HB.out.size))
            clear hb
            clear hn HM HR6 HC6 HK5
            have t5 : decide ((rl2.length : Int) ≤ r3) = true := decide_eq_true hll
            by_cases hgt : r3 < o
            · have t6 : decide (r3 < o) = true := decide_eq_true hgt
              go_wp2_with fail
              refine (Awake_calls _).mono ?_
              rintro e wA ⟨rfl, hb⟩
              replace HB := Aside0.mk (HB.out.trans (hb.mono HB.out.size))
              clear hb
              go_wp2
              go_ret
              exact ⟨rfl, HB.out⟩
            · have t6 : decide (r3 < o) = false := decide_eq_false hgt
              have hl2 := hlx (by rw [HLL.out]; omega)
              have t7 : decide ((k : Int) ≤ (i : Int)) = false := decide_eq_false (by omega)
              have t8 : decide (k ≤ i) = false := decide_eq_false (by omega)
              have hless : helioscoperef01_Less.f 10 [(i : Int), (k : Int)] [(a : Int), (b : Int)] = some false := by rw [rLess2 (by omega), decide_eq_false hl2]
              have HLESS := Aside0.mk hless
              clear hlx hl2 hless
              go_wp2_with fail
              refine (helioscoperef01_Less.calls 10 _ 2 [(i : Int), (k : Int)] _ 2 [(a : Int), (b : Int)] false _ (Kd.C_below (lit2 (t := 3) (i : Int) (k : Int) rfl) (below_alloc (Below.refl _ _) _)) (Nat.le_refl _) (lit2 (t := 3) (a : Int) (b : Int) (by simp)) (Nat.le_refl _) HLESS.out).mono ?_
              rintro e w10 ⟨rfl, nd3, rfl⟩
              have hb : Below w9.heap.size w9 (((w9.alloc (.cells #[.int .i64 (i : Int), .int .i64 (k : Int)] 3)).alloc (.cells #[.int .i64 (a : Int), .int .i64 (b : Int)] 3)).drewN nd3) := pw_below_drewN (below_alloc (below_alloc (Below.refl _ _) _) _) _
              replace HB := Aside0.mk (HB.out.trans (hb.mono HB.out.size))
              clear hb
              go_wp2_with fail
              refine (Awake_calls _).mono ?_
              rintro e wA ⟨rfl, hb⟩
              replace HB := Aside0.mk (HB.out.trans (hb.mono HB.out.size))
              clear hb
              go_wp2
              go_ret
              exact ⟨rfl, HB.out⟩
      · rcases HASK.out.2 with ⟨h9, hall⟩ | ⟨a, b, hsome, hab, hbn, hlt, hpl, hall⟩
        · have he : (r1, r2, r3, r4) = ((0 : Int), (0 : Int), (0 : Int), (9 : Int)) := by rw [← HAK.out]; exact h9
          simp only [Prod.mk.injEq] at he
          obtain ⟨rfl, rfl, rfl, rfl⟩ := he
          clear h9
          go_wp2_with fail
          refine (Awake_calls _).mono ?_
          rintro e wA ⟨rfl, hb⟩
          replace HB := Aside0.mk (HB.out.trans (hb.mono HB.out.size))
          clear hb
          go_wp2
          go_ret
          exact ⟨rfl, HB.out⟩
        · have hge : leftN D a b ≤ (rl.length : Int) := by rw [← HLEN.out]; omega
          clear hall
          have he : (r1, r2, r3, r4) = ((a : Int), (b : Int), leftN D a b, (0 : Int)) := by rw [← HAK.out]; exact hsome
          obtain ⟨L, hL⟩ : ∃ L, leftN D a b = L := ⟨_, rfl⟩
          have HLL := Aside0.mk hL
          rw [hL] at he hge hlt hpl
          simp only [Prod.mk.injEq] at he
          obtain ⟨rfl, rfl, rfl, rfl⟩ := he
          rw [HLEN.out] at hlt
          clear hsome hL HAK
          have w1' : IntKind.i64.wrap ((D.spots.length : Int) - 1) = (D.spots.length : Int) - 1 := wrapI (by omega) (by omega)
          have w2' : IntKind.i64.wrap ((a : Int) + 1) = (a : Int) + 1 := wrapI (by omega) (by omega)
          have HI1 : Aside0 (helioscoperef01_In.f (a : Int) 0 ((D.spots.length : Int) - 1) = some true) := ⟨by rw [rIn]; rw [decide_eq_true (by omega)]⟩
          have HI2 : Aside0 (helioscoperef01_In.f (b : Int) ((a : Int) + 1) ((D.spots.length : Int) - 1) = some true) := ⟨by rw [rIn]; rw [decide_eq_true (by omega)]⟩
          have t1 : decide (r3 < 1) = false := decide_eq_false (by omega)
          have t2 : decide ((rl.length : Int) ≤ r3) = false := decide_eq_false (by omega)
          have t3 : decide ((rl.length : Int) < r3) = false := decide_eq_false (by omega)
          go_wp2_with fail
          refine (helioscoperef01_In.calls _ _ _ true _ HI1.out).mono ?_
          rintro e u1 ⟨rfl, nd1, rfl⟩
          go_wp2_with fail
          refine (helioscoperef01_In.calls _ _ _ true _ HI2.out).mono ?_
          rintro e u2 ⟨rfl, nd2, rfl⟩
          obtain ⟨w7, hw7⟩ : ∃ w7, (w5.drewN nd1).drewN nd2 = w7 := ⟨_, rfl⟩
          have hb : Below w5.heap.size w5 w7 := by rw [← hw7]; exact pw_below_drewN (pw_below_drewN (Below.refl _ _) _) _
          rw [hw7]
          clear hw7 HI1 HI2
          replace HB := Aside0.mk (HB.out.trans (hb.mono HB.out.size))
          replace HS := Aside0.mk (blk_below HS.out hb)
          replace HC := Aside0.mk (Kd.C_below HC.out hb)
          clear hb
          obtain ⟨j, hj, hjm⟩ : ∃ j : Nat, j < rl.length ∧ Int.tmod x (rl.length : Int) = (j : Int) := by
            have h0 := HW.out.1
            refine ⟨x.toNat % rl.length, Nat.mod_lt _ hpos, ?_⟩
            obtain ⟨y, rfl⟩ : ∃ y : Nat, x = y := ⟨x.toNat, by omega⟩
            rw [Int.toNat_natCast]; exact (Int.ofNat_tmod _ _).symm
          obtain ⟨ad, A1, c1, hA', hx0, hx1, hA2, hA3⟩ := at_T57 HC.out (j : Int) (by omega) (by omega)
          subst hA'
          rw [Int.toNat_natCast] at hx0 hx1
          have hjt : j < (truthsN D []).length := by rw [← List.length_map (f := toR D), HRL.out]; exact hj
          have hel : rd_T57 rl (j : Int) = ⟨((truthsN D [])[j]'hjt).1, RG D ((truthsN D [])[j]'hjt).1 ((truthsN D [])[j]'hjt).2⟩ := by
            have h9 := rd_toR (D := D) (truthsN D []) j hjt
            rw [HRL.out] at h9; exact h9
          obtain ⟨r, hr⟩ : ∃ r, helioscoperef01_Together.f (rd_T57 rl (j : Int)).f0 (rd_T57 rl (j : Int)).f1 (a : Int) (b : Int) = some r := ⟨_, by
            rw [hel]; exact rTogether (RG_ref HV.out _ _) (fun z => G_nonneg HV.out _ _ z) _ (a : Int) (b : Int) (by omega) (by omega)⟩
          obtain ⟨S0, hS0⟩ : ∃ S0, rd_T57 rl (j : Int) = S0 := ⟨_, rfl⟩
          rw [hS0] at hx0 hx1 hA2 hA3 hr
          have HTOG := Aside0.mk hr
          have HA2 := Aside0.mk hA2
          have HROW := Aside0.mk hA3
          clear hel hS0 hr hA2 hA3 hjt
          have hnz : ((rl.length : Int) == 0) = false := beq_eq_false_iff_ne.2 (by omega)
          have hnz0 : ¬ ((rl.length : Int) = 0) := by omega
          have hnz1 : ¬ (rl.length = 0) := by omega
          have hwx : IntKind.i64.wrap x = x := wrapI (by have := HW.out; omega) (by have := HW.out; omega)
          have hwx2 : wrap64 x = x := (by have := HW.out; unfold wrap64; omega)
          have m0 := (blk_cell HS.out 0).trans rfl
          have m1 := (blk_cell HS.out 1).trans rfl
          have m2 := (blk_cell HS.out 2).trans rfl
          have m3 := (blk_cell HS.out 3).trans rfl
          have m4 := (blk_cell HS.out 4).trans rfl
          have m5 := (blk_cell HS.out 5).trans rfl
          have ml := blk_lt HS.out
          go_upto_region 18 with (fail)
          clear m0 m1 m2 m3 m4 m5 ml
          have hqz := blk_lt HS.out
          have hb : Below w7.heap.size w7 ((w7.alloc (.cells #[.int .i64 S0.f0, .slice A1 S0.f1.length c1] 57)).alloc (.cells (shP D A4 c4 A5 c5) 27)) := below_alloc (below_alloc (Below.refl _ _) _) _
          have n0 := Aside0.mk (blk_alloc (blk_new w7 (.cells #[.int .i64 S0.f0, .slice A1 S0.f1.length c1] 57)) (.cells (shP D A4 c4 A5 c5) 27))
          have n1 := Aside0.mk (new_at (W := w7.alloc (.cells #[.int .i64 S0.f0, .slice A1 S0.f1.length c1] 57)) (n := w7.heap.size + 1) (by simp) (.cells (shP D A4 c4 A5 c5) 27))
          have hws : ((w7.alloc (.cells #[.int .i64 S0.f0, .slice A1 S0.f1.length c1] 57)).alloc (.cells (shP D A4 c4 A5 c5) 27)).heap.size = w7.heap.size + 2 := by simp
          replace HB := Aside0.mk (HB.out.trans (hb.mono HB.out.size))
          replace HS := Aside0.mk (blk_below HS.out hb)
          replace HROW := Aside0.mk (Kd.C_below HROW.out hb)
          clear hb
          generalize (w7.alloc (.cells #[.int .i64 S0.f0, .slice A1 S0.f1.length c1] 57)).alloc (.cells (shP D A4 c4 A5 c5) 27) = v1 at HB HS HROW n0 n1 hws ⊢
          obtain ⟨Z, hZ⟩ : ∃ b, w7.heap.size = b := ⟨_, rfl⟩
          rw [hZ] at n0 n1 hws hqz ⊢
          have HT := n0
          have HM := n1
          have HWS := Aside0.mk hws
          have HQZ := Aside0.mk hqz
          clear n0 n1 hws hZ HC HCL hnz hnz0 hnz1 hwx hwx2 hjm hx0 hx1
          have hqz2 := HQZ.out
          have HA1 := Aside0.mk (HA.out.below HB.out)
          have hln : D.told.length * 24 ≤ 140737488351232 := HZ.out.2
          have hk0 : Below v1.heap.size v1 v1.drew := below_drew1 (Below.refl _ _)
          have k5 : v1.drew.cell? ⟨q, 5, none⟩ = some (.slice A5 D.told.length c5) := (blk_cell HS.out 5).trans rfl
          have z0 : v1.drew.cell? ⟨Z, 0, none⟩ = some (.int .i64 S0.f0) := (blk_cell HT.out 0).trans rfl
          have z1 : v1.drew.cell? ⟨Z, 1, none⟩ = some (.slice A1 S0.f1.length c1) := (blk_cell HT.out 1).trans rfl
          refine region_mid (X := Nat × Nat × Nat × Nat × Nat × Nat) (fun x a_ => ((((((((((((((a_.put (some 122) (.slice (some ⟨x.1, 0, none⟩) 0 0)).put (some 123) (.pointer (some ⟨q, 5, none⟩))).put (some 124) (.slice A5 D.told.length c5)).put (some 125) (.slice (some ⟨x.2.1, 0, none⟩) D.told.length x.2.2.1)).put (some 126) (.int .i64 (a : Int))).put (some 127) (.int .i64 (b : Int))).put (some 128) (.agg #[.int .i64 S0.f0, .slice A1 S0.f1.length c1])).put (some 129) (.int .i64 (a : Int))).put (some 130) (.int .i64 (b : Int))).put (some 131) (.bool r)).put (some 132) (.agg #[.int .i64 (a : Int), .int .i64 (b : Int), .bool r])).put (some 133) (.slice (some ⟨x.2.2.2.1, 0, none⟩) 1 1)).put (some 134) (.slice (some ⟨x.2.2.2.2.1, 0, none⟩) (D.told.length + 1) x.2.2.2.2.2)).put (some 135) (.pointer (some ⟨Z + 1, 5, none⟩))))
              (fun x w' => ∃ w0, w' = w0.setCell ⟨Z + 1, 5, none⟩ (.slice (some ⟨x.2.2.2.2.1, 0, none⟩) (D.told.length + 1) x.2.2.2.2.2) ∧ Below v1.heap.size v1 w0 ∧ w0.ownsRow v1.heap.size 52 3 (.slice (some ⟨x.2.2.2.2.1, 0, none⟩) (D.told.length + 1) x.2.2.2.2.2) (D.told ++ [(⟨(a : Int), (b : Int), r⟩ : Told)]).length ((D.told ++ [(⟨(a : Int), (b : Int), r⟩ : Told)]).flatMap encD)) ?_ ?_
          · go_region_held3 (fun w' => w'.cell? ⟨q, 5, none⟩ = some (.slice A5 D.told.length c5) ∧ w'.cell? ⟨Z, 0, none⟩ = some (.int .i64 S0.f0) ∧ w'.cell? ⟨Z, 1, none⟩ = some (.slice A1 S0.f1.length c1))
                (first | (refine ⟨(blk_cell (blk_far (p := ⟨Z + 1, 5, none⟩) (blk_below HS.out hz31) (show q ≠ Z + 1 by omega) _) 5).trans rfl, (blk_cell (blk_far (p := ⟨Z + 1, 5, none⟩) (blk_below HT.out hz31) (show Z ≠ Z + 1 by omega) _) 0).trans rfl, (blk_cell (blk_far (p := ⟨Z + 1, 5, none⟩) (blk_below HT.out hz31) (show Z ≠ Z + 1 by omega) _) 1).trans rfl⟩) | (refine ⟨(blk_cell (blk_below HS.out (by repeat (first | assumption | exact Below.refl _ _ | apply below_alloc | apply below_drew1))) 5).trans rfl, (blk_cell (blk_below HT.out (by repeat (first | assumption | exact Below.refl _ _ | apply below_alloc | apply below_drew1))) 0).trans rfl, (blk_cell (blk_below HT.out (by repeat (first | assumption | exact Below.refl _ _ | apply below_alloc | apply below_drew1))) 1).trans rfl⟩))
                (first
                  | (refine step_tolds (base := v1.heap.size) (ys := []) (xs := D.told) (k0 := D.told.length) rfl (.tmp 122) (.tmp 124) rfl rfl rfl rfl rfl (by simp) (by first | exact pw_own_below (own_new0 (w := v1) (Nat.le_refl _)) (by repeat (first | assumption | exact Below.refl _ _ | apply below_alloc | apply below_drew1)) | exact pw_own_below (own_new0 (w := wT) hsT) (by repeat (first | assumption | exact Below.refl _ _ | apply below_alloc | apply below_drew1)) | exact pw_own_below (own_new1 (w := wT.alloc (.cells #[.int .i64 (a : Int), .int .i64 (b : Int), .bool r] 52)) (n := wT.heap.size + 1) (by simp) (by omega)) (by repeat (first | assumption | exact Below.refl _ _ | apply below_alloc | apply below_drew1))) (Kd.C_below HA1.out.t (by repeat (first | assumption | exact Below.refl _ _ | apply below_alloc | apply below_drew1))) (by simp; omega) (Below.size (by repeat (first | assumption | exact Below.refl _ _ | apply below_alloc | apply below_drew1))) ?_
                     intro g28 c28 w5 hg28 ho28 hz28 hr28
                     replace hz28 := Below.trans (show Below v1.heap.size v1 _ from by repeat (first | assumption | exact Below.refl _ _ | apply below_alloc | apply below_drew1)) hz28)
                  | (go_at_call 46
                     refine (helioscoperef01_Together.calls _ _ _ _ _ _ _ _ (Kd.C_below HROW.out (show Below v1.heap.size v1 _ from by repeat (first | assumption | exact Below.refl _ _ | apply below_alloc | apply below_drew1))) HA2.out HTOG.out).mono ?_
                     rintro e wT ⟨rfl, hbT⟩
                     have hbT2 := Below.trans (show Below v1.heap.size v1 _ from by repeat (first | assumption | exact Below.refl _ _ | apply below_alloc | apply below_drew1)) (hbT.mono (Below.size (show Below v1.heap.size v1 _ from by repeat (first | assumption | exact Below.refl _ _ | apply below_alloc | apply below_drew1))))
                     have hsT := hbT2.size)
                  | (refine step_tolds (base := v1.heap.size) (ys := D.told) (xs := [(⟨(a : Int), (b : Int), r⟩ : Told)]) (n := 1) (k0 := D.told.length + 1) rfl (.tmp 125) (.tmp 133) rfl rfl rfl rfl rfl (by simp) (by first | exact ho28 | exact pw_own_below ho28 (by repeat (first | assumption | exact Below.refl _ _ | apply below_alloc | apply below_drew1))) (by first | exact C_one_told (⟨(a : Int), (b : Int), r⟩ : Told) (blk_new _ _) | exact C_one_told (⟨(a : Int), (b : Int), r⟩ : Told) ((hr28.block _ (by simp <;> omega) (by have := hbT.size; simp at this ⊢ <;> omega)).trans (blk_new wT _)) | exact C_one_told (⟨(a : Int), (b : Int), r⟩ : Told) ((hr28.block _ (by simp <;> omega) (by simp <;> omega)).trans (new_at (W := wT.alloc (.cells #[] 52)) (n := wT.heap.size + 1) (by simp) _)) | exact C_one_told (⟨(a : Int), (b : Int), r⟩ : Told) ((hr28.block _ (by simp <;> omega) (by simp <;> omega)).trans (blk_alloc (blk_new wT _) _))) (by simp; omega) (Below.size (by repeat (first | assumption | exact Below.refl _ _ | apply below_alloc | apply below_drew1))) ?_
                     intro g31 c31 w6 hg31 ho31 hz31 hr31
                     replace hz31 := Below.trans (show Below v1.heap.size v1 _ from by repeat (first | assumption | exact Below.refl _ _ | apply below_alloc | apply below_drew1)) hz31
                     have n31 := blk_below HM.out hz31
                     have m4 := (blk_cell n31 5).trans rfl
                     have f4 := blk_frozen n31 5
                     have m31 := blk_lt n31
                     clear n31))
            all_goals exact ⟨(_, _, _, _, _, _), rfl, _, rfl, hz31, ho31⟩
          · rintro ⟨g25, g28, c28, g30, g31, c31⟩ w' ⟨w0, rfl, hz0, ho31⟩
            simp only at ho31
            have hbase := HWS.out
            obtain ⟨A6, c6, e6, hc6, hR6⟩ := tolds_read (own_far ho31 (p := ⟨Z + 1, 5, none⟩) (show Z + 1 < v1.heap.size by omega) (.slice (some ⟨g31, 0, none⟩) (D.told.length + 1) c31)) (by simp; omega)
            obtain ⟨Tl, hTl⟩ : ∃ Tl, D.told ++ [⟨(a : Int), (b : Int), r⟩] = Tl := ⟨_, rfl⟩
            have hTlen : Tl.length = D.told.length + 1 := by rw [← hTl]; simp
            have ee : ((.slice (some ⟨g31, 0, none⟩) (D.told.length + 1) c31) : Value) = .slice A6 Tl.length c6 := by rw [← hTl]; exact e6
            have n1 := blk_set (blk_below HM.out hz0) 5 (.slice (some ⟨g31, 0, none⟩) (D.told.length + 1) c31)
            have n4 : Below w.heap.size w (w0.setCell ⟨Z + 1, 5, none⟩ (.slice (some ⟨g31, 0, none⟩) (D.told.length + 1) c31)) := below_set (HB.out.trans (hz0.mono HB.out.size)) (by have := HQ.out; omega)
            dsimp only
            rw [hTl] at hc6 hR6
            rw [ee] at n1 n4 hR6 ⊢
            clear e6 ee ho31 hz0 hbase HS HM HB HA1 HT
            generalize w0.setCell ⟨Z + 1, 5, none⟩ (.slice A6 Tl.length c6) = w8 at n1 n4 hR6 ⊢
            have HM : Aside0 (w8.heap[Z + 1]? = some (.cells #[.string D.nm, .int .i64 D.rad, .int .i64 D.lo, .int .i64 D.hi, .slice A4 D.spots.length c4, .slice A6 Tl.length c6] 27 (0, 0))) := ⟨n1⟩
            have HB := Aside0.mk n4
            have HR6 := Aside0.mk hR6
            have HC6 := Aside0.mk hc6
            have hTab : ∀ m : Nat, m < Tl.length → 0 ≤ (rd_T52 Tl m).f0 ∧ (rd_T52 Tl m).f0 < D.spots.length ∧ 0 ≤ (rd_T52 Tl m).f1 ∧ (rd_T52 Tl m).f1 < D.spots.length := by
              intro m hm
              rw [← hTl]
              by_cases hmo : m < D.told.length
              · rw [tl_old hmo]; have := HV.out.ab m hmo; exact ⟨this.1, this.2.1, this.2.2.1, this.2.2.2.1⟩
              · obtain rfl : m = D.told.length := by omega
                rw [tl_new]; simp only; omega
            obtain ⟨K5, hK5⟩ := (rTruthsT HV.out (by have := HV.out.t4; omega) hTab [] (by decide)).rounds
            obtain ⟨rl2, hrl2⟩ : ∃ rl2, (truthsT D Tl []).map (toR D) = rl2 := ⟨_, rfl⟩
            rw [hrl2] at hK5
            have HK5 := Aside0.mk hK5
            have hll : (rl2.length : Int) ≤ r3 := by
              rw [← hrl2, List.length_map, ← hTl, truthsT_more, ← HLL.out]
              exact asked_left D a b r
            have HTLEN := Aside0.mk hTlen
            clear n1 n4 hR6 hc6 hTab hK5 hrl2 hTl hTlen HTOG HA2 HROW HRL HLEN HASK k5 z0 z1 hk0
            have m0 := (blk_cell HM.out 0).trans rfl
            have m1 := (blk_cell HM.out 1).trans rfl
            have m2 := (blk_cell HM.out 2).trans rfl
            have m3 := (blk_cell HM.out 3).trans rfl
            have m4 := (blk_cell HM.out 4).trans rfl
            have m5 := (blk_cell HM.out 5).trans rfl
            have ml := blk_lt HM.out
            go_wp2_with fail
            clear m0 m1 m2 m3 m4 m5 ml
            have hA := HA.out.below HB.out
            refine (helioscoperef01_Truths.calls K5 D.nm D.rad D.lo D.hi A4 c4 D.spots A6 c6 Tl none 0 [] rl2 w8 hA.s hA.sc HR6.out HC6.out ⟨rfl, Nat.zero_le _, fun h => absurd h (Nat.lt_irrefl 0)⟩ (Nat.le_refl 0) HK5.out).mono ?_
            clear hA
            rintro e w9 ⟨v0, rfl, hn, hb⟩
            obtain ⟨A7, c7, rfl⟩ := Kd.N_slice hn
            replace HB := Aside0.mk (HB.out.trans (hb.mono HB.out.size))
            clear hb
            clear hn HM HR6 HC6 HK5
            have t5 : decide ((rl2.length : Int) ≤ r3) = true := decide_eq_true hll
            have t6 : decide (r3 < (rl.length : Int)) = true := decide_eq_true hlt
            go_wp2_with fail
            refine (Awake_calls _).mono ?_
            rintro e wA ⟨rfl, hb⟩
            replace HB := Aside0.mk (HB.out.trans (hb.mono HB.out.size))
            clear hb
            go_wp2
            go_ret
            exact ⟨rfl, HB.out⟩
  · rw [decide_eq_false hc]
    have he : (r1, r2, r3, r4) = ((0 : Int), (0 : Int), (0 : Int), enterE D []) := by rw [← HAK.out]; unfold askF; rw [if_neg hc]
    obtain ⟨en, hen⟩ : ∃ en, enterE D [] = en := ⟨_, rfl⟩
    rw [hen] at he hc
    have hz1 : (en == 0) = false := by simpa using hc
    have hz2 : (en != 0) = true := by simp [hc]
    simp only [Prod.mk.injEq] at he
    obtain ⟨rfl, rfl, rfl, rfl⟩ := he
    clear hc HAK hen
    go_wp2_with fail
    refine (Awake_calls _).mono ?_
    rintro e wA ⟨rfl, hb⟩
    replace HB := Aside0.mk (HB.out.trans (hb.mono HB.out.size))
    clear hb
    go_wp2
    go_ret
    exact ⟨rfl, HB.out⟩
end Go.Proofs.Ytemeapfnfegkiaa.D
end
section
/- Small arrays of ints that came in as arguments, opened. -/
namespace Go.Proofs.Ytemeapfnfegkiaa.D
open Go Go.RowKit Go.ChangeShapes Go.WideShapes Go.Deep
set_option linter.unusedVariables false
set_option linter.unusedSectionVars false
section
variable {H : Type} {enc : TypeId × Value → H} {w : World} {base : Nat} {spare : Nat → Bool} {held : Bool} {P : Program}
theorem okWide_array {n : Nat} {e t : TypeId} {r : Reach} {b0 : Nat} {v : Value} (ht : P.underlying t = some (.array n e)) (h : Value.okWide P w r b0 t v) : ∃ cs, v = .agg cs ∧ cs.size = P.cellsOf t := by
  simp only [Value.okWide, ht] at h
  obtain ⟨cs, h1, h2, _⟩ := h
  exact ⟨cs, h1, h2⟩
theorem open_arr2b' {e t : TypeId} {r : Reach} {b0 : Nat} {v : Value} {d : DataW H} {p : List MemPlace} (ht : P.underlying t = some (.array 2 e)) (hc : P.cellsOf t = 2) (he : P.underlying e = some (.int .u8)) (hc1 : P.cellsOf e = 1)
    (hv : Value.okWide P w r b0 t v) (h : DataW.Trod enc P w base spare held t v d p) : ∃ x0 x1 : Int, v = .agg #[.int .u8 x0, .int .u8 x1] ∧ (Lit.int .u8 x0).wf = true ∧ (Lit.int .u8 x1).wf = true := by
  obtain ⟨cs, rfl, hsz⟩ := okWide_array ht hv
  obtain ⟨fuel, hf⟩ := h
  obtain ⟨xs, m, _, _, _, hl, hi⟩ := DataW.trod_array ht hf
  obtain ⟨L⟩ := cs
  rw [hc] at hsz
  match L, hsz with
  | [c0, c1], _ =>
    have g0 := hi 0 (by decide)
    rw [hc1, List.getElem?_eq_getElem (by omega)] at g0
    obtain ⟨x0, e0, _, w0⟩ := DataW.trod_int he g0
    simp [Value.cells] at e0
    have g1 := hi 1 (by decide)
    rw [hc1, List.getElem?_eq_getElem (by omega)] at g1
    obtain ⟨x1, e1, _, w1⟩ := DataW.trod_int he g1
    simp [Value.cells] at e1
    subst e0 e1
    exact ⟨x0, x1, rfl, w0, w1⟩
end
section
variable {H : Type} {enc : TypeId × Value → H} {w : World} {base : Nat} {spare : Nat → Bool} {held : Bool}
set_option maxRecDepth 100000 in
theorem open_arr2b {t : TypeId} {r : Reach} {b0 : Nat} {v : Value} {d : DataW H} {p : List MemPlace} (ht : Try.prog.underlying t = some (.array 2 5)) (hc : Try.prog.cellsOf t = 2)
    (hv : Value.okWide Try.prog w r b0 t v) (h : DataW.Trod enc Try.prog w base spare held t v d p) : ∃ x0 x1 : Int, v = .agg #[.int .u8 x0, .int .u8 x1] ∧ (Lit.int .u8 x0).wf = true ∧ (Lit.int .u8 x1).wf = true :=
  open_arr2b' ht hc Try.underlying5 (by kernel_rfl) hv h
end
end Go.Proofs.Ytemeapfnfegkiaa.D
end
section
/- Package disk: how long the slices of a sheet that came in can be. -/
namespace Go.Proofs.Ytemeapfnfegkiaa.D
open Go Go.RowKit Go.ChangeShapes Go.WideShapes Go.Deep Go.Proofs.YtemeapfnfegkiaaK Go.Proofs.YtemeapfnfegkiaaW.PrintWords Go.Proofs.YtemeapfnfegkiaaW.PrintLast Go.Proofs.YtemeapfnfegkiaaW.PrintMore Go.Proofs.Ytemeapfnfegkiaa.PR
set_option linter.unusedVariables false
set_option linter.unusedSimpArgs false
set_option linter.unusedSectionVars false

section
variable {H : Type} {enc : TypeId × Value → H} {P : Program} {w : World} {base : Nat} {spare : Nat → Bool} {held : Bool}
theorem slice_reach {t e : TypeId} {fuel n c L : Nat} {A : Option Addr} {x : DataW H × List MemPlace} (ht : P.underlying t = some (.slice e)) (h : DataW.trod enc P w base spare held fuel t [.slice A n c] = some x)
    (hw : ∀ m ∈ x.1.weights P t, m ≤ L) : n * P.bytesOf e ≤ L := by
  rcases open_slice ht h with ⟨h1, h2⟩ | ⟨a, len, cap, m, k, D, Pl, h1, hb, hl, hm, hmm, rfl, hx⟩
  · cases h1; simp
  · cases h1
    have := hw ((((List.range n).map D).length + ((List.range (m - n)).map fun j => D (n + j)).length) * P.bytesOf e) (by simp [DataW.weights, ht])
    exact Nat.le_trans (Nat.mul_le_mul_right _ (by simp)) this
end
section
variable {H : Type} {enc : TypeId × Value → H} {w : World} {base : Nat} {spare : Nat → Bool} {held : Bool}
theorem sheet_reach {D : Dat} {A4 : Option Addr} {c4 : Nat} {A5 : Option Addr} {c5 : Nat} {d : DataW H} {p : List MemPlace}
    (h : DataW.Trod enc Try.prog w base spare held 27 (.agg #[.string D.nm, .int .i64 D.rad, .int .i64 D.lo, .int .i64 D.hi, .slice A4 D.spots.length c4, .slice A5 D.told.length c5]) d p)
    (hw : ∀ m ∈ d.weights Try.prog 27, m ≤ reachBytes) : D.spots.length * 24 ≤ 140737488351232 ∧ D.told.length * 24 ≤ 140737488351232 := by
  have hC : Try.prog.cellsOf 27 = 6 := by kernel_rfl
  have hS : Try.prog.cellsOf 23 = 2 := by kernel_rfl
  have hI : Try.prog.cellsOf 3 = 1 := by kernel_rfl
  have hN : Try.prog.cellsOf 9 = 1 := by kernel_rfl
  have h4 : Try.prog.cellsOf 24 = 1 := by kernel_rfl
  have h5 : Try.prog.cellsOf 25 = 1 := by kernel_rfl
  have b4 : Try.prog.bytesOf 80 = 24 := by kernel_rfl
  have b5 : Try.prog.bytesOf 52 = 24 := by kernel_rfl
  have e27 := Try.underlying27
  have e24 := Try.underlying24
  have e25 := Try.underlying25
  generalize Try.prog = P at h hw hC hS hI hN h4 h5 b4 b5 e27 e24 e25
  obtain ⟨fuel, hf⟩ := h
  obtain ⟨xs, n, _, hx, _, hlen, hg⟩ := DataW.trod_struct e27 hf
  have g3 := hg 3 _ rfl
  have g4 := hg 4 _ rfl
  have hl5 : xs.length = 5 := hlen
  rw [List.getElem?_eq_getElem (by omega)] at g3 g4
  simp only [Value.cells, List.getElem_toArray, List.getElem_cons_zero, List.getElem_cons_succ, hN, hI, hS, h4, h5, List.drop_zero, List.drop_succ_cons, List.take_succ_cons, List.take_zero] at g3 g4
  obtain ⟨rfl, _⟩ := Prod.mk.inj hx
  have w3 := slice_reach e24 g3 (L := reachBytes) (fun m hm => hw m (by
    simp only [DataW.weights, e27]
    exact DataW.weights_mem_each (j := 3) (t := 24) rfl (by rw [List.getElem?_map, List.getElem?_eq_getElem (by omega)]; rfl) m hm))
  have w4 := slice_reach e25 g4 (L := reachBytes) (fun m hm => hw m (by
    simp only [DataW.weights, e27]
    exact DataW.weights_mem_each (j := 4) (t := 25) rfl (by rw [List.getElem?_map, List.getElem?_eq_getElem (by omega)]; rfl) m hm))
  rw [b4] at w3
  rw [b5] at w4
  exact ⟨w3, w4⟩
end
section
variable {H : Type} {enc : TypeId × Value → H} {w : World} {base : Nat} {spare : Nat → Bool} {held : Bool}
end
end Go.Proofs.Ytemeapfnfegkiaa.D
end
