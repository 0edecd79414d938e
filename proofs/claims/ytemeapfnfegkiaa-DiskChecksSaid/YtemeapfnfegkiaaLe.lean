/- Package disk: DiskChecks. -/
import Derived.Test.YtemeapfnfegkiaaQd
import Derived.Test.YtemeapfnfegkiaaLc
import Derived.Test.YtemeapfnfegkiaaLd
import Derived.Deep.RegionHeld3
namespace Go.Proofs.Ytemeapfnfegkiaa.D
open Go Go.RowKit Go.Proofs.YtemeapfnfegkiaaK Go.Proofs.YtemeapfnfegkiaaW.PrintWords Go.Proofs.YtemeapfnfegkiaaW.PrintLast Go.Proofs.YtemeapfnfegkiaaW.PrintMore Go.Proofs.Ytemeapfnfegkiaa.PR
set_option linter.unusedVariables false
set_option linter.unusedSimpArgs false

set_option maxRecDepth 100000 in
set_option maxHeartbeats 2000000 in
theorem DiskChecks_calls (D : Dat) (A4 : Option Addr) (c4 : Nat) (A5 : Option Addr) (c5 : Nat) (s : ByteArray) (w : World) (h : Arg w D A4 c4 A5 c5) (hs : s.size ≤ 9223372036854775807) :
    Calls Try.prog 3 #[.agg #[.string D.nm, .int .i64 D.rad, .int .i64 D.lo, .int .i64 D.hi, .slice A4 D.spots.length c4, .slice A5 D.told.length c5], .string s] w
      fun e w' => e = .returned (.bool true) ∧ Below w.heap.size w w' := by
  have hb1 := below_alloc (Below.refl w.heap.size w) (.cells #[.string D.nm, .int .i64 D.rad, .int .i64 D.lo, .int .i64 D.hi, .slice A4 D.spots.length c4, .slice A5 D.told.length c5] 27)
  have HB := Aside0.mk hb1
  have HS := Aside0.mk (blk_new w (.cells #[.string D.nm, .int .i64 D.rad, .int .i64 D.lo, .int .i64 D.hi, .slice A4 D.spots.length c4, .slice A5 D.told.length c5] 27))
  have HA := Aside0.mk (h.below hb1)
  clear h hb1
  obtain ⟨q, hq⟩ : ∃ q, w.heap.size = q := ⟨_, rfl⟩
  go_enter Try.func3, Try.ntmps3
  go_wp2_with fail
  generalize w.alloc (.cells #[.string D.nm, .int .i64 D.rad, .int .i64 D.lo, .int .i64 D.hi, .slice A4 D.spots.length c4, .slice A5 D.told.length c5] 27) = w1 at HB HS HA ⊢
  refine (Check_calls D A4 c4 A5 c5 w1 HA.out).mono ?_
  generalize hcF : checkF D = cF
  obtain ⟨r1, r2, r3⟩ := cF
  rintro e w2 ⟨rfl, hb⟩
  have HB2 := Aside0.mk (HB.out.trans (hb.mono HB.out.size))
  have HS2 := Aside0.mk (blk_below HS.out hb)
  have HA2 := Aside0.mk (HA.out.below hb)
  clear hb HB HS HA
  rw [hq] at HS2
  go_upto_region 2 with (fail)
  have k0 := (blk_cell HS2.out 0).trans rfl
  have k1 := (blk_cell HS2.out 1).trans rfl
  have k2 := (blk_cell HS2.out 2).trans rfl
  have k3 := (blk_cell HS2.out 3).trans rfl
  have k4 := (blk_cell HS2.out 4).trans rfl
  have k5 := (blk_cell HS2.out 5).trans rfl
  have kl := blk_lt HS2.out
  go_wp2_with fail
  clear k0 k1 k2 k3 k4 k5 kl
  obtain ⟨K, hK⟩ := (rCheck D HA2.out.nm HA2.out.s.2.1 HA2.out.t.2.1).rounds
  rw [hcF] at hK
  have HK := Aside0.mk hK
  clear hK
  refine (helioscoperef01_Check.calls K D.nm D.rad D.lo D.hi A4 c4 D.spots A5 c5 D.told r1 r2 r3 w2 HA2.out.s HA2.out.sc HA2.out.t HA2.out.tc HK.out).mono ?_
  rintro e w3 ⟨rfl, hb⟩
  have HB3 := Aside0.mk (HB2.out.trans (hb.mono HB2.out.size))
  clear hb HB2 HS2 HA2
  obtain ⟨K', hK'⟩ := (rName s hs).rounds
  have HK' := Aside0.mk hK'
  clear hK' HK hcF
  go_upto_region 3 with (fail)
  go_wp2_with fail
  refine (Name_calls s w3 hs).mono ?_
  rintro e w4 ⟨rfl, hb⟩
  have HB4 := Aside0.mk (HB3.out.trans (hb.mono HB3.out.size))
  clear hb HB3
  go_wp2_with fail
  refine (helioscoperef01_Name.calls K' s (nameB s) w4 HK'.out).mono ?_
  rintro e w5 ⟨rfl, hb⟩
  have HB5 := Aside0.mk (HB4.out.trans (hb.below.mono HB4.out.size))
  clear hb HB4
  go_wp2_with fail
  refine (Awake_calls w5).mono ?_
  rintro e w6 ⟨rfl, hb⟩
  have HB6 := Aside0.mk (HB5.out.trans (hb.mono HB5.out.size))
  clear hb HB5
  go_wp2
  go_ret
  exact ⟨rfl, HB6.out⟩
end Go.Proofs.Ytemeapfnfegkiaa.D
