/- Contracts of the functions that this claim reaches, with the words for them: pruned and packed by wip/tools/prune.py. -/
import Derived.Test.YtgoidclnccjdeaaVb
section
/- Package glass: Awake. -/
namespace Go.Proofs.Ytgoidclnccjdeaa.D
open Go Go.RowKit Go.Proofs.YtgoidclnccjdeaaK Go.Proofs.YtgoidclnccjdeaaW.PrintWords Go.Proofs.YtgoidclnccjdeaaW.PrintLast Go.Proofs.YtgoidclnccjdeaaW.PrintMore Go.Proofs.Ytgoidclnccjdeaa.PR Go.Proofs.Ytgoidclnccjdeaa.M
set_option linter.unusedVariables false
set_option linter.unusedSimpArgs false

theorem cell_below2 {w w' : World} {a : Addr} {v : Value} (h : w.cell? a = some v) (hb : Below w.heap.size w w') : w'.cell? a = some v := (Chg.of_below hb).cell h (fun hx => Nat.lt_irrefl _ (Nat.lt_of_lt_of_le (World.block_lt_of_cell? _ _ h) hx))
def awM : List Nat := [0, 1, 2, 3, 4, 5, 6, 7, 8, 9, 10, 11, 12, 13, 14, 15, 16, 17, 18, 19, 20, 21, 22, 23, 24, 25, 26, 27, 28, 29, 30, 31, 32, 33, 34, 35, 36, 37, 38, 39, 40, 41, 42, 43, 43, 45, 46, 47, 48, 48, 50, 51, 52, 53, 53, 55, 56, 57, 58, 58, 60, 61, 62, 63, 63, 65, 66, 67, 68, 68, 70, 71, 72, 73, 73, 75, 76, 77, 78, 78, 80, 81, 82, 83, 84, 85, 86, 87, 87, 89, 90, 91, 92, 92, 94, 95, 96]
set_option maxRecDepth 100000 in
set_option maxHeartbeats 12000000 in
theorem Awake_calls (w : World) : Calls Try.prog 25 #[] w fun e w' => e = .returned (.bool true) ∧ Below w.heap.size w w' := by
  go_enter Try.func25, Try.ntmps25
  go_wp2_with fail
  refine (Shelf_calls _).mono ?_
  rintro e w1 ⟨⟨A0s, c0s, A3s, c3s, A4s, c4s, rfl, has⟩, hb⟩
  have AS := Aside0.mk has
  have HB := Aside0.mk hb
  clear has hb
  go_wp2_with fail
  refine (wrongS_calls _).mono ?_
  rintro e w2 ⟨⟨A0w, c0w, A3w, c3w, A4w, c4w, rfl, haw⟩, hb⟩
  have AW := Aside0.mk haw
  clear haw
  have AS' := Aside0.mk (AS.out.below hb)
  have HB' := Aside0.mk (HB.out.trans (hb.mono HB.out.size))
  clear hb AS HB
  have AS := AS'
  have HB := HB'
  clear AS' HB'
  go_upto_region 2 with (fail)
  have hb : Below w2.heap.size w2 ((w2.alloc (.cells (exD.cells A0s c0s A3s c3s A4s c4s) 28)).alloc (.cells (exW.cells A0w c0w A3w c3w A4w c4w) 28)) := below_alloc (below_alloc (Below.refl _ _) _) _
  have TS : Aside0 (((w2.alloc (.cells (exD.cells A0s c0s A3s c3s A4s c4s) 28)).alloc (.cells (exW.cells A0w c0w A3w c3w A4w c4w) 28)).heap[w2.heap.size]? = some (.cells (exD.cells A0s c0s A3s c3s A4s c4s) 28 (0, 0))) := ⟨blk_alloc (blk_new _ _) _⟩
  have TW : Aside0 (((w2.alloc (.cells (exD.cells A0s c0s A3s c3s A4s c4s) 28)).alloc (.cells (exW.cells A0w c0w A3w c3w A4w c4w) 28)).heap[w2.heap.size + 1]? = some (.cells (exW.cells A0w c0w A3w c3w A4w c4w) 28 (0, 0))) := ⟨new_at (by simp) _⟩
  have AS' := Aside0.mk (AS.out.below hb)
  have HB' := Aside0.mk (HB.out.trans (hb.mono HB.out.size))
  have AW' := Aside0.mk (AW.out.below hb)
  clear hb AS HB AW
  have AS := AS'
  have HB := HB'
  have AW := AW'
  clear AS' HB' AW'
  generalize (w2.alloc (.cells (exD.cells A0s c0s A3s c3s A4s c4s) 28)).alloc (.cells (exW.cells A0w c0w A3w c3w A4w c4w) 28) = W at AS AW HB TS TW ⊢
  obtain ⟨t, ht⟩ : ∃ t, w2.heap.size = t := ⟨_, rfl⟩
  rw [ht] at TS TW ⊢
  clear ht
  have k0 := (blk_cell TS.out 0).trans rfl
  have k1 := (blk_cell TS.out 1).trans rfl
  have k2 := (blk_cell TS.out 2).trans rfl
  have k3 := (blk_cell TS.out 3).trans rfl
  have k4 := (blk_cell TS.out 4).trans rfl
  have kl := blk_lt TS.out
  go_wp2_with fail
  clear k0 k1 k2 k3 k4 kl
  refine (Size_calls exD A0s c0s A3s c3s A4s c4s 1 W AS.out).mono ?_
  rw [ex_size1, ex_esize1]
  rintro e X1 ⟨rfl, hb⟩
  have AS' := Aside0.mk (AS.out.below hb)
  have HB' := Aside0.mk (HB.out.trans (hb.mono HB.out.size))
  have AW' := Aside0.mk (AW.out.below hb)
  have TS' := Aside0.mk (blk_below TS.out hb)
  have TW' := Aside0.mk (blk_below TW.out hb)
  clear hb AS HB AW TS TW
  have AS := AS'
  have HB := HB'
  have AW := AW'
  have TS := TS'
  have TW := TW'
  clear AS' HB' AW' TS' TW'
  go_upto_region 3 with (fail)
  have hb : Below X1.heap.size X1 (X1.alloc (.cells #[.int .i64 9, .int .i64 11] 24)) := below_alloc (Below.refl _ _) _
  have SA0 : Aside0 ((X1.alloc (.cells #[.int .i64 9, .int .i64 11] 24)).heap[X1.heap.size]? = some (.cells #[.int .i64 9, .int .i64 11] 24 (0, 0))) := ⟨blk_new _ _⟩
  have AS' := Aside0.mk (AS.out.below hb)
  have HB' := Aside0.mk (HB.out.trans (hb.mono HB.out.size))
  have AW' := Aside0.mk (AW.out.below hb)
  have TS' := Aside0.mk (blk_below TS.out hb)
  have TW' := Aside0.mk (blk_below TW.out hb)
  clear hb AS HB AW TS TW
  have AS := AS'
  have HB := HB'
  have AW := AW'
  have TS := TS'
  have TW := TW'
  clear AS' HB' AW' TS' TW'
  have SA := SA0
  clear SA0
  generalize (X1.alloc (.cells #[.int .i64 9, .int .i64 11] 24)) = Y1 at AS HB AW TS TW SA ⊢
  obtain ⟨za, hza⟩ : ∃ b, X1.heap.size = b := ⟨_, rfl⟩
  rw [hza] at SA ⊢
  clear hza
  have k0 := (blk_cell TS.out 0).trans rfl
  have k1 := (blk_cell TS.out 1).trans rfl
  have k2 := (blk_cell TS.out 2).trans rfl
  have k3 := (blk_cell TS.out 3).trans rfl
  have k4 := (blk_cell TS.out 4).trans rfl
  have kl := blk_lt TS.out
  go_wp2_with fail
  clear k0 k1 k2 k3 k4 kl
  refine (Least_calls exD A0s c0s A3s c3s A4s c4s 0 Y1 AS.out).mono ?_
  rw [ex_least0, ex_eleast0]
  rintro e X2 ⟨rfl, hb⟩
  have AS' := Aside0.mk (AS.out.below hb)
  have HB' := Aside0.mk (HB.out.trans (hb.mono HB.out.size))
  have AW' := Aside0.mk (AW.out.below hb)
  have TS' := Aside0.mk (blk_below TS.out hb)
  have TW' := Aside0.mk (blk_below TW.out hb)
  have SA' := Aside0.mk (blk_below SA.out hb)
  clear hb AS HB AW TS TW SA
  have AS := AS'
  have HB := HB'
  have AW := AW'
  have TS := TS'
  have TW := TW'
  have SA := SA'
  clear AS' HB' AW' TS' TW' SA'
  go_upto_region 4 with (fail)
  have hb : Below X2.heap.size X2 (X2.alloc (.cells #[.int .i64 8, .int .i64 10] 24)) := below_alloc (Below.refl _ _) _
  have SB0 : Aside0 ((X2.alloc (.cells #[.int .i64 8, .int .i64 10] 24)).heap[X2.heap.size]? = some (.cells #[.int .i64 8, .int .i64 10] 24 (0, 0))) := ⟨blk_new _ _⟩
  have AS' := Aside0.mk (AS.out.below hb)
  have HB' := Aside0.mk (HB.out.trans (hb.mono HB.out.size))
  have AW' := Aside0.mk (AW.out.below hb)
  have TS' := Aside0.mk (blk_below TS.out hb)
  have TW' := Aside0.mk (blk_below TW.out hb)
  have SA' := Aside0.mk (blk_below SA.out hb)
  clear hb AS HB AW TS TW SA
  have AS := AS'
  have HB := HB'
  have AW := AW'
  have TS := TS'
  have TW := TW'
  have SA := SA'
  clear AS' HB' AW' TS' TW' SA'
  have SB := SB0
  clear SB0
  generalize (X2.alloc (.cells #[.int .i64 8, .int .i64 10] 24)) = Y2 at AS HB AW TS TW SA SB ⊢
  obtain ⟨zb, hzb⟩ : ∃ b, X2.heap.size = b := ⟨_, rfl⟩
  rw [hzb] at SB ⊢
  clear hzb
  have k0 := (blk_cell TS.out 0).trans rfl
  have k1 := (blk_cell TS.out 1).trans rfl
  have k2 := (blk_cell TS.out 2).trans rfl
  have k3 := (blk_cell TS.out 3).trans rfl
  have k4 := (blk_cell TS.out 4).trans rfl
  have kl := blk_lt TS.out
  go_wp2_with fail
  clear k0 k1 k2 k3 k4 kl
  refine (Dull_calls exD A0s c0s A3s c3s A4s c4s Y2 AS.out).mono ?_
  rw [ex_dull, ex_edull]
  rintro e X3 ⟨rfl, hb⟩
  have AS' := Aside0.mk (AS.out.below hb)
  have HB' := Aside0.mk (HB.out.trans (hb.mono HB.out.size))
  have AW' := Aside0.mk (AW.out.below hb)
  have TS' := Aside0.mk (blk_below TS.out hb)
  have TW' := Aside0.mk (blk_below TW.out hb)
  have SA' := Aside0.mk (blk_below SA.out hb)
  have SB' := Aside0.mk (blk_below SB.out hb)
  clear hb AS HB AW TS TW SA SB
  have AS := AS'
  have HB := HB'
  have AW := AW'
  have TS := TS'
  have TW := TW'
  have SA := SA'
  have SB := SB'
  clear AS' HB' AW' TS' TW' SA' SB'
  go_upto_region 5 with (fail)
  have hb : Below X3.heap.size X3 (X3.alloc (.cells #[.int .i64 1, .int .i64 1] 24)) := below_alloc (Below.refl _ _) _
  have SC0 : Aside0 ((X3.alloc (.cells #[.int .i64 1, .int .i64 1] 24)).heap[X3.heap.size]? = some (.cells #[.int .i64 1, .int .i64 1] 24 (0, 0))) := ⟨blk_new _ _⟩
  have AS' := Aside0.mk (AS.out.below hb)
  have HB' := Aside0.mk (HB.out.trans (hb.mono HB.out.size))
  have AW' := Aside0.mk (AW.out.below hb)
  have TS' := Aside0.mk (blk_below TS.out hb)
  have TW' := Aside0.mk (blk_below TW.out hb)
  have SA' := Aside0.mk (blk_below SA.out hb)
  have SB' := Aside0.mk (blk_below SB.out hb)
  clear hb AS HB AW TS TW SA SB
  have AS := AS'
  have HB := HB'
  have AW := AW'
  have TS := TS'
  have TW := TW'
  have SA := SA'
  have SB := SB'
  clear AS' HB' AW' TS' TW' SA' SB'
  have SC := SC0
  clear SC0
  generalize (X3.alloc (.cells #[.int .i64 1, .int .i64 1] 24)) = Y3 at AS HB AW TS TW SA SB SC ⊢
  obtain ⟨zc, hzc⟩ : ∃ b, X3.heap.size = b := ⟨_, rfl⟩
  rw [hzc] at SC ⊢
  clear hzc
  have k0 := (blk_cell TS.out 0).trans rfl
  have k1 := (blk_cell TS.out 1).trans rfl
  have k2 := (blk_cell TS.out 2).trans rfl
  have k3 := (blk_cell TS.out 3).trans rfl
  have k4 := (blk_cell TS.out 4).trans rfl
  have kl := blk_lt TS.out
  go_wp2_with fail
  clear k0 k1 k2 k3 k4 kl
  refine (Used_calls exD A0s c0s A3s c3s A4s c4s 1 Y3 AS.out).mono ?_
  rw [ex_used1, ex_eused1]
  rintro e X4 ⟨⟨v, rfl, hn⟩, hb⟩
  obtain ⟨Au, cu, rfl, hcu⟩ := hn.lit
  have Hu := Aside0.mk hcu
  clear hcu hn
  have AS' := Aside0.mk (AS.out.below hb)
  have HB' := Aside0.mk (HB.out.trans (hb.mono HB.out.size))
  have AW' := Aside0.mk (AW.out.below hb)
  have TS' := Aside0.mk (blk_below TS.out hb)
  have TW' := Aside0.mk (blk_below TW.out hb)
  have SA' := Aside0.mk (blk_below SA.out hb)
  have SB' := Aside0.mk (blk_below SB.out hb)
  have SC' := Aside0.mk (blk_below SC.out hb)
  clear hb AS HB AW TS TW SA SB SC
  have AS := AS'
  have HB := HB'
  have AW := AW'
  have TS := TS'
  have TW := TW'
  have SA := SA'
  have SB := SB'
  have SC := SC'
  clear AS' HB' AW' TS' TW' SA' SB' SC'
  go_upto_region 6 with (fail)
  have k0 := (blk_cell TS.out 0).trans rfl
  have k1 := (blk_cell TS.out 1).trans rfl
  have k2 := (blk_cell TS.out 2).trans rfl
  have k3 := (blk_cell TS.out 3).trans rfl
  have k4 := (blk_cell TS.out 4).trans rfl
  have kl := blk_lt TS.out
  go_wp2_with fail
  clear k0 k1 k2 k3 k4 kl
  refine (Sees_calls exD A0s c0s A3s c3s A4s c4s 1 0 X4 AS.out).mono ?_
  rw [ex_sees10, ex_esees10]
  rintro e X5 ⟨⟨u, v, rfl, hn, m, _, _, hn2⟩, hb⟩
  obtain ⟨Ap, cp, rfl, hcp⟩ := hn.lit
  have Hp := Aside0.mk hcp
  clear hcp hn
  obtain ⟨Aq, cq, rfl, hcq⟩ := hn2.lit
  have Hq := Aside0.mk hcq
  clear hcq hn2
  have AS' := Aside0.mk (AS.out.below hb)
  have HB' := Aside0.mk (HB.out.trans (hb.mono HB.out.size))
  have AW' := Aside0.mk (AW.out.below hb)
  have TS' := Aside0.mk (blk_below TS.out hb)
  have TW' := Aside0.mk (blk_below TW.out hb)
  have SA' := Aside0.mk (blk_below SA.out hb)
  have SB' := Aside0.mk (blk_below SB.out hb)
  have SC' := Aside0.mk (blk_below SC.out hb)
  have Hu' := Aside0.mk (Kd.C_below Hu.out hb)
  clear hb AS HB AW TS TW SA SB SC Hu
  have AS := AS'
  have HB := HB'
  have AW := AW'
  have TS := TS'
  have TW := TW'
  have SA := SA'
  have SB := SB'
  have SC := SC'
  have Hu := Hu'
  clear AS' HB' AW' TS' TW' SA' SB' SC' Hu'
  go_upto_region 7 with (fail)
  have k0 := (blk_cell TS.out 0).trans rfl
  have k1 := (blk_cell TS.out 1).trans rfl
  have k2 := (blk_cell TS.out 2).trans rfl
  have k3 := (blk_cell TS.out 3).trans rfl
  have k4 := (blk_cell TS.out 4).trans rfl
  have kl := blk_lt TS.out
  go_wp2_with fail
  clear k0 k1 k2 k3 k4 kl
  refine (Sees_calls exD A0s c0s A3s c3s A4s c4s 0 2 X5 AS.out).mono ?_
  rw [ex_sees02, ex_esees02]
  rintro e X6 ⟨⟨u, v, rfl, hn, m, _, _, hn2⟩, hb⟩
  obtain ⟨Ao, co, rfl, hco⟩ := hn.lit
  have Ho := Aside0.mk hco
  clear hco hn
  obtain ⟨Ar, cr, rfl, hcr⟩ := hn2.lit
  have Hr := Aside0.mk hcr
  clear hcr hn2
  have AS' := Aside0.mk (AS.out.below hb)
  have HB' := Aside0.mk (HB.out.trans (hb.mono HB.out.size))
  have AW' := Aside0.mk (AW.out.below hb)
  have TS' := Aside0.mk (blk_below TS.out hb)
  have TW' := Aside0.mk (blk_below TW.out hb)
  have SA' := Aside0.mk (blk_below SA.out hb)
  have SB' := Aside0.mk (blk_below SB.out hb)
  have SC' := Aside0.mk (blk_below SC.out hb)
  have Hu' := Aside0.mk (Kd.C_below Hu.out hb)
  have Hp' := Aside0.mk (Kd.C_below Hp.out hb)
  have Hq' := Aside0.mk (Kd.C_below Hq.out hb)
  clear hb AS HB AW TS TW SA SB SC Hu Hp Hq
  have AS := AS'
  have HB := HB'
  have AW := AW'
  have TS := TS'
  have TW := TW'
  have SA := SA'
  have SB := SB'
  have SC := SC'
  have Hu := Hu'
  have Hp := Hp'
  have Hq := Hq'
  clear AS' HB' AW' TS' TW' SA' SB' SC' Hu' Hp' Hq'
  go_upto_region 8 with (fail)
  have k0 := (blk_cell TS.out 0).trans rfl
  have k1 := (blk_cell TS.out 1).trans rfl
  have k2 := (blk_cell TS.out 2).trans rfl
  have k3 := (blk_cell TS.out 3).trans rfl
  have k4 := (blk_cell TS.out 4).trans rfl
  have kl := blk_lt TS.out
  go_wp2_with fail
  clear k0 k1 k2 k3 k4 kl
  refine (Larger_calls exD A0s c0s A3s c3s A4s c4s 1 0 X6 AS.out).mono ?_
  rw [ex_larger10, ex_elarger10]
  rintro e X7 ⟨rfl, hb⟩
  have AS' := Aside0.mk (AS.out.below hb)
  have HB' := Aside0.mk (HB.out.trans (hb.mono HB.out.size))
  have AW' := Aside0.mk (AW.out.below hb)
  have TS' := Aside0.mk (blk_below TS.out hb)
  have TW' := Aside0.mk (blk_below TW.out hb)
  have SA' := Aside0.mk (blk_below SA.out hb)
  have SB' := Aside0.mk (blk_below SB.out hb)
  have SC' := Aside0.mk (blk_below SC.out hb)
  have Hu' := Aside0.mk (Kd.C_below Hu.out hb)
  have Hp' := Aside0.mk (Kd.C_below Hp.out hb)
  have Hq' := Aside0.mk (Kd.C_below Hq.out hb)
  have Ho' := Aside0.mk (Kd.C_below Ho.out hb)
  have Hr' := Aside0.mk (Kd.C_below Hr.out hb)
  clear hb AS HB AW TS TW SA SB SC Hu Hp Hq Ho Hr
  have AS := AS'
  have HB := HB'
  have AW := AW'
  have TS := TS'
  have TW := TW'
  have SA := SA'
  have SB := SB'
  have SC := SC'
  have Hu := Hu'
  have Hp := Hp'
  have Hq := Hq'
  have Ho := Ho'
  have Hr := Hr'
  clear AS' HB' AW' TS' TW' SA' SB' SC' Hu' Hp' Hq' Ho' Hr'
  go_upto_region 9 with (fail)
  have k0 := (blk_cell TS.out 0).trans rfl
  have k1 := (blk_cell TS.out 1).trans rfl
  have k2 := (blk_cell TS.out 2).trans rfl
  have k3 := (blk_cell TS.out 3).trans rfl
  have k4 := (blk_cell TS.out 4).trans rfl
  have kl := blk_lt TS.out
  go_wp2_with fail
  clear k0 k1 k2 k3 k4 kl
  refine (Part_calls exD A0s c0s A3s c3s A4s c4s 2 1 2 X7 AS.out).mono ?_
  rw [ex_part212, ex_epart212]
  rintro e X8 ⟨⟨v, rfl, hn, _⟩, hb⟩
  obtain ⟨At, ct, rfl, hct⟩ := Row.lit hn (by decide)
  have Ht := Aside0.mk hct
  clear hct hn
  have AS' := Aside0.mk (AS.out.below hb)
  have HB' := Aside0.mk (HB.out.trans (hb.mono HB.out.size))
  have AW' := Aside0.mk (AW.out.below hb)
  have TS' := Aside0.mk (blk_below TS.out hb)
  have TW' := Aside0.mk (blk_below TW.out hb)
  have SA' := Aside0.mk (blk_below SA.out hb)
  have SB' := Aside0.mk (blk_below SB.out hb)
  have SC' := Aside0.mk (blk_below SC.out hb)
  have Hu' := Aside0.mk (Kd.C_below Hu.out hb)
  have Hp' := Aside0.mk (Kd.C_below Hp.out hb)
  have Hq' := Aside0.mk (Kd.C_below Hq.out hb)
  have Ho' := Aside0.mk (Kd.C_below Ho.out hb)
  have Hr' := Aside0.mk (Kd.C_below Hr.out hb)
  clear hb AS HB AW TS TW SA SB SC Hu Hp Hq Ho Hr
  have AS := AS'
  have HB := HB'
  have AW := AW'
  have TS := TS'
  have TW := TW'
  have SA := SA'
  have SB := SB'
  have SC := SC'
  have Hu := Hu'
  have Hp := Hp'
  have Hq := Hq'
  have Ho := Ho'
  have Hr := Hr'
  clear AS' HB' AW' TS' TW' SA' SB' SC' Hu' Hp' Hq' Ho' Hr'
  go_upto_region 10 with (fail)
  have k0 := (blk_cell TW.out 0).trans rfl
  have k1 := (blk_cell TW.out 1).trans rfl
  have k2 := (blk_cell TW.out 2).trans rfl
  have k3 := (blk_cell TW.out 3).trans rfl
  have k4 := (blk_cell TW.out 4).trans rfl
  have kl := blk_lt TW.out
  go_wp2_with fail
  clear k0 k1 k2 k3 k4 kl
  refine (Wrong_calls exW A0w c0w A3w c3w A4w c4w X8 AW.out).mono ?_
  rw [ex_wrong]
  rintro e X9 ⟨⟨v, rfl, hn⟩, hb⟩
  obtain ⟨Ab, cb, rfl, hcb⟩ := hn.lit
  have Hb := Aside0.mk hcb
  clear hcb hn
  have AS' := Aside0.mk (AS.out.below hb)
  have HB' := Aside0.mk (HB.out.trans (hb.mono HB.out.size))
  have AW' := Aside0.mk (AW.out.below hb)
  have TS' := Aside0.mk (blk_below TS.out hb)
  have TW' := Aside0.mk (blk_below TW.out hb)
  have SA' := Aside0.mk (blk_below SA.out hb)
  have SB' := Aside0.mk (blk_below SB.out hb)
  have SC' := Aside0.mk (blk_below SC.out hb)
  have Hu' := Aside0.mk (Kd.C_below Hu.out hb)
  have Hp' := Aside0.mk (Kd.C_below Hp.out hb)
  have Hq' := Aside0.mk (Kd.C_below Hq.out hb)
  have Ho' := Aside0.mk (Kd.C_below Ho.out hb)
  have Hr' := Aside0.mk (Kd.C_below Hr.out hb)
  have Ht' := Aside0.mk (Kd.C_below Ht.out hb)
  clear hb AS HB AW TS TW SA SB SC Hu Hp Hq Ho Hr Ht
  have AS := AS'
  have HB := HB'
  have AW := AW'
  have TS := TS'
  have TW := TW'
  have SA := SA'
  have SB := SB'
  have SC := SC'
  have Hu := Hu'
  have Hp := Hp'
  have Hq := Hq'
  have Ho := Ho'
  have Hr := Hr'
  have Ht := Ht'
  clear AS' HB' AW' TS' TW' SA' SB' SC' Hu' Hp' Hq' Ho' Hr' Ht'
  go_upto_region 11 with (fail)
  have k0 := (blk_cell TW.out 0).trans rfl
  have k1 := (blk_cell TW.out 1).trans rfl
  have k2 := (blk_cell TW.out 2).trans rfl
  have k3 := (blk_cell TW.out 3).trans rfl
  have k4 := (blk_cell TW.out 4).trans rfl
  have kl := blk_lt TW.out
  go_wp2_with fail
  clear k0 k1 k2 k3 k4 kl
  refine (Dull_calls exW A0w c0w A3w c3w A4w c4w X9 AW.out).mono ?_
  rw [ex_dullW, ex_edullW]
  rintro e X10 ⟨rfl, hb⟩
  have AS' := Aside0.mk (AS.out.below hb)
  have HB' := Aside0.mk (HB.out.trans (hb.mono HB.out.size))
  have AW' := Aside0.mk (AW.out.below hb)
  have TS' := Aside0.mk (blk_below TS.out hb)
  have TW' := Aside0.mk (blk_below TW.out hb)
  have SA' := Aside0.mk (blk_below SA.out hb)
  have SB' := Aside0.mk (blk_below SB.out hb)
  have SC' := Aside0.mk (blk_below SC.out hb)
  have Hu' := Aside0.mk (Kd.C_below Hu.out hb)
  have Hp' := Aside0.mk (Kd.C_below Hp.out hb)
  have Hq' := Aside0.mk (Kd.C_below Hq.out hb)
  have Ho' := Aside0.mk (Kd.C_below Ho.out hb)
  have Hr' := Aside0.mk (Kd.C_below Hr.out hb)
  have Ht' := Aside0.mk (Kd.C_below Ht.out hb)
  have Hb' := Aside0.mk (Kd.C_below Hb.out hb)
  clear hb AS HB AW TS TW SA SB SC Hu Hp Hq Ho Hr Ht Hb
  have AS := AS'
  have HB := HB'
  have AW := AW'
  have TS := TS'
  have TW := TW'
  have SA := SA'
  have SB := SB'
  have SC := SC'
  have Hu := Hu'
  have Hp := Hp'
  have Hq := Hq'
  have Ho := Ho'
  have Hr := Hr'
  have Ht := Ht'
  have Hb := Hb'
  clear AS' HB' AW' TS' TW' SA' SB' SC' Hu' Hp' Hq' Ho' Hr' Ht' Hb'
  go_upto_region 12 with (fail)
  have hb : Below X10.heap.size X10 (X10.alloc (.cells #[.int .i64 0, .int .i64 0] 24)) := below_alloc (Below.refl _ _) _
  have SD0 : Aside0 ((X10.alloc (.cells #[.int .i64 0, .int .i64 0] 24)).heap[X10.heap.size]? = some (.cells #[.int .i64 0, .int .i64 0] 24 (0, 0))) := ⟨blk_new _ _⟩
  have AS' := Aside0.mk (AS.out.below hb)
  have HB' := Aside0.mk (HB.out.trans (hb.mono HB.out.size))
  have AW' := Aside0.mk (AW.out.below hb)
  have TS' := Aside0.mk (blk_below TS.out hb)
  have TW' := Aside0.mk (blk_below TW.out hb)
  have SA' := Aside0.mk (blk_below SA.out hb)
  have SB' := Aside0.mk (blk_below SB.out hb)
  have SC' := Aside0.mk (blk_below SC.out hb)
  have Hu' := Aside0.mk (Kd.C_below Hu.out hb)
  have Hp' := Aside0.mk (Kd.C_below Hp.out hb)
  have Hq' := Aside0.mk (Kd.C_below Hq.out hb)
  have Ho' := Aside0.mk (Kd.C_below Ho.out hb)
  have Hr' := Aside0.mk (Kd.C_below Hr.out hb)
  have Ht' := Aside0.mk (Kd.C_below Ht.out hb)
  have Hb' := Aside0.mk (Kd.C_below Hb.out hb)
  clear hb AS HB AW TS TW SA SB SC Hu Hp Hq Ho Hr Ht Hb
  have AS := AS'
  have HB := HB'
  have AW := AW'
  have TS := TS'
  have TW := TW'
  have SA := SA'
  have SB := SB'
  have SC := SC'
  have Hu := Hu'
  have Hp := Hp'
  have Hq := Hq'
  have Ho := Ho'
  have Hr := Hr'
  have Ht := Ht'
  have Hb := Hb'
  clear AS' HB' AW' TS' TW' SA' SB' SC' Hu' Hp' Hq' Ho' Hr' Ht' Hb'
  have SD := SD0
  clear SD0
  generalize (X10.alloc (.cells #[.int .i64 0, .int .i64 0] 24)) = Y10 at AS HB AW TS TW SA SB SC Hu Hp Hq Ho Hr Ht Hb SD ⊢
  obtain ⟨zd, hzd⟩ : ∃ b, X10.heap.size = b := ⟨_, rfl⟩
  rw [hzd] at SD ⊢
  clear hzd
  have k0 := (blk_cell TS.out 0).trans rfl
  have k1 := (blk_cell TS.out 1).trans rfl
  have k2 := (blk_cell TS.out 2).trans rfl
  have k3 := (blk_cell TS.out 3).trans rfl
  have k4 := (blk_cell TS.out 4).trans rfl
  have kl := blk_lt TS.out
  go_wp2_with fail
  clear k0 k1 k2 k3 k4 kl
  refine (Larger_calls exD A0s c0s A3s c3s A4s c4s 2 2 Y10 AS.out).mono ?_
  rw [ex_larger22, ex_elarger22]
  rintro e X11 ⟨rfl, hb⟩
  have AS' := Aside0.mk (AS.out.below hb)
  have HB' := Aside0.mk (HB.out.trans (hb.mono HB.out.size))
  have AW' := Aside0.mk (AW.out.below hb)
  have TS' := Aside0.mk (blk_below TS.out hb)
  have TW' := Aside0.mk (blk_below TW.out hb)
  have SA' := Aside0.mk (blk_below SA.out hb)
  have SB' := Aside0.mk (blk_below SB.out hb)
  have SC' := Aside0.mk (blk_below SC.out hb)
  have Hu' := Aside0.mk (Kd.C_below Hu.out hb)
  have Hp' := Aside0.mk (Kd.C_below Hp.out hb)
  have Hq' := Aside0.mk (Kd.C_below Hq.out hb)
  have Ho' := Aside0.mk (Kd.C_below Ho.out hb)
  have Hr' := Aside0.mk (Kd.C_below Hr.out hb)
  have Ht' := Aside0.mk (Kd.C_below Ht.out hb)
  have Hb' := Aside0.mk (Kd.C_below Hb.out hb)
  have SD' := Aside0.mk (blk_below SD.out hb)
  clear hb AS HB AW TS TW SA SB SC Hu Hp Hq Ho Hr Ht Hb SD
  have AS := AS'
  have HB := HB'
  have AW := AW'
  have TS := TS'
  have TW := TW'
  have SA := SA'
  have SB := SB'
  have SC := SC'
  have Hu := Hu'
  have Hp := Hp'
  have Hq := Hq'
  have Ho := Ho'
  have Hr := Hr'
  have Ht := Ht'
  have Hb := Hb'
  have SD := SD'
  clear AS' HB' AW' TS' TW' SA' SB' SC' Hu' Hp' Hq' Ho' Hr' Ht' Hb' SD'
  go_upto_region 13 with (fail)
  simp only [List.append_eq, List.cons_append, List.nil_append]
  clear AS AW TS TW SD
  refine wp_region_held_drew (S := fun w' : World => w'.cell? ⟨za, 0, none⟩ = some (.int .i64 9) ∧ w'.cell? ⟨za, 1, none⟩ = some (.int .i64 11) ∧ w'.cell? ⟨zb, 0, none⟩ = some (.int .i64 8) ∧ w'.cell? ⟨zb, 1, none⟩ = some (.int .i64 10) ∧ w'.cell? ⟨zc, 0, none⟩ = some (.int .i64 1) ∧ w'.cell? ⟨zc, 1, none⟩ = some (.int .i64 1)) (by as_aux_lemma => kernel_rfl) ⟨(blk_cell SA.out 0).trans rfl, (blk_cell SA.out 1).trans rfl, (blk_cell SB.out 0).trans rfl, (blk_cell SB.out 1).trans rfl, (blk_cell SC.out 0).trans rfl, (blk_cell SC.out 1).trans rfl⟩ (fun hHeld => ?_)
  have HBd := Aside0.mk (below_drew1 HB.out)
  have Hud := Aside0.mk (Kd.C_drew Hu.out)
  have Hpd := Aside0.mk (Kd.C_drew Hp.out)
  have Hqd := Aside0.mk (Kd.C_drew Hq.out)
  have Hod := Aside0.mk (Kd.C_drew Ho.out)
  have Hrd := Aside0.mk (Kd.C_drew Hr.out)
  have Htd := Aside0.mk (Kd.C_drew Ht.out)
  have Hbd := Aside0.mk (Kd.C_drew Hb.out)
  clear SA SB SC HB Hu Hp Hq Ho Hr Ht Hb
  generalize X11.drew = wd at hHeld HBd Hud Hpd Hqd Hod Hrd Htd Hbd ⊢
  refine wpAnyH_start 97 (by as_aux_lemma => kernel_rfl) ?_
  refine wpAnyH_seg 0 43 54 hHeld (by simp only [List.drop_succ_cons, List.drop_zero, List.length_cons, List.length_nil]; decide) (by decide) (by as_aux_lemma => kernel_rfl) (M := awM) (by as_aux_lemma => kernel_rfl) (by as_aux_lemma => kernel_rfl) ?_
  simp only [List.drop_succ_cons, List.take_succ_cons, List.drop_zero, List.take_zero]
  still_step
  still_step
  still_step
  still_step
  still_step
  still_step
  still_step
  still_step
  still_step
  still_step
  still_step
  still_step
  still_step
  still_step
  still_step
  still_step
  still_step
  still_step
  still_step
  still_step
  still_step
  still_step
  still_step
  still_step
  still_step
  still_step
  still_step
  still_step
  still_step
  still_step
  still_step
  still_step
  still_step
  still_step
  still_step
  still_step
  still_step
  still_step
  still_step
  still_step
  still_step
  still_step
  still_step
  refine wpStill_nil ?_
  refine wpAnyH_load (i := 43) (v := .agg #[.int .i64 9, .int .i64 11]) (by decide) rfl (by as_aux_lemma => kernel_rfl) (by as_aux_lemma => kernel_rfl) (by as_aux_lemma => kernel_rfl) (fun _ _ _ h => h) (Or.inl ⟨by rfl, ?_⟩) hHeld ?_
  · intro w hSw
    obtain ⟨h0, h1, h2, h3, h4, h5⟩ := hSw
    go_simp
    try rfl
  simp only [Act.put, List.setIfInBounds_toArray, List.set_cons_zero, List.set_cons_succ]
  refine wpAnyH_one (i := 44) (by decide) rfl (by as_aux_lemma => kernel_rfl) (M := awM) (by as_aux_lemma => kernel_rfl) (by as_aux_lemma => kernel_rfl) (fun K hK => ?_)
  go_simp
  refine (span_calls2 _ _ _).mono ?_
  rintro e w' ⟨rfl, hbw⟩
  refine named (fun w' : World => Below wd.heap.size wd w') (hbw) ?_
  rintro v1 hbv
  obtain ⟨h0, h1, h2, h3, h4, h5⟩ := hHeld
  replace h0 := cell_below2 h0 hbv
  replace h1 := cell_below2 h1 hbv
  replace h2 := cell_below2 h2 hbv
  replace h3 := cell_below2 h3 hbv
  replace h4 := cell_below2 h4 hbv
  replace h5 := cell_below2 h5 hbv
  replace HBd := Aside0.mk (HBd.out.trans (hbv.mono HBd.out.size))
  replace Hud := Aside0.mk (Kd.C_below Hud.out hbv)
  replace Hpd := Aside0.mk (Kd.C_below Hpd.out hbv)
  replace Hqd := Aside0.mk (Kd.C_below Hqd.out hbv)
  replace Hod := Aside0.mk (Kd.C_below Hod.out hbv)
  replace Hrd := Aside0.mk (Kd.C_below Hrd.out hbv)
  replace Htd := Aside0.mk (Kd.C_below Htd.out hbv)
  replace Hbd := Aside0.mk (Kd.C_below Hbd.out hbv)
  refine hK.out _ _ ⟨h0, h1, h2, h3, h4, h5⟩ (fun hHeld => ?_)
  clear h0 h1 h2 h3 h4 h5 hbv
  clear hK K
  try simp only [Act.put, List.setIfInBounds_toArray, List.set_cons_zero, List.set_cons_succ]
  refine wpAnyH_seg 45 3 49 hHeld (by simp only [List.drop_succ_cons, List.drop_zero, List.length_cons, List.length_nil]; decide) (by decide) (by as_aux_lemma => kernel_rfl) (M := awM) (by as_aux_lemma => kernel_rfl) (by as_aux_lemma => kernel_rfl) ?_
  simp only [List.drop_succ_cons, List.take_succ_cons, List.drop_zero, List.take_zero]
  still_step
  still_step
  still_step
  refine wpStill_nil ?_
  refine wpAnyH_load (i := 48) (v := .agg #[.int .i64 8, .int .i64 10]) (by decide) rfl (by as_aux_lemma => kernel_rfl) (by as_aux_lemma => kernel_rfl) (by as_aux_lemma => kernel_rfl) (fun _ _ _ h => h) (Or.inl ⟨by rfl, ?_⟩) hHeld ?_
  · intro w hSw
    obtain ⟨h0, h1, h2, h3, h4, h5⟩ := hSw
    go_simp
    try rfl
  simp only [Act.put, List.setIfInBounds_toArray, List.set_cons_zero, List.set_cons_succ]
  refine wpAnyH_one (i := 49) (by decide) rfl (by as_aux_lemma => kernel_rfl) (M := awM) (by as_aux_lemma => kernel_rfl) (by as_aux_lemma => kernel_rfl) (fun K hK => ?_)
  go_simp
  refine (span_calls2 _ _ _).mono ?_
  rintro e w' ⟨rfl, hbw⟩
  refine named (fun w' : World => Below v1.heap.size v1 w') (hbw) ?_
  rintro v2 hbv
  obtain ⟨h0, h1, h2, h3, h4, h5⟩ := hHeld
  replace h0 := cell_below2 h0 hbv
  replace h1 := cell_below2 h1 hbv
  replace h2 := cell_below2 h2 hbv
  replace h3 := cell_below2 h3 hbv
  replace h4 := cell_below2 h4 hbv
  replace h5 := cell_below2 h5 hbv
  replace HBd := Aside0.mk (HBd.out.trans (hbv.mono HBd.out.size))
  replace Hud := Aside0.mk (Kd.C_below Hud.out hbv)
  replace Hpd := Aside0.mk (Kd.C_below Hpd.out hbv)
  replace Hqd := Aside0.mk (Kd.C_below Hqd.out hbv)
  replace Hod := Aside0.mk (Kd.C_below Hod.out hbv)
  replace Hrd := Aside0.mk (Kd.C_below Hrd.out hbv)
  replace Htd := Aside0.mk (Kd.C_below Htd.out hbv)
  replace Hbd := Aside0.mk (Kd.C_below Hbd.out hbv)
  refine hK.out _ _ ⟨h0, h1, h2, h3, h4, h5⟩ (fun hHeld => ?_)
  clear h0 h1 h2 h3 h4 h5 hbv
  clear hK K
  try simp only [Act.put, List.setIfInBounds_toArray, List.set_cons_zero, List.set_cons_succ]
  refine wpAnyH_seg 50 3 44 hHeld (by simp only [List.drop_succ_cons, List.drop_zero, List.length_cons, List.length_nil]; decide) (by decide) (by as_aux_lemma => kernel_rfl) (M := awM) (by as_aux_lemma => kernel_rfl) (by as_aux_lemma => kernel_rfl) ?_
  simp only [List.drop_succ_cons, List.take_succ_cons, List.drop_zero, List.take_zero]
  still_step
  still_step
  still_step
  refine wpStill_nil ?_
  refine wpAnyH_load (i := 53) (v := .agg #[.int .i64 1, .int .i64 1]) (by decide) rfl (by as_aux_lemma => kernel_rfl) (by as_aux_lemma => kernel_rfl) (by as_aux_lemma => kernel_rfl) (fun _ _ _ h => h) (Or.inl ⟨by rfl, ?_⟩) hHeld ?_
  · intro w hSw
    obtain ⟨h0, h1, h2, h3, h4, h5⟩ := hSw
    go_simp
    try rfl
  simp only [Act.put, List.setIfInBounds_toArray, List.set_cons_zero, List.set_cons_succ]
  refine wpAnyH_one (i := 54) (by decide) rfl (by as_aux_lemma => kernel_rfl) (M := awM) (by as_aux_lemma => kernel_rfl) (by as_aux_lemma => kernel_rfl) (fun K hK => ?_)
  go_simp
  refine (span_calls2 _ _ _).mono ?_
  rintro e w' ⟨rfl, hbw⟩
  refine named (fun w' : World => Below v2.heap.size v2 w') (hbw) ?_
  rintro v3 hbv
  obtain ⟨h0, h1, h2, h3, h4, h5⟩ := hHeld
  replace h0 := cell_below2 h0 hbv
  replace h1 := cell_below2 h1 hbv
  replace h2 := cell_below2 h2 hbv
  replace h3 := cell_below2 h3 hbv
  replace h4 := cell_below2 h4 hbv
  replace h5 := cell_below2 h5 hbv
  replace HBd := Aside0.mk (HBd.out.trans (hbv.mono HBd.out.size))
  replace Hud := Aside0.mk (Kd.C_below Hud.out hbv)
  replace Hpd := Aside0.mk (Kd.C_below Hpd.out hbv)
  replace Hqd := Aside0.mk (Kd.C_below Hqd.out hbv)
  replace Hod := Aside0.mk (Kd.C_below Hod.out hbv)
  replace Hrd := Aside0.mk (Kd.C_below Hrd.out hbv)
  replace Htd := Aside0.mk (Kd.C_below Htd.out hbv)
  replace Hbd := Aside0.mk (Kd.C_below Hbd.out hbv)
  refine hK.out _ _ ⟨h0, h1, h2, h3, h4, h5⟩ (fun hHeld => ?_)
  clear h0 h1 h2 h3 h4 h5 hbv
  clear hK K
  try simp only [Act.put, List.setIfInBounds_toArray, List.set_cons_zero, List.set_cons_succ]
  refine wpAnyH_seg 55 3 39 hHeld (by simp only [List.drop_succ_cons, List.drop_zero, List.length_cons, List.length_nil]; decide) (by decide) (by as_aux_lemma => kernel_rfl) (M := awM) (by as_aux_lemma => kernel_rfl) (by as_aux_lemma => kernel_rfl) ?_
  simp only [List.drop_succ_cons, List.take_succ_cons, List.drop_zero, List.take_zero]
  still_step
  still_step
  still_step
  refine wpStill_nil ?_
  refine wpAnyH_load (i := 58) (v := .slice Au 1 cu) (by decide) rfl (by as_aux_lemma => kernel_rfl) (by as_aux_lemma => kernel_rfl) (by as_aux_lemma => kernel_rfl) (fun _ _ _ h => h) (Or.inl ⟨by rfl, ?_⟩) hHeld ?_
  · intro w hSw
    clear hSw
    go_simp
    try rfl
  simp only [Act.put, List.setIfInBounds_toArray, List.set_cons_zero, List.set_cons_succ]
  refine wpAnyH_one (i := 59) (by decide) rfl (by as_aux_lemma => kernel_rfl) (M := awM) (by as_aux_lemma => kernel_rfl) (by as_aux_lemma => kernel_rfl) (fun K hK => ?_)
  go_simp
  obtain ⟨ad_u, had_u⟩ : ∃ a, v3.heap.size = a := ⟨_, rfl⟩
  try rw [had_u]
  refine named (fun w' : World => Below v3.heap.size v3 w' ∧ Kd.C (Kd.int .i64) w' (some ⟨ad_u, 0, none⟩) 1 [0]) ⟨below_alloc (Below.refl _ _) _, by rw [← had_u]; exact C_lit (l := [0]) (blk_new v3 (.cells #[.int .i64 0] 3)) (by decide)⟩ ?_
  rintro v4 ⟨hbv, hnf0⟩
  obtain ⟨h0, h1, h2, h3, h4, h5⟩ := hHeld
  replace h0 := cell_below2 h0 hbv
  replace h1 := cell_below2 h1 hbv
  replace h2 := cell_below2 h2 hbv
  replace h3 := cell_below2 h3 hbv
  replace h4 := cell_below2 h4 hbv
  replace h5 := cell_below2 h5 hbv
  replace HBd := Aside0.mk (HBd.out.trans (hbv.mono HBd.out.size))
  replace Hud := Aside0.mk (Kd.C_below Hud.out hbv)
  replace Hpd := Aside0.mk (Kd.C_below Hpd.out hbv)
  replace Hqd := Aside0.mk (Kd.C_below Hqd.out hbv)
  replace Hod := Aside0.mk (Kd.C_below Hod.out hbv)
  replace Hrd := Aside0.mk (Kd.C_below Hrd.out hbv)
  replace Htd := Aside0.mk (Kd.C_below Htd.out hbv)
  replace Hbd := Aside0.mk (Kd.C_below Hbd.out hbv)
  refine hK.out _ _ ⟨h0, h1, h2, h3, h4, h5⟩ (fun hHeld => ?_)
  clear h0 h1 h2 h3 h4 h5 hbv
  clear hK K
  try simp only [Act.put, List.setIfInBounds_toArray, List.set_cons_zero, List.set_cons_succ]
  clear had_u
  refine wpAnyH_one (i := 60) (by decide) rfl (by as_aux_lemma => kernel_rfl) (M := awM) (by as_aux_lemma => kernel_rfl) (by as_aux_lemma => kernel_rfl) (fun K hK => ?_)
  go_simp
  refine (Ints_calls [0] [0] _ _ 1 1 _ _ _ rfl rfl Hud.out hnf0).mono ?_
  rintro e w' ⟨rfl, hcw⟩
  refine named (fun w' : World => Below v4.heap.size v4 w') (hcw.below (fun _ _ x => x.elim) (Nat.le_refl _)) ?_
  rintro v5 hbv
  obtain ⟨h0, h1, h2, h3, h4, h5⟩ := hHeld
  replace h0 := cell_below2 h0 hbv
  replace h1 := cell_below2 h1 hbv
  replace h2 := cell_below2 h2 hbv
  replace h3 := cell_below2 h3 hbv
  replace h4 := cell_below2 h4 hbv
  replace h5 := cell_below2 h5 hbv
  replace HBd := Aside0.mk (HBd.out.trans (hbv.mono HBd.out.size))
  replace Hud := Aside0.mk (Kd.C_below Hud.out hbv)
  replace Hpd := Aside0.mk (Kd.C_below Hpd.out hbv)
  replace Hqd := Aside0.mk (Kd.C_below Hqd.out hbv)
  replace Hod := Aside0.mk (Kd.C_below Hod.out hbv)
  replace Hrd := Aside0.mk (Kd.C_below Hrd.out hbv)
  replace Htd := Aside0.mk (Kd.C_below Htd.out hbv)
  replace Hbd := Aside0.mk (Kd.C_below Hbd.out hbv)
  refine hK.out _ _ ⟨h0, h1, h2, h3, h4, h5⟩ (fun hHeld => ?_)
  clear h0 h1 h2 h3 h4 h5 hbv
  clear hK K
  try simp only [Act.put, List.setIfInBounds_toArray, List.set_cons_zero, List.set_cons_succ]
  clear hnf0
  refine wpAnyH_seg 61 2 34 hHeld (by simp only [List.drop_succ_cons, List.drop_zero, List.length_cons, List.length_nil]; decide) (by decide) (by as_aux_lemma => kernel_rfl) (M := awM) (by as_aux_lemma => kernel_rfl) (by as_aux_lemma => kernel_rfl) ?_
  simp only [List.drop_succ_cons, List.take_succ_cons, List.drop_zero, List.take_zero]
  still_step
  still_step
  refine wpStill_nil ?_
  refine wpAnyH_load (i := 63) (v := .slice Ap 2 cp) (by decide) rfl (by as_aux_lemma => kernel_rfl) (by as_aux_lemma => kernel_rfl) (by as_aux_lemma => kernel_rfl) (fun _ _ _ h => h) (Or.inl ⟨by rfl, ?_⟩) hHeld ?_
  · intro w hSw
    clear hSw
    go_simp
    try rfl
  simp only [Act.put, List.setIfInBounds_toArray, List.set_cons_zero, List.set_cons_succ]
  refine wpAnyH_one (i := 64) (by decide) rfl (by as_aux_lemma => kernel_rfl) (M := awM) (by as_aux_lemma => kernel_rfl) (by as_aux_lemma => kernel_rfl) (fun K hK => ?_)
  go_simp
  obtain ⟨ad_p, had_p⟩ : ∃ a, v5.heap.size = a := ⟨_, rfl⟩
  try rw [had_p]
  refine named (fun w' : World => Below v5.heap.size v5 w' ∧ Kd.C (Kd.int .i64) w' (some ⟨ad_p, 0, none⟩) 2 [1, 2]) ⟨below_alloc (Below.refl _ _) _, by rw [← had_p]; exact C_lit (l := [1, 2]) (blk_new v5 (.cells #[.int .i64 1, .int .i64 2] 3)) (by decide)⟩ ?_
  rintro v6 ⟨hbv, hnf0⟩
  obtain ⟨h0, h1, h2, h3, h4, h5⟩ := hHeld
  replace h0 := cell_below2 h0 hbv
  replace h1 := cell_below2 h1 hbv
  replace h2 := cell_below2 h2 hbv
  replace h3 := cell_below2 h3 hbv
  replace h4 := cell_below2 h4 hbv
  replace h5 := cell_below2 h5 hbv
  replace HBd := Aside0.mk (HBd.out.trans (hbv.mono HBd.out.size))
  replace Hpd := Aside0.mk (Kd.C_below Hpd.out hbv)
  replace Hqd := Aside0.mk (Kd.C_below Hqd.out hbv)
  replace Hod := Aside0.mk (Kd.C_below Hod.out hbv)
  replace Hrd := Aside0.mk (Kd.C_below Hrd.out hbv)
  replace Htd := Aside0.mk (Kd.C_below Htd.out hbv)
  replace Hbd := Aside0.mk (Kd.C_below Hbd.out hbv)
  refine hK.out _ _ ⟨h0, h1, h2, h3, h4, h5⟩ (fun hHeld => ?_)
  clear h0 h1 h2 h3 h4 h5 hbv
  clear hK K
  try simp only [Act.put, List.setIfInBounds_toArray, List.set_cons_zero, List.set_cons_succ]
  clear had_p
  refine wpAnyH_one (i := 65) (by decide) rfl (by as_aux_lemma => kernel_rfl) (M := awM) (by as_aux_lemma => kernel_rfl) (by as_aux_lemma => kernel_rfl) (fun K hK => ?_)
  go_simp
  refine (Ints_calls [1, 2] [1, 2] _ _ 2 2 _ _ _ rfl rfl Hpd.out hnf0).mono ?_
  rintro e w' ⟨rfl, hcw⟩
  refine named (fun w' : World => Below v6.heap.size v6 w') (hcw.below (fun _ _ x => x.elim) (Nat.le_refl _)) ?_
  rintro v7 hbv
  obtain ⟨h0, h1, h2, h3, h4, h5⟩ := hHeld
  replace h0 := cell_below2 h0 hbv
  replace h1 := cell_below2 h1 hbv
  replace h2 := cell_below2 h2 hbv
  replace h3 := cell_below2 h3 hbv
  replace h4 := cell_below2 h4 hbv
  replace h5 := cell_below2 h5 hbv
  replace HBd := Aside0.mk (HBd.out.trans (hbv.mono HBd.out.size))
  replace Hpd := Aside0.mk (Kd.C_below Hpd.out hbv)
  replace Hqd := Aside0.mk (Kd.C_below Hqd.out hbv)
  replace Hod := Aside0.mk (Kd.C_below Hod.out hbv)
  replace Hrd := Aside0.mk (Kd.C_below Hrd.out hbv)
  replace Htd := Aside0.mk (Kd.C_below Htd.out hbv)
  replace Hbd := Aside0.mk (Kd.C_below Hbd.out hbv)
  refine hK.out _ _ ⟨h0, h1, h2, h3, h4, h5⟩ (fun hHeld => ?_)
  clear h0 h1 h2 h3 h4 h5 hbv
  clear hK K
  try simp only [Act.put, List.setIfInBounds_toArray, List.set_cons_zero, List.set_cons_succ]
  clear hnf0
  refine wpAnyH_seg 66 2 29 hHeld (by simp only [List.drop_succ_cons, List.drop_zero, List.length_cons, List.length_nil]; decide) (by decide) (by as_aux_lemma => kernel_rfl) (M := awM) (by as_aux_lemma => kernel_rfl) (by as_aux_lemma => kernel_rfl) ?_
  simp only [List.drop_succ_cons, List.take_succ_cons, List.drop_zero, List.take_zero]
  still_step
  still_step
  refine wpStill_nil ?_
  refine wpAnyH_load (i := 68) (v := .slice Aq 3 cq) (by decide) rfl (by as_aux_lemma => kernel_rfl) (by as_aux_lemma => kernel_rfl) (by as_aux_lemma => kernel_rfl) (fun _ _ _ h => h) (Or.inl ⟨by rfl, ?_⟩) hHeld ?_
  · intro w hSw
    clear hSw
    go_simp
    try rfl
  simp only [Act.put, List.setIfInBounds_toArray, List.set_cons_zero, List.set_cons_succ]
  refine wpAnyH_one (i := 69) (by decide) rfl (by as_aux_lemma => kernel_rfl) (M := awM) (by as_aux_lemma => kernel_rfl) (by as_aux_lemma => kernel_rfl) (fun K hK => ?_)
  go_simp
  obtain ⟨ad_q, had_q⟩ : ∃ a, v7.heap.size = a := ⟨_, rfl⟩
  try rw [had_q]
  refine named (fun w' : World => Below v7.heap.size v7 w' ∧ Kd.C (Kd.int .i64) w' (some ⟨ad_q, 0, none⟩) 3 [0, 1, 2]) ⟨below_alloc (Below.refl _ _) _, by rw [← had_q]; exact C_lit (l := [0, 1, 2]) (blk_new v7 (.cells #[.int .i64 0, .int .i64 1, .int .i64 2] 3)) (by decide)⟩ ?_
  rintro v8 ⟨hbv, hnf0⟩
  obtain ⟨h0, h1, h2, h3, h4, h5⟩ := hHeld
  replace h0 := cell_below2 h0 hbv
  replace h1 := cell_below2 h1 hbv
  replace h2 := cell_below2 h2 hbv
  replace h3 := cell_below2 h3 hbv
  replace h4 := cell_below2 h4 hbv
  replace h5 := cell_below2 h5 hbv
  replace HBd := Aside0.mk (HBd.out.trans (hbv.mono HBd.out.size))
  replace Hqd := Aside0.mk (Kd.C_below Hqd.out hbv)
  replace Hod := Aside0.mk (Kd.C_below Hod.out hbv)
  replace Hrd := Aside0.mk (Kd.C_below Hrd.out hbv)
  replace Htd := Aside0.mk (Kd.C_below Htd.out hbv)
  replace Hbd := Aside0.mk (Kd.C_below Hbd.out hbv)
  refine hK.out _ _ ⟨h0, h1, h2, h3, h4, h5⟩ (fun hHeld => ?_)
  clear h0 h1 h2 h3 h4 h5 hbv
  clear hK K
  try simp only [Act.put, List.setIfInBounds_toArray, List.set_cons_zero, List.set_cons_succ]
  clear had_q
  refine wpAnyH_one (i := 70) (by decide) rfl (by as_aux_lemma => kernel_rfl) (M := awM) (by as_aux_lemma => kernel_rfl) (by as_aux_lemma => kernel_rfl) (fun K hK => ?_)
  go_simp
  refine (Ints_calls [0, 1, 2] [0, 1, 2] _ _ 3 3 _ _ _ rfl rfl Hqd.out hnf0).mono ?_
  rintro e w' ⟨rfl, hcw⟩
  refine named (fun w' : World => Below v8.heap.size v8 w') (hcw.below (fun _ _ x => x.elim) (Nat.le_refl _)) ?_
  rintro v9 hbv
  obtain ⟨h0, h1, h2, h3, h4, h5⟩ := hHeld
  replace h0 := cell_below2 h0 hbv
  replace h1 := cell_below2 h1 hbv
  replace h2 := cell_below2 h2 hbv
  replace h3 := cell_below2 h3 hbv
  replace h4 := cell_below2 h4 hbv
  replace h5 := cell_below2 h5 hbv
  replace HBd := Aside0.mk (HBd.out.trans (hbv.mono HBd.out.size))
  replace Hqd := Aside0.mk (Kd.C_below Hqd.out hbv)
  replace Hod := Aside0.mk (Kd.C_below Hod.out hbv)
  replace Hrd := Aside0.mk (Kd.C_below Hrd.out hbv)
  replace Htd := Aside0.mk (Kd.C_below Htd.out hbv)
  replace Hbd := Aside0.mk (Kd.C_below Hbd.out hbv)
  refine hK.out _ _ ⟨h0, h1, h2, h3, h4, h5⟩ (fun hHeld => ?_)
  clear h0 h1 h2 h3 h4 h5 hbv
  clear hK K
  try simp only [Act.put, List.setIfInBounds_toArray, List.set_cons_zero, List.set_cons_succ]
  clear hnf0
  refine wpAnyH_seg 71 2 24 hHeld (by simp only [List.drop_succ_cons, List.drop_zero, List.length_cons, List.length_nil]; decide) (by decide) (by as_aux_lemma => kernel_rfl) (M := awM) (by as_aux_lemma => kernel_rfl) (by as_aux_lemma => kernel_rfl) ?_
  simp only [List.drop_succ_cons, List.take_succ_cons, List.drop_zero, List.take_zero]
  still_step
  still_step
  refine wpStill_nil ?_
  refine wpAnyH_load (i := 73) (v := .slice Ao 1 co) (by decide) rfl (by as_aux_lemma => kernel_rfl) (by as_aux_lemma => kernel_rfl) (by as_aux_lemma => kernel_rfl) (fun _ _ _ h => h) (Or.inl ⟨by rfl, ?_⟩) hHeld ?_
  · intro w hSw
    clear hSw
    go_simp
    try rfl
  simp only [Act.put, List.setIfInBounds_toArray, List.set_cons_zero, List.set_cons_succ]
  refine wpAnyH_one (i := 74) (by decide) rfl (by as_aux_lemma => kernel_rfl) (M := awM) (by as_aux_lemma => kernel_rfl) (by as_aux_lemma => kernel_rfl) (fun K hK => ?_)
  go_simp
  obtain ⟨ad_o, had_o⟩ : ∃ a, v9.heap.size = a := ⟨_, rfl⟩
  try rw [had_o]
  refine named (fun w' : World => Below v9.heap.size v9 w' ∧ Kd.C (Kd.int .i64) w' (some ⟨ad_o, 0, none⟩) 1 [2]) ⟨below_alloc (Below.refl _ _) _, by rw [← had_o]; exact C_lit (l := [2]) (blk_new v9 (.cells #[.int .i64 2] 3)) (by decide)⟩ ?_
  rintro v10 ⟨hbv, hnf0⟩
  obtain ⟨h0, h1, h2, h3, h4, h5⟩ := hHeld
  replace h0 := cell_below2 h0 hbv
  replace h1 := cell_below2 h1 hbv
  replace h2 := cell_below2 h2 hbv
  replace h3 := cell_below2 h3 hbv
  replace h4 := cell_below2 h4 hbv
  replace h5 := cell_below2 h5 hbv
  replace HBd := Aside0.mk (HBd.out.trans (hbv.mono HBd.out.size))
  replace Hod := Aside0.mk (Kd.C_below Hod.out hbv)
  replace Hrd := Aside0.mk (Kd.C_below Hrd.out hbv)
  replace Htd := Aside0.mk (Kd.C_below Htd.out hbv)
  replace Hbd := Aside0.mk (Kd.C_below Hbd.out hbv)
  refine hK.out _ _ ⟨h0, h1, h2, h3, h4, h5⟩ (fun hHeld => ?_)
  clear h0 h1 h2 h3 h4 h5 hbv
  clear hK K
  try simp only [Act.put, List.setIfInBounds_toArray, List.set_cons_zero, List.set_cons_succ]
  clear had_o
  refine wpAnyH_one (i := 75) (by decide) rfl (by as_aux_lemma => kernel_rfl) (M := awM) (by as_aux_lemma => kernel_rfl) (by as_aux_lemma => kernel_rfl) (fun K hK => ?_)
  go_simp
  refine (Ints_calls [2] [2] _ _ 1 1 _ _ _ rfl rfl Hod.out hnf0).mono ?_
  rintro e w' ⟨rfl, hcw⟩
  refine named (fun w' : World => Below v10.heap.size v10 w') (hcw.below (fun _ _ x => x.elim) (Nat.le_refl _)) ?_
  rintro v11 hbv
  obtain ⟨h0, h1, h2, h3, h4, h5⟩ := hHeld
  replace h0 := cell_below2 h0 hbv
  replace h1 := cell_below2 h1 hbv
  replace h2 := cell_below2 h2 hbv
  replace h3 := cell_below2 h3 hbv
  replace h4 := cell_below2 h4 hbv
  replace h5 := cell_below2 h5 hbv
  replace HBd := Aside0.mk (HBd.out.trans (hbv.mono HBd.out.size))
  replace Hod := Aside0.mk (Kd.C_below Hod.out hbv)
  replace Hrd := Aside0.mk (Kd.C_below Hrd.out hbv)
  replace Htd := Aside0.mk (Kd.C_below Htd.out hbv)
  replace Hbd := Aside0.mk (Kd.C_below Hbd.out hbv)
  refine hK.out _ _ ⟨h0, h1, h2, h3, h4, h5⟩ (fun hHeld => ?_)
  clear h0 h1 h2 h3 h4 h5 hbv
  clear hK K
  try simp only [Act.put, List.setIfInBounds_toArray, List.set_cons_zero, List.set_cons_succ]
  clear hnf0
  refine wpAnyH_seg 76 2 19 hHeld (by simp only [List.drop_succ_cons, List.drop_zero, List.length_cons, List.length_nil]; decide) (by decide) (by as_aux_lemma => kernel_rfl) (M := awM) (by as_aux_lemma => kernel_rfl) (by as_aux_lemma => kernel_rfl) ?_
  simp only [List.drop_succ_cons, List.take_succ_cons, List.drop_zero, List.take_zero]
  still_step
  still_step
  refine wpStill_nil ?_
  refine wpAnyH_load (i := 78) (v := .slice Ar 1 cr) (by decide) rfl (by as_aux_lemma => kernel_rfl) (by as_aux_lemma => kernel_rfl) (by as_aux_lemma => kernel_rfl) (fun _ _ _ h => h) (Or.inl ⟨by rfl, ?_⟩) hHeld ?_
  · intro w hSw
    clear hSw
    go_simp
    try rfl
  simp only [Act.put, List.setIfInBounds_toArray, List.set_cons_zero, List.set_cons_succ]
  refine wpAnyH_one (i := 79) (by decide) rfl (by as_aux_lemma => kernel_rfl) (M := awM) (by as_aux_lemma => kernel_rfl) (by as_aux_lemma => kernel_rfl) (fun K hK => ?_)
  go_simp
  obtain ⟨ad_r, had_r⟩ : ∃ a, v11.heap.size = a := ⟨_, rfl⟩
  try rw [had_r]
  refine named (fun w' : World => Below v11.heap.size v11 w' ∧ Kd.C (Kd.int .i64) w' (some ⟨ad_r, 0, none⟩) 1 [2]) ⟨below_alloc (Below.refl _ _) _, by rw [← had_r]; exact C_lit (l := [2]) (blk_new v11 (.cells #[.int .i64 2] 3)) (by decide)⟩ ?_
  rintro v12 ⟨hbv, hnf0⟩
  obtain ⟨h0, h1, h2, h3, h4, h5⟩ := hHeld
  replace h0 := cell_below2 h0 hbv
  replace h1 := cell_below2 h1 hbv
  replace h2 := cell_below2 h2 hbv
  replace h3 := cell_below2 h3 hbv
  replace h4 := cell_below2 h4 hbv
  replace h5 := cell_below2 h5 hbv
  replace HBd := Aside0.mk (HBd.out.trans (hbv.mono HBd.out.size))
  replace Hrd := Aside0.mk (Kd.C_below Hrd.out hbv)
  replace Htd := Aside0.mk (Kd.C_below Htd.out hbv)
  replace Hbd := Aside0.mk (Kd.C_below Hbd.out hbv)
  refine hK.out _ _ ⟨h0, h1, h2, h3, h4, h5⟩ (fun hHeld => ?_)
  clear h0 h1 h2 h3 h4 h5 hbv
  clear hK K
  try simp only [Act.put, List.setIfInBounds_toArray, List.set_cons_zero, List.set_cons_succ]
  clear had_r
  refine wpAnyH_one (i := 80) (by decide) rfl (by as_aux_lemma => kernel_rfl) (M := awM) (by as_aux_lemma => kernel_rfl) (by as_aux_lemma => kernel_rfl) (fun K hK => ?_)
  go_simp
  refine (Ints_calls [2] [2] _ _ 1 1 _ _ _ rfl rfl Hrd.out hnf0).mono ?_
  rintro e w' ⟨rfl, hcw⟩
  refine named (fun w' : World => Below v12.heap.size v12 w') (hcw.below (fun _ _ x => x.elim) (Nat.le_refl _)) ?_
  rintro v13 hbv
  obtain ⟨h0, h1, h2, h3, h4, h5⟩ := hHeld
  replace h0 := cell_below2 h0 hbv
  replace h1 := cell_below2 h1 hbv
  replace h2 := cell_below2 h2 hbv
  replace h3 := cell_below2 h3 hbv
  replace h4 := cell_below2 h4 hbv
  replace h5 := cell_below2 h5 hbv
  replace HBd := Aside0.mk (HBd.out.trans (hbv.mono HBd.out.size))
  replace Hrd := Aside0.mk (Kd.C_below Hrd.out hbv)
  replace Htd := Aside0.mk (Kd.C_below Htd.out hbv)
  replace Hbd := Aside0.mk (Kd.C_below Hbd.out hbv)
  refine hK.out _ _ ⟨h0, h1, h2, h3, h4, h5⟩ (fun hHeld => ?_)
  clear h0 h1 h2 h3 h4 h5 hbv
  clear hK K
  try simp only [Act.put, List.setIfInBounds_toArray, List.set_cons_zero, List.set_cons_succ]
  clear hnf0
  refine wpAnyH_seg 81 6 10 hHeld (by simp only [List.drop_succ_cons, List.drop_zero, List.length_cons, List.length_nil]; decide) (by decide) (by as_aux_lemma => kernel_rfl) (M := awM) (by as_aux_lemma => kernel_rfl) (by as_aux_lemma => kernel_rfl) ?_
  simp only [List.drop_succ_cons, List.take_succ_cons, List.drop_zero, List.take_zero]
  still_step
  still_step
  still_step
  still_step
  still_step
  still_step
  refine wpStill_nil ?_
  refine wpAnyH_load (i := 87) (v := .slice At 1 ct) (by decide) rfl (by as_aux_lemma => kernel_rfl) (by as_aux_lemma => kernel_rfl) (by as_aux_lemma => kernel_rfl) (fun _ _ _ h => h) (Or.inl ⟨by rfl, ?_⟩) hHeld ?_
  · intro w hSw
    clear hSw
    go_simp
    try rfl
  simp only [Act.put, List.setIfInBounds_toArray, List.set_cons_zero, List.set_cons_succ]
  refine wpAnyH_one (i := 88) (by decide) rfl (by as_aux_lemma => kernel_rfl) (M := awM) (by as_aux_lemma => kernel_rfl) (by as_aux_lemma => kernel_rfl) (fun K hK => ?_)
  go_simp
  obtain ⟨ad_t, had_t⟩ : ∃ a, v13.heap.size = a := ⟨_, rfl⟩
  try rw [had_t]
  refine named (fun w' : World => Below v13.heap.size v13 w' ∧ Kd.C (Kd.int .i64) w' (some ⟨ad_t, 0, none⟩) 1 [0]) ⟨below_alloc (Below.refl _ _) _, by rw [← had_t]; exact C_lit (l := [0]) (blk_new v13 (.cells #[.int .i64 0] 3)) (by decide)⟩ ?_
  rintro v14 ⟨hbv, hnf0⟩
  obtain ⟨h0, h1, h2, h3, h4, h5⟩ := hHeld
  replace h0 := cell_below2 h0 hbv
  replace h1 := cell_below2 h1 hbv
  replace h2 := cell_below2 h2 hbv
  replace h3 := cell_below2 h3 hbv
  replace h4 := cell_below2 h4 hbv
  replace h5 := cell_below2 h5 hbv
  replace HBd := Aside0.mk (HBd.out.trans (hbv.mono HBd.out.size))
  replace Htd := Aside0.mk (Kd.C_below Htd.out hbv)
  replace Hbd := Aside0.mk (Kd.C_below Hbd.out hbv)
  refine hK.out _ _ ⟨h0, h1, h2, h3, h4, h5⟩ (fun hHeld => ?_)
  clear h0 h1 h2 h3 h4 h5 hbv
  clear hK K
  try simp only [Act.put, List.setIfInBounds_toArray, List.set_cons_zero, List.set_cons_succ]
  clear had_t
  refine wpAnyH_one (i := 89) (by decide) rfl (by as_aux_lemma => kernel_rfl) (M := awM) (by as_aux_lemma => kernel_rfl) (by as_aux_lemma => kernel_rfl) (fun K hK => ?_)
  go_simp
  refine (Ints_calls [0] [0] _ _ 1 1 _ _ _ rfl rfl Htd.out hnf0).mono ?_
  rintro e w' ⟨rfl, hcw⟩
  refine named (fun w' : World => Below v14.heap.size v14 w') (hcw.below (fun _ _ x => x.elim) (Nat.le_refl _)) ?_
  rintro v15 hbv
  obtain ⟨h0, h1, h2, h3, h4, h5⟩ := hHeld
  replace h0 := cell_below2 h0 hbv
  replace h1 := cell_below2 h1 hbv
  replace h2 := cell_below2 h2 hbv
  replace h3 := cell_below2 h3 hbv
  replace h4 := cell_below2 h4 hbv
  replace h5 := cell_below2 h5 hbv
  replace HBd := Aside0.mk (HBd.out.trans (hbv.mono HBd.out.size))
  replace Htd := Aside0.mk (Kd.C_below Htd.out hbv)
  replace Hbd := Aside0.mk (Kd.C_below Hbd.out hbv)
  refine hK.out _ _ ⟨h0, h1, h2, h3, h4, h5⟩ (fun hHeld => ?_)
  clear h0 h1 h2 h3 h4 h5 hbv
  clear hK K
  try simp only [Act.put, List.setIfInBounds_toArray, List.set_cons_zero, List.set_cons_succ]
  clear hnf0
  refine wpAnyH_seg 90 2 5 hHeld (by simp only [List.drop_succ_cons, List.drop_zero, List.length_cons, List.length_nil]; decide) (by decide) (by as_aux_lemma => kernel_rfl) (M := awM) (by as_aux_lemma => kernel_rfl) (by as_aux_lemma => kernel_rfl) ?_
  simp only [List.drop_succ_cons, List.take_succ_cons, List.drop_zero, List.take_zero]
  still_step
  still_step
  refine wpStill_nil ?_
  refine wpAnyH_load (i := 92) (v := .slice Ab 1 cb) (by decide) rfl (by as_aux_lemma => kernel_rfl) (by as_aux_lemma => kernel_rfl) (by as_aux_lemma => kernel_rfl) (fun _ _ _ h => h) (Or.inl ⟨by rfl, ?_⟩) hHeld ?_
  · intro w hSw
    clear hSw
    go_simp
    try rfl
  simp only [Act.put, List.setIfInBounds_toArray, List.set_cons_zero, List.set_cons_succ]
  refine wpAnyH_one (i := 93) (by decide) rfl (by as_aux_lemma => kernel_rfl) (M := awM) (by as_aux_lemma => kernel_rfl) (by as_aux_lemma => kernel_rfl) (fun K hK => ?_)
  go_simp
  obtain ⟨ad_b, had_b⟩ : ∃ a, v15.heap.size = a := ⟨_, rfl⟩
  try rw [had_b]
  refine named (fun w' : World => Below v15.heap.size v15 w' ∧ Kd.C (Kd.int .i64) w' (some ⟨ad_b, 0, none⟩) 1 [0]) ⟨below_alloc (Below.refl _ _) _, by rw [← had_b]; exact C_lit (l := [0]) (blk_new v15 (.cells #[.int .i64 0] 3)) (by decide)⟩ ?_
  rintro v16 ⟨hbv, hnf0⟩
  obtain ⟨h0, h1, h2, h3, h4, h5⟩ := hHeld
  replace h0 := cell_below2 h0 hbv
  replace h1 := cell_below2 h1 hbv
  replace h2 := cell_below2 h2 hbv
  replace h3 := cell_below2 h3 hbv
  replace h4 := cell_below2 h4 hbv
  replace h5 := cell_below2 h5 hbv
  replace HBd := Aside0.mk (HBd.out.trans (hbv.mono HBd.out.size))
  replace Hbd := Aside0.mk (Kd.C_below Hbd.out hbv)
  refine hK.out _ _ ⟨h0, h1, h2, h3, h4, h5⟩ (fun hHeld => ?_)
  clear h0 h1 h2 h3 h4 h5 hbv
  clear hK K
  try simp only [Act.put, List.setIfInBounds_toArray, List.set_cons_zero, List.set_cons_succ]
  clear had_b
  refine wpAnyH_one (i := 94) (by decide) rfl (by as_aux_lemma => kernel_rfl) (M := awM) (by as_aux_lemma => kernel_rfl) (by as_aux_lemma => kernel_rfl) (fun K hK => ?_)
  go_simp
  refine (Ints_calls [0] [0] _ _ 1 1 _ _ _ rfl rfl Hbd.out hnf0).mono ?_
  rintro e w' ⟨rfl, hcw⟩
  refine named (fun w' : World => Below v16.heap.size v16 w') (hcw.below (fun _ _ x => x.elim) (Nat.le_refl _)) ?_
  rintro v17 hbv
  obtain ⟨h0, h1, h2, h3, h4, h5⟩ := hHeld
  replace h0 := cell_below2 h0 hbv
  replace h1 := cell_below2 h1 hbv
  replace h2 := cell_below2 h2 hbv
  replace h3 := cell_below2 h3 hbv
  replace h4 := cell_below2 h4 hbv
  replace h5 := cell_below2 h5 hbv
  replace HBd := Aside0.mk (HBd.out.trans (hbv.mono HBd.out.size))
  replace Hbd := Aside0.mk (Kd.C_below Hbd.out hbv)
  refine hK.out _ _ ⟨h0, h1, h2, h3, h4, h5⟩ (fun hHeld => ?_)
  clear h0 h1 h2 h3 h4 h5 hbv
  clear hK K
  try simp only [Act.put, List.setIfInBounds_toArray, List.set_cons_zero, List.set_cons_succ]
  clear hnf0
  refine wpAnyH_seg 95 2 0 hHeld (by simp only [List.drop_succ_cons, List.drop_zero, List.length_cons, List.length_nil]; decide) (by decide) (by as_aux_lemma => kernel_rfl) (M := awM) (by as_aux_lemma => kernel_rfl) (by as_aux_lemma => kernel_rfl) ?_
  simp only [List.drop_succ_cons, List.take_succ_cons, List.drop_zero, List.take_zero]
  still_step
  still_step
  refine wpStill_nil ?_
  refine wpAnyH_done (by as_aux_lemma => kernel_rfl) ?_ _
  go_wp2
  go_ret
  exact ⟨rfl, HBd.out⟩
end Go.Proofs.Ytgoidclnccjdeaa.D
end
section
/- Package glass: GlassKnown. -/
namespace Go.Proofs.Ytgoidclnccjdeaa.D
open Go Go.RowKit Go.Proofs.YtgoidclnccjdeaaK Go.Proofs.YtgoidclnccjdeaaW.PrintWords Go.Proofs.YtgoidclnccjdeaaW.PrintLast Go.Proofs.YtgoidclnccjdeaaW.PrintMore Go.Proofs.Ytgoidclnccjdeaa.PR Go.Proofs.Ytgoidclnccjdeaa.M
set_option linter.unusedVariables false
set_option linter.unusedSimpArgs false

theorem ek_size0 : hullF exD [(amongB exD.sp.length [0], 4)] (4 + (0 : Int).toNat) = (4, 6) := by kernel_rfl
theorem ek_esize0 : enterE exD [(amongB exD.sp.length [0], 4)] = 0 := by kernel_rfl
theorem ek_least1 : hullF exD [(amongB exD.gl.length [1], 4)] ((1 : Int).toNat) = (3, 5) := by kernel_rfl
theorem ek_eleast1 : enterE exD [(amongB exD.gl.length [1], 4)] = 0 := by kernel_rfl
theorem ek_larger01 : largerF exD 0 1 = 2 := by kernel_rfl
theorem ek_elarger01 : enterE exD (askTwo exD 0 1) = 0 := by kernel_rfl
theorem ek_larger21 : largerF exD 2 1 = 1 := by kernel_rfl
theorem ek_elarger21 : enterE exD (askTwo exD 2 1) = 0 := by kernel_rfl
theorem ek_part210 : partF exD 2 1 0 = [] := by kernel_rfl
theorem ek_epart210 : enterE exD (askPart exD 2 1 0) = 0 := by kernel_rfl
theorem ek_wrong : wrongF exD = ([], 0) := by kernel_rfl
def ekM : List Nat := [0, 1, 2, 3, 4, 5, 6, 7, 8, 9, 10, 11, 12, 13, 14, 15, 16, 17, 18, 19, 20, 21, 22, 23, 23, 25, 26, 27, 28, 28, 30, 31, 32, 33, 34, 35, 36, 37, 38, 39, 40, 41, 42, 43, 44, 45, 46, 47, 48, 49, 50, 51, 52, 53]
set_option maxRecDepth 100000 in
set_option maxHeartbeats 12000000 in
theorem GlassKnown_calls (w : World) : Calls Try.prog 7 #[] w fun e w' => e = .returned (.bool true) ∧ Below w.heap.size w w' := by
  go_enter Try.func7, Try.ntmps7
  go_wp2_with fail
  refine (Shelf_calls _).mono ?_
  rintro e w2 ⟨⟨A0s, c0s, A3s, c3s, A4s, c4s, rfl, has⟩, hb⟩
  have AS := Aside0.mk has
  have HB := Aside0.mk hb
  clear has hb
  go_upto_region 2 with (fail)
  have hb : Below w2.heap.size w2 (w2.alloc (.cells (exD.cells A0s c0s A3s c3s A4s c4s) 28)) := below_alloc (Below.refl _ _) _
  have TS : Aside0 ((w2.alloc (.cells (exD.cells A0s c0s A3s c3s A4s c4s) 28)).heap[w2.heap.size]? = some (.cells (exD.cells A0s c0s A3s c3s A4s c4s) 28 (0, 0))) := ⟨blk_new _ _⟩
  have AS' := Aside0.mk (AS.out.below hb)
  have HB' := Aside0.mk (HB.out.trans (hb.mono HB.out.size))
  clear hb AS HB
  have AS := AS'
  have HB := HB'
  clear AS' HB'
  generalize w2.alloc (.cells (exD.cells A0s c0s A3s c3s A4s c4s) 28) = W at AS HB TS ⊢
  obtain ⟨t, ht⟩ : ∃ t, w2.heap.size = t := ⟨_, rfl⟩
  rw [ht] at TS ⊢
  clear ht
  have k0 := (blk_cell TS.out 0).trans rfl
  have k1 := (blk_cell TS.out 1).trans rfl
  have k2 := (blk_cell TS.out 2).trans rfl
  have k3 := (blk_cell TS.out 3).trans rfl
  have k4 := (blk_cell TS.out 4).trans rfl
  have kl := blk_lt TS.out
  go_wp2_with fail
  clear k0 k1 k2 k3 k4 kl
  refine (Size_calls exD A0s c0s A3s c3s A4s c4s 0 W AS.out).mono ?_
  rw [ek_size0, ek_esize0]
  rintro e X1 ⟨rfl, hb⟩
  have AS' := Aside0.mk (AS.out.below hb)
  have HB' := Aside0.mk (HB.out.trans (hb.mono HB.out.size))
  have TS' := Aside0.mk (blk_below TS.out hb)
  clear hb AS HB TS
  have AS := AS'
  have HB := HB'
  have TS := TS'
  clear AS' HB' TS'
  go_upto_region 3 with (fail)
  have hb : Below X1.heap.size X1 (X1.alloc (.cells #[.int .i64 4, .int .i64 6] 24)) := below_alloc (Below.refl _ _) _
  have SA0 : Aside0 ((X1.alloc (.cells #[.int .i64 4, .int .i64 6] 24)).heap[X1.heap.size]? = some (.cells #[.int .i64 4, .int .i64 6] 24 (0, 0))) := ⟨blk_new _ _⟩
  have AS' := Aside0.mk (AS.out.below hb)
  have HB' := Aside0.mk (HB.out.trans (hb.mono HB.out.size))
  have TS' := Aside0.mk (blk_below TS.out hb)
  clear hb AS HB TS
  have AS := AS'
  have HB := HB'
  have TS := TS'
  clear AS' HB' TS'
  have SA := SA0
  clear SA0
  generalize (X1.alloc (.cells #[.int .i64 4, .int .i64 6] 24)) = Y1 at AS HB TS SA ⊢
  obtain ⟨za, hza⟩ : ∃ b, X1.heap.size = b := ⟨_, rfl⟩
  rw [hza] at SA ⊢
  clear hza
  have k0 := (blk_cell TS.out 0).trans rfl
  have k1 := (blk_cell TS.out 1).trans rfl
  have k2 := (blk_cell TS.out 2).trans rfl
  have k3 := (blk_cell TS.out 3).trans rfl
  have k4 := (blk_cell TS.out 4).trans rfl
  have kl := blk_lt TS.out
  go_wp2_with fail
  clear k0 k1 k2 k3 k4 kl
  refine (Least_calls exD A0s c0s A3s c3s A4s c4s 1 Y1 AS.out).mono ?_
  rw [ek_least1, ek_eleast1]
  rintro e X2 ⟨rfl, hb⟩
  have AS' := Aside0.mk (AS.out.below hb)
  have HB' := Aside0.mk (HB.out.trans (hb.mono HB.out.size))
  have TS' := Aside0.mk (blk_below TS.out hb)
  have SA' := Aside0.mk (blk_below SA.out hb)
  clear hb AS HB TS SA
  have AS := AS'
  have HB := HB'
  have TS := TS'
  have SA := SA'
  clear AS' HB' TS' SA'
  go_upto_region 4 with (fail)
  have hb : Below X2.heap.size X2 (X2.alloc (.cells #[.int .i64 3, .int .i64 5] 24)) := below_alloc (Below.refl _ _) _
  have SB0 : Aside0 ((X2.alloc (.cells #[.int .i64 3, .int .i64 5] 24)).heap[X2.heap.size]? = some (.cells #[.int .i64 3, .int .i64 5] 24 (0, 0))) := ⟨blk_new _ _⟩
  have AS' := Aside0.mk (AS.out.below hb)
  have HB' := Aside0.mk (HB.out.trans (hb.mono HB.out.size))
  have TS' := Aside0.mk (blk_below TS.out hb)
  have SA' := Aside0.mk (blk_below SA.out hb)
  clear hb AS HB TS SA
  have AS := AS'
  have HB := HB'
  have TS := TS'
  have SA := SA'
  clear AS' HB' TS' SA'
  have SB := SB0
  clear SB0
  generalize (X2.alloc (.cells #[.int .i64 3, .int .i64 5] 24)) = Y2 at AS HB TS SA SB ⊢
  obtain ⟨zb, hzb⟩ : ∃ b, X2.heap.size = b := ⟨_, rfl⟩
  rw [hzb] at SB ⊢
  clear hzb
  have k0 := (blk_cell TS.out 0).trans rfl
  have k1 := (blk_cell TS.out 1).trans rfl
  have k2 := (blk_cell TS.out 2).trans rfl
  have k3 := (blk_cell TS.out 3).trans rfl
  have k4 := (blk_cell TS.out 4).trans rfl
  have kl := blk_lt TS.out
  go_wp2_with fail
  clear k0 k1 k2 k3 k4 kl
  refine (Larger_calls exD A0s c0s A3s c3s A4s c4s 0 1 Y2 AS.out).mono ?_
  rw [ek_larger01, ek_elarger01]
  rintro e X3 ⟨rfl, hb⟩
  have AS' := Aside0.mk (AS.out.below hb)
  have HB' := Aside0.mk (HB.out.trans (hb.mono HB.out.size))
  have TS' := Aside0.mk (blk_below TS.out hb)
  have SA' := Aside0.mk (blk_below SA.out hb)
  have SB' := Aside0.mk (blk_below SB.out hb)
  clear hb AS HB TS SA SB
  have AS := AS'
  have HB := HB'
  have TS := TS'
  have SA := SA'
  have SB := SB'
  clear AS' HB' TS' SA' SB'
  go_upto_region 5 with (fail)
  have k0 := (blk_cell TS.out 0).trans rfl
  have k1 := (blk_cell TS.out 1).trans rfl
  have k2 := (blk_cell TS.out 2).trans rfl
  have k3 := (blk_cell TS.out 3).trans rfl
  have k4 := (blk_cell TS.out 4).trans rfl
  have kl := blk_lt TS.out
  go_wp2_with fail
  clear k0 k1 k2 k3 k4 kl
  refine (Larger_calls exD A0s c0s A3s c3s A4s c4s 2 1 X3 AS.out).mono ?_
  rw [ek_larger21, ek_elarger21]
  rintro e X4 ⟨rfl, hb⟩
  have AS' := Aside0.mk (AS.out.below hb)
  have HB' := Aside0.mk (HB.out.trans (hb.mono HB.out.size))
  have TS' := Aside0.mk (blk_below TS.out hb)
  have SA' := Aside0.mk (blk_below SA.out hb)
  have SB' := Aside0.mk (blk_below SB.out hb)
  clear hb AS HB TS SA SB
  have AS := AS'
  have HB := HB'
  have TS := TS'
  have SA := SA'
  have SB := SB'
  clear AS' HB' TS' SA' SB'
  go_upto_region 6 with (fail)
  have k0 := (blk_cell TS.out 0).trans rfl
  have k1 := (blk_cell TS.out 1).trans rfl
  have k2 := (blk_cell TS.out 2).trans rfl
  have k3 := (blk_cell TS.out 3).trans rfl
  have k4 := (blk_cell TS.out 4).trans rfl
  have kl := blk_lt TS.out
  go_wp2_with fail
  clear k0 k1 k2 k3 k4 kl
  refine (Part_calls exD A0s c0s A3s c3s A4s c4s 2 1 0 X4 AS.out).mono ?_
  rw [ek_part210, ek_epart210]
  rintro e X5 ⟨⟨v, rfl, hn, _⟩, hb⟩
  obtain ⟨At, ct, rfl, _⟩ := Row.lit hn (by decide)
  clear hn
  have AS' := Aside0.mk (AS.out.below hb)
  have HB' := Aside0.mk (HB.out.trans (hb.mono HB.out.size))
  have TS' := Aside0.mk (blk_below TS.out hb)
  have SA' := Aside0.mk (blk_below SA.out hb)
  have SB' := Aside0.mk (blk_below SB.out hb)
  clear hb AS HB TS SA SB
  have AS := AS'
  have HB := HB'
  have TS := TS'
  have SA := SA'
  have SB := SB'
  clear AS' HB' TS' SA' SB'
  go_upto_region 7 with (fail)
  have k0 := (blk_cell TS.out 0).trans rfl
  have k1 := (blk_cell TS.out 1).trans rfl
  have k2 := (blk_cell TS.out 2).trans rfl
  have k3 := (blk_cell TS.out 3).trans rfl
  have k4 := (blk_cell TS.out 4).trans rfl
  have kl := blk_lt TS.out
  go_wp2_with fail
  clear k0 k1 k2 k3 k4 kl
  refine (Wrong_calls exD A0s c0s A3s c3s A4s c4s X5 AS.out).mono ?_
  rw [ek_wrong]
  rintro e X6 ⟨⟨v, rfl, hn⟩, hb⟩
  obtain ⟨Ab, cb, rfl, _⟩ := hn.lit
  clear hn
  have AS' := Aside0.mk (AS.out.below hb)
  have HB' := Aside0.mk (HB.out.trans (hb.mono HB.out.size))
  have TS' := Aside0.mk (blk_below TS.out hb)
  have SA' := Aside0.mk (blk_below SA.out hb)
  have SB' := Aside0.mk (blk_below SB.out hb)
  clear hb AS HB TS SA SB
  have AS := AS'
  have HB := HB'
  have TS := TS'
  have SA := SA'
  have SB := SB'
  clear AS' HB' TS' SA' SB'
  go_upto_region 8 with (fail)
  try simp only [List.append_eq, List.cons_append, List.nil_append]
  clear AS TS
  refine wp_region_held_drew (S := fun w' : World => w'.cell? ⟨za, 0, none⟩ = some (.int .i64 4) ∧ w'.cell? ⟨za, 1, none⟩ = some (.int .i64 6) ∧ w'.cell? ⟨zb, 0, none⟩ = some (.int .i64 3) ∧ w'.cell? ⟨zb, 1, none⟩ = some (.int .i64 5)) (by as_aux_lemma => kernel_rfl) ⟨(blk_cell SA.out 0).trans rfl, (blk_cell SA.out 1).trans rfl, (blk_cell SB.out 0).trans rfl, (blk_cell SB.out 1).trans rfl⟩ (fun hHeld => ?_)
  have HBd := Aside0.mk (below_drew1 HB.out)
  clear HB SA SB 
  generalize X6.drew = wd at hHeld HBd  ⊢
  refine wpAnyH_start 54 (by as_aux_lemma => kernel_rfl) ?_
  refine wpAnyH_seg 0 23 31 hHeld (by simp only [List.drop_succ_cons, List.drop_zero, List.length_cons, List.length_nil]; decide) (by decide) (by as_aux_lemma => kernel_rfl) (M := ekM) (by as_aux_lemma => kernel_rfl) (by as_aux_lemma => kernel_rfl) ?_
  simp only [List.drop_succ_cons, List.take_succ_cons, List.drop_zero, List.take_zero]
  still_step
  still_step
  still_step
  still_step
  still_step
  still_step
  still_step
  still_step
  still_step
  still_step
  still_step
  still_step
  still_step
  still_step
  still_step
  still_step
  still_step
  still_step
  still_step
  still_step
  still_step
  still_step
  still_step
  refine wpStill_nil ?_
  refine wpAnyH_load (i := 23) (v := .agg #[.int .i64 4, .int .i64 6]) (by decide) rfl (by as_aux_lemma => kernel_rfl) (by as_aux_lemma => kernel_rfl) (by as_aux_lemma => kernel_rfl) (fun _ _ _ h => h) (Or.inl ⟨by rfl, ?_⟩) hHeld ?_
  · intro w hSw
    obtain ⟨h0, h1, h2, h3⟩ := hSw
    go_simp
    try rfl
  simp only [Act.put, List.setIfInBounds_toArray, List.set_cons_zero, List.set_cons_succ]
  refine wpAnyH_one (i := 24) (by decide) rfl (by as_aux_lemma => kernel_rfl) (M := ekM) (by as_aux_lemma => kernel_rfl) (by as_aux_lemma => kernel_rfl) (fun K hK => ?_)
  go_simp
  refine (span_calls2 _ _ _).mono ?_
  rintro e w' ⟨rfl, hbw⟩
  refine named (fun w' : World => Below wd.heap.size wd w') (hbw) ?_
  rintro v1 hbv
  obtain ⟨h0, h1, h2, h3⟩ := hHeld
  replace h0 := cell_below2 h0 hbv
  replace h1 := cell_below2 h1 hbv
  replace h2 := cell_below2 h2 hbv
  replace h3 := cell_below2 h3 hbv
  replace HBd := Aside0.mk (HBd.out.trans (hbv.mono HBd.out.size))
  refine hK.out _ _ ⟨h0, h1, h2, h3⟩ (fun hHeld => ?_)
  clear h0 h1 h2 h3 hbv
  clear hK K
  try simp only [Act.put, List.setIfInBounds_toArray, List.set_cons_zero, List.set_cons_succ]
  refine wpAnyH_seg 25 3 26 hHeld (by simp only [List.drop_succ_cons, List.drop_zero, List.length_cons, List.length_nil]; decide) (by decide) (by as_aux_lemma => kernel_rfl) (M := ekM) (by as_aux_lemma => kernel_rfl) (by as_aux_lemma => kernel_rfl) ?_
  simp only [List.drop_succ_cons, List.take_succ_cons, List.drop_zero, List.take_zero]
  still_step
  still_step
  still_step
  refine wpStill_nil ?_
  refine wpAnyH_load (i := 28) (v := .agg #[.int .i64 3, .int .i64 5]) (by decide) rfl (by as_aux_lemma => kernel_rfl) (by as_aux_lemma => kernel_rfl) (by as_aux_lemma => kernel_rfl) (fun _ _ _ h => h) (Or.inl ⟨by rfl, ?_⟩) hHeld ?_
  · intro w hSw
    obtain ⟨h0, h1, h2, h3⟩ := hSw
    go_simp
    try rfl
  simp only [Act.put, List.setIfInBounds_toArray, List.set_cons_zero, List.set_cons_succ]
  refine wpAnyH_one (i := 29) (by decide) rfl (by as_aux_lemma => kernel_rfl) (M := ekM) (by as_aux_lemma => kernel_rfl) (by as_aux_lemma => kernel_rfl) (fun K hK => ?_)
  go_simp
  refine (span_calls2 _ _ _).mono ?_
  rintro e w' ⟨rfl, hbw⟩
  refine named (fun w' : World => Below v1.heap.size v1 w') (hbw) ?_
  rintro v2 hbv
  obtain ⟨h0, h1, h2, h3⟩ := hHeld
  replace h0 := cell_below2 h0 hbv
  replace h1 := cell_below2 h1 hbv
  replace h2 := cell_below2 h2 hbv
  replace h3 := cell_below2 h3 hbv
  replace HBd := Aside0.mk (HBd.out.trans (hbv.mono HBd.out.size))
  refine hK.out _ _ ⟨h0, h1, h2, h3⟩ (fun hHeld => ?_)
  clear h0 h1 h2 h3 hbv
  clear hK K
  try simp only [Act.put, List.setIfInBounds_toArray, List.set_cons_zero, List.set_cons_succ]
  refine wpAnyH_seg 30 21 3 hHeld (by simp only [List.drop_succ_cons, List.drop_zero, List.length_cons, List.length_nil]; decide) (by decide) (by as_aux_lemma => kernel_rfl) (M := ekM) (by as_aux_lemma => kernel_rfl) (by as_aux_lemma => kernel_rfl) ?_
  simp only [List.drop_succ_cons, List.take_succ_cons, List.drop_zero, List.take_zero]
  still_step
  still_step
  still_step
  still_step
  still_step
  still_step
  still_step
  still_step
  still_step
  still_step
  still_step
  still_step
  still_step
  still_step
  still_step
  still_step
  still_step
  still_step
  still_step
  still_step
  still_step
  refine wpStill_nil ?_
  refine wpAnyH_one (i := 51) (by decide) rfl (by as_aux_lemma => kernel_rfl) (M := ekM) (by as_aux_lemma => kernel_rfl) (by as_aux_lemma => kernel_rfl) (fun K hK => ?_)
  go_simp
  refine (Awake_calls _).mono ?_
  rintro e w' ⟨rfl, hbw⟩
  refine named (fun w' : World => Below v2.heap.size v2 w') (hbw) ?_
  rintro v3 hbv
  obtain ⟨h0, h1, h2, h3⟩ := hHeld
  replace h0 := cell_below2 h0 hbv
  replace h1 := cell_below2 h1 hbv
  replace h2 := cell_below2 h2 hbv
  replace h3 := cell_below2 h3 hbv
  replace HBd := Aside0.mk (HBd.out.trans (hbv.mono HBd.out.size))
  refine hK.out _ _ ⟨h0, h1, h2, h3⟩ (fun hHeld => ?_)
  clear h0 h1 h2 h3 hbv
  clear hK K
  try simp only [Act.put, List.setIfInBounds_toArray, List.set_cons_zero, List.set_cons_succ]
  refine wpAnyH_seg 52 2 0 hHeld (by simp only [List.drop_succ_cons, List.drop_zero, List.length_cons, List.length_nil]; decide) (by decide) (by as_aux_lemma => kernel_rfl) (M := ekM) (by as_aux_lemma => kernel_rfl) (by as_aux_lemma => kernel_rfl) ?_
  simp only [List.drop_succ_cons, List.take_succ_cons, List.drop_zero, List.take_zero]
  still_step
  still_step
  refine wpStill_nil ?_
  refine wpAnyH_done (by as_aux_lemma => kernel_rfl) ?_ _
  go_wp2
  go_ret
  exact ⟨rfl, HBd.out⟩
end Go.Proofs.Ytgoidclnccjdeaa.D
end
