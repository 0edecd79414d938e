/- Contracts of the functions that this claim reaches, with the words for them: pruned and packed by wip/tools/prune.py. -/
import Derived.Test.YtemeapfnfegkiaaXe
import Derived.Deep.RegionHeld3
section
/- Package disk: the fewest things that must be wrong: the program's way and the reference's name the same. -/
namespace Go.Proofs.Ytemeapfnfegkiaa.D
open Go Go.RowKit Go.Proofs.YtemeapfnfegkiaaK Go.Proofs.YtemeapfnfegkiaaW.PrintWords Go.Proofs.YtemeapfnfegkiaaW.PrintLast Go.Proofs.YtemeapfnfegkiaaW.PrintMore Go.Proofs.Ytemeapfnfegkiaa.PR
set_option linter.unusedVariables false
set_option linter.unusedSimpArgs false

def ordN : Nat → Nat → List Nat
  | 0, 0 => [0]
  | 1, 0 => [0] | 1, 1 => [1]
  | 2, 0 => [0] | 2, 1 => [1, 2] | 2, 2 => [3]
  | 3, 0 => [0] | 3, 1 => [1, 2, 4] | 3, 2 => [3, 5, 6] | 3, 3 => [7]
  | 4, 0 => [0] | 4, 1 => [1, 2, 4, 8] | 4, 2 => [3, 5, 9, 6, 10, 12] | 4, 3 => [7, 11, 13, 14] | 4, 4 => [15]
  | _, _ => []
def flatN (m : Nat) : List Nat := (List.range (m + 1)).flatMap (ordN m)
def kc (m a b : Nat) : Bool := decide ((bitsL a m).length < (bitsL b m).length) || ((bitsL b m).length == (bitsL a m).length && decide (0 < cmpL (ints (bitsL b m)) (ints (bitsL a m))))
def pairB (m : Nat) : List Nat → Bool
  | [] => true
  | a :: l => (l.all fun b => kc m a b && !kc m b a) && pairB m l
theorem pairB_spec {m : Nat} : ∀ {pre post : List Nat} {s : Nat}, pairB m (pre ++ s :: post) = true → ∀ b ∈ post, kc m s b = true ∧ kc m b s = false
  | [], post, s, h => by
    simp only [List.nil_append, pairB, Bool.and_eq_true, List.all_eq_true] at h
    intro b hb
    have := h.1 b hb
    simpa using this
  | a :: pre, post, s, h => by
    simp only [List.cons_append, pairB, Bool.and_eq_true] at h
    exact pairB_spec h.2
theorem pair_ok : ∀ m, m ≤ 4 → pairB m (flatN m) = true
  | 0, _ => by kernel_rfl
  | 1, _ => by kernel_rfl
  | 2, _ => by kernel_rfl
  | 3, _ => by kernel_rfl
  | 4, _ => by kernel_rfl
  | m + 5, h => by omega
theorem flat_all : ∀ m, m ≤ 4 → ∀ s, s < 2 ^ m → s ∈ flatN m
  | 0, _ => by decide
  | 1, _ => by decide
  | 2, _ => by decide
  | 3, _ => by decide
  | 4, _ => by decide
  | m + 5, h => by omega
theorem flat_lt : ∀ m, m ≤ 4 → ∀ s ∈ flatN m, s < 2 ^ m
  | 0, _ => by decide
  | 1, _ => by decide
  | 2, _ => by decide
  | 3, _ => by decide
  | 4, _ => by decide
  | m + 5, h => by omega

def someT (D : Dat) (set : Nat) : Bool := !(truthsL D set).isEmpty
theorem wrongStep_eq (D : Dat) (set b : Nat) : wrongStep D set (some (bitsL b D.told.length)) = if kc D.told.length b set = true then some (bitsL b D.told.length) else if someT D set = true then some (bitsL set D.told.length) else some (bitsL b D.told.length) := by
  unfold wrongStep kc someT
  have e : (List.range D.told.length).filter (keepP set) = bitsL set D.told.length := List.filter_congr fun i _ => by simp [keepP, outP]
  simp only [e]
  cases (truthsL D set).isEmpty <;> simp
theorem wrongStep_none (D : Dat) (set : Nat) : wrongStep D set none = if someT D set = true then some (bitsL set D.told.length) else none := by
  unfold wrongStep someT
  have e : (List.range D.told.length).filter (keepP set) = bitsL set D.told.length := List.filter_congr fun i _ => by simp [keepP, outP]
  simp only [e]
  cases (truthsL D set).isEmpty <;> simp
theorem wrong_first {D : Dat} (s n : Nat) (hs : someT D s = true) (hb : ∀ b, b < n → b ≠ s → someT D b = true → kc D.told.length s b = true ∧ kc D.told.length b s = false) : ∀ k, k ≤ n →
    (wrongTo D k = none ∨ ∃ b, b < k ∧ someT D b = true ∧ wrongTo D k = some (bitsL b D.told.length)) ∧ (s < k → wrongTo D k = some (bitsL s D.told.length))
  | 0, _ => ⟨.inl rfl, fun h => absurd h (by omega)⟩
  | k + 1, hk => by
    obtain ⟨h1, h2⟩ := wrong_first s n hs hb k (by omega)
    rw [wrongTo_succ]
    rcases Nat.lt_trichotomy s k with hlt | heq | hgt
    · rw [h2 hlt, wrongStep_eq]
      have e : (if kc D.told.length s k = true then some (bitsL s D.told.length) else if someT D k = true then some (bitsL k D.told.length) else some (bitsL s D.told.length)) = some (bitsL s D.told.length) := by
        by_cases hP : someT D k = true
        · rw [if_pos (hb k (by omega) (by omega) hP).1]
        · rw [if_neg hP]; split <;> rfl
      rw [e]
      exact ⟨.inr ⟨s, by omega, hs, rfl⟩, fun _ => rfl⟩
    · subst heq
      have e : wrongStep D s (wrongTo D s) = some (bitsL s D.told.length) := by
        rcases h1 with h | ⟨b, hb1, hb2, h⟩
        · rw [h, wrongStep_none, if_pos hs]
        · rw [h, wrongStep_eq, (hb b (by omega) (by omega) hb2).2, if_neg (by decide), if_pos hs]
      rw [e]
      exact ⟨.inr ⟨s, by omega, hs, rfl⟩, fun _ => rfl⟩
    · refine ⟨?_, fun h => absurd h (by omega)⟩
      rcases h1 with h | ⟨b, hb1, hb2, h⟩
      · rw [h, wrongStep_none]
        by_cases hP : someT D k = true
        · rw [if_pos hP]; exact .inr ⟨k, by omega, hP, rfl⟩
        · rw [if_neg hP]; exact .inl rfl
      · rw [h, wrongStep_eq]
        by_cases hk' : kc D.told.length b k = true
        · rw [if_pos hk']; exact .inr ⟨b, by omega, hb2, rfl⟩
        · rw [if_neg hk']
          by_cases hP : someT D k = true
          · rw [if_pos hP]; exact .inr ⟨k, by omega, hP, rfl⟩
          · rw [if_neg hP]; exact .inr ⟨b, by omega, hb2, rfl⟩
theorem wrong_eq {D : Dat} (hV : Valid D) {front back : List Nat} {s : Nat} (hf : flatN D.told.length = front ++ s :: back) (hn : ∀ b ∈ front, someT D b = false) (hs : someT D s = true) : wrongTo D (2 ^ D.told.length) = some (bitsL s D.told.length) := by
  have h4 := hV.t4
  have hp := pair_ok _ h4
  rw [hf] at hp
  have hsl := flat_lt _ h4 s (by rw [hf]; simp)
  refine (wrong_first s (2 ^ D.told.length) hs (fun b hb hne hP => ?_) _ (Nat.le_refl _)).2 hsl
  have hm := flat_all _ h4 b hb
  rw [hf] at hm
  rcases List.mem_append.1 hm with h | h
  · have := hn b h; rw [this] at hP; simp at hP
  · rcases List.mem_cons.1 h with h | h
    · exact absurd h hne
    · exact pairB_spec hp b h

theorem full_some {D : Dat} (hV : Valid D) : someT D (2 ^ D.told.length - 1) = true := by
  have hmem : (D.lo, sureTo D D.spots.length) ∈ truthsL D (2 ^ D.told.length - 1) := by
    unfold truthsL nearsTo
    refine List.mem_flatMap.2 ⟨0, List.mem_range.2 (by have := hV.le; omega), ?_⟩
    unfold setsTo
    refine List.mem_map.2 ⟨sureTo D D.spots.length, List.mem_filter.2 ⟨List.mem_range.2 (sureTo_lt D _), ?_⟩, by simp⟩
    unfold isTruth
    rw [Bool.and_eq_true]
    constructor
    · rw [okSet_upto D _ (sureTo_lt D _)]
      unfold okUpto
      rw [List.all_eq_true]
      intro i hi
      rw [sureTo_bit, decide_eq_true (List.mem_range.1 hi), Bool.true_and]
      cases onB D i <;> cases sureK D i <;> rfl
    · unfold soB soTo
      rw [List.all_eq_true]
      intro i hi
      rw [Nat.testBit_two_pow_sub_one, decide_eq_true (List.mem_range.1 hi)]; rfl
  unfold someT
  cases h : truthsL D (2 ^ D.told.length - 1) with
  | nil => rw [h] at hmem; simp at hmem
  | cons a l => rfl
theorem choices_ev : ∀ m k : Nat, k ≤ m → m ≤ 4 → ∃ K, helioscoperef01_Choices.f K (m : Int) (k : Int) = some ((ordN m k).map fun s => natsI (bitsL s m))
  | 0, 0, _, _ => ⟨200, by kernel_rfl⟩
  | 1, 0, _, _ => ⟨200, by kernel_rfl⟩
  | 1, 1, _, _ => ⟨200, by kernel_rfl⟩
  | 2, 0, _, _ => ⟨200, by kernel_rfl⟩
  | 2, 1, _, _ => ⟨200, by kernel_rfl⟩
  | 2, 2, _, _ => ⟨200, by kernel_rfl⟩
  | 3, 0, _, _ => ⟨200, by kernel_rfl⟩
  | 3, 1, _, _ => ⟨200, by kernel_rfl⟩
  | 3, 2, _, _ => ⟨200, by kernel_rfl⟩
  | 3, 3, _, _ => ⟨200, by kernel_rfl⟩
  | 4, 0, _, _ => ⟨200, by kernel_rfl⟩
  | 4, 1, _, _ => ⟨200, by kernel_rfl⟩
  | 4, 2, _, _ => ⟨200, by kernel_rfl⟩
  | 4, 3, _, _ => ⟨200, by kernel_rfl⟩
  | 4, 4, _, _ => ⟨200, by kernel_rfl⟩
  | 0, k + 1, h, _ => by omega
  | 1, k + 2, h, _ => by omega
  | 2, k + 3, h, _ => by omega
  | 3, k + 4, h, _ => by omega
  | 4, k + 5, h, _ => by omega
  | m + 5, _, _, h => by omega
theorem has_bits (s m i : Nat) (hi : i < m) : hasB (natsI (bitsL s m)) i = s.testBit i := by
  rw [Bool.eq_iff_iff]
  unfold hasB natsI
  simp only [List.any_map, List.any_eq_true, Function.comp, beq_iff_eq]
  constructor
  · rintro ⟨x, hx, he⟩
    have : x = i := by omega
    subst this
    exact (mem_bitsL.1 hx).2
  · intro h
    exact ⟨i, mem_bitsL.2 ⟨hi, h⟩, rfl⟩
theorem rTruthsBut {D : Dat} (hV : Valid D) (s : Nat) : ∃ rl, Ev (fun f => helioscoperef01_Truths.f f D.nm D.rad D.lo D.hi D.spots D.told (natsI (bitsL s D.told.length))) rl ∧ (someT D s = true → 0 < rl.length) ∧ (someT D s = false → rl.length = 0) := by
  have h4 := hV.t4
  have hb := bitsL_len s D.told.length
  refine ⟨_, rTruths hV _ (by simp only [natsI, List.length_map]; omega), fun h => ?_, fun h => ?_⟩ <;>
    (have hp := (truths_perm D (natsI (bitsL s D.told.length)) s (fun i hi => has_bits s _ i hi)).length_eq
     rw [List.length_map, hp]
     unfold someT at h
     cases ht : truthsL D s with
     | nil => rw [ht] at h; simp at h ⊢
     | cons a l => rw [ht] at h; simp at h ⊢)

theorem flat_split {m k i s : Nat} (hk : k ≤ m) (hs : (ordN m k)[i]? = some s) : ∃ back, flatN m = ((List.range k).flatMap (ordN m) ++ (ordN m k).take i) ++ s :: back := by
  obtain ⟨hi, he⟩ := List.getElem?_eq_some_iff.1 hs
  have h1 : List.range (m + 1) = List.range k ++ k :: (List.range (m + 1)).drop (k + 1) := by
    have h2 := List.take_append_drop k (List.range (m + 1))
    rw [List.take_range, Nat.min_eq_left (by omega), List.drop_eq_getElem_cons (by simp; omega), List.getElem_range] at h2
    exact h2.symm
  have h3 : ordN m k = (ordN m k).take i ++ s :: (ordN m k).drop (i + 1) := by
    have h2 := List.take_append_drop i (ordN m k)
    rw [List.drop_eq_getElem_cons hi, he] at h2
    exact h2.symm
  refine ⟨(ordN m k).drop (i + 1) ++ ((List.range (m + 1)).drop (k + 1)).flatMap (ordN m), ?_⟩
  unfold flatN
  generalize (List.range (m + 1)).drop (k + 1) = rest at h1 ⊢
  rw [h1, List.flatMap_append, List.flatMap_cons]
  conv => lhs; rw [h3]
  simp
theorem ord_full : ∀ m, m ≤ 4 → ordN m m = [2 ^ m - 1]
  | 0, _ => rfl
  | 1, _ => rfl
  | 2, _ => rfl
  | 3, _ => rfl
  | 4, _ => rfl
  | m + 5, h => by omega
theorem wrong_at {D : Dat} (hV : Valid D) {k i s : Nat} (hk : k ≤ D.told.length) (hs : (ordN D.told.length k)[i]? = some s) (h1 : ∀ b ∈ (List.range k).flatMap (ordN D.told.length), someT D b = false) (h2 : ∀ b ∈ (ordN D.told.length k).take i, someT D b = false) (hP : someT D s = true) :
    wrongTo D (2 ^ D.told.length) = some (bitsL s D.told.length) := by
  obtain ⟨back, hb⟩ := flat_split hk hs
  exact wrong_eq hV hb (fun b hb => (List.mem_append.1 hb).elim (h1 b) (h2 b)) hP
end Go.Proofs.Ytemeapfnfegkiaa.D
end
section
/- Package disk: the reference's Wrong. -/
namespace Go.Proofs.Ytemeapfnfegkiaa.D
open Go Go.RowKit Go.Proofs.YtemeapfnfegkiaaK Go.Proofs.YtemeapfnfegkiaaW.PrintWords Go.Proofs.YtemeapfnfegkiaaW.PrintLast Go.Proofs.YtemeapfnfegkiaaW.PrintMore Go.Proofs.Ytemeapfnfegkiaa.PR
set_option linter.unusedVariables false
set_option linter.unusedSimpArgs false

set_option maxRecDepth 100000 in
set_option maxHeartbeats 4000000 in
theorem refWrong_calls (D : Dat) (A4 : Option Addr) (c4 : Nat) (A5 : Option Addr) (c5 : Nat) (w : World) (h : Arg w D A4 c4 A5 c5) :
    Calls Try.prog 36 #[.agg #[.string D.nm, .int .i64 D.rad, .int .i64 D.lo, .int .i64 D.hi, .slice A4 D.spots.length c4, .slice A5 D.told.length c5]] w
      fun e w' => ∃ A c, e = .returned (.tuple #[.slice A (wrongF D).1.length c, .int .i64 (wrongF D).2]) ∧ Kd.C (Kd.int .i64) w' A (wrongF D).1.length (natsI (wrongF D).1) ∧ (wrongF D).1.length ≤ c ∧ Below w.heap.size w w' := by
  have hb1 := below_alloc (Below.refl w.heap.size w) (.cells #[.string D.nm, .int .i64 D.rad, .int .i64 D.lo, .int .i64 D.hi, .slice A4 D.spots.length c4, .slice A5 D.told.length c5] 27)
  have HB := Aside0.mk hb1
  have HS := Aside0.mk (blk_new w (.cells #[.string D.nm, .int .i64 D.rad, .int .i64 D.lo, .int .i64 D.hi, .slice A4 D.spots.length c4, .slice A5 D.told.length c5] 27))
  have HA := Aside0.mk h
  have hF := h.fits
  clear h hb1
  obtain ⟨⟨wl, we⟩, hwf⟩ : ∃ r, wrongF D = r := ⟨_, rfl⟩
  have HWF := Aside0.mk hwf
  rw [hwf]
  clear hwf
  obtain ⟨q, hq⟩ : ∃ q, w.heap.size = q := ⟨_, rfl⟩
  go_enter Try.func36, Try.ntmps36
  go_wp2_with fail
  generalize w.alloc (.cells #[.string D.nm, .int .i64 D.rad, .int .i64 D.lo, .int .i64 D.hi, .slice A4 D.spots.length c4, .slice A5 D.told.length c5] 27) = w1 at HB HS ⊢
  rw [hq] at HS
  obtain ⟨K, hK⟩ := (rCheck D hF.nm hF.s hF.t).rounds
  generalize hcF : checkF D = cF at hK
  obtain ⟨r1, r2, r3⟩ := cF
  have HK := Aside0.mk hK
  have HCF := Aside0.mk hcF
  clear hK hcF
  have hA1 := HA.out.below HB.out
  refine (helioscoperef01_Check.calls K D.nm D.rad D.lo D.hi A4 c4 D.spots A5 c5 D.told r1 r2 r3 w1 hA1.s hA1.sc hA1.t hA1.tc HK.out).mono ?_
  rintro e w2 ⟨rfl, hb⟩
  have HB2 := Aside0.mk (HB.out.trans (hb.mono HB.out.size))
  have HS2 := Aside0.mk (blk_below HS.out hb)
  clear hb HB HS hA1 HK
  by_cases hc : r3 = 0
  · subst hc
    have hV : Valid D := (check_valid (by rw [HCF.out])).1
    have hwl : wrongF D = ((wrongTo D (2 ^ D.told.length)).getD [], 0) := by unfold wrongF; rw [HCF.out]; rfl
    rw [HWF.out] at hwl
    obtain ⟨hwl1, rfl⟩ := Prod.mk.inj hwl
    have HWL := Aside0.mk hwl1
    have h4 := hV.t4
    have HV := Aside0.mk hV
    clear hwl hwl1 hV HWF
    go_upto_region 4 with (fail)
    go_wp2_with fail
    have HP : Aside0 (∀ s, wrongTo D (2 ^ D.told.length) = some (bitsL s D.told.length) → wl = bitsL s D.told.length) := ⟨fun s h => by rw [HWL.out, h]; rfl⟩
    go_loopw [7, 8, 9] (fun a _ _ wr => ∃ k : Nat, k ≤ D.told.length ∧ a = .int .i64 k ∧ Aside0 (Below w.heap.size w wr) ∧ Aside0 (wr.heap[q]? = some (.cells #[.string D.nm, .int .i64 D.rad, .int .i64 D.lo, .int .i64 D.hi, .slice A4 D.spots.length c4, .slice A5 D.told.length c5] 27 (0, 0))) ∧ Aside0 (∀ s ∈ (List.range k).flatMap (ordN D.told.length), someT D s = false)) (fun a _ _ _ => D.told.length - (intOf a).toNat)
    case atStart => exact ⟨0, Nat.zero_le _, rfl, HB2, HS2, ⟨fun s hs => by simp at hs⟩⟩
    case round =>
      clear HB2 HS2
      obtain ⟨k, hk, rfl, HB, HS, HN⟩ := hrel
      have k0 := (blk_cell HS.out 0).trans rfl
      have k1 := (blk_cell HS.out 1).trans rfl
      have k2 := (blk_cell HS.out 2).trans rfl
      have k3 := (blk_cell HS.out 3).trans rfl
      have k4 := (blk_cell HS.out 4).trans rfl
      have k5 := (blk_cell HS.out 5).trans rfl
      have kl := blk_lt HS.out
      by_cases hlt : k < D.told.length
      · obtain ⟨K, hK⟩ := choices_ev D.told.length k hk (by omega)
        have HK := Aside0.mk hK
        clear hK
        go_wp2_with fail
        refine (helioscoperef01_Choices.calls K (D.told.length : Int) (k : Int) _ wr HK.out).mono ?_
        rintro e w3 ⟨v0, rfl, hs, hb⟩
        obtain ⟨A, c, rfl⟩ := Kd.S_slice hs
        have HL := Aside0.mk (Kd.S_reads' hs).2.2
        have HB3 := Aside0.mk (HB.out.trans (hb.mono HB.out.size))
        have HS3 := Aside0.mk (blk_below HS.out hb)
        clear hb hs HB HS k0 k1 k2 k3 k4 k5 kl HK
        obtain ⟨L, hL⟩ : ∃ L, ((ordN D.told.length k).map fun s => natsI (bitsL s D.told.length)) = L := ⟨_, rfl⟩
        have HLe := Aside0.mk hL
        rw [hL] at HL ⊢
        clear hL
        go_wp2_with fail
        go_loopw [9] (fun a wr => ∃ i : Nat, i ≤ L.length ∧ a = .int .i64 i ∧ Aside0 (Below w.heap.size w wr) ∧ Aside0 (wr.heap[q]? = some (.cells #[.string D.nm, .int .i64 D.rad, .int .i64 D.lo, .int .i64 D.hi, .slice A4 D.spots.length c4, .slice A5 D.told.length c5] 27 (0, 0))) ∧ Aside0 (Kd.C (Kd.slice 3 (Kd.int .i64)) wr A L.length L) ∧ Aside0 (∀ s ∈ (ordN D.told.length k).take i, someT D s = false)) (fun a _ => L.length - (intOf a).toNat)
        case atStart => exact ⟨0, Nat.zero_le _, rfl, HB3, HS3, HL, ⟨fun s hs => by simp at hs⟩⟩
        case round =>
          clear HB3 HS3 HL
          obtain ⟨i, hi, rfl, HB, HS, HL, HNi⟩ := hrel
          by_cases hil : i < L.length
          · obtain ⟨ad, A0, c0, hA', hx, hle0, hC0⟩ := at_L4 HL.out (i : Int) (by omega) (by omega)
            cases hA'
            have hord : (ordN D.told.length k).length = L.length := by rw [← HLe.out, List.length_map]
            obtain ⟨s, hs⟩ : ∃ s, (ordN D.told.length k)[i]? = some s := ⟨_, List.getElem?_eq_getElem (by omega)⟩
            obtain ⟨bl, hbl⟩ : ∃ bl, natsI (bitsL s D.told.length) = bl := ⟨_, rfl⟩
            have hLi : rd_L4 L (i : Int) = bl := by
              rw [← hbl]
              rw [rd_L4_at L i hil]
              have : L[i]? = some (natsI (bitsL s D.told.length)) := by rw [← HLe.out, List.getElem?_map, hs]; rfl
              exact (List.getElem?_eq_some_iff.1 this).2
            have HSI := Aside0.mk hs
            rw [hLi] at hx hle0 hC0
            clear hs hLi hord
            have HBL := Aside0.mk hbl
            rw [Int.toNat_natCast] at hx
            obtain ⟨rl, hev, hr1, hr0⟩ := rTruthsBut HV.out s
            obtain ⟨K, hK⟩ := hev.rounds
            rw [hbl] at hK
            clear hbl
            have HK := Aside0.mk hK
            have HR1 := Aside0.mk hr1
            have HR0 := Aside0.mk hr0
            have HC0 := Aside0.mk hC0
            have HLE := Aside0.mk hle0
            clear hK hev hr1 hr0 hC0 hle0
            have k0 : wr.drew.cell? ⟨q, 0, none⟩ = some (.string D.nm) := (blk_cell HS.out 0).trans rfl
            have k1 : wr.drew.cell? ⟨q, 1, none⟩ = some (.int .i64 D.rad) := (blk_cell HS.out 1).trans rfl
            have k2 : wr.drew.cell? ⟨q, 2, none⟩ = some (.int .i64 D.lo) := (blk_cell HS.out 2).trans rfl
            have k3 : wr.drew.cell? ⟨q, 3, none⟩ = some (.int .i64 D.hi) := (blk_cell HS.out 3).trans rfl
            have k4 : wr.drew.cell? ⟨q, 4, none⟩ = some (.slice A4 D.spots.length c4) := (blk_cell HS.out 4).trans rfl
            have k5 : wr.drew.cell? ⟨q, 5, none⟩ = some (.slice A5 D.told.length c5) := (blk_cell HS.out 5).trans rfl
            have kl : q < wr.drew.heap.size := blk_lt HS.out
            have hxd : wr.drew.cell? (ad.add i) = some (.slice A0 (bl).length c0) := hx
            have HBd : Aside0 (Below w.heap.size w wr.drew) := ⟨below_drew1 HB.out⟩
            have HBr : Aside0 (Below wr.heap.size wr wr.drew) := ⟨below_drew1 (Below.refl _ _)⟩
            go_upto_region 11 with (fail)
            by_cases hP : someT D s = true
            all_goals
              have hpos : (0 : Int) < rl.length ∨ rl.length = 0 := by
                by_cases h : rl.length = 0
                · exact .inr h
                · left; omega
            · replace hpos : (0 : Int) < rl.length := by have := HR1.out hP; omega
              have hwl : wl = bitsL s D.told.length := HP.out s (wrong_at HV.out (by omega) HSI.out HN.out HNi.out hP)
              subst hwl
              go_region_held3 (fun w' => w'.cell? ⟨q, 0, none⟩ = some (.string D.nm) ∧ w'.cell? ⟨q, 1, none⟩ = some (.int .i64 D.rad) ∧ w'.cell? ⟨q, 2, none⟩ = some (.int .i64 D.lo) ∧ w'.cell? ⟨q, 3, none⟩ = some (.int .i64 D.hi) ∧ w'.cell? ⟨q, 4, none⟩ = some (.slice A4 D.spots.length c4) ∧ w'.cell? ⟨q, 5, none⟩ = some (.slice A5 D.told.length c5) ∧ w'.cell? (ad.add i) = some (.slice A0 (bl).length c0)) (refine ⟨?_, ?_, ?_, ?_, ?_, ?_, ?_⟩ <;> assumption) (first | (go_at_call 50; have hA1 := HA.out.below HBd.out; refine (helioscoperef01_Truths.calls K D.nm D.rad D.lo D.hi A4 c4 D.spots A5 c5 D.told A0 c0 (bl) rl wr.drew hA1.s hA1.sc hA1.t hA1.tc (Kd.C_below HC0.out HBr.out) HLE.out HK.out).mono ?_; rintro e w5 ⟨v0, rfl, hn, hb⟩; obtain ⟨A', c', rfl⟩ := Kd.N_slice hn; replace k0 := (hb.cell (World.block_lt_of_cell? _ _ k0)).trans k0; replace k1 := (hb.cell (World.block_lt_of_cell? _ _ k1)).trans k1; replace k2 := (hb.cell (World.block_lt_of_cell? _ _ k2)).trans k2; replace k3 := (hb.cell (World.block_lt_of_cell? _ _ k3)).trans k3; replace k4 := (hb.cell (World.block_lt_of_cell? _ _ k4)).trans k4; replace k5 := (hb.cell (World.block_lt_of_cell? _ _ k5)).trans k5; replace hxd := (hb.cell (World.block_lt_of_cell? _ _ hxd)).trans hxd; replace HBd := Aside0.mk (HBd.out.trans (hb.mono HBd.out.size)); replace HC0 := Aside0.mk (Kd.C_below (Kd.C_below HC0.out HBr.out) hb); have HS5 := Aside0.mk (blk_below (w := wr.drew) HS.out hb); have HL5 := Aside0.mk (Kd.C_below (Kd.C_below HL.out HBr.out) hb); clear hn hb hA1))
              go_wp2
              go_ret2
              have e1 : bl.length = (bitsL s D.told.length).length := by rw [← HBL.out]; simp [natsI]
              have hC := HC0.out
              rw [e1] at hC
              have hle := HLE.out
              rw [e1] at hle
              exact ⟨A0, c0, by rw [e1]; rfl, by rw [HBL.out]; exact hC, hle, HBd.out⟩
            · have hP' : someT D s = false := by simpa using hP
              replace hpos : rl.length = 0 := HR0.out hP'
              go_region_held3 (fun w' => w'.cell? ⟨q, 0, none⟩ = some (.string D.nm) ∧ w'.cell? ⟨q, 1, none⟩ = some (.int .i64 D.rad) ∧ w'.cell? ⟨q, 2, none⟩ = some (.int .i64 D.lo) ∧ w'.cell? ⟨q, 3, none⟩ = some (.int .i64 D.hi) ∧ w'.cell? ⟨q, 4, none⟩ = some (.slice A4 D.spots.length c4) ∧ w'.cell? ⟨q, 5, none⟩ = some (.slice A5 D.told.length c5) ∧ w'.cell? (ad.add i) = some (.slice A0 (bl).length c0)) (refine ⟨?_, ?_, ?_, ?_, ?_, ?_, ?_⟩ <;> assumption) (first | (go_at_call 50; have hA1 := HA.out.below HBd.out; refine (helioscoperef01_Truths.calls K D.nm D.rad D.lo D.hi A4 c4 D.spots A5 c5 D.told A0 c0 (bl) rl wr.drew hA1.s hA1.sc hA1.t hA1.tc (Kd.C_below HC0.out HBr.out) HLE.out HK.out).mono ?_; rintro e w5 ⟨v0, rfl, hn, hb⟩; obtain ⟨A', c', rfl⟩ := Kd.N_slice hn; replace k0 := (hb.cell (World.block_lt_of_cell? _ _ k0)).trans k0; replace k1 := (hb.cell (World.block_lt_of_cell? _ _ k1)).trans k1; replace k2 := (hb.cell (World.block_lt_of_cell? _ _ k2)).trans k2; replace k3 := (hb.cell (World.block_lt_of_cell? _ _ k3)).trans k3; replace k4 := (hb.cell (World.block_lt_of_cell? _ _ k4)).trans k4; replace k5 := (hb.cell (World.block_lt_of_cell? _ _ k5)).trans k5; replace hxd := (hb.cell (World.block_lt_of_cell? _ _ hxd)).trans hxd; replace HBd := Aside0.mk (HBd.out.trans (hb.mono HBd.out.size)); replace HC0 := Aside0.mk (Kd.C_below (Kd.C_below HC0.out HBr.out) hb); have HS5 := Aside0.mk (blk_below (w := wr.drew) HS.out hb); have HL5 := Aside0.mk (Kd.C_below (Kd.C_below HL.out HBr.out) hb); clear hn hb hA1))
              have hLl : L.length ≤ 9223372036854775807 := HL.out.2.1
              go_wp2_with fail
              refine ⟨⟨i + 1, by omega, by go_num, HBd, HS5, HL5, ⟨fun s' hs' => ?_⟩⟩, by simp [intOf]; omega⟩
              rw [List.take_add_one, HSI.out] at hs'
              rcases List.mem_append.1 hs' with h | h
              · exact HNi.out s' h
              · have : s' = s := by simpa using h
                rw [this]; exact hP'
          · obtain rfl : i = L.length := by omega
            go_wp2_with fail
            refine ⟨⟨k + 1, by omega, by go_num, HB, HS, ⟨fun s hs => ?_⟩⟩, by simp [intOf]; omega⟩
            rw [List.range_succ, List.flatMap_append] at hs
            rcases List.mem_append.1 hs with h | h
            · exact HN.out s h
            · refine HNi.out s ?_
              have e : (ordN D.told.length k).take L.length = ordN D.told.length k := List.take_of_length_le (by rw [← HLe.out, List.length_map]; exact Nat.le_refl _)
              rw [e]
              simpa using h
      · obtain rfl : k = D.told.length := by omega
        go_wp2_with fail
        obtain ⟨K, hK⟩ := choices_ev D.told.length D.told.length (Nat.le_refl _) h4
        rw [ord_full _ h4] at hK
        have HK := Aside0.mk hK
        clear hK
        refine (helioscoperef01_Choices.calls K _ _ _ wr HK.out).mono ?_
        rintro e w3 ⟨v0, rfl, hs, hb⟩
        obtain ⟨A, c, rfl⟩ := Kd.S_slice hs
        have hL := (Kd.S_reads' hs).2.2
        obtain ⟨ad, A0, c0, hA', hx, hle0, hC0⟩ := at_L4 hL 0 (by decide) (by simp)
        cases hA'
        have HB3 := Aside0.mk (HB.out.trans (hb.mono HB.out.size))
        have hwl : wl = bitsL (2 ^ D.told.length - 1) D.told.length := HP.out _ (wrong_at (i := 0) HV.out (Nat.le_refl _) (by rw [ord_full _ h4]; rfl) HN.out (fun b hb => by simp at hb) (full_some HV.out))
        subst hwl
        obtain ⟨bl, hbl⟩ : ∃ bl, natsI (bitsL (2 ^ D.told.length - 1) D.told.length) = bl := ⟨_, rfl⟩
        have hx2 : w3.cell? ad = some (.slice A0 bl.length c0) := by rw [← hbl]; exact hx
        have hle : bl.length ≤ c0 := by rw [← hbl]; exact hle0
        have hC : Kd.C (Kd.int .i64) w3 A0 bl.length bl := by rw [← hbl]; exact hC0
        have HBL := Aside0.mk hbl
        have HC := Aside0.mk hC
        have HLE := Aside0.mk hle
        clear hx hle0 hC0 hbl hC hle hL hs hb
        simp only [List.map_cons, List.map_nil, List.length_cons, List.length_nil]
        go_wp2
        go_ret2
        have e1 : bl.length = (bitsL (2 ^ D.told.length - 1) D.told.length).length := by rw [← HBL.out]; simp [natsI]
        have hC := HC.out
        rw [e1] at hC
        have hle := HLE.out
        rw [e1] at hle
        exact ⟨A0, c0, by rw [e1]; rfl, by rw [HBL.out]; exact hC, hle, HB3.out⟩
  · have hwl : wrongF D = ([], r3) := by unfold wrongF; rw [HCF.out]; simp [hc]
    rw [HWF.out] at hwl
    obtain ⟨rfl, rfl⟩ := Prod.mk.inj hwl
    go_wp2
    go_ret2
    exact ⟨none, 0, rfl, ⟨rfl, Nat.zero_le _, fun h => absurd h (Nat.lt_irrefl 0)⟩, Nat.le_refl _, HB2.out⟩
end Go.Proofs.Ytemeapfnfegkiaa.D
end
section
/- Package disk: DiskAsks. -/
namespace Go.Proofs.Ytemeapfnfegkiaa.D
open Go Go.RowKit Go.Proofs.YtemeapfnfegkiaaK Go.Proofs.YtemeapfnfegkiaaW.PrintWords Go.Proofs.YtemeapfnfegkiaaW.PrintLast Go.Proofs.YtemeapfnfegkiaaW.PrintMore Go.Proofs.Ytemeapfnfegkiaa.PR
set_option linter.unusedVariables false
set_option linter.unusedSimpArgs false

set_option maxRecDepth 100000 in
set_option maxHeartbeats 4000000 in
theorem DiskAsks_calls (D : Dat) (A4 : Option Addr) (c4 : Nat) (A5 : Option Addr) (c5 : Nat) (w : World) (h : Arg w D A4 c4 A5 c5) :
    Calls Try.prog 6 #[.agg #[.string D.nm, .int .i64 D.rad, .int .i64 D.lo, .int .i64 D.hi, .slice A4 D.spots.length c4, .slice A5 D.told.length c5]] w
      fun e w' => e = .returned (.bool true) ∧ Below w.heap.size w w' := by
  have hb1 := below_alloc (Below.refl w.heap.size w) (.cells #[.string D.nm, .int .i64 D.rad, .int .i64 D.lo, .int .i64 D.hi, .slice A4 D.spots.length c4, .slice A5 D.told.length c5] 27)
  have HB := Aside0.mk hb1
  have HS := Aside0.mk (blk_new w (.cells #[.string D.nm, .int .i64 D.rad, .int .i64 D.lo, .int .i64 D.hi, .slice A4 D.spots.length c4, .slice A5 D.told.length c5] 27))
  have HA0 := Aside0.mk h
  have hF := h.fits
  clear h hb1
  obtain ⟨q, hq⟩ : ∃ q, w.heap.size = q := ⟨_, rfl⟩
  go_enter Try.func6, Try.ntmps6
  go_wp2_with fail
  generalize w.alloc (.cells #[.string D.nm, .int .i64 D.rad, .int .i64 D.lo, .int .i64 D.hi, .slice A4 D.spots.length c4, .slice A5 D.told.length c5] 27) = w1 at HB HS ⊢
  rw [hq] at HS
  refine (Ask_calls D A4 c4 A5 c5 w1 (HA0.out.below HB.out)).mono ?_
  generalize hcF : askF D = cF
  obtain ⟨r1, r2, r3, r4⟩ := cF
  rintro e w2 ⟨rfl, hb⟩
  replace HB := Aside0.mk (HB.out.trans (hb.mono HB.out.size))
  replace HS := Aside0.mk (blk_below HS.out hb)
  clear hb
  go_upto_region 2 with (fail)
  have k0 := (blk_cell HS.out 0).trans rfl
  have k1 := (blk_cell HS.out 1).trans rfl
  have k2 := (blk_cell HS.out 2).trans rfl
  have k3 := (blk_cell HS.out 3).trans rfl
  have k4 := (blk_cell HS.out 4).trans rfl
  have k5 := (blk_cell HS.out 5).trans rfl
  have kl := blk_lt HS.out
  go_wp2_with fail
  clear k0 k1 k2 k3 k4 k5 kl
  obtain ⟨K, hK⟩ := (rAsk hF).rounds
  rw [hcF] at hK
  have HK := Aside0.mk hK
  clear hK hcF
  have hA := HA0.out.below HB.out
  refine (helioscoperef01_Ask.calls K D.nm D.rad D.lo D.hi A4 c4 D.spots A5 c5 D.told r1 r2 r3 r4 w2 hA.s hA.sc hA.t hA.tc HK.out).mono ?_
  clear hA
  rintro e w3 ⟨rfl, hb⟩
  replace HB := Aside0.mk (HB.out.trans (hb.mono HB.out.size))
  replace HS := Aside0.mk (blk_below HS.out hb)
  clear hb HK
  go_upto_region 5 with (fail)
  have k0 := (blk_cell HS.out 0).trans rfl
  have k1 := (blk_cell HS.out 1).trans rfl
  have k2 := (blk_cell HS.out 2).trans rfl
  have k3 := (blk_cell HS.out 3).trans rfl
  have k4 := (blk_cell HS.out 4).trans rfl
  have k5 := (blk_cell HS.out 5).trans rfl
  have kl := blk_lt HS.out
  go_wp2_with fail
  clear k0 k1 k2 k3 k4 k5 kl
  refine (Wrong_calls D A4 c4 A5 c5 w3 (HA0.out.below HB.out)).mono ?_
  obtain ⟨⟨wl, we⟩, hwf⟩ : ∃ r, wrongF D = r := ⟨_, rfl⟩
  have HWF := Aside0.mk hwf
  rw [hwf]
  clear hwf
  rintro e w4 ⟨⟨v, rfl, hn⟩, hb⟩
  obtain ⟨A, c, rfl, hl5, hC⟩ := hn.shape
  have HC := Aside0.mk hC
  clear hn hC
  replace HB := Aside0.mk (HB.out.trans (hb.mono HB.out.size))
  replace HS := Aside0.mk (blk_below HS.out hb)
  clear hb
  go_upto_region 6 with (fail)
  have k0 := (blk_cell HS.out 0).trans rfl
  have k1 := (blk_cell HS.out 1).trans rfl
  have k2 := (blk_cell HS.out 2).trans rfl
  have k3 := (blk_cell HS.out 3).trans rfl
  have k4 := (blk_cell HS.out 4).trans rfl
  have k5 := (blk_cell HS.out 5).trans rfl
  have kl := blk_lt HS.out
  go_wp2_with fail
  clear k0 k1 k2 k3 k4 k5 kl
  refine (refWrong_calls D A4 c4 A5 c5 w4 (HA0.out.below HB.out)).mono ?_
  rw [HWF.out]
  rintro e w5 ⟨A', c', rfl, hC', hle', hb0⟩
  have HC2 := Aside0.mk (Kd.C_below HC.out hb0)
  have HC' := Aside0.mk hC'
  replace HB := Aside0.mk (HB.out.trans (hb0.mono HB.out.size))
  clear hb0 hC' HC HS
  dsimp only
  go_wp2_with fail
  refine (Ints_calls (ints wl) (natsI wl) A A' wl.length wl.length c c' w5 (by simp) (by simp [natsI]) HC2.out HC'.out).mono ?_
  have hi : (ints wl == natsI wl) = true := by rw [show ints wl = natsI wl from rfl]; exact beq_self_eq_true _
  rw [hi]
  clear hi
  rintro e w6 ⟨rfl, hc⟩
  have hb := hc.below (fun _ _ x => x.elim) (Nat.le_refl _)
  replace HB := Aside0.mk (HB.out.trans (hb.mono HB.out.size))
  clear hb hc
  go_wp2_with fail
  refine (Awake_calls w6).mono ?_
  rintro e w7 ⟨rfl, hb⟩
  replace HB := Aside0.mk (HB.out.trans (hb.mono HB.out.size))
  clear hb
  go_wp2
  go_ret
  exact ⟨rfl, HB.out⟩
end Go.Proofs.Ytemeapfnfegkiaa.D
end
