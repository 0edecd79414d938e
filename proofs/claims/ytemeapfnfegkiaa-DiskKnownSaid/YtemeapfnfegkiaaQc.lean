/- Contracts of the functions that this claim reaches, and the words for them. -/
import Derived.Test.YtemeapfnfegkiaaQb
import Derived.Test.YtemeapfnfegkiaaQk
import Derived.Deep.QuietTactic
/- Package disk: list and what it calls. -/
section
namespace Go.Proofs.Ytemeapfnfegkiaa.D
open Go Go.RowKit Go.Proofs.YtemeapfnfegkiaaK Go.Proofs.YtemeapfnfegkiaaW.PrintWords Go.Proofs.YtemeapfnfegkiaaW.PrintLast Go.Proofs.YtemeapfnfegkiaaW.PrintMore Go.Proofs.Ytemeapfnfegkiaa.PR
set_option linter.unusedVariables false
set_option linter.unusedSimpArgs false

abbrev ints (l : List Nat) : List Int := l.map Int.ofNat
def outP (set : Nat) (k : Nat) : Bool := !set.testBit k

theorem idxFrom_none {α : Type} {p : α → Bool} : ∀ {l : List α} {k : Nat}, idxFrom p l k = -1 → ∀ x ∈ l, p x = false
  | [], _, _ => by simp
  | x :: xs, k, h => by
    unfold idxFrom at h
    by_cases hp : p x = true
    · rw [if_pos hp] at h; omega
    · rw [if_neg hp] at h
      intro y hy
      rcases List.mem_cons.1 hy with rfl | hy
      · simpa using hp
      · exact idxFrom_none h y hy
theorem idxFrom_some {α : Type} {p : α → Bool} : ∀ {l : List α} {k : Nat}, idxFrom p l k ≠ -1 → ∃ i, i < l.length ∧ idxFrom p l k = ((k + i : Nat) : Int) ∧ (l.take i).all (fun x => !p x) = true ∧ (l.take (i + 1)).filter (fun x => !p x) = l.take i
  | [], _, h => absurd rfl h
  | x :: xs, k, h => by
    unfold idxFrom at h ⊢
    by_cases hp : p x = true
    · rw [if_pos hp] at h ⊢
      exact ⟨0, by simp, by simp, by simp, by simp [hp]⟩
    · rw [if_neg hp] at h ⊢
      obtain ⟨i, h1, h2, h3, h4⟩ := idxFrom_some h
      refine ⟨i + 1, by simp; omega, by rw [h2]; omega, ?_, ?_⟩
      · simp only [List.take_succ_cons, List.all_cons, h3, Bool.and_true]; simpa using hp
      · rw [List.take_succ_cons, List.take_succ_cons, List.filter_cons, if_pos (by simpa using hp), h4]

set_option maxHeartbeats 400000 in
theorem listC_calls (set k Bs : Nat) (w : World) (hset : set < 2 ^ 62) (hk : k < 62) (hb : w.heap[Bs]? = some (.cells #[.int .i64 set] 3 (0, 0))) :
    Calls Try.prog 123 #[.int .i64 k, .pointer (some ⟨Bs, 0, none⟩)] w fun e w' => e = .returned (.bool (outP set k)) ∧ w = w' := by
  have c0 : w.cell? ⟨Bs, 0, none⟩ = some (.int .i64 set) := (blk_cell hb 0).trans rfl
  have lb := blk_lt hb
  clear hb
  have hbit := bit1 set k hset
  have hmin : min k 64 = k := by omega
  obtain ⟨q, hq⟩ : ∃ q, set.testBit k = q := ⟨_, rfl⟩
  have HQ := Aside0.mk hq
  rw [hq] at hbit
  clear hq
  cases q
  · rw [if_neg (by simp)] at hbit
    go_enter Try.func123, Try.ntmps123
    go_wp2
    go_ret
    exact ⟨by rw [outP, HQ.out]; rfl, rfl⟩
  · rw [if_pos rfl] at hbit
    go_enter Try.func123, Try.ntmps123
    go_wp2
    go_ret
    exact ⟨by rw [outP, HQ.out]; rfl, rfl⟩
theorem enters123 (args : Array Value) (w : World) : (callFunc 123 args).run Try.prog w = .ok (.enter 123 args) w := enters_of Try.func123 (by kernel_rfl) rfl args w

theorem ints_get (l : List Nat) (k : Nat) (h : k < l.length) : rd (ints l) (k : Int) = (l[k] : Int) := by simp [rd, ints, h]

set_option maxHeartbeats 400000 in
theorem indexI_calls (l : List Nat) (set Bs : Nat) (A : Option Addr) (c : Nat) (w : World) (hset : set < 2 ^ 62) (hl : ∀ x ∈ l, x < 62) (hr : Kd.C (Kd.int .i64) w A l.length (ints l)) (hb : w.heap[Bs]? = some (.cells #[.int .i64 set] 3 (0, 0))) :
    Calls Try.prog 132 #[.slice A l.length c, .func (.func 123) #[] #[.pointer (some ⟨Bs, 0, none⟩)]] w fun e w' => e = .returned (.int .i64 (idxFrom (outP set) l 0)) ∧ w = w' := by
  have hlen := hr.2.1
  have HR := Aside0.mk hr
  have HB := Aside0.mk hb
  have he := enters123
  clear hr hb
  go_enter Try.func132, Try.ntmps132
  go_wp2
  go_loop [8] (fun j => ∃ k : Nat, k ≤ l.length ∧ j = .int .i64 k ∧ Aside0 (idxFrom (outP set) l 0 = idxFrom (outP set) (l.drop k) k)) (fun j => l.length - (intOf j).toNat)
  case atStart => exact ⟨0, Nat.zero_le _, rfl, ⟨rfl⟩⟩
  case round =>
    obtain ⟨k, hk, rfl, HO⟩ := hrel
    by_cases hlt : k < l.length
    · obtain ⟨ad, e, hc⟩ := at_nat HR.out k hlt
      rw [ints_get l k hlt] at hc
      subst e
      have HD : Aside0 (l.drop k = l[k] :: l.drop (k + 1)) := ⟨List.drop_eq_getElem_cons hlt⟩
      have hx := hl l[k] (List.getElem_mem hlt)
      generalize l[k] = x at hc HD hx
      obtain ⟨q, hq⟩ : ∃ q, outP set x = q := ⟨_, rfl⟩
      have HQ := Aside0.mk hq
      clear hq
      cases q
      · go_wp2_with (refine (listC_calls set x Bs _ hset hx HB.out).mono ?_; rw [HQ.out]; rintro e w1 ⟨rfl, rfl⟩)
        go_round
        case rel => exact ⟨k + 1, by omega, by go_num, ⟨by rw [HO.out, HD.out, idxFrom, HQ.out]; simp⟩⟩
        case measure => simp [intOf]; omega
      · go_wp2_with (refine (listC_calls set x Bs _ hset hx HB.out).mono ?_; rw [HQ.out]; rintro e w1 ⟨rfl, rfl⟩)
        go_ret
        exact ⟨by rw [HO.out, HD.out, idxFrom, HQ.out]; rfl, rfl⟩
    · obtain rfl : k = l.length := by omega
      go_wp2
      go_ret
      exact ⟨by rw [HO.out]; simp [idxFrom], rfl⟩
end Go.Proofs.Ytemeapfnfegkiaa.D
end
/- Package disk: DeleteFunc of a row of ints, list. -/
section
namespace Go.Proofs.Ytemeapfnfegkiaa.D
open Go Go.RowKit Go.Proofs.YtemeapfnfegkiaaK Go.Proofs.YtemeapfnfegkiaaW.PrintWords Go.Proofs.YtemeapfnfegkiaaW.PrintLast Go.Proofs.YtemeapfnfegkiaaW.PrintMore Go.Proofs.Ytemeapfnfegkiaa.PR
set_option linter.unusedVariables false
set_option linter.unusedSimpArgs false

theorem zeroI (w : World) : (zeroValue 3).run Try.prog w = .ok (.int .i64 0) w := by
  obtain ⟨i, hi, hz, _, _⟩ := i3
  simp [zeroValue, typeInfo, hi, hz]
abbrev keepP (set : Nat) (k : Nat) : Bool := !outP set k

/-- 'clear' of a row's end -/
theorem clearI (w : World) (g i n : Nat) (L : List Int) (hL : IB w 3 g L) (hn : L.length = n) (hi : i < n) (ty : TypeId) :
    (Builtin.clear_ #[46] ty #[.slice (some ⟨g, i, none⟩) (n - i) (n - i)]).run Try.prog w = .ok (.tuple #[]) (w.setCells g i ((List.replicate (n - i) (0 : Int)).map (Value.int .i64))) := by
  have h := Lib.run_clear_slice (P := Try.prog) w 46 3 ty (.int .i64 0) Try.underlying46 zeroI rfl rfl g i (n - i) (n - i) (by omega) (fun j hj => by rw [hL.cell (i + j) (by omega)]; rfl) (fun j hj => hL.frozen (i + j))
  rw [h]
  simp

set_option maxRecDepth 100000 in
set_option maxHeartbeats 1000000 in
theorem deleteI_calls (l : List Nat) (set Bs g : Nat) (w : World) (hset : set < 2 ^ 62) (hl : ∀ x ∈ l, x < 62) (hL : IB w 3 g (ints l)) (hlen : l.length ≤ 1000000) (hb : w.heap[Bs]? = some (.cells #[.int .i64 set] 3 (0, 0))) (hne : Bs ≠ g) :
    Calls Try.prog 122 #[.slice (some ⟨g, 0, none⟩) l.length l.length, .func (.func 123) #[] #[.pointer (some ⟨Bs, 0, none⟩)]] w
      fun e w' => e = .returned (.slice (some ⟨g, 0, none⟩) (l.filter (keepP set)).length l.length) ∧ (∃ L, IB w' 3 g L ∧ L.length = l.length ∧ L.take (l.filter (keepP set)).length = ints (l.filter (keepP set))) ∧ Chg (fun k => k = g) w w' := by
  have HI := Aside0.mk hL
  have HB := Aside0.mk hb
  have HL := Aside0.mk hl
  have hR := hL.read (ints l).length (Nat.le_refl _) (by simp; omega)
  rw [List.take_length, show (ints l).length = l.length by simp] at hR
  have HR := Aside0.mk hR
  have he := enters123
  clear hL hb hl hR
  go_enter Try.func122, Try.ntmps122
  obtain ⟨ix, hix⟩ : ∃ ix, idxFrom (outP set) l 0 = ix := ⟨_, rfl⟩
  have HX := Aside0.mk hix
  clear hix
  by_cases h1 : ix = -1
  · subst h1
    go_wp2_with (go_at_call 132; refine (indexI_calls l set Bs _ _ _ hset HL.out HR.out HB.out).mono ?_; rw [HX.out]; rintro e w1 ⟨rfl, rfl⟩)
    go_ret
    have hf : l.filter (keepP set) = l := List.filter_eq_self.2 (fun x hx => by simp [keepP, idxFrom_none HX.out x hx])
    exact ⟨by rw [hf]; rfl, ⟨_, HI.out, by simp, by rw [hf, List.take_of_length_le (by simp)]⟩, Chg.refl _ _⟩
  · obtain ⟨i0, hi0, hxe, _, hft⟩ := idxFrom_some (l := l) (p := outP set) (k := 0) (by rw [HX.out]; exact h1)
    have hix : ix = i0 := by rw [← HX.out, hxe]; simp
    subst hix
    have HFT := Aside0.mk hft
    clear hft hxe h1
    have hm1 : ((i0 : Int) == -1) = false := beq_eq_false_iff_ne.2 (by omega)
    go_wp2_with (go_at_call 132; refine (indexI_calls l set Bs _ _ _ hset HL.out HR.out HB.out).mono ?_; rw [HX.out]; rintro e w1 ⟨rfl, rfl⟩)
    go_loopw [5, 6] (fun i j wr => ∃ (a k : Nat), a < k ∧ k ≤ l.length ∧ i = .int .i64 a ∧ j = .int .i64 k ∧ a = ((l.take k).filter (keepP set)).length ∧ Aside0 (∃ L, IB wr 3 g L ∧ L.length = l.length ∧ L.take a = ints ((l.take k).filter (keepP set)) ∧ L.drop k = ints (l.drop k)) ∧ Aside0 (Chg (fun k => k = g) w wr)) (fun i j _ => l.length - (intOf j).toNat)
    case atStart =>
      have e1 : (l.take (i0 + 1)).filter (keepP set) = l.take i0 := HFT.out
      exact ⟨i0, i0 + 1, by omega, by omega, rfl, by go_num, by rw [e1]; simp; omega, ⟨_, HI.out, by simp, by rw [e1]; simp [ints, List.map_take], by simp [ints, List.map_drop]⟩, ⟨Chg.refl _ _⟩⟩
    case round =>
      obtain ⟨a, k, hak, hk, rfl, rfl, ha, ⟨L, hL, hLn, hLt, hLd⟩, HC⟩ := hrel
      have HIL := Aside0.mk hL
      have HLt := Aside0.mk hLt
      have HLd := Aside0.mk hLd
      by_cases hlt : k < l.length
      · have hkL : k < L.length := by omega
        have hget : L[k] = (l[k] : Int) := by
          have h1 : (L.drop k)[0]? = (ints (l.drop k))[0]? := by rw [hLd]
          simp [ints, hkL, hlt] at h1
          exact h1
        have hck := hL.cell k hkL
        obtain ⟨y, hca⟩ : ∃ y, wr.cell? ⟨g, a, none⟩ = some (.int .i64 y) := ⟨_, hL.cell a (by omega)⟩
        have hfa := hL.frozen a
        rw [hget] at hck
        have hlg := hL.lt
        have hxl := HL.out l[k] (List.getElem_mem hlt)
        have HTK : Aside0 ((l.take (k + 1)).filter (keepP set) = (l.take k).filter (keepP set) ++ if keepP set l[k] = true then [l[k]] else []) := ⟨by
          rw [List.take_succ_eq_append_getElem hlt, List.filter_append]; congr 1; simp [List.filter_cons]⟩
        have HLd1 : Aside0 (L.drop (k + 1) = ints (l.drop (k + 1))) := ⟨by
          have : (L.drop k).drop 1 = (ints (l.drop k)).drop 1 := by rw [hLd]
          simpa [ints, List.map_drop, Nat.add_comm] using this⟩
        have HA := Aside0.mk ha
        have HBr := Aside0.mk (HC.out.heap HB.out hne)
        clear hL hLt hLd hget ha
        generalize l[k] = x at *
        obtain ⟨q, hq⟩ : ∃ q, outP set x = q := ⟨_, rfl⟩
        have HQ := Aside0.mk hq
        clear hq
        cases q
        · go_wp2_with (refine (listC_calls set x Bs _ hset hxl HBr.out).mono ?_; rw [HQ.out]; rintro e w1 ⟨rfl, rfl⟩)
          go_roundw
          case rel =>
            have hkp : keepP set x = true := by simp [keepP, HQ.out]
            refine ⟨a + 1, k + 1, by omega, by omega, by go_num, by go_num, ?_, ⟨_, HIL.out.set a x, by simp; omega, ?_, ?_⟩, ⟨HC.out.setCell (p := ⟨g, a, none⟩) (fun _ => rfl) _⟩⟩
            · rw [HTK.out, if_pos hkp, List.length_append, ← HA.out]; rfl
            · rw [HTK.out, if_pos hkp, List.take_succ_eq_append_getElem (by simp; omega), List.take_set_of_le (Nat.le_refl _), List.getElem_set_self, HLt.out]
              simp [ints]
            · rw [List.drop_set_of_lt (by omega), HLd1.out]
          case measure => simp [intOf]; omega
        · go_wp2_with (refine (listC_calls set x Bs _ hset hxl HBr.out).mono ?_; rw [HQ.out]; rintro e w1 ⟨rfl, rfl⟩)
          go_roundw
          case rel =>
            have hkp : keepP set x = false := by simp [keepP, HQ.out]
            refine ⟨a, k + 1, by omega, by omega, rfl, by go_num, ?_, ⟨L, HIL.out, hLn, ?_, HLd1.out⟩, HC⟩
            · rw [HTK.out, hkp]; simp [HA.out]
            · rw [HTK.out, hkp]; simp [HLt.out]
          case measure => simp [intOf]; omega
      · obtain rfl : k = l.length := by omega
        rw [List.take_length] at ha HLt
        have hcl := clearI wr g a l.length L hL hLn (by omega)
        have HA := Aside0.mk ha
        clear hL hLt hLd ha
        go_wp2
        go_ret
        have HS := IB.setCells (List.replicate (l.length - a) 0) a wr L HIL.out (by rw [List.length_replicate]; omega)
        rw [List.map_replicate] at HS
        refine ⟨by rw [← HA.out]; rfl, ⟨_, HS, by simp; omega, ?_⟩, Chg.setCells (S := fun k => k = g) (fun _ => rfl) _ _ _ HC.out⟩
        rw [← HA.out, List.append_assoc, List.take_append_of_le_length (by simp; omega), List.take_take, Nat.min_self, HLt.out]

set_option maxRecDepth 100000 in
set_option maxHeartbeats 1000000 in
theorem list_calls (set n : Nat) (w : World) (hset : set < 2 ^ 62) (hn : n ≤ 50) :
    Calls Try.prog 105 #[.int .i64 set, .int .i64 n] w
      fun e w' => (∃ g, w.heap.size ≤ g ∧ e = .returned (.slice (some ⟨g, 0, none⟩) ((List.range n).filter (keepP set)).length n) ∧ (∃ L, IB w' 3 g L ∧ L.length = n ∧ L.take ((List.range n).filter (keepP set)).length = ints ((List.range n).filter (keepP set)))) ∧ Chg (fun _ => False) w w' := by
  obtain ⟨ti, hti, htz, hts, htb⟩ := i3
  have HB0 := Aside0.mk (blk_new w (.cells #[.int .i64 set] 3))
  have HC0 : Aside0 (Chg (fun _ => False) w (w.alloc (.cells #[.int .i64 set] 3))) := ⟨(Chg.refl _ w).alloc _⟩
  go_enter Try.func105, Try.ntmps105
  go_upto_region 1 with (fail)
  have hsz : (w.alloc (.cells #[.int .i64 set] 3)).heap.size = w.heap.size + 1 := by simp
  generalize w.alloc (.cells #[.int .i64 set] 3) = w0 at HB0 HC0 hsz ⊢
  obtain ⟨g1, hg1⟩ : ∃ g1, w0.heap.size = g1 := ⟨_, rfl⟩
  have hz : w.heap.size < g1 := by omega
  clear hsz
  go_wp2_with (at_make; refine wpList_make_full _ rfl _ _ _ rfl 0 3 ti (.int .i64 0) 1 Try.underlying46 hti htz hts .i64 .i64 _ _ n rfl rfl rfl rfl (by rw [htb]; omega) (by simp only [maxLen]; omega) (Nat.zero_le _) ?_; intro w1 ho1 hg1; have HI1 := Aside0.mk (IB.of_owns (cap := n) ho1); have HC1 := Aside0.mk (Chg.grown hg1); clear ho1 hg1)
  rw [hg1] at HI1
  have HB1 := Aside0.mk (HC1.out.heap HB0.out (by simp))
  have z1 := HI1.out.lt
  go_loopw [12] (fun j wr => ∃ k : Nat, k ≤ n ∧ j = .int .i64 k ∧ Aside0 (IB wr 3 g1 (ints (List.range k) ++ List.replicate (n - k) 0)) ∧ Aside0 (Chg (fun k => k = g1) w1 wr)) (fun j _ => n - (intOf j).toNat)
  case atStart => exact ⟨0, Nat.zero_le _, rfl, ⟨by simpa [ints] using HI1.out⟩, ⟨Chg.refl _ _⟩⟩
  case round =>
    obtain ⟨k, hk, rfl, HI, HC⟩ := hrel
    by_cases hlt : k < n
    · obtain ⟨y, hca⟩ : ∃ y, wr.cell? ⟨g1, k, none⟩ = some (.int .i64 y) := ⟨_, HI.out.cell k (by simp; omega)⟩
      have hfa := HI.out.frozen k
      have hlg := HI.out.lt
      go_wp2
      go_roundw
      case rel =>
        refine ⟨k + 1, by omega, by go_num, ⟨?_⟩, ⟨HC.out.setCell (p := ⟨g1, k, none⟩) (fun _ => rfl) _⟩⟩
        have := HI.out.set k (k : Int)
        have e1 : (ints (List.range k) ++ List.replicate (n - k) 0).set k (k : Int) = ints (List.range (k + 1)) ++ List.replicate (n - (k + 1)) 0 := by
          rw [List.set_append_right _ _ (by simp), show n - k = (n - (k + 1)) + 1 by omega, List.replicate_succ]
          simp [ints, List.range_succ]
        rw [e1] at this
        exact this
      case measure => simp [intOf]; omega
    · obtain rfl : k = n := by omega
      have HI' : Aside0 (IB wr 3 g1 (ints (List.range k))) := ⟨by simpa using HI.out⟩
      have hsrc : ∀ (j : Nat) (v : Value), ((ints (List.range k)).map (Value.int .i64))[j]? = some v → wr.cell? ((⟨g1, 0, none⟩ : Addr).add j) = some v := fun j v hj => by
        have hadd : (⟨g1, 0, none⟩ : Addr).add j = ⟨g1, j, none⟩ := by unfold Addr.add; split <;> simp_all
        rw [hadd]
        obtain ⟨h1, h2⟩ := List.getElem?_eq_some_iff.1 hj
        rw [HI'.out.cell j (by simpa using h1), ← h2]; simp
      have HSRC := Aside0.mk hsrc
      have zr := HI'.out.lt
      clear hsrc
      go_wp2_with (first | (at_make; refine wpList_make_full _ rfl _ _ _ rfl 0 3 ti (.int .i64 0) 1 Try.underlying46 hti htz hts .i64 .i64 _ _ k rfl rfl rfl rfl (by rw [htb]; omega) (by simp only [maxLen]; omega) (Nat.zero_le _) ?_; intro w2 ho2 hg2; have HI2 := Aside0.mk (IB.of_owns (cap := k) ho2); have HC2 := Aside0.mk (Chg.grown hg2); have hcp := fun ty => run_copy_row (P := Try.prog) w2 46 46 ty 3 wr.heap.size 0 k k ⟨g1, 0, none⟩ k k _ 3 ((ints (List.range k)).map (Value.int .i64)) Try.underlying46 (by rw [hti]; simp [hts]) HI2.out (by simp) (fun j v hj => HC2.out.cell (HSRC.out j v hj) (by simp)) (by simp) (by simp [Value.oneCell']); clear ho2 hg2) | fail)
      have hzr : w.heap.size < wr.heap.size := by have := HC.out.size; omega
      have HI3 : Aside0 (IB (w2.setRow wr.heap.size (List.map (Value.int .i64 ∘ Int.ofNat) (List.range k)).toArray) 3 wr.heap.size (ints (List.range k))) := ⟨by
        have := setRow_heap w2 wr.heap.size _ (List.map (Value.int .i64 ∘ Int.ofNat) (List.range k)).toArray 3 (0, 0) HI2.out
        unfold IB
        rw [this, ints, List.map_map]⟩
      have HC3 : Aside0 (Chg (fun k => w.heap.size < k) w (w2.setRow wr.heap.size (List.map (Value.int .i64 ∘ Int.ofNat) (List.range k)).toArray)) := ⟨
        ((((HC0.out.mono (fun _ _ x => x.elim)).trans (HC1.out.mono (fun k _ e => by simp at e))).trans (HC.out.mono (fun k _ e => by omega))).trans (HC2.out.mono (fun k _ e => by simp at e))).setRow (fun h => by have := HC.out.size; omega) _⟩
      have HBX : Aside0 ((w2.setRow wr.heap.size (List.map (Value.int .i64 ∘ Int.ofNat) (List.range k)).toArray).heap[w.heap.size]? = some (.cells #[.int .i64 set] 3 (0, 0))) := ⟨
        ((((HC1.out.mono (S' := fun k => w.heap.size < k) (fun k _ e => by simp at e)).trans (HC.out.mono (fun k _ e => by omega))).trans (HC2.out.mono (fun k _ e => by simp at e))).setRow (fun h => hzr) _).heap HB0.out (by omega)⟩
      clear HI2 hcp
      have hd := deleteI_calls (List.range k) set w.heap.size wr.heap.size _ hset (fun x hx => by have := List.mem_range.1 hx; omega) HI3.out (by simp; omega) HBX.out (by omega)
      rw [List.length_range] at hd
      refine hd.mono ?_
      rintro e w3 ⟨rfl, ⟨L, hL, hLn, hLt⟩, hc3⟩
      have HL := Aside0.mk (And.intro hL (And.intro hLn hLt))
      have HC4 := Aside0.mk (HC3.out.trans (hc3.mono (fun k' _ e => by omega)))
      clear hd hL hLn hLt hc3
      go_wp2
      go_ret
      exact ⟨⟨wr.heap.size, by omega, rfl, L, HL.out⟩, HC4.out.mono (fun k h e => by omega)⟩
end Go.Proofs.Ytemeapfnfegkiaa.D
end
/- Package disk: Compare of rows of ints. -/
section
namespace Go.Proofs.Ytemeapfnfegkiaa.D
open Go Go.RowKit Go.Proofs.YtemeapfnfegkiaaK Go.Proofs.YtemeapfnfegkiaaW.PrintWords Go.Proofs.YtemeapfnfegkiaaW.PrintLast Go.Proofs.YtemeapfnfegkiaaW.PrintMore Go.Proofs.Ytemeapfnfegkiaa.PR
set_option linter.unusedVariables false
set_option linter.unusedSimpArgs false

def cmpI (a b : Int) : Int := if a < b then -1 else if b < a then 1 else 0
def cmpL : List Int → List Int → Int
  | [], [] => 0
  | [], _ :: _ => -1
  | _ :: _, [] => 1
  | a :: l, b :: m => if cmpI a b = 0 then cmpL l m else cmpI a b

theorem nanI_calls (a : Int) (w : World) : Calls Try.prog 133 #[.int .i64 a] w fun e w' => e = .returned (.bool false) ∧ w = w' := by
  go_enter Try.func133, Try.ntmps133
  go_wp2
  go_ret
  exact ⟨by simp, rfl⟩
theorem cmpI_calls (a b : Int) (w : World) : Calls Try.prog 124 #[.int .i64 a, .int .i64 b] w fun e w' => e = .returned (.int .i64 (cmpI a b)) ∧ w = w' := by
  by_cases h1 : a < b
  · go_enter Try.func124, Try.ntmps124
    go_wp2_with (go_at_call 133; refine (nanI_calls _ _).mono ?_; rintro e w1 ⟨rfl, rfl⟩)
    go_ret
    exact ⟨by rw [cmpI, if_pos h1]; rfl, rfl⟩
  · by_cases h2 : b < a
    · go_enter Try.func124, Try.ntmps124
      go_wp2_with (go_at_call 133; refine (nanI_calls _ _).mono ?_; rintro e w1 ⟨rfl, rfl⟩)
      go_ret
      exact ⟨by rw [cmpI, if_neg (by omega), if_pos h2]; rfl, rfl⟩
    · go_enter Try.func124, Try.ntmps124
      go_wp2_with (go_at_call 133; refine (nanI_calls _ _).mono ?_; rintro e w1 ⟨rfl, rfl⟩)
      go_ret
      exact ⟨by rw [cmpI, if_neg (by omega), if_neg (by omega)]; rfl, rfl⟩

set_option maxHeartbeats 400000 in
theorem compareI_calls (la lb : List Int) (A B : Option Addr) (c d : Nat) (w : World) (ha : Kd.C (Kd.int .i64) w A la.length la) (hb : Kd.C (Kd.int .i64) w B lb.length lb) :
    Calls Try.prog 106 #[.slice A la.length c, .slice B lb.length d] w fun e w' => e = .returned (.int .i64 (cmpL la lb)) ∧ w = w' := by
  have hlen := ha.2.1
  have hlen' := hb.2.1
  have HA := Aside0.mk ha
  have HB := Aside0.mk hb
  clear ha hb
  go_enter Try.func106, Try.ntmps106
  go_wp2
  go_loop [11] (fun j => ∃ k : Nat, k ≤ la.length ∧ k ≤ lb.length ∧ j = .int .i64 k ∧ Aside0 (cmpL la lb = cmpL (la.drop k) (lb.drop k))) (fun j => la.length - (intOf j).toNat)
  case atStart => exact ⟨0, Nat.zero_le _, Nat.zero_le _, rfl, ⟨rfl⟩⟩
  case round =>
    obtain ⟨k, hk, hk', rfl, HO⟩ := hrel
    by_cases hlt : k < la.length
    · obtain ⟨ad, e, hc⟩ := at_nat HA.out k hlt
      subst e
      rw [show rd la k = la[k] by simp [rd, hlt]] at hc
      have HDA : Aside0 (la.drop k = la[k] :: la.drop (k + 1)) := ⟨List.drop_eq_getElem_cons hlt⟩
      generalize la[k] = x at hc HDA
      by_cases hlt' : k < lb.length
      · obtain ⟨bd, e, hd⟩ := at_nat HB.out k hlt'
        subst e
        rw [show rd lb k = lb[k] by simp [rd, hlt']] at hd
        have HDB : Aside0 (lb.drop k = lb[k] :: lb.drop (k + 1)) := ⟨List.drop_eq_getElem_cons hlt'⟩
        generalize lb[k] = y at hd HDB
        have HS : Aside0 (cmpL la lb = if cmpI x y = 0 then cmpL (la.drop (k + 1)) (lb.drop (k + 1)) else cmpI x y) := ⟨by rw [HO.out, HDA.out, HDB.out]; rfl⟩
        obtain ⟨q, hq⟩ : ∃ q, cmpI x y = q := ⟨_, rfl⟩
        have HQ := Aside0.mk hq
        clear hq
        by_cases h0 : q = 0
        · subst h0
          go_wp2_with (go_at_call 124; refine (cmpI_calls _ _ _).mono ?_; rw [HQ.out]; rintro e w1 ⟨rfl, rfl⟩)
          go_round
          case rel => exact ⟨k + 1, by omega, by omega, by go_num, ⟨by rw [HS.out, if_pos HQ.out]⟩⟩
          case measure => simp [intOf]; omega
        · have h0' : (q == 0) = false := beq_eq_false_iff_ne.2 h0
          go_wp2_with (go_at_call 124; refine (cmpI_calls _ _ _).mono ?_; rw [HQ.out]; rintro e w1 ⟨rfl, rfl⟩)
          go_ret
          exact ⟨by rw [HS.out, HQ.out, if_neg h0]; rfl, rfl⟩
      · have HDB : Aside0 (lb.drop k = []) := ⟨List.drop_of_length_le (by omega)⟩
        go_wp2
        go_ret
        exact ⟨by rw [HO.out, HDA.out, HDB.out]; rfl, rfl⟩
    · have HDA : Aside0 (la.drop k = []) := ⟨List.drop_of_length_le (by omega)⟩
      by_cases hlt' : k < lb.length
      · have HDB : Aside0 (lb.drop k = lb[k] :: lb.drop (k + 1)) := ⟨List.drop_eq_getElem_cons hlt'⟩
        obtain rfl : k = la.length := by omega
        go_wp2
        go_ret
        exact ⟨by rw [HO.out, HDA.out, HDB.out]; rfl, rfl⟩
      · have HDB : Aside0 (lb.drop k = []) := ⟨List.drop_of_length_le (by omega)⟩
        obtain rfl : k = la.length := by omega
        go_wp2
        go_ret
        exact ⟨by rw [HO.out, HDA.out, HDB.out]; rfl, rfl⟩
theorem compareN_calls (la lb : List Nat) (A B : Option Addr) (c d : Nat) (w : World) (ha : Kd.C (Kd.int .i64) w A la.length (ints la)) (hb : Kd.C (Kd.int .i64) w B lb.length (ints lb)) :
    Calls Try.prog 106 #[.slice A la.length c, .slice B lb.length d] w fun e w' => e = .returned (.int .i64 (cmpL (ints la) (ints lb))) ∧ w = w' := by
  have e1 : (ints la).length = la.length := by simp
  have e2 : (ints lb).length = lb.length := by simp
  have := compareI_calls (ints la) (ints lb) A B c d w (by rw [e1]; exact ha) (by rw [e2]; exact hb)
  rw [e1, e2] at this
  exact this
end Go.Proofs.Ytemeapfnfegkiaa.D
end
/- Package disk: Wrong. -/
section
namespace Go.Proofs.Ytemeapfnfegkiaa.D
open Go Go.RowKit Go.Proofs.YtemeapfnfegkiaaK Go.Proofs.YtemeapfnfegkiaaW.PrintWords Go.Proofs.YtemeapfnfegkiaaW.PrintLast Go.Proofs.YtemeapfnfegkiaaW.PrintMore Go.Proofs.Ytemeapfnfegkiaa.PR
set_option linter.unusedVariables false
set_option linter.unusedSimpArgs false

/-- a row of numbers that the call has made -/
def NewRow (w : World) (n0 : Nat) (v : Value) (l : List Nat) : Prop :=
  (v = .slice none 0 0 ∧ l = []) ∨ ∃ g L n, v = .slice (some ⟨g, 0, none⟩) l.length n ∧ n0 ≤ g ∧ IB w 3 g L ∧ L.length = n ∧ n ≤ 50 ∧ L.take l.length = ints l
theorem NewRow.chg {S : Nat → Prop} {w w' : World} {n0 : Nat} {v : Value} {l : List Nat} (h : NewRow w n0 v l) (hc : Chg S w w') (hs : ∀ k, k < w.heap.size → n0 ≤ k → ¬ S k) : NewRow w' n0 v l := by
  rcases h with h | ⟨g, L, n, h1, h2, h3, h4⟩
  · exact .inl h
  · exact .inr ⟨g, L, n, h1, h2, h3.chg hc (hs g h3.lt h2), h4⟩
theorem NewRow.shape {w : World} {n0 : Nat} {v : Value} {l : List Nat} (h : NewRow w n0 v l) : ∃ A c, v = .slice A l.length c ∧ l.length ≤ 50 ∧ Kd.C (Kd.int .i64) w A l.length (ints l) := by
  rcases h with ⟨rfl, rfl⟩ | ⟨g, L, n, rfl, h2, h3, h4, h5, h6⟩
  · exact ⟨none, 0, rfl, by simp, rfl, by simp, fun h => absurd h (by simp)⟩
  · have hle : l.length ≤ L.length := by
      have := congrArg List.length h6
      simp at this; omega
    refine ⟨_, n, rfl, by omega, ?_⟩
    have := h3.read l.length hle (by omega)
    rw [h6] at this
    exact this

def wrongStep (D : Dat) (set : Nat) (s : Option (List Nat)) : Option (List Nat) :=
  let l := (List.range D.told.length).filter (keepP set)
  if (match s with | some b => decide (b.length < l.length) || (l.length == b.length && decide (0 < cmpL (ints l) (ints b))) | none => false) = true then s
  else if (truthsL D set).isEmpty = false then some l else s
def wrongTo (D : Dat) (k : Nat) : Option (List Nat) := (List.range k).foldl (fun s set => wrongStep D set s) none
theorem wrongTo_succ (D : Dat) (k : Nat) : wrongTo D (k + 1) = wrongStep D k (wrongTo D k) := by simp [wrongTo, List.range_succ]
def wrongF (D : Dat) : List Nat × Int := if (checkF D).2.2 = 0 then ((wrongTo D (2 ^ D.told.length)).getD [], 0) else ([], (checkF D).2.2)

set_option maxRecDepth 100000 in
set_option maxHeartbeats 2000000 in
theorem Wrong_calls (D : Dat) (A4 : Option Addr) (c4 : Nat) (A5 : Option Addr) (c5 : Nat) (w : World) (h : Arg w D A4 c4 A5 c5) :
    Calls Try.prog 35 #[.agg #[.string D.nm, .int .i64 D.rad, .int .i64 D.lo, .int .i64 D.hi, .slice A4 D.spots.length c4, .slice A5 D.told.length c5]] w
      fun e w' => (∃ v, e = .returned (.tuple #[v, .int .i64 (wrongF D).2]) ∧ NewRow w' w.heap.size v (wrongF D).1) ∧ Below w.heap.size w w' := by
  have hb3 := below_alloc (Below.refl w.heap.size w) (.cells #[.string D.nm, .int .i64 D.rad, .int .i64 D.lo, .int .i64 D.hi, .slice A4 D.spots.length c4, .slice A5 D.told.length c5] 27)
  have HB3 := Aside0.mk hb3
  have HA3 := Aside0.mk (h.below hb3)
  have HD3 : Aside0 ((w.alloc (.cells #[.string D.nm, .int .i64 D.rad, .int .i64 D.lo, .int .i64 D.hi, .slice A4 D.spots.length c4, .slice A5 D.told.length c5] 27)).heap[w.heap.size]? = some (.cells #[.string D.nm, .int .i64 D.rad, .int .i64 D.lo, .int .i64 D.hi, .slice A4 D.spots.length c4, .slice A5 D.told.length c5] 27 (0, 0))) := ⟨blk_new _ _⟩
  clear hb3 h
  obtain ⟨r, hr⟩ : ∃ r, wrongF D = r := ⟨_, rfl⟩
  have HF := Aside0.mk hr
  rw [hr]
  clear hr
  obtain ⟨ce, hce⟩ : ∃ ce, checkF D = ce := ⟨_, rfl⟩
  have HCE := Aside0.mk hce
  clear hce
  obtain ⟨c1, c2, c3⟩ := ce
  go_enter Try.func35, Try.ntmps35
  go_wp2_with fail
  generalize hW : w.alloc (.cells #[.string D.nm, .int .i64 D.rad, .int .i64 D.lo, .int .i64 D.hi, .slice A4 D.spots.length c4, .slice A5 D.told.length c5] 27) = W3 at HB3 HA3 HD3 ⊢
  clear hW
  refine (Check_calls D A4 c4 A5 c5 W3 HA3.out).mono ?_
  rw [HCE.out]
  rintro e w1 ⟨rfl, hb1⟩
  have HB1 := Aside0.mk (HB3.out.trans (hb1.mono HB3.out.size))
  have HA1 := Aside0.mk (HA3.out.below hb1)
  have HD1 := Aside0.mk (blk_below HD3.out hb1)
  have b5 : w1.cell? ⟨w.heap.size, 5, none⟩ = some (.slice A5 D.told.length c5) := (blk_cell HD1.out 5).trans rfl
  have lb1 := blk_lt HD1.out
  clear hb1
  by_cases h0 : c3 = 0
  · subst h0
    have hV : Valid D := (check_valid (by rw [HCE.out])).1
    have HV := Aside0.mk hV
    have hn4 := hV.t4
    clear hV
    have hsh : wrap64 (2 ^ D.told.length) = ((2 ^ D.told.length : Nat) : Int) := by
      have h := shl1 D.told.length (by omega)
      rw [Int.one_mul] at h
      rw [← i64_w]; exact h
    have hmt : min D.told.length 64 = D.told.length := by omega
    have hpw : 2 ^ D.told.length ≤ 16 := Nat.pow_le_pow_right (n := 2) (by decide) hn4
    obtain ⟨M, hM⟩ : ∃ M, 2 ^ D.told.length = M := ⟨_, rfl⟩
    have hr : r = ((wrongTo D M).getD [], 0) := by rw [← HF.out, wrongF, HCE.out, ← hM]; rfl
    have HR := Aside0.mk hr
    rw [hM] at hsh hpw
    have HSH := Aside0.mk hsh
    clear hM hr hsh
    go_wp2
    rw [HSH.out]
    clear b5 lb1
    go_loopw [2, 4, 20] (fun bv fv j wr => ∃ k : Nat, k ≤ M ∧ j = .int .i64 k ∧ ∃ best : Option (List Nat), fv = .bool best.isSome ∧ Aside0 (wrongTo D k = best) ∧ Aside0 (NewRow wr w.heap.size bv (best.getD [])) ∧ Aside0 (Chg (fun _ => False) w1 wr)) (fun _ _ j _ => M - (intOf j).toNat)
    case atStart => exact ⟨0, Nat.zero_le _, rfl, none, rfl, ⟨rfl⟩, ⟨.inl ⟨rfl, rfl⟩⟩, ⟨Chg.refl _ _⟩⟩
    case round =>
      obtain ⟨k, hk, rfl, best, rfl, HT, HN, HC⟩ := hrel
      have HDr := Aside0.mk (HC.out.heap HD1.out id)
      have b5 : wr.cell? ⟨w.heap.size, 5, none⟩ = some (.slice A5 D.told.length c5) := (blk_cell HDr.out 5).trans rfl
      have lbr := blk_lt HDr.out
      by_cases hlt : k < M
      · go_wp2_with fail
        refine (list_calls k D.told.length wr (by omega) (by omega)).mono ?_
        rintro e w2 ⟨⟨g, hg, rfl, L, hL, hLn, hLt⟩, hc⟩
        obtain ⟨l, hl⟩ : ∃ l, (List.range D.told.length).filter (keepP k) = l := ⟨_, rfl⟩
        have HL := Aside0.mk hl
        rw [hl] at hLt ⊢
        have HNL : Aside0 (NewRow w2 w.heap.size (.slice (some ⟨g, 0, none⟩) l.length D.told.length) l) := ⟨.inr ⟨g, L, _, rfl, by omega, hL, hLn, by omega, hLt⟩⟩
        have HC2 := Aside0.mk (HC.out.trans hc)
        have HN2 := Aside0.mk (HN.out.chg hc (fun _ _ _ x => x))
        have HD2 := Aside0.mk (hc.heap HDr.out id)
        clear hL hLn hLt hc hl b5 lbr
        have d0 : w2.cell? ⟨w.heap.size, 0, none⟩ = some (.string D.nm) := (blk_cell HD2.out 0).trans rfl
        have d1 : w2.cell? ⟨w.heap.size, 1, none⟩ = some (.int .i64 D.rad) := (blk_cell HD2.out 1).trans rfl
        have d2 : w2.cell? ⟨w.heap.size, 2, none⟩ = some (.int .i64 D.lo) := (blk_cell HD2.out 2).trans rfl
        have d3 : w2.cell? ⟨w.heap.size, 3, none⟩ = some (.int .i64 D.hi) := (blk_cell HD2.out 3).trans rfl
        have d4 : w2.cell? ⟨w.heap.size, 4, none⟩ = some (.slice A4 D.spots.length c4) := (blk_cell HD2.out 4).trans rfl
        have d5 : w2.cell? ⟨w.heap.size, 5, none⟩ = some (.slice A5 D.told.length c5) := (blk_cell HD2.out 5).trans rfl
        have lb2 := blk_lt HD2.out
        have hstep : ∀ s, wrongStep D k best = s → wrongTo D (k + 1) = s := fun s hs => by rw [wrongTo_succ, HT.out, hs]
        have HSTEP := Aside0.mk hstep
        clear hstep
        obtain ⟨A', c', hA', hl5, hrd⟩ := HNL.out.shape
        injection hA' with hA1 hA2 hA3
        subst hA1
        have HRD := Aside0.mk hrd
        clear hrd hA2 hA3
        obtain ⟨q, hq⟩ : ∃ q, (truthsL D k).isEmpty = q := ⟨_, rfl⟩
        have HQ := Aside0.mk hq
        clear hq
        obtain ⟨A, c, rfl, hbl, hbr⟩ := HN2.out.shape
        have HBR := Aside0.mk hbr
        clear hbr
        have HBW : Aside0 (Below w1.heap.size w1 w2) := ⟨HC2.out.below (fun _ _ x => x.elim) (Nat.le_refl _)⟩
        cases best with
        | none =>
          cases q
          · go_wp2_with (first | (go_at_call 107; refine (look_calls w1 w2 D A4 c4 A5 c5 k HBW.out).mono ?_; rintro e w3 ⟨mp, b', rfl, hc3, hs3, hm3, hb3⟩; have HC3 := Aside0.mk hc3; have HS3 := Aside0.mk hs3; clear hc3 hs3) | (go_at_call 108; refine (some_calls w1 w3 D A4 c4 A5 c5 k mp b' HA1.out HV.out (by omega) HS3.out).mono ?_; rw [HQ.out]; rintro e w4 ⟨rfl, hc4, _⟩; have HC4 := Aside0.mk (HC3.out.then_ hc4 (fun k' h e => by omega)); clear hc4))
            go_roundw
            case rel => exact ⟨k + 1, by omega, by go_num, some l, rfl, ⟨HSTEP.out _ (by unfold wrongStep; rw [HL.out]; simp only []; rw [if_neg (by simp), HQ.out]; rfl)⟩, ⟨HNL.out.chg HC4.out (fun _ _ _ x => x)⟩, ⟨HC2.out.trans HC4.out⟩⟩
            case measure => simp [intOf]; omega
          · go_wp2_with (first | (go_at_call 107; refine (look_calls w1 w2 D A4 c4 A5 c5 k HBW.out).mono ?_; rintro e w3 ⟨mp, b', rfl, hc3, hs3, hm3, hb3⟩; have HC3 := Aside0.mk hc3; have HS3 := Aside0.mk hs3; clear hc3 hs3) | (go_at_call 108; refine (some_calls w1 w3 D A4 c4 A5 c5 k mp b' HA1.out HV.out (by omega) HS3.out).mono ?_; rw [HQ.out]; rintro e w4 ⟨rfl, hc4, _⟩; have HC4 := Aside0.mk (HC3.out.then_ hc4 (fun k' h e => by omega)); clear hc4))
            go_roundw
            case rel => exact ⟨k + 1, by omega, by go_num, none, rfl, ⟨HSTEP.out _ (by unfold wrongStep; rw [HL.out]; simp only []; rw [if_neg (by simp), HQ.out]; rfl)⟩, ⟨HN2.out.chg HC4.out (fun _ _ _ x => x)⟩, ⟨HC2.out.trans HC4.out⟩⟩
            case measure => simp [intOf]; omega
        | some b =>
          simp only [Option.getD_some] at HBR hbl HN2 ⊢
          by_cases h1 : b.length < l.length
          · go_wp2
            go_roundw
            case rel => exact ⟨k + 1, by omega, by go_num, some b, rfl, ⟨HSTEP.out _ (by unfold wrongStep; rw [HL.out]; simp only []; rw [if_pos (by simp [h1])])⟩, HN2, HC2⟩
            case measure => simp [intOf]; omega
          · obtain ⟨z, hz⟩ : ∃ z, cmpL (ints l) (ints b) = z := ⟨_, rfl⟩
            have HZ := Aside0.mk hz
            clear hz
            by_cases h2 : l.length = b.length
            · have h2' : ((l.length : Int) == (b.length : Int)) = true := beq_iff_eq.2 (by omega)
              have hcm := compareN_calls l b (some ⟨g, 0, none⟩) A D.told.length c w2 HRD.out HBR.out
              rw [h2, HZ.out] at hcm
              have HCM := Aside0.mk hcm
              have H2 := Aside0.mk h2
              clear hcm
              by_cases h3 : 0 < z
              · go_wp2_with (first | (go_at_call 106; refine HCM.out.mono ?_; rintro e w3 ⟨rfl, rfl⟩))
                go_roundw
                case rel => exact ⟨k + 1, by omega, by go_num, some b, rfl, ⟨HSTEP.out _ (by unfold wrongStep; rw [HL.out]; simp only []; rw [if_pos (by rw [HZ.out]; simp [h3, H2.out])])⟩, HN2, HC2⟩
                case measure => simp [intOf]; omega
              · cases q
                · go_wp2_with (first | (go_at_call 106; refine HCM.out.mono ?_; rintro e w3 ⟨rfl, rfl⟩) | (go_at_call 107; refine (look_calls w1 w2 D A4 c4 A5 c5 k HBW.out).mono ?_; rintro e w3 ⟨mp, b', rfl, hc3, hs3, hm3, hb3⟩; have HC3 := Aside0.mk hc3; have HS3 := Aside0.mk hs3; clear hc3 hs3) | (go_at_call 108; refine (some_calls w1 w3 D A4 c4 A5 c5 k mp b' HA1.out HV.out (by omega) HS3.out).mono ?_; rw [HQ.out]; rintro e w4 ⟨rfl, hc4, _⟩; have HC4 := Aside0.mk (HC3.out.then_ hc4 (fun k' h e => by omega)); clear hc4))
                  go_roundw
                  case rel => exact ⟨k + 1, by omega, by go_num, some l, rfl, ⟨HSTEP.out _ (by unfold wrongStep; rw [HL.out]; simp only []; rw [if_neg (by rw [HZ.out]; simp [H2.out]; omega), HQ.out]; rfl)⟩, ⟨by have := HNL.out.chg HC4.out (fun _ _ _ x => x); rw [H2.out] at this; exact this⟩, ⟨HC2.out.trans HC4.out⟩⟩
                  case measure => simp [intOf]; omega
                · go_wp2_with (first | (go_at_call 106; refine HCM.out.mono ?_; rintro e w3 ⟨rfl, rfl⟩) | (go_at_call 107; refine (look_calls w1 w2 D A4 c4 A5 c5 k HBW.out).mono ?_; rintro e w3 ⟨mp, b', rfl, hc3, hs3, hm3, hb3⟩; have HC3 := Aside0.mk hc3; have HS3 := Aside0.mk hs3; clear hc3 hs3) | (go_at_call 108; refine (some_calls w1 w3 D A4 c4 A5 c5 k mp b' HA1.out HV.out (by omega) HS3.out).mono ?_; rw [HQ.out]; rintro e w4 ⟨rfl, hc4, _⟩; have HC4 := Aside0.mk (HC3.out.then_ hc4 (fun k' h e => by omega)); clear hc4))
                  go_roundw
                  case rel => exact ⟨k + 1, by omega, by go_num, some b, rfl, ⟨HSTEP.out _ (by unfold wrongStep; rw [HL.out]; simp only []; rw [if_neg (by rw [HZ.out]; simp [H2.out]; omega), HQ.out]; rfl)⟩, ⟨HN2.out.chg HC4.out (fun _ _ _ x => x)⟩, ⟨HC2.out.trans HC4.out⟩⟩
                  case measure => simp [intOf]; omega
            · have h2' : ((l.length : Int) == (b.length : Int)) = false := beq_eq_false_iff_ne.2 (by omega)
              cases q
              · go_wp2_with (first | (go_at_call 107; refine (look_calls w1 w2 D A4 c4 A5 c5 k HBW.out).mono ?_; rintro e w3 ⟨mp, b', rfl, hc3, hs3, hm3, hb3⟩; have HC3 := Aside0.mk hc3; have HS3 := Aside0.mk hs3; clear hc3 hs3) | (go_at_call 108; refine (some_calls w1 w3 D A4 c4 A5 c5 k mp b' HA1.out HV.out (by omega) HS3.out).mono ?_; rw [HQ.out]; rintro e w4 ⟨rfl, hc4, _⟩; have HC4 := Aside0.mk (HC3.out.then_ hc4 (fun k' h e => by omega)); clear hc4))
                go_roundw
                case rel => exact ⟨k + 1, by omega, by go_num, some l, rfl, ⟨HSTEP.out _ (by unfold wrongStep; rw [HL.out]; simp only []; rw [if_neg (by simp [h1, h2]), HQ.out]; rfl)⟩, ⟨HNL.out.chg HC4.out (fun _ _ _ x => x)⟩, ⟨HC2.out.trans HC4.out⟩⟩
                case measure => simp [intOf]; omega
              · go_wp2_with (first | (go_at_call 107; refine (look_calls w1 w2 D A4 c4 A5 c5 k HBW.out).mono ?_; rintro e w3 ⟨mp, b', rfl, hc3, hs3, hm3, hb3⟩; have HC3 := Aside0.mk hc3; have HS3 := Aside0.mk hs3; clear hc3 hs3) | (go_at_call 108; refine (some_calls w1 w3 D A4 c4 A5 c5 k mp b' HA1.out HV.out (by omega) HS3.out).mono ?_; rw [HQ.out]; rintro e w4 ⟨rfl, hc4, _⟩; have HC4 := Aside0.mk (HC3.out.then_ hc4 (fun k' h e => by omega)); clear hc4))
                go_roundw
                case rel => exact ⟨k + 1, by omega, by go_num, some b, rfl, ⟨HSTEP.out _ (by unfold wrongStep; rw [HL.out]; simp only []; rw [if_neg (by simp [h1, h2]), HQ.out]; rfl)⟩, ⟨HN2.out.chg HC4.out (fun _ _ _ x => x)⟩, ⟨HC2.out.trans HC4.out⟩⟩
                case measure => simp [intOf]; omega
      · obtain rfl : k = M := by omega
        go_wp2
        go_ret2
        exact ⟨⟨_, by rw [HR.out]; rfl, by rw [HR.out, HT.out]; exact HN.out⟩, HB1.out.trans (HC.out.below (fun _ _ x => x.elim) HB1.out.size)⟩
  · have hr : r = ([], c3) := by rw [← HF.out, wrongF, HCE.out]; exact if_neg h0
    subst hr
    go_wp2
    go_ret2
    exact ⟨⟨_, rfl, .inl ⟨rfl, rfl⟩⟩, HB1.out⟩
end Go.Proofs.Ytemeapfnfegkiaa.D
end
/- Package disk: the sheets of Awake, what is answered of them. -/
section
namespace Go.Proofs.Ytemeapfnfegkiaa.D
open Go Go.RowKit Go.Proofs.YtemeapfnfegkiaaK Go.Proofs.YtemeapfnfegkiaaW.PrintWords Go.Proofs.YtemeapfnfegkiaaW.PrintLast Go.Proofs.YtemeapfnfegkiaaW.PrintMore Go.Proofs.Ytemeapfnfegkiaa.PR
set_option linter.unusedVariables false
set_option linter.unusedSimpArgs false

def exD (told : List Told) : Dat := ⟨⟨#[119, 111, 108, 102]⟩, 5, 1, 3, [⟨0, 0, true⟩, ⟨2, 1, true⟩, ⟨4, 2, false⟩, ⟨-3, 0, true⟩, ⟨5, 5, true⟩], told⟩
theorem ex_is0 : isF (exD []) 0 = (1, 0) := by kernel_rfl
def exT : List Told := [⟨0, 1, true⟩]
def exW : List Told := [⟨0, 1, true⟩, ⟨0, 1, false⟩]
theorem ex_is2 : isF (exD []) 2 = (0, 0) := by kernel_rfl
theorem ex_is4 : isF (exD []) 4 = (2, 0) := by kernel_rfl
theorem ex_one01 : oneF (exD []) 0 1 = (0, 0) := by kernel_rfl
theorem ex_one11 : oneF (exD []) 1 1 = (0, 2) := by kernel_rfl
theorem ex_many : spanF (exD []) (fun _ g => manyF g) = (1, 4) := by kernel_rfl
theorem ex_spots : spanF (exD []) (fun _ g => spotsTo g 7) = (3, 4) := by kernel_rfl
theorem ex_enter : enterE (exD []) [] = 0 := by kernel_rfl
theorem ex_enterT : enterE (exD exT) [] = 0 := by kernel_rfl
theorem ex_enterW : enterE (exD exW) [] = 8 := by kernel_rfl
theorem ex_number : spanF (exD exT) (fun _ g => 10 * manyF g + spotsTo g 7) = (13, 24) := by kernel_rfl
theorem ex_near : spanF (exD exT) (fun n _ => n) = (2, 3) := by kernel_rfl
theorem ex_nearW : spanF (exD exW) (fun n _ => n) = (0, 0) := by kernel_rfl
theorem ex_ask : askF (exD []) = (0, 1, 4, 0) := by kernel_rfl
theorem ex_wrong : wrongF (exD exW) = ([0], 0) := by kernel_rfl
theorem ex_name : nameB ⟨#[97, 46, 57]⟩ = true := by kernel_rfl
theorem ex_name' : nameB ⟨#[57, 97]⟩ = false := by kernel_rfl

theorem span_calls (a b : Int) (w : World) : Calls Try.prog 40 #[.int .i64 a, .int .i64 b] w fun e w' => e = .returned (.agg #[.int .i64 a, .int .i64 b]) ∧ Chg (fun _ => False) w w' := by
  go_enter Try.func40, Try.ntmps40
  go_wp2
  exact bodyPost_ret (results_cell_row rfl _ _ w.heap.size 23 _ (0, 0) _ rfl (blk_new _ _) Try.underlying23 rfl info23s) rfl ⟨rfl, (Chg.refl _ w).alloc _⟩
theorem info52s : (Try.prog.info? 52).map (·.size) = some 3 := by kernel_rfl
theorem info27s : (Try.prog.info? 27).map (·.size) = some 6 := by kernel_rfl
theorem oneL_calls (a b : Int) (w : World) : Calls Try.prog 39 #[.int .i64 a, .int .i64 b] w fun e w' => e = .returned (.agg #[.int .i64 a, .int .i64 b, .bool true]) ∧ Chg (fun _ => False) w w' := by
  go_enter Try.func39, Try.ntmps39
  go_wp2
  exact bodyPost_ret (results_cell_row rfl _ _ w.heap.size 52 _ (0, 0) _ rfl (blk_new _ _) Try.underlying52 rfl info52s) rfl ⟨rfl, (Chg.refl _ w).alloc _⟩
theorem notL_calls (a b : Int) (w : World) : Calls Try.prog 89 #[.int .i64 a, .int .i64 b] w fun e w' => e = .returned (.agg #[.int .i64 a, .int .i64 b, .bool false]) ∧ Chg (fun _ => False) w w' := by
  go_enter Try.func89, Try.ntmps89
  go_wp2
  exact bodyPost_ret (results_cell_row rfl _ _ w.heap.size 52 _ (0, 0) _ rfl (blk_new _ _) Try.underlying52 rfl info52s) rfl ⟨rfl, (Chg.refl _ w).alloc _⟩

abbrev exCells : Array Value := #[.int .i64 0, .int .i64 0, .bool true, .int .i64 2, .int .i64 1, .bool true, .int .i64 4, .int .i64 2, .bool false, .int .i64 (-3), .int .i64 0, .bool true, .int .i64 5, .int .i64 5, .bool true]
set_option maxHeartbeats 400000 in
theorem Sheet_calls (v : Value) (A : Option Addr) (n c : Nat) (hv : v = .slice A n c) (w : World) : Calls Try.prog 38 #[v] w
    fun e w' => (∃ g, w.heap.size ≤ g ∧ e = .returned (.agg #[.string ⟨#[119, 111, 108, 102]⟩, .int .i64 5, .int .i64 1, .int .i64 3, .slice (some ⟨g, 0, none⟩) 5 5, v]) ∧ w'.heap[g]? = some (.cells exCells 80 (0, 0))) ∧ Chg (fun _ => False) w w' := by
  subst hv
  go_enter Try.func38, Try.ntmps38
  go_wp2_with (go_at_call 40; refine (span_calls 1 3 _).mono ?_; rintro e w1 ⟨rfl, hc1⟩; have HC1 := Aside0.mk hc1; have hd := hc1.heap (blk_new w (.cells #[.string ⟨#[]⟩, .int .i64 0, .int .i64 0, .int .i64 0, .slice none 0 0, .slice none 0 0] 27)) id; have k0 : w1.cell? ⟨w.heap.size, 0, none⟩ = some (.string ⟨#[]⟩) := (blk_cell hd 0).trans rfl; have f0 := blk_frozen hd 0; have k1 : w1.cell? ⟨w.heap.size, 1, none⟩ = some (.int .i64 0) := (blk_cell hd 1).trans rfl; have f1 := blk_frozen hd 1; have k2 : w1.cell? ⟨w.heap.size, 2, none⟩ = some (.int .i64 0) := (blk_cell hd 2).trans rfl; have f2 := blk_frozen hd 2; have k3 : w1.cell? ⟨w.heap.size, 3, none⟩ = some (.int .i64 0) := (blk_cell hd 3).trans rfl; have f3 := blk_frozen hd 3; have k4 : w1.cell? ⟨w.heap.size, 4, none⟩ = some (.slice none 0 0) := (blk_cell hd 4).trans rfl; have f4 := blk_frozen hd 4; have k5 : w1.cell? ⟨w.heap.size, 5, none⟩ = some (.slice none 0 0) := (blk_cell hd 5).trans rfl; have f5 := blk_frozen hd 5; have lb := blk_lt hd; have HD := Aside0.mk hd; clear hc1 hd)
  refine bodyPost_ret (v := .agg #[.string ⟨#[119, 111, 108, 102]⟩, .int .i64 5, .int .i64 1, .int .i64 3, .slice (some ⟨w1.heap.size, 0, none⟩) 5 5, .slice A n c]) (results_cell_row rfl _ _ w.heap.size 27 _ (0, 0) _ rfl (blk_alloc (blk_set (blk_set (blk_set (blk_set (blk_set (blk_set HD.out 0 _) 1 _) 2 _) 3 _) 4 _) 5 _) _) Try.underlying27 rfl info27s) rfl
    ⟨⟨w1.heap.size, by have := HC1.out.size; simp at this; omega, rfl, new_at (by simp) _⟩, ?_⟩
  have hc := (Chg.refl (fun k => k = w.heap.size) w).alloc (.cells #[.string ⟨#[]⟩, .int .i64 0, .int .i64 0, .int .i64 0, .slice none 0 0, .slice none 0 0] 27)
  refine Chg.mono (S := fun k => k = w.heap.size) ?_ (fun k hk e => by omega)
  exact ((((((((hc.trans (HC1.out.mono (fun _ _ x => x.elim))).setCell (p := ⟨w.heap.size, 0, none⟩) (fun _ => rfl) _).setCell (p := ⟨w.heap.size, 1, none⟩) (fun _ => rfl) _).setCell (p := ⟨w.heap.size, 2, none⟩) (fun _ => rfl) _).setCell (p := ⟨w.heap.size, 3, none⟩) (fun _ => rfl) _).setCell (p := ⟨w.heap.size, 4, none⟩) (fun _ => rfl) _).setCell (p := ⟨w.heap.size, 5, none⟩) (fun _ => rfl) _).alloc _)

theorem cell3 {w : World} {b : Nat} {cs : Array Value} {t : TypeId} (h : w.heap[b]? = some (.cells cs t (0, 0))) (i : Nat) {v : Value} (hv : cs[i]? = some v) : w.cell? ((⟨b, 0, none⟩ : Addr).add i) = some v := by
  have hadd : (⟨b, 0, none⟩ : Addr).add i = ⟨b, i, none⟩ := by unfold Addr.add; split <;> simp_all
  rw [hadd, cell_of_row w b i cs t (0, 0) h]; exact hv
theorem exSpots_C {w : World} {g : Nat} (h : w.heap[g]? = some (.cells exCells 80 (0, 0))) (told : List Told) : Kd.C k80 w (some ⟨g, 0, none⟩) (exD told).spots.length (exD told).spots := by
  refine ⟨rfl, by show (5 : Nat) ≤ _; decide, fun _ => ⟨_, rfl, fun j p hj => ?_⟩⟩
  have hj5 : j < 5 := (List.getElem?_eq_some_iff.1 hj).1
  have : j = 0 ∨ j = 1 ∨ j = 2 ∨ j = 3 ∨ j = 4 := by omega
  rcases this with rfl | rfl | rfl | rfl | rfl <;> cases hj <;> refine ⟨_, rfl, k80_mk w _, fun i u hu => ?_⟩ <;>
    (have hi := (List.getElem?_eq_some_iff.1 hu).1; simp at hi; have hh : i = 0 ∨ i = 1 ∨ i = 2 := by omega
     rcases hh with rfl | rfl | rfl <;> cases hu <;> exact cell3 h _ rfl)
theorem exT_C {w : World} {g : Nat} (h : w.heap[g]? = some (.cells #[.int .i64 0, .int .i64 1, .bool true] 52 (0, 0))) : Kd.C k52 w (some ⟨g, 0, none⟩) exT.length exT := by
  refine ⟨rfl, by decide, fun _ => ⟨_, rfl, fun j p hj => ?_⟩⟩
  have hj5 : j < 1 := (List.getElem?_eq_some_iff.1 hj).1
  obtain rfl : j = 0 := by omega
  cases hj; refine ⟨_, rfl, k52_mk w _, fun i u hu => ?_⟩
  have hi := (List.getElem?_eq_some_iff.1 hu).1; simp at hi; have hh : i = 0 ∨ i = 1 ∨ i = 2 := by omega
  rcases hh with rfl | rfl | rfl <;> cases hu <;> exact cell3 h _ rfl
theorem exW_C {w : World} {g : Nat} (h : w.heap[g]? = some (.cells #[.int .i64 0, .int .i64 1, .bool true, .int .i64 0, .int .i64 1, .bool false] 52 (0, 0))) : Kd.C k52 w (some ⟨g, 0, none⟩) exW.length exW := by
  refine ⟨rfl, by decide, fun _ => ⟨_, rfl, fun j p hj => ?_⟩⟩
  have hj5 : j < 2 := (List.getElem?_eq_some_iff.1 hj).1
  have : j = 0 ∨ j = 1 := by omega
  rcases this with rfl | rfl <;> cases hj <;> refine ⟨_, rfl, k52_mk w _, fun i u hu => ?_⟩ <;>
    (have hi := (List.getElem?_eq_some_iff.1 hu).1; simp at hi; have hh : i = 0 ∨ i = 1 ∨ i = 2 := by omega
     rcases hh with rfl | rfl | rfl <;> cases hu <;> exact cell3 h _ rfl)

theorem exArg {w : World} {g : Nat} {A : Option Addr} {c : Nat} (told : List Told) (h : w.heap[g]? = some (.cells exCells 80 (0, 0))) (ht : Kd.C k52 w A told.length told) (hc : told.length ≤ c) : Arg w (exD told) (some ⟨g, 0, none⟩) 5 A c :=
  ⟨by show (4 : Nat) ≤ _; decide, exSpots_C h told, Nat.le_refl 5, ht, hc⟩
end Go.Proofs.Ytemeapfnfegkiaa.D
end
/- Package disk: Ints of the reference, Awake. -/
section
namespace Go.Proofs.Ytemeapfnfegkiaa.D
open Go Go.RowKit Go.Proofs.YtemeapfnfegkiaaK Go.Proofs.YtemeapfnfegkiaaW.PrintWords Go.Proofs.YtemeapfnfegkiaaW.PrintLast Go.Proofs.YtemeapfnfegkiaaW.PrintMore Go.Proofs.Ytemeapfnfegkiaa.PR
set_option linter.unusedVariables false
set_option linter.unusedSimpArgs false

set_option maxHeartbeats 400000 in
theorem Ints_calls (la lb : List Int) (A B : Option Addr) (n m c d : Nat) (w : World) (hn : n = la.length) (hm : m = lb.length) (ha : Kd.C (Kd.int .i64) w A n la) (hb : Kd.C (Kd.int .i64) w B m lb) :
    Calls Try.prog 37 #[.slice A n c, .slice B m d] w fun e w' => e = .returned (.bool (la == lb)) ∧ Chg (fun _ => False) w w' := by
  subst hn hm
  have hlen := ha.2.1
  have hlen' := hb.2.1
  have HA := Aside0.mk ha
  have HB := Aside0.mk hb
  clear ha hb
  by_cases he : la.length = lb.length
  · have hb' : ((la.length : Int) == (lb.length : Int)) = true := beq_iff_eq.2 (by omega)
    go_enter Try.func37, Try.ntmps37
    go_wp2
    go_loopw [5, 6] (fun b j wr => ∃ (k : Nat) (q : Bool), k ≤ la.length ∧ j = .int .i64 k ∧ b = .bool q ∧ Aside0 ((la == lb) = (q && (la.drop k == lb.drop k))) ∧ Aside0 (Chg (fun _ => False) w wr)) (fun b j _ => la.length - (intOf j).toNat)
    case atStart => exact ⟨0, true, Nat.zero_le _, rfl, rfl, ⟨by simp⟩, ⟨Chg.refl _ _⟩⟩
    case round =>
      obtain ⟨k, q, hk, rfl, rfl, HO, HC⟩ := hrel
      cases q
      · go_wp2
        go_ret
        exact ⟨by rw [HO.out]; rfl, HC.out⟩
      · by_cases hlt : k < la.length
        · have hlt' : k < lb.length := by omega
          obtain ⟨ad, e, hc⟩ := at_nat (Kd.C_below HA.out (HC.out.below (fun _ _ x => x.elim) (Nat.le_refl _))) k hlt
          obtain ⟨bd, e', hd⟩ := at_nat (Kd.C_below HB.out (HC.out.below (fun _ _ x => x.elim) (Nat.le_refl _))) k hlt'
          subst e e'
          rw [show rd la k = la[k] by simp [rd, hlt]] at hc
          rw [show rd lb k = lb[k]'hlt' by simp [rd, hlt']] at hd
          have HD : Aside0 ((la == lb) = ((la[k] == lb[k]'hlt') && (la.drop (k + 1) == lb.drop (k + 1)))) := ⟨by
            rw [HO.out, List.drop_eq_getElem_cons hlt, List.drop_eq_getElem_cons hlt', Bool.true_and]; rfl⟩
          generalize la[k] = x at hc HD
          generalize lb[k]'hlt' = y at hd HD
          obtain ⟨q, hq⟩ : ∃ q, (x == y) = q := ⟨_, rfl⟩
          rw [hq] at HD
          go_wp2
          go_quiet (fail)
          go_wp2
          go_roundw
          case rel => exact ⟨k + 1, q, by omega, by go_num, rfl, HD, ⟨HC.out.drewN _⟩⟩
          case measure => simp [intOf]; omega
        · obtain rfl : k = la.length := by omega
          go_wp2
          go_ret
          exact ⟨by rw [HO.out, List.drop_of_length_le (Nat.le_refl _), List.drop_of_length_le (by omega)]; rfl, HC.out⟩
  · have hb' : ((la.length : Int) == (lb.length : Int)) = false := beq_eq_false_iff_ne.2 (by omega)
    have hne : (la == lb) = false := beq_eq_false_iff_ne.2 (fun e => he (by rw [e]))
    have HNE := Aside0.mk hne
    clear hne
    go_enter Try.func37, Try.ntmps37
    go_wp2
    go_loop [5, 6] (fun b j => b = .bool false ∧ j = .int .i64 0) (fun b j => 0)
    case atStart => exact ⟨rfl, rfl⟩
    case round =>
      obtain ⟨rfl, rfl⟩ := hrel
      go_wp2
      go_ret
      exact ⟨by rw [HNE.out]; rfl, Chg.refl _ _⟩
theorem awInts {w : World} {Aw : Option Addr} {cw : Nat} (h : Kd.C (Kd.int .i64) w Aw 1 [0]) :
    Calls Try.prog 37 #[.slice Aw 1 cw, .slice (some ⟨w.heap.size, 0, none⟩) 1 1] (w.alloc (.cells #[.int .i64 0] 3)) fun e w' => e = .returned (.bool true) ∧ Chg (fun _ => False) (w.alloc (.cells #[.int .i64 0] 3)) w' :=
  Ints_calls [0] [0] _ _ 1 1 _ _ _ rfl rfl (Kd.C_alloc h _) (C_lit (l := [0]) (blk_new w (.cells #[.int .i64 0] 3)) (by decide))
theorem NewRow.one {w : World} {n0 : Nat} {v : Value} (h : NewRow w n0 v [0]) : ∃ A c, v = .slice A 1 c ∧ Kd.C (Kd.int .i64) w A 1 [0] := by
  obtain ⟨A, c, h1, _, h3⟩ := h.shape
  exact ⟨A, c, h1, h3⟩
end Go.Proofs.Ytemeapfnfegkiaa.D
end
