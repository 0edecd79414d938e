/- Contracts of the functions that this claim reaches, with the words for them: pruned and packed by wip/tools/prune.py. -/
import Derived.Test.YtgoidclnccjdeaaVa
import Derived.Deep.QuietTactic
section
/- Package glass: list, Compare. -/
namespace Go.Proofs.Ytgoidclnccjdeaa.D
open Go Go.RowKit Go.Proofs.YtgoidclnccjdeaaK Go.Proofs.YtgoidclnccjdeaaW.PrintWords Go.Proofs.YtgoidclnccjdeaaW.PrintLast Go.Proofs.YtgoidclnccjdeaaW.PrintMore Go.Proofs.Ytgoidclnccjdeaa.PR
set_option linter.unusedVariables false
set_option linter.unusedSimpArgs false

theorem i3 : ∃ i, Try.prog.info? 3 = some i ∧ i.zero = some (.int .i64 0) ∧ i.size = 1 ∧ i.bytes = 8 := by
  have h := info3
  cases hi : Try.prog.info? 3 with
  | none => rw [hi] at h; cases h
  | some i => rw [hi] at h; simp at h; exact ⟨i, rfl, h.1, h.2.1, h.2.2⟩

abbrev ints (l : List Nat) : List Int := l.map Int.ofNat
def outP (set : Nat) (k : Nat) : Bool := !set.testBit k

theorem idxFrom_none {α : Type} {p : α → Bool} : ∀ {l : List α} {k : Nat}, idxFrom p l k = -1 → ∀ x ∈ l, p x = false
  | [], _, _ => by simp
  | x :: xs, k, h => by
    unfold idxFrom at h
    by_cases hp : p x = true
    · rw [if_pos hp] at h; omega
    · rw [if_neg hp] at h
      intro y hy
      rcases List.mem_cons.1 hy with rfl | hy
      · simpa using hp
      · exact idxFrom_none h y hy
theorem idxFrom_some {α : Type} {p : α → Bool} : ∀ {l : List α} {k : Nat}, idxFrom p l k ≠ -1 → ∃ i, i < l.length ∧ idxFrom p l k = ((k + i : Nat) : Int) ∧ (l.take i).all (fun x => !p x) = true ∧ (l.take (i + 1)).filter (fun x => !p x) = l.take i
  | [], _, h => absurd rfl h
  | x :: xs, k, h => by
    unfold idxFrom at h ⊢
    by_cases hp : p x = true
    · rw [if_pos hp] at h ⊢
      exact ⟨0, by simp, by simp, by simp, by simp [hp]⟩
    · rw [if_neg hp] at h ⊢
      obtain ⟨i, h1, h2, h3, h4⟩ := idxFrom_some h
      refine ⟨i + 1, by simp; omega, by rw [h2]; omega, ?_, ?_⟩
      · simp only [List.take_succ_cons, List.all_cons, h3, Bool.and_true]; simpa using hp
      · rw [List.take_succ_cons, List.take_succ_cons, List.filter_cons, if_pos (by simpa using hp), h4]

set_option maxHeartbeats 400000 in
theorem listC_calls (set k Bs : Nat) (w : World) (hset : set < 2 ^ 62) (hk : k < 62) (hb : w.heap[Bs]? = some (.cells #[.int .i64 set] 3 (0, 0))) :
    Calls Try.prog 132 #[.int .i64 k, .pointer (some ⟨Bs, 0, none⟩)] w fun e w' => e = .returned (.bool (outP set k)) ∧ w = w' := by
  have c0 : w.cell? ⟨Bs, 0, none⟩ = some (.int .i64 set) := (blk_cell hb 0).trans rfl
  have lb := blk_lt hb
  clear hb
  have hbit := bit1 set k hset
  have hmin : min k 64 = k := by omega
  obtain ⟨q, hq⟩ : ∃ q, set.testBit k = q := ⟨_, rfl⟩
  have HQ := Aside0.mk hq
  rw [hq] at hbit
  clear hq
  cases q
  · rw [if_neg (by simp)] at hbit
    go_enter Try.func132, Try.ntmps132
    go_wp2
    go_ret
    exact ⟨by rw [outP, HQ.out]; rfl, rfl⟩
  · rw [if_pos rfl] at hbit
    go_enter Try.func132, Try.ntmps132
    go_wp2
    go_ret
    exact ⟨by rw [outP, HQ.out]; rfl, rfl⟩
theorem enters132 (args : Array Value) (w : World) : (callFunc 132 args).run Try.prog w = .ok (.enter 132 args) w := enters_of Try.func132 (by kernel_rfl) rfl args w

theorem ints_get (l : List Nat) (k : Nat) (h : k < l.length) : rd (ints l) (k : Int) = (l[k] : Int) := by simp [rd, ints, h]

set_option maxHeartbeats 400000 in
theorem indexI_calls (l : List Nat) (set Bs : Nat) (A : Option Addr) (c : Nat) (w : World) (hset : set < 2 ^ 62) (hl : ∀ x ∈ l, x < 62) (hr : Kd.C (Kd.int .i64) w A l.length (ints l)) (hb : w.heap[Bs]? = some (.cells #[.int .i64 set] 3 (0, 0))) :
    Calls Try.prog 141 #[.slice A l.length c, .func (.func 132) #[] #[.pointer (some ⟨Bs, 0, none⟩)]] w fun e w' => e = .returned (.int .i64 (idxFrom (outP set) l 0)) ∧ w = w' := by
  have hlen := hr.2.1
  have HR := Aside0.mk hr
  have HB := Aside0.mk hb
  have he := enters132
  clear hr hb
  go_enter Try.func141, Try.ntmps141
  go_wp2
  go_loop [8] (fun j => ∃ k : Nat, k ≤ l.length ∧ j = .int .i64 k ∧ Aside0 (idxFrom (outP set) l 0 = idxFrom (outP set) (l.drop k) k)) (fun j => l.length - (intOf j).toNat)
  case atStart => exact ⟨0, Nat.zero_le _, rfl, ⟨rfl⟩⟩
  case round =>
    obtain ⟨k, hk, rfl, HO⟩ := hrel
    by_cases hlt : k < l.length
    · obtain ⟨ad, e, hc⟩ := at_nat HR.out k hlt
      rw [ints_get l k hlt] at hc
      subst e
      have HD : Aside0 (l.drop k = l[k] :: l.drop (k + 1)) := ⟨List.drop_eq_getElem_cons hlt⟩
      have hx := hl l[k] (List.getElem_mem hlt)
      generalize l[k] = x at hc HD hx
      obtain ⟨q, hq⟩ : ∃ q, outP set x = q := ⟨_, rfl⟩
      have HQ := Aside0.mk hq
      clear hq
      cases q
      · go_wp2_with (refine (listC_calls set x Bs _ hset hx HB.out).mono ?_; rw [HQ.out]; rintro e w1 ⟨rfl, rfl⟩)
        go_round
        case rel => exact ⟨k + 1, by omega, by go_num, ⟨by rw [HO.out, HD.out, idxFrom, HQ.out]; simp⟩⟩
        case measure => simp [intOf]; omega
      · go_wp2_with (refine (listC_calls set x Bs _ hset hx HB.out).mono ?_; rw [HQ.out]; rintro e w1 ⟨rfl, rfl⟩)
        go_ret
        exact ⟨by rw [HO.out, HD.out, idxFrom, HQ.out]; rfl, rfl⟩
    · obtain rfl : k = l.length := by omega
      go_wp2
      go_ret
      exact ⟨by rw [HO.out]; simp [idxFrom], rfl⟩

theorem zeroI (w : World) : (zeroValue 3).run Try.prog w = .ok (.int .i64 0) w := by
  obtain ⟨i, hi, hz, _, _⟩ := i3
  simp [zeroValue, typeInfo, hi, hz]
abbrev keepP (set : Nat) (k : Nat) : Bool := !outP set k

theorem clearI (w : World) (g i n : Nat) (L : List Int) (hL : IB w 3 g L) (hn : L.length = n) (hi : i < n) (ty : TypeId) :
    (Builtin.clear_ #[39] ty #[.slice (some ⟨g, i, none⟩) (n - i) (n - i)]).run Try.prog w = .ok (.tuple #[]) (w.setCells g i ((List.replicate (n - i) (0 : Int)).map (Value.int .i64))) := by
  have h := Lib.run_clear_slice (P := Try.prog) w 39 3 ty (.int .i64 0) Try.underlying39 zeroI rfl rfl g i (n - i) (n - i) (by omega) (fun j hj => by rw [hL.cell (i + j) (by omega)]; rfl) (fun j hj => hL.frozen (i + j))
  rw [h]
  simp

set_option maxRecDepth 100000 in
set_option maxHeartbeats 1000000 in
theorem deleteI_calls (l : List Nat) (set Bs g : Nat) (w : World) (hset : set < 2 ^ 62) (hl : ∀ x ∈ l, x < 62) (hL : IB w 3 g (ints l)) (hlen : l.length ≤ 1000000) (hb : w.heap[Bs]? = some (.cells #[.int .i64 set] 3 (0, 0))) (hne : Bs ≠ g) :
    Calls Try.prog 131 #[.slice (some ⟨g, 0, none⟩) l.length l.length, .func (.func 132) #[] #[.pointer (some ⟨Bs, 0, none⟩)]] w
      fun e w' => e = .returned (.slice (some ⟨g, 0, none⟩) (l.filter (keepP set)).length l.length) ∧ (∃ L, IB w' 3 g L ∧ L.length = l.length ∧ L.take (l.filter (keepP set)).length = ints (l.filter (keepP set))) ∧ Chg (fun k => k = g) w w' := by
  have HI := Aside0.mk hL
  have HB := Aside0.mk hb
  have HL := Aside0.mk hl
  have hR := hL.read (ints l).length (Nat.le_refl _) (by simp; omega)
  rw [List.take_length, show (ints l).length = l.length by simp] at hR
  have HR := Aside0.mk hR
  have he := enters132
  clear hL hb hl hR
  go_enter Try.func131, Try.ntmps131
  obtain ⟨ix, hix⟩ : ∃ ix, idxFrom (outP set) l 0 = ix := ⟨_, rfl⟩
  have HX := Aside0.mk hix
  clear hix
  by_cases h1 : ix = -1
  · subst h1
    go_wp2_with (go_at_call 141; refine (indexI_calls l set Bs _ _ _ hset HL.out HR.out HB.out).mono ?_; rw [HX.out]; rintro e w1 ⟨rfl, rfl⟩)
    go_ret
    have hf : l.filter (keepP set) = l := List.filter_eq_self.2 (fun x hx => by simp [keepP, idxFrom_none HX.out x hx])
    exact ⟨by rw [hf]; rfl, ⟨_, HI.out, by simp, by rw [hf, List.take_of_length_le (by simp)]⟩, Chg.refl _ _⟩
  · obtain ⟨i0, hi0, hxe, _, hft⟩ := idxFrom_some (l := l) (p := outP set) (k := 0) (by rw [HX.out]; exact h1)
    have hix : ix = i0 := by rw [← HX.out, hxe]; simp
    subst hix
    have HFT := Aside0.mk hft
    clear hft hxe h1
    have hm1 : ((i0 : Int) == -1) = false := beq_eq_false_iff_ne.2 (by omega)
    go_wp2_with (go_at_call 141; refine (indexI_calls l set Bs _ _ _ hset HL.out HR.out HB.out).mono ?_; rw [HX.out]; rintro e w1 ⟨rfl, rfl⟩)
    go_loopw [5, 6] (fun i j wr => ∃ (a k : Nat), a < k ∧ k ≤ l.length ∧ i = .int .i64 a ∧ j = .int .i64 k ∧ a = ((l.take k).filter (keepP set)).length ∧ Aside0 (∃ L, IB wr 3 g L ∧ L.length = l.length ∧ L.take a = ints ((l.take k).filter (keepP set)) ∧ L.drop k = ints (l.drop k)) ∧ Aside0 (Chg (fun k => k = g) w wr)) (fun i j _ => l.length - (intOf j).toNat)
    case atStart =>
      have e1 : (l.take (i0 + 1)).filter (keepP set) = l.take i0 := HFT.out
      exact ⟨i0, i0 + 1, by omega, by omega, rfl, by go_num, by rw [e1]; simp; omega, ⟨_, HI.out, by simp, by rw [e1]; simp [ints, List.map_take], by simp [ints, List.map_drop]⟩, ⟨Chg.refl _ _⟩⟩
    case round =>
      obtain ⟨a, k, hak, hk, rfl, rfl, ha, ⟨L, hL, hLn, hLt, hLd⟩, HC⟩ := hrel
      have HIL := Aside0.mk hL
      have HLt := Aside0.mk hLt
      have HLd := Aside0.mk hLd
      by_cases hlt : k < l.length
      · have hkL : k < L.length := by omega
        have hget : L[k] = (l[k] : Int) := by
          have h1 : (L.drop k)[0]? = (ints (l.drop k))[0]? := by rw [hLd]
          simp [ints, hkL, hlt] at h1
          exact h1
        have hck := hL.cell k hkL
        obtain ⟨y, hca⟩ : ∃ y, wr.cell? ⟨g, a, none⟩ = some (.int .i64 y) := ⟨_, hL.cell a (by omega)⟩
        have hfa := hL.frozen a
        rw [hget] at hck
        have hlg := hL.lt
        have hxl := HL.out l[k] (List.getElem_mem hlt)
        have HTK : Aside0 ((l.take (k + 1)).filter (keepP set) = (l.take k).filter (keepP set) ++ if keepP set l[k] = true then [l[k]] else []) := ⟨by
          rw [List.take_succ_eq_append_getElem hlt, List.filter_append]; congr 1; simp [List.filter_cons]⟩
        have HLd1 : Aside0 (L.drop (k + 1) = ints (l.drop (k + 1))) := ⟨by
          have : (L.drop k).drop 1 = (ints (l.drop k)).drop 1 := by rw [hLd]
          simpa [ints, List.map_drop, Nat.add_comm] using this⟩
        have HA := Aside0.mk ha
        have HBr := Aside0.mk (HC.out.heap HB.out hne)
        clear hL hLt hLd hget ha
        generalize l[k] = x at *
        obtain ⟨q, hq⟩ : ∃ q, outP set x = q := ⟨_, rfl⟩
        have HQ := Aside0.mk hq
        clear hq
        cases q
        · go_wp2_with (refine (listC_calls set x Bs _ hset hxl HBr.out).mono ?_; rw [HQ.out]; rintro e w1 ⟨rfl, rfl⟩)
          go_roundw
          case rel =>
            have hkp : keepP set x = true := by simp [keepP, HQ.out]
            refine ⟨a + 1, k + 1, by omega, by omega, by go_num, by go_num, ?_, ⟨_, HIL.out.set a x, by simp; omega, ?_, ?_⟩, ⟨HC.out.setCell (p := ⟨g, a, none⟩) (fun _ => rfl) _⟩⟩
            · rw [HTK.out, if_pos hkp, List.length_append, ← HA.out]; rfl
            · rw [HTK.out, if_pos hkp, List.take_succ_eq_append_getElem (by simp; omega), List.take_set_of_le (Nat.le_refl _), List.getElem_set_self, HLt.out]
              simp [ints]
            · rw [List.drop_set_of_lt (by omega), HLd1.out]
          case measure => simp [intOf]; omega
        · go_wp2_with (refine (listC_calls set x Bs _ hset hxl HBr.out).mono ?_; rw [HQ.out]; rintro e w1 ⟨rfl, rfl⟩)
          go_roundw
          case rel =>
            have hkp : keepP set x = false := by simp [keepP, HQ.out]
            refine ⟨a, k + 1, by omega, by omega, rfl, by go_num, ?_, ⟨L, HIL.out, hLn, ?_, HLd1.out⟩, HC⟩
            · rw [HTK.out, hkp]; simp [HA.out]
            · rw [HTK.out, hkp]; simp [HLt.out]
          case measure => simp [intOf]; omega
      · obtain rfl : k = l.length := by omega
        rw [List.take_length] at ha HLt
        have hcl := clearI wr g a l.length L hL hLn (by omega)
        have HA := Aside0.mk ha
        clear hL hLt hLd ha
        go_wp2
        go_ret
        have HS := IB.setCells (List.replicate (l.length - a) 0) a wr L HIL.out (by rw [List.length_replicate]; omega)
        rw [List.map_replicate] at HS
        refine ⟨by rw [← HA.out]; rfl, ⟨_, HS, by simp; omega, ?_⟩, Chg.setCells (S := fun k => k = g) (fun _ => rfl) _ _ _ HC.out⟩
        rw [← HA.out, List.append_assoc, List.take_append_of_le_length (by simp; omega), List.take_take, Nat.min_self, HLt.out]

set_option maxRecDepth 100000 in
set_option maxHeartbeats 1000000 in
theorem list_calls (set n : Nat) (w : World) (hset : set < 2 ^ 62) (hn : n ≤ 50) :
    Calls Try.prog 98 #[.int .i64 set, .int .i64 n] w
      fun e w' => (∃ g, w.heap.size ≤ g ∧ e = .returned (.slice (some ⟨g, 0, none⟩) ((List.range n).filter (keepP set)).length n) ∧ (∃ L, IB w' 3 g L ∧ L.length = n ∧ L.take ((List.range n).filter (keepP set)).length = ints ((List.range n).filter (keepP set)))) ∧ Chg (fun _ => False) w w' := by
  obtain ⟨ti, hti, htz, hts, htb⟩ := i3
  have HB0 := Aside0.mk (blk_new w (.cells #[.int .i64 set] 3))
  have HC0 : Aside0 (Chg (fun _ => False) w (w.alloc (.cells #[.int .i64 set] 3))) := ⟨(Chg.refl _ w).alloc _⟩
  go_enter Try.func98, Try.ntmps98
  go_upto_region 1 with (fail)
  have hsz : (w.alloc (.cells #[.int .i64 set] 3)).heap.size = w.heap.size + 1 := by simp
  generalize w.alloc (.cells #[.int .i64 set] 3) = w0 at HB0 HC0 hsz ⊢
  obtain ⟨g1, hg1⟩ : ∃ g1, w0.heap.size = g1 := ⟨_, rfl⟩
  have hz : w.heap.size < g1 := by omega
  clear hsz
  go_wp2_with (at_make; refine wpList_make_full _ rfl _ _ _ rfl 0 3 ti (.int .i64 0) 1 Try.underlying39 hti htz hts .i64 .i64 _ _ n rfl rfl rfl rfl (by rw [htb]; omega) (by simp only [maxLen]; omega) (Nat.zero_le _) ?_; intro w1 ho1 hg1; have HI1 := Aside0.mk (IB.of_owns (cap := n) ho1); have HC1 := Aside0.mk (Chg.grown hg1); clear ho1 hg1)
  rw [hg1] at HI1
  have HB1 := Aside0.mk (HC1.out.heap HB0.out (by simp))
  have z1 := HI1.out.lt
  go_loopw [12] (fun j wr => ∃ k : Nat, k ≤ n ∧ j = .int .i64 k ∧ Aside0 (IB wr 3 g1 (ints (List.range k) ++ List.replicate (n - k) 0)) ∧ Aside0 (Chg (fun k => k = g1) w1 wr)) (fun j _ => n - (intOf j).toNat)
  case atStart => exact ⟨0, Nat.zero_le _, rfl, ⟨by simpa [ints] using HI1.out⟩, ⟨Chg.refl _ _⟩⟩
  case round =>
    obtain ⟨k, hk, rfl, HI, HC⟩ := hrel
    by_cases hlt : k < n
    · obtain ⟨y, hca⟩ : ∃ y, wr.cell? ⟨g1, k, none⟩ = some (.int .i64 y) := ⟨_, HI.out.cell k (by simp; omega)⟩
      have hfa := HI.out.frozen k
      have hlg := HI.out.lt
      go_wp2
      go_roundw
      case rel =>
        refine ⟨k + 1, by omega, by go_num, ⟨?_⟩, ⟨HC.out.setCell (p := ⟨g1, k, none⟩) (fun _ => rfl) _⟩⟩
        have := HI.out.set k (k : Int)
        have e1 : (ints (List.range k) ++ List.replicate (n - k) 0).set k (k : Int) = ints (List.range (k + 1)) ++ List.replicate (n - (k + 1)) 0 := by
          rw [List.set_append_right _ _ (by simp), show n - k = (n - (k + 1)) + 1 by omega, List.replicate_succ]
          simp [ints, List.range_succ]
        rw [e1] at this
        exact this
      case measure => simp [intOf]; omega
    · obtain rfl : k = n := by omega
      have HI' : Aside0 (IB wr 3 g1 (ints (List.range k))) := ⟨by simpa using HI.out⟩
      have hsrc : ∀ (j : Nat) (v : Value), ((ints (List.range k)).map (Value.int .i64))[j]? = some v → wr.cell? ((⟨g1, 0, none⟩ : Addr).add j) = some v := fun j v hj => by
        have hadd : (⟨g1, 0, none⟩ : Addr).add j = ⟨g1, j, none⟩ := by unfold Addr.add; split <;> simp_all
        rw [hadd]
        obtain ⟨h1, h2⟩ := List.getElem?_eq_some_iff.1 hj
        rw [HI'.out.cell j (by simpa using h1), ← h2]; simp
      have HSRC := Aside0.mk hsrc
      have zr := HI'.out.lt
      clear hsrc
      go_wp2_with (first | (at_make; refine wpList_make_full _ rfl _ _ _ rfl 0 3 ti (.int .i64 0) 1 Try.underlying39 hti htz hts .i64 .i64 _ _ k rfl rfl rfl rfl (by rw [htb]; omega) (by simp only [maxLen]; omega) (Nat.zero_le _) ?_; intro w2 ho2 hg2; have HI2 := Aside0.mk (IB.of_owns (cap := k) ho2); have HC2 := Aside0.mk (Chg.grown hg2); have hcp := fun ty => run_copy_row (P := Try.prog) w2 39 39 ty 3 wr.heap.size 0 k k ⟨g1, 0, none⟩ k k _ 3 ((ints (List.range k)).map (Value.int .i64)) Try.underlying39 (by rw [hti]; simp [hts]) HI2.out (by simp) (fun j v hj => HC2.out.cell (HSRC.out j v hj) (by simp)) (by simp) (by simp [Value.oneCell']); clear ho2 hg2) | fail)
      have hzr : w.heap.size < wr.heap.size := by have := HC.out.size; omega
      have HI3 : Aside0 (IB (w2.setRow wr.heap.size (List.map (Value.int .i64 ∘ Int.ofNat) (List.range k)).toArray) 3 wr.heap.size (ints (List.range k))) := ⟨by
        have := setRow_heap w2 wr.heap.size _ (List.map (Value.int .i64 ∘ Int.ofNat) (List.range k)).toArray 3 (0, 0) HI2.out
        unfold IB
        rw [this, ints, List.map_map]⟩
      have HC3 : Aside0 (Chg (fun k => w.heap.size < k) w (w2.setRow wr.heap.size (List.map (Value.int .i64 ∘ Int.ofNat) (List.range k)).toArray)) := ⟨
        ((((HC0.out.mono (fun _ _ x => x.elim)).trans (HC1.out.mono (fun k _ e => by simp at e))).trans (HC.out.mono (fun k _ e => by omega))).trans (HC2.out.mono (fun k _ e => by simp at e))).setRow (fun h => by have := HC.out.size; omega) _⟩
      have HBX : Aside0 ((w2.setRow wr.heap.size (List.map (Value.int .i64 ∘ Int.ofNat) (List.range k)).toArray).heap[w.heap.size]? = some (.cells #[.int .i64 set] 3 (0, 0))) := ⟨
        ((((HC1.out.mono (S' := fun k => w.heap.size < k) (fun k _ e => by simp at e)).trans (HC.out.mono (fun k _ e => by omega))).trans (HC2.out.mono (fun k _ e => by simp at e))).setRow (fun h => hzr) _).heap HB0.out (by omega)⟩
      clear HI2 hcp
      have hd := deleteI_calls (List.range k) set w.heap.size wr.heap.size _ hset (fun x hx => by have := List.mem_range.1 hx; omega) HI3.out (by simp; omega) HBX.out (by omega)
      rw [List.length_range] at hd
      refine hd.mono ?_
      rintro e w3 ⟨rfl, ⟨L, hL, hLn, hLt⟩, hc3⟩
      have HL := Aside0.mk (And.intro hL (And.intro hLn hLt))
      have HC4 := Aside0.mk (HC3.out.trans (hc3.mono (fun k' _ e => by omega)))
      clear hd hL hLn hLt hc3
      go_wp2
      go_ret
      exact ⟨⟨wr.heap.size, by omega, rfl, L, HL.out⟩, HC4.out.mono (fun k h e => by omega)⟩

def cmpI (a b : Int) : Int := if a < b then -1 else if b < a then 1 else 0
def cmpL : List Int → List Int → Int
  | [], [] => 0
  | [], _ :: _ => -1
  | _ :: _, [] => 1
  | a :: l, b :: m => if cmpI a b = 0 then cmpL l m else cmpI a b

theorem nanI_calls (a : Int) (w : World) : Calls Try.prog 142 #[.int .i64 a] w fun e w' => e = .returned (.bool false) ∧ w = w' := by
  go_enter Try.func142, Try.ntmps142
  go_wp2
  go_ret
  exact ⟨by simp, rfl⟩
theorem cmpI_calls (a b : Int) (w : World) : Calls Try.prog 133 #[.int .i64 a, .int .i64 b] w fun e w' => e = .returned (.int .i64 (cmpI a b)) ∧ w = w' := by
  by_cases h1 : a < b
  · go_enter Try.func133, Try.ntmps133
    go_wp2_with (go_at_call 142; refine (nanI_calls _ _).mono ?_; rintro e w1 ⟨rfl, rfl⟩)
    go_ret
    exact ⟨by rw [cmpI, if_pos h1]; rfl, rfl⟩
  · by_cases h2 : b < a
    · go_enter Try.func133, Try.ntmps133
      go_wp2_with (go_at_call 142; refine (nanI_calls _ _).mono ?_; rintro e w1 ⟨rfl, rfl⟩)
      go_ret
      exact ⟨by rw [cmpI, if_neg (by omega), if_pos h2]; rfl, rfl⟩
    · go_enter Try.func133, Try.ntmps133
      go_wp2_with (go_at_call 142; refine (nanI_calls _ _).mono ?_; rintro e w1 ⟨rfl, rfl⟩)
      go_ret
      exact ⟨by rw [cmpI, if_neg (by omega), if_neg (by omega)]; rfl, rfl⟩

set_option maxHeartbeats 400000 in
theorem compareI_calls (la lb : List Int) (A B : Option Addr) (c d : Nat) (w : World) (ha : Kd.C (Kd.int .i64) w A la.length la) (hb : Kd.C (Kd.int .i64) w B lb.length lb) :
    Calls Try.prog 107 #[.slice A la.length c, .slice B lb.length d] w fun e w' => e = .returned (.int .i64 (cmpL la lb)) ∧ w = w' := by
  have hlen := ha.2.1
  have hlen' := hb.2.1
  have HA := Aside0.mk ha
  have HB := Aside0.mk hb
  clear ha hb
  go_enter Try.func107, Try.ntmps107
  go_wp2
  go_loop [11] (fun j => ∃ k : Nat, k ≤ la.length ∧ k ≤ lb.length ∧ j = .int .i64 k ∧ Aside0 (cmpL la lb = cmpL (la.drop k) (lb.drop k))) (fun j => la.length - (intOf j).toNat)
  case atStart => exact ⟨0, Nat.zero_le _, Nat.zero_le _, rfl, ⟨rfl⟩⟩
  case round =>
    obtain ⟨k, hk, hk', rfl, HO⟩ := hrel
    by_cases hlt : k < la.length
    · obtain ⟨ad, e, hc⟩ := at_nat HA.out k hlt
      subst e
      rw [show rd la k = la[k] by simp [rd, hlt]] at hc
      have HDA : Aside0 (la.drop k = la[k] :: la.drop (k + 1)) := ⟨List.drop_eq_getElem_cons hlt⟩
      generalize la[k] = x at hc HDA
      by_cases hlt' : k < lb.length
      · obtain ⟨bd, e, hd⟩ := at_nat HB.out k hlt'
        subst e
        rw [show rd lb k = lb[k] by simp [rd, hlt']] at hd
        have HDB : Aside0 (lb.drop k = lb[k] :: lb.drop (k + 1)) := ⟨List.drop_eq_getElem_cons hlt'⟩
        generalize lb[k] = y at hd HDB
        have HS : Aside0 (cmpL la lb = if cmpI x y = 0 then cmpL (la.drop (k + 1)) (lb.drop (k + 1)) else cmpI x y) := ⟨by rw [HO.out, HDA.out, HDB.out]; rfl⟩
        obtain ⟨q, hq⟩ : ∃ q, cmpI x y = q := ⟨_, rfl⟩
        have HQ := Aside0.mk hq
        clear hq
        by_cases h0 : q = 0
        · subst h0
          go_wp2_with (go_at_call 133; refine (cmpI_calls _ _ _).mono ?_; rw [HQ.out]; rintro e w1 ⟨rfl, rfl⟩)
          go_round
          case rel => exact ⟨k + 1, by omega, by omega, by go_num, ⟨by rw [HS.out, if_pos HQ.out]⟩⟩
          case measure => simp [intOf]; omega
        · have h0' : (q == 0) = false := beq_eq_false_iff_ne.2 h0
          go_wp2_with (go_at_call 133; refine (cmpI_calls _ _ _).mono ?_; rw [HQ.out]; rintro e w1 ⟨rfl, rfl⟩)
          go_ret
          exact ⟨by rw [HS.out, HQ.out, if_neg h0]; rfl, rfl⟩
      · have HDB : Aside0 (lb.drop k = []) := ⟨List.drop_of_length_le (by omega)⟩
        go_wp2
        go_ret
        exact ⟨by rw [HO.out, HDA.out, HDB.out]; rfl, rfl⟩
    · have HDA : Aside0 (la.drop k = []) := ⟨List.drop_of_length_le (by omega)⟩
      by_cases hlt' : k < lb.length
      · have HDB : Aside0 (lb.drop k = lb[k] :: lb.drop (k + 1)) := ⟨List.drop_eq_getElem_cons hlt'⟩
        obtain rfl : k = la.length := by omega
        go_wp2
        go_ret
        exact ⟨by rw [HO.out, HDA.out, HDB.out]; rfl, rfl⟩
      · have HDB : Aside0 (lb.drop k = []) := ⟨List.drop_of_length_le (by omega)⟩
        obtain rfl : k = la.length := by omega
        go_wp2
        go_ret
        exact ⟨by rw [HO.out, HDA.out, HDB.out]; rfl, rfl⟩
theorem compareN_calls (la lb : List Nat) (A B : Option Addr) (c d : Nat) (w : World) (ha : Kd.C (Kd.int .i64) w A la.length (ints la)) (hb : Kd.C (Kd.int .i64) w B lb.length (ints lb)) :
    Calls Try.prog 107 #[.slice A la.length c, .slice B lb.length d] w fun e w' => e = .returned (.int .i64 (cmpL (ints la) (ints lb))) ∧ w = w' := by
  have e1 : (ints la).length = la.length := by simp
  have e2 : (ints lb).length = lb.length := by simp
  have := compareI_calls (ints la) (ints lb) A B c d w (by rw [e1]; exact ha) (by rw [e2]; exact hb)
  rw [e1, e2] at this
  exact this
end Go.Proofs.Ytgoidclnccjdeaa.D
end
section
/- Package glass: always. -/
namespace Go.Proofs.Ytgoidclnccjdeaa.D
open Go Go.RowKit Go.Proofs.YtgoidclnccjdeaaK Go.Proofs.YtgoidclnccjdeaaW.PrintWords Go.Proofs.YtgoidclnccjdeaaW.PrintLast Go.Proofs.YtgoidclnccjdeaaW.PrintMore Go.Proofs.Ytgoidclnccjdeaa.PR Go.Proofs.Ytgoidclnccjdeaa.M
set_option linter.unusedVariables false
set_option linter.unusedSimpArgs false
attribute [local go_sem] Oper.semAt_some

def seeL (D : Dat) (g : Nat) (y : Int) (x : List Int) : Nat := seenTo (fn x) g y D.sp.length
def sureO (D : Dat) (g : Nat) (y : Int) (l : List (List Int)) : Option Nat := l.foldl (fun s x => some (match s with | none => seeL D g y x | some a => a &&& seeL D g y x)) none
def mayN (D : Dat) (g : Nat) (y : Int) (l : List (List Int)) : Nat := l.foldl (fun s x => s ||| seeL D g y x) 0
def encO : Option Nat → Int
  | none => -1
  | some a => a
theorem seeL_lt (D : Dat) (h : D.sp.length ≤ 4) (g : Nat) (y : Int) (x : List Int) : seeL D g y x < 2 ^ 62 := Nat.lt_trans (seenTo_lt _ _ _ _) (Nat.pow_lt_pow_right (by decide) (by omega))
theorem sureO_snoc (D : Dat) (g : Nat) (y : Int) (l : List (List Int)) (x : List Int) : sureO D g y (l ++ [x]) = some (match sureO D g y l with | none => seeL D g y x | some a => a &&& seeL D g y x) := by simp [sureO]
theorem mayN_snoc (D : Dat) (g : Nat) (y : Int) (l : List (List Int)) (x : List Int) : mayN D g y (l ++ [x]) = mayN D g y l ||| seeL D g y x := by simp [mayN]
theorem list_snoc {α : Type} {p : List α → Prop} (h0 : p []) (h1 : ∀ l x, p l → p (l ++ [x])) (l : List α) : p l := by
  rw [← List.reverse_reverse l]
  induction l.reverse with
  | nil => exact h0
  | cons x r ih => rw [List.reverse_cons]; exact h1 _ _ ih
theorem mayN_lt (D : Dat) (h : D.sp.length ≤ 4) (g : Nat) (y : Int) (l : List (List Int)) : mayN D g y l < 2 ^ 62 := by
  refine list_snoc (p := fun l => mayN D g y l < 2 ^ 62) (by show (0 : Nat) < 2 ^ 62; decide) (fun l x ih => ?_) l
  rw [mayN_snoc]
  exact Nat.or_lt_two_pow ih (seeL_lt D h g y x)
theorem sureO_lt (D : Dat) (h : D.sp.length ≤ 4) (g : Nat) (y : Int) (l : List (List Int)) : ∀ a, sureO D g y l = some a → a < 2 ^ 62 := by
  refine list_snoc (p := fun l => ∀ a, sureO D g y l = some a → a < 2 ^ 62) (fun a ha => by cases ha) (fun l x ih a ha => ?_) l
  rw [sureO_snoc] at ha
  cases hs : sureO D g y l with
  | none => rw [hs] at ha; cases ha; exact seeL_lt D h g y x
  | some b => rw [hs] at ha; cases ha; exact Nat.and_lt_two_pow _ (seeL_lt D h g y x)
theorem and_m1 (n : Nat) (h : n < 2 ^ 62) : bits .and .i64 (-1) (n : Int) = (n : Int) := by
  have h2 : (BitVec.ofInt 64 (n : Int)).toNat = n := by
    rw [BitVec.ofInt_natCast, BitVec.toNat_ofNat]; exact Nat.mod_eq_of_lt (by omega)
  have h1 : BitVec.ofInt 64 (-1) = BitVec.allOnes 64 := by decide
  show IntKind.i64.wrap ((BitVec.ofInt 64 (-1) &&& BitVec.ofInt 64 (n : Int)).toNat : Int) = _
  rw [h1, BitVec.allOnes_and, h2]
  exact wraps_i64 _ (by omega) (by exact_mod_cast h)
theorem and_encO (s : Option Nat) (n : Nat) (hs : ∀ a, s = some a → a < 2 ^ 62) (hn : n < 2 ^ 62) : bits .and .i64 (encO s) (n : Int) = encO (some (match s with | none => n | some a => a &&& n)) := by
  cases s with
  | none => exact and_m1 n hn
  | some a => exact and_i64 a n (hs a rfl) hn
theorem t5 (w : World) (a b : Int × Int) : (Op.equalIn 10000 129 (.agg #[.int .i64 a.1, .int .i64 a.2]) (.agg #[.int .i64 b.1, .int .i64 b.2])).run Try.prog w = .ok (a.1 == b.1 && a.2 == b.2) w := v5 w a b
theorem results_cell2' {P : Program} {fn : Func} {p q : Tmp} {ty : TypeId} (h : fn.results = #[.cell p ty, .cell q ty]) (tmps : Array Value) (w : World) (g k : Nat) (u v : Value) (d : TypeDesc) (hp : tmps.getD p undef = .pointer (some ⟨g, 0, none⟩)) (hq : tmps.getD q undef = .pointer (some ⟨k, 0, none⟩))
    (hc : w.cell? ⟨g, 0, none⟩ = some u) (hu : P.underlying ty = some d) (hd : (match d with | .struct _ | .array _ _ => true | _ => false) = false) (hc' : w.cell? ⟨k, 0, none⟩ = some v) : (results fn tmps).run P w = .ok (.tuple #[u, v]) w :=
  results_cell2 h tmps w g k u v d d hp hq hc hu hd hc' hu hd

set_option maxRecDepth 100000 in
set_option maxHeartbeats 2000000 in
theorem always_calls (w0 W : World) (D : Dat) (A0 : Option Addr) (c0 : Nat) (A3 : Option Addr) (c3 : Nat) (A4 : Option Addr) (c4 : Nat) (but b g : Nat) (y : Int)
    (hA : Arg w0 D A0 c0 A3 c3 A4 c4) (hV : Valid D) (hbut : but < 2 ^ 62) (hg : g < 3) (hy0 : 0 ≤ y) (hy9 : y ≤ 9) (h : Sh w0 W D A0 c0 A3 c3 A4 c4 but b) :
    Calls Try.prog 100 #[.pointer (some ⟨b, 0, none⟩), .agg #[.int .i64 g, .int .i64 y]] W
      fun e W' => e = .returned (.tuple #[.int .i64 (encO (sureO D g y (truthsL D but))), .int .i64 (mayN D g y (truthsL D but))]) ∧ Chg (fun _ => False) W W' ∧ Sh w0 W' D A0 c0 A3 c3 A4 c4 but b := by
  have H := Aside0.mk h
  have HV := Aside0.mk hV
  have hs4 := hV.s4
  have hb0 := blk_lt h.sh
  clear h
  refine (callsIn_wide (n := 0)).1 ?_
  refine callsIn_of_wp_marks Try.func100 rfl trivial ?_
  simp only [Try.ntmps100, List.size_toArray, List.length_cons, List.length_nil, Nat.reduceAdd, Nat.reduceSub, Array.replicate_succ, Array.replicate_zero, List.push_toArray, List.append_toArray, List.nil_append, List.cons_append]
  by_cases h1 : g = 0 ∧ y = 0
  · have HG := Aside0.mk h1
    have ht : (((g : Int) == 0) && (y == 0)) = true := by simp [h1.1, h1.2]
    have heq : ∀ w, (Op.equalIn 10000 129 (.agg #[.int .i64 (g : Int), .int .i64 y]) (.agg #[.int .i64 0, .int .i64 0])).run Try.prog w = .ok true w := fun w => (t5 w ((g : Int), y) (0, 0)).trans (by rw [ht])
    clear h1 ht
    gi_wp2_with (refine ⟨trivial, rfl, ?_⟩; gi_at_call 96; refine (callsIn_wide.2 (truths_calls _ b)).mono ?_; rintro e w1 ⟨rfl, rfl⟩)
    obtain ⟨V1, hV1⟩ : ∃ V1, (((((W.alloc (.cells #[.pointer (some ⟨b, 0, none⟩)] 110)).alloc (.cells #[.int .i64 g, .int .i64 y] 129)).alloc (.cells #[.int .i64 (-1)] 3)).alloc (.cells #[.int .i64 0] 3)).alloc (.cells #[.pointer (some ⟨b, 0, none⟩)] 110)) = V1 := ⟨_, rfl⟩
    have hch : Chg (fun _ => False) W V1 := by rw [← hV1]; exact (((((Chg.refl _ W).alloc _).alloc _).alloc _).alloc _).alloc _
    have HB0 : Aside0 (V1.heap[W.heap.size]? = some (.cells #[.pointer (some ⟨b, 0, none⟩)] 110 (0, 0))) := ⟨by rw [← hV1]; exact blk_alloc (blk_alloc (blk_alloc (blk_alloc (blk_new _ _) _) _) _) _⟩
    have HB1 : Aside0 (V1.heap[W.heap.size + 1]? = some (.cells #[.int .i64 g, .int .i64 y] 129 (0, 0))) := ⟨by rw [← hV1]; exact blk_alloc (blk_alloc (blk_alloc (new_at (by simp) _) _) _) _⟩
    have HB2 : Aside0 (V1.heap[W.heap.size + 1 + 1]? = some (.cells #[.int .i64 (-1)] 3 (0, 0))) := ⟨by rw [← hV1]; exact blk_alloc (blk_alloc (new_at (by simp) _) _) _⟩
    have HB3 : Aside0 (V1.heap[W.heap.size + 1 + 1 + 1]? = some (.cells #[.int .i64 0] 3 (0, 0))) := ⟨by rw [← hV1]; exact blk_alloc (new_at (by simp) _) _⟩
    have HBs : Aside0 (V1.heap[W.heap.size + 1 + 1 + 1 + 1]? = some (.cells #[.pointer (some ⟨b, 0, none⟩)] 110 (0, 0))) := ⟨by rw [← hV1]; exact new_at (by simp) _⟩
    rw [hV1]
    have HC1 := Aside0.mk hch
    clear hch hV1 heq
    obtain ⟨B, hB⟩ : ∃ B, W.heap.size = B := ⟨_, rfl⟩
    rw [hB] at HB0 HB1 HB2 HB3 HBs hb0 ⊢
    have HOk : Aside0 (Ok w0 D A0 c0 A3 c3 A4 c4 but b (B + 1 + 1 + 1 + 1) V1) := ⟨H.out.chg HC1.out (fun _ x => x.elim), HBs.out⟩
    have z2 := blk_lt HBs.out
    have zb := H.out.base.size
    refine rangeFunc (gf := 127) (lb := #[.pointer (some ⟨B + 1 + 1 + 1 + 1, 0, none⟩)]) rfl enters_truthsC (truthsC_iter w0 V1 D A0 c0 A3 c3 A4 c4 but b (B + 1 + 1 + 1 + 1) hA HV.out hbut ⟨by omega, z2, by omega⟩) (fun _ => rfl)
      (fun pre Fp V => Fp = (fun k => k = B + 1 + 1 ∨ k = B + 1 + 1 + 1) ∧ V.heap[B]? = some (.cells #[.pointer (some ⟨b, 0, none⟩)] 110 (0, 0)) ∧ V.heap[B + 1]? = some (.cells #[.int .i64 g, .int .i64 y] 129 (0, 0)) ∧ V.heap[B + 1 + 1]? = some (.cells #[.int .i64 (encO (sureO D g y pre))] 3 (0, 0)) ∧ V.heap[B + 1 + 1 + 1]? = some (.cells #[.int .i64 (mayN D g y pre)] 3 (0, 0)) ∧ Chg (fun _ => False) W V)
      (fun c pre V => False)
      (fun k => k = B + 1 + 1 ∨ k = B + 1 + 1 + 1) (fun k e => e.elim) (fun A C ho hc => ho.chg hc (fun k hk => by omega)) ?_ (fun c pre A B h => h.elim) ⟨rfl, HB0.out, HB1.out, HB2.out, HB3.out, HC1.out⟩ (fun k e => by omega) HOk.out ?_ ?_ (fun c pre V _ h => h.elim)
    · rintro pre Fp A C ⟨rfl, h1, h2, h3, h4, h6⟩ hc hok
      refine ⟨rfl, hc.heap h1 (fun e => e.elim id (fun e => by omega)), hc.heap h2 (fun e => e.elim id (fun e => by omega)), hc.heap h3 (fun e => e.elim id (fun e => by omega)), hc.heap h4 (fun e => e.elim id (fun e => by omega)), h6.then_ hc (fun k hk hx => hx.elim (fun x => x.elim) (fun x => by omega))⟩
    · rintro l pre x Fp V hl1 hl2 hfl hFp hpre hI hok
      dsimp only [encT]
      gi_wp2
      have HX0 : Aside0 ((V.alloc (.cells (vec8 (fn x)) 126)).heap[V.heap.size]? = some (.cells (vec8 (fn x)) 126 (0, 0))) := ⟨blk_new _ _⟩
      refine ⟨(Chg.refl _ _).alloc _, ?_⟩
      clear hI hok
      rintro V3 hc3 hs3 ⟨rfl, h1, h2, h3, h4, h6⟩ hok
      have HX := Aside0.mk (hc3.heap HX0.out (by omega))
      clear HX0 hc3
      obtain ⟨Bx, hBx⟩ : ∃ Bx, V.heap.size = Bx := ⟨_, rfl⟩
      have z5 : B + 1 + 1 + 1 < Bx := by have := hFp (B + 1 + 1 + 1) (.inr rfl); omega
      clear hFp hs3
      rw [hBx] at HX ⊢
      clear hBx
      have HSN := Aside0.mk (sureO_snoc D g y pre x)
      have HMN := Aside0.mk (mayN_snoc D g y pre x)
      have HSO := Aside0.mk (sureO_lt D hs4 g y pre)
      have HMA := Aside0.mk (mayN_lt D hs4 g y pre)
      have hst := seeL_lt D hs4 g y x
      have HRN : Aside0 (∀ i, 0 ≤ fn x i ∧ fn x i ≤ 60) := ⟨(mem_spans HV.out ((List.mem_filter.1 (hpre.subset (by simp))).1)).2⟩
      have HSE : Aside0 (seeL D g y x = seenTo (fn x) g y D.sp.length) := ⟨rfl⟩
      obtain ⟨st, hste⟩ : ∃ st, seeL D g y x = st := ⟨_, rfl⟩
      rw [hste] at HSN HMN hst HSE
      clear hste
      obtain ⟨so, hso⟩ : ∃ s, sureO D g y pre = s := ⟨_, rfl⟩
      obtain ⟨ma, hma⟩ : ∃ m, mayN D g y pre = m := ⟨_, rfl⟩
      rw [hso] at HSN HSO h3
      rw [hma] at HMN HMA h4
      clear hso hma
      obtain ⟨gx, hgx⟩ : ∃ gx, fn x = gx := ⟨_, rfl⟩
      rw [hgx] at HX HRN HSE
      clear hgx
      have H1 := Aside0.mk h1
      have H2 := Aside0.mk h2
      have H3 := Aside0.mk h3
      have H4 := Aside0.mk h4
      have H6 := Aside0.mk h6
      have HK := Aside0.mk hok
      clear h1 h2 h3 h4 h6 hok
      have t0 : V3.cell? ⟨B, 0, none⟩ = some (.pointer (some ⟨b, 0, none⟩)) := (blk_cell H1.out 0).trans rfl
      have tl := blk_lt H1.out
      have xl := blk_lt HX.out
      have hr0 := HK.out.s
      have r3 : V3.cell? ⟨b, 3, none⟩ = some (.slice A3 D.sp.length c3) := (blk_cell HK.out.s.sh 3).trans rfl
      have rl := blk_lt HK.out.s.sh
      gi_wp2
      clear r3 rl t0 tl hr0
      gi_loopw [7, 23] (fun v7 j wr => ∃ k : Nat, k ≤ D.sp.length ∧ j = .int .i64 k ∧ v7 = .int .i64 (seenTo gx 0 0 k) ∧ Aside0 (Chg (fun _ => False) V3 wr)) (fun _ j _ => D.sp.length - (intOf j).toNat)
      case atStart => exact ⟨0, Nat.zero_le _, rfl, rfl, ⟨Chg.refl _ _⟩⟩
      case round =>
        obtain ⟨k, hk, rfl, rfl, HCk⟩ := hrel
        by_cases hlt : k < D.sp.length
        · have HXk := Aside0.mk (HCk.out.heap HX.out id)
          have HSB : Aside0 (seenB gx 0 0 k = decide (gx 0 ≤ gx (4 + k))) := ⟨by simp [seenB]⟩
          have xk : wr.cell? ⟨Bx, 4 + k, none⟩ = some (.int .i64 (gx (4 + k))) := (blk_cell HXk.out (4 + k)).trans (vec_get gx (4 + k) (by omega))
          have x0 : wr.cell? ⟨Bx, 0, none⟩ = some (.int .i64 (gx 0)) := (blk_cell HXk.out 0).trans rfl
          have lq := blk_lt HXk.out
          have hor : bits .or .i64 (seenTo gx 0 0 k : Int) (wrap64 (2 ^ k)) = ((seenTo gx 0 0 k ||| 2 ^ k : Nat) : Int) := or_pow (Nat.lt_trans (seenTo_lt gx 0 0 k) (Nat.pow_lt_pow_right (by decide) (by omega))) (by omega)
          have e4 : (4 + (k : Int)).toNat = 4 + k := by omega
          have h48 : 4 + (k : Int) < 8 := by omega
          have h40 : 0 ≤ 4 + (k : Int) := by omega
          have hwr : IntKind.i64.wrap (4 + (k : Int)) = 4 + (k : Int) := by rw [i64_w]; unfold wrap64; omega
          obtain ⟨n0, hn0⟩ : ∃ n, gx 0 = n := ⟨_, rfl⟩
          obtain ⟨nk, hnk⟩ : ∃ n, gx (4 + k) = n := ⟨_, rfl⟩
          rw [hn0] at x0 HSB
          rw [hnk] at xk HSB
          clear hn0 hnk
          by_cases hs : n0 ≤ nk
          · have HS := Aside0.mk (HSB.out.trans (decide_eq_true hs))
            gi_wp2
            refine wpIn_region_G (List.range 7) (S := fun w' : World => w'.cell? ⟨Bx, 4 + k, none⟩ = some (.int .i64 nk) ∧ w'.cell? ⟨Bx, 0, none⟩ = some (.int .i64 n0)) (wideF_round l) (by kernel_rfl) (by kernel_rfl) (by rintro ⟨_, _, x⟩; exact x) ⟨xk, x0⟩ (fun hHeld => ?_)
            refine takeG 0 ?_
            refine takeG 1 ?_
            refine takeG 2 ?_
            refine takeG 3 ?_
            refine takeG 4 ?_
            refine takeG 5 ?_
            refine takeG 6 ?_
            refine doneG ?_
            gi_wp2
            go_roundw
            case rel => exact ⟨k + 1, by omega, by go_num, by rw [seenTo, HS.out]; rfl, ⟨HCk.out.drew⟩⟩
            case measure => simp [intOf]; omega
          · have HS := Aside0.mk (HSB.out.trans (decide_eq_false hs))
            gi_wp2
            refine wpIn_region_G (List.range 7) (S := fun w' : World => w'.cell? ⟨Bx, 4 + k, none⟩ = some (.int .i64 nk) ∧ w'.cell? ⟨Bx, 0, none⟩ = some (.int .i64 n0)) (wideF_round l) (by kernel_rfl) (by kernel_rfl) (by rintro ⟨_, _, x⟩; exact x) ⟨xk, x0⟩ (fun hHeld => ?_)
            refine takeG 0 ?_
            refine takeG 1 ?_
            refine takeG 2 ?_
            refine takeG 3 ?_
            refine takeG 4 ?_
            refine takeG 5 ?_
            refine takeG 6 ?_
            refine doneG ?_
            gi_wp2
            go_roundw
            case rel => exact ⟨k + 1, by omega, by go_num, by rw [seenTo, HS.out]; rfl, ⟨HCk.out.drew⟩⟩
            case measure => simp [intOf]; omega
        · obtain rfl : k = D.sp.length := by omega
          have HC4 := HCk
          have HSS : Aside0 (seenTo gx 0 0 D.sp.length = st) := ⟨by rw [HSE.out, HG.out.1, HG.out.2]⟩
          rw [HSS.out]
          clear HCk
          replace H1 := Aside0.mk (HC4.out.heap H1.out id)
          replace H2 := Aside0.mk (HC4.out.heap H2.out id)
          replace H3 := Aside0.mk (HC4.out.heap H3.out id)
          replace H4 := Aside0.mk (HC4.out.heap H4.out id)
          replace HK := Aside0.mk (HK.out.chg HC4.out (fun _ x => x.elim))
          gi_wp2
          have c2 : wr.cell? ⟨B + 1 + 1, 0, none⟩ = some (.int .i64 (encO so)) := (blk_cell H3.out 0).trans rfl
          have c3' : wr.cell? ⟨B + 1 + 1 + 1, 0, none⟩ = some (.int .i64 (ma : Int)) := (blk_cell H4.out 0).trans rfl
          have f2 := blk_frozen H3.out 0
          have f3 := blk_frozen H4.out 0
          have l3 := blk_lt H3.out
          have l4 := blk_lt H4.out
          have hand := and_encO so st HSO.out hst
          have hor := or_i64 ma st HMA.out hst
          refine wpIn_region_G2 [0, 1, 2] [3, 4, 5] (S := fun w' : World => w'.cell? ⟨B + 1 + 1, 0, none⟩ = some (.int .i64 (encO so))) (R := fun w' : World => w'.cell? ⟨B + 1 + 1 + 1, 0, none⟩ = some (.int .i64 (ma : Int))) (wideF_round l) (by kernel_rfl) (by kernel_rfl) (by rintro ⟨_, _, x⟩; exact x) c2 c3' (fun hHeld hHeldR => ?_)
          refine takeG 0 ?_
          refine takeG 1 ?_
          refine takeG 2 ?_
          refine takeRG 3 ?_
          refine takeRG 4 ?_
          refine takeRG 5 ?_
          generalize hse : some (match so with | none => st | some a => a &&& st) = so1 at HSN ⊢
          generalize hme : (ma ||| st) = ma1 at HMN ⊢
          clear hse hme
          refine wpAnyG_late (i := 6) (by kernel_rfl) rfl (by kernel_rfl) (fun K hK => ?_)
          go_simp
          refine hK.out _ _ ((blk_cell (blk_drew (blk_far H4.out (p := ⟨B + 1 + 1, 0, none⟩) (by simp) (.int .i64 (encO so1)))) 0).trans rfl) (fun hHeld => ?_)
          clear hK K
          refine putG ?_
          have g3 := blk_frozen (blk_far H4.out (p := ⟨B + 1 + 1, 0, none⟩) (by simp) (.int .i64 (encO so1))) 0
          have m4 := blk_lt (blk_far H4.out (p := ⟨B + 1 + 1, 0, none⟩) (by simp) (.int .i64 (encO so1)))
          have d3 : (wr.setCell ⟨B + 1 + 1, 0, none⟩ (.int .i64 (encO so1))).cell? ⟨B + 1 + 1 + 1, 0, none⟩ = some (.int .i64 (ma : Int)) := (blk_cell (blk_far H4.out (p := ⟨B + 1 + 1, 0, none⟩) (by simp) (.int .i64 (encO so1))) 0).trans rfl
          refine wpAnyG_last (i := 7) (by kernel_rfl) rfl (by kernel_rfl) (by kernel_rfl) (fun K hK => ?_)
          go_simp
          refine hK.out _ _ ?_
          clear hK K
          refine doneG ?_
          gi_wp2
          have HT : Aside0 (Chg (fun k => k = B + 1 + 1 ∨ k = B + 1 + 1 + 1) wr ((wr.setCell ⟨B + 1 + 1, 0, none⟩ (.int .i64 (encO so1))).setCell ⟨B + 1 + 1 + 1, 0, none⟩ (.int .i64 (ma1 : Int))).drew) := ⟨(((Chg.refl (fun k => k = B + 1 + 1 ∨ k = B + 1 + 1 + 1) wr).setCell (p := ⟨B + 1 + 1, 0, none⟩) (fun _ => .inl rfl) _).setCell (p := ⟨B + 1 + 1 + 1, 0, none⟩) (fun _ => .inr rfl) _).drew⟩
          have HT3 := Aside0.mk ((HC4.out.mono (S' := fun k => k = B + 1 + 1 ∨ k = B + 1 + 1 + 1) (fun _ _ x => x.elim)).trans HT.out)
          exact ⟨_, ⟨rfl, HT.out.heap H1.out (by omega), HT.out.heap H2.out (by omega), by rw [HSN.out]; exact blk_drew (blk_far (blk_set H3.out 0 _) (p := ⟨B + 1 + 1 + 1, 0, none⟩) (by simp) _), by rw [HMN.out]; exact blk_drew (blk_set (blk_far H4.out (p := ⟨B + 1 + 1, 0, none⟩) (by simp) _) 0 _), (H6.out.trans HC4.out).then_ HT.out (fun k hk e => by omega)⟩, HT3.out, HK.out.chg HT.out (fun k e => by omega), fun j e => ⟨by have := HT3.out.size; omega, fun _ => e⟩⟩
    · rintro Fp V ⟨rfl, h1, h2, h3, h4, h6⟩ hok hfD hD hsz
      have H3 := Aside0.mk h3
      have H4 := Aside0.mk h4
      have H6 := Aside0.mk h6
      have HK := Aside0.mk hok
      have HD := Aside0.mk hD
      have HMM : Aside0 (∃ u v, encO (sureO D g y (truthsL D but)) = u ∧ (mayN D g y (truthsL D but) : Int) = v) := ⟨_, _, rfl, rfl⟩
      obtain ⟨u, v, hu, hv⟩ := HMM.out
      rw [hu] at H3
      rw [hv] at H4
      have HU := Aside0.mk (And.intro hu hv)
      clear h1 h2 h3 h4 h6 hok hfD hD hu hv
      have a0 : V.cell? ⟨B + 1 + 1, 0, none⟩ = some (.int .i64 u) := (blk_cell H3.out 0).trans rfl
      have a1 : V.cell? ⟨B + 1 + 1 + 1, 0, none⟩ = some (.int .i64 v) := (blk_cell H4.out 0).trans rfl
      have f0 := blk_frozen H3.out 0
      have f1 := blk_frozen H4.out 0
      have l3 := blk_lt H3.out
      have l4 := blk_lt H4.out
      gi_wp2
      refine wpIn_calm ?_
      refine wpIn_region_G2 [0] [1] (S := fun w' : World => w'.cell? ⟨B + 1 + 1, 0, none⟩ = some (.int .i64 u)) (R := fun w' : World => w'.cell? ⟨B + 1 + 1 + 1, 0, none⟩ = some (.int .i64 v)) wideF (by kernel_rfl) (by kernel_rfl) (by rintro ⟨_, _, x⟩; exact x) a0 a1 (fun hHeld hHeldR => ?_)
      refine takeG 0 ?_
      refine takeRG 1 ?_
      refine wpAnyG_late (i := 2) (by kernel_rfl) rfl (by kernel_rfl) (fun K hK => ?_)
      go_simp
      refine hK.out _ _ ((blk_cell (blk_drew (blk_far H4.out (p := ⟨B + 1 + 1, 0, none⟩) (by simp) (.int .i64 u))) 0).trans rfl) (fun hHeld => ?_)
      clear hK K
      refine putG ?_
      have g1 := blk_frozen (blk_far H4.out (p := ⟨B + 1 + 1, 0, none⟩) (by simp) (.int .i64 u)) 0
      have m4 := blk_lt (blk_far H4.out (p := ⟨B + 1 + 1, 0, none⟩) (by simp) (.int .i64 u))
      have a2 : (V.setCell ⟨B + 1 + 1, 0, none⟩ (.int .i64 u)).cell? ⟨B + 1 + 1 + 1, 0, none⟩ = some (.int .i64 v) := (blk_cell (blk_far H4.out (p := ⟨B + 1 + 1, 0, none⟩) (by simp) (.int .i64 u)) 0).trans rfl
      refine wpAnyG_last (i := 3) (by kernel_rfl) rfl (by kernel_rfl) (by kernel_rfl) (fun K hK => ?_)
      go_simp
      refine hK.out _ _ ?_
      clear hK K
      refine doneG ?_
      dsimp only [calm]
      gi_wp2
      have HB3 := Aside0.mk (blk_drew (blk_far (blk_set H3.out 0 (.int .i64 u)) (p := ⟨B + 1 + 1 + 1, 0, none⟩) (by simp) (.int .i64 v)))
      have HB4 := Aside0.mk (blk_drew (blk_set (blk_far H4.out (p := ⟨B + 1 + 1, 0, none⟩) (by simp) (.int .i64 u)) 0 (.int .i64 v)))
      have HC : Aside0 (Chg (fun k => k = B + 1 + 1 ∨ k = B + 1 + 1 + 1) V ((V.setCell ⟨B + 1 + 1, 0, none⟩ (.int .i64 u)).setCell ⟨B + 1 + 1 + 1, 0, none⟩ (.int .i64 v)).drew) := ⟨(((Chg.refl (fun k => k = B + 1 + 1 ∨ k = B + 1 + 1 + 1) V).setCell (p := ⟨B + 1 + 1, 0, none⟩) (fun _ => .inl rfl) _).setCell (p := ⟨B + 1 + 1 + 1, 0, none⟩) (fun _ => .inr rfl) _).drew⟩
      generalize ((V.setCell ⟨B + 1 + 1, 0, none⟩ (.int .i64 u)).setCell ⟨B + 1 + 1 + 1, 0, none⟩ (.int .i64 v)).drew = V2 at HB3 HB4 HC ⊢
      have HD2 := Aside0.mk (HC.out.heap HD.out (by omega))
      have HC2 := Aside0.mk ((HC.out.mono (S' := fun k => (k = B + 1 + 1 ∨ k = B + 1 + 1 + 1) ∨ k = V1.heap.size) (fun k _ e => .inl e)).putObj (l := V1.heap.size) (fun _ => .inr rfl) (.deferred none))
      refine leave_mark HD2.out (v := .tuple #[.int .i64 u, .int .i64 v]) (results_cell2' rfl _ _ (B + 1 + 1) (B + 1 + 1 + 1) _ _ _ rfl rfl (cell_putObj ((blk_cell HB3.out 0).trans rfl) HD2.out) Try.underlying3 rfl (cell_putObj ((blk_cell HB4.out 0).trans rfl) HD2.out)) ⟨by rw [HU.out.1, HU.out.2], H6.out.then_ HC2.out (fun k hk e => by omega), HK.out.s.chg HC2.out (fun k e => by omega)⟩
  · have ht : (((g : Int) == 0) && (y == 0)) = false := by
      rw [Bool.eq_false_iff]
      intro e
      simp only [Bool.and_eq_true, beq_iff_eq] at e
      exact h1 ⟨by omega, e.2⟩
    have heq : ∀ w, (Op.equalIn 10000 129 (.agg #[.int .i64 (g : Int), .int .i64 y]) (.agg #[.int .i64 0, .int .i64 0])).run Try.prog w = .ok false w := fun w => (t5 w ((g : Int), y) (0, 0)).trans (by rw [ht])
    clear ht
    gi_wp2_with (refine ⟨trivial, rfl, ?_⟩; gi_at_call 96; refine (callsIn_wide.2 (truths_calls _ b)).mono ?_; rintro e w1 ⟨rfl, rfl⟩)
    obtain ⟨V1, hV1⟩ : ∃ V1, (((((W.alloc (.cells #[.pointer (some ⟨b, 0, none⟩)] 110)).alloc (.cells #[.int .i64 g, .int .i64 y] 129)).alloc (.cells #[.int .i64 (-1)] 3)).alloc (.cells #[.int .i64 0] 3)).alloc (.cells #[.pointer (some ⟨b, 0, none⟩)] 110)) = V1 := ⟨_, rfl⟩
    have hch : Chg (fun _ => False) W V1 := by rw [← hV1]; exact (((((Chg.refl _ W).alloc _).alloc _).alloc _).alloc _).alloc _
    have HB0 : Aside0 (V1.heap[W.heap.size]? = some (.cells #[.pointer (some ⟨b, 0, none⟩)] 110 (0, 0))) := ⟨by rw [← hV1]; exact blk_alloc (blk_alloc (blk_alloc (blk_alloc (blk_new _ _) _) _) _) _⟩
    have HB1 : Aside0 (V1.heap[W.heap.size + 1]? = some (.cells #[.int .i64 g, .int .i64 y] 129 (0, 0))) := ⟨by rw [← hV1]; exact blk_alloc (blk_alloc (blk_alloc (new_at (by simp) _) _) _) _⟩
    have HB2 : Aside0 (V1.heap[W.heap.size + 1 + 1]? = some (.cells #[.int .i64 (-1)] 3 (0, 0))) := ⟨by rw [← hV1]; exact blk_alloc (blk_alloc (new_at (by simp) _) _) _⟩
    have HB3 : Aside0 (V1.heap[W.heap.size + 1 + 1 + 1]? = some (.cells #[.int .i64 0] 3 (0, 0))) := ⟨by rw [← hV1]; exact blk_alloc (new_at (by simp) _) _⟩
    have HBs : Aside0 (V1.heap[W.heap.size + 1 + 1 + 1 + 1]? = some (.cells #[.pointer (some ⟨b, 0, none⟩)] 110 (0, 0))) := ⟨by rw [← hV1]; exact new_at (by simp) _⟩
    rw [hV1]
    have HC1 := Aside0.mk hch
    clear hch hV1 heq
    obtain ⟨B, hB⟩ : ∃ B, W.heap.size = B := ⟨_, rfl⟩
    rw [hB] at HB0 HB1 HB2 HB3 HBs hb0 ⊢
    have HOk : Aside0 (Ok w0 D A0 c0 A3 c3 A4 c4 but b (B + 1 + 1 + 1 + 1) V1) := ⟨H.out.chg HC1.out (fun _ x => x.elim), HBs.out⟩
    have z2 := blk_lt HBs.out
    have zb := H.out.base.size
    refine rangeFunc (gf := 127) (lb := #[.pointer (some ⟨B + 1 + 1 + 1 + 1, 0, none⟩)]) rfl enters_truthsC (truthsC_iter w0 V1 D A0 c0 A3 c3 A4 c4 but b (B + 1 + 1 + 1 + 1) hA HV.out hbut ⟨by omega, z2, by omega⟩) (fun _ => rfl)
      (fun pre Fp V => Fp = (fun k => k = B + 1 + 1 ∨ k = B + 1 + 1 + 1) ∧ V.heap[B]? = some (.cells #[.pointer (some ⟨b, 0, none⟩)] 110 (0, 0)) ∧ V.heap[B + 1]? = some (.cells #[.int .i64 g, .int .i64 y] 129 (0, 0)) ∧ V.heap[B + 1 + 1]? = some (.cells #[.int .i64 (encO (sureO D g y pre))] 3 (0, 0)) ∧ V.heap[B + 1 + 1 + 1]? = some (.cells #[.int .i64 (mayN D g y pre)] 3 (0, 0)) ∧ Chg (fun _ => False) W V)
      (fun c pre V => False)
      (fun k => k = B + 1 + 1 ∨ k = B + 1 + 1 + 1) (fun k e => e.elim) (fun A C ho hc => ho.chg hc (fun k hk => by omega)) ?_ (fun c pre A B h => h.elim) ⟨rfl, HB0.out, HB1.out, HB2.out, HB3.out, HC1.out⟩ (fun k e => by omega) HOk.out ?_ ?_ (fun c pre V _ h => h.elim)
    · rintro pre Fp A C ⟨rfl, h1, h2, h3, h4, h6⟩ hc hok
      refine ⟨rfl, hc.heap h1 (fun e => e.elim id (fun e => by omega)), hc.heap h2 (fun e => e.elim id (fun e => by omega)), hc.heap h3 (fun e => e.elim id (fun e => by omega)), hc.heap h4 (fun e => e.elim id (fun e => by omega)), h6.then_ hc (fun k hk hx => hx.elim (fun x => x.elim) (fun x => by omega))⟩
    · rintro l pre x Fp V hl1 hl2 hfl hFp hpre hI hok
      dsimp only [encT]
      gi_wp2
      have HX0 : Aside0 ((V.alloc (.cells (vec8 (fn x)) 126)).heap[V.heap.size]? = some (.cells (vec8 (fn x)) 126 (0, 0))) := ⟨blk_new _ _⟩
      refine ⟨(Chg.refl _ _).alloc _, ?_⟩
      clear hI hok
      rintro V3 hc3 hs3 ⟨rfl, h1, h2, h3, h4, h6⟩ hok
      have HX := Aside0.mk (hc3.heap HX0.out (by omega))
      clear HX0 hc3
      obtain ⟨Bx, hBx⟩ : ∃ Bx, V.heap.size = Bx := ⟨_, rfl⟩
      have z5 : B + 1 + 1 + 1 < Bx := by have := hFp (B + 1 + 1 + 1) (.inr rfl); omega
      clear hFp hs3
      rw [hBx] at HX ⊢
      clear hBx
      have HSN := Aside0.mk (sureO_snoc D g y pre x)
      have HMN := Aside0.mk (mayN_snoc D g y pre x)
      have HSO := Aside0.mk (sureO_lt D hs4 g y pre)
      have HMA := Aside0.mk (mayN_lt D hs4 g y pre)
      have hst := seeL_lt D hs4 g y x
      have HRN : Aside0 (∀ i, 0 ≤ fn x i ∧ fn x i ≤ 60) := ⟨(mem_spans HV.out ((List.mem_filter.1 (hpre.subset (by simp))).1)).2⟩
      have HSE : Aside0 (seeL D g y x = seenTo (fn x) g y D.sp.length) := ⟨rfl⟩
      obtain ⟨st, hste⟩ : ∃ st, seeL D g y x = st := ⟨_, rfl⟩
      rw [hste] at HSN HMN hst HSE
      clear hste
      obtain ⟨so, hso⟩ : ∃ s, sureO D g y pre = s := ⟨_, rfl⟩
      obtain ⟨ma, hma⟩ : ∃ m, mayN D g y pre = m := ⟨_, rfl⟩
      rw [hso] at HSN HSO h3
      rw [hma] at HMN HMA h4
      clear hso hma
      obtain ⟨gx, hgx⟩ : ∃ gx, fn x = gx := ⟨_, rfl⟩
      rw [hgx] at HX HRN HSE
      clear hgx
      have H1 := Aside0.mk h1
      have H2 := Aside0.mk h2
      have H3 := Aside0.mk h3
      have H4 := Aside0.mk h4
      have H6 := Aside0.mk h6
      have HK := Aside0.mk hok
      clear h1 h2 h3 h4 h6 hok
      have t0 : V3.cell? ⟨B, 0, none⟩ = some (.pointer (some ⟨b, 0, none⟩)) := (blk_cell H1.out 0).trans rfl
      have tl := blk_lt H1.out
      have xl := blk_lt HX.out
      have u0 : V3.cell? ⟨B + 1, 0, none⟩ = some (.int .i64 g) := (blk_cell H2.out 0).trans rfl
      have u1 : V3.cell? ⟨B + 1, 1, none⟩ = some (.int .i64 y) := (blk_cell H2.out 1).trans rfl
      have ul := blk_lt H2.out
      have k0 : V3.cell? ⟨Bx, 0, none⟩ = some (.int .i64 (gx 0)) := (blk_cell HX.out 0).trans rfl
      have k1 : V3.cell? ⟨Bx, 1, none⟩ = some (.int .i64 (gx 1)) := (blk_cell HX.out 1).trans rfl
      have k2 : V3.cell? ⟨Bx, 2, none⟩ = some (.int .i64 (gx 2)) := (blk_cell HX.out 2).trans rfl
      have k3 : V3.cell? ⟨Bx, 3, none⟩ = some (.int .i64 (gx 3)) := (blk_cell HX.out 3).trans rfl
      have k4 : V3.cell? ⟨Bx, 4, none⟩ = some (.int .i64 (gx 4)) := (blk_cell HX.out 4).trans rfl
      have k5 : V3.cell? ⟨Bx, 5, none⟩ = some (.int .i64 (gx 5)) := (blk_cell HX.out 5).trans rfl
      have k6 : V3.cell? ⟨Bx, 6, none⟩ = some (.int .i64 (gx 6)) := (blk_cell HX.out 6).trans rfl
      have k7 : V3.cell? ⟨Bx, 7, none⟩ = some (.int .i64 (gx 7)) := (blk_cell HX.out 7).trans rfl
      have kl := blk_lt HX.out
      gi_wp2_with (refine ⟨trivial, rfl, ?_⟩; gi_at_call 97; refine (CallsIn.inRound l (callsIn_wide.2 (seen_calls w0 _ D A0 c0 A3 c3 A4 c4 but b gx g y hs4 HRN.out hg hy0 hy9 HK.out.s))).mono ?_; rw [← HSE.out]; rintro e V4 ⟨rfl, hc4⟩; have HC4 := Aside0.mk hc4; clear hc4)
      replace H1 := Aside0.mk (HC4.out.heap H1.out id)
      replace H2 := Aside0.mk (HC4.out.heap H2.out id)
      replace H3 := Aside0.mk (HC4.out.heap H3.out id)
      replace H4 := Aside0.mk (HC4.out.heap H4.out id)
      replace HK := Aside0.mk (HK.out.chg HC4.out (fun _ x => x.elim))
      have c2 : V4.cell? ⟨B + 1 + 1, 0, none⟩ = some (.int .i64 (encO so)) := (blk_cell H3.out 0).trans rfl
      have c3' : V4.cell? ⟨B + 1 + 1 + 1, 0, none⟩ = some (.int .i64 (ma : Int)) := (blk_cell H4.out 0).trans rfl
      have f2 := blk_frozen H3.out 0
      have f3 := blk_frozen H4.out 0
      have l3 := blk_lt H3.out
      have l4 := blk_lt H4.out
      have hand := and_encO so st HSO.out hst
      have hor := or_i64 ma st HMA.out hst
      refine wpIn_region_G2 [0, 1, 2] [3, 4, 5] (S := fun w' : World => w'.cell? ⟨B + 1 + 1, 0, none⟩ = some (.int .i64 (encO so))) (R := fun w' : World => w'.cell? ⟨B + 1 + 1 + 1, 0, none⟩ = some (.int .i64 (ma : Int))) (wideF_round l) (by kernel_rfl) (by kernel_rfl) (by rintro ⟨_, _, x⟩; exact x) c2 c3' (fun hHeld hHeldR => ?_)
      refine takeG 0 ?_
      refine takeG 1 ?_
      refine takeG 2 ?_
      refine takeRG 3 ?_
      refine takeRG 4 ?_
      refine takeRG 5 ?_
      generalize hse : some (match so with | none => st | some a => a &&& st) = so1 at HSN ⊢
      generalize hme : (ma ||| st) = ma1 at HMN ⊢
      clear hse hme
      refine wpAnyG_late (i := 6) (by kernel_rfl) rfl (by kernel_rfl) (fun K hK => ?_)
      go_simp
      refine hK.out _ _ ((blk_cell (blk_drew (blk_far H4.out (p := ⟨B + 1 + 1, 0, none⟩) (by simp) (.int .i64 (encO so1)))) 0).trans rfl) (fun hHeld => ?_)
      clear hK K
      refine putG ?_
      have g3 := blk_frozen (blk_far H4.out (p := ⟨B + 1 + 1, 0, none⟩) (by simp) (.int .i64 (encO so1))) 0
      have m4 := blk_lt (blk_far H4.out (p := ⟨B + 1 + 1, 0, none⟩) (by simp) (.int .i64 (encO so1)))
      have d3 : (V4.setCell ⟨B + 1 + 1, 0, none⟩ (.int .i64 (encO so1))).cell? ⟨B + 1 + 1 + 1, 0, none⟩ = some (.int .i64 (ma : Int)) := (blk_cell (blk_far H4.out (p := ⟨B + 1 + 1, 0, none⟩) (by simp) (.int .i64 (encO so1))) 0).trans rfl
      refine wpAnyG_last (i := 7) (by kernel_rfl) rfl (by kernel_rfl) (by kernel_rfl) (fun K hK => ?_)
      go_simp
      refine hK.out _ _ ?_
      clear hK K
      refine doneG ?_
      gi_wp2
      have HT : Aside0 (Chg (fun k => k = B + 1 + 1 ∨ k = B + 1 + 1 + 1) V4 ((V4.setCell ⟨B + 1 + 1, 0, none⟩ (.int .i64 (encO so1))).setCell ⟨B + 1 + 1 + 1, 0, none⟩ (.int .i64 (ma1 : Int))).drew) := ⟨(((Chg.refl (fun k => k = B + 1 + 1 ∨ k = B + 1 + 1 + 1) V4).setCell (p := ⟨B + 1 + 1, 0, none⟩) (fun _ => .inl rfl) _).setCell (p := ⟨B + 1 + 1 + 1, 0, none⟩) (fun _ => .inr rfl) _).drew⟩
      have HT3 := Aside0.mk ((HC4.out.mono (S' := fun k => k = B + 1 + 1 ∨ k = B + 1 + 1 + 1) (fun _ _ x => x.elim)).trans HT.out)
      exact ⟨_, ⟨rfl, HT.out.heap H1.out (by omega), HT.out.heap H2.out (by omega), by rw [HSN.out]; exact blk_drew (blk_far (blk_set H3.out 0 _) (p := ⟨B + 1 + 1 + 1, 0, none⟩) (by simp) _), by rw [HMN.out]; exact blk_drew (blk_set (blk_far H4.out (p := ⟨B + 1 + 1, 0, none⟩) (by simp) _) 0 _), (H6.out.trans HC4.out).then_ HT.out (fun k hk e => by omega)⟩, HT3.out, HK.out.chg HT.out (fun k e => by omega), fun j e => ⟨by have := HT3.out.size; omega, fun _ => e⟩⟩
    · rintro Fp V ⟨rfl, h1, h2, h3, h4, h6⟩ hok hfD hD hsz
      have H3 := Aside0.mk h3
      have H4 := Aside0.mk h4
      have H6 := Aside0.mk h6
      have HK := Aside0.mk hok
      have HD := Aside0.mk hD
      have HMM : Aside0 (∃ u v, encO (sureO D g y (truthsL D but)) = u ∧ (mayN D g y (truthsL D but) : Int) = v) := ⟨_, _, rfl, rfl⟩
      obtain ⟨u, v, hu, hv⟩ := HMM.out
      rw [hu] at H3
      rw [hv] at H4
      have HU := Aside0.mk (And.intro hu hv)
      clear h1 h2 h3 h4 h6 hok hfD hD hu hv
      have a0 : V.cell? ⟨B + 1 + 1, 0, none⟩ = some (.int .i64 u) := (blk_cell H3.out 0).trans rfl
      have a1 : V.cell? ⟨B + 1 + 1 + 1, 0, none⟩ = some (.int .i64 v) := (blk_cell H4.out 0).trans rfl
      have f0 := blk_frozen H3.out 0
      have f1 := blk_frozen H4.out 0
      have l3 := blk_lt H3.out
      have l4 := blk_lt H4.out
      gi_wp2
      refine wpIn_calm ?_
      refine wpIn_region_G2 [0] [1] (S := fun w' : World => w'.cell? ⟨B + 1 + 1, 0, none⟩ = some (.int .i64 u)) (R := fun w' : World => w'.cell? ⟨B + 1 + 1 + 1, 0, none⟩ = some (.int .i64 v)) wideF (by kernel_rfl) (by kernel_rfl) (by rintro ⟨_, _, x⟩; exact x) a0 a1 (fun hHeld hHeldR => ?_)
      refine takeG 0 ?_
      refine takeRG 1 ?_
      refine wpAnyG_late (i := 2) (by kernel_rfl) rfl (by kernel_rfl) (fun K hK => ?_)
      go_simp
      refine hK.out _ _ ((blk_cell (blk_drew (blk_far H4.out (p := ⟨B + 1 + 1, 0, none⟩) (by simp) (.int .i64 u))) 0).trans rfl) (fun hHeld => ?_)
      clear hK K
      refine putG ?_
      have g1 := blk_frozen (blk_far H4.out (p := ⟨B + 1 + 1, 0, none⟩) (by simp) (.int .i64 u)) 0
      have m4 := blk_lt (blk_far H4.out (p := ⟨B + 1 + 1, 0, none⟩) (by simp) (.int .i64 u))
      have a2 : (V.setCell ⟨B + 1 + 1, 0, none⟩ (.int .i64 u)).cell? ⟨B + 1 + 1 + 1, 0, none⟩ = some (.int .i64 v) := (blk_cell (blk_far H4.out (p := ⟨B + 1 + 1, 0, none⟩) (by simp) (.int .i64 u)) 0).trans rfl
      refine wpAnyG_last (i := 3) (by kernel_rfl) rfl (by kernel_rfl) (by kernel_rfl) (fun K hK => ?_)
      go_simp
      refine hK.out _ _ ?_
      clear hK K
      refine doneG ?_
      dsimp only [calm]
      gi_wp2
      have HB3 := Aside0.mk (blk_drew (blk_far (blk_set H3.out 0 (.int .i64 u)) (p := ⟨B + 1 + 1 + 1, 0, none⟩) (by simp) (.int .i64 v)))
      have HB4 := Aside0.mk (blk_drew (blk_set (blk_far H4.out (p := ⟨B + 1 + 1, 0, none⟩) (by simp) (.int .i64 u)) 0 (.int .i64 v)))
      have HC : Aside0 (Chg (fun k => k = B + 1 + 1 ∨ k = B + 1 + 1 + 1) V ((V.setCell ⟨B + 1 + 1, 0, none⟩ (.int .i64 u)).setCell ⟨B + 1 + 1 + 1, 0, none⟩ (.int .i64 v)).drew) := ⟨(((Chg.refl (fun k => k = B + 1 + 1 ∨ k = B + 1 + 1 + 1) V).setCell (p := ⟨B + 1 + 1, 0, none⟩) (fun _ => .inl rfl) _).setCell (p := ⟨B + 1 + 1 + 1, 0, none⟩) (fun _ => .inr rfl) _).drew⟩
      generalize ((V.setCell ⟨B + 1 + 1, 0, none⟩ (.int .i64 u)).setCell ⟨B + 1 + 1 + 1, 0, none⟩ (.int .i64 v)).drew = V2 at HB3 HB4 HC ⊢
      have HD2 := Aside0.mk (HC.out.heap HD.out (by omega))
      have HC2 := Aside0.mk ((HC.out.mono (S' := fun k => (k = B + 1 + 1 ∨ k = B + 1 + 1 + 1) ∨ k = V1.heap.size) (fun k _ e => .inl e)).putObj (l := V1.heap.size) (fun _ => .inr rfl) (.deferred none))
      refine leave_mark HD2.out (v := .tuple #[.int .i64 u, .int .i64 v]) (results_cell2' rfl _ _ (B + 1 + 1) (B + 1 + 1 + 1) _ _ _ rfl rfl (cell_putObj ((blk_cell HB3.out 0).trans rfl) HD2.out) Try.underlying3 rfl (cell_putObj ((blk_cell HB4.out 0).trans rfl) HD2.out)) ⟨by rw [HU.out.1, HU.out.2], H6.out.then_ HC2.out (fun k hk e => by omega), HK.out.s.chg HC2.out (fun k e => by omega)⟩
end Go.Proofs.Ytgoidclnccjdeaa.D
end
section
/- Package glass: told, Larger. -/
namespace Go.Proofs.Ytgoidclnccjdeaa.D
open Go Go.RowKit Go.Proofs.YtgoidclnccjdeaaK Go.Proofs.YtgoidclnccjdeaaW.PrintWords Go.Proofs.YtgoidclnccjdeaaW.PrintLast Go.Proofs.YtgoidclnccjdeaaW.PrintMore Go.Proofs.Ytgoidclnccjdeaa.PR Go.Proofs.Ytgoidclnccjdeaa.M
set_option linter.unusedVariables false
set_option linter.unusedSimpArgs false
attribute [local go_sem] Oper.semAt_some

theorem prodL_len : ∀ l : List (Int × Int), (∀ s ∈ l, s.2 - s.1 ≤ 2) → (prodL l).length ≤ 3 ^ l.length
  | [], _ => by simp [prodL]
  | s :: r, h => by
    have ih := prodL_len r (fun x hx => h x (List.mem_cons_of_mem _ hx))
    have hs := h s (List.mem_cons_self ..)
    have hr : (rng s.1 s.2).length ≤ 3 := by rw [rng_len]; omega
    have key : ∀ l : List Int, (l.flatMap fun x => (prodL r).map (x :: ·)).length = l.length * (prodL r).length := by
      intro l
      induction l with
      | nil => simp
      | cons x t iht => simp [iht, Nat.add_mul, Nat.add_comm]
    unfold prodL
    rw [key, List.length_cons, Nat.pow_succ, Nat.mul_comm (3 ^ r.length)]
    exact Nat.mul_le_mul hr ih
theorem spanF_wide {D : Dat} (h : Valid D) (k : Nat) : (spanF D k).2 - (spanF D k).1 ≤ 2 := by
  unfold spanF
  split
  · next h1 => have := h.gl k h1; simp only; omega
  · split
    · have := h.du; simp only; omega
    · split
      · next h3 => have := h.sp (k - 4) (by omega); simp only; omega
      · simp
theorem truthsL_len {D : Dat} (hV : Valid D) (but : Nat) : (truthsL D but).length ≤ 6561 := by
  have h1 := prodL_len (spansL D) (fun s hs => by
    obtain ⟨k, _, rfl⟩ := List.mem_map.1 hs
    exact spanF_wide hV k)
  rw [spansL_len] at h1
  have h2 := List.length_filter_le (fun l => soB D but (fn l)) (prodL (spansL D))
  unfold truthsL
  omega
def toldF (yes all : Int) : Int := if yes = all then 1 else if yes = 0 then 2 else 0
def cntL (Q : (Nat → Int) → Bool) (l : List (List Int)) : Nat := l.countP fun x => Q (fn x)
theorem cntL_snoc (Q : (Nat → Int) → Bool) (l : List (List Int)) (x : List Int) : cntL Q (l ++ [x]) = cntL Q l + if Q (fn x) = true then 1 else 0 := by
  simp [cntL, List.countP_append, List.countP_cons]
structure Asks (n0 f : Nat) (caps : Array Value) (CQ : World → Prop) (Q : (Nat → Int) → Bool) : Prop where
  enters : ∀ args w, (callFunc f args).run Try.prog w = .ok (.enter f args) w
  calls : ∀ g V, CQ V → Calls Try.prog f (#[.agg (vec8 g)] ++ caps) V fun e V' => e = .returned (.bool (Q g)) ∧ Chg (fun _ => False) V V'
  stable : ∀ A B S, CQ A → Chg S A B → (∀ k, S k → n0 ≤ k) → CQ B

set_option maxRecDepth 100000 in
set_option maxHeartbeats 1000000 in
theorem told_calls (w0 W : World) (D : Dat) (A0 : Option Addr) (c0 : Nat) (A3 : Option Addr) (c3 : Nat) (A4 : Option Addr) (c4 : Nat) (but b f : Nat) (caps : Array Value) (CQ : World → Prop) (Q : (Nat → Int) → Bool)
    (hA : Arg w0 D A0 c0 A3 c3 A4 c4) (hV : Valid D) (hbut : but < 2 ^ 62) (h : Sh w0 W D A0 c0 A3 c3 A4 c4 but b) (hq : Asks W.heap.size f caps CQ Q) (hcq : CQ W) :
    Calls Try.prog 103 #[.pointer (some ⟨b, 0, none⟩), .agg #[.func (.func f) #[] caps]] W
      fun e W' => e = .returned (.int .i64 (toldF (cntL Q (truthsL D but)) (truthsL D but).length)) ∧ Chg (fun _ => False) W W' ∧ Sh w0 W' D A0 c0 A3 c3 A4 c4 but b := by
  have H := Aside0.mk h
  have hb0 := blk_lt h.sh
  have he := hq.enters
  have HQ := Aside0.mk hq
  have HLEN := Aside0.mk (truthsL_len hV but)
  clear h hq
  refine (callsIn_wide (n := 0)).1 ?_
  refine callsIn_of_wp_marks Try.func103 rfl trivial ?_
  simp only [Try.ntmps103, List.size_toArray, List.length_cons, List.length_nil, Nat.reduceAdd, Nat.reduceSub, Array.replicate_succ, Array.replicate_zero, List.push_toArray, List.append_toArray, List.nil_append, List.cons_append]
  gi_wp2_with (refine ⟨trivial, rfl, ?_⟩; gi_at_call 96; refine (callsIn_wide.2 (truths_calls _ b)).mono ?_; rintro e w1 ⟨rfl, rfl⟩)
  obtain ⟨V1, hV1⟩ : ∃ V1, ((((W.alloc (.cells #[.func (.func f) #[] caps] 139)).alloc (.cells #[.int .i64 0] 3)).alloc (.cells #[.int .i64 0] 3)).alloc (.cells #[.pointer (some ⟨b, 0, none⟩)] 110)) = V1 := ⟨_, rfl⟩
  have hch : Chg (fun _ => False) W V1 := by rw [← hV1]; exact ((((Chg.refl _ W).alloc _).alloc _).alloc _).alloc _
  have HB0 : Aside0 (V1.heap[W.heap.size]? = some (.cells #[.func (.func f) #[] caps] 139 (0, 0))) := ⟨by rw [← hV1]; exact blk_alloc (blk_alloc (blk_alloc (blk_new _ _) _) _) _⟩
  have HB1 : Aside0 (V1.heap[W.heap.size + 1]? = some (.cells #[.int .i64 0] 3 (0, 0))) := ⟨by rw [← hV1]; exact blk_alloc (blk_alloc (new_at (by simp) _) _) _⟩
  have HB2 : Aside0 (V1.heap[W.heap.size + 1 + 1]? = some (.cells #[.int .i64 0] 3 (0, 0))) := ⟨by rw [← hV1]; exact blk_alloc (new_at (by simp) _) _⟩
  have HBs : Aside0 (V1.heap[W.heap.size + 1 + 1 + 1]? = some (.cells #[.pointer (some ⟨b, 0, none⟩)] 110 (0, 0))) := ⟨by rw [← hV1]; exact new_at (by simp) _⟩
  rw [hV1]
  have HC1 := Aside0.mk hch
  have HCQ := Aside0.mk (HQ.out.stable _ _ _ hcq hch (fun _ x => x.elim))
  clear hch hV1
  obtain ⟨B, hB⟩ : ∃ B, W.heap.size = B := ⟨_, rfl⟩
  rw [hB] at HB0 HB1 HB2 HBs hb0 HQ ⊢
  have HOk : Aside0 (Ok w0 D A0 c0 A3 c3 A4 c4 but b (B + 1 + 1 + 1) V1) := ⟨H.out.chg HC1.out (fun _ x => x.elim), HBs.out⟩
  have z2 := blk_lt HBs.out
  have zb := H.out.base.size
  refine rangeFunc (gf := 127) (lb := #[.pointer (some ⟨B + 1 + 1 + 1, 0, none⟩)]) rfl enters_truthsC (truthsC_iter w0 V1 D A0 c0 A3 c3 A4 c4 but b (B + 1 + 1 + 1) hA hV hbut ⟨by omega, z2, by omega⟩) (fun _ => rfl)
    (fun pre Fp V => Fp = (fun k => k = B + 1 ∨ k = B + 1 + 1) ∧ V.heap[B]? = some (.cells #[.func (.func f) #[] caps] 139 (0, 0)) ∧ V.heap[B + 1]? = some (.cells #[.int .i64 (cntL Q pre)] 3 (0, 0)) ∧ V.heap[B + 1 + 1]? = some (.cells #[.int .i64 pre.length] 3 (0, 0)) ∧ Chg (fun _ => False) W V ∧ CQ V)
    (fun c pre V => False)
    (fun k => k = B + 1 ∨ k = B + 1 + 1) (fun k e => e.elim) (fun A C ho hc => ho.chg hc (fun k hk => by omega)) ?_ (fun c pre A B h => h.elim) ⟨rfl, HB0.out, HB1.out, HB2.out, HC1.out, HCQ.out⟩ (fun k e => by omega) HOk.out ?_ ?_ (fun c pre V _ h => h.elim)
  · rintro pre Fp A C ⟨rfl, h1, h2, h3, h4, h5⟩ hc hok
    exact ⟨rfl, hc.heap h1 (fun e => e.elim id (fun e => by omega)), hc.heap h2 (fun e => e.elim id (fun e => by omega)), hc.heap h3 (fun e => e.elim id (fun e => by omega)), h4.then_ hc (fun k hk hx => hx.elim (fun x => x.elim) (fun x => by omega)), HQ.out.stable _ _ _ h5 hc (fun k hx => hx.elim (fun x => x.elim) (fun x => by omega))⟩
  · rintro l pre x Fp V hl1 hl2 hfl hFp hpre hI hok
    dsimp only [encT]
    gi_wp2
    have HX0 : Aside0 ((V.alloc (.cells (vec8 (fn x)) 126)).heap[V.heap.size]? = some (.cells (vec8 (fn x)) 126 (0, 0))) := ⟨blk_new _ _⟩
    refine ⟨(Chg.refl _ _).alloc _, ?_⟩
    clear hI hok
    rintro V3 hc3 hs3 ⟨rfl, h1, h2, h3, h4, h5⟩ hok
    have HX := Aside0.mk (hc3.heap HX0.out (by omega))
    clear HX0 hc3
    obtain ⟨Bx, hBx⟩ : ∃ Bx, V.heap.size = Bx := ⟨_, rfl⟩
    have z5 : B + 1 + 1 < Bx := by have := hFp (B + 1 + 1) (.inr rfl); omega
    clear hFp hs3
    rw [hBx] at HX ⊢
    clear hBx
    have HCN := Aside0.mk (cntL_snoc Q pre x)
    have hcn : cntL Q pre ≤ pre.length := List.countP_le_length
    have hpl : pre.length < 6561 := by
      have h1 := hpre.length_le
      have h2 := HLEN.out
      simp at h1; omega
    obtain ⟨gx, hgx⟩ : ∃ gx, fn x = gx := ⟨_, rfl⟩
    rw [hgx] at HX HCN
    clear hgx
    have H1 := Aside0.mk h1
    have H2 := Aside0.mk h2
    have H3 := Aside0.mk h3
    have H4 := Aside0.mk h4
    have H5 := Aside0.mk h5
    have HK := Aside0.mk hok
    clear h1 h2 h3 h4 h5 hok
    obtain ⟨cn, hcne⟩ : ∃ c, cntL Q pre = c := ⟨_, rfl⟩
    rw [hcne] at HCN hcn H2
    clear hcne
    have a0 : V3.cell? ⟨B, 0, none⟩ = some (.func (.func f) #[] caps) := (blk_cell H1.out 0).trans rfl
    have a2 : V3.cell? ⟨B + 1 + 1, 0, none⟩ = some (.int .i64 pre.length) := (blk_cell H3.out 0).trans rfl
    have f2 := blk_frozen H3.out 0
    have l1 := blk_lt H1.out
    have l3 := blk_lt H3.out
    have lx := blk_lt HX.out
    have hcv : Chg (fun k => k = B + 1 + 1) V3 (V3.setCell ⟨B + 1 + 1, 0, none⟩ (.int .i64 ((pre.length : Int) + 1))) := (Chg.refl (fun k => k = B + 1 + 1) V3).setCell (p := ⟨B + 1 + 1, 0, none⟩) (fun _ => rfl) _
    have HX4 := Aside0.mk (hcv.heap HX.out (by omega))
    have HQ4 := Aside0.mk (HQ.out.stable _ _ _ H5.out hcv (fun k e => by omega))
    have H34 := Aside0.mk (blk_set H3.out 0 (.int .i64 ((pre.length : Int) + 1)))
    have H24 := Aside0.mk (hcv.heap H2.out (by omega))
    have H14 := Aside0.mk (hcv.heap H1.out (by omega))
    have HCV := Aside0.mk hcv
    clear hcv
    have k0 : (V3.setCell ⟨B + 1 + 1, 0, none⟩ (.int .i64 ((pre.length : Int) + 1))).cell? ⟨Bx, 0, none⟩ = some (.int .i64 (gx 0)) := (blk_cell HX4.out 0).trans rfl
    have k1 : (V3.setCell ⟨B + 1 + 1, 0, none⟩ (.int .i64 ((pre.length : Int) + 1))).cell? ⟨Bx, 1, none⟩ = some (.int .i64 (gx 1)) := (blk_cell HX4.out 1).trans rfl
    have k2 : (V3.setCell ⟨B + 1 + 1, 0, none⟩ (.int .i64 ((pre.length : Int) + 1))).cell? ⟨Bx, 2, none⟩ = some (.int .i64 (gx 2)) := (blk_cell HX4.out 2).trans rfl
    have k3 : (V3.setCell ⟨B + 1 + 1, 0, none⟩ (.int .i64 ((pre.length : Int) + 1))).cell? ⟨Bx, 3, none⟩ = some (.int .i64 (gx 3)) := (blk_cell HX4.out 3).trans rfl
    have k4 : (V3.setCell ⟨B + 1 + 1, 0, none⟩ (.int .i64 ((pre.length : Int) + 1))).cell? ⟨Bx, 4, none⟩ = some (.int .i64 (gx 4)) := (blk_cell HX4.out 4).trans rfl
    have k5 : (V3.setCell ⟨B + 1 + 1, 0, none⟩ (.int .i64 ((pre.length : Int) + 1))).cell? ⟨Bx, 5, none⟩ = some (.int .i64 (gx 5)) := (blk_cell HX4.out 5).trans rfl
    have k6 : (V3.setCell ⟨B + 1 + 1, 0, none⟩ (.int .i64 ((pre.length : Int) + 1))).cell? ⟨Bx, 6, none⟩ = some (.int .i64 (gx 6)) := (blk_cell HX4.out 6).trans rfl
    have k7 : (V3.setCell ⟨B + 1 + 1, 0, none⟩ (.int .i64 ((pre.length : Int) + 1))).cell? ⟨Bx, 7, none⟩ = some (.int .i64 (gx 7)) := (blk_cell HX4.out 7).trans rfl
    have kl := blk_lt HX4.out
    have b0 : (V3.setCell ⟨B + 1 + 1, 0, none⟩ (.int .i64 ((pre.length : Int) + 1))).cell? ⟨B, 0, none⟩ = some (.func (.func f) #[] caps) := (blk_cell H14.out 0).trans rfl
    obtain ⟨qg, hqg⟩ : ∃ qg, Q gx = qg := ⟨_, rfl⟩
    have HQG := Aside0.mk hqg
    rw [hqg] at HCN
    clear hqg
    gi_wp2_with (refine ⟨trivial, rfl, ?_⟩; refine (CallsIn.inRound l (callsIn_wide.2 (HQ.out.calls gx _ HQ4.out))).mono ?_; rw [HQG.out]; rintro e V4 ⟨rfl, hc4⟩; have HC4 := Aside0.mk hc4; clear hc4; have HC3 := Aside0.mk ((HCV.out.mono (S' := fun k => k = B + 1 ∨ k = B + 1 + 1) (fun k _ e => .inr e)).trans (HC4.out.mono (fun _ _ x => x.elim))); have H15 := Aside0.mk (HC4.out.heap H14.out id); have H25 := Aside0.mk (HC4.out.heap H24.out id); have H35 := Aside0.mk (HC4.out.heap H34.out id); have HQ5 := Aside0.mk (HQ.out.stable _ _ _ HQ4.out HC4.out (fun _ x => x.elim)); have HK5 := Aside0.mk (HK.out.chg HC3.out (fun k e => by omega)); have y1 : V4.cell? ⟨B + 1, 0, none⟩ = some (.int .i64 cn) := (blk_cell H25.out 0).trans rfl; have fy := blk_frozen H25.out 0; have ly := blk_lt H25.out; cases qg)
    · gi_wp2
      exact ⟨_, ⟨rfl, H15.out, by rw [HCN.out]; exact H25.out, by rw [List.length_append]; exact H35.out, H4.out.then_ HC3.out (fun k hk e => by omega), HQ5.out⟩, HC3.out, HK5.out, fun j e => ⟨by have := HC3.out.size; omega, fun _ => e⟩⟩
    · gi_wp2
      have HC6 := Aside0.mk (HC3.out.setCell (p := ⟨B + 1, 0, none⟩) (fun _ => .inl rfl) (.int .i64 ((cn : Int) + 1)))
      have hc7 := (Chg.refl (fun k => k = B + 1) V4).setCell (p := ⟨B + 1, 0, none⟩) (fun _ => rfl) (.int .i64 ((cn : Int) + 1))
      exact ⟨_, ⟨rfl, hc7.heap H15.out (by omega), by rw [HCN.out]; exact blk_set H25.out 0 _, by rw [List.length_append]; exact hc7.heap H35.out (by omega), H4.out.then_ HC6.out (fun k hk e => by omega), HQ.out.stable _ _ _ HQ5.out hc7 (fun k e => by omega)⟩, HC6.out, HK.out.chg HC6.out (fun k e => by omega), fun j e => ⟨by have := HC6.out.size; omega, fun _ => e⟩⟩
  · rintro Fp V ⟨rfl, h1, h2, h3, h4, h5⟩ hok hfD hD hsz
    have H2 := Aside0.mk h2
    have H3 := Aside0.mk h3
    have H4 := Aside0.mk h4
    have HK := Aside0.mk hok
    have HD := Aside0.mk hD
    obtain ⟨cn, hcn⟩ : ∃ c, cntL Q (truthsL D but) = c := ⟨_, rfl⟩
    obtain ⟨al, hal⟩ : ∃ c, (truthsL D but).length = c := ⟨_, rfl⟩
    rw [hcn] at H2
    rw [hal] at H3
    have HR : Aside0 (∀ r, toldF cn al = r → toldF (cntL Q (truthsL D but)) (truthsL D but).length = r) := ⟨fun r hr => by rw [hcn, hal]; exact hr⟩
    clear h1 h2 h3 h4 h5 hok hfD hD hcn hal
    have a1 : V.cell? ⟨B + 1, 0, none⟩ = some (.int .i64 cn) := (blk_cell H2.out 0).trans rfl
    have a2 : V.cell? ⟨B + 1 + 1, 0, none⟩ = some (.int .i64 al) := (blk_cell H3.out 0).trans rfl
    have l2 := blk_lt H2.out
    have l3 := blk_lt H3.out
    have HC2 := Aside0.mk ((Chg.refl (fun k => k = V1.heap.size) V).putObj (l := V1.heap.size) (fun _ => rfl) (.deferred none))
    by_cases e1 : cn = al
    · have e1' : ((cn : Int) == (al : Int)) = true := beq_iff_eq.2 (by omega)
      have hr := HR.out 1 (by rw [toldF, if_pos (by omega)])
      have HRR := Aside0.mk hr
      clear hr e1
      gi_wp2
      refine leave_mark HD.out (v := .int .i64 1) ((results_tmp rfl _ _ _).trans rfl) ⟨by rw [HRR.out], H4.out.then_ HC2.out (fun k hk e => by omega), HK.out.s.chg HC2.out (fun k e => by omega)⟩
    · have e1' : ((cn : Int) == (al : Int)) = false := beq_eq_false_iff_ne.2 (by omega)
      by_cases e2 : cn = 0
      · have e2' : ((cn : Int) == 0) = true := beq_iff_eq.2 (by omega)
        have hr := HR.out 2 (by rw [toldF, if_neg (by omega), if_pos (by omega)])
        have HRR := Aside0.mk hr
        clear hr e1 e2
        gi_wp2
        refine leave_mark HD.out (v := .int .i64 2) ((results_tmp rfl _ _ _).trans rfl) ⟨by rw [HRR.out], H4.out.then_ HC2.out (fun k hk e => by omega), HK.out.s.chg HC2.out (fun k e => by omega)⟩
      · have e2' : ((cn : Int) == 0) = false := beq_eq_false_iff_ne.2 (by omega)
        have hr := HR.out 0 (by rw [toldF, if_neg (by omega), if_neg (by omega)])
        have HRR := Aside0.mk hr
        clear hr e1 e2
        gi_wp2
        refine leave_mark HD.out (v := .int .i64 0) ((results_tmp rfl _ _ _).trans rfl) ⟨by rw [HRR.out], H4.out.then_ HC2.out (fun k hk e => by omega), HK.out.s.chg HC2.out (fun k e => by omega)⟩

def largerQ (a b : Nat) (n : Nat → Int) : Bool := decide (n (4 + b) < n (4 + a))
set_option maxRecDepth 100000 in
set_option maxHeartbeats 400000 in
theorem LargerC_calls (g : Nat → Int) (a b Ba Bb : Nat) (w : World) (ha : a < 4) (hb : b < 4) (h1 : w.heap[Ba]? = some (.cells #[.int .i64 a] 3 (0, 0))) (h2 : w.heap[Bb]? = some (.cells #[.int .i64 b] 3 (0, 0))) :
    Calls Try.prog 104 #[.agg (vec8 g), .pointer (some ⟨Ba, 0, none⟩), .pointer (some ⟨Bb, 0, none⟩)] w fun e w' => e = .returned (.bool (largerQ a b g)) ∧ Chg (fun _ => False) w w' := by
  have HX : Aside0 ((w.alloc (.cells (vec8 g) 126)).heap[w.heap.size]? = some (.cells (vec8 g) 126 (0, 0))) := ⟨blk_new _ _⟩
  have HA := Aside0.mk (blk_alloc h1 (.cells (vec8 g) 126))
  have HB := Aside0.mk (blk_alloc h2 (.cells (vec8 g) 126))
  have HC : Aside0 (Chg (fun _ => False) w (w.alloc (.cells (vec8 g) 126))) := ⟨(Chg.refl _ w).alloc _⟩
  clear h1 h2
  go_enter Try.func104, Try.ntmps104
  go_upto_region 1 with (fail)
  obtain ⟨Bx, hBx⟩ : ∃ Bx, w.heap.size = Bx := ⟨_, rfl⟩
  rw [hBx] at HX ⊢
  clear hBx
  generalize w.alloc (.cells (vec8 g) 126) = W1 at HX HA HB HC ⊢
  have a0 : W1.cell? ⟨Ba, 0, none⟩ = some (.int .i64 a) := (blk_cell HA.out 0).trans rfl
  have b0 : W1.cell? ⟨Bb, 0, none⟩ = some (.int .i64 b) := (blk_cell HB.out 0).trans rfl
  have hxa : W1.cell? ⟨Bx, 4 + a, none⟩ = some (.int .i64 (g (4 + a))) := (blk_cell HX.out (4 + a)).trans (vec_get g (4 + a) (by omega))
  have hxb : W1.cell? ⟨Bx, 4 + b, none⟩ = some (.int .i64 (g (4 + b))) := (blk_cell HX.out (4 + b)).trans (vec_get g (4 + b) (by omega))
  have e4 : (4 + (a : Int)).toNat = 4 + a := by omega
  have e5 : (4 + (b : Int)).toNat = 4 + b := by omega
  have i1 : 4 + (a : Int) < 8 := by omega
  have i2 : 4 + (b : Int) < 8 := by omega
  have i3 : 0 ≤ 4 + (a : Int) := by omega
  have i4 : 0 ≤ 4 + (b : Int) := by omega
  have w1 : IntKind.i64.wrap (4 + (a : Int)) = 4 + (a : Int) := by rw [i64_w]; unfold wrap64; omega
  have w2 : IntKind.i64.wrap (4 + (b : Int)) = 4 + (b : Int) := by rw [i64_w]; unfold wrap64; omega
  have HE : Aside0 (largerQ a b g = decide (g (4 + b) < g (4 + a))) := ⟨rfl⟩
  obtain ⟨ga, hga⟩ : ∃ x, g (4 + a) = x := ⟨_, rfl⟩
  obtain ⟨gb, hgb⟩ : ∃ x, g (4 + b) = x := ⟨_, rfl⟩
  rw [hga] at hxa HE
  rw [hgb] at hxb HE
  clear hga hgb
  refine wp_region_G (List.range 20) (S := fun w' : World => w'.cell? ⟨Ba, 0, none⟩ = some (.int .i64 a) ∧ w'.cell? ⟨Bb, 0, none⟩ = some (.int .i64 b) ∧ w'.cell? ⟨Bx, 4 + a, none⟩ = some (.int .i64 ga) ∧ w'.cell? ⟨Bx, 4 + b, none⟩ = some (.int .i64 gb)) (by kernel_rfl) ⟨a0, b0, hxa, hxb⟩ (fun hHeld => ?_)
  refine takeG 0 ?_
  refine takeG 1 ?_
  refine takeG 2 ?_
  refine takeG 3 ?_
  refine takeG 4 ?_
  refine takeG 5 ?_
  refine takeG 6 ?_
  refine takeG 7 ?_
  refine takeG 8 ?_
  refine takeG 9 ?_
  refine doneG ?_
  go_wp2
  go_ret
  exact ⟨by rw [HE.out]; rfl, HC.out.drew⟩
theorem enters_LargerC (args : Array Value) (w : World) : (callFunc 104 args).run Try.prog w = .ok (.enter 104 args) w := enters_of Try.func104 (by kernel_rfl) rfl args w
theorem largerAsks (n0 Ba Bb a b : Nat) (ha : a < 4) (hb : b < 4) (h1 : Ba < n0) (h3 : Bb < n0) :
    Asks n0 104 #[.pointer (some ⟨Ba, 0, none⟩), .pointer (some ⟨Bb, 0, none⟩)] (fun V => V.heap[Ba]? = some (.cells #[.int .i64 a] 3 (0, 0)) ∧ V.heap[Bb]? = some (.cells #[.int .i64 b] 3 (0, 0))) (largerQ a b) where
  enters := enters_LargerC
  calls := fun g V hV => LargerC_calls g a b Ba Bb V ha hb hV.1 hV.2
  stable := fun A B S h hc hs => ⟨hc.heap h.1 (fun hx => by have := hs _ hx; omega), hc.heap h.2 (fun hx => by have := hs _ hx; omega)⟩
def askTwo (D : Dat) (a b : Int) : List (Bool × Int) := [(amongB D.sp.length [a, b], 4), (a != b, 2)]
def largerF (D : Dat) (a b : Int) : Int := if enterE D (askTwo D a b) = 0 then toldF (cntL (largerQ a.toNat b.toNat) (truthsL D 0)) (truthsL D 0).length else 0
theorem askTwo_ok {D : Dat} {a b : Int} (h : askE (askTwo D a b) = 0) : 0 ≤ a ∧ a < D.sp.length ∧ 0 ≤ b ∧ b < D.sp.length ∧ a ≠ b := by
  unfold askTwo at h
  by_cases h1 : outB 0 ((D.sp.length : Int) - 1) [a, b] = false
  · have h2 := h1
    simp only [outB_cons] at h2
    obtain ⟨⟨x1, x2⟩, ⟨x3, x4⟩, _⟩ := h2
    refine ⟨by omega, by omega, by omega, by omega, fun e => ?_⟩
    subst e
    simp [askE, amongB, h1] at h
  · simp [askE, amongB, h1] at h
set_option maxRecDepth 100000 in
set_option maxHeartbeats 1000000 in
theorem Larger_calls (D : Dat) (A0 : Option Addr) (c0 : Nat) (A3 : Option Addr) (c3 : Nat) (A4 : Option Addr) (c4 : Nat) (a b : Int) (w : World) (h : Arg w D A0 c0 A3 c3 A4 c4) :
    Calls Try.prog 31 #[.agg (D.cells A0 c0 A3 c3 A4 c4), .int .i64 a, .int .i64 b] w
      fun e w' => e = .returned (.tuple #[.int .i64 (largerF D a b), .int .i64 (enterE D (askTwo D a b))]) ∧ Below w.heap.size w w' := by
  have HX := Aside0.mk (blk_alloc (blk_alloc (blk_new w (.cells (D.cells A0 c0 A3 c3 A4 c4) 28)) (.cells #[.int .i64 a] 3)) (.cells #[.int .i64 b] 3))
  have HY := Aside0.mk (blk_alloc (new_at (W := w.alloc (.cells (D.cells A0 c0 A3 c3 A4 c4) 28)) (n := w.heap.size + 1) (by simp) (.cells #[.int .i64 a] 3)) (.cells #[.int .i64 b] 3))
  have HZ := Aside0.mk (new_at (W := (w.alloc (.cells (D.cells A0 c0 A3 c3 A4 c4) 28)).alloc (.cells #[.int .i64 a] 3)) (n := w.heap.size + 1 + 1) (by simp) (.cells #[.int .i64 b] 3))
  have HB := Aside0.mk (below_alloc (below_alloc (below_alloc (Below.refl w.heap.size w) (.cells (D.cells A0 c0 A3 c3 A4 c4) 28)) (.cells #[.int .i64 a] 3)) (.cells #[.int .i64 b] 3))
  have HA := Aside0.mk (h.below HB.out)
  have hlen : D.sp.length ≤ 9223372036854775807 := h.s.2.1
  clear h
  obtain ⟨f, hf⟩ : ∃ f, largerF D a b = f := ⟨_, rfl⟩
  have HF := Aside0.mk hf
  rw [hf]
  clear hf
  go_enter Try.func31, Try.ntmps31
  go_upto_region 1 with (fail)
  generalize ((w.alloc (.cells (D.cells A0 c0 A3 c3 A4 c4) 28)).alloc (.cells #[.int .i64 a] 3)).alloc (.cells #[.int .i64 b] 3) = w1 at HX HY HZ HB HA ⊢
  obtain ⟨q, hq⟩ : ∃ q, w.heap.size = q := ⟨_, rfl⟩
  rw [hq] at HX HY HZ ⊢
  obtain ⟨ne, hne⟩ : ∃ ne, (a != b) = ne := ⟨_, rfl⟩
  have HNE := Aside0.mk hne
  have hb0 : Below w1.heap.size w1 w1.drew := below_drew1 (Below.refl _ _)
  refine wp_region_G (List.range 20) (S := fun w' : World => w'.cell? ⟨q, 0, none⟩ = some (.slice A0 D.gl.length c0) ∧ w'.cell? ⟨q, 1, none⟩ = some (.int .i64 D.lo) ∧ w'.cell? ⟨q, 2, none⟩ = some (.int .i64 D.hi) ∧ w'.cell? ⟨q, 3, none⟩ = some (.slice A3 D.sp.length c3) ∧ w'.cell? ⟨q, 4, none⟩ = some (.slice A4 D.dr.length c4) ∧ w'.cell? ⟨q + 1, 0, none⟩ = some (.int .i64 a) ∧ w'.cell? ⟨q + 1 + 1, 0, none⟩ = some (.int .i64 b) ∧ Aside0 (Below w1.heap.size w1 w')) (by kernel_rfl) ⟨(blk_cell (blk_below HX.out hb0) 0).trans rfl, (blk_cell (blk_below HX.out hb0) 1).trans rfl, (blk_cell (blk_below HX.out hb0) 2).trans rfl, (blk_cell (blk_below HX.out hb0) 3).trans rfl, (blk_cell (blk_below HX.out hb0) 4).trans rfl, (blk_cell (blk_below HY.out hb0) 0).trans rfl, (blk_cell (blk_below HZ.out hb0) 0).trans rfl, ⟨hb0⟩⟩ (fun hHeld => ?_)
  clear hb0
  refine takeG 0 ?_
  refine takeG 1 ?_
  refine takeG 2 ?_
  refine takeG 3 ?_
  refine takeG 4 ?_
  refine takeG 5 ?_
  refine takeG 8 ?_
  refine takeG 9 ?_
  refine takeG 10 ?_
  refine takeG 11 ?_
  have hB1 := hHeld.2.2.2.2.2.2.2.out
  refine wpAnyG_only (i := 6) (by kernel_rfl) rfl (fun K hK => ?_)
  go_simp
  clear hHeld
  refine hK.out _ _ ?_ (by trivial) (fun hHeld _ => ?_)
  · exact ⟨(blk_cell (blk_below HX.out (by repeat (first | assumption | exact Below.refl _ _ | apply below_alloc | apply below_drew1))) 0).trans rfl, (blk_cell (blk_below HX.out (by repeat (first | assumption | exact Below.refl _ _ | apply below_alloc | apply below_drew1))) 1).trans rfl, (blk_cell (blk_below HX.out (by repeat (first | assumption | exact Below.refl _ _ | apply below_alloc | apply below_drew1))) 2).trans rfl, (blk_cell (blk_below HX.out (by repeat (first | assumption | exact Below.refl _ _ | apply below_alloc | apply below_drew1))) 3).trans rfl, (blk_cell (blk_below HX.out (by repeat (first | assumption | exact Below.refl _ _ | apply below_alloc | apply below_drew1))) 4).trans rfl, (blk_cell (blk_below HY.out (by repeat (first | assumption | exact Below.refl _ _ | apply below_alloc | apply below_drew1))) 0).trans rfl, (blk_cell (blk_below HZ.out (by repeat (first | assumption | exact Below.refl _ _ | apply below_alloc | apply below_drew1))) 0).trans rfl, ⟨(by repeat (first | assumption | exact Below.refl _ _ | apply below_alloc | apply below_drew1))⟩⟩
  clear hK K
  refine putG ?_
  clear hB1
  have hB2 := hHeld.2.2.2.2.2.2.2.out
  refine wpAnyG_only (i := 7) (by kernel_rfl) rfl (fun K hK => ?_)
  go_simp
  refine (among_calls D.sp.length [a, b] _ _ _ hlen (Kd.C_drew (lit2 a b rfl))).mono ?_
  rintro e w2 ⟨rfl, hb⟩
  clear hHeld
  refine hK.out _ _ ?_ (by trivial) (fun hHeld _ => ?_)
  · exact ⟨(blk_cell (blk_below HX.out (hB2.trans (hb.mono hB2.size))) 0).trans rfl, (blk_cell (blk_below HX.out (hB2.trans (hb.mono hB2.size))) 1).trans rfl, (blk_cell (blk_below HX.out (hB2.trans (hb.mono hB2.size))) 2).trans rfl, (blk_cell (blk_below HX.out (hB2.trans (hb.mono hB2.size))) 3).trans rfl, (blk_cell (blk_below HX.out (hB2.trans (hb.mono hB2.size))) 4).trans rfl, (blk_cell (blk_below HY.out (hB2.trans (hb.mono hB2.size))) 0).trans rfl, (blk_cell (blk_below HZ.out (hB2.trans (hb.mono hB2.size))) 0).trans rfl, ⟨(hB2.trans (hb.mono hB2.size))⟩⟩
  clear hK K
  refine putG ?_
  clear hB2 hb
  have hB3 := hHeld.2.2.2.2.2.2.2.out
  refine wpAnyG_only (i := 12) (by kernel_rfl) rfl (fun K hK => ?_)
  go_simp
  clear hHeld
  refine hK.out _ _ ?_ (by trivial) (fun hHeld _ => ?_)
  · exact ⟨(blk_cell (blk_below HX.out (by repeat (first | assumption | exact Below.refl _ _ | apply below_alloc | apply below_drew1))) 0).trans rfl, (blk_cell (blk_below HX.out (by repeat (first | assumption | exact Below.refl _ _ | apply below_alloc | apply below_drew1))) 1).trans rfl, (blk_cell (blk_below HX.out (by repeat (first | assumption | exact Below.refl _ _ | apply below_alloc | apply below_drew1))) 2).trans rfl, (blk_cell (blk_below HX.out (by repeat (first | assumption | exact Below.refl _ _ | apply below_alloc | apply below_drew1))) 3).trans rfl, (blk_cell (blk_below HX.out (by repeat (first | assumption | exact Below.refl _ _ | apply below_alloc | apply below_drew1))) 4).trans rfl, (blk_cell (blk_below HY.out (by repeat (first | assumption | exact Below.refl _ _ | apply below_alloc | apply below_drew1))) 0).trans rfl, (blk_cell (blk_below HZ.out (by repeat (first | assumption | exact Below.refl _ _ | apply below_alloc | apply below_drew1))) 0).trans rfl, ⟨(by repeat (first | assumption | exact Below.refl _ _ | apply below_alloc | apply below_drew1))⟩⟩
  clear hK K
  refine putG ?_
  clear hB3
  have hB4 := hHeld.2.2.2.2.2.2.2.out
  refine wpAnyG_only (i := 13) (by kernel_rfl) rfl (fun K hK => ?_)
  go_simp
  refine (enter_calls D A0 c0 A3 c3 A4 c4 (askTwo D a b) (some ⟨_, 0, none⟩) 2 _ (HA.out.below hB4) (AskC.blk (blk_new _ _) (by rw [askTwo, HNE.out]; rfl) (by simp [askTwo]) (by simp [askTwo]))).mono ?_
  rintro e w3 ⟨v, rfl, hb, hsh⟩
  have HSH := Aside0.mk hsh
  have hBE := hB4
  clear hsh
  clear hHeld
  refine hK.out _ _ ?_ (by trivial) (fun hHeld _ => ?_)
  · exact ⟨(blk_cell (blk_below HX.out (hB4.trans (hb.mono hB4.size))) 0).trans rfl, (blk_cell (blk_below HX.out (hB4.trans (hb.mono hB4.size))) 1).trans rfl, (blk_cell (blk_below HX.out (hB4.trans (hb.mono hB4.size))) 2).trans rfl, (blk_cell (blk_below HX.out (hB4.trans (hb.mono hB4.size))) 3).trans rfl, (blk_cell (blk_below HX.out (hB4.trans (hb.mono hB4.size))) 4).trans rfl, (blk_cell (blk_below HY.out (hB4.trans (hb.mono hB4.size))) 0).trans rfl, (blk_cell (blk_below HZ.out (hB4.trans (hb.mono hB4.size))) 0).trans rfl, ⟨(hB4.trans (hb.mono hB4.size))⟩⟩
  clear hK K
  refine putG ?_
  clear hB4 hb
  refine takeG 14 ?_
  refine takeG 15 ?_
  refine takeG 16 ?_
  refine takeG 17 ?_
  refine takeG 18 ?_
  have hB5 := hHeld.2.2.2.2.2.2.2.out
  clear hHeld
  refine doneG ?_
  replace HY := Aside0.mk (blk_below HY.out hB5)
  replace HZ := Aside0.mk (blk_below HZ.out hB5)
  replace HB := Aside0.mk (HB.out.trans (hB5.mono HB.out.size))
  clear hB5
  obtain ⟨en, hen⟩ : ∃ en, enterE D (askTwo D a b) = en := ⟨_, rfl⟩
  have HEN := Aside0.mk hen
  rw [hen]
  clear hen
  by_cases h0 : en = 0
  · subst h0
    obtain ⟨sb, rfl, hsh⟩ := HSH.out HEN.out
    have HS := Aside0.mk hsh
    have HV := Aside0.mk (enterE_ok HEN.out).1
    have HOKA := Aside0.mk (askTwo_ok (enterE_ok HEN.out).2.2.1)
    clear hsh HSH
    have hr : f = toldF (cntL (largerQ a.toNat b.toNat) (truthsL D 0)) (truthsL D 0).length := by rw [← HF.out, largerF, if_pos HEN.out]
    have HRR := Aside0.mk hr
    have e1 : (a.toNat : Int) = a := by have := HOKA.out; omega
    have e2 : (b.toNat : Int) = b := by have := HOKA.out; omega
    have hy := HY.out
    have hz := HZ.out
    rw [← e1] at hy
    rw [← e2] at hz
    have hs4 := HV.out.s4
    have hask := largerAsks w3.heap.size (q + 1) (q + 1 + 1) a.toNat b.toNat (by have := HOKA.out; omega) (by have := HOKA.out; omega) (blk_lt HY.out) (blk_lt HZ.out)
    have HASK := Aside0.mk hask
    have HCQ := Aside0.mk (And.intro hy hz)
    clear hr e1 e2 hy hz hask
    go_wp2_with fail
    refine (told_calls _ w3 D A0 c0 A3 c3 A4 c4 0 sb 104 _ _ _ (HA.out.below hBE) HV.out (by decide) HS.out HASK.out HCQ.out).mono ?_
    rw [← HRR.out]
    rintro e w4 ⟨rfl, hc, hs⟩
    have HB4 := Aside0.mk (HB.out.trans ((hc.below (B := w3.heap.size) (fun _ _ x => x.elim) (Nat.le_refl _)).mono HB.out.size))
    clear hc hs
    go_wp2
    go_ret2
    exact ⟨by rw [HEN.out]; rfl, by first | exact HB4.out | (rw [← hq]; exact HB4.out)⟩
  · have hr : f = 0 := by rw [← HF.out, largerF, if_neg (by rw [HEN.out]; exact h0)]
    subst hr
    go_wp2
    go_ret2
    exact ⟨by rw [HEN.out]; rfl, by first | exact HB.out | (rw [← hq]; exact HB.out)⟩
end Go.Proofs.Ytgoidclnccjdeaa.D
end
section
/- One post for all orders of a drawing region (fenced); the world of a step named anew. -/
namespace Go.Proofs.YtgoidclnccjdeaaK
open Go
set_option linter.unusedVariables false

def putL (a : Act) (l : List (Nat × Value)) : Act := l.foldl (fun a p => a.put (some p.1) p.2) a
theorem region_puts {P : Program} {F : Fence} {n : Nat} {id : Nat} {ops : Array Oper} {b : Bool} {Q : Exit → Act → World → Prop} {a : Act} {w : World} {X : Type} (L : X → List (Nat × Value)) (S : X → World → Prop)
    (h : (Code.region id ops b).wpIn F n P (endQ fun a' w' => ∃ x, a' = putL a (L x) ∧ S x w') a w) (hk : ∀ x w', S x w' → Q .normal (putL a (L x)) w') : (Code.region id ops b).wpIn F n P Q a w :=
  wpIn_mono h (fun e a' w' h => by
    cases e <;> first | exact (h : False).elim | skip
    obtain ⟨x, rfl, hs⟩ := (h : ∃ x, a' = putL a (L x) ∧ S x w')
    exact hk x w' hs)
theorem not_endQ {R : Act → World → Prop} : ¬ LetsOut (endQ R) := by rintro ⟨_, _, x⟩; exact x
theorem named {K : Act → World → Prop} {a : Act} {w : World} (S : World → Prop) (h1 : S w) (h2 : ∀ w', S w' → K a w') : K a w := h2 w h1
end Go.Proofs.YtgoidclnccjdeaaK
end
section
/- Package glass: Used. -/
namespace Go.Proofs.Ytgoidclnccjdeaa.D
open Go Go.RowKit Go.Proofs.YtgoidclnccjdeaaK Go.Proofs.YtgoidclnccjdeaaW.PrintWords Go.Proofs.YtgoidclnccjdeaaW.PrintLast Go.Proofs.YtgoidclnccjdeaaW.PrintMore Go.Proofs.Ytgoidclnccjdeaa.PR Go.Proofs.Ytgoidclnccjdeaa.M
set_option linter.unusedVariables false
set_option linter.unusedSimpArgs false
attribute [local go_sem] Oper.semAt_some

def NewRow (w : World) (n0 : Nat) (v : Value) (l : List Nat) : Prop :=
  (v = .slice none 0 0 ∧ l = []) ∨ ∃ g L n, v = .slice (some ⟨g, 0, none⟩) l.length n ∧ n0 ≤ g ∧ IB w 3 g L ∧ L.length = n ∧ n ≤ 50 ∧ L.take l.length = ints l
theorem NewRow.chg {S : Nat → Prop} {w w' : World} {n0 : Nat} {v : Value} {l : List Nat} (h : NewRow w n0 v l) (hc : Chg S w w') (hs : ∀ k, k < w.heap.size → n0 ≤ k → ¬ S k) : NewRow w' n0 v l := by
  rcases h with h | ⟨g, L, n, h1, h2, h3, h4⟩
  · exact .inl h
  · exact .inr ⟨g, L, n, h1, h2, h3.chg hc (hs g h3.lt h2), h4⟩
theorem NewRow.mono {w : World} {n0 n1 : Nat} {v : Value} {l : List Nat} (h : NewRow w n0 v l) (hn : n1 ≤ n0) : NewRow w n1 v l := by
  rcases h with h | ⟨g, L, n, h1, h2, h3, h4⟩
  · exact .inl h
  · exact .inr ⟨g, L, n, h1, by omega, h3, h4⟩
theorem NewRow.shape {w : World} {n0 : Nat} {v : Value} {l : List Nat} (h : NewRow w n0 v l) : ∃ A c, v = .slice A l.length c ∧ l.length ≤ 50 ∧ Kd.C (Kd.int .i64) w A l.length (ints l) := by
  rcases h with ⟨rfl, rfl⟩ | ⟨g, L, n, rfl, h2, h3, h4, h5, h6⟩
  · exact ⟨none, 0, rfl, by simp, rfl, by simp, fun h => absurd h (by simp)⟩
  · have hle : l.length ≤ L.length := by
      have := congrArg List.length h6
      simp at this; omega
    refine ⟨_, n, rfl, by omega, ?_⟩
    have := h3.read l.length hle (by omega)
    rw [h6] at this
    exact this
theorem Sh.rebase {w0 w1 W : World} {D : Dat} {A0 : Option Addr} {c0 : Nat} {A3 : Option Addr} {c3 : Nat} {A4 : Option Addr} {c4 : Nat} {but b : Nat} (h : Sh w0 W D A0 c0 A3 c3 A4 c4 but b) (hb : Below w1.heap.size w1 w0) : Sh w1 W D A0 c0 A3 c3 A4 c4 but b :=
  ⟨hb.trans (h.base.mono hb.size), h.sh, Nat.le_trans hb.size h.gb⟩

theorem leave_none {P : Program} {F : Fence} {n : Nat} {fn : Func} {R : Ending → World → Prop} {tmps : Array Value} {w : World} {v : Value} (hr : (results fn tmps).run P w = .ok v w) (h : R (.returned v) w) : bodyPostM F n P fn R .ret { tmps := tmps, defers := [] } w := ⟨v, hr, h⟩
theorem blk_ne {w : World} {p b : Nat} {cs ds : Array Value} {t u : TypeId} {fr fs : Nat × Nat} (h1 : w.heap[p]? = some (.cells cs t fr)) (h2 : w.heap[b]? = some (.cells ds u fs)) (ht : (t == u) = false) : b ≠ p := fun e => by
  subst e
  rw [h1] at h2
  injection h2 with h2
  injection h2 with h3 h4
  subst h4
  simp at ht

def usedX (D : Dat) (n : Nat → Int) (d : Dr) : Nat → Nat → Nat
  | 0, s => s
  | k + 1, s => if thrB D n d k then usedX D n d k s ||| 2 ^ k else usedX D n d k s
def usedN (D : Dat) (d : Dr) (l : List (List Int)) : Nat := l.foldl (fun s x => usedX D (fn x) d D.gl.length s) 0
theorem usedX_lt (D : Dat) (n : Nat → Int) (d : Dr) (m s : Nat) (h : s < 2 ^ m) : ∀ k, k ≤ m → usedX D n d k s < 2 ^ m
  | 0, _ => h
  | k + 1, hk => by
    have ih := usedX_lt D n d m s h k (by omega)
    unfold usedX
    split
    · exact Nat.or_lt_two_pow ih (Nat.pow_lt_pow_right (by decide) (by omega))
    · exact ih
theorem usedN_snoc (D : Dat) (d : Dr) (l : List (List Int)) (x : List Int) : usedN D d (l ++ [x]) = usedX D (fn x) d D.gl.length (usedN D d l) := by simp [usedN]
theorem usedN_lt (D : Dat) (d : Dr) (l : List (List Int)) : usedN D d l < 2 ^ D.gl.length := by
  induction l using list_snoc with
  | h0 => exact Nat.two_pow_pos _
  | h1 l x ih => rw [usedN_snoc]; exact usedX_lt D _ d _ _ ih _ (Nat.le_refl _)
def askUsed (D : Dat) (i : Int) : List (Bool × Int) := [(amongB D.dr.length [i], 4)]
def usedF (D : Dat) (i : Int) : List Nat := if enterE D (askUsed D i) = 0 then (List.range D.gl.length).filter (keepP (usedN D (rd_T72 D.dr i) (truthsL D 0))) else []
theorem askUsed_ok {D : Dat} {i : Int} (h : askE (askUsed D i) = 0) : 0 ≤ i ∧ i < D.dr.length := by
  unfold askUsed at h
  by_cases h1 : outB 0 ((D.dr.length : Int) - 1) [i] = false
  · simp only [outB_cons] at h1
    obtain ⟨⟨x1, x2⟩, _⟩ := h1
    exact ⟨by omega, by omega⟩
  · simp [askE, amongB, h1] at h

set_option maxRecDepth 100000 in
set_option maxHeartbeats 4000000 in
theorem Used_calls (D : Dat) (A0 : Option Addr) (c0 : Nat) (A3 : Option Addr) (c3 : Nat) (A4 : Option Addr) (c4 : Nat) (i : Int) (w : World) (h : Arg w D A0 c0 A3 c3 A4 c4) :
    Calls Try.prog 26 #[.agg (D.cells A0 c0 A3 c3 A4 c4), .int .i64 i] w
      fun e w' => (∃ v, e = .returned (.tuple #[v, .int .i64 (enterE D (askUsed D i))]) ∧ NewRow w' w.heap.size v (usedF D i)) ∧ Below w.heap.size w w' := by
  have HX := Aside0.mk (blk_new w (.cells (D.cells A0 c0 A3 c3 A4 c4) 28))
  have HB := Aside0.mk (below_alloc (Below.refl w.heap.size w) (.cells (D.cells A0 c0 A3 c3 A4 c4) 28))
  have HA := Aside0.mk (h.below HB.out)
  have hlen : D.dr.length ≤ 9223372036854775807 := (h.d).2.1
  clear h
  obtain ⟨r, hr⟩ : ∃ r, usedF D i = r := ⟨_, rfl⟩
  have HF := Aside0.mk hr
  rw [hr]
  clear hr
  obtain ⟨en, hen⟩ : ∃ en, enterE D (askUsed D i) = en := ⟨_, rfl⟩
  have HEN := Aside0.mk hen
  rw [hen]
  clear hen
  refine (callsIn_wide (n := 0)).1 ?_
  refine callsIn_of_wp_marks Try.func26 rfl trivial ?_
  simp only [Try.ntmps26, List.size_toArray, List.length_cons, List.length_nil, Nat.reduceAdd, Nat.reduceSub, Array.replicate_succ, Array.replicate_zero, List.push_toArray, List.append_toArray, List.nil_append, List.cons_append]
  gi_wp2_with fail
  generalize w.alloc (.cells (D.cells A0 c0 A3 c3 A4 c4) 28) = w1 at HX HB HA ⊢
  obtain ⟨q, hq⟩ : ∃ q, w.heap.size = q := ⟨_, rfl⟩
  rw [hq] at HX ⊢
  have HQ := Aside0.mk hq
  clear hq
  obtain ⟨ab, hab⟩ : ∃ ab, amongB D.dr.length [i] = ab := ⟨_, rfl⟩
  have HAB := Aside0.mk hab
  clear hab
  refine region_puts (X := Nat × Nat × Option Addr × Nat) (fun x => [(13, .agg (D.cells A0 c0 A3 c3 A4 c4)), (14, .pointer (some ⟨q, 4, none⟩)), (15, .slice A4 D.dr.length c4), (16, .int .i64 D.dr.length), (17, .int .i64 i), (18, .slice (some ⟨x.1, 0, none⟩) 1 1), (19, .agg #[.bool ab, .int .i64 4]), (20, .slice (some ⟨x.2.1, 0, none⟩) 1 1), (21, .tuple #[.pointer x.2.2.1, .int .i64 en]), (12, .tuple #[.pointer x.2.2.1, .int .i64 en]), (22, .pointer x.2.2.1), (23, .int .i64 en), (6, .pointer (some ⟨x.2.2.2, 0, none⟩)), (7, .int .i64 en)])
    (fun x w' => Below w1.heap.size w1 w' ∧ w'.heap[q]? = some (.cells (D.cells A0 c0 A3 c3 A4 c4) 28 (0, 0)) ∧ w'.heap[x.2.2.2]? = some (.cells #[.pointer x.2.2.1] 110 (0, 0)) ∧ w1.heap.size ≤ x.2.2.2 ∧ (en = 0 → ∃ b, x.2.2.1 = some ⟨b, 0, none⟩ ∧ Sh w1 w' D A0 c0 A3 c3 A4 c4 0 b ∧ b ≠ x.2.2.2)) ?_ ?_
  · have hb0 : Below w1.heap.size w1 w1.drew := below_drew1 (Below.refl _ _)
    have HBww1 := Aside0.mk hb0
    have HXww1 := Aside0.mk (blk_below HX.out hb0)
    clear hb0
    refine wpIn_region_G (List.range 20) (S := fun w' : World => w'.cell? ⟨q, 0, none⟩ = some (.slice A0 D.gl.length c0) ∧ w'.cell? ⟨q, 1, none⟩ = some (.int .i64 D.lo) ∧ w'.cell? ⟨q, 2, none⟩ = some (.int .i64 D.hi) ∧ w'.cell? ⟨q, 3, none⟩ = some (.slice A3 D.sp.length c3) ∧ w'.cell? ⟨q, 4, none⟩ = some (.slice A4 D.dr.length c4)) wideF (by kernel_rfl) (by kernel_rfl) not_endQ ⟨(blk_cell (HXww1.out) 0).trans rfl, (blk_cell (HXww1.out) 1).trans rfl, (blk_cell (HXww1.out) 2).trans rfl, (blk_cell (HXww1.out) 3).trans rfl, (blk_cell (HXww1.out) 4).trans rfl⟩ (fun hHeld => ?_)
    generalize w1.drew = wd at HBww1 HXww1 hHeld ⊢
    refine takeG 0 ?_
    refine takeG 1 ?_
    refine takeG 2 ?_
    refine takeG 3 ?_
    refine takeG 4 ?_
    refine wpAnyG_two (i := 5) (j := 12) (by kernel_rfl) rfl rfl (fun K hK => ?_) (fun K hK => ?_)
    · go_simp
      clear hHeld
      obtain ⟨a1, ha1⟩ : ∃ a, wd.heap.size = a := ⟨_, rfl⟩
      try rw [ha1]
      refine named (fun w' : World => Below w1.heap.size w1 w' ∧ w'.heap[q]? = some (.cells (D.cells A0 c0 A3 c3 A4 c4) 28 (0, 0)) ∧ Kd.C (Kd.int .i64) w' (some ⟨a1, 0, none⟩) [i].length [i]) ⟨below_alloc HBww1.out _, blk_alloc HXww1.out _, by rw [← ha1]; exact lit1 i rfl⟩ ?_
      rintro w11 ⟨h0, h1, h2⟩
      have HBww11 := Aside0.mk h0
      have HXww11 := Aside0.mk h1
      have HLw11 := Aside0.mk h2
      clear h0 h1 h2
      refine hK.out _ _ ⟨(blk_cell (HXww11.out) 0).trans rfl, (blk_cell (HXww11.out) 1).trans rfl, (blk_cell (HXww11.out) 2).trans rfl, (blk_cell (HXww11.out) 3).trans rfl, (blk_cell (HXww11.out) 4).trans rfl⟩ (by trivial) (fun hHeld _ => ?_)
      clear hK K
      refine putG ?_
      clear ha1
      refine wpAnyG_two (i := 6) (j := 12) (by kernel_rfl) rfl rfl (fun K hK => ?_) (fun K hK => ?_)
      · go_simp
        clear hHeld
        refine (among_calls D.dr.length [i] _ _ _ hlen HLw11.out).mono ?_
        rw [HAB.out]
        rintro e w2 ⟨rfl, hb⟩
        refine named (fun w' : World => Below w1.heap.size w1 w' ∧ w'.heap[q]? = some (.cells (D.cells A0 c0 A3 c3 A4 c4) 28 (0, 0))) ⟨HBww11.out.trans (hb.mono HBww11.out.size), blk_below HXww11.out hb⟩ ?_
        rintro w12 ⟨h0, h1⟩
        have HBww12 := Aside0.mk h0
        have HXww12 := Aside0.mk h1
        clear h0 h1
        refine hK.out _ _ ⟨(blk_cell (HXww12.out) 0).trans rfl, (blk_cell (HXww12.out) 1).trans rfl, (blk_cell (HXww12.out) 2).trans rfl, (blk_cell (HXww12.out) 3).trans rfl, (blk_cell (HXww12.out) 4).trans rfl⟩ (by trivial) (fun hHeld _ => ?_)
        clear hK K
        refine putG ?_
        refine wpAnyG_two (i := 7) (j := 12) (by kernel_rfl) rfl rfl (fun K hK => ?_) (fun K hK => ?_)
        · go_simp
          clear hHeld
          obtain ⟨a2, ha2⟩ : ∃ a, w12.heap.size = a := ⟨_, rfl⟩
          try rw [ha2]
          refine named (fun w' : World => Below w1.heap.size w1 w' ∧ w'.heap[q]? = some (.cells (D.cells A0 c0 A3 c3 A4 c4) 28 (0, 0)) ∧ w'.heap[a2]? = some (.cells #[.bool ab, .int .i64 4] 114 (0, 0))) ⟨below_alloc HBww12.out _, blk_alloc HXww12.out _, by rw [← ha2]; exact blk_new _ _⟩ ?_
          rintro w13 ⟨h0, h1, h2⟩
          have HBww13 := Aside0.mk h0
          have HXww13 := Aside0.mk h1
          have HLw13 := Aside0.mk h2
          clear h0 h1 h2
          refine hK.out _ _ ⟨(blk_cell (HXww13.out) 0).trans rfl, (blk_cell (HXww13.out) 1).trans rfl, (blk_cell (HXww13.out) 2).trans rfl, (blk_cell (HXww13.out) 3).trans rfl, (blk_cell (HXww13.out) 4).trans rfl⟩ (by trivial) (fun hHeld _ => ?_)
          clear hK K
          refine putG ?_
          clear ha2
          refine wpAnyG_two (i := 8) (j := 12) (by kernel_rfl) rfl rfl (fun K hK => ?_) (fun K hK => ?_)
          · go_simp
            clear hHeld
            refine (enter_calls2 D A0 c0 A3 c3 A4 c4 (askUsed D i) (some ⟨a2, 0, none⟩) 1 _ (HA.out.below HBww13.out) (AskC.blk HLw13.out (by rw [askUsed, HAB.out]; rfl) (by simp [askUsed]) (by simp [askUsed]))).mono ?_
            rw [HEN.out]
            rintro e w3 ⟨v, rfl, hb, hsh⟩
            refine named (fun w' : World => Below w1.heap.size w1 w' ∧ w'.heap[q]? = some (.cells (D.cells A0 c0 A3 c3 A4 c4) 28 (0, 0)) ∧ (en = 0 → ∃ b, v = some ⟨b, 0, none⟩ ∧ Sh w1 w' D A0 c0 A3 c3 A4 c4 0 b)) ⟨HBww13.out.trans (hb.mono HBww13.out.size), blk_below HXww13.out hb, fun e => let ⟨b, h1, h2⟩ := hsh e; ⟨b, h1, h2.rebase HBww13.out⟩⟩ ?_
            rintro w14 ⟨h0, h1, h2⟩
            have HBww14 := Aside0.mk h0
            have HXww14 := Aside0.mk h1
            have HSHw14 := Aside0.mk h2
            clear h0 h1 h2
            refine hK.out _ _ ⟨(blk_cell (HXww14.out) 0).trans rfl, (blk_cell (HXww14.out) 1).trans rfl, (blk_cell (HXww14.out) 2).trans rfl, (blk_cell (HXww14.out) 3).trans rfl, (blk_cell (HXww14.out) 4).trans rfl⟩ (by trivial) (fun hHeld _ => ?_)
            clear hK K
            refine putG ?_
            clear hsh hb
            refine takeG 9 ?_
            refine takeG 10 ?_
            refine takeG 11 ?_
            refine wpAnyG_only (i := 12) (by kernel_rfl) rfl (fun K hK => ?_)
            go_simp
            clear hHeld
            obtain ⟨p, hp⟩ : ∃ p, w14.heap.size = p := ⟨_, rfl⟩
            try rw [hp]
            refine named (fun w' : World => Below w1.heap.size w1 w' ∧ w'.heap[q]? = some (.cells (D.cells A0 c0 A3 c3 A4 c4) 28 (0, 0)) ∧ w'.heap[p]? = some (.cells #[.pointer none] 110 (0, 0)) ∧ w1.heap.size ≤ p ∧ (en = 0 → ∃ b, v = some ⟨b, 0, none⟩ ∧ Sh w1 w' D A0 c0 A3 c3 A4 c4 0 b ∧ b ≠ p)) ⟨below_alloc HBww14.out _, blk_alloc HXww14.out _, by rw [← hp]; exact blk_new _ _, by rw [← hp]; exact HBww14.out.size, by rw [← hp]; exact fun e => let ⟨b, h1, h2⟩ := HSHw14.out e; ⟨b, h1, h2.chg ((Chg.refl (fun _ => False) _).alloc _) (fun _ x => x.elim), Nat.ne_of_lt (blk_lt h2.sh)⟩⟩ ?_
            rintro w15 ⟨h0, h1, h2, h3, h4⟩
            have HBww15 := Aside0.mk h0
            have HXww15 := Aside0.mk h1
            have HPw15 := Aside0.mk h2
            have HPnw15 := Aside0.mk h3
            have HSHw15 := Aside0.mk h4
            clear h0 h1 h2 h3 h4
            refine hK.out _ _ ⟨(blk_cell (HXww15.out) 0).trans rfl, (blk_cell (HXww15.out) 1).trans rfl, (blk_cell (HXww15.out) 2).trans rfl, (blk_cell (HXww15.out) 3).trans rfl, (blk_cell (HXww15.out) 4).trans rfl⟩ (by trivial) (fun hHeld _ => ?_)
            clear hK K
            refine putG ?_
            have p0 : w15.cell? ⟨p, 0, none⟩ = some (.pointer none) := (blk_cell HPw15.out 0).trans rfl
            have pf := blk_frozen HPw15.out 0
            have pl := blk_lt HPw15.out
            have hqp : q ≠ p := blk_ne HPw15.out HXww15.out rfl
            refine wpAnyG_only (i := 13) (by kernel_rfl) rfl (fun K hK => ?_)
            go_simp
            clear hHeld
            refine named (fun w' : World => Below w1.heap.size w1 w' ∧ w'.heap[q]? = some (.cells (D.cells A0 c0 A3 c3 A4 c4) 28 (0, 0)) ∧ w'.heap[p]? = some (.cells #[.pointer v] 110 (0, 0)) ∧ w1.heap.size ≤ p ∧ (en = 0 → ∃ b, v = some ⟨b, 0, none⟩ ∧ Sh w1 w' D A0 c0 A3 c3 A4 c4 0 b ∧ b ≠ p)) ⟨below_set HBww15.out HPnw15.out, blk_far HXww15.out (by simpa using hqp) _, blk_set HPw15.out 0 _, HPnw15.out, fun e => let ⟨b, h1, h2, h3⟩ := HSHw15.out e; ⟨b, h1, h2.chg ((Chg.refl (fun k => k = p) _).setCell (p := ⟨p, 0, none⟩) (fun _ => rfl) _) (fun k hk => ⟨by subst hk; exact HPnw15.out, by subst hk; exact fun e => h3 e.symm⟩), h3⟩⟩ ?_
            rintro wz ⟨h0, h1, h2, h3, h4⟩
            have HB2 := Aside0.mk h0
            have HX2 := Aside0.mk h1
            have HP2 := Aside0.mk h2
            have HPn2 := Aside0.mk h3
            have HSH2 := Aside0.mk h4
            clear h0 h1 h2 h3 h4 p0 pf pl hqp
            refine hK.out _ _ ⟨(blk_cell (HX2.out) 0).trans rfl, (blk_cell (HX2.out) 1).trans rfl, (blk_cell (HX2.out) 2).trans rfl, (blk_cell (HX2.out) 3).trans rfl, (blk_cell (HX2.out) 4).trans rfl⟩ (by trivial) (fun hHeld _ => ?_)
            clear hK K
            refine putG ?_
            refine takeG 14 ?_
            clear hHeld
            refine doneG ?_
            refine ⟨(a1, a2, v, p), ?_, HB2.out, HX2.out, HP2.out, HPn2.out, HSH2.out⟩
            simp only [putL, List.foldl, Act.put, List.getElem_toArray, List.getElem_cons_zero, List.getElem_cons_succ, List.setIfInBounds_toArray, List.set_cons_zero, List.set_cons_succ]
          · go_simp
            clear hHeld
            obtain ⟨p, hp⟩ : ∃ p, w13.heap.size = p := ⟨_, rfl⟩
            try rw [hp]
            refine named (fun w' : World => Below w1.heap.size w1 w' ∧ w'.heap[q]? = some (.cells (D.cells A0 c0 A3 c3 A4 c4) 28 (0, 0)) ∧ w'.heap[p]? = some (.cells #[.pointer none] 110 (0, 0)) ∧ w1.heap.size ≤ p ∧ w'.heap[a2]? = some (.cells #[.bool ab, .int .i64 4] 114 (0, 0))) ⟨below_alloc HBww13.out _, blk_alloc HXww13.out _, by rw [← hp]; exact blk_new _ _, by rw [← hp]; exact HBww13.out.size, blk_alloc HLw13.out _⟩ ?_
            rintro w14 ⟨h0, h1, h2, h3, h4⟩
            have HBww14 := Aside0.mk h0
            have HXww14 := Aside0.mk h1
            have HPw14 := Aside0.mk h2
            have HPnw14 := Aside0.mk h3
            have HLw14 := Aside0.mk h4
            clear h0 h1 h2 h3 h4
            refine hK.out _ _ ⟨(blk_cell (HXww14.out) 0).trans rfl, (blk_cell (HXww14.out) 1).trans rfl, (blk_cell (HXww14.out) 2).trans rfl, (blk_cell (HXww14.out) 3).trans rfl, (blk_cell (HXww14.out) 4).trans rfl⟩ (by trivial) (fun hHeld _ => ?_)
            clear hK K
            refine putG ?_
            refine wpAnyG_only (i := 8) (by kernel_rfl) rfl (fun K hK => ?_)
            go_simp
            clear hHeld
            refine (enter_calls2 D A0 c0 A3 c3 A4 c4 (askUsed D i) (some ⟨a2, 0, none⟩) 1 _ (HA.out.below HBww14.out) (AskC.blk HLw14.out (by rw [askUsed, HAB.out]; rfl) (by simp [askUsed]) (by simp [askUsed]))).mono ?_
            rw [HEN.out]
            rintro e w3 ⟨v, rfl, hb, hsh⟩
            refine named (fun w' : World => Below w1.heap.size w1 w' ∧ w'.heap[q]? = some (.cells (D.cells A0 c0 A3 c3 A4 c4) 28 (0, 0)) ∧ w'.heap[p]? = some (.cells #[.pointer none] 110 (0, 0)) ∧ w1.heap.size ≤ p ∧ (en = 0 → ∃ b, v = some ⟨b, 0, none⟩ ∧ Sh w1 w' D A0 c0 A3 c3 A4 c4 0 b ∧ b ≠ p)) ⟨HBww14.out.trans (hb.mono HBww14.out.size), blk_below HXww14.out hb, blk_below HPw14.out hb, HPnw14.out, fun e => let ⟨b, h1, h2⟩ := hsh e; ⟨b, h1, h2.rebase HBww14.out, blk_ne (blk_below HPw14.out hb) h2.sh rfl⟩⟩ ?_
            rintro w15 ⟨h0, h1, h2, h3, h4⟩
            have HBww15 := Aside0.mk h0
            have HXww15 := Aside0.mk h1
            have HPw15 := Aside0.mk h2
            have HPnw15 := Aside0.mk h3
            have HSHw15 := Aside0.mk h4
            clear h0 h1 h2 h3 h4
            refine hK.out _ _ ⟨(blk_cell (HXww15.out) 0).trans rfl, (blk_cell (HXww15.out) 1).trans rfl, (blk_cell (HXww15.out) 2).trans rfl, (blk_cell (HXww15.out) 3).trans rfl, (blk_cell (HXww15.out) 4).trans rfl⟩ (by trivial) (fun hHeld _ => ?_)
            clear hK K
            refine putG ?_
            clear hsh hb
            refine takeG 9 ?_
            refine takeG 10 ?_
            refine takeG 11 ?_
            have p0 : w15.cell? ⟨p, 0, none⟩ = some (.pointer none) := (blk_cell HPw15.out 0).trans rfl
            have pf := blk_frozen HPw15.out 0
            have pl := blk_lt HPw15.out
            have hqp : q ≠ p := blk_ne HPw15.out HXww15.out rfl
            refine wpAnyG_only (i := 13) (by kernel_rfl) rfl (fun K hK => ?_)
            go_simp
            clear hHeld
            refine named (fun w' : World => Below w1.heap.size w1 w' ∧ w'.heap[q]? = some (.cells (D.cells A0 c0 A3 c3 A4 c4) 28 (0, 0)) ∧ w'.heap[p]? = some (.cells #[.pointer v] 110 (0, 0)) ∧ w1.heap.size ≤ p ∧ (en = 0 → ∃ b, v = some ⟨b, 0, none⟩ ∧ Sh w1 w' D A0 c0 A3 c3 A4 c4 0 b ∧ b ≠ p)) ⟨below_set HBww15.out HPnw15.out, blk_far HXww15.out (by simpa using hqp) _, blk_set HPw15.out 0 _, HPnw15.out, fun e => let ⟨b, h1, h2, h3⟩ := HSHw15.out e; ⟨b, h1, h2.chg ((Chg.refl (fun k => k = p) _).setCell (p := ⟨p, 0, none⟩) (fun _ => rfl) _) (fun k hk => ⟨by subst hk; exact HPnw15.out, by subst hk; exact fun e => h3 e.symm⟩), h3⟩⟩ ?_
            rintro wz ⟨h0, h1, h2, h3, h4⟩
            have HB2 := Aside0.mk h0
            have HX2 := Aside0.mk h1
            have HP2 := Aside0.mk h2
            have HPn2 := Aside0.mk h3
            have HSH2 := Aside0.mk h4
            clear h0 h1 h2 h3 h4 p0 pf pl hqp
            refine hK.out _ _ ⟨(blk_cell (HX2.out) 0).trans rfl, (blk_cell (HX2.out) 1).trans rfl, (blk_cell (HX2.out) 2).trans rfl, (blk_cell (HX2.out) 3).trans rfl, (blk_cell (HX2.out) 4).trans rfl⟩ (by trivial) (fun hHeld _ => ?_)
            clear hK K
            refine putG ?_
            refine takeG 14 ?_
            clear hHeld
            refine doneG ?_
            refine ⟨(a1, a2, v, p), ?_, HB2.out, HX2.out, HP2.out, HPn2.out, HSH2.out⟩
            simp only [putL, List.foldl, Act.put, List.getElem_toArray, List.getElem_cons_zero, List.getElem_cons_succ, List.setIfInBounds_toArray, List.set_cons_zero, List.set_cons_succ]
        · go_simp
          clear hHeld
          obtain ⟨p, hp⟩ : ∃ p, w12.heap.size = p := ⟨_, rfl⟩
          try rw [hp]
          refine named (fun w' : World => Below w1.heap.size w1 w' ∧ w'.heap[q]? = some (.cells (D.cells A0 c0 A3 c3 A4 c4) 28 (0, 0)) ∧ w'.heap[p]? = some (.cells #[.pointer none] 110 (0, 0)) ∧ w1.heap.size ≤ p) ⟨below_alloc HBww12.out _, blk_alloc HXww12.out _, by rw [← hp]; exact blk_new _ _, by rw [← hp]; exact HBww12.out.size⟩ ?_
          rintro w13 ⟨h0, h1, h2, h3⟩
          have HBww13 := Aside0.mk h0
          have HXww13 := Aside0.mk h1
          have HPw13 := Aside0.mk h2
          have HPnw13 := Aside0.mk h3
          clear h0 h1 h2 h3
          refine hK.out _ _ ⟨(blk_cell (HXww13.out) 0).trans rfl, (blk_cell (HXww13.out) 1).trans rfl, (blk_cell (HXww13.out) 2).trans rfl, (blk_cell (HXww13.out) 3).trans rfl, (blk_cell (HXww13.out) 4).trans rfl⟩ (by trivial) (fun hHeld _ => ?_)
          clear hK K
          refine putG ?_
          refine wpAnyG_only (i := 7) (by kernel_rfl) rfl (fun K hK => ?_)
          go_simp
          clear hHeld
          obtain ⟨a2, ha2⟩ : ∃ a, w13.heap.size = a := ⟨_, rfl⟩
          try rw [ha2]
          refine named (fun w' : World => Below w1.heap.size w1 w' ∧ w'.heap[q]? = some (.cells (D.cells A0 c0 A3 c3 A4 c4) 28 (0, 0)) ∧ w'.heap[p]? = some (.cells #[.pointer none] 110 (0, 0)) ∧ w1.heap.size ≤ p ∧ w'.heap[a2]? = some (.cells #[.bool ab, .int .i64 4] 114 (0, 0))) ⟨below_alloc HBww13.out _, blk_alloc HXww13.out _, blk_alloc HPw13.out _, HPnw13.out, by rw [← ha2]; exact blk_new _ _⟩ ?_
          rintro w14 ⟨h0, h1, h2, h3, h4⟩
          have HBww14 := Aside0.mk h0
          have HXww14 := Aside0.mk h1
          have HPw14 := Aside0.mk h2
          have HPnw14 := Aside0.mk h3
          have HLw14 := Aside0.mk h4
          clear h0 h1 h2 h3 h4
          refine hK.out _ _ ⟨(blk_cell (HXww14.out) 0).trans rfl, (blk_cell (HXww14.out) 1).trans rfl, (blk_cell (HXww14.out) 2).trans rfl, (blk_cell (HXww14.out) 3).trans rfl, (blk_cell (HXww14.out) 4).trans rfl⟩ (by trivial) (fun hHeld _ => ?_)
          clear hK K
          refine putG ?_
          clear ha2
          refine wpAnyG_only (i := 8) (by kernel_rfl) rfl (fun K hK => ?_)
          go_simp
          clear hHeld
          refine (enter_calls2 D A0 c0 A3 c3 A4 c4 (askUsed D i) (some ⟨a2, 0, none⟩) 1 _ (HA.out.below HBww14.out) (AskC.blk HLw14.out (by rw [askUsed, HAB.out]; rfl) (by simp [askUsed]) (by simp [askUsed]))).mono ?_
          rw [HEN.out]
          rintro e w3 ⟨v, rfl, hb, hsh⟩
          refine named (fun w' : World => Below w1.heap.size w1 w' ∧ w'.heap[q]? = some (.cells (D.cells A0 c0 A3 c3 A4 c4) 28 (0, 0)) ∧ w'.heap[p]? = some (.cells #[.pointer none] 110 (0, 0)) ∧ w1.heap.size ≤ p ∧ (en = 0 → ∃ b, v = some ⟨b, 0, none⟩ ∧ Sh w1 w' D A0 c0 A3 c3 A4 c4 0 b ∧ b ≠ p)) ⟨HBww14.out.trans (hb.mono HBww14.out.size), blk_below HXww14.out hb, blk_below HPw14.out hb, HPnw14.out, fun e => let ⟨b, h1, h2⟩ := hsh e; ⟨b, h1, h2.rebase HBww14.out, blk_ne (blk_below HPw14.out hb) h2.sh rfl⟩⟩ ?_
          rintro w15 ⟨h0, h1, h2, h3, h4⟩
          have HBww15 := Aside0.mk h0
          have HXww15 := Aside0.mk h1
          have HPw15 := Aside0.mk h2
          have HPnw15 := Aside0.mk h3
          have HSHw15 := Aside0.mk h4
          clear h0 h1 h2 h3 h4
          refine hK.out _ _ ⟨(blk_cell (HXww15.out) 0).trans rfl, (blk_cell (HXww15.out) 1).trans rfl, (blk_cell (HXww15.out) 2).trans rfl, (blk_cell (HXww15.out) 3).trans rfl, (blk_cell (HXww15.out) 4).trans rfl⟩ (by trivial) (fun hHeld _ => ?_)
          clear hK K
          refine putG ?_
          clear hsh hb
          refine takeG 9 ?_
          refine takeG 10 ?_
          refine takeG 11 ?_
          have p0 : w15.cell? ⟨p, 0, none⟩ = some (.pointer none) := (blk_cell HPw15.out 0).trans rfl
          have pf := blk_frozen HPw15.out 0
          have pl := blk_lt HPw15.out
          have hqp : q ≠ p := blk_ne HPw15.out HXww15.out rfl
          refine wpAnyG_only (i := 13) (by kernel_rfl) rfl (fun K hK => ?_)
          go_simp
          clear hHeld
          refine named (fun w' : World => Below w1.heap.size w1 w' ∧ w'.heap[q]? = some (.cells (D.cells A0 c0 A3 c3 A4 c4) 28 (0, 0)) ∧ w'.heap[p]? = some (.cells #[.pointer v] 110 (0, 0)) ∧ w1.heap.size ≤ p ∧ (en = 0 → ∃ b, v = some ⟨b, 0, none⟩ ∧ Sh w1 w' D A0 c0 A3 c3 A4 c4 0 b ∧ b ≠ p)) ⟨below_set HBww15.out HPnw15.out, blk_far HXww15.out (by simpa using hqp) _, blk_set HPw15.out 0 _, HPnw15.out, fun e => let ⟨b, h1, h2, h3⟩ := HSHw15.out e; ⟨b, h1, h2.chg ((Chg.refl (fun k => k = p) _).setCell (p := ⟨p, 0, none⟩) (fun _ => rfl) _) (fun k hk => ⟨by subst hk; exact HPnw15.out, by subst hk; exact fun e => h3 e.symm⟩), h3⟩⟩ ?_
          rintro wz ⟨h0, h1, h2, h3, h4⟩
          have HB2 := Aside0.mk h0
          have HX2 := Aside0.mk h1
          have HP2 := Aside0.mk h2
          have HPn2 := Aside0.mk h3
          have HSH2 := Aside0.mk h4
          clear h0 h1 h2 h3 h4 p0 pf pl hqp
          refine hK.out _ _ ⟨(blk_cell (HX2.out) 0).trans rfl, (blk_cell (HX2.out) 1).trans rfl, (blk_cell (HX2.out) 2).trans rfl, (blk_cell (HX2.out) 3).trans rfl, (blk_cell (HX2.out) 4).trans rfl⟩ (by trivial) (fun hHeld _ => ?_)
          clear hK K
          refine putG ?_
          refine takeG 14 ?_
          clear hHeld
          refine doneG ?_
          refine ⟨(a1, a2, v, p), ?_, HB2.out, HX2.out, HP2.out, HPn2.out, HSH2.out⟩
          simp only [putL, List.foldl, Act.put, List.getElem_toArray, List.getElem_cons_zero, List.getElem_cons_succ, List.setIfInBounds_toArray, List.set_cons_zero, List.set_cons_succ]
      · go_simp
        clear hHeld
        obtain ⟨p, hp⟩ : ∃ p, w11.heap.size = p := ⟨_, rfl⟩
        try rw [hp]
        refine named (fun w' : World => Below w1.heap.size w1 w' ∧ w'.heap[q]? = some (.cells (D.cells A0 c0 A3 c3 A4 c4) 28 (0, 0)) ∧ w'.heap[p]? = some (.cells #[.pointer none] 110 (0, 0)) ∧ w1.heap.size ≤ p ∧ Kd.C (Kd.int .i64) w' (some ⟨a1, 0, none⟩) [i].length [i]) ⟨below_alloc HBww11.out _, blk_alloc HXww11.out _, by rw [← hp]; exact blk_new _ _, by rw [← hp]; exact HBww11.out.size, Kd.C_below HLw11.out (below_alloc (Below.refl _ _) _)⟩ ?_
        rintro w12 ⟨h0, h1, h2, h3, h4⟩
        have HBww12 := Aside0.mk h0
        have HXww12 := Aside0.mk h1
        have HPw12 := Aside0.mk h2
        have HPnw12 := Aside0.mk h3
        have HLw12 := Aside0.mk h4
        clear h0 h1 h2 h3 h4
        refine hK.out _ _ ⟨(blk_cell (HXww12.out) 0).trans rfl, (blk_cell (HXww12.out) 1).trans rfl, (blk_cell (HXww12.out) 2).trans rfl, (blk_cell (HXww12.out) 3).trans rfl, (blk_cell (HXww12.out) 4).trans rfl⟩ (by trivial) (fun hHeld _ => ?_)
        clear hK K
        refine putG ?_
        refine wpAnyG_only (i := 6) (by kernel_rfl) rfl (fun K hK => ?_)
        go_simp
        clear hHeld
        refine (among_calls D.dr.length [i] _ _ _ hlen HLw12.out).mono ?_
        rw [HAB.out]
        rintro e w2 ⟨rfl, hb⟩
        refine named (fun w' : World => Below w1.heap.size w1 w' ∧ w'.heap[q]? = some (.cells (D.cells A0 c0 A3 c3 A4 c4) 28 (0, 0)) ∧ w'.heap[p]? = some (.cells #[.pointer none] 110 (0, 0)) ∧ w1.heap.size ≤ p) ⟨HBww12.out.trans (hb.mono HBww12.out.size), blk_below HXww12.out hb, blk_below HPw12.out hb, HPnw12.out⟩ ?_
        rintro w13 ⟨h0, h1, h2, h3⟩
        have HBww13 := Aside0.mk h0
        have HXww13 := Aside0.mk h1
        have HPw13 := Aside0.mk h2
        have HPnw13 := Aside0.mk h3
        clear h0 h1 h2 h3
        refine hK.out _ _ ⟨(blk_cell (HXww13.out) 0).trans rfl, (blk_cell (HXww13.out) 1).trans rfl, (blk_cell (HXww13.out) 2).trans rfl, (blk_cell (HXww13.out) 3).trans rfl, (blk_cell (HXww13.out) 4).trans rfl⟩ (by trivial) (fun hHeld _ => ?_)
        clear hK K
        refine putG ?_
        refine wpAnyG_only (i := 7) (by kernel_rfl) rfl (fun K hK => ?_)
        go_simp
        clear hHeld
        obtain ⟨a2, ha2⟩ : ∃ a, w13.heap.size = a := ⟨_, rfl⟩
        try rw [ha2]
        refine named (fun w' : World => Below w1.heap.size w1 w' ∧ w'.heap[q]? = some (.cells (D.cells A0 c0 A3 c3 A4 c4) 28 (0, 0)) ∧ w'.heap[p]? = some (.cells #[.pointer none] 110 (0, 0)) ∧ w1.heap.size ≤ p ∧ w'.heap[a2]? = some (.cells #[.bool ab, .int .i64 4] 114 (0, 0))) ⟨below_alloc HBww13.out _, blk_alloc HXww13.out _, blk_alloc HPw13.out _, HPnw13.out, by rw [← ha2]; exact blk_new _ _⟩ ?_
        rintro w14 ⟨h0, h1, h2, h3, h4⟩
        have HBww14 := Aside0.mk h0
        have HXww14 := Aside0.mk h1
        have HPw14 := Aside0.mk h2
        have HPnw14 := Aside0.mk h3
        have HLw14 := Aside0.mk h4
        clear h0 h1 h2 h3 h4
        refine hK.out _ _ ⟨(blk_cell (HXww14.out) 0).trans rfl, (blk_cell (HXww14.out) 1).trans rfl, (blk_cell (HXww14.out) 2).trans rfl, (blk_cell (HXww14.out) 3).trans rfl, (blk_cell (HXww14.out) 4).trans rfl⟩ (by trivial) (fun hHeld _ => ?_)
        clear hK K
        refine putG ?_
        clear ha2
        refine wpAnyG_only (i := 8) (by kernel_rfl) rfl (fun K hK => ?_)
        go_simp
        clear hHeld
        refine (enter_calls2 D A0 c0 A3 c3 A4 c4 (askUsed D i) (some ⟨a2, 0, none⟩) 1 _ (HA.out.below HBww14.out) (AskC.blk HLw14.out (by rw [askUsed, HAB.out]; rfl) (by simp [askUsed]) (by simp [askUsed]))).mono ?_
        rw [HEN.out]
        rintro e w3 ⟨v, rfl, hb, hsh⟩
        refine named (fun w' : World => Below w1.heap.size w1 w' ∧ w'.heap[q]? = some (.cells (D.cells A0 c0 A3 c3 A4 c4) 28 (0, 0)) ∧ w'.heap[p]? = some (.cells #[.pointer none] 110 (0, 0)) ∧ w1.heap.size ≤ p ∧ (en = 0 → ∃ b, v = some ⟨b, 0, none⟩ ∧ Sh w1 w' D A0 c0 A3 c3 A4 c4 0 b ∧ b ≠ p)) ⟨HBww14.out.trans (hb.mono HBww14.out.size), blk_below HXww14.out hb, blk_below HPw14.out hb, HPnw14.out, fun e => let ⟨b, h1, h2⟩ := hsh e; ⟨b, h1, h2.rebase HBww14.out, blk_ne (blk_below HPw14.out hb) h2.sh rfl⟩⟩ ?_
        rintro w15 ⟨h0, h1, h2, h3, h4⟩
        have HBww15 := Aside0.mk h0
        have HXww15 := Aside0.mk h1
        have HPw15 := Aside0.mk h2
        have HPnw15 := Aside0.mk h3
        have HSHw15 := Aside0.mk h4
        clear h0 h1 h2 h3 h4
        refine hK.out _ _ ⟨(blk_cell (HXww15.out) 0).trans rfl, (blk_cell (HXww15.out) 1).trans rfl, (blk_cell (HXww15.out) 2).trans rfl, (blk_cell (HXww15.out) 3).trans rfl, (blk_cell (HXww15.out) 4).trans rfl⟩ (by trivial) (fun hHeld _ => ?_)
        clear hK K
        refine putG ?_
        clear hsh hb
        refine takeG 9 ?_
        refine takeG 10 ?_
        refine takeG 11 ?_
        have p0 : w15.cell? ⟨p, 0, none⟩ = some (.pointer none) := (blk_cell HPw15.out 0).trans rfl
        have pf := blk_frozen HPw15.out 0
        have pl := blk_lt HPw15.out
        have hqp : q ≠ p := blk_ne HPw15.out HXww15.out rfl
        refine wpAnyG_only (i := 13) (by kernel_rfl) rfl (fun K hK => ?_)
        go_simp
        clear hHeld
        refine named (fun w' : World => Below w1.heap.size w1 w' ∧ w'.heap[q]? = some (.cells (D.cells A0 c0 A3 c3 A4 c4) 28 (0, 0)) ∧ w'.heap[p]? = some (.cells #[.pointer v] 110 (0, 0)) ∧ w1.heap.size ≤ p ∧ (en = 0 → ∃ b, v = some ⟨b, 0, none⟩ ∧ Sh w1 w' D A0 c0 A3 c3 A4 c4 0 b ∧ b ≠ p)) ⟨below_set HBww15.out HPnw15.out, blk_far HXww15.out (by simpa using hqp) _, blk_set HPw15.out 0 _, HPnw15.out, fun e => let ⟨b, h1, h2, h3⟩ := HSHw15.out e; ⟨b, h1, h2.chg ((Chg.refl (fun k => k = p) _).setCell (p := ⟨p, 0, none⟩) (fun _ => rfl) _) (fun k hk => ⟨by subst hk; exact HPnw15.out, by subst hk; exact fun e => h3 e.symm⟩), h3⟩⟩ ?_
        rintro wz ⟨h0, h1, h2, h3, h4⟩
        have HB2 := Aside0.mk h0
        have HX2 := Aside0.mk h1
        have HP2 := Aside0.mk h2
        have HPn2 := Aside0.mk h3
        have HSH2 := Aside0.mk h4
        clear h0 h1 h2 h3 h4 p0 pf pl hqp
        refine hK.out _ _ ⟨(blk_cell (HX2.out) 0).trans rfl, (blk_cell (HX2.out) 1).trans rfl, (blk_cell (HX2.out) 2).trans rfl, (blk_cell (HX2.out) 3).trans rfl, (blk_cell (HX2.out) 4).trans rfl⟩ (by trivial) (fun hHeld _ => ?_)
        clear hK K
        refine putG ?_
        refine takeG 14 ?_
        clear hHeld
        refine doneG ?_
        refine ⟨(a1, a2, v, p), ?_, HB2.out, HX2.out, HP2.out, HPn2.out, HSH2.out⟩
        simp only [putL, List.foldl, Act.put, List.getElem_toArray, List.getElem_cons_zero, List.getElem_cons_succ, List.setIfInBounds_toArray, List.set_cons_zero, List.set_cons_succ]
    · go_simp
      clear hHeld
      obtain ⟨p, hp⟩ : ∃ p, wd.heap.size = p := ⟨_, rfl⟩
      try rw [hp]
      refine named (fun w' : World => Below w1.heap.size w1 w' ∧ w'.heap[q]? = some (.cells (D.cells A0 c0 A3 c3 A4 c4) 28 (0, 0)) ∧ w'.heap[p]? = some (.cells #[.pointer none] 110 (0, 0)) ∧ w1.heap.size ≤ p) ⟨below_alloc HBww1.out _, blk_alloc HXww1.out _, by rw [← hp]; exact blk_new _ _, by rw [← hp]; exact HBww1.out.size⟩ ?_
      rintro w11 ⟨h0, h1, h2, h3⟩
      have HBww11 := Aside0.mk h0
      have HXww11 := Aside0.mk h1
      have HPw11 := Aside0.mk h2
      have HPnw11 := Aside0.mk h3
      clear h0 h1 h2 h3
      refine hK.out _ _ ⟨(blk_cell (HXww11.out) 0).trans rfl, (blk_cell (HXww11.out) 1).trans rfl, (blk_cell (HXww11.out) 2).trans rfl, (blk_cell (HXww11.out) 3).trans rfl, (blk_cell (HXww11.out) 4).trans rfl⟩ (by trivial) (fun hHeld _ => ?_)
      clear hK K
      refine putG ?_
      refine wpAnyG_only (i := 5) (by kernel_rfl) rfl (fun K hK => ?_)
      go_simp
      clear hHeld
      obtain ⟨a1, ha1⟩ : ∃ a, w11.heap.size = a := ⟨_, rfl⟩
      try rw [ha1]
      refine named (fun w' : World => Below w1.heap.size w1 w' ∧ w'.heap[q]? = some (.cells (D.cells A0 c0 A3 c3 A4 c4) 28 (0, 0)) ∧ w'.heap[p]? = some (.cells #[.pointer none] 110 (0, 0)) ∧ w1.heap.size ≤ p ∧ Kd.C (Kd.int .i64) w' (some ⟨a1, 0, none⟩) [i].length [i]) ⟨below_alloc HBww11.out _, blk_alloc HXww11.out _, blk_alloc HPw11.out _, HPnw11.out, by rw [← ha1]; exact lit1 i rfl⟩ ?_
      rintro w12 ⟨h0, h1, h2, h3, h4⟩
      have HBww12 := Aside0.mk h0
      have HXww12 := Aside0.mk h1
      have HPw12 := Aside0.mk h2
      have HPnw12 := Aside0.mk h3
      have HLw12 := Aside0.mk h4
      clear h0 h1 h2 h3 h4
      refine hK.out _ _ ⟨(blk_cell (HXww12.out) 0).trans rfl, (blk_cell (HXww12.out) 1).trans rfl, (blk_cell (HXww12.out) 2).trans rfl, (blk_cell (HXww12.out) 3).trans rfl, (blk_cell (HXww12.out) 4).trans rfl⟩ (by trivial) (fun hHeld _ => ?_)
      clear hK K
      refine putG ?_
      clear ha1
      refine wpAnyG_only (i := 6) (by kernel_rfl) rfl (fun K hK => ?_)
      go_simp
      clear hHeld
      refine (among_calls D.dr.length [i] _ _ _ hlen HLw12.out).mono ?_
      rw [HAB.out]
      rintro e w2 ⟨rfl, hb⟩
      refine named (fun w' : World => Below w1.heap.size w1 w' ∧ w'.heap[q]? = some (.cells (D.cells A0 c0 A3 c3 A4 c4) 28 (0, 0)) ∧ w'.heap[p]? = some (.cells #[.pointer none] 110 (0, 0)) ∧ w1.heap.size ≤ p) ⟨HBww12.out.trans (hb.mono HBww12.out.size), blk_below HXww12.out hb, blk_below HPw12.out hb, HPnw12.out⟩ ?_
      rintro w13 ⟨h0, h1, h2, h3⟩
      have HBww13 := Aside0.mk h0
      have HXww13 := Aside0.mk h1
      have HPw13 := Aside0.mk h2
      have HPnw13 := Aside0.mk h3
      clear h0 h1 h2 h3
      refine hK.out _ _ ⟨(blk_cell (HXww13.out) 0).trans rfl, (blk_cell (HXww13.out) 1).trans rfl, (blk_cell (HXww13.out) 2).trans rfl, (blk_cell (HXww13.out) 3).trans rfl, (blk_cell (HXww13.out) 4).trans rfl⟩ (by trivial) (fun hHeld _ => ?_)
      clear hK K
      refine putG ?_
      refine wpAnyG_only (i := 7) (by kernel_rfl) rfl (fun K hK => ?_)
      go_simp
      clear hHeld
      obtain ⟨a2, ha2⟩ : ∃ a, w13.heap.size = a := ⟨_, rfl⟩
      try rw [ha2]
      refine named (fun w' : World => Below w1.heap.size w1 w' ∧ w'.heap[q]? = some (.cells (D.cells A0 c0 A3 c3 A4 c4) 28 (0, 0)) ∧ w'.heap[p]? = some (.cells #[.pointer none] 110 (0, 0)) ∧ w1.heap.size ≤ p ∧ w'.heap[a2]? = some (.cells #[.bool ab, .int .i64 4] 114 (0, 0))) ⟨below_alloc HBww13.out _, blk_alloc HXww13.out _, blk_alloc HPw13.out _, HPnw13.out, by rw [← ha2]; exact blk_new _ _⟩ ?_
      rintro w14 ⟨h0, h1, h2, h3, h4⟩
      have HBww14 := Aside0.mk h0
      have HXww14 := Aside0.mk h1
      have HPw14 := Aside0.mk h2
      have HPnw14 := Aside0.mk h3
      have HLw14 := Aside0.mk h4
      clear h0 h1 h2 h3 h4
      refine hK.out _ _ ⟨(blk_cell (HXww14.out) 0).trans rfl, (blk_cell (HXww14.out) 1).trans rfl, (blk_cell (HXww14.out) 2).trans rfl, (blk_cell (HXww14.out) 3).trans rfl, (blk_cell (HXww14.out) 4).trans rfl⟩ (by trivial) (fun hHeld _ => ?_)
      clear hK K
      refine putG ?_
      clear ha2
      refine wpAnyG_only (i := 8) (by kernel_rfl) rfl (fun K hK => ?_)
      go_simp
      clear hHeld
      refine (enter_calls2 D A0 c0 A3 c3 A4 c4 (askUsed D i) (some ⟨a2, 0, none⟩) 1 _ (HA.out.below HBww14.out) (AskC.blk HLw14.out (by rw [askUsed, HAB.out]; rfl) (by simp [askUsed]) (by simp [askUsed]))).mono ?_
      rw [HEN.out]
      rintro e w3 ⟨v, rfl, hb, hsh⟩
      refine named (fun w' : World => Below w1.heap.size w1 w' ∧ w'.heap[q]? = some (.cells (D.cells A0 c0 A3 c3 A4 c4) 28 (0, 0)) ∧ w'.heap[p]? = some (.cells #[.pointer none] 110 (0, 0)) ∧ w1.heap.size ≤ p ∧ (en = 0 → ∃ b, v = some ⟨b, 0, none⟩ ∧ Sh w1 w' D A0 c0 A3 c3 A4 c4 0 b ∧ b ≠ p)) ⟨HBww14.out.trans (hb.mono HBww14.out.size), blk_below HXww14.out hb, blk_below HPw14.out hb, HPnw14.out, fun e => let ⟨b, h1, h2⟩ := hsh e; ⟨b, h1, h2.rebase HBww14.out, blk_ne (blk_below HPw14.out hb) h2.sh rfl⟩⟩ ?_
      rintro w15 ⟨h0, h1, h2, h3, h4⟩
      have HBww15 := Aside0.mk h0
      have HXww15 := Aside0.mk h1
      have HPw15 := Aside0.mk h2
      have HPnw15 := Aside0.mk h3
      have HSHw15 := Aside0.mk h4
      clear h0 h1 h2 h3 h4
      refine hK.out _ _ ⟨(blk_cell (HXww15.out) 0).trans rfl, (blk_cell (HXww15.out) 1).trans rfl, (blk_cell (HXww15.out) 2).trans rfl, (blk_cell (HXww15.out) 3).trans rfl, (blk_cell (HXww15.out) 4).trans rfl⟩ (by trivial) (fun hHeld _ => ?_)
      clear hK K
      refine putG ?_
      clear hsh hb
      refine takeG 9 ?_
      refine takeG 10 ?_
      refine takeG 11 ?_
      have p0 : w15.cell? ⟨p, 0, none⟩ = some (.pointer none) := (blk_cell HPw15.out 0).trans rfl
      have pf := blk_frozen HPw15.out 0
      have pl := blk_lt HPw15.out
      have hqp : q ≠ p := blk_ne HPw15.out HXww15.out rfl
      refine wpAnyG_only (i := 13) (by kernel_rfl) rfl (fun K hK => ?_)
      go_simp
      clear hHeld
      refine named (fun w' : World => Below w1.heap.size w1 w' ∧ w'.heap[q]? = some (.cells (D.cells A0 c0 A3 c3 A4 c4) 28 (0, 0)) ∧ w'.heap[p]? = some (.cells #[.pointer v] 110 (0, 0)) ∧ w1.heap.size ≤ p ∧ (en = 0 → ∃ b, v = some ⟨b, 0, none⟩ ∧ Sh w1 w' D A0 c0 A3 c3 A4 c4 0 b ∧ b ≠ p)) ⟨below_set HBww15.out HPnw15.out, blk_far HXww15.out (by simpa using hqp) _, blk_set HPw15.out 0 _, HPnw15.out, fun e => let ⟨b, h1, h2, h3⟩ := HSHw15.out e; ⟨b, h1, h2.chg ((Chg.refl (fun k => k = p) _).setCell (p := ⟨p, 0, none⟩) (fun _ => rfl) _) (fun k hk => ⟨by subst hk; exact HPnw15.out, by subst hk; exact fun e => h3 e.symm⟩), h3⟩⟩ ?_
      rintro wz ⟨h0, h1, h2, h3, h4⟩
      have HB2 := Aside0.mk h0
      have HX2 := Aside0.mk h1
      have HP2 := Aside0.mk h2
      have HPn2 := Aside0.mk h3
      have HSH2 := Aside0.mk h4
      clear h0 h1 h2 h3 h4 p0 pf pl hqp
      refine hK.out _ _ ⟨(blk_cell (HX2.out) 0).trans rfl, (blk_cell (HX2.out) 1).trans rfl, (blk_cell (HX2.out) 2).trans rfl, (blk_cell (HX2.out) 3).trans rfl, (blk_cell (HX2.out) 4).trans rfl⟩ (by trivial) (fun hHeld _ => ?_)
      clear hK K
      refine putG ?_
      refine takeG 14 ?_
      clear hHeld
      refine doneG ?_
      refine ⟨(a1, a2, v, p), ?_, HB2.out, HX2.out, HP2.out, HPn2.out, HSH2.out⟩
      simp only [putL, List.foldl, Act.put, List.getElem_toArray, List.getElem_cons_zero, List.getElem_cons_succ, List.setIfInBounds_toArray, List.set_cons_zero, List.set_cons_succ]
  · rintro ⟨a1, a2, v, p⟩ W2 ⟨hb2, hx2, hp2, hpn2, hsh2⟩
    simp only [putL, List.foldl, Act.put, List.getElem_toArray, List.getElem_cons_zero, List.getElem_cons_succ, List.setIfInBounds_toArray, List.set_cons_zero, List.set_cons_succ] at hb2 hx2 hp2 hpn2 hsh2 ⊢
    have HB2 := Aside0.mk (HB.out.trans (hb2.mono HB.out.size))
    have HA2 := Aside0.mk (HA.out.below hb2)
    have HX2 := Aside0.mk hx2
    have HP2 := Aside0.mk hp2
    have HSH2 := Aside0.mk hsh2
    clear hb2 hx2 hp2 hpn2 hsh2
    by_cases h0 : en = 0
    · subst h0
      obtain ⟨b, rfl, hsh, hne⟩ := HSH2.out rfl
      have HS := Aside0.mk hsh
      have HV := Aside0.mk (enterE_ok HEN.out).1
      have hok := askUsed_ok (enterE_ok HEN.out).2.2.1
      clear hsh HSH2
      obtain ⟨k, hk⟩ : ∃ k : Nat, i = k := ⟨i.toNat, by omega⟩
      subst hk
      have hkd : k < D.dr.length := by omega
      clear hok
      obtain ⟨ad, e, hc0, hc1, hc2⟩ := at_dr (HA2.out.d) k hkd
      subst e
      obtain ⟨d, hd⟩ : ∃ d, rd_T72 D.dr k = d := ⟨_, rfl⟩
      have HD := Aside0.mk hd
      have vd := HV.out.dr k hkd
      rw [hd] at hc0 hc1 hc2 vd
      clear hd
      have HVD := Aside0.mk vd
      clear vd
      have hr : r = (List.range D.gl.length).filter (keepP (usedN D d (truthsL D 0))) := by rw [← HF.out, usedF, if_pos HEN.out, HD.out]
      have HR := Aside0.mk hr
      clear hr
      have hg3 := HV.out.g3
      have k4 : W2.cell? ⟨q, 4, none⟩ = some (.slice (some ad) D.dr.length c4) := (blk_cell HX2.out 4).trans rfl
      have kl := blk_lt HX2.out
      have kp : W2.cell? ⟨p, 0, none⟩ = some (.pointer (some ⟨b, 0, none⟩)) := (blk_cell HP2.out 0).trans rfl
      have kpl := blk_lt HP2.out
      gi_wp2_with (refine ⟨trivial, rfl, ?_⟩; gi_at_call 96; refine (callsIn_wide.2 (truths_calls _ b)).mono ?_; rintro e w4 ⟨rfl, rfl⟩)
      obtain ⟨B, hB⟩ : ∃ B, W2.heap.size = B := ⟨_, rfl⟩
      obtain ⟨V1, hV1⟩ : ∃ V1, (((W2.alloc (.cells #[.int .i64 d.f0, .int .i64 d.f1, .int .i64 d.f2] 72)).alloc (.cells #[.int .i64 0] 3)).alloc (.cells #[.pointer (some ⟨b, 0, none⟩)] 110)) = V1 := ⟨_, rfl⟩
      have hch : Chg (fun _ => False) W2 V1 := by rw [← hV1]; exact (((Chg.refl _ W2).alloc _).alloc _).alloc _
      have HB0 : Aside0 (V1.heap[W2.heap.size]? = some (.cells #[.int .i64 d.f0, .int .i64 d.f1, .int .i64 d.f2] 72 (0, 0))) := ⟨by rw [← hV1]; exact blk_alloc (blk_alloc (blk_new _ _) _) _⟩
      have HB1 : Aside0 (V1.heap[W2.heap.size + 1]? = some (.cells #[.int .i64 0] 3 (0, 0))) := ⟨by rw [← hV1]; exact blk_alloc (new_at (by simp) _) _⟩
      have HBs : Aside0 (V1.heap[W2.heap.size + 1 + 1]? = some (.cells #[.pointer (some ⟨b, 0, none⟩)] 110 (0, 0))) := ⟨by rw [← hV1]; exact new_at (by simp) _⟩
      rw [hV1]
      have HC1 := Aside0.mk hch
      clear hch hV1 hc0 hc1 hc2 k4 kl kp kpl
      rw [hB] at HB0 HB1 HBs ⊢
      have hb0 := blk_lt HS.out.sh
      have hq0 := blk_lt HX2.out
      have hp0 := blk_lt HP2.out
      rw [hB] at hb0 hq0 hp0
      have HOk : Aside0 (Ok w1 D A0 c0 A3 c3 (some ad) c4 0 b (B + 1 + 1) V1) := ⟨HS.out.chg HC1.out (fun _ x => x.elim), HBs.out⟩
      have z2 := blk_lt HBs.out
      have zb := HS.out.base.size
      refine rangeFunc (gf := 127) (lb := #[.pointer (some ⟨B + 1 + 1, 0, none⟩)]) rfl enters_truthsC (truthsC_iter w1 V1 D A0 c0 A3 c3 (some ad) c4 0 b (B + 1 + 1) HA.out HV.out (by decide) ⟨by omega, z2, by omega⟩) (fun _ => rfl)
        (fun pre Fp V => Fp = (fun k => k = B + 1) ∧ V.heap[B]? = some (.cells #[.int .i64 d.f0, .int .i64 d.f1, .int .i64 d.f2] 72 (0, 0)) ∧ V.heap[B + 1]? = some (.cells #[.int .i64 (usedN D d pre)] 3 (0, 0)) ∧ Chg (fun _ => False) W2 V)
        (fun c pre V => False)
        (fun k => k = B + 1) (fun k e => e.elim) (fun A C ho hc => ho.chg hc (fun k hk => by omega)) ?_ (fun c pre A B h => h.elim) ⟨rfl, HB0.out, HB1.out, HC1.out⟩ (fun k e => by omega) HOk.out ?_ ?_ (fun c pre V _ h => h.elim)
      · rintro pre Fp A C ⟨rfl, h1, h2, h3⟩ hc hok
        exact ⟨rfl, hc.heap h1 (fun e => e.elim id (fun e => by omega)), hc.heap h2 (fun e => e.elim id (fun e => by omega)), h3.then_ hc (fun k hk hx => hx.elim (fun x => x.elim) (fun x => by omega))⟩
      · rintro l pre x Fp V hl1 hl2 hfl hFp hpre hI hok
        dsimp only [encT]
        gi_wp2
        have HX0 : Aside0 ((V.alloc (.cells (vec8 (fn x)) 126)).heap[V.heap.size]? = some (.cells (vec8 (fn x)) 126 (0, 0))) := ⟨blk_new _ _⟩
        refine ⟨(Chg.refl _ _).alloc _, ?_⟩
        clear hI hok
        rintro V3 hc3 hs3 ⟨rfl, h1, h2, h3⟩ hok
        have HXn := Aside0.mk (hc3.heap HX0.out (by omega))
        clear HX0 hc3
        obtain ⟨Bx, hBx⟩ : ∃ Bx, V.heap.size = Bx := ⟨_, rfl⟩
        have z5 : B + 1 < Bx := by have := hFp (B + 1) rfl; omega
        clear hFp hs3
        rw [hBx] at HXn ⊢
        clear hBx
        have HUN := Aside0.mk (usedN_snoc D d pre x)
        have HUL := Aside0.mk (usedN_lt D d pre)
        have HRN : Aside0 (∀ i, 0 ≤ fn x i ∧ fn x i ≤ 60) := ⟨(mem_spans HV.out ((List.mem_filter.1 (hpre.subset (by simp))).1)).2⟩
        obtain ⟨un, hun⟩ : ∃ u, usedN D d pre = u := ⟨_, rfl⟩
        rw [hun] at HUN HUL h2
        clear hun
        obtain ⟨gx, hgx⟩ : ∃ gx, fn x = gx := ⟨_, rfl⟩
        rw [hgx] at HXn HRN HUN
        clear hgx
        have H1 := Aside0.mk h1
        have H2 := Aside0.mk h2
        have H3 := Aside0.mk h3
        have HK := Aside0.mk hok
        have HXq := Aside0.mk (h3.heap HX2.out id)
        have HPq := Aside0.mk (h3.heap HP2.out id)
        clear h1 h2 h3 hok
        have q0 : V3.cell? ⟨q, 0, none⟩ = some (.slice A0 D.gl.length c0) := (blk_cell HXq.out 0).trans rfl
        have ql := blk_lt HXq.out
        gi_wp2
        clear q0 ql
        gi_loopw [38] (fun j wr => ∃ k : Nat, k ≤ D.gl.length ∧ j = .int .i64 k ∧ Aside0 (wr.heap[B + 1]? = some (.cells #[.int .i64 (usedX D gx d k un)] 3 (0, 0))) ∧ Aside0 (Chg (fun k => k = B + 1) V3 wr)) (fun j _ => D.gl.length - (intOf j).toNat)
        case atStart => exact ⟨0, Nat.zero_le _, rfl, H2, ⟨Chg.refl _ _⟩⟩
        case round =>
          obtain ⟨k', hk', rfl, HU, HCk⟩ := hrel
          by_cases hlt : k' < D.gl.length
          · have hne1 : Bx ≠ B + 1 := by omega
            have HXk := Aside0.mk (HCk.out.heap HXn.out hne1)
            have HDk := Aside0.mk (HCk.out.heap H1.out (by omega))
            have HPk := Aside0.mk (HCk.out.heap HPq.out (by omega))
            have HKk := Aside0.mk (HK.out.chg HCk.out (fun k e => by omega))
            have x0 : wr.cell? ⟨Bx, 0, none⟩ = some (.int .i64 (gx 0)) := (blk_cell HXk.out 0).trans rfl
            have x1 : wr.cell? ⟨Bx, 1, none⟩ = some (.int .i64 (gx 1)) := (blk_cell HXk.out 1).trans rfl
            have x2 : wr.cell? ⟨Bx, 2, none⟩ = some (.int .i64 (gx 2)) := (blk_cell HXk.out 2).trans rfl
            have x3 : wr.cell? ⟨Bx, 3, none⟩ = some (.int .i64 (gx 3)) := (blk_cell HXk.out 3).trans rfl
            have x4 : wr.cell? ⟨Bx, 4, none⟩ = some (.int .i64 (gx 4)) := (blk_cell HXk.out 4).trans rfl
            have x5 : wr.cell? ⟨Bx, 5, none⟩ = some (.int .i64 (gx 5)) := (blk_cell HXk.out 5).trans rfl
            have x6 : wr.cell? ⟨Bx, 6, none⟩ = some (.int .i64 (gx 6)) := (blk_cell HXk.out 6).trans rfl
            have x7 : wr.cell? ⟨Bx, 7, none⟩ = some (.int .i64 (gx 7)) := (blk_cell HXk.out 7).trans rfl
            have xl := blk_lt HXk.out
            have d0 : wr.cell? ⟨B, 0, none⟩ = some (.int .i64 d.f0) := (blk_cell HDk.out 0).trans rfl
            have d1 : wr.cell? ⟨B, 1, none⟩ = some (.int .i64 d.f1) := (blk_cell HDk.out 1).trans rfl
            have d2 : wr.cell? ⟨B, 2, none⟩ = some (.int .i64 d.f2) := (blk_cell HDk.out 2).trans rfl
            have p0 : wr.cell? ⟨p, 0, none⟩ = some (.pointer (some ⟨b, 0, none⟩)) := (blk_cell HPk.out 0).trans rfl
            have hus := usedX_lt D gx d D.gl.length un HUL.out k' (by omega)
            have HSTEP : Aside0 (∀ t, thrB D gx d k' = t → usedX D gx d (k' + 1) un = if t = true then usedX D gx d k' un ||| 2 ^ k' else usedX D gx d k' un) := ⟨fun t ht => by rw [usedX, ht]⟩
            obtain ⟨us, huse⟩ : ∃ u, usedX D gx d k' un = u := ⟨_, rfl⟩
            rw [huse] at HU HSTEP hus
            clear huse
            have hor : bits .or .i64 (us : Int) (wrap64 (2 ^ k')) = ((us ||| 2 ^ k' : Nat) : Int) := or_pow (Nat.lt_trans hus (Nat.pow_lt_pow_right (by decide) (by omega))) (by omega)
            have hm64 : min k' 64 = k' := by omega
            obtain ⟨vd0, vd1, vd2, vd3, vd4, vd5⟩ := HVD.out
            have hsn := seen_calls w1 wr.drew D A0 c0 A3 c3 (some ad) c4 0 b gx k' d.f1 HV.out.s4 HRN.out (by omega) vd2 vd3 (HKk.out.s.chg (Chg.refl (fun _ => False) wr).drew (fun _ x => x.elim))
            obtain ⟨st, hst⟩ : ∃ st, seenTo gx k' d.f1 D.sp.length = st := ⟨_, rfl⟩
            have HST := Aside0.mk hst
            rw [hst] at hsn
            have HSN := Aside0.mk hsn
            clear hsn hst vd0 vd1 vd2 vd3 vd4 vd5 hus
            obtain ⟨d0v, hd0v⟩ : ∃ v, d.f0 = v := ⟨_, rfl⟩
            obtain ⟨d1v, hd1v⟩ : ∃ v, d.f1 = v := ⟨_, rfl⟩
            obtain ⟨d2v, hd2v⟩ : ∃ v, d.f2 = v := ⟨_, rfl⟩
            have HT : Aside0 (thrB D gx d k' = ((d0v == -1 || d0v == (k' : Int)) && ((st : Int) == d2v))) := ⟨by rw [thrB, hd0v, hd2v, HST.out]⟩
            rw [hd0v] at d0
            rw [hd1v] at d1 HSN
            rw [hd2v] at d2
            clear hd0v hd1v hd2v
            by_cases e1 : d0v = -1
            · have e1' : (d0v == -1) = true := by simp [e1]
              have HT2 : Aside0 (thrB D gx d k' = ((st : Int) == d2v)) := ⟨by rw [HT.out, e1']; simp⟩
              clear e1 HT
              gi_wp2
              refine wpIn_region_G (List.range 30) (S := fun w' : World => w'.cell? ⟨Bx, 0, none⟩ = some (.int .i64 (gx 0)) ∧ w'.cell? ⟨Bx, 1, none⟩ = some (.int .i64 (gx 1)) ∧ w'.cell? ⟨Bx, 2, none⟩ = some (.int .i64 (gx 2)) ∧ w'.cell? ⟨Bx, 3, none⟩ = some (.int .i64 (gx 3)) ∧ w'.cell? ⟨Bx, 4, none⟩ = some (.int .i64 (gx 4)) ∧ w'.cell? ⟨Bx, 5, none⟩ = some (.int .i64 (gx 5)) ∧ w'.cell? ⟨Bx, 6, none⟩ = some (.int .i64 (gx 6)) ∧ w'.cell? ⟨Bx, 7, none⟩ = some (.int .i64 (gx 7)) ∧ w'.cell? ⟨B, 0, none⟩ = some (.int .i64 d0v) ∧ w'.cell? ⟨B, 1, none⟩ = some (.int .i64 d1v) ∧ w'.cell? ⟨B, 2, none⟩ = some (.int .i64 d2v) ∧ w'.cell? ⟨p, 0, none⟩ = some (.pointer (some ⟨b, 0, none⟩))) (wideF_round l) (by kernel_rfl) (by kernel_rfl) (by rintro ⟨_, _, x⟩; exact x) ⟨x0, x1, x2, x3, x4, x5, x6, x7, d0, d1, d2, p0⟩ (fun hHeld => ?_)
              refine takeG 0 ?_
              refine takeG 1 ?_
              refine takeG 2 ?_
              refine takeG 3 ?_
              refine skipG 4 ?_
              refine skipG 5 ?_
              refine skipG 6 ?_
              refine skipG 7 ?_
              refine takeG 8 ?_
              refine takeG 9 ?_
              refine takeG 10 ?_
              refine takeG 11 ?_
              refine takeG 12 ?_
              refine takeG 13 ?_
              refine takeG 14 ?_
              refine takeG 15 ?_
              refine takeG 17 ?_
              refine takeG 18 ?_
              refine wpAnyG_only (i := 16) (by kernel_rfl) rfl (fun K hK => ?_)
              go_simp
              refine HSN.out.mono ?_
              rintro e w5 ⟨rfl, hc⟩
              have HC5 := Aside0.mk ((Chg.refl (fun _ => False) wr).drew.trans hc)
              refine hK.out _ _ ⟨hc.cell hHeld.1 id, hc.cell hHeld.2.1 id, hc.cell hHeld.2.2.1 id, hc.cell hHeld.2.2.2.1 id, hc.cell hHeld.2.2.2.2.1 id, hc.cell hHeld.2.2.2.2.2.1 id, hc.cell hHeld.2.2.2.2.2.2.1 id, hc.cell hHeld.2.2.2.2.2.2.2.1 id, hc.cell hHeld.2.2.2.2.2.2.2.2.1 id, hc.cell hHeld.2.2.2.2.2.2.2.2.2.1 id, hc.cell hHeld.2.2.2.2.2.2.2.2.2.2.1 id, hc.cell hHeld.2.2.2.2.2.2.2.2.2.2.2 id⟩ (by trivial) (fun hHeld _ => ?_)
              clear hK K hc
              refine putG ?_
              obtain ⟨z, hz⟩ : ∃ z, ((st : Int) == d2v) = z := ⟨_, rfl⟩
              have HT3 := Aside0.mk (HT2.out.trans hz)
              refine takeG 19 ?_
              refine takeG 20 ?_
              refine doneG ?_
              clear hHeld
              have HU5 := Aside0.mk (HC5.out.heap HU.out id)
              cases z
              · gi_wp2
                go_roundw
                case rel => exact ⟨k' + 1, by omega, by go_num, ⟨by rw [HSTEP.out _ HT3.out]; exact HU5.out⟩, ⟨HCk.out.then_ HC5.out (fun _ _ x => x.elim)⟩⟩
                case measure => simp [intOf]; omega
              · have b1 : w5.cell? ⟨B + 1, 0, none⟩ = some (.int .i64 us) := (blk_cell HU5.out 0).trans rfl
                have bf := blk_frozen HU5.out 0
                have bl := blk_lt HU5.out
                gi_wp2
                refine wpIn_region_G (List.range 4) (S := fun w' : World => w'.cell? ⟨B + 1, 0, none⟩ = some (.int .i64 us)) (wideF_round l) (by kernel_rfl) (by kernel_rfl) (by rintro ⟨_, _, x⟩; exact x) b1 (fun hHeld => ?_)
                refine takeG 0 ?_
                refine takeG 1 ?_
                refine takeG 2 ?_
                refine takeG 3 ?_
                refine wpAnyG_last (i := 4) (by kernel_rfl) rfl (by kernel_rfl) (by kernel_rfl) (fun K hK => ?_)
                go_simp
                refine hK.out _ _ ?_
                clear hK K
                refine doneG ?_
                clear hHeld
                gi_wp2
                go_roundw
                case rel => exact ⟨k' + 1, by omega, by go_num, ⟨by rw [HSTEP.out _ HT3.out, if_pos rfl, ← hor]; exact blk_drew (blk_set HU5.out 0 _)⟩, ⟨(HCk.out.then_ HC5.out (fun _ _ x => x.elim)).then_ (((Chg.refl (fun k => k = B + 1) w5).setCell (p := ⟨B + 1, 0, none⟩) (fun _ => rfl) _).drew) (fun k _ e => e)⟩⟩
                case measure => simp [intOf]; omega
            · have e1' : (d0v == -1) = false := by simp [e1]
              by_cases e2 : d0v = (k' : Int)
              · have e2' : (d0v == (k' : Int)) = true := by simp [e2]
                have HT2 : Aside0 (thrB D gx d k' = ((st : Int) == d2v)) := ⟨by rw [HT.out, e2']; simp⟩
                clear e1 e2 HT
                gi_wp2
                refine wpIn_region_G (List.range 30) (S := fun w' : World => w'.cell? ⟨Bx, 0, none⟩ = some (.int .i64 (gx 0)) ∧ w'.cell? ⟨Bx, 1, none⟩ = some (.int .i64 (gx 1)) ∧ w'.cell? ⟨Bx, 2, none⟩ = some (.int .i64 (gx 2)) ∧ w'.cell? ⟨Bx, 3, none⟩ = some (.int .i64 (gx 3)) ∧ w'.cell? ⟨Bx, 4, none⟩ = some (.int .i64 (gx 4)) ∧ w'.cell? ⟨Bx, 5, none⟩ = some (.int .i64 (gx 5)) ∧ w'.cell? ⟨Bx, 6, none⟩ = some (.int .i64 (gx 6)) ∧ w'.cell? ⟨Bx, 7, none⟩ = some (.int .i64 (gx 7)) ∧ w'.cell? ⟨B, 0, none⟩ = some (.int .i64 d0v) ∧ w'.cell? ⟨B, 1, none⟩ = some (.int .i64 d1v) ∧ w'.cell? ⟨B, 2, none⟩ = some (.int .i64 d2v) ∧ w'.cell? ⟨p, 0, none⟩ = some (.pointer (some ⟨b, 0, none⟩))) (wideF_round l) (by kernel_rfl) (by kernel_rfl) (by rintro ⟨_, _, x⟩; exact x) ⟨x0, x1, x2, x3, x4, x5, x6, x7, d0, d1, d2, p0⟩ (fun hHeld => ?_)
                refine takeG 0 ?_
                refine takeG 1 ?_
                refine takeG 2 ?_
                refine takeG 3 ?_
                refine takeG 4 ?_
                refine takeG 5 ?_
                refine takeG 6 ?_
                refine takeG 7 ?_
                refine takeG 8 ?_
                refine takeG 9 ?_
                refine takeG 10 ?_
                refine takeG 11 ?_
                refine takeG 12 ?_
                refine takeG 13 ?_
                refine takeG 14 ?_
                refine takeG 15 ?_
                refine takeG 17 ?_
                refine takeG 18 ?_
                refine wpAnyG_only (i := 16) (by kernel_rfl) rfl (fun K hK => ?_)
                go_simp
                refine HSN.out.mono ?_
                rintro e w5 ⟨rfl, hc⟩
                have HC5 := Aside0.mk ((Chg.refl (fun _ => False) wr).drew.trans hc)
                refine hK.out _ _ ⟨hc.cell hHeld.1 id, hc.cell hHeld.2.1 id, hc.cell hHeld.2.2.1 id, hc.cell hHeld.2.2.2.1 id, hc.cell hHeld.2.2.2.2.1 id, hc.cell hHeld.2.2.2.2.2.1 id, hc.cell hHeld.2.2.2.2.2.2.1 id, hc.cell hHeld.2.2.2.2.2.2.2.1 id, hc.cell hHeld.2.2.2.2.2.2.2.2.1 id, hc.cell hHeld.2.2.2.2.2.2.2.2.2.1 id, hc.cell hHeld.2.2.2.2.2.2.2.2.2.2.1 id, hc.cell hHeld.2.2.2.2.2.2.2.2.2.2.2 id⟩ (by trivial) (fun hHeld _ => ?_)
                clear hK K hc
                refine putG ?_
                obtain ⟨z, hz⟩ : ∃ z, ((st : Int) == d2v) = z := ⟨_, rfl⟩
                have HT3 := Aside0.mk (HT2.out.trans hz)
                refine takeG 19 ?_
                refine takeG 20 ?_
                refine doneG ?_
                clear hHeld
                have HU5 := Aside0.mk (HC5.out.heap HU.out id)
                cases z
                · gi_wp2
                  go_roundw
                  case rel => exact ⟨k' + 1, by omega, by go_num, ⟨by rw [HSTEP.out _ HT3.out]; exact HU5.out⟩, ⟨HCk.out.then_ HC5.out (fun _ _ x => x.elim)⟩⟩
                  case measure => simp [intOf]; omega
                · have b1 : w5.cell? ⟨B + 1, 0, none⟩ = some (.int .i64 us) := (blk_cell HU5.out 0).trans rfl
                  have bf := blk_frozen HU5.out 0
                  have bl := blk_lt HU5.out
                  gi_wp2
                  refine wpIn_region_G (List.range 4) (S := fun w' : World => w'.cell? ⟨B + 1, 0, none⟩ = some (.int .i64 us)) (wideF_round l) (by kernel_rfl) (by kernel_rfl) (by rintro ⟨_, _, x⟩; exact x) b1 (fun hHeld => ?_)
                  refine takeG 0 ?_
                  refine takeG 1 ?_
                  refine takeG 2 ?_
                  refine takeG 3 ?_
                  refine wpAnyG_last (i := 4) (by kernel_rfl) rfl (by kernel_rfl) (by kernel_rfl) (fun K hK => ?_)
                  go_simp
                  refine hK.out _ _ ?_
                  clear hK K
                  refine doneG ?_
                  clear hHeld
                  gi_wp2
                  go_roundw
                  case rel => exact ⟨k' + 1, by omega, by go_num, ⟨by rw [HSTEP.out _ HT3.out, if_pos rfl, ← hor]; exact blk_drew (blk_set HU5.out 0 _)⟩, ⟨(HCk.out.then_ HC5.out (fun _ _ x => x.elim)).then_ (((Chg.refl (fun k => k = B + 1) w5).setCell (p := ⟨B + 1, 0, none⟩) (fun _ => rfl) _).drew) (fun k _ e => e)⟩⟩
                  case measure => simp [intOf]; omega
              · have e2' : (d0v == (k' : Int)) = false := by simp [e2]
                have HT2 : Aside0 (thrB D gx d k' = false) := ⟨by rw [HT.out, e1', e2']; simp⟩
                clear e1 e2 HT
                gi_wp2
                refine wpIn_region_G (List.range 30) (S := fun w' : World => w'.cell? ⟨Bx, 0, none⟩ = some (.int .i64 (gx 0)) ∧ w'.cell? ⟨Bx, 1, none⟩ = some (.int .i64 (gx 1)) ∧ w'.cell? ⟨Bx, 2, none⟩ = some (.int .i64 (gx 2)) ∧ w'.cell? ⟨Bx, 3, none⟩ = some (.int .i64 (gx 3)) ∧ w'.cell? ⟨Bx, 4, none⟩ = some (.int .i64 (gx 4)) ∧ w'.cell? ⟨Bx, 5, none⟩ = some (.int .i64 (gx 5)) ∧ w'.cell? ⟨Bx, 6, none⟩ = some (.int .i64 (gx 6)) ∧ w'.cell? ⟨Bx, 7, none⟩ = some (.int .i64 (gx 7)) ∧ w'.cell? ⟨B, 0, none⟩ = some (.int .i64 d0v) ∧ w'.cell? ⟨B, 1, none⟩ = some (.int .i64 d1v) ∧ w'.cell? ⟨B, 2, none⟩ = some (.int .i64 d2v) ∧ w'.cell? ⟨p, 0, none⟩ = some (.pointer (some ⟨b, 0, none⟩))) (wideF_round l) (by kernel_rfl) (by kernel_rfl) (by rintro ⟨_, _, x⟩; exact x) ⟨x0, x1, x2, x3, x4, x5, x6, x7, d0, d1, d2, p0⟩ (fun hHeld => ?_)
                refine takeG 0 ?_
                refine takeG 1 ?_
                refine takeG 2 ?_
                refine takeG 3 ?_
                refine takeG 4 ?_
                refine takeG 5 ?_
                refine takeG 6 ?_
                refine takeG 7 ?_
                refine takeG 8 ?_
                refine takeG 9 ?_
                refine skipG 10 ?_
                refine skipG 11 ?_
                refine skipG 12 ?_
                refine skipG 13 ?_
                refine skipG 14 ?_
                refine skipG 15 ?_
                refine skipG 16 ?_
                refine skipG 17 ?_
                refine skipG 18 ?_
                refine skipG 19 ?_
                refine takeG 20 ?_
                refine doneG ?_
                clear hHeld
                gi_wp2
                go_roundw
                case rel => exact ⟨k' + 1, by omega, by go_num, ⟨by rw [HSTEP.out _ HT2.out]; exact HU.out⟩, ⟨HCk.out.drew⟩⟩
                case measure => simp [intOf]; omega
          · obtain rfl : k' = D.gl.length := by omega
            gi_wp2
            exact ⟨_, ⟨rfl, HCk.out.heap H1.out (by omega), by rw [HUN.out]; exact HU.out, H3.out.then_ HCk.out (fun k hk e => by omega)⟩, HCk.out, HK.out.chg HCk.out (fun k e => by omega), fun j e => ⟨by have := HCk.out.size; have := blk_lt HXn.out; omega, fun _ => e⟩⟩
      · rintro Fp V ⟨rfl, h1, h2, h3⟩ hok hfD hD hsz
        have H2 := Aside0.mk h2
        have H3 := Aside0.mk h3
        have HDD := Aside0.mk hD
        have hun := usedN_lt D d (truthsL D 0)
        obtain ⟨un, hune⟩ : ∃ u, usedN D d (truthsL D 0) = u := ⟨_, rfl⟩
        rw [hune] at H2 hun HR
        clear h1 h2 h3 hok hfD hD hune
        have HXv := Aside0.mk (H3.out.heap HX2.out id)
        have a1' : V.cell? ⟨B + 1, 0, none⟩ = some (.int .i64 un) := (blk_cell H2.out 0).trans rfl
        have l2 := blk_lt H2.out
        have q0 : V.cell? ⟨q, 0, none⟩ = some (.slice A0 D.gl.length c0) := (blk_cell HXv.out 0).trans rfl
        have ql := blk_lt HXv.out
        have h62 : un < 2 ^ 62 := Nat.lt_trans hun (Nat.pow_lt_pow_right (by decide) (by omega))
        have HLC := Aside0.mk (list_calls un D.gl.length V h62 (by omega))
        rw [← HR.out] at HLC
        clear h62
        gi_wp2_with (refine ⟨trivial, rfl, ?_⟩; refine (callsIn_wide.2 HLC.out).mono ?_; rintro e V4 ⟨⟨gb, hgb, rfl, L, hL, hLn, hLt⟩, hc⟩; have HL := Aside0.mk hL; have HLx := Aside0.mk (And.intro hLn hLt); have HC4 := Aside0.mk hc; clear hL hLn hLt hc)
        have hdd := HC4.out.heap HDD.out id
        have hcd := (Chg.refl (fun k => k = V1.heap.size) V4).putObj (l := V1.heap.size) (fun _ => rfl) (.deferred none)
        have hng : gb ≠ V1.heap.size := by omega
        have hall : Chg (fun k => B ≤ k) W2 (V4.putObj V1.heap.size (.deferred none)) := ((H3.out.mono (fun _ _ x => x.elim)).trans (HC4.out.mono (fun _ _ x => x.elim))).trans (hcd.mono (fun k _ e => by omega))
        have hVs := H3.out.size
        have hqs := HB2.out.size
        refine leave_mark hdd (v := .tuple #[.slice (some ⟨gb, 0, none⟩) r.length D.gl.length, .int .i64 0]) ((results_tmp2 rfl _ _ _).trans rfl) ⟨⟨_, rfl, .inr ⟨gb, L, _, rfl, by omega, HL.out.chg hcd hng, HLx.out.1, by omega, HLx.out.2⟩⟩, HB2.out.trans ((hall.below (fun k _ e => e) (by omega)).mono (by omega))⟩
    · have hr : r = [] := by rw [← HF.out, usedF, if_neg (by rw [HEN.out]; exact h0)]
      subst hr
      gi_wp2
      exact leave_none (v := .tuple #[.slice none 0 0, .int .i64 en]) ((results_tmp2 rfl _ _ _).trans rfl) ⟨⟨_, rfl, .inl ⟨rfl, rfl⟩⟩, HB2.out⟩
end Go.Proofs.Ytgoidclnccjdeaa.D
end
section
/- Package glass: Sees, Part. -/
namespace Go.Proofs.Ytgoidclnccjdeaa.D
open Go Go.RowKit Go.Proofs.YtgoidclnccjdeaaK Go.Proofs.YtgoidclnccjdeaaW.PrintWords Go.Proofs.YtgoidclnccjdeaaW.PrintLast Go.Proofs.YtgoidclnccjdeaaW.PrintMore Go.Proofs.Ytgoidclnccjdeaa.PR Go.Proofs.Ytgoidclnccjdeaa.M
set_option linter.unusedVariables false
set_option linter.unusedSimpArgs false
attribute [local go_sem] Oper.semAt_some

theorem results_tmp3' {P : Program} {fn : Func} {p q r : Tmp} (h : fn.results = #[.tmp p, .tmp q, .tmp r]) (tmps : Array Value) (w : World) (a b c : Value) (ha : tmps.getD p undef = a) (hb : tmps.getD q undef = b) (hc : tmps.getD r undef = c) :
    (results fn tmps).run P w = .ok (.tuple #[a, b, c]) w := by
  have h1 : tmps[p]?.getD undef = a := by simpa using ha
  have h2 : tmps[q]?.getD undef = b := by simpa using hb
  have h3 : tmps[r]?.getD undef = c := by simpa using hc
  simp [results, h, h1, h2, h3]
def sureN (D : Dat) (g : Nat) (y : Int) (l : List (List Int)) : Nat := (sureO D g y l).getD 0
theorem sureO_some {D : Dat} {g : Nat} {y : Int} {l : List (List Int)} (h : l ≠ []) : sureO D g y l = some (sureN D g y l) := by
  unfold sureN
  cases hs : sureO D g y l with
  | some a => rfl
  | none =>
    exfalso
    rcases List.eq_nil_or_concat l with e | ⟨t, x, e⟩
    · exact h e
    · rw [List.concat_eq_append] at e
      rw [e, sureO_snoc] at hs
      cases hs
theorem enterE_some {D : Dat} {l : List (Bool × Int)} (h : enterE D l = 0) : truthsL D 0 ≠ [] := by
  unfold enterE at h
  split at h
  · next h1 => exact absurd h h1
  · split at h
    · next h1 => exact absurd h h1
    · split at h
      · cases h
      · next h2 => intro e; rw [e] at h2; simp at h2
theorem sureN_lt (D : Dat) (h : D.sp.length ≤ 4) (g : Nat) (y : Int) (l : List (List Int)) : sureN D g y l < 2 ^ 62 := by
  unfold sureN
  cases hs : sureO D g y l with
  | none => simp
  | some a => simpa using sureO_lt D h g y l a hs
def askSees (D : Dat) (g y : Int) : List (Bool × Int) := [(amongB D.gl.length [g], 4), (datedB y, 7)]
theorem askSees_ok {D : Dat} {g y : Int} (h : askE (askSees D g y) = 0) : 0 ≤ g ∧ g < D.gl.length ∧ 0 ≤ y ∧ y ≤ 9 := by
  unfold askSees at h
  by_cases h1 : outB 0 ((D.gl.length : Int) - 1) [g] = false
  · by_cases h2 : outB 0 9 [y] = false
    · simp only [outB_cons] at h1 h2
      obtain ⟨⟨x1, x2⟩, _⟩ := h1
      obtain ⟨⟨x3, x4⟩, _⟩ := h2
      exact ⟨by omega, by omega, by omega, by omega⟩
    · simp [askE, amongB, datedB, h1, h2] at h
  · simp [askE, amongB, h1] at h
def seesF (D : Dat) (g y : Int) : List Nat × List Nat :=
  if enterE D (askSees D g y) = 0 then ((List.range D.sp.length).filter (keepP (sureN D g.toNat y (truthsL D 0))), (List.range D.sp.length).filter (keepP (mayN D g.toNat y (truthsL D 0)))) else ([], [])

set_option maxRecDepth 100000 in
set_option maxHeartbeats 2000000 in
theorem Sees_calls (D : Dat) (A0 : Option Addr) (c0 : Nat) (A3 : Option Addr) (c3 : Nat) (A4 : Option Addr) (c4 : Nat) (g y : Int) (w : World) (h : Arg w D A0 c0 A3 c3 A4 c4) :
    Calls Try.prog 29 #[.agg (D.cells A0 c0 A3 c3 A4 c4), .int .i64 g, .int .i64 y] w
      fun e w' => (∃ u v, e = .returned (.tuple #[u, v, .int .i64 (enterE D (askSees D g y))]) ∧ NewRow w' w.heap.size u (seesF D g y).1 ∧ ∃ m, (∀ k, u.ownBlock = some k → k < m) ∧ w.heap.size ≤ m ∧ NewRow w' m v (seesF D g y).2) ∧ Below w.heap.size w w' := by
  have HX := Aside0.mk (blk_new w (.cells (D.cells A0 c0 A3 c3 A4 c4) 28))
  have HB := Aside0.mk (below_alloc (Below.refl w.heap.size w) (.cells (D.cells A0 c0 A3 c3 A4 c4) 28))
  have HA := Aside0.mk (h.below HB.out)
  have hlen : D.gl.length ≤ 9223372036854775807 := h.g.2.1
  have hsz : w.heap.size < (w.alloc (.cells (D.cells A0 c0 A3 c3 A4 c4) 28)).heap.size := by simp
  clear h
  obtain ⟨f, hf⟩ : ∃ f, seesF D g y = f := ⟨_, rfl⟩
  have HF := Aside0.mk hf
  rw [hf]
  clear hf
  obtain ⟨f1, f2⟩ := f
  go_enter Try.func29, Try.ntmps29
  go_upto_region 1 with (fail)
  generalize w.alloc (.cells (D.cells A0 c0 A3 c3 A4 c4) 28) = w1 at HX HB HA hsz ⊢
  obtain ⟨q, hq⟩ : ∃ q, w.heap.size = q := ⟨_, rfl⟩
  rw [hq] at HX hsz ⊢
  obtain ⟨ab, hab⟩ : ∃ ab, amongB D.gl.length [g] = ab := ⟨_, rfl⟩
  have HAB := Aside0.mk hab
  obtain ⟨dt, hdt⟩ : ∃ dt, datedB y = dt := ⟨_, rfl⟩
  have HDT := Aside0.mk hdt
  clear hab hdt
  have hb0 : Below w1.heap.size w1 w1.drew := below_drew1 (Below.refl _ _)
  refine wp_region_G (List.range 20) (S := fun w' : World => w'.cell? ⟨q, 0, none⟩ = some (.slice A0 D.gl.length c0) ∧ w'.cell? ⟨q, 1, none⟩ = some (.int .i64 D.lo) ∧ w'.cell? ⟨q, 2, none⟩ = some (.int .i64 D.hi) ∧ w'.cell? ⟨q, 3, none⟩ = some (.slice A3 D.sp.length c3) ∧ w'.cell? ⟨q, 4, none⟩ = some (.slice A4 D.dr.length c4) ∧ Aside0 (Below w1.heap.size w1 w')) (by kernel_rfl) ⟨(blk_cell (blk_below HX.out hb0) 0).trans rfl, (blk_cell (blk_below HX.out hb0) 1).trans rfl, (blk_cell (blk_below HX.out hb0) 2).trans rfl, (blk_cell (blk_below HX.out hb0) 3).trans rfl, (blk_cell (blk_below HX.out hb0) 4).trans rfl, ⟨hb0⟩⟩ (fun hHeld => ?_)
  clear hb0
  refine takeG 0 ?_
  refine takeG 1 ?_
  refine takeG 2 ?_
  refine takeG 3 ?_
  refine takeG 4 ?_
  refine takeG 7 ?_
  have hB1 := hHeld.2.2.2.2.2.out
  refine wpAnyG_only (i := 5) (by kernel_rfl) rfl (fun K hK => ?_)
  go_simp
  clear hHeld
  refine hK.out _ _ ?_ (by trivial) (fun hHeld _ => ?_)
  · exact ⟨(blk_cell (blk_below HX.out (by repeat (first | assumption | exact Below.refl _ _ | apply below_alloc | apply below_drew1))) 0).trans rfl, (blk_cell (blk_below HX.out (by repeat (first | assumption | exact Below.refl _ _ | apply below_alloc | apply below_drew1))) 1).trans rfl, (blk_cell (blk_below HX.out (by repeat (first | assumption | exact Below.refl _ _ | apply below_alloc | apply below_drew1))) 2).trans rfl, (blk_cell (blk_below HX.out (by repeat (first | assumption | exact Below.refl _ _ | apply below_alloc | apply below_drew1))) 3).trans rfl, (blk_cell (blk_below HX.out (by repeat (first | assumption | exact Below.refl _ _ | apply below_alloc | apply below_drew1))) 4).trans rfl, ⟨(by repeat (first | assumption | exact Below.refl _ _ | apply below_alloc | apply below_drew1))⟩⟩
  clear hK K
  refine putG ?_
  clear hB1
  have hB2 := hHeld.2.2.2.2.2.out
  refine wpAnyG_only (i := 6) (by kernel_rfl) rfl (fun K hK => ?_)
  go_simp
  refine (among_calls D.gl.length [g] _ _ _ hlen (Kd.C_drew (lit1 g rfl))).mono ?_
  rintro e w2 ⟨rfl, hb⟩
  rw [HAB.out]
  clear hHeld
  refine hK.out _ _ ?_ (by trivial) (fun hHeld _ => ?_)
  · exact ⟨(blk_cell (blk_below HX.out (hB2.trans (hb.mono hB2.size))) 0).trans rfl, (blk_cell (blk_below HX.out (hB2.trans (hb.mono hB2.size))) 1).trans rfl, (blk_cell (blk_below HX.out (hB2.trans (hb.mono hB2.size))) 2).trans rfl, (blk_cell (blk_below HX.out (hB2.trans (hb.mono hB2.size))) 3).trans rfl, (blk_cell (blk_below HX.out (hB2.trans (hb.mono hB2.size))) 4).trans rfl, ⟨(hB2.trans (hb.mono hB2.size))⟩⟩
  clear hK K
  refine putG ?_
  clear hB2 hb
  have hB3 := hHeld.2.2.2.2.2.out
  refine wpAnyG_only (i := 8) (by kernel_rfl) rfl (fun K hK => ?_)
  go_simp
  refine (dated_calls y _).mono ?_
  rintro e w2' ⟨rfl, hb⟩
  rw [HDT.out]
  clear hHeld
  refine hK.out _ _ ?_ (by trivial) (fun hHeld _ => ?_)
  · exact ⟨(blk_cell (blk_below HX.out (hB3.trans (hb.mono hB3.size))) 0).trans rfl, (blk_cell (blk_below HX.out (hB3.trans (hb.mono hB3.size))) 1).trans rfl, (blk_cell (blk_below HX.out (hB3.trans (hb.mono hB3.size))) 2).trans rfl, (blk_cell (blk_below HX.out (hB3.trans (hb.mono hB3.size))) 3).trans rfl, (blk_cell (blk_below HX.out (hB3.trans (hb.mono hB3.size))) 4).trans rfl, ⟨(hB3.trans (hb.mono hB3.size))⟩⟩
  clear hK K
  refine putG ?_
  clear hB3 hb
  have hB4 := hHeld.2.2.2.2.2.out
  refine wpAnyG_only (i := 9) (by kernel_rfl) rfl (fun K hK => ?_)
  go_simp
  clear hHeld
  refine hK.out _ _ ?_ (by trivial) (fun hHeld _ => ?_)
  · exact ⟨(blk_cell (blk_below HX.out (by repeat (first | assumption | exact Below.refl _ _ | apply below_alloc | apply below_drew1))) 0).trans rfl, (blk_cell (blk_below HX.out (by repeat (first | assumption | exact Below.refl _ _ | apply below_alloc | apply below_drew1))) 1).trans rfl, (blk_cell (blk_below HX.out (by repeat (first | assumption | exact Below.refl _ _ | apply below_alloc | apply below_drew1))) 2).trans rfl, (blk_cell (blk_below HX.out (by repeat (first | assumption | exact Below.refl _ _ | apply below_alloc | apply below_drew1))) 3).trans rfl, (blk_cell (blk_below HX.out (by repeat (first | assumption | exact Below.refl _ _ | apply below_alloc | apply below_drew1))) 4).trans rfl, ⟨(by repeat (first | assumption | exact Below.refl _ _ | apply below_alloc | apply below_drew1))⟩⟩
  clear hK K
  refine putG ?_
  clear hB4
  have hB5 := hHeld.2.2.2.2.2.out
  refine wpAnyG_only (i := 10) (by kernel_rfl) rfl (fun K hK => ?_)
  go_simp
  refine (enter_calls D A0 c0 A3 c3 A4 c4 (askSees D g y) (some ⟨_, 0, none⟩) 2 _ (HA.out.below hB5) (AskC.blk (blk_new _ _) (by rw [askSees, HAB.out, HDT.out]; rfl) (by simp [askSees]) (by simp [askSees]))).mono ?_
  rintro e w3 ⟨v, rfl, hb, hsh⟩
  have HSH := Aside0.mk hsh
  have hBE := hB5
  clear hsh
  clear hHeld
  refine hK.out _ _ ?_ (by trivial) (fun hHeld _ => ?_)
  · exact ⟨(blk_cell (blk_below HX.out (hB5.trans (hb.mono hB5.size))) 0).trans rfl, (blk_cell (blk_below HX.out (hB5.trans (hb.mono hB5.size))) 1).trans rfl, (blk_cell (blk_below HX.out (hB5.trans (hb.mono hB5.size))) 2).trans rfl, (blk_cell (blk_below HX.out (hB5.trans (hb.mono hB5.size))) 3).trans rfl, (blk_cell (blk_below HX.out (hB5.trans (hb.mono hB5.size))) 4).trans rfl, ⟨(hB5.trans (hb.mono hB5.size))⟩⟩
  clear hK K
  refine putG ?_
  clear hB5 hb
  refine takeG 11 ?_
  refine takeG 12 ?_
  refine takeG 13 ?_
  refine takeG 14 ?_
  refine takeG 15 ?_
  have hB6 := hHeld.2.2.2.2.2.out
  clear hHeld
  refine doneG ?_
  replace HX := Aside0.mk (blk_below HX.out hB6)
  replace HB := Aside0.mk (HB.out.trans (hB6.mono HB.out.size))
  have hsz3 := hB6.size
  clear hB6
  obtain ⟨en, hen⟩ : ∃ en, enterE D (askSees D g y) = en := ⟨_, rfl⟩
  have HEN := Aside0.mk hen
  rw [hen]
  clear hen
  by_cases h0 : en = 0
  · subst h0
    obtain ⟨b, rfl, hsh⟩ := HSH.out HEN.out
    have HS := Aside0.mk hsh
    have HV := Aside0.mk (enterE_ok HEN.out).1
    have hok := askSees_ok (enterE_ok HEN.out).2.2.1
    have HTS := Aside0.mk (enterE_some HEN.out)
    clear hsh HSH
    obtain ⟨hg0, hg1, hy0, hy9⟩ := hok
    obtain ⟨n, rfl⟩ := Int.eq_ofNat_of_zero_le hg0
    have hg3 := HV.out.g3
    have hs4 := HV.out.s4
    have hf : ((f1, f2) : List Nat × List Nat) = ((List.range D.sp.length).filter (keepP (sureN D n y (truthsL D 0))), (List.range D.sp.length).filter (keepP (mayN D n y (truthsL D 0)))) := by rw [← HF.out, seesF, if_pos HEN.out]; rfl
    have HF1 := Aside0.mk (congrArg Prod.fst hf)
    have HF2 := Aside0.mk (congrArg Prod.snd hf)
    simp only at HF1 HF2
    clear hf
    have HAL := always_calls _ w3 D A0 c0 A3 c3 A4 c4 0 b n y (HA.out.below hBE) HV.out (by decide) (by omega) hy0 hy9 HS.out
    rw [sureO_some HTS.out, encO] at HAL
    have hsu := sureN_lt D hs4 n y (truthsL D 0)
    have hma := mayN_lt D hs4 n y (truthsL D 0)
    obtain ⟨su, hsue⟩ : ∃ s, sureN D n y (truthsL D 0) = s := ⟨_, rfl⟩
    obtain ⟨ma, hmae⟩ : ∃ s, mayN D n y (truthsL D 0) = s := ⟨_, rfl⟩
    rw [hsue] at HAL hsu HF1
    rw [hmae] at HAL hma HF2
    have HAL' := Aside0.mk HAL
    clear HAL hsue hmae hg0 hy0 hy9
    go_wp2_with (refine HAL'.out.mono ?_; rintro e w4 ⟨rfl, hc, hs⟩; have HC4 := Aside0.mk hc; clear hc hs)
    replace HX := Aside0.mk (HC4.out.heap HX.out id)
    have hb4 := HC4.out.below (B := w3.heap.size) (fun _ _ x => x.elim) (Nat.le_refl _)
    replace HB := Aside0.mk (HB.out.trans (hb4.mono HB.out.size))
    have hsz4 := HC4.out.size
    clear hb4
    have k2 : w4.cell? ⟨q, 3, none⟩ = some (.slice A3 D.sp.length c3) := (blk_cell HX.out 3).trans rfl
    have kl := blk_lt HX.out
    refine wp_region_G (List.range 20) (S := fun w' : World => w'.cell? ⟨q, 3, none⟩ = some (.slice A3 D.sp.length c3)) (by kernel_rfl) k2 (fun hHeld => ?_)
    refine takeG 0 ?_
    refine takeG 1 ?_
    refine takeG 2 ?_
    refine takeG 3 ?_
    refine takeG 5 ?_
    refine takeG 6 ?_
    refine takeG 7 ?_
    refine takeG 8 ?_
    refine wpAnyG_only (i := 4) (by kernel_rfl) rfl (fun K hK => ?_)
    go_simp
    refine (list_calls su D.sp.length _ hsu (by omega)).mono ?_
    rintro e w5 ⟨⟨ga, hga, rfl, La, hLa, hLan, hLat⟩, hc⟩
    rw [← HF1.out] at hLat ⊢
    have HLA := Aside0.mk (And.intro hLa (And.intro hLan hLat))
    have HC5 := Aside0.mk ((Chg.refl (fun _ => False) w4).drew.trans hc)
    have hga' : w4.heap.size ≤ ga := hga
    refine hK.out _ _ (hc.cell hHeld id) (by trivial) (fun hHeld _ => ?_)
    clear hK K hc hLa hLan hLat hga
    refine putG ?_
    refine wpAnyG_only (i := 9) (by kernel_rfl) rfl (fun K hK => ?_)
    go_simp
    refine (list_calls ma D.sp.length _ hma (by omega)).mono ?_
    rintro e w6 ⟨⟨gb, hgb, rfl, Lb, hLb, hLbn, hLbt⟩, hc⟩
    rw [← HF2.out] at hLbt ⊢
    have HLB := Aside0.mk (And.intro hLb (And.intro hLbn hLbt))
    have HC6 := Aside0.mk hc
    refine hK.out _ _ (hc.cell hHeld id) (by trivial) (fun hHeld _ => ?_)
    clear hK K hc hLb hLbn hLbt
    refine putG ?_
    refine takeG 10 ?_
    refine takeG 11 ?_
    refine takeG 12 ?_
    clear hHeld
    refine doneG ?_
    have hla := HLA.out.1.lt
    have hb6 := (HC5.out.trans HC6.out).below (B := w4.heap.size) (fun _ _ x => x.elim) (Nat.le_refl _)
    go_wp2
    refine bodyPost_ret (v := .tuple #[.slice (some ⟨ga, 0, none⟩) f1.length D.sp.length, .slice (some ⟨gb, 0, none⟩) f2.length D.sp.length, .int .i64 0]) (results_tmp3' rfl _ _ _ _ _ rfl rfl rfl) rfl ?_
    refine ⟨⟨_, _, by rw [HEN.out], .inr ⟨ga, La, _, rfl, by omega, HLA.out.1.chg HC6.out id, HLA.out.2.1, by omega, HLA.out.2.2⟩, w5.heap.size, ?_, by have := HC5.out.size; omega, .inr ⟨gb, Lb, _, rfl, hgb, HLB.out.1, HLB.out.2.1, by omega, HLB.out.2.2⟩⟩, ?_⟩
    · intro k hk
      simp [Value.ownBlock] at hk
      omega
    · first | exact HB.out.trans (hb6.mono HB.out.size) | (rw [← hq]; exact HB.out.trans (hb6.mono HB.out.size))
  · have hr : ((f1, f2) : List Nat × List Nat) = ([], []) := by rw [← HF.out, seesF, if_neg (by rw [HEN.out]; exact h0)]
    obtain ⟨rfl, rfl⟩ := Prod.mk.inj hr
    go_wp2
    refine bodyPost_ret (v := .tuple #[.slice none 0 0, .slice none 0 0, .int .i64 en]) (results_tmp3' rfl _ _ _ _ _ rfl rfl rfl) rfl ?_
    exact ⟨⟨_, _, by rw [HEN.out], .inl ⟨rfl, rfl⟩, q, fun k hk => by simp [Value.ownBlock] at hk, by omega, .inl ⟨rfl, rfl⟩⟩, by first | exact HB.out | (rw [← hq]; exact HB.out)⟩
end Go.Proofs.Ytgoidclnccjdeaa.D
end
section
/- Package glass: Part. -/
namespace Go.Proofs.Ytgoidclnccjdeaa.D
open Go Go.RowKit Go.Proofs.YtgoidclnccjdeaaK Go.Proofs.YtgoidclnccjdeaaW.PrintWords Go.Proofs.YtgoidclnccjdeaaW.PrintLast Go.Proofs.YtgoidclnccjdeaaW.PrintMore Go.Proofs.Ytgoidclnccjdeaa.PR Go.Proofs.Ytgoidclnccjdeaa.M
set_option linter.unusedVariables false
set_option linter.unusedSimpArgs false
attribute [local go_sem] Oper.semAt_some
attribute [-go_sem] Builtin.append_

def askPart (D : Dat) (a b y : Int) : List (Bool × Int) := [(amongB D.sp.length [a, b], 4), (a != b, 2), (datedB y, 7)]
theorem askPart_ok {D : Dat} {a b y : Int} (h : askE (askPart D a b y) = 0) : 0 ≤ a ∧ a < D.sp.length ∧ 0 ≤ b ∧ b < D.sp.length ∧ a ≠ b ∧ 0 ≤ y ∧ y ≤ 9 := by
  unfold askPart at h
  by_cases h1 : outB 0 ((D.sp.length : Int) - 1) [a, b] = false
  · by_cases h3 : a = b
    · subst h3; simp [askE, amongB, h1] at h
    · by_cases h2 : outB 0 9 [y] = false
      · simp only [outB_cons] at h1 h2
        obtain ⟨⟨x1, x2⟩, ⟨x3, x4⟩, _⟩ := h1
        obtain ⟨⟨x5, x6⟩, _⟩ := h2
        exact ⟨by omega, by omega, by omega, by omega, h3, by omega, by omega⟩
      · simp [askE, amongB, datedB, h1, h2, h3] at h
  · simp [askE, amongB, h1] at h
def partB (D : Dat) (a b : Nat) (y : Int) (g : Nat) : Bool := (sureN D g y (truthsL D 0)).testBit a && !(mayN D g y (truthsL D 0)).testBit b
def partF (D : Dat) (a b y : Int) : List Nat := if enterE D (askPart D a b y) = 0 then (List.range D.gl.length).filter (partB D a.toNat b.toNat y) else []

theorem Row.mono {w : World} {n0 n1 e : Nat} {v : Value} {l : List Int} (h : Row w n0 e v l) (hn : n1 ≤ n0) : Row w n1 e v l := by
  refine ⟨h.1, ?_⟩
  rcases h.2 with h | ⟨g, cap, cur, h1, h2, h3⟩
  · exact .inl h
  · exact .inr ⟨g, cap, cur, h1, Nat.le_trans hn h2, h3⟩

set_option maxRecDepth 100000 in
set_option maxHeartbeats 2000000 in
theorem Part_calls (D : Dat) (A0 : Option Addr) (c0 : Nat) (A3 : Option Addr) (c3 : Nat) (A4 : Option Addr) (c4 : Nat) (a b y : Int) (w : World) (h : Arg w D A0 c0 A3 c3 A4 c4) :
    Calls Try.prog 33 #[.agg (D.cells A0 c0 A3 c3 A4 c4), .int .i64 a, .int .i64 b, .int .i64 y] w
      fun e w' => (∃ v, e = .returned (.tuple #[v, .int .i64 (enterE D (askPart D a b y))]) ∧ Row w' w.heap.size 3 v (ints (partF D a b y)) ∧ (partF D a b y).length ≤ 3) ∧ Below w.heap.size w w' := by
  have HX := Aside0.mk (blk_new w (.cells (D.cells A0 c0 A3 c3 A4 c4) 28))
  have HB := Aside0.mk (below_alloc (Below.refl w.heap.size w) (.cells (D.cells A0 c0 A3 c3 A4 c4) 28))
  have HA := Aside0.mk (h.below HB.out)
  have hlen : D.sp.length ≤ 9223372036854775807 := h.s.2.1
  have hsz : w.heap.size < (w.alloc (.cells (D.cells A0 c0 A3 c3 A4 c4) 28)).heap.size := by simp
  clear h
  obtain ⟨f, hf⟩ : ∃ f, partF D a b y = f := ⟨_, rfl⟩
  have HF := Aside0.mk hf
  rw [hf]
  clear hf
  obtain ⟨en, hen⟩ : ∃ en, enterE D (askPart D a b y) = en := ⟨_, rfl⟩
  have HEN := Aside0.mk hen
  rw [hen]
  clear hen
  go_enter Try.func33, Try.ntmps33
  go_upto_region 1 with (fail)
  generalize w.alloc (.cells (D.cells A0 c0 A3 c3 A4 c4) 28) = w1 at HX HB HA hsz ⊢
  obtain ⟨q, hq⟩ : ∃ q, w.heap.size = q := ⟨_, rfl⟩
  have HQ := Aside0.mk hq
  rw [hq] at HX hsz ⊢
  clear hq
  obtain ⟨ab, hab⟩ : ∃ ab, amongB D.sp.length [a, b] = ab := ⟨_, rfl⟩
  have HAB := Aside0.mk hab
  obtain ⟨ne, hne⟩ : ∃ ne, (a != b) = ne := ⟨_, rfl⟩
  have HNE := Aside0.mk hne
  obtain ⟨dt, hdt⟩ : ∃ dt, datedB y = dt := ⟨_, rfl⟩
  have HDT := Aside0.mk hdt
  clear hab hdt
  have hb0 : Below w1.heap.size w1 w1.drew := below_drew1 (Below.refl _ _)
  refine wp_region_G (List.range 30) (S := fun w' : World => w'.cell? ⟨q, 0, none⟩ = some (.slice A0 D.gl.length c0) ∧ w'.cell? ⟨q, 1, none⟩ = some (.int .i64 D.lo) ∧ w'.cell? ⟨q, 2, none⟩ = some (.int .i64 D.hi) ∧ w'.cell? ⟨q, 3, none⟩ = some (.slice A3 D.sp.length c3) ∧ w'.cell? ⟨q, 4, none⟩ = some (.slice A4 D.dr.length c4) ∧ Aside0 (Below w1.heap.size w1 w')) (by kernel_rfl) ⟨(blk_cell (blk_below HX.out hb0) 0).trans rfl, (blk_cell (blk_below HX.out hb0) 1).trans rfl, (blk_cell (blk_below HX.out hb0) 2).trans rfl, (blk_cell (blk_below HX.out hb0) 3).trans rfl, (blk_cell (blk_below HX.out hb0) 4).trans rfl, ⟨hb0⟩⟩ (fun hHeld => ?_)
  clear hb0
  refine takeG 0 ?_
  refine takeG 1 ?_
  refine takeG 2 ?_
  refine takeG 3 ?_
  refine takeG 4 ?_
  refine takeG 5 ?_
  refine takeG 8 ?_
  refine takeG 9 ?_
  refine takeG 10 ?_
  refine takeG 11 ?_
  refine takeG 12 ?_
  have hB1 := hHeld.2.2.2.2.2.out
  refine wpAnyG_only (i := 6) (by kernel_rfl) rfl (fun K hK => ?_)
  go_simp
  clear hHeld
  refine hK.out _ _ ?_ (by trivial) (fun hHeld _ => ?_)
  · exact ⟨(blk_cell (blk_below HX.out (by repeat (first | assumption | exact Below.refl _ _ | apply below_alloc | apply below_drew1))) 0).trans rfl, (blk_cell (blk_below HX.out (by repeat (first | assumption | exact Below.refl _ _ | apply below_alloc | apply below_drew1))) 1).trans rfl, (blk_cell (blk_below HX.out (by repeat (first | assumption | exact Below.refl _ _ | apply below_alloc | apply below_drew1))) 2).trans rfl, (blk_cell (blk_below HX.out (by repeat (first | assumption | exact Below.refl _ _ | apply below_alloc | apply below_drew1))) 3).trans rfl, (blk_cell (blk_below HX.out (by repeat (first | assumption | exact Below.refl _ _ | apply below_alloc | apply below_drew1))) 4).trans rfl, ⟨(by repeat (first | assumption | exact Below.refl _ _ | apply below_alloc | apply below_drew1))⟩⟩
  clear hK K
  refine putG ?_
  clear hB1
  have hB2 := hHeld.2.2.2.2.2.out
  refine wpAnyG_only (i := 7) (by kernel_rfl) rfl (fun K hK => ?_)
  go_simp
  refine (among_calls D.sp.length [a, b] _ _ _ hlen (Kd.C_drew (lit2 a b rfl))).mono ?_
  rintro e w2 ⟨rfl, hb⟩
  rw [HAB.out]
  clear hHeld
  refine hK.out _ _ ?_ (by trivial) (fun hHeld _ => ?_)
  · exact ⟨(blk_cell (blk_below HX.out (hB2.trans (hb.mono hB2.size))) 0).trans rfl, (blk_cell (blk_below HX.out (hB2.trans (hb.mono hB2.size))) 1).trans rfl, (blk_cell (blk_below HX.out (hB2.trans (hb.mono hB2.size))) 2).trans rfl, (blk_cell (blk_below HX.out (hB2.trans (hb.mono hB2.size))) 3).trans rfl, (blk_cell (blk_below HX.out (hB2.trans (hb.mono hB2.size))) 4).trans rfl, ⟨(hB2.trans (hb.mono hB2.size))⟩⟩
  clear hK K
  refine putG ?_
  clear hB2 hb
  have hB3 := hHeld.2.2.2.2.2.out
  refine wpAnyG_only (i := 13) (by kernel_rfl) rfl (fun K hK => ?_)
  go_simp
  refine (dated_calls y _).mono ?_
  rintro e w2' ⟨rfl, hb⟩
  rw [HDT.out]
  clear hHeld
  refine hK.out _ _ ?_ (by trivial) (fun hHeld _ => ?_)
  · exact ⟨(blk_cell (blk_below HX.out (hB3.trans (hb.mono hB3.size))) 0).trans rfl, (blk_cell (blk_below HX.out (hB3.trans (hb.mono hB3.size))) 1).trans rfl, (blk_cell (blk_below HX.out (hB3.trans (hb.mono hB3.size))) 2).trans rfl, (blk_cell (blk_below HX.out (hB3.trans (hb.mono hB3.size))) 3).trans rfl, (blk_cell (blk_below HX.out (hB3.trans (hb.mono hB3.size))) 4).trans rfl, ⟨(hB3.trans (hb.mono hB3.size))⟩⟩
  clear hK K
  refine putG ?_
  clear hB3 hb
  have hB4 := hHeld.2.2.2.2.2.out
  refine wpAnyG_only (i := 14) (by kernel_rfl) rfl (fun K hK => ?_)
  go_simp
  clear hHeld
  refine hK.out _ _ ?_ (by trivial) (fun hHeld _ => ?_)
  · exact ⟨(blk_cell (blk_below HX.out (by repeat (first | assumption | exact Below.refl _ _ | apply below_alloc | apply below_drew1))) 0).trans rfl, (blk_cell (blk_below HX.out (by repeat (first | assumption | exact Below.refl _ _ | apply below_alloc | apply below_drew1))) 1).trans rfl, (blk_cell (blk_below HX.out (by repeat (first | assumption | exact Below.refl _ _ | apply below_alloc | apply below_drew1))) 2).trans rfl, (blk_cell (blk_below HX.out (by repeat (first | assumption | exact Below.refl _ _ | apply below_alloc | apply below_drew1))) 3).trans rfl, (blk_cell (blk_below HX.out (by repeat (first | assumption | exact Below.refl _ _ | apply below_alloc | apply below_drew1))) 4).trans rfl, ⟨(by repeat (first | assumption | exact Below.refl _ _ | apply below_alloc | apply below_drew1))⟩⟩
  clear hK K
  refine putG ?_
  clear hB4
  have hB5 := hHeld.2.2.2.2.2.out
  refine wpAnyG_only (i := 15) (by kernel_rfl) rfl (fun K hK => ?_)
  go_simp
  refine (enter_calls D A0 c0 A3 c3 A4 c4 (askPart D a b y) (some ⟨_, 0, none⟩) 3 _ (HA.out.below hB5) (AskC.blk (blk_new _ _) (by rw [askPart, HAB.out, HNE.out, HDT.out]; rfl) (by simp [askPart]) (by simp [askPart]))).mono ?_
  rintro e w3 ⟨v, rfl, hb, hsh⟩
  rw [HEN.out] at hsh ⊢
  have HSH := Aside0.mk hsh
  have hBE := hB5
  clear hsh
  clear hHeld
  refine hK.out _ _ ?_ (by trivial) (fun hHeld _ => ?_)
  · exact ⟨(blk_cell (blk_below HX.out (hB5.trans (hb.mono hB5.size))) 0).trans rfl, (blk_cell (blk_below HX.out (hB5.trans (hb.mono hB5.size))) 1).trans rfl, (blk_cell (blk_below HX.out (hB5.trans (hb.mono hB5.size))) 2).trans rfl, (blk_cell (blk_below HX.out (hB5.trans (hb.mono hB5.size))) 3).trans rfl, (blk_cell (blk_below HX.out (hB5.trans (hb.mono hB5.size))) 4).trans rfl, ⟨(hB5.trans (hb.mono hB5.size))⟩⟩
  clear hK K
  refine putG ?_
  clear hB5 hb
  refine takeG 16 ?_
  refine takeG 17 ?_
  refine takeG 18 ?_
  refine takeG 19 ?_
  refine takeG 20 ?_
  have hB6 := hHeld.2.2.2.2.2.out
  clear hHeld
  refine doneG ?_
  replace HX := Aside0.mk (blk_below HX.out hB6)
  replace HB := Aside0.mk (HB.out.trans (hB6.mono HB.out.size))
  have hsz3 := hB6.size
  clear hB6 hne
  by_cases h0 : en = 0
  · subst h0
    obtain ⟨sb, rfl, hsh⟩ := HSH.out rfl
    have HS := Aside0.mk hsh
    have HV := Aside0.mk (enterE_ok HEN.out).1
    have hok := askPart_ok (enterE_ok HEN.out).2.2.1
    have HTS := Aside0.mk (enterE_some HEN.out)
    clear hsh HSH
    obtain ⟨ha0, ha1, hb0, hb1, _, hy0, hy9⟩ := hok
    obtain ⟨na, rfl⟩ := Int.eq_ofNat_of_zero_le ha0
    obtain ⟨nb, rfl⟩ := Int.eq_ofNat_of_zero_le hb0
    have hg3 := HV.out.g3
    have hs4 := HV.out.s4
    have hf : f = (List.range D.gl.length).filter (partB D na nb y) := by rw [← HF.out, partF, if_pos HEN.out]; rfl
    have HF1 := Aside0.mk hf
    clear hf
    have HW0 := Aside0.mk (HA.out.below hBE)
    have hszE := HS.out.base.size
    have hi3 := i3
    obtain ⟨ti, hti, htz, hts, htb⟩ := hi3
    have HIN := Aside0.mk (And.intro hti (And.intro htz (And.intro hts htb)))
    clear hti htz hts htb
    have zb := blk_lt HS.out.sh
    have k0 : w3.cell? ⟨q, 0, none⟩ = some (.slice A0 D.gl.length c0) := (blk_cell HX.out 0).trans rfl
    have kl := blk_lt HX.out
    go_wp2
    clear k0 kl
    go_loopw [8, 39] (fun v j wr => ∃ (k : Nat) (vv : Value), k ≤ D.gl.length ∧ j = .int .i64 k ∧ vv = v ∧ Aside0 (Row wr w3.heap.size 3 vv (ints ((List.range k).filter (partB D na nb y)))) ∧ Aside0 (Chg (fun k => w3.heap.size ≤ k) w3 wr)) (fun _ j _ => D.gl.length - (intOf j).toNat)
    case atStart => exact ⟨0, _, Nat.zero_le _, rfl, rfl, ⟨Row.nil _ _ _⟩, ⟨Chg.refl _ _⟩⟩
    case round =>
      obtain ⟨k, v, hk, rfl, rfl, HRo, HC⟩ := hrel
      by_cases hlt : k < D.gl.length
      · have HXr := Aside0.mk (HC.out.heap HX.out (by omega))
        have HSr := Aside0.mk (HS.out.chg HC.out (fun k hk => ⟨by omega, by omega⟩))
        have HAL := always_calls _ wr D A0 c0 A3 c3 A4 c4 0 sb k y HW0.out HV.out (by decide) (by omega) hy0 hy9 HSr.out
        rw [sureO_some HTS.out, encO] at HAL
        have hsu := sureN_lt D hs4 k y (truthsL D 0)
        have hma := mayN_lt D hs4 k y (truthsL D 0)
        have HPB : Aside0 (partB D na nb y k = ((sureN D k y (truthsL D 0)).testBit na && !(mayN D k y (truthsL D 0)).testBit nb)) := ⟨rfl⟩
        obtain ⟨su, hsue⟩ : ∃ s, sureN D k y (truthsL D 0) = s := ⟨_, rfl⟩
        obtain ⟨ma, hmae⟩ : ∃ s, mayN D k y (truthsL D 0) = s := ⟨_, rfl⟩
        rw [hsue] at HAL hsu HPB
        rw [hmae] at HAL hma HPB
        have HAL' := Aside0.mk HAL
        clear HAL hsue hmae
        have hbs := bit1 su na hsu
        have hbm := bit1 ma nb hma
        obtain ⟨p1, hp1⟩ : ∃ p, su.testBit na = p := ⟨_, rfl⟩
        obtain ⟨p2, hp2⟩ : ∃ p, ma.testBit nb = p := ⟨_, rfl⟩
        rw [hp1] at hbs HPB
        rw [hp2] at hbm HPB
        clear hp1 hp2 hsu hma
        have hnx : (List.range (k + 1)).filter (partB D na nb y) = (List.range k).filter (partB D na nb y) ++ if partB D na nb y k = true then [k] else [] := by
          rw [List.range_succ, List.filter_append]
          congr 1
          cases hpb : partB D na nb y k <;> simp [hpb]
        have HNX := Aside0.mk hnx
        clear hnx
        obtain ⟨l, hl⟩ : ∃ l, (List.range k).filter (partB D na nb y) = l := ⟨_, rfl⟩
        have hll : l.length ≤ 3 := by rw [← hl]; exact Nat.le_trans (List.length_filter_le _ _) (by simp; omega)
        rw [hl] at HRo HNX
        clear hl
        cases p1
        · rw [if_neg (by simp)] at hbs
          have HNO : Aside0 (partB D na nb y k = false) := ⟨by rw [HPB.out]; rfl⟩
          have hmin : min na 64 = na := by omega
          go_wp2_with (refine HAL'.out.mono ?_; rintro e w4 ⟨rfl, hc, hs⟩; have HC4 := Aside0.mk hc; clear hc hs)
          go_roundw
          case rel => exact ⟨k + 1, _, by omega, by go_num, rfl, ⟨by rw [HNX.out, HNO.out]; simpa using HRo.out.chg HC4.out (fun _ _ x => x)⟩, ⟨HC.out.then_ HC4.out (fun _ _ x => x.elim)⟩⟩
          case measure => simp [intOf]; omega
        · rw [if_pos rfl] at hbs
          cases p2
          · rw [if_neg (by simp)] at hbm
            have HYE : Aside0 (partB D na nb y k = true) := ⟨by rw [HPB.out]; rfl⟩
            have HAP : Aside0 (∀ w4, Chg (fun _ => False) wr w4 → ∃ v' w5, (Builtin.append_ #[39, 39] 39 #[v, .slice (some ⟨w4.heap.size, 0, none⟩) 1 1]).run Try.prog (w4.alloc (.cells #[.int .i64 (k : Int)] 3)) = .ok v' w5 ∧ Row w5 w3.heap.size 3 v' (ints (l ++ [k])) ∧ Chg (fun k => w3.heap.size ≤ k) wr w5) := ⟨by
              intro w4 hc
              obtain ⟨hti, htz, hts, htb⟩ := HIN.out
              have hca := hc.alloc (.cells #[.int .i64 (k : Int)] 3)
              have hsz := HC.out.size
              obtain ⟨v', w5, e1, e2, e3, e4⟩ := Row.append (P := Try.prog) (HRo.out.chg hca (fun _ _ x => x)) 39 Try.underlying39 hti htz hts htb (b := w4.heap.size) (blk_new w4 (.cells #[.int .i64 (k : Int)] 3)) (by simp [ints]; omega) (by have := hca.size; omega)
              exact ⟨v', w5, e1, by simpa [ints] using e2, (hca.mono (fun _ _ x => x.elim)).trans (e3.mono (fun k' _ e => (HRo.out.lt k' e).1))⟩⟩
            obtain ⟨A', c', rfl, _⟩ := HRo.out.shape
            go_wp2_with (first | (go_at_call 100; refine HAL'.out.mono ?_; rintro e w4 ⟨rfl, hc, hs⟩; obtain ⟨v', w5, hap, hro, hch⟩ := HAP.out w4 hc; simp only [ints, List.length_map] at hap; obtain ⟨A2, c2, rfl, _⟩ := hro.shape; have HRO5 := Aside0.mk hro; have HC5 := Aside0.mk hch; clear hc hs hro hch))
            go_roundw
            case rel => exact ⟨k + 1, _, by omega, by go_num, rfl, ⟨by rw [HNX.out, HYE.out]; simpa using HRO5.out⟩, ⟨HC.out.trans HC5.out⟩⟩
            case measure => simp [intOf]; omega
          · rw [if_pos rfl] at hbm
            have HNO : Aside0 (partB D na nb y k = false) := ⟨by rw [HPB.out]; rfl⟩
            go_wp2_with (refine HAL'.out.mono ?_; rintro e w4 ⟨rfl, hc, hs⟩; have HC4 := Aside0.mk hc; clear hc hs)
            go_roundw
            case rel => exact ⟨k + 1, _, by omega, by go_num, rfl, ⟨by rw [HNX.out, HNO.out]; simpa using HRo.out.chg HC4.out (fun _ _ x => x)⟩, ⟨HC.out.then_ HC4.out (fun _ _ x => x.elim)⟩⟩
            case measure => simp [intOf]; omega
      · obtain rfl : k = D.gl.length := by omega
        rw [← HF1.out] at HRo
        have hfl : f.length ≤ 3 := by rw [HF1.out]; exact Nat.le_trans (List.length_filter_le _ _) (by simp; omega)
        have hbw := HB.out.trans ((HC.out.below (fun k _ e => e) (Nat.le_refl _)).mono HB.out.size)
        have hmn : Row wr w.heap.size 3 v (ints f) := Row.mono HRo.out (by have := HB.out.size; have := HQ.out; have := hszE; have := hsz3; omega)
        go_wp2
        go_ret2
        exact ⟨⟨_, rfl, hmn, hfl⟩, hbw⟩
  · have hr : f = [] := by rw [← HF.out, partF, if_neg (by rw [HEN.out]; exact h0)]
    subst hr
    go_wp2
    go_ret2
    exact ⟨⟨_, rfl, Row.nil _ _ _, by simp⟩, by first | exact HB.out | (rw [← HQ.out]; exact HB.out)⟩
end Go.Proofs.Ytgoidclnccjdeaa.D
end
section
/- Package glass: Wrong (turned from disk's). -/
namespace Go.Proofs.Ytgoidclnccjdeaa.D
open Go Go.RowKit Go.Proofs.YtgoidclnccjdeaaK Go.Proofs.YtgoidclnccjdeaaW.PrintWords Go.Proofs.YtgoidclnccjdeaaW.PrintLast Go.Proofs.YtgoidclnccjdeaaW.PrintMore Go.Proofs.Ytgoidclnccjdeaa.PR Go.Proofs.Ytgoidclnccjdeaa.M
set_option linter.unusedVariables false
set_option linter.unusedSimpArgs false

def wrongStep (D : Dat) (set : Nat) (s : Option (List Nat)) : Option (List Nat) :=
  let l := (List.range D.dr.length).filter (keepP set)
  if (match s with | some b => decide (b.length < l.length) || (l.length == b.length && decide (0 < cmpL (ints l) (ints b))) | none => false) = true then s
  else if (truthsL D set).isEmpty = false then some l else s
def wrongTo (D : Dat) (k : Nat) : Option (List Nat) := (List.range k).foldl (fun s set => wrongStep D set s) none
theorem wrongTo_succ (D : Dat) (k : Nat) : wrongTo D (k + 1) = wrongStep D k (wrongTo D k) := by simp [wrongTo, List.range_succ]
def wrongF (D : Dat) : List Nat × Int := if (checkF D).2.2 = 0 then ((wrongTo D (2 ^ D.dr.length)).getD [], 0) else ([], (checkF D).2.2)

set_option maxRecDepth 100000 in
set_option maxHeartbeats 2000000 in
theorem Wrong_calls (D : Dat) (A0 : Option Addr) (c0 : Nat) (A3 : Option Addr) (c3 : Nat) (A4 : Option Addr) (c4 : Nat) (w : World) (h : Arg w D A0 c0 A3 c3 A4 c4) :
    Calls Try.prog 35 #[.agg (D.cells A0 c0 A3 c3 A4 c4)] w
      fun e w' => (∃ v, e = .returned (.tuple #[v, .int .i64 (wrongF D).2]) ∧ NewRow w' w.heap.size v (wrongF D).1) ∧ Below w.heap.size w w' := by
  have hb3 := below_alloc (Below.refl w.heap.size w) (.cells (D.cells A0 c0 A3 c3 A4 c4) 28)
  have HB3 := Aside0.mk hb3
  have HA3 := Aside0.mk (h.below hb3)
  have HD3 : Aside0 ((w.alloc (.cells (D.cells A0 c0 A3 c3 A4 c4) 28)).heap[w.heap.size]? = some (.cells (D.cells A0 c0 A3 c3 A4 c4) 28 (0, 0))) := ⟨blk_new _ _⟩
  clear hb3 h
  obtain ⟨r, hr⟩ : ∃ r, wrongF D = r := ⟨_, rfl⟩
  have HF := Aside0.mk hr
  rw [hr]
  clear hr
  obtain ⟨ce, hce⟩ : ∃ ce, checkF D = ce := ⟨_, rfl⟩
  have HCE := Aside0.mk hce
  clear hce
  obtain ⟨e1, e2, e3⟩ := ce
  go_enter Try.func35, Try.ntmps35
  go_wp2_with fail
  generalize hW : w.alloc (.cells (D.cells A0 c0 A3 c3 A4 c4) 28) = W3 at HB3 HA3 HD3 ⊢
  clear hW
  refine (Check_calls D A0 c0 A3 c3 A4 c4 W3 HA3.out).mono ?_
  rw [HCE.out]
  rintro e w1 ⟨rfl, hb1⟩
  have HB1 := Aside0.mk (HB3.out.trans (hb1.mono HB3.out.size))
  have HA1 := Aside0.mk (HA3.out.below hb1)
  have HD1 := Aside0.mk (blk_below HD3.out hb1)
  have b5 : w1.cell? ⟨w.heap.size, 4, none⟩ = some (.slice A4 D.dr.length c4) := (blk_cell HD1.out 4).trans rfl
  have lb1 := blk_lt HD1.out
  clear hb1
  by_cases h0 : e3 = 0
  · subst h0
    have hV : Valid D := (check_valid (by rw [HCE.out])).1
    have HV := Aside0.mk hV
    have hn4 := hV.d4
    clear hV
    have hsh : wrap64 (2 ^ D.dr.length) = ((2 ^ D.dr.length : Nat) : Int) := by
      have h := shl1 D.dr.length (by omega)
      rw [Int.one_mul] at h
      rw [← i64_w]; exact h
    have hmt : min D.dr.length 64 = D.dr.length := by omega
    have hpw : 2 ^ D.dr.length ≤ 16 := Nat.pow_le_pow_right (n := 2) (by decide) hn4
    obtain ⟨M, hM⟩ : ∃ M, 2 ^ D.dr.length = M := ⟨_, rfl⟩
    have hr : r = ((wrongTo D M).getD [], 0) := by rw [← HF.out, wrongF, HCE.out, ← hM]; rfl
    have HR := Aside0.mk hr
    rw [hM] at hsh hpw
    have HSH := Aside0.mk hsh
    clear hM hr hsh
    go_wp2
    rw [HSH.out]
    clear b5 lb1
    go_loopw [2, 4, 20] (fun bv fv j wr => ∃ k : Nat, k ≤ M ∧ j = .int .i64 k ∧ ∃ best : Option (List Nat), fv = .bool best.isSome ∧ Aside0 (wrongTo D k = best) ∧ Aside0 (NewRow wr w.heap.size bv (best.getD [])) ∧ Aside0 (Chg (fun _ => False) w1 wr)) (fun _ _ j _ => M - (intOf j).toNat)
    case atStart => exact ⟨0, Nat.zero_le _, rfl, none, rfl, ⟨rfl⟩, ⟨.inl ⟨rfl, rfl⟩⟩, ⟨Chg.refl _ _⟩⟩
    case round =>
      obtain ⟨k, hk, rfl, best, rfl, HT, HN, HC⟩ := hrel
      have HDr := Aside0.mk (HC.out.heap HD1.out id)
      have b5 : wr.cell? ⟨w.heap.size, 4, none⟩ = some (.slice A4 D.dr.length c4) := (blk_cell HDr.out 4).trans rfl
      have lbr := blk_lt HDr.out
      by_cases hlt : k < M
      · go_wp2_with fail
        refine (list_calls k D.dr.length wr (by omega) (by omega)).mono ?_
        rintro e w2 ⟨⟨g, hg, rfl, L, hL, hLn, hLt⟩, hc⟩
        obtain ⟨l, hl⟩ : ∃ l, (List.range D.dr.length).filter (keepP k) = l := ⟨_, rfl⟩
        have HL := Aside0.mk hl
        rw [hl] at hLt ⊢
        have HNL : Aside0 (NewRow w2 w.heap.size (.slice (some ⟨g, 0, none⟩) l.length D.dr.length) l) := ⟨.inr ⟨g, L, _, rfl, by omega, hL, hLn, by omega, hLt⟩⟩
        have HC2 := Aside0.mk (HC.out.trans hc)
        have HN2 := Aside0.mk (HN.out.chg hc (fun _ _ _ x => x))
        have HD2 := Aside0.mk (hc.heap HDr.out id)
        clear hL hLn hLt hc hl b5 lbr
        have d0 : w2.cell? ⟨w.heap.size, 0, none⟩ = some (.slice A0 D.gl.length c0) := (blk_cell HD2.out 0).trans rfl
        have d1 : w2.cell? ⟨w.heap.size, 1, none⟩ = some (.int .i64 D.lo) := (blk_cell HD2.out 1).trans rfl
        have d2 : w2.cell? ⟨w.heap.size, 2, none⟩ = some (.int .i64 D.hi) := (blk_cell HD2.out 2).trans rfl
        have d3 : w2.cell? ⟨w.heap.size, 3, none⟩ = some (.slice A3 D.sp.length c3) := (blk_cell HD2.out 3).trans rfl
        have d4 : w2.cell? ⟨w.heap.size, 4, none⟩ = some (.slice A4 D.dr.length c4) := (blk_cell HD2.out 4).trans rfl
        have lb2 := blk_lt HD2.out
        have hstep : ∀ s, wrongStep D k best = s → wrongTo D (k + 1) = s := fun s hs => by rw [wrongTo_succ, HT.out, hs]
        have HSTEP := Aside0.mk hstep
        clear hstep
        obtain ⟨A', c', hA', hl5, hrd⟩ := HNL.out.shape
        injection hA' with hA1 hA2 hA3
        subst hA1
        have HRD := Aside0.mk hrd
        clear hrd hA2 hA3
        obtain ⟨q, hq⟩ : ∃ q, (truthsL D k).isEmpty = q := ⟨_, rfl⟩
        have HQ := Aside0.mk hq
        clear hq
        obtain ⟨A, c, rfl, hbl, hbr⟩ := HN2.out.shape
        have HBR := Aside0.mk hbr
        clear hbr
        have HBW : Aside0 (Below w1.heap.size w1 w2) := ⟨HC2.out.below (fun _ _ x => x.elim) (Nat.le_refl _)⟩
        cases best with
        | none =>
          cases q
          · go_wp2_with (first | (go_at_call 108; refine (look_calls w1 w2 D A0 c0 A3 c3 A4 c4 k HBW.out).mono ?_; rintro e w3 ⟨b', rfl, hc3, hs3, hb3⟩; have HC3 := Aside0.mk hc3; have HS3 := Aside0.mk hs3; clear hc3 hs3) | (go_at_call 109; refine (some_calls w1 w3 D A0 c0 A3 c3 A4 c4 k b' HA1.out HV.out (by omega) HS3.out).mono ?_; rw [HQ.out]; rintro e w4 ⟨rfl, hc4, _⟩; have HC4 := Aside0.mk (HC3.out.then_ hc4 (fun k' h e => by omega)); clear hc4))
            go_roundw
            case rel => exact ⟨k + 1, by omega, by go_num, some l, rfl, ⟨HSTEP.out _ (by unfold wrongStep; rw [HL.out]; simp only []; rw [if_neg (by simp), HQ.out]; rfl)⟩, ⟨HNL.out.chg HC4.out (fun _ _ _ x => x)⟩, ⟨HC2.out.trans HC4.out⟩⟩
            case measure => simp [intOf]; omega
          · go_wp2_with (first | (go_at_call 108; refine (look_calls w1 w2 D A0 c0 A3 c3 A4 c4 k HBW.out).mono ?_; rintro e w3 ⟨b', rfl, hc3, hs3, hb3⟩; have HC3 := Aside0.mk hc3; have HS3 := Aside0.mk hs3; clear hc3 hs3) | (go_at_call 109; refine (some_calls w1 w3 D A0 c0 A3 c3 A4 c4 k b' HA1.out HV.out (by omega) HS3.out).mono ?_; rw [HQ.out]; rintro e w4 ⟨rfl, hc4, _⟩; have HC4 := Aside0.mk (HC3.out.then_ hc4 (fun k' h e => by omega)); clear hc4))
            go_roundw
            case rel => exact ⟨k + 1, by omega, by go_num, none, rfl, ⟨HSTEP.out _ (by unfold wrongStep; rw [HL.out]; simp only []; rw [if_neg (by simp), HQ.out]; rfl)⟩, ⟨HN2.out.chg HC4.out (fun _ _ _ x => x)⟩, ⟨HC2.out.trans HC4.out⟩⟩
            case measure => simp [intOf]; omega
        | some b =>
          simp only [Option.getD_some] at HBR hbl HN2 ⊢
          by_cases h1 : b.length < l.length
          · go_wp2
            go_roundw
            case rel => exact ⟨k + 1, by omega, by go_num, some b, rfl, ⟨HSTEP.out _ (by unfold wrongStep; rw [HL.out]; simp only []; rw [if_pos (by simp [h1])])⟩, HN2, HC2⟩
            case measure => simp [intOf]; omega
          · obtain ⟨z, hz⟩ : ∃ z, cmpL (ints l) (ints b) = z := ⟨_, rfl⟩
            have HZ := Aside0.mk hz
            clear hz
            by_cases h2 : l.length = b.length
            · have h2' : ((l.length : Int) == (b.length : Int)) = true := beq_iff_eq.2 (by omega)
              have hcm := compareN_calls l b (some ⟨g, 0, none⟩) A D.dr.length c w2 HRD.out HBR.out
              rw [h2, HZ.out] at hcm
              have HCM := Aside0.mk hcm
              have H2 := Aside0.mk h2
              clear hcm
              by_cases h3 : 0 < z
              · go_wp2_with (first | (go_at_call 107; refine HCM.out.mono ?_; rintro e w3 ⟨rfl, rfl⟩))
                go_roundw
                case rel => exact ⟨k + 1, by omega, by go_num, some b, rfl, ⟨HSTEP.out _ (by unfold wrongStep; rw [HL.out]; simp only []; rw [if_pos (by rw [HZ.out]; simp [h3, H2.out])])⟩, HN2, HC2⟩
                case measure => simp [intOf]; omega
              · cases q
                · go_wp2_with (first | (go_at_call 107; refine HCM.out.mono ?_; rintro e w3 ⟨rfl, rfl⟩) | (go_at_call 108; refine (look_calls w1 w2 D A0 c0 A3 c3 A4 c4 k HBW.out).mono ?_; rintro e w3 ⟨b', rfl, hc3, hs3, hb3⟩; have HC3 := Aside0.mk hc3; have HS3 := Aside0.mk hs3; clear hc3 hs3) | (go_at_call 109; refine (some_calls w1 w3 D A0 c0 A3 c3 A4 c4 k b' HA1.out HV.out (by omega) HS3.out).mono ?_; rw [HQ.out]; rintro e w4 ⟨rfl, hc4, _⟩; have HC4 := Aside0.mk (HC3.out.then_ hc4 (fun k' h e => by omega)); clear hc4))
                  go_roundw
                  case rel => exact ⟨k + 1, by omega, by go_num, some l, rfl, ⟨HSTEP.out _ (by unfold wrongStep; rw [HL.out]; simp only []; rw [if_neg (by rw [HZ.out]; simp [H2.out]; omega), HQ.out]; rfl)⟩, ⟨by have := HNL.out.chg HC4.out (fun _ _ _ x => x); rw [H2.out] at this; exact this⟩, ⟨HC2.out.trans HC4.out⟩⟩
                  case measure => simp [intOf]; omega
                · go_wp2_with (first | (go_at_call 107; refine HCM.out.mono ?_; rintro e w3 ⟨rfl, rfl⟩) | (go_at_call 108; refine (look_calls w1 w2 D A0 c0 A3 c3 A4 c4 k HBW.out).mono ?_; rintro e w3 ⟨b', rfl, hc3, hs3, hb3⟩; have HC3 := Aside0.mk hc3; have HS3 := Aside0.mk hs3; clear hc3 hs3) | (go_at_call 109; refine (some_calls w1 w3 D A0 c0 A3 c3 A4 c4 k b' HA1.out HV.out (by omega) HS3.out).mono ?_; rw [HQ.out]; rintro e w4 ⟨rfl, hc4, _⟩; have HC4 := Aside0.mk (HC3.out.then_ hc4 (fun k' h e => by omega)); clear hc4))
                  go_roundw
                  case rel => exact ⟨k + 1, by omega, by go_num, some b, rfl, ⟨HSTEP.out _ (by unfold wrongStep; rw [HL.out]; simp only []; rw [if_neg (by rw [HZ.out]; simp [H2.out]; omega), HQ.out]; rfl)⟩, ⟨HN2.out.chg HC4.out (fun _ _ _ x => x)⟩, ⟨HC2.out.trans HC4.out⟩⟩
                  case measure => simp [intOf]; omega
            · have h2' : ((l.length : Int) == (b.length : Int)) = false := beq_eq_false_iff_ne.2 (by omega)
              cases q
              · go_wp2_with (first | (go_at_call 108; refine (look_calls w1 w2 D A0 c0 A3 c3 A4 c4 k HBW.out).mono ?_; rintro e w3 ⟨b', rfl, hc3, hs3, hb3⟩; have HC3 := Aside0.mk hc3; have HS3 := Aside0.mk hs3; clear hc3 hs3) | (go_at_call 109; refine (some_calls w1 w3 D A0 c0 A3 c3 A4 c4 k b' HA1.out HV.out (by omega) HS3.out).mono ?_; rw [HQ.out]; rintro e w4 ⟨rfl, hc4, _⟩; have HC4 := Aside0.mk (HC3.out.then_ hc4 (fun k' h e => by omega)); clear hc4))
                go_roundw
                case rel => exact ⟨k + 1, by omega, by go_num, some l, rfl, ⟨HSTEP.out _ (by unfold wrongStep; rw [HL.out]; simp only []; rw [if_neg (by simp [h1, h2]), HQ.out]; rfl)⟩, ⟨HNL.out.chg HC4.out (fun _ _ _ x => x)⟩, ⟨HC2.out.trans HC4.out⟩⟩
                case measure => simp [intOf]; omega
              · go_wp2_with (first | (go_at_call 108; refine (look_calls w1 w2 D A0 c0 A3 c3 A4 c4 k HBW.out).mono ?_; rintro e w3 ⟨b', rfl, hc3, hs3, hb3⟩; have HC3 := Aside0.mk hc3; have HS3 := Aside0.mk hs3; clear hc3 hs3) | (go_at_call 109; refine (some_calls w1 w3 D A0 c0 A3 c3 A4 c4 k b' HA1.out HV.out (by omega) HS3.out).mono ?_; rw [HQ.out]; rintro e w4 ⟨rfl, hc4, _⟩; have HC4 := Aside0.mk (HC3.out.then_ hc4 (fun k' h e => by omega)); clear hc4))
                go_roundw
                case rel => exact ⟨k + 1, by omega, by go_num, some b, rfl, ⟨HSTEP.out _ (by unfold wrongStep; rw [HL.out]; simp only []; rw [if_neg (by simp [h1, h2]), HQ.out]; rfl)⟩, ⟨HN2.out.chg HC4.out (fun _ _ _ x => x)⟩, ⟨HC2.out.trans HC4.out⟩⟩
                case measure => simp [intOf]; omega
      · obtain rfl : k = M := by omega
        go_wp2
        go_ret2
        exact ⟨⟨_, by rw [HR.out]; rfl, by rw [HR.out, HT.out]; exact HN.out⟩, HB1.out.trans (HC.out.below (fun _ _ x => x.elim) HB1.out.size)⟩
  · have hr : r = ([], e3) := by rw [← HF.out, wrongF, HCE.out]; exact if_neg h0
    subst hr
    go_wp2
    go_ret2
    exact ⟨⟨_, rfl, .inl ⟨rfl, rfl⟩⟩, HB1.out⟩
end Go.Proofs.Ytgoidclnccjdeaa.D
end
section
namespace Go.Proofs.Ytgoidclnccjdeaa.PR
open Go.RowKit Go.Proofs.YtgoidclnccjdeaaW.PrintWords Go.Proofs.YtgoidclnccjdeaaW.PrintLast Go.Proofs.YtgoidclnccjdeaaW.PrintMore
attribute [local go_sem] max2_int min2_int max_two min_two max_three min_three max_four min_four   -- for this text's walks alone
set_option linter.unusedVariables false
set_option linter.unusedSimpArgs false

end Go.Proofs.Ytgoidclnccjdeaa.PR
end
section
namespace Go.Proofs.Ytgoidclnccjdeaa.PR
open Go.RowKit Go.Proofs.YtgoidclnccjdeaaW.PrintWords Go.Proofs.YtgoidclnccjdeaaW.PrintLast Go.Proofs.YtgoidclnccjdeaaW.PrintMore
attribute [local go_sem] max2_int min2_int max_two min_two max_three min_three max_four min_four   -- for this text's walks alone
set_option linter.unusedVariables false
set_option linter.unusedSimpArgs false

end Go.Proofs.Ytgoidclnccjdeaa.PR
end
section
namespace Go.Proofs.Ytgoidclnccjdeaa.PR
open Go.RowKit Go.Proofs.YtgoidclnccjdeaaW.PrintWords Go.Proofs.YtgoidclnccjdeaaW.PrintLast Go.Proofs.YtgoidclnccjdeaaW.PrintMore
attribute [local go_sem] max2_int min2_int max_two min_two max_three min_three max_four min_four   -- for this text's walks alone
set_option linter.unusedVariables false
set_option linter.unusedSimpArgs false

end Go.Proofs.Ytgoidclnccjdeaa.PR
end
section
namespace Go.Proofs.Ytgoidclnccjdeaa.PR
open Go.RowKit Go.Proofs.YtgoidclnccjdeaaW.PrintWords Go.Proofs.YtgoidclnccjdeaaW.PrintLast Go.Proofs.YtgoidclnccjdeaaW.PrintMore
attribute [local go_sem] max2_int min2_int max_two min_two max_three min_three max_four min_four   -- for this text's walks alone
set_option linter.unusedVariables false
set_option linter.unusedSimpArgs false

end Go.Proofs.Ytgoidclnccjdeaa.PR
end
section
namespace Go.Proofs.Ytgoidclnccjdeaa.PR
open Go.RowKit Go.Proofs.YtgoidclnccjdeaaW.PrintWords Go.Proofs.YtgoidclnccjdeaaW.PrintLast Go.Proofs.YtgoidclnccjdeaaW.PrintMore
attribute [local go_sem] max2_int min2_int max_two min_two max_three min_three max_four min_four   -- for this text's walks alone
set_option linter.unusedVariables false
set_option linter.unusedSimpArgs false

end Go.Proofs.Ytgoidclnccjdeaa.PR
end
section
namespace Go.Proofs.Ytgoidclnccjdeaa.PR
open Go.RowKit Go.Proofs.YtgoidclnccjdeaaW.PrintWords Go.Proofs.YtgoidclnccjdeaaW.PrintLast Go.Proofs.YtgoidclnccjdeaaW.PrintMore
attribute [local go_sem] max2_int min2_int max_two min_two max_three min_three max_four min_four   -- for this text's walks alone
set_option linter.unusedVariables false
set_option linter.unusedSimpArgs false

end Go.Proofs.Ytgoidclnccjdeaa.PR
end
section
namespace Go.Proofs.Ytgoidclnccjdeaa.PR
open Go.RowKit Go.Proofs.YtgoidclnccjdeaaW.PrintWords Go.Proofs.YtgoidclnccjdeaaW.PrintLast Go.Proofs.YtgoidclnccjdeaaW.PrintMore
attribute [local go_sem] max2_int min2_int max_two min_two max_three min_three max_four min_four   -- for this text's walks alone
set_option linter.unusedVariables false
set_option linter.unusedSimpArgs false

end Go.Proofs.Ytgoidclnccjdeaa.PR
end
section
/- The reference's Truths (by hand). -/
namespace Go.Proofs.Ytgoidclnccjdeaa.PR
open Go Go.RowKit Go.Proofs.YtgoidclnccjdeaaK Go.Proofs.Ytgoidclnccjdeaa.D Go.Proofs.YtgoidclnccjdeaaW.PrintWords Go.Proofs.YtgoidclnccjdeaaW.PrintLast Go.Proofs.YtgoidclnccjdeaaW.PrintMore
set_option linter.unusedVariables false
set_option linter.unusedSimpArgs false

end Go.Proofs.Ytgoidclnccjdeaa.PR
end
section
namespace Go.Proofs.Ytgoidclnccjdeaa.PR
open Go.RowKit Go.Proofs.YtgoidclnccjdeaaW.PrintWords Go.Proofs.YtgoidclnccjdeaaW.PrintLast Go.Proofs.YtgoidclnccjdeaaW.PrintMore
attribute [local go_sem] max2_int min2_int max_two min_two max_three min_three max_four min_four   -- for this text's walks alone
set_option linter.unusedVariables false
set_option linter.unusedSimpArgs false

end Go.Proofs.Ytgoidclnccjdeaa.PR
end
section
namespace Go.Proofs.Ytgoidclnccjdeaa.PR
open Go.RowKit Go.Proofs.YtgoidclnccjdeaaW.PrintWords Go.Proofs.YtgoidclnccjdeaaW.PrintLast Go.Proofs.YtgoidclnccjdeaaW.PrintMore
attribute [local go_sem] max2_int min2_int max_two min_two max_three min_three max_four min_four   -- for this text's walks alone
set_option linter.unusedVariables false
set_option linter.unusedSimpArgs false

def helioscopelaw07_span.f (a0 : Int) (a1 : Int) : Option (Int × Int) := some (a0, a1)
set_option maxHeartbeats 8000000 in
set_option maxRecDepth 100000 in
theorem helioscopelaw07_span.calls (a0 : Int) (a1 : Int) (r1 : Int) (r2 : Int) (w : World) (h : helioscopelaw07_span.f a0 a1 = some (r1, r2)) :
  Calls Try.prog 38 #[.int .i64 a0, .int .i64 a1] w fun e w' => e = .returned (.agg #[.int .i64 r1, .int .i64 r2]) ∧ Below w.heap.size w w' := by
 have hu24 := Try.underlying24
 have HB := Aside0.mk (Below.refl w.heap.size w)
 have H : (some (a0, a1)) = some (r1, r2) := h
 clear h
 simp only [Option.some.injEq, Prod.mk.injEq] at H
 obtain ⟨rfl, rfl⟩ := H
 go_enter Try.func38, Try.ntmps38
 go_wp2_with (first | ((with_reducible refine gate_dst (N := 4) rfl ?_); refine box_event ?hg (N := 4) ?hd (cs := #[.int .i64 0, .int .i64 0]) (t := 24) ?hr ?_; (case hd => rfl); (case hg => rfl); (case hr => first | (go_simp; done) | (go_simp; rfl)); intro gb356 hg w3 hbox hb; have n0_ := Aside0.mk (below_step (by repeat (first | (with_reducible first | exact HB.out | apply below_alloc | apply pw_below_drewN | apply below_drew1) | exact HB.out)) hb); have n1_ := Aside0.mk (hbox); have n2_ := Aside0.mk ((by rw [hg]; exact (below_size (by repeat (first | (with_reducible first | exact HB.out | apply below_alloc | apply pw_below_drewN | apply below_drew1) | exact HB.out))) : w.heap.size ≤ gb356)); have n3_ := Aside0.mk ((by rw [hg]; exact (below_size (by repeat (first | (with_reducible first | exact HB.out | apply below_alloc | apply pw_below_drewN | apply below_drew1) | exact HB.out))) : w.heap.size ≤ gb356)); clear HB; have HB := n0_; have BK356 := n1_; have GW356 := n2_; have GE356 := n3_; clear n0_ n1_ n2_ n3_; clear hb hbox hg; have hcz4_0 : w3.cell? ⟨gb356, 0, none⟩ = some (.int .i64 0) := (blk_cell BK356.out 0).trans rfl; have hcz4_1 : w3.cell? ⟨gb356, 1, none⟩ = some (.int .i64 0) := (blk_cell BK356.out 1).trans rfl; have hfz4_0 := blk_frozen BK356.out 0; have hfz4_1 := blk_frozen BK356.out 1))
 refine bodyPost_ret (results_cell_row rfl _ _ gb356 24 #[.int .i64 a0, .int .i64 a1] (0, 0) _ rfl (by (with_reducible repeat (first | refine blk_drewN ?_ _ | refine blk_drew ?_ | refine blk_alloc ?_ _)); refine blk_put (cs := #[.int .i64 a0, .int .i64 0]) ?_ 1 _ rfl; (with_reducible repeat (first | refine blk_drewN ?_ _ | refine blk_drew ?_ | refine blk_alloc ?_ _)); refine blk_put (cs := #[.int .i64 0, .int .i64 0]) ?_ 0 _ rfl; (with_reducible repeat (first | refine blk_drewN ?_ _ | refine blk_drew ?_ | refine blk_alloc ?_ _)); exact BK356.out) Try.underlying24 rfl (by kernel_rfl)) rfl ?_
 exact ⟨by first | rfl | (simp [errW_none, errW_some] <;> rfl) | (simp [*, errW_none, errW_some] <;> rfl), by repeat (first | (with_reducible first | exact HB.out | apply below_alloc | apply pw_below_drewN | apply below_drew1 | refine below_set ?_ GE356.out) | exact HB.out)⟩

end Go.Proofs.Ytgoidclnccjdeaa.PR
end
section
namespace Go.Proofs.Ytgoidclnccjdeaa.PR
open Go.RowKit Go.Proofs.YtgoidclnccjdeaaW.PrintWords Go.Proofs.YtgoidclnccjdeaaW.PrintLast Go.Proofs.YtgoidclnccjdeaaW.PrintMore
attribute [local go_sem] max2_int min2_int max_two min_two max_three min_three max_four min_four   -- for this text's walks alone
set_option linter.unusedVariables false
set_option linter.unusedSimpArgs false

def helioscopelaw07_Shelf.f (l0 : List (S72)) : Option ((List (S95)) × Int × Int × (List (S24)) × (List (S72))) := (helioscopelaw07_span.f 8 10).bind fun bt435 => ((helioscopelaw07_span.f 3 5).bind fun bt437 => ((helioscopelaw07_span.f 0 1).bind fun bt442 => ((helioscopelaw07_span.f 4 6).bind fun bt444 => ((helioscopelaw07_span.f 9 11).bind fun bt446 => ((helioscopelaw07_span.f 12 12).bind fun bt448 => ((some (([(⟨0, 0, 6⟩ : S72), (⟨(-1), 2, 4⟩ : S72)] : List (S72)) : List (S72))).bind fun y453 => (if y453.length + l0.length < 5864062014805 then (some ((([(⟨(⟨#[111, 108, 100]⟩ : ByteArray), (⟨bt435.1, bt435.2⟩ : S24)⟩ : S95), (⟨(⟨#[110, 101, 119]⟩ : ByteArray), (⟨bt437.1, bt437.2⟩ : S24)⟩ : S95)] : List (S95))), bt442.1, bt442.2, (([(⟨bt444.1, bt444.2⟩ : S24), (⟨bt446.1, bt446.2⟩ : S24), (⟨bt448.1, bt448.2⟩ : S24)] : List (S24))), (y453 ++ l0))) else (none))))))))
set_option maxHeartbeats 8000000 in
set_option maxRecDepth 100000 in
theorem helioscopelaw07_Shelf.calls (A0 : Option Addr) (c0 : Nat) (l0 : List (S72)) (r1 : List (S95)) (r2 : Int) (r3 : Int) (r4 : List (S24)) (r5 : List (S72)) (w : World) (hr0 : Kd.C k72 w A0 l0.length l0) (hc0 : l0.length ≤ c0) (h : helioscopelaw07_Shelf.f l0 = some (r1, r2, r3, r4, r5)) :
  Calls Try.prog 37 #[.slice A0 l0.length c0] w fun e w' => ∃ v0_ v3_ v4_ : Value, e = .returned (.agg #[v0_, .int .i64 r2, .int .i64 r3, v3_, v4_]) ∧ Kd.R k95 95 w' w.heap.size (fun _ => True) v0_ r1 ∧ Kd.R k24 24 w' w.heap.size (fun _ => True) v3_ r4 ∧ Kd.R k72 72 w' w.heap.size (fun _ => True) v4_ r5 ∧ Below w.heap.size w w' := by
 have hu28 := Try.underlying28
 have hu95 := Try.underlying95
 have hu72 := Try.underlying72
 have HR0 := Aside0.mk hr0
 have HC0 := Aside0.mk hc0
 clear hr0 hc0
 have HB := Aside0.mk (Below.refl w.heap.size w)
 have H : ((helioscopelaw07_span.f 8 10).bind fun bt435 => ((helioscopelaw07_span.f 3 5).bind fun bt437 => ((helioscopelaw07_span.f 0 1).bind fun bt442 => ((helioscopelaw07_span.f 4 6).bind fun bt444 => ((helioscopelaw07_span.f 9 11).bind fun bt446 => ((helioscopelaw07_span.f 12 12).bind fun bt448 => ((some (([(⟨0, 0, 6⟩ : S72), (⟨(-1), 2, 4⟩ : S72)] : List (S72)) : List (S72))).bind fun y453 => (if y453.length + l0.length < 5864062014805 then (some ((([(⟨(⟨#[111, 108, 100]⟩ : ByteArray), (⟨bt435.1, bt435.2⟩ : S24)⟩ : S95), (⟨(⟨#[110, 101, 119]⟩ : ByteArray), (⟨bt437.1, bt437.2⟩ : S24)⟩ : S95)] : List (S95))), bt442.1, bt442.2, (([(⟨bt444.1, bt444.2⟩ : S24), (⟨bt446.1, bt446.2⟩ : S24), (⟨bt448.1, bt448.2⟩ : S24)] : List (S24))), (y453 ++ l0))) else (none))))))))) = some (r1, r2, r3, r4, r5) := h
 clear h
 replace H := Option.bind_eq_some_iff.mp H
 obtain ⟨⟨t435, t436⟩, A20, H⟩ := H
 replace H : ((helioscopelaw07_span.f 3 5).bind fun bt437 => ((helioscopelaw07_span.f 0 1).bind fun bt442 => ((helioscopelaw07_span.f 4 6).bind fun bt444 => ((helioscopelaw07_span.f 9 11).bind fun bt446 => ((helioscopelaw07_span.f 12 12).bind fun bt448 => ((some (([(⟨0, 0, 6⟩ : S72), (⟨(-1), 2, 4⟩ : S72)] : List (S72)) : List (S72))).bind fun y453 => (if y453.length + l0.length < 5864062014805 then (some ((([(⟨(⟨#[111, 108, 100]⟩ : ByteArray), (⟨t435, t436⟩ : S24)⟩ : S95), (⟨(⟨#[110, 101, 119]⟩ : ByteArray), (⟨bt437.1, bt437.2⟩ : S24)⟩ : S95)] : List (S95))), bt442.1, bt442.2, (([(⟨bt444.1, bt444.2⟩ : S24), (⟨bt446.1, bt446.2⟩ : S24), (⟨bt448.1, bt448.2⟩ : S24)] : List (S24))), (y453 ++ l0))) else (none)))))))) = some (r1, r2, r3, r4, r5) := H
 have A2 := Aside0.mk A20
 clear A20
 replace H := Option.bind_eq_some_iff.mp H
 obtain ⟨⟨t437, t438⟩, A30, H⟩ := H
 replace H : ((helioscopelaw07_span.f 0 1).bind fun bt442 => ((helioscopelaw07_span.f 4 6).bind fun bt444 => ((helioscopelaw07_span.f 9 11).bind fun bt446 => ((helioscopelaw07_span.f 12 12).bind fun bt448 => ((some (([(⟨0, 0, 6⟩ : S72), (⟨(-1), 2, 4⟩ : S72)] : List (S72)) : List (S72))).bind fun y453 => (if y453.length + l0.length < 5864062014805 then (some ((([(⟨(⟨#[111, 108, 100]⟩ : ByteArray), (⟨t435, t436⟩ : S24)⟩ : S95), (⟨(⟨#[110, 101, 119]⟩ : ByteArray), (⟨t437, t438⟩ : S24)⟩ : S95)] : List (S95))), bt442.1, bt442.2, (([(⟨bt444.1, bt444.2⟩ : S24), (⟨bt446.1, bt446.2⟩ : S24), (⟨bt448.1, bt448.2⟩ : S24)] : List (S24))), (y453 ++ l0))) else (none))))))) = some (r1, r2, r3, r4, r5) := H
 have A3 := Aside0.mk A30
 clear A30
 obtain ⟨y439, hy439⟩ : ∃ y_ : List (S95), y_ = (([(⟨(⟨#[111, 108, 100]⟩ : ByteArray), (⟨t435, t436⟩ : S24)⟩ : S95), (⟨(⟨#[110, 101, 119]⟩ : ByteArray), (⟨t437, t438⟩ : S24)⟩ : S95)] : List (S95))) := ⟨_, rfl⟩
 replace H : ((helioscopelaw07_span.f 0 1).bind fun bt442 => ((helioscopelaw07_span.f 4 6).bind fun bt444 => ((helioscopelaw07_span.f 9 11).bind fun bt446 => ((helioscopelaw07_span.f 12 12).bind fun bt448 => ((some (([(⟨0, 0, 6⟩ : S72), (⟨(-1), 2, 4⟩ : S72)] : List (S72)) : List (S72))).bind fun y453 => (if y453.length + l0.length < 5864062014805 then (some (y439, bt442.1, bt442.2, (([(⟨bt444.1, bt444.2⟩ : S24), (⟨bt446.1, bt446.2⟩ : S24), (⟨bt448.1, bt448.2⟩ : S24)] : List (S24))), (y453 ++ l0))) else (none))))))) = some (r1, r2, r3, r4, r5) := by first | (rw [hy439]; with_reducible exact H) | (have H2_ := (Option.bind_some _ _).symm.trans H; rw [hy439]; with_reducible exact H2_) | (have H2_ := (Option.bind_some _ _).symm.trans H; with_reducible exact H2_) | with_reducible exact H | (rw [hy439]; exact H) | exact H
 have Ny439 := Aside0.mk hy439
 clear hy439
 replace H := Option.bind_eq_some_iff.mp H
 obtain ⟨⟨t442, t443⟩, A40, H⟩ := H
 replace H : ((helioscopelaw07_span.f 4 6).bind fun bt444 => ((helioscopelaw07_span.f 9 11).bind fun bt446 => ((helioscopelaw07_span.f 12 12).bind fun bt448 => ((some (([(⟨0, 0, 6⟩ : S72), (⟨(-1), 2, 4⟩ : S72)] : List (S72)) : List (S72))).bind fun y453 => (if y453.length + l0.length < 5864062014805 then (some (y439, t442, t443, (([(⟨bt444.1, bt444.2⟩ : S24), (⟨bt446.1, bt446.2⟩ : S24), (⟨bt448.1, bt448.2⟩ : S24)] : List (S24))), (y453 ++ l0))) else (none)))))) = some (r1, r2, r3, r4, r5) := H
 have A4 := Aside0.mk A40
 clear A40
 replace H := Option.bind_eq_some_iff.mp H
 obtain ⟨⟨t444, t445⟩, A50, H⟩ := H
 replace H : ((helioscopelaw07_span.f 9 11).bind fun bt446 => ((helioscopelaw07_span.f 12 12).bind fun bt448 => ((some (([(⟨0, 0, 6⟩ : S72), (⟨(-1), 2, 4⟩ : S72)] : List (S72)) : List (S72))).bind fun y453 => (if y453.length + l0.length < 5864062014805 then (some (y439, t442, t443, (([(⟨t444, t445⟩ : S24), (⟨bt446.1, bt446.2⟩ : S24), (⟨bt448.1, bt448.2⟩ : S24)] : List (S24))), (y453 ++ l0))) else (none))))) = some (r1, r2, r3, r4, r5) := H
 have A5 := Aside0.mk A50
 clear A50
 replace H := Option.bind_eq_some_iff.mp H
 obtain ⟨⟨t446, t447⟩, A60, H⟩ := H
 replace H : ((helioscopelaw07_span.f 12 12).bind fun bt448 => ((some (([(⟨0, 0, 6⟩ : S72), (⟨(-1), 2, 4⟩ : S72)] : List (S72)) : List (S72))).bind fun y453 => (if y453.length + l0.length < 5864062014805 then (some (y439, t442, t443, (([(⟨t444, t445⟩ : S24), (⟨t446, t447⟩ : S24), (⟨bt448.1, bt448.2⟩ : S24)] : List (S24))), (y453 ++ l0))) else (none)))) = some (r1, r2, r3, r4, r5) := H
 have A6 := Aside0.mk A60
 clear A60
 replace H := Option.bind_eq_some_iff.mp H
 obtain ⟨⟨t448, t449⟩, A70, H⟩ := H
 replace H : ((some (([(⟨0, 0, 6⟩ : S72), (⟨(-1), 2, 4⟩ : S72)] : List (S72)) : List (S72))).bind fun y453 => (if y453.length + l0.length < 5864062014805 then (some (y439, t442, t443, (([(⟨t444, t445⟩ : S24), (⟨t446, t447⟩ : S24), (⟨t448, t449⟩ : S24)] : List (S24))), (y453 ++ l0))) else (none))) = some (r1, r2, r3, r4, r5) := H
 have A7 := Aside0.mk A70
 clear A70
 obtain ⟨y450, hy450⟩ : ∃ y_ : List (S24), y_ = (([(⟨t444, t445⟩ : S24), (⟨t446, t447⟩ : S24), (⟨t448, t449⟩ : S24)] : List (S24))) := ⟨_, rfl⟩
 replace H : ((some (([(⟨0, 0, 6⟩ : S72), (⟨(-1), 2, 4⟩ : S72)] : List (S72)) : List (S72))).bind fun y453 => (if y453.length + l0.length < 5864062014805 then (some (y439, t442, t443, y450, (y453 ++ l0))) else (none))) = some (r1, r2, r3, r4, r5) := by first | (rw [hy450]; with_reducible exact H) | (have H2_ := (Option.bind_some _ _).symm.trans H; rw [hy450]; with_reducible exact H2_) | (have H2_ := (Option.bind_some _ _).symm.trans H; with_reducible exact H2_) | with_reducible exact H | (rw [hy450]; exact H) | exact H
 have Ny450 := Aside0.mk hy450
 clear hy450
 obtain ⟨y453, hy453⟩ : ∃ y_ : List (S72), y_ = (([(⟨0, 0, 6⟩ : S72), (⟨(-1), 2, 4⟩ : S72)] : List (S72))) := ⟨_, rfl⟩
 replace H : (if y453.length + l0.length < 5864062014805 then (some (y439, t442, t443, y450, (y453 ++ l0))) else (none)) = some (r1, r2, r3, r4, r5) := by first | (rw [hy453]; with_reducible exact H) | (have H2_ := (Option.bind_some _ _).symm.trans H; rw [hy453]; with_reducible exact H2_) | (have H2_ := (Option.bind_some _ _).symm.trans H; with_reducible exact H2_) | with_reducible exact H | (rw [hy453]; exact H) | exact H
 have Ny453 := Aside0.mk hy453
 clear hy453
 by_cases c8 : y453.length + l0.length < 5864062014805
 ·
  rw [if_pos c8] at H
  have LMc8 := Aside0.mk c8
  clear c8
  obtain ⟨y456, hy456⟩ : ∃ y_ : List (S72), y_ = (y453 ++ l0) := ⟨_, rfl⟩
  replace H : (some (y439, t442, t443, y450, y456)) = some (r1, r2, r3, r4, r5) := by first | (rw [hy456]; with_reducible exact H) | (have H2_ := (Option.bind_some _ _).symm.trans H; rw [hy456]; with_reducible exact H2_) | (have H2_ := (Option.bind_some _ _).symm.trans H; with_reducible exact H2_) | with_reducible exact H | (rw [hy456]; exact H) | exact H
  have Ny456 := Aside0.mk hy456
  clear hy456
  simp only [Option.some.injEq, Prod.mk.injEq] at H
  obtain ⟨rfl, rfl, rfl, rfl, rfl⟩ := H
  go_enter Try.func37, Try.ntmps37
  go_wp2_with (first | ((with_reducible refine gate_dst (N := 2) rfl ?_); refine box_event ?hg (N := 2) ?hd (cs := #[.slice none 0 0, .int .i64 0, .int .i64 0, .slice none 0 0, .slice none 0 0]) (t := 28) ?hr ?_; (case hd => rfl); (case hg => rfl); (case hr => first | (go_simp; done) | (go_simp; rfl)); intro gb434 hg w9 hbox hb; have n0_ := Aside0.mk (below_step (by repeat (first | (with_reducible first | exact HB.out | apply below_alloc | apply pw_below_drewN | apply below_drew1) | exact HB.out)) hb); have n1_ := Aside0.mk (hbox); have n2_ := Aside0.mk ((by rw [hg]; exact (below_size (by repeat (first | (with_reducible first | exact HB.out | apply below_alloc | apply pw_below_drewN | apply below_drew1) | exact HB.out))) : w.heap.size ≤ gb434)); have n3_ := Aside0.mk ((by rw [hg]; exact (below_size (by repeat (first | (with_reducible first | exact HB.out | apply below_alloc | apply pw_below_drewN | apply below_drew1) | exact HB.out))) : w.heap.size ≤ gb434)); clear HB; have HB := n0_; have BK434 := n1_; have GW434 := n2_; have GE434 := n3_; clear n0_ n1_ n2_ n3_; clear hb hbox hg) | ((with_reducible refine gate_callee (f := 38) rfl ?_); refine goesL_ (some 3) rfl rfl Try.func38 (by kernel_rfl) rfl #[.int .i64 8, .int .i64 10] rfl (by (try simp only [List.map_toArray, List.map_cons, List.map_nil]); first | done | rfl | (simp only [List.length_drop, List.length_take]; rfl)) ?_; (with_reducible refine (helioscopelaw07_span.calls 8 10 t435 t436 _ A2.out).mono ?_); rintro e w10 ⟨rfl, hb⟩; refine ⟨_, rfl, ?_⟩; have n0_ := Aside0.mk (blk_below (g := gb434) (o := .cells #[.slice none 0 0, .int .i64 0, .int .i64 0, .slice none 0 0, .slice none 0 0] 28 (0, 0)) (by (with_reducible repeat (first | refine blk_drewN ?_ _ | refine blk_drew ?_ | refine blk_alloc ?_ _)); exact BK434.out) hb); have n1_ := Aside0.mk (below_step (by repeat (first | (with_reducible first | exact HB.out | apply below_alloc | apply pw_below_drewN | apply below_drew1 | refine below_set ?_ GE434.out) | exact HB.out)) hb); clear BK434; clear HB; have BK434 := n0_; have HB := n1_; clear n0_ n1_; (try clear hb); (try clear hb2); (try clear hk); (try clear hi)) | ((with_reducible refine gate_callee (f := 38) rfl ?_); refine goesL_ (some 5) rfl rfl Try.func38 (by kernel_rfl) rfl #[.int .i64 3, .int .i64 5] rfl (by (try simp only [List.map_toArray, List.map_cons, List.map_nil]); first | done | rfl | (simp only [List.length_drop, List.length_take]; rfl)) ?_; (with_reducible refine (helioscopelaw07_span.calls 3 5 t437 t438 _ A3.out).mono ?_); rintro e w11 ⟨rfl, hb⟩; refine ⟨_, rfl, ?_⟩; have n0_ := Aside0.mk (blk_below (g := gb434) (o := .cells #[.slice none 0 0, .int .i64 0, .int .i64 0, .slice none 0 0, .slice none 0 0] 28 (0, 0)) (by (with_reducible repeat (first | refine blk_drewN ?_ _ | refine blk_drew ?_ | refine blk_alloc ?_ _)); exact BK434.out) hb); have n1_ := Aside0.mk (below_step (by repeat (first | (with_reducible first | exact HB.out | apply below_alloc | apply pw_below_drewN | apply below_drew1 | refine below_set ?_ GE434.out) | exact HB.out)) hb); clear BK434; clear HB; have BK434 := n0_; have HB := n1_; clear n0_ n1_; (try clear hb); (try clear hb2); (try clear hk); (try clear hi)) | ((with_reducible refine gate_dst (N := 7) rfl ?_); refine Kd.R_lit k95 _ 95 ?hg (N := 7) ?hd (xs := ([(⟨(⟨#[111, 108, 100]⟩ : ByteArray), (⟨t435, t436⟩ : S24)⟩ : S95), (⟨(⟨#[110, 101, 119]⟩ : ByteArray), (⟨t437, t438⟩ : S24)⟩ : S95)] : List (S95))) (inner := [.string (⟨#[111, 108, 100]⟩ : ByteArray), .int .i64 t435, .int .i64 t436, .string (⟨#[110, 101, 119]⟩ : ByteArray), .int .i64 t437, .int .i64 t438]) (ok := fun _ => True) (okp := fun _ => True) ?hr ?hp (fun _ hk => hk) trivial (Below.refl _ _) (Nat.le_refl _) (by simp) ?_; (case hd => rfl); (case hg => rfl); (case hr => first | (go_simp; done) | (go_simp; rfl)); (case hp => exact (Reps.c3 (show Kd.M k95 _ _ _ (⟨(⟨#[111, 108, 100]⟩ : ByteArray), (⟨t435, t436⟩ : S24)⟩ : S95) [.string (⟨#[111, 108, 100]⟩ : ByteArray), .int .i64 t435, .int .i64 t436] from (k95_mkM _ _ _ (⟨(⟨#[111, 108, 100]⟩ : ByteArray), (⟨t435, t436⟩ : S24)⟩ : S95) )) (Reps.c3 (show Kd.M k95 _ _ _ (⟨(⟨#[110, 101, 119]⟩ : ByteArray), (⟨t437, t438⟩ : S24)⟩ : S95) [.string (⟨#[110, 101, 119]⟩ : ByteArray), .int .i64 t437, .int .i64 t438] from (k95_mkM _ _ _ (⟨(⟨#[110, 101, 119]⟩ : ByteArray), (⟨t437, t438⟩ : S24)⟩ : S95) )) (Reps.none _ _)))); intro v440 w12 ho13 hb hg_ hnew_; clear hg_ hnew_; (first | rw [← Ny439.out] at ho13 | (simp only [Int.reduceToNat] at ho13; rw [← Ny439.out] at ho13)); have n0_ := Aside0.mk (Kd.R_lower ho13 (below_size (by repeat (first | (with_reducible first | exact HB.out | apply below_alloc | apply pw_below_drewN | apply below_drew1 | refine below_set ?_ GE434.out) | exact HB.out)))); have n1_ := Aside0.mk (blk_below (g := gb434) (o := .cells #[.slice none 0 0, .int .i64 0, .int .i64 0, .slice none 0 0, .slice none 0 0] 28 (0, 0)) (by (with_reducible repeat (first | refine blk_drewN ?_ _ | refine blk_drew ?_ | refine blk_alloc ?_ _)); exact BK434.out) hb); have n2_ := Aside0.mk (below_step (by repeat (first | (with_reducible first | exact HB.out | apply below_alloc | apply pw_below_drewN | apply below_drew1 | refine below_set ?_ GE434.out) | exact HB.out)) hb); clear BK434; clear HB; have HO441 := n0_; have BK434 := n1_; have HB := n2_; clear n0_ n1_ n2_; clear hb ho13) | ((with_reducible refine gate_callee (f := 38) rfl ?_); refine goesL_ (some 8) rfl rfl Try.func38 (by kernel_rfl) rfl #[.int .i64 0, .int .i64 1] rfl (by (try simp only [List.map_toArray, List.map_cons, List.map_nil]); first | done | rfl | (simp only [List.length_drop, List.length_take]; rfl)) ?_; (with_reducible refine (helioscopelaw07_span.calls 0 1 t442 t443 _ A4.out).mono ?_); rintro e w14 ⟨rfl, hb⟩; refine ⟨_, rfl, ?_⟩; have n0_ := Aside0.mk (Kd.R_below (by (with_reducible repeat (first | apply Kd.R_alloc | apply Kd.R_drewN | apply Kd.R_drew)); exact HO441.out) hb); have n1_ := Aside0.mk (blk_below (g := gb434) (o := .cells #[.slice none 0 0, .int .i64 0, .int .i64 0, .slice none 0 0, .slice none 0 0] 28 (0, 0)) (by (with_reducible repeat (first | refine blk_drewN ?_ _ | refine blk_drew ?_ | refine blk_alloc ?_ _)); exact BK434.out) hb); have n2_ := Aside0.mk (below_step (by repeat (first | (with_reducible first | exact HB.out | apply below_alloc | apply pw_below_drewN | apply below_drew1 | refine below_set ?_ GE434.out) | exact HB.out)) hb); clear HO441; clear BK434; clear HB; have HO441 := n0_; have BK434 := n1_; have HB := n2_; clear n0_ n1_ n2_; (try clear hb); (try clear hb2); (try clear hk); (try clear hi)) | ((with_reducible refine gate_callee (f := 38) rfl ?_); refine goesL_ (some 9) rfl rfl Try.func38 (by kernel_rfl) rfl #[.int .i64 4, .int .i64 6] rfl (by (try simp only [List.map_toArray, List.map_cons, List.map_nil]); first | done | rfl | (simp only [List.length_drop, List.length_take]; rfl)) ?_; (with_reducible refine (helioscopelaw07_span.calls 4 6 t444 t445 _ A5.out).mono ?_); rintro e w15 ⟨rfl, hb⟩; refine ⟨_, rfl, ?_⟩; have n0_ := Aside0.mk (Kd.R_below (by (with_reducible repeat (first | apply Kd.R_alloc | apply Kd.R_drewN | apply Kd.R_drew)); exact HO441.out) hb); have n1_ := Aside0.mk (blk_below (g := gb434) (o := .cells #[.slice none 0 0, .int .i64 0, .int .i64 0, .slice none 0 0, .slice none 0 0] 28 (0, 0)) (by (with_reducible repeat (first | refine blk_drewN ?_ _ | refine blk_drew ?_ | refine blk_alloc ?_ _)); exact BK434.out) hb); have n2_ := Aside0.mk (below_step (by repeat (first | (with_reducible first | exact HB.out | apply below_alloc | apply pw_below_drewN | apply below_drew1 | refine below_set ?_ GE434.out) | exact HB.out)) hb); clear HO441; clear BK434; clear HB; have HO441 := n0_; have BK434 := n1_; have HB := n2_; clear n0_ n1_ n2_; (try clear hb); (try clear hb2); (try clear hk); (try clear hi)) | ((with_reducible refine gate_callee (f := 38) rfl ?_); refine goesL_ (some 10) rfl rfl Try.func38 (by kernel_rfl) rfl #[.int .i64 9, .int .i64 11] rfl (by (try simp only [List.map_toArray, List.map_cons, List.map_nil]); first | done | rfl | (simp only [List.length_drop, List.length_take]; rfl)) ?_; (with_reducible refine (helioscopelaw07_span.calls 9 11 t446 t447 _ A6.out).mono ?_); rintro e w16 ⟨rfl, hb⟩; refine ⟨_, rfl, ?_⟩; have n0_ := Aside0.mk (Kd.R_below (by (with_reducible repeat (first | apply Kd.R_alloc | apply Kd.R_drewN | apply Kd.R_drew)); exact HO441.out) hb); have n1_ := Aside0.mk (blk_below (g := gb434) (o := .cells #[.slice none 0 0, .int .i64 0, .int .i64 0, .slice none 0 0, .slice none 0 0] 28 (0, 0)) (by (with_reducible repeat (first | refine blk_drewN ?_ _ | refine blk_drew ?_ | refine blk_alloc ?_ _)); exact BK434.out) hb); have n2_ := Aside0.mk (below_step (by repeat (first | (with_reducible first | exact HB.out | apply below_alloc | apply pw_below_drewN | apply below_drew1 | refine below_set ?_ GE434.out) | exact HB.out)) hb); clear HO441; clear BK434; clear HB; have HO441 := n0_; have BK434 := n1_; have HB := n2_; clear n0_ n1_ n2_; (try clear hb); (try clear hb2); (try clear hk); (try clear hi)) | ((with_reducible refine gate_callee (f := 38) rfl ?_); refine goesL_ (some 11) rfl rfl Try.func38 (by kernel_rfl) rfl #[.int .i64 12, .int .i64 12] rfl (by (try simp only [List.map_toArray, List.map_cons, List.map_nil]); first | done | rfl | (simp only [List.length_drop, List.length_take]; rfl)) ?_; (with_reducible refine (helioscopelaw07_span.calls 12 12 t448 t449 _ A7.out).mono ?_); rintro e w17 ⟨rfl, hb⟩; refine ⟨_, rfl, ?_⟩; have n0_ := Aside0.mk (Kd.R_below (by (with_reducible repeat (first | apply Kd.R_alloc | apply Kd.R_drewN | apply Kd.R_drew)); exact HO441.out) hb); have n1_ := Aside0.mk (blk_below (g := gb434) (o := .cells #[.slice none 0 0, .int .i64 0, .int .i64 0, .slice none 0 0, .slice none 0 0] 28 (0, 0)) (by (with_reducible repeat (first | refine blk_drewN ?_ _ | refine blk_drew ?_ | refine blk_alloc ?_ _)); exact BK434.out) hb); have n2_ := Aside0.mk (below_step (by repeat (first | (with_reducible first | exact HB.out | apply below_alloc | apply pw_below_drewN | apply below_drew1 | refine below_set ?_ GE434.out) | exact HB.out)) hb); clear HO441; clear BK434; clear HB; have HO441 := n0_; have BK434 := n1_; have HB := n2_; clear n0_ n1_ n2_; (try clear hb); (try clear hb2); (try clear hk); (try clear hi)) | ((with_reducible refine gate_dst (N := 12) rfl ?_); refine Kd.R_lit k24 _ 24 ?hg (N := 12) ?hd (xs := ([(⟨t444, t445⟩ : S24), (⟨t446, t447⟩ : S24), (⟨t448, t449⟩ : S24)] : List (S24))) (inner := [.int .i64 t444, .int .i64 t445, .int .i64 t446, .int .i64 t447, .int .i64 t448, .int .i64 t449]) (ok := fun _ => True) (okp := fun _ => True) ?hr ?hp (fun _ hk => hk) trivial (Below.refl _ _) (Nat.le_refl _) (by simp) ?_; (case hd => rfl); (case hg => rfl); (case hr => first | (go_simp; done) | (go_simp; rfl)); (case hp => exact (Reps.c2 (show Kd.M k24 _ _ _ (⟨t444, t445⟩ : S24) [.int .i64 t444, .int .i64 t445] from (k24_mkM _ _ _ (⟨t444, t445⟩ : S24) )) (Reps.c2 (show Kd.M k24 _ _ _ (⟨t446, t447⟩ : S24) [.int .i64 t446, .int .i64 t447] from (k24_mkM _ _ _ (⟨t446, t447⟩ : S24) )) (Reps.c2 (show Kd.M k24 _ _ _ (⟨t448, t449⟩ : S24) [.int .i64 t448, .int .i64 t449] from (k24_mkM _ _ _ (⟨t448, t449⟩ : S24) )) (Reps.none _ _))))); intro v451 w18 ho19 hb hg_ hnew_; clear hg_ hnew_; (first | rw [← Ny450.out] at ho19 | (simp only [Int.reduceToNat] at ho19; rw [← Ny450.out] at ho19)); have n0_ := Aside0.mk (Kd.R_below (by (with_reducible repeat (first | apply Kd.R_alloc | apply Kd.R_drewN | apply Kd.R_drew)); exact HO441.out) hb); have n1_ := Aside0.mk (Kd.R_lower ho19 (below_size (by repeat (first | (with_reducible first | exact HB.out | apply below_alloc | apply pw_below_drewN | apply below_drew1 | refine below_set ?_ GE434.out) | exact HB.out)))); have n2_ := Aside0.mk (blk_below (g := gb434) (o := .cells #[.slice none 0 0, .int .i64 0, .int .i64 0, .slice none 0 0, .slice none 0 0] 28 (0, 0)) (by (with_reducible repeat (first | refine blk_drewN ?_ _ | refine blk_drew ?_ | refine blk_alloc ?_ _)); exact BK434.out) hb); have n3_ := Aside0.mk (below_step (by repeat (first | (with_reducible first | exact HB.out | apply below_alloc | apply pw_below_drewN | apply below_drew1 | refine below_set ?_ GE434.out) | exact HB.out)) hb); clear HO441; clear BK434; clear HB; have HO441 := n0_; have HO452 := n1_; have BK434 := n2_; have HB := n3_; clear n0_ n1_ n2_ n3_; clear hb ho19) | ((with_reducible refine gate_dst (N := 15) rfl ?_); refine Kd.R_lit k72 _ 72 ?hg (N := 15) ?hd (xs := ([(⟨0, 0, 6⟩ : S72), (⟨(-1), 2, 4⟩ : S72)] : List (S72))) (inner := [.int .i64 0, .int .i64 0, .int .i64 6, .int .i64 (-1), .int .i64 2, .int .i64 4]) (ok := fun _ => True) (okp := fun _ => True) ?hr ?hp (fun _ hk => hk) trivial (Below.refl _ _) (Nat.le_refl _) (by simp) ?_; (case hd => rfl); (case hg => rfl); (case hr => first | (go_simp; done) | (go_simp; rfl)); (case hp => exact (Reps.c3 (show Kd.M k72 _ _ _ (⟨0, 0, 6⟩ : S72) [.int .i64 0, .int .i64 0, .int .i64 6] from (k72_mkM _ _ _ (⟨0, 0, 6⟩ : S72) )) (Reps.c3 (show Kd.M k72 _ _ _ (⟨(-1), 2, 4⟩ : S72) [.int .i64 (-1), .int .i64 2, .int .i64 4] from (k72_mkM _ _ _ (⟨(-1), 2, 4⟩ : S72) )) (Reps.none _ _)))); intro v454 w20 ho21 hb hg_ hnew_; clear hg_ hnew_; (first | rw [← Ny453.out] at ho21 | (simp only [Int.reduceToNat] at ho21; rw [← Ny453.out] at ho21)); have n0_ := Aside0.mk (Kd.R_below (by (with_reducible repeat (first | apply Kd.R_alloc | apply Kd.R_drewN | apply Kd.R_drew)); exact HO441.out) hb); have n1_ := Aside0.mk (Kd.R_below (by (with_reducible repeat (first | apply Kd.R_alloc | apply Kd.R_drewN | apply Kd.R_drew)); exact HO452.out) hb); have n2_ := Aside0.mk (Kd.R_lower ho21 (below_size (by repeat (first | (with_reducible first | exact HB.out | apply below_alloc | apply pw_below_drewN | apply below_drew1 | refine below_set ?_ GE434.out) | exact HB.out)))); have n3_ := Aside0.mk (blk_below (g := gb434) (o := .cells #[.slice none 0 0, .int .i64 0, .int .i64 0, .slice none 0 0, .slice none 0 0] 28 (0, 0)) (by (with_reducible repeat (first | refine blk_drewN ?_ _ | refine blk_drew ?_ | refine blk_alloc ?_ _)); exact BK434.out) hb); have n4_ := Aside0.mk (below_step (by repeat (first | (with_reducible first | exact HB.out | apply below_alloc | apply pw_below_drewN | apply below_drew1 | refine below_set ?_ GE434.out) | exact HB.out)) hb); clear HO441; clear HO452; clear BK434; clear HB; have HO441 := n0_; have HO452 := n1_; have HO455 := n2_; have BK434 := n3_; have HB := n4_; clear n0_ n1_ n2_ n3_ n4_; clear hb ho21) | ((with_reducible refine gate_builtin (b := .append) (xs := #[.tmp 15, .tmp 16]) rfl ?_); at_builtin; refine Kd.R_append_rows k72 (w0 := w) w.heap.size rfl (.tmp 15) (.tmp 16) 26 72 (.agg #[(.int .i64 0), (.int .i64 0), (.int .i64 0)]) 24 rfl Try.underlying26 info72 rfl (by decide) (by omega) v454 y453 l0 _ _ _ (fun _ => True) (fun _ => False) rfl rfl ?aO ?aR (fun _ _ h => h) (fun _ h => h.elim) ?aF ?aB ?aS ?aL ?_; (case aR => repeat (first | exact (Kd.C_below HR0.out HB.out) | (with_reducible refine Kd.C_alloc ?_ _) | (with_reducible refine Kd.C_drewN ?_ _) | (with_reducible refine Kd.C_drew ?_))); (case aB => exact (by repeat (first | (with_reducible first | exact HB.out | apply below_alloc | apply pw_below_drewN | apply below_drew1 | refine below_set ?_ GE434.out) | exact HB.out))); (case aF => exact (fun _ _ => trivial)); (case aO => exact (by (with_reducible repeat (first | apply Kd.R_alloc | apply Kd.R_drewN | apply Kd.R_drew)); exact HO455.out)); (case aS => exact (below_size (by repeat (first | (with_reducible first | exact HB.out | apply below_alloc | apply pw_below_drewN | apply below_drew1 | refine below_set ?_ GE434.out) | exact HB.out)))); (case aL => have := LMc8.out; omega); intro v457 w22 ho hb hg hat; rw [← Ny456.out] at ho; have n0_ := Aside0.mk (blk_grown (g := gb434) (o := .cells #[.slice none 0 0, .int .i64 0, .int .i64 0, .slice none 0 0, .slice none 0 0] 28 (0, 0)) (by (with_reducible repeat (first | refine blk_drewN ?_ _ | refine blk_drew ?_ | refine blk_alloc ?_ _)); exact BK434.out) hg (Kd.R_ne HO455.out BK434.out (by decide))); have n1_ := Aside0.mk (Kd.R_over' (by (with_reducible repeat (first | apply Kd.R_alloc | apply Kd.R_drewN | apply Kd.R_drew)); exact HO441.out) (Kd.R_typed (by (with_reducible repeat (first | apply Kd.R_alloc | apply Kd.R_drewN | apply Kd.R_drew)); exact HO455.out)) (by decide) hg); have n2_ := Aside0.mk (Kd.R_over' (by (with_reducible repeat (first | apply Kd.R_alloc | apply Kd.R_drewN | apply Kd.R_drew)); exact HO452.out) (Kd.R_typed (by (with_reducible repeat (first | apply Kd.R_alloc | apply Kd.R_drewN | apply Kd.R_drew)); exact HO455.out)) (by decide) hg); have n3_ := Aside0.mk (hb); have n4_ := Aside0.mk (ho); clear BK434; clear HO441; clear HO452; clear HB; clear HO455; have BK434 := n0_; have HO441 := n1_; have HO452 := n2_; have HB := n3_; have HO458 := n4_; clear n0_ n1_ n2_ n3_ n4_; clear ho hb hg hat; obtain ⟨Ao23, co23, eo23⟩ := Kd.R_slice HO458.out; subst eo23; obtain ⟨Ao24, co24, eo24⟩ := Kd.R_slice HO452.out; subst eo24; obtain ⟨Ao25, co25, eo25⟩ := Kd.R_slice HO441.out; subst eo25; have hcz26_0 : w22.cell? ⟨gb434, 0, none⟩ = some (.slice none 0 0) := (blk_cell BK434.out 0).trans rfl; have hcz26_1 : w22.cell? ⟨gb434, 1, none⟩ = some (.int .i64 0) := (blk_cell BK434.out 1).trans rfl; have hcz26_2 : w22.cell? ⟨gb434, 2, none⟩ = some (.int .i64 0) := (blk_cell BK434.out 2).trans rfl; have hcz26_3 : w22.cell? ⟨gb434, 3, none⟩ = some (.slice none 0 0) := (blk_cell BK434.out 3).trans rfl; have hcz26_4 : w22.cell? ⟨gb434, 4, none⟩ = some (.slice none 0 0) := (blk_cell BK434.out 4).trans rfl; have hfz26_0 := blk_frozen BK434.out 0; have hfz26_1 := blk_frozen BK434.out 1; have hfz26_2 := blk_frozen BK434.out 2; have hfz26_3 := blk_frozen BK434.out 3; have hfz26_4 := blk_frozen BK434.out 4))
  refine bodyPost_ret (results_cell_row rfl _ _ gb434 28 #[.slice Ao25 y439.length co25, .int .i64 t442, .int .i64 t443, .slice Ao24 y450.length co24, .slice Ao23 y456.length co23] (0, 0) _ rfl (by (with_reducible repeat (first | refine blk_drewN ?_ _ | refine blk_drew ?_ | refine blk_alloc ?_ _)); refine blk_put (cs := #[.slice Ao25 y439.length co25, .int .i64 t442, .int .i64 t443, .slice Ao24 y450.length co24, .slice none 0 0]) ?_ 4 _ rfl; (with_reducible repeat (first | refine blk_drewN ?_ _ | refine blk_drew ?_ | refine blk_alloc ?_ _)); refine blk_put (cs := #[.slice Ao25 y439.length co25, .int .i64 t442, .int .i64 t443, .slice none 0 0, .slice none 0 0]) ?_ 3 _ rfl; (with_reducible repeat (first | refine blk_drewN ?_ _ | refine blk_drew ?_ | refine blk_alloc ?_ _)); refine blk_put (cs := #[.slice Ao25 y439.length co25, .int .i64 t442, .int .i64 0, .slice none 0 0, .slice none 0 0]) ?_ 2 _ rfl; (with_reducible repeat (first | refine blk_drewN ?_ _ | refine blk_drew ?_ | refine blk_alloc ?_ _)); refine blk_put (cs := #[.slice Ao25 y439.length co25, .int .i64 0, .int .i64 0, .slice none 0 0, .slice none 0 0]) ?_ 1 _ rfl; (with_reducible repeat (first | refine blk_drewN ?_ _ | refine blk_drew ?_ | refine blk_alloc ?_ _)); refine blk_put (cs := #[.slice none 0 0, .int .i64 0, .int .i64 0, .slice none 0 0, .slice none 0 0]) ?_ 0 _ rfl; (with_reducible repeat (first | refine blk_drewN ?_ _ | refine blk_drew ?_ | refine blk_alloc ?_ _)); exact BK434.out) Try.underlying28 rfl (by kernel_rfl)) rfl ?_
  exact ⟨_, _, _, by first | rfl | (simp [errW_none, errW_some] <;> rfl) | (simp [*, errW_none, errW_some] <;> rfl), by (with_reducible repeat (first | apply Kd.R_alloc | apply Kd.R_drewN | apply Kd.R_drew)); exact Kd.R_mono (Kd.R_far (p := ⟨gb434, 4, none⟩) (Kd.R_far (p := ⟨gb434, 3, none⟩) (Kd.R_far (p := ⟨gb434, 2, none⟩) (Kd.R_far (p := ⟨gb434, 1, none⟩) (Kd.R_far (p := ⟨gb434, 0, none⟩) (Kd.R_types HO441.out BK434.out (by decide)) (fun _ hk => hk.2) (.slice Ao25 y439.length co25)) (fun _ hk => hk.2) (.int .i64 t442)) (fun _ hk => hk.2) (.int .i64 t443)) (fun _ hk => hk.2) (.slice Ao24 y450.length co24)) (fun _ hk => hk.2) (.slice Ao23 y456.length co23)) (fun _ hk => trivial), by (with_reducible repeat (first | apply Kd.R_alloc | apply Kd.R_drewN | apply Kd.R_drew)); exact Kd.R_mono (Kd.R_far (p := ⟨gb434, 4, none⟩) (Kd.R_far (p := ⟨gb434, 3, none⟩) (Kd.R_far (p := ⟨gb434, 2, none⟩) (Kd.R_far (p := ⟨gb434, 1, none⟩) (Kd.R_far (p := ⟨gb434, 0, none⟩) (Kd.R_types HO452.out BK434.out (by decide)) (fun _ hk => hk.2) (.slice Ao25 y439.length co25)) (fun _ hk => hk.2) (.int .i64 t442)) (fun _ hk => hk.2) (.int .i64 t443)) (fun _ hk => hk.2) (.slice Ao24 y450.length co24)) (fun _ hk => hk.2) (.slice Ao23 y456.length co23)) (fun _ hk => trivial), by (with_reducible repeat (first | apply Kd.R_alloc | apply Kd.R_drewN | apply Kd.R_drew)); exact Kd.R_mono (Kd.R_far (p := ⟨gb434, 4, none⟩) (Kd.R_far (p := ⟨gb434, 3, none⟩) (Kd.R_far (p := ⟨gb434, 2, none⟩) (Kd.R_far (p := ⟨gb434, 1, none⟩) (Kd.R_far (p := ⟨gb434, 0, none⟩) (Kd.R_types HO458.out BK434.out (by decide)) (fun _ hk => hk.2) (.slice Ao25 y439.length co25)) (fun _ hk => hk.2) (.int .i64 t442)) (fun _ hk => hk.2) (.int .i64 t443)) (fun _ hk => hk.2) (.slice Ao24 y450.length co24)) (fun _ hk => hk.2) (.slice Ao23 y456.length co23)) (fun _ hk => trivial), by repeat (first | (with_reducible first | exact HB.out | apply below_alloc | apply pw_below_drewN | apply below_drew1 | refine below_set ?_ GE434.out) | exact HB.out)⟩
 ·
  rw [if_neg c8] at H
  exact absurd H (by simp)

def helioscopelaw07_wrong.f  : Option ((List (S95)) × Int × Int × (List (S24)) × (List (S72))) := (helioscopelaw07_Shelf.f (([(⟨1, 9, 7⟩ : S72)] : List (S72)))).bind fun bt463 => (some (bt463.1, bt463.2.1, bt463.2.2.1, bt463.2.2.2.1, bt463.2.2.2.2))
set_option maxHeartbeats 8000000 in
set_option maxRecDepth 100000 in
theorem helioscopelaw07_wrong.calls  (r1 : List (S95)) (r2 : Int) (r3 : Int) (r4 : List (S24)) (r5 : List (S72)) (w : World) (h : helioscopelaw07_wrong.f  = some (r1, r2, r3, r4, r5)) :
  Calls Try.prog 95 #[] w fun e w' => ∃ v0_ v3_ v4_ : Value, e = .returned (.agg #[v0_, .int .i64 r2, .int .i64 r3, v3_, v4_]) ∧ Kd.R k95 95 w' w.heap.size (fun _ => True) v0_ r1 ∧ Kd.R k24 24 w' w.heap.size (fun _ => True) v3_ r4 ∧ Kd.R k72 72 w' w.heap.size (fun _ => True) v4_ r5 ∧ Below w.heap.size w w' := by
 have hu28 := Try.underlying28
 have hu72 := Try.underlying72
 have HB := Aside0.mk (Below.refl w.heap.size w)
 have H : ((helioscopelaw07_Shelf.f (([(⟨1, 9, 7⟩ : S72)] : List (S72)))).bind fun bt463 => (some (bt463.1, bt463.2.1, bt463.2.2.1, bt463.2.2.2.1, bt463.2.2.2.2))) = some (r1, r2, r3, r4, r5) := h
 clear h
 obtain ⟨y460, hy460⟩ : ∃ y_ : List (S72), y_ = (([(⟨1, 9, 7⟩ : S72)] : List (S72))) := ⟨_, rfl⟩
 replace H : ((helioscopelaw07_Shelf.f y460).bind fun bt463 => (some (bt463.1, bt463.2.1, bt463.2.2.1, bt463.2.2.2.1, bt463.2.2.2.2))) = some (r1, r2, r3, r4, r5) := by first | (rw [hy460]; with_reducible exact H) | (have H2_ := (Option.bind_some _ _).symm.trans H; rw [hy460]; with_reducible exact H2_) | (have H2_ := (Option.bind_some _ _).symm.trans H; with_reducible exact H2_) | with_reducible exact H | (rw [hy460]; exact H) | exact H
 have Ny460 := Aside0.mk hy460
 clear hy460
 replace H := Option.bind_eq_some_iff.mp H
 obtain ⟨⟨t463, t466, t467, t468, t471⟩, A10, H⟩ := H
 replace H : (some (t463, t466, t467, t468, t471)) = some (r1, r2, r3, r4, r5) := H
 have A1 := Aside0.mk A10
 clear A10
 simp only [Option.some.injEq, Prod.mk.injEq] at H
 obtain ⟨rfl, rfl, rfl, rfl, rfl⟩ := H
 go_enter Try.func95, Try.ntmps95
 go_wp2_with (first | ((with_reducible refine gate_dst (N := 0) rfl ?_); refine box_event ?hg (N := 0) ?hd (cs := #[.slice none 0 0, .int .i64 0, .int .i64 0, .slice none 0 0, .slice none 0 0]) (t := 28) ?hr ?_; (case hd => rfl); (case hg => rfl); (case hr => first | (go_simp; done) | (go_simp; rfl)); intro gb459 hg w2 hbox hb; have n0_ := Aside0.mk (below_step (by repeat (first | (with_reducible first | exact HB.out | apply below_alloc | apply pw_below_drewN | apply below_drew1) | exact HB.out)) hb); have n1_ := Aside0.mk (hbox); have n2_ := Aside0.mk ((by rw [hg]; exact (below_size (by repeat (first | (with_reducible first | exact HB.out | apply below_alloc | apply pw_below_drewN | apply below_drew1) | exact HB.out))) : w.heap.size ≤ gb459)); have n3_ := Aside0.mk ((by rw [hg]; exact (below_size (by repeat (first | (with_reducible first | exact HB.out | apply below_alloc | apply pw_below_drewN | apply below_drew1) | exact HB.out))) : w.heap.size ≤ gb459)); clear HB; have HB := n0_; have BK459 := n1_; have GW459 := n2_; have GE459 := n3_; clear n0_ n1_ n2_ n3_; clear hb hbox hg) | ((with_reducible refine gate_dst (N := 2) rfl ?_); refine Kd.R_lit k72 _ 72 ?hg (N := 2) ?hd (xs := ([(⟨1, 9, 7⟩ : S72)] : List (S72))) (inner := [.int .i64 1, .int .i64 9, .int .i64 7]) (ok := fun _ => True) (okp := fun _ => True) ?hr ?hp (fun _ hk => hk) trivial (Below.refl _ _) (Nat.le_refl _) (by simp) ?_; (case hd => rfl); (case hg => rfl); (case hr => first | (go_simp; done) | (go_simp; rfl)); (case hp => exact (Reps.c3 (show Kd.M k72 _ _ _ (⟨1, 9, 7⟩ : S72) [.int .i64 1, .int .i64 9, .int .i64 7] from (k72_mkM _ _ _ (⟨1, 9, 7⟩ : S72) )) (Reps.none _ _))); intro v461 w3 ho4 hb hg_ hnew_; clear hg_ hnew_; (first | rw [← Ny460.out] at ho4 | (simp only [Int.reduceToNat] at ho4; rw [← Ny460.out] at ho4)); have n0_ := Aside0.mk (Kd.R_lower ho4 (below_size (by repeat (first | (with_reducible first | exact HB.out | apply below_alloc | apply pw_below_drewN | apply below_drew1 | refine below_set ?_ GE459.out) | exact HB.out)))); have n1_ := Aside0.mk (blk_below (g := gb459) (o := .cells #[.slice none 0 0, .int .i64 0, .int .i64 0, .slice none 0 0, .slice none 0 0] 28 (0, 0)) (by (with_reducible repeat (first | refine blk_drewN ?_ _ | refine blk_drew ?_ | refine blk_alloc ?_ _)); exact BK459.out) hb); have n2_ := Aside0.mk (below_step (by repeat (first | (with_reducible first | exact HB.out | apply below_alloc | apply pw_below_drewN | apply below_drew1 | refine below_set ?_ GE459.out) | exact HB.out)) hb); clear BK459; clear HB; have HO462 := n0_; have BK459 := n1_; have HB := n2_; clear n0_ n1_ n2_; clear hb ho4; obtain ⟨Ao5, co5, eo5⟩ := Kd.R_slice HO462.out; subst eo5) | ((with_reducible refine gate_callee (f := 37) rfl ?_); refine goesL_ (some 3) rfl rfl Try.func37 (by kernel_rfl) rfl #[.slice Ao5 y460.length co5] rfl (by (try simp only [List.map_toArray, List.map_cons, List.map_nil]); first | done | rfl | (simp only [List.length_drop, List.length_take]; rfl)) ?_; (with_reducible refine (helioscopelaw07_Shelf.calls _ _ y460 t463 t466 t467 t468 t471 _ ?side1 ?side2 A1.out).mono ?_); (case side1 => repeat (first | exact (Kd.R_reads' HO462.out).2.2 | (with_reducible refine Kd.C_alloc ?_ _) | (with_reducible refine Kd.C_drewN ?_ _) | (with_reducible refine Kd.C_drew ?_))); (case side2 => exact (Kd.R_reads' HO462.out).2.1); rintro e w6 ⟨v464, v469, v472, rfl, ho0, ho1, ho2, hb⟩; refine ⟨_, rfl, ?_⟩; have n0_ := Aside0.mk (Kd.R_elder' (by (with_reducible repeat (first | apply Kd.R_alloc | apply Kd.R_drewN | apply Kd.R_drew)); exact HO462.out) (Kd.R_base ho2) hb); have n1_ := Aside0.mk (Kd.R_lower ho0 (below_size (by repeat (first | (with_reducible first | exact HB.out | apply below_alloc | apply pw_below_drewN | apply below_drew1 | refine below_set ?_ GE459.out) | exact HB.out)))); have n2_ := Aside0.mk (Kd.R_lower ho1 (below_size (by repeat (first | (with_reducible first | exact HB.out | apply below_alloc | apply pw_below_drewN | apply below_drew1 | refine below_set ?_ GE459.out) | exact HB.out)))); have n3_ := Aside0.mk (Kd.R_lower (Kd.R_new' ho2 (Kd.R_lt (by (with_reducible repeat (first | apply Kd.R_alloc | apply Kd.R_drewN | apply Kd.R_drew)); exact HO462.out))) (below_size (by repeat (first | (with_reducible first | exact HB.out | apply below_alloc | apply pw_below_drewN | apply below_drew1 | refine below_set ?_ GE459.out) | exact HB.out)))); have n4_ := Aside0.mk (blk_below (g := gb459) (o := .cells #[.slice none 0 0, .int .i64 0, .int .i64 0, .slice none 0 0, .slice none 0 0] 28 (0, 0)) (by (with_reducible repeat (first | refine blk_drewN ?_ _ | refine blk_drew ?_ | refine blk_alloc ?_ _)); exact BK459.out) hb); have n5_ := Aside0.mk (below_step (by repeat (first | (with_reducible first | exact HB.out | apply below_alloc | apply pw_below_drewN | apply below_drew1 | refine below_set ?_ GE459.out) | exact HB.out)) hb); clear HO462; clear BK459; clear HB; have HO462 := n0_; have HO465 := n1_; have HO470 := n2_; have HO473 := n3_; have BK459 := n4_; have HB := n5_; clear n0_ n1_ n2_ n3_ n4_ n5_; (try clear hb); (try clear hb2); (try clear hk); (try clear hi); (try clear ho0); (try clear ho1); (try clear ho2); obtain ⟨Ao7, co7, eo7⟩ := Kd.R_slice HO465.out; subst eo7; have hcz8_0 : w6.cell? ⟨gb459, 0, none⟩ = some (.slice none 0 0) := (blk_cell BK459.out 0).trans rfl; have hcz8_1 : w6.cell? ⟨gb459, 1, none⟩ = some (.int .i64 0) := (blk_cell BK459.out 1).trans rfl; have hcz8_2 : w6.cell? ⟨gb459, 2, none⟩ = some (.int .i64 0) := (blk_cell BK459.out 2).trans rfl; have hcz8_3 : w6.cell? ⟨gb459, 3, none⟩ = some (.slice none 0 0) := (blk_cell BK459.out 3).trans rfl; have hcz8_4 : w6.cell? ⟨gb459, 4, none⟩ = some (.slice none 0 0) := (blk_cell BK459.out 4).trans rfl; have hfz8_0 := blk_frozen BK459.out 0; have hfz8_1 := blk_frozen BK459.out 1; have hfz8_2 := blk_frozen BK459.out 2; have hfz8_3 := blk_frozen BK459.out 3; have hfz8_4 := blk_frozen BK459.out 4; obtain ⟨Ao9, co9, eo9⟩ := Kd.R_slice HO470.out; subst eo9; obtain ⟨Ao10, co10, eo10⟩ := Kd.R_slice HO473.out; subst eo10))
 refine bodyPost_ret (results_cell_row rfl _ _ gb459 28 #[.slice Ao7 t463.length co7, .int .i64 t466, .int .i64 t467, .slice Ao9 t468.length co9, .slice Ao10 t471.length co10] (0, 0) _ rfl (by (with_reducible repeat (first | refine blk_drewN ?_ _ | refine blk_drew ?_ | refine blk_alloc ?_ _)); refine blk_put (cs := #[.slice Ao7 t463.length co7, .int .i64 t466, .int .i64 t467, .slice Ao9 t468.length co9, .slice none 0 0]) ?_ 4 _ rfl; (with_reducible repeat (first | refine blk_drewN ?_ _ | refine blk_drew ?_ | refine blk_alloc ?_ _)); refine blk_put (cs := #[.slice Ao7 t463.length co7, .int .i64 t466, .int .i64 t467, .slice none 0 0, .slice none 0 0]) ?_ 3 _ rfl; (with_reducible repeat (first | refine blk_drewN ?_ _ | refine blk_drew ?_ | refine blk_alloc ?_ _)); refine blk_put (cs := #[.slice Ao7 t463.length co7, .int .i64 t466, .int .i64 0, .slice none 0 0, .slice none 0 0]) ?_ 2 _ rfl; (with_reducible repeat (first | refine blk_drewN ?_ _ | refine blk_drew ?_ | refine blk_alloc ?_ _)); refine blk_put (cs := #[.slice Ao7 t463.length co7, .int .i64 0, .int .i64 0, .slice none 0 0, .slice none 0 0]) ?_ 1 _ rfl; (with_reducible repeat (first | refine blk_drewN ?_ _ | refine blk_drew ?_ | refine blk_alloc ?_ _)); refine blk_put (cs := #[.slice none 0 0, .int .i64 0, .int .i64 0, .slice none 0 0, .slice none 0 0]) ?_ 0 _ rfl; (with_reducible repeat (first | refine blk_drewN ?_ _ | refine blk_drew ?_ | refine blk_alloc ?_ _)); exact BK459.out) Try.underlying28 rfl (by kernel_rfl)) rfl ?_
 exact ⟨_, _, _, by first | rfl | (simp [errW_none, errW_some] <;> rfl) | (simp [*, errW_none, errW_some] <;> rfl), by (with_reducible repeat (first | apply Kd.R_alloc | apply Kd.R_drewN | apply Kd.R_drew)); exact Kd.R_mono (Kd.R_far (p := ⟨gb459, 4, none⟩) (Kd.R_far (p := ⟨gb459, 3, none⟩) (Kd.R_far (p := ⟨gb459, 2, none⟩) (Kd.R_far (p := ⟨gb459, 1, none⟩) (Kd.R_far (p := ⟨gb459, 0, none⟩) (Kd.R_types HO465.out BK459.out (by decide)) (fun _ hk => hk.2) (.slice Ao7 t463.length co7)) (fun _ hk => hk.2) (.int .i64 t466)) (fun _ hk => hk.2) (.int .i64 t467)) (fun _ hk => hk.2) (.slice Ao9 t468.length co9)) (fun _ hk => hk.2) (.slice Ao10 t471.length co10)) (fun _ hk => trivial), by (with_reducible repeat (first | apply Kd.R_alloc | apply Kd.R_drewN | apply Kd.R_drew)); exact Kd.R_mono (Kd.R_far (p := ⟨gb459, 4, none⟩) (Kd.R_far (p := ⟨gb459, 3, none⟩) (Kd.R_far (p := ⟨gb459, 2, none⟩) (Kd.R_far (p := ⟨gb459, 1, none⟩) (Kd.R_far (p := ⟨gb459, 0, none⟩) (Kd.R_types HO470.out BK459.out (by decide)) (fun _ hk => hk.2) (.slice Ao7 t463.length co7)) (fun _ hk => hk.2) (.int .i64 t466)) (fun _ hk => hk.2) (.int .i64 t467)) (fun _ hk => hk.2) (.slice Ao9 t468.length co9)) (fun _ hk => hk.2) (.slice Ao10 t471.length co10)) (fun _ hk => trivial), by (with_reducible repeat (first | apply Kd.R_alloc | apply Kd.R_drewN | apply Kd.R_drew)); exact Kd.R_mono (Kd.R_far (p := ⟨gb459, 4, none⟩) (Kd.R_far (p := ⟨gb459, 3, none⟩) (Kd.R_far (p := ⟨gb459, 2, none⟩) (Kd.R_far (p := ⟨gb459, 1, none⟩) (Kd.R_far (p := ⟨gb459, 0, none⟩) (Kd.R_types HO473.out BK459.out (by decide)) (fun _ hk => hk.2) (.slice Ao7 t463.length co7)) (fun _ hk => hk.2) (.int .i64 t466)) (fun _ hk => hk.2) (.int .i64 t467)) (fun _ hk => hk.2) (.slice Ao9 t468.length co9)) (fun _ hk => hk.2) (.slice Ao10 t471.length co10)) (fun _ hk => trivial), by repeat (first | (with_reducible first | exact HB.out | apply below_alloc | apply pw_below_drewN | apply below_drew1 | refine below_set ?_ GE459.out) | exact HB.out)⟩

end Go.Proofs.Ytgoidclnccjdeaa.PR
end
section
/- Package glass: the shelves of Awake, what is answered of them. -/
namespace Go.Proofs.Ytgoidclnccjdeaa.D
open Go Go.RowKit Go.Proofs.YtgoidclnccjdeaaK Go.Proofs.YtgoidclnccjdeaaW.PrintWords Go.Proofs.YtgoidclnccjdeaaW.PrintLast Go.Proofs.YtgoidclnccjdeaaW.PrintMore Go.Proofs.Ytgoidclnccjdeaa.PR Go.Proofs.Ytgoidclnccjdeaa.M
set_option linter.unusedVariables false
set_option linter.unusedSimpArgs false

def exS (dr : List Dr) : Dat := ⟨[⟨⟨#[111, 108, 100]⟩, ⟨8, 10⟩⟩, ⟨⟨#[110, 101, 119]⟩, ⟨3, 5⟩⟩], 0, 1, [⟨4, 6⟩, ⟨9, 11⟩, ⟨12, 12⟩], [⟨0, 0, 6⟩, ⟨-1, 2, 4⟩] ++ dr⟩
abbrev exD : Dat := exS []
abbrev exW : Dat := exS [⟨1, 9, 7⟩]
theorem ex_size1 : hullF exD [(amongB exD.sp.length [1], 4)] (4 + (1 : Int).toNat) = (9, 11) := by kernel_rfl
theorem ex_esize1 : enterE exD [(amongB exD.sp.length [1], 4)] = 0 := by kernel_rfl
theorem ex_least0 : hullF exD [(amongB exD.gl.length [0], 4)] ((0 : Int).toNat) = (8, 10) := by kernel_rfl
theorem ex_eleast0 : enterE exD [(amongB exD.gl.length [0], 4)] = 0 := by kernel_rfl
theorem ex_dull : hullF exD [] 3 = (1, 1) := by kernel_rfl
theorem ex_edull : enterE exD [] = 0 := by kernel_rfl
theorem ex_used1 : usedF exD 1 = [0] := by kernel_rfl
theorem ex_eused1 : enterE exD (askUsed exD 1) = 0 := by kernel_rfl
theorem ex_sees10 : seesF exD 1 0 = ([1, 2], [0, 1, 2]) := by kernel_rfl
theorem ex_esees10 : enterE exD (askSees exD 1 0) = 0 := by kernel_rfl
theorem ex_sees02 : seesF exD 0 2 = ([2], [2]) := by kernel_rfl
theorem ex_esees02 : enterE exD (askSees exD 0 2) = 0 := by kernel_rfl
theorem ex_larger10 : largerF exD 1 0 = 1 := by kernel_rfl
theorem ex_elarger10 : enterE exD (askTwo exD 1 0) = 0 := by kernel_rfl
theorem ex_part212 : partF exD 2 1 2 = [0] := by kernel_rfl
theorem ex_epart212 : enterE exD (askPart exD 2 1 2) = 0 := by kernel_rfl
theorem ex_wrong : wrongF exW = ([0], 0) := by kernel_rfl
theorem ex_dullW : hullF exW [] 3 = (0, 0) := by kernel_rfl
theorem ex_edullW : enterE exW [] = 8 := by kernel_rfl
theorem ex_larger22 : largerF exD 2 2 = 0 := by kernel_rfl
theorem ex_elarger22 : enterE exD (askTwo exD 2 2) = 2 := by kernel_rfl

theorem span_calls2 (a b : Int) (w : World) : Calls Try.prog 38 #[.int .i64 a, .int .i64 b] w fun e w' => e = .returned (.agg #[.int .i64 a, .int .i64 b]) ∧ Below w.heap.size w w' := helioscopelaw07_span.calls a b a b w rfl
theorem arg_of {w w' : World} {D : Dat} {n0 : Nat} {v0 v3 v4 : Value} (h0 : Kd.R k95 95 w' n0 (fun _ => True) v0 D.gl) (h3 : Kd.R k24 24 w' n0 (fun _ => True) v3 D.sp) (h4 : Kd.R k72 72 w' n0 (fun _ => True) v4 D.dr) (hn : ∀ x ∈ D.gl, x.f0.size ≤ 9223372036854775807) :
    ∃ A0 c0 A3 c3 A4 c4, Value.agg #[v0, .int .i64 D.lo, .int .i64 D.hi, v3, v4] = .agg (D.cells A0 c0 A3 c3 A4 c4) ∧ Arg w' D A0 c0 A3 c3 A4 c4 := by
  obtain ⟨A0, c0, rfl, l0, r0⟩ := Kd.R_reads h0
  obtain ⟨A3, c3, rfl, l3, r3⟩ := Kd.R_reads h3
  obtain ⟨A4, c4, rfl, l4, r4⟩ := Kd.R_reads h4
  exact ⟨A0, c0, A3, c3, A4, c4, rfl, r0, l0, hn, r3, l3, r4, l4⟩
theorem exS_names (dr : List Dr) : ∀ x ∈ (exS dr).gl, x.f0.size ≤ 9223372036854775807 := by
  intro x hx
  simp only [exS, List.mem_cons, List.not_mem_nil, or_false] at hx
  rcases hx with rfl | rfl <;> decide
theorem Shelf_calls (w : World) : Calls Try.prog 37 #[.slice none 0 0] w fun e w' => (∃ A0 c0 A3 c3 A4 c4, e = .returned (.agg (exD.cells A0 c0 A3 c3 A4 c4)) ∧ Arg w' exD A0 c0 A3 c3 A4 c4) ∧ Below w.heap.size w w' := by
  refine (helioscopelaw07_Shelf.calls none 0 [] exD.gl 0 1 exD.sp exD.dr w ⟨rfl, by decide, fun h => absurd h (by decide)⟩ (Nat.le_refl _) rfl).mono ?_
  rintro e w' ⟨v0, v3, v4, rfl, h0, h3, h4, hb⟩
  obtain ⟨A0, c0, A3, c3, A4, c4, he, ha⟩ := arg_of (w := w) (D := exD) h0 h3 h4 (exS_names _)
  exact ⟨⟨A0, c0, A3, c3, A4, c4, by rw [← he]; rfl, ha⟩, hb⟩
theorem wrongS_calls (w : World) : Calls Try.prog 95 #[] w fun e w' => (∃ A0 c0 A3 c3 A4 c4, e = .returned (.agg (exW.cells A0 c0 A3 c3 A4 c4)) ∧ Arg w' exW A0 c0 A3 c3 A4 c4) ∧ Below w.heap.size w w' := by
  refine (helioscopelaw07_wrong.calls exW.gl 0 1 exW.sp exW.dr w rfl).mono ?_
  rintro e w' ⟨v0, v3, v4, rfl, h0, h3, h4, hb⟩
  obtain ⟨A0, c0, A3, c3, A4, c4, he, ha⟩ := arg_of (w := w) (D := exW) h0 h3 h4 (exS_names _)
  exact ⟨⟨A0, c0, A3, c3, A4, c4, by rw [← he]; rfl, ha⟩, hb⟩
set_option maxHeartbeats 400000 in
theorem Ints_calls (la lb : List Int) (A B : Option Addr) (n m c d : Nat) (w : World) (hn : n = la.length) (hm : m = lb.length) (ha : Kd.C (Kd.int .i64) w A n la) (hb : Kd.C (Kd.int .i64) w B m lb) :
    Calls Try.prog 28 #[.slice A n c, .slice B m d] w fun e w' => e = .returned (.bool (la == lb)) ∧ Chg (fun _ => False) w w' := by
  subst hn hm
  have hlen := ha.2.1
  have hlen' := hb.2.1
  have HA := Aside0.mk ha
  have HB := Aside0.mk hb
  clear ha hb
  by_cases he : la.length = lb.length
  · have hb' : ((la.length : Int) == (lb.length : Int)) = true := beq_iff_eq.2 (by omega)
    go_enter Try.func28, Try.ntmps28
    go_wp2
    go_loopw [5, 6] (fun b j wr => ∃ (k : Nat) (q : Bool), k ≤ la.length ∧ j = .int .i64 k ∧ b = .bool q ∧ Aside0 ((la == lb) = (q && (la.drop k == lb.drop k))) ∧ Aside0 (Chg (fun _ => False) w wr)) (fun b j _ => la.length - (intOf j).toNat)
    case atStart => exact ⟨0, true, Nat.zero_le _, rfl, rfl, ⟨by simp⟩, ⟨Chg.refl _ _⟩⟩
    case round =>
      obtain ⟨k, q, hk, rfl, rfl, HO, HC⟩ := hrel
      cases q
      · go_wp2
        go_ret
        exact ⟨by rw [HO.out]; rfl, HC.out⟩
      · by_cases hlt : k < la.length
        · have hlt' : k < lb.length := by omega
          obtain ⟨ad, e, hc⟩ := at_nat (Kd.C_below HA.out (HC.out.below (fun _ _ x => x.elim) (Nat.le_refl _))) k hlt
          obtain ⟨bd, e', hd⟩ := at_nat (Kd.C_below HB.out (HC.out.below (fun _ _ x => x.elim) (Nat.le_refl _))) k hlt'
          subst e e'
          rw [show rd la k = la[k] by simp [rd, hlt]] at hc
          rw [show rd lb k = lb[k]'hlt' by simp [rd, hlt']] at hd
          have HD : Aside0 ((la == lb) = ((la[k] == lb[k]'hlt') && (la.drop (k + 1) == lb.drop (k + 1)))) := ⟨by
            rw [HO.out, List.drop_eq_getElem_cons hlt, List.drop_eq_getElem_cons hlt', Bool.true_and]; rfl⟩
          generalize la[k] = x at hc HD
          generalize lb[k]'hlt' = y at hd HD
          obtain ⟨q, hq⟩ : ∃ q, (x == y) = q := ⟨_, rfl⟩
          rw [hq] at HD
          go_wp2
          go_quiet (fail)
          go_wp2
          go_roundw
          case rel => exact ⟨k + 1, q, by omega, by go_num, rfl, HD, ⟨HC.out.drewN _⟩⟩
          case measure => simp [intOf]; omega
        · obtain rfl : k = la.length := by omega
          go_wp2
          go_ret
          exact ⟨by rw [HO.out, List.drop_of_length_le (Nat.le_refl _), List.drop_of_length_le (by omega)]; rfl, HC.out⟩
  · have hb' : ((la.length : Int) == (lb.length : Int)) = false := beq_eq_false_iff_ne.2 (by omega)
    have hne : (la == lb) = false := beq_eq_false_iff_ne.2 (fun e => he (by rw [e]))
    have HNE := Aside0.mk hne
    clear hne
    go_enter Try.func28, Try.ntmps28
    go_wp2
    go_loop [5, 6] (fun b j => b = .bool false ∧ j = .int .i64 0) (fun b j => 0)
    case atStart => exact ⟨rfl, rfl⟩
    case round =>
      obtain ⟨rfl, rfl⟩ := hrel
      go_wp2
      go_ret
      exact ⟨by rw [HNE.out]; rfl, Chg.refl _ _⟩

theorem NewRow.lit {w : World} {n0 : Nat} {v : Value} {l : List Nat} (h : NewRow w n0 v l) : ∃ A c, v = .slice A l.length c ∧ Kd.C (Kd.int .i64) w A l.length (ints l) := by
  obtain ⟨A, c, h1, _, h3⟩ := h.shape
  exact ⟨A, c, h1, h3⟩
theorem Row.lit {w : World} {n0 : Nat} {v : Value} {l : List Nat} (h : Row w n0 3 v (ints l)) (hl : l.length ≤ 50) : ∃ A c, v = .slice A l.length c ∧ Kd.C (Kd.int .i64) w A l.length (ints l) := by
  obtain ⟨A, c, rfl, _⟩ := h.shape
  refine ⟨A, c, by simp [ints], ?_⟩
  have := h.read rfl (by simp [ints]; omega)
  simpa [ints] using this
end Go.Proofs.Ytgoidclnccjdeaa.D
end
