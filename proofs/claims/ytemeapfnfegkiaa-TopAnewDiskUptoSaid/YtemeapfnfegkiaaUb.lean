/- Contracts of the functions that this claim reaches, with the words for them: pruned and packed by wip/tools/prune.py. -/
import Derived.Test.YtemeapfnfegkiaaUa
import Derived.Deep.QuietTactic
import Derived.OrdersHeld
import Derived.StillTactics
import Derived.Deep.RegionHeld3
import Derived.Deep.Slices
import Derived.Deep.Fields
import Derived.ChangeSame
import Derived.ProofKit
import Derived.SizedLaws
section
/- Package disk: DeleteFunc of a row of ints, list. -/
namespace Go.Proofs.Ytemeapfnfegkiaa.D
open Go Go.RowKit Go.Proofs.YtemeapfnfegkiaaK Go.Proofs.YtemeapfnfegkiaaW.PrintWords Go.Proofs.YtemeapfnfegkiaaW.PrintLast Go.Proofs.YtemeapfnfegkiaaW.PrintMore Go.Proofs.Ytemeapfnfegkiaa.PR
set_option linter.unusedVariables false
set_option linter.unusedSimpArgs false

theorem zeroI (w : World) : (zeroValue 3).run Try.prog w = .ok (.int .i64 0) w := by
  obtain ⟨i, hi, hz, _, _⟩ := i3
  simp [zeroValue, typeInfo, hi, hz]
abbrev keepP (set : Nat) (k : Nat) : Bool := !outP set k

theorem clearI (w : World) (g i n : Nat) (L : List Int) (hL : IB w 3 g L) (hn : L.length = n) (hi : i < n) (ty : TypeId) :
    (Builtin.clear_ #[46] ty #[.slice (some ⟨g, i, none⟩) (n - i) (n - i)]).run Try.prog w = .ok (.tuple #[]) (w.setCells g i ((List.replicate (n - i) (0 : Int)).map (Value.int .i64))) := by
  have h := Lib.run_clear_slice (P := Try.prog) w 46 3 ty (.int .i64 0) Try.underlying46 zeroI rfl rfl g i (n - i) (n - i) (by omega) (fun j hj => by rw [hL.cell (i + j) (by omega)]; rfl) (fun j hj => hL.frozen (i + j))
  rw [h]
  simp

set_option maxRecDepth 100000 in
set_option maxHeartbeats 1000000 in
theorem deleteI_calls (l : List Nat) (set Bs g : Nat) (w : World) (hset : set < 2 ^ 62) (hl : ∀ x ∈ l, x < 62) (hL : IB w 3 g (ints l)) (hlen : l.length ≤ 1000000) (hb : w.heap[Bs]? = some (.cells #[.int .i64 set] 3 (0, 0))) (hne : Bs ≠ g) :
    Calls Try.prog 122 #[.slice (some ⟨g, 0, none⟩) l.length l.length, .func (.func 123) #[] #[.pointer (some ⟨Bs, 0, none⟩)]] w
      fun e w' => e = .returned (.slice (some ⟨g, 0, none⟩) (l.filter (keepP set)).length l.length) ∧ (∃ L, IB w' 3 g L ∧ L.length = l.length ∧ L.take (l.filter (keepP set)).length = ints (l.filter (keepP set))) ∧ Chg (fun k => k = g) w w' := by
  have HI := Aside0.mk hL
  have HB := Aside0.mk hb
  have HL := Aside0.mk hl
  have hR := hL.read (ints l).length (Nat.le_refl _) (by simp; omega)
  rw [List.take_length, show (ints l).length = l.length by simp] at hR
  have HR := Aside0.mk hR
  have he := enters123
  clear hL hb hl hR
  go_enter Try.func122, Try.ntmps122
  obtain ⟨ix, hix⟩ : ∃ ix, idxFrom (outP set) l 0 = ix := ⟨_, rfl⟩
  have HX := Aside0.mk hix
  clear hix
  by_cases h1 : ix = -1
  · subst h1
    go_wp2_with (go_at_call 132; refine (indexI_calls l set Bs _ _ _ hset HL.out HR.out HB.out).mono ?_; rw [HX.out]; rintro e w1 ⟨rfl, rfl⟩)
    go_ret
    have hf : l.filter (keepP set) = l := List.filter_eq_self.2 (fun x hx => by simp [keepP, idxFrom_none HX.out x hx])
    exact ⟨by rw [hf]; rfl, ⟨_, HI.out, by simp, by rw [hf, List.take_of_length_le (by simp)]⟩, Chg.refl _ _⟩
  · obtain ⟨i0, hi0, hxe, _, hft⟩ := idxFrom_some (l := l) (p := outP set) (k := 0) (by rw [HX.out]; exact h1)
    have hix : ix = i0 := by rw [← HX.out, hxe]; simp
    subst hix
    have HFT := Aside0.mk hft
    clear hft hxe h1
    have hm1 : ((i0 : Int) == -1) = false := beq_eq_false_iff_ne.2 (by omega)
    go_wp2_with (go_at_call 132; refine (indexI_calls l set Bs _ _ _ hset HL.out HR.out HB.out).mono ?_; rw [HX.out]; rintro e w1 ⟨rfl, rfl⟩)
    go_loopw [5, 6] (fun i j wr => ∃ (a k : Nat), a < k ∧ k ≤ l.length ∧ i = .int .i64 a ∧ j = .int .i64 k ∧ a = ((l.take k).filter (keepP set)).length ∧ Aside0 (∃ L, IB wr 3 g L ∧ L.length = l.length ∧ L.take a = ints ((l.take k).filter (keepP set)) ∧ L.drop k = ints (l.drop k)) ∧ Aside0 (Chg (fun k => k = g) w wr)) (fun i j _ => l.length - (intOf j).toNat)
    case atStart =>
      have e1 : (l.take (i0 + 1)).filter (keepP set) = l.take i0 := HFT.out
      exact ⟨i0, i0 + 1, by omega, by omega, rfl, by go_num, by rw [e1]; simp; omega, ⟨_, HI.out, by simp, by rw [e1]; simp [ints, List.map_take], by simp [ints, List.map_drop]⟩, ⟨Chg.refl _ _⟩⟩
    case round =>
      obtain ⟨a, k, hak, hk, rfl, rfl, ha, ⟨L, hL, hLn, hLt, hLd⟩, HC⟩ := hrel
      have HIL := Aside0.mk hL
      have HLt := Aside0.mk hLt
      have HLd := Aside0.mk hLd
      by_cases hlt : k < l.length
      · have hkL : k < L.length := by omega
        have hget : L[k] = (l[k] : Int) := by
          have h1 : (L.drop k)[0]? = (ints (l.drop k))[0]? := by rw [hLd]
          simp [ints, hkL, hlt] at h1
          exact h1
        have hck := hL.cell k hkL
        obtain ⟨y, hca⟩ : ∃ y, wr.cell? ⟨g, a, none⟩ = some (.int .i64 y) := ⟨_, hL.cell a (by omega)⟩
        have hfa := hL.frozen a
        rw [hget] at hck
        have hlg := hL.lt
        have hxl := HL.out l[k] (List.getElem_mem hlt)
        have HTK : Aside0 ((l.take (k + 1)).filter (keepP set) = (l.take k).filter (keepP set) ++ if keepP set l[k] = true then [l[k]] else []) := ⟨by
          rw [List.take_succ_eq_append_getElem hlt, List.filter_append]; congr 1; simp [List.filter_cons]⟩
        have HLd1 : Aside0 (L.drop (k + 1) = ints (l.drop (k + 1))) := ⟨by
          have : (L.drop k).drop 1 = (ints (l.drop k)).drop 1 := by rw [hLd]
          simpa [ints, List.map_drop, Nat.add_comm] using this⟩
        have HA := Aside0.mk ha
        have HBr := Aside0.mk (HC.out.heap HB.out hne)
        clear hL hLt hLd hget ha
        generalize l[k] = x at *
        obtain ⟨q, hq⟩ : ∃ q, outP set x = q := ⟨_, rfl⟩
        have HQ := Aside0.mk hq
        clear hq
        cases q
        · go_wp2_with (refine (listC_calls set x Bs _ hset hxl HBr.out).mono ?_; rw [HQ.out]; rintro e w1 ⟨rfl, rfl⟩)
          go_roundw
          case rel =>
            have hkp : keepP set x = true := by simp [keepP, HQ.out]
            refine ⟨a + 1, k + 1, by omega, by omega, by go_num, by go_num, ?_, ⟨_, HIL.out.set a x, by simp; omega, ?_, ?_⟩, ⟨HC.out.setCell (p := ⟨g, a, none⟩) (fun _ => rfl) _⟩⟩
            · rw [HTK.out, if_pos hkp, List.length_append, ← HA.out]; rfl
            · rw [HTK.out, if_pos hkp, List.take_succ_eq_append_getElem (by simp; omega), List.take_set_of_le (Nat.le_refl _), List.getElem_set_self, HLt.out]
              simp [ints]
            · rw [List.drop_set_of_lt (by omega), HLd1.out]
          case measure => simp [intOf]; omega
        · go_wp2_with (refine (listC_calls set x Bs _ hset hxl HBr.out).mono ?_; rw [HQ.out]; rintro e w1 ⟨rfl, rfl⟩)
          go_roundw
          case rel =>
            have hkp : keepP set x = false := by simp [keepP, HQ.out]
            refine ⟨a, k + 1, by omega, by omega, rfl, by go_num, ?_, ⟨L, HIL.out, hLn, ?_, HLd1.out⟩, HC⟩
            · rw [HTK.out, hkp]; simp [HA.out]
            · rw [HTK.out, hkp]; simp [HLt.out]
          case measure => simp [intOf]; omega
      · obtain rfl : k = l.length := by omega
        rw [List.take_length] at ha HLt
        have hcl := clearI wr g a l.length L hL hLn (by omega)
        have HA := Aside0.mk ha
        clear hL hLt hLd ha
        go_wp2
        go_ret
        have HS := IB.setCells (List.replicate (l.length - a) 0) a wr L HIL.out (by rw [List.length_replicate]; omega)
        rw [List.map_replicate] at HS
        refine ⟨by rw [← HA.out]; rfl, ⟨_, HS, by simp; omega, ?_⟩, Chg.setCells (S := fun k => k = g) (fun _ => rfl) _ _ _ HC.out⟩
        rw [← HA.out, List.append_assoc, List.take_append_of_le_length (by simp; omega), List.take_take, Nat.min_self, HLt.out]

set_option maxRecDepth 100000 in
set_option maxHeartbeats 1000000 in
theorem list_calls (set n : Nat) (w : World) (hset : set < 2 ^ 62) (hn : n ≤ 50) :
    Calls Try.prog 105 #[.int .i64 set, .int .i64 n] w
      fun e w' => (∃ g, w.heap.size ≤ g ∧ e = .returned (.slice (some ⟨g, 0, none⟩) ((List.range n).filter (keepP set)).length n) ∧ (∃ L, IB w' 3 g L ∧ L.length = n ∧ L.take ((List.range n).filter (keepP set)).length = ints ((List.range n).filter (keepP set)))) ∧ Chg (fun _ => False) w w' := by
  obtain ⟨ti, hti, htz, hts, htb⟩ := i3
  have HB0 := Aside0.mk (blk_new w (.cells #[.int .i64 set] 3))
  have HC0 : Aside0 (Chg (fun _ => False) w (w.alloc (.cells #[.int .i64 set] 3))) := ⟨(Chg.refl _ w).alloc _⟩
  go_enter Try.func105, Try.ntmps105
  go_upto_region 1 with (fail)
  have hsz : (w.alloc (.cells #[.int .i64 set] 3)).heap.size = w.heap.size + 1 := by simp
  generalize w.alloc (.cells #[.int .i64 set] 3) = w0 at HB0 HC0 hsz ⊢
  obtain ⟨g1, hg1⟩ : ∃ g1, w0.heap.size = g1 := ⟨_, rfl⟩
  have hz : w.heap.size < g1 := by omega
  clear hsz
  go_wp2_with (at_make; refine wpList_make_full _ rfl _ _ _ rfl 0 3 ti (.int .i64 0) 1 Try.underlying46 hti htz hts .i64 .i64 _ _ n rfl rfl rfl rfl (by rw [htb]; omega) (by simp only [maxLen]; omega) (Nat.zero_le _) ?_; intro w1 ho1 hg1; have HI1 := Aside0.mk (IB.of_owns (cap := n) ho1); have HC1 := Aside0.mk (Chg.grown hg1); clear ho1 hg1)
  rw [hg1] at HI1
  have HB1 := Aside0.mk (HC1.out.heap HB0.out (by simp))
  have z1 := HI1.out.lt
  go_loopw [12] (fun j wr => ∃ k : Nat, k ≤ n ∧ j = .int .i64 k ∧ Aside0 (IB wr 3 g1 (ints (List.range k) ++ List.replicate (n - k) 0)) ∧ Aside0 (Chg (fun k => k = g1) w1 wr)) (fun j _ => n - (intOf j).toNat)
  case atStart => exact ⟨0, Nat.zero_le _, rfl, ⟨by simpa [ints] using HI1.out⟩, ⟨Chg.refl _ _⟩⟩
  case round =>
    obtain ⟨k, hk, rfl, HI, HC⟩ := hrel
    by_cases hlt : k < n
    · obtain ⟨y, hca⟩ : ∃ y, wr.cell? ⟨g1, k, none⟩ = some (.int .i64 y) := ⟨_, HI.out.cell k (by simp; omega)⟩
      have hfa := HI.out.frozen k
      have hlg := HI.out.lt
      go_wp2
      go_roundw
      case rel =>
        refine ⟨k + 1, by omega, by go_num, ⟨?_⟩, ⟨HC.out.setCell (p := ⟨g1, k, none⟩) (fun _ => rfl) _⟩⟩
        have := HI.out.set k (k : Int)
        have e1 : (ints (List.range k) ++ List.replicate (n - k) 0).set k (k : Int) = ints (List.range (k + 1)) ++ List.replicate (n - (k + 1)) 0 := by
          rw [List.set_append_right _ _ (by simp), show n - k = (n - (k + 1)) + 1 by omega, List.replicate_succ]
          simp [ints, List.range_succ]
        rw [e1] at this
        exact this
      case measure => simp [intOf]; omega
    · obtain rfl : k = n := by omega
      have HI' : Aside0 (IB wr 3 g1 (ints (List.range k))) := ⟨by simpa using HI.out⟩
      have hsrc : ∀ (j : Nat) (v : Value), ((ints (List.range k)).map (Value.int .i64))[j]? = some v → wr.cell? ((⟨g1, 0, none⟩ : Addr).add j) = some v := fun j v hj => by
        have hadd : (⟨g1, 0, none⟩ : Addr).add j = ⟨g1, j, none⟩ := by unfold Addr.add; split <;> simp_all
        rw [hadd]
        obtain ⟨h1, h2⟩ := List.getElem?_eq_some_iff.1 hj
        rw [HI'.out.cell j (by simpa using h1), ← h2]; simp
      have HSRC := Aside0.mk hsrc
      have zr := HI'.out.lt
      clear hsrc
      go_wp2_with (first | (at_make; refine wpList_make_full _ rfl _ _ _ rfl 0 3 ti (.int .i64 0) 1 Try.underlying46 hti htz hts .i64 .i64 _ _ k rfl rfl rfl rfl (by rw [htb]; omega) (by simp only [maxLen]; omega) (Nat.zero_le _) ?_; intro w2 ho2 hg2; have HI2 := Aside0.mk (IB.of_owns (cap := k) ho2); have HC2 := Aside0.mk (Chg.grown hg2); have hcp := fun ty => run_copy_row (P := Try.prog) w2 46 46 ty 3 wr.heap.size 0 k k ⟨g1, 0, none⟩ k k _ 3 ((ints (List.range k)).map (Value.int .i64)) Try.underlying46 (by rw [hti]; simp [hts]) HI2.out (by simp) (fun j v hj => HC2.out.cell (HSRC.out j v hj) (by simp)) (by simp) (by simp [Value.oneCell']); clear ho2 hg2) | fail)
      have hzr : w.heap.size < wr.heap.size := by have := HC.out.size; omega
      have HI3 : Aside0 (IB (w2.setRow wr.heap.size (List.map (Value.int .i64 ∘ Int.ofNat) (List.range k)).toArray) 3 wr.heap.size (ints (List.range k))) := ⟨by
        have := setRow_heap w2 wr.heap.size _ (List.map (Value.int .i64 ∘ Int.ofNat) (List.range k)).toArray 3 (0, 0) HI2.out
        unfold IB
        rw [this, ints, List.map_map]⟩
      have HC3 : Aside0 (Chg (fun k => w.heap.size < k) w (w2.setRow wr.heap.size (List.map (Value.int .i64 ∘ Int.ofNat) (List.range k)).toArray)) := ⟨
        ((((HC0.out.mono (fun _ _ x => x.elim)).trans (HC1.out.mono (fun k _ e => by simp at e))).trans (HC.out.mono (fun k _ e => by omega))).trans (HC2.out.mono (fun k _ e => by simp at e))).setRow (fun h => by have := HC.out.size; omega) _⟩
      have HBX : Aside0 ((w2.setRow wr.heap.size (List.map (Value.int .i64 ∘ Int.ofNat) (List.range k)).toArray).heap[w.heap.size]? = some (.cells #[.int .i64 set] 3 (0, 0))) := ⟨
        ((((HC1.out.mono (S' := fun k => w.heap.size < k) (fun k _ e => by simp at e)).trans (HC.out.mono (fun k _ e => by omega))).trans (HC2.out.mono (fun k _ e => by simp at e))).setRow (fun h => hzr) _).heap HB0.out (by omega)⟩
      clear HI2 hcp
      have hd := deleteI_calls (List.range k) set w.heap.size wr.heap.size _ hset (fun x hx => by have := List.mem_range.1 hx; omega) HI3.out (by simp; omega) HBX.out (by omega)
      rw [List.length_range] at hd
      refine hd.mono ?_
      rintro e w3 ⟨rfl, ⟨L, hL, hLn, hLt⟩, hc3⟩
      have HL := Aside0.mk (And.intro hL (And.intro hLn hLt))
      have HC4 := Aside0.mk (HC3.out.trans (hc3.mono (fun k' _ e => by omega)))
      clear hd hL hLn hLt hc3
      go_wp2
      go_ret
      exact ⟨⟨wr.heap.size, by omega, rfl, L, HL.out⟩, HC4.out.mono (fun k h e => by omega)⟩
end Go.Proofs.Ytemeapfnfegkiaa.D
end
section
/- Package disk: Compare of rows of ints. -/
namespace Go.Proofs.Ytemeapfnfegkiaa.D
open Go Go.RowKit Go.Proofs.YtemeapfnfegkiaaK Go.Proofs.YtemeapfnfegkiaaW.PrintWords Go.Proofs.YtemeapfnfegkiaaW.PrintLast Go.Proofs.YtemeapfnfegkiaaW.PrintMore Go.Proofs.Ytemeapfnfegkiaa.PR
set_option linter.unusedVariables false
set_option linter.unusedSimpArgs false

def cmpI (a b : Int) : Int := if a < b then -1 else if b < a then 1 else 0
def cmpL : List Int → List Int → Int
  | [], [] => 0
  | [], _ :: _ => -1
  | _ :: _, [] => 1
  | a :: l, b :: m => if cmpI a b = 0 then cmpL l m else cmpI a b

theorem nanI_calls (a : Int) (w : World) : Calls Try.prog 133 #[.int .i64 a] w fun e w' => e = .returned (.bool false) ∧ w = w' := by
  go_enter Try.func133, Try.ntmps133
  go_wp2
  go_ret
  exact ⟨by simp, rfl⟩
theorem cmpI_calls (a b : Int) (w : World) : Calls Try.prog 124 #[.int .i64 a, .int .i64 b] w fun e w' => e = .returned (.int .i64 (cmpI a b)) ∧ w = w' := by
  by_cases h1 : a < b
  · go_enter Try.func124, Try.ntmps124
    go_wp2_with (go_at_call 133; refine (nanI_calls _ _).mono ?_; rintro e w1 ⟨rfl, rfl⟩)
    go_ret
    exact ⟨by rw [cmpI, if_pos h1]; rfl, rfl⟩
  · by_cases h2 : b < a
    · go_enter Try.func124, Try.ntmps124
      go_wp2_with (go_at_call 133; refine (nanI_calls _ _).mono ?_; rintro e w1 ⟨rfl, rfl⟩)
      go_ret
      exact ⟨by rw [cmpI, if_neg (by omega), if_pos h2]; rfl, rfl⟩
    · go_enter Try.func124, Try.ntmps124
      go_wp2_with (go_at_call 133; refine (nanI_calls _ _).mono ?_; rintro e w1 ⟨rfl, rfl⟩)
      go_ret
      exact ⟨by rw [cmpI, if_neg (by omega), if_neg (by omega)]; rfl, rfl⟩

set_option maxHeartbeats 400000 in
theorem compareI_calls (la lb : List Int) (A B : Option Addr) (c d : Nat) (w : World) (ha : Kd.C (Kd.int .i64) w A la.length la) (hb : Kd.C (Kd.int .i64) w B lb.length lb) :
    Calls Try.prog 106 #[.slice A la.length c, .slice B lb.length d] w fun e w' => e = .returned (.int .i64 (cmpL la lb)) ∧ w = w' := by
  have hlen := ha.2.1
  have hlen' := hb.2.1
  have HA := Aside0.mk ha
  have HB := Aside0.mk hb
  clear ha hb
  go_enter Try.func106, Try.ntmps106
  go_wp2
  go_loop [11] (fun j => ∃ k : Nat, k ≤ la.length ∧ k ≤ lb.length ∧ j = .int .i64 k ∧ Aside0 (cmpL la lb = cmpL (la.drop k) (lb.drop k))) (fun j => la.length - (intOf j).toNat)
  case atStart => exact ⟨0, Nat.zero_le _, Nat.zero_le _, rfl, ⟨rfl⟩⟩
  case round =>
    obtain ⟨k, hk, hk', rfl, HO⟩ := hrel
    by_cases hlt : k < la.length
    · obtain ⟨ad, e, hc⟩ := at_nat HA.out k hlt
      subst e
      rw [show rd la k = la[k] by simp [rd, hlt]] at hc
      have HDA : Aside0 (la.drop k = la[k] :: la.drop (k + 1)) := ⟨List.drop_eq_getElem_cons hlt⟩
      generalize la[k] = x at hc HDA
      by_cases hlt' : k < lb.length
      · obtain ⟨bd, e, hd⟩ := at_nat HB.out k hlt'
        subst e
        rw [show rd lb k = lb[k] by simp [rd, hlt']] at hd
        have HDB : Aside0 (lb.drop k = lb[k] :: lb.drop (k + 1)) := ⟨List.drop_eq_getElem_cons hlt'⟩
        generalize lb[k] = y at hd HDB
        have HS : Aside0 (cmpL la lb = if cmpI x y = 0 then cmpL (la.drop (k + 1)) (lb.drop (k + 1)) else cmpI x y) := ⟨by rw [HO.out, HDA.out, HDB.out]; rfl⟩
        obtain ⟨q, hq⟩ : ∃ q, cmpI x y = q := ⟨_, rfl⟩
        have HQ := Aside0.mk hq
        clear hq
        by_cases h0 : q = 0
        · subst h0
          go_wp2_with (go_at_call 124; refine (cmpI_calls _ _ _).mono ?_; rw [HQ.out]; rintro e w1 ⟨rfl, rfl⟩)
          go_round
          case rel => exact ⟨k + 1, by omega, by omega, by go_num, ⟨by rw [HS.out, if_pos HQ.out]⟩⟩
          case measure => simp [intOf]; omega
        · have h0' : (q == 0) = false := beq_eq_false_iff_ne.2 h0
          go_wp2_with (go_at_call 124; refine (cmpI_calls _ _ _).mono ?_; rw [HQ.out]; rintro e w1 ⟨rfl, rfl⟩)
          go_ret
          exact ⟨by rw [HS.out, HQ.out, if_neg h0]; rfl, rfl⟩
      · have HDB : Aside0 (lb.drop k = []) := ⟨List.drop_of_length_le (by omega)⟩
        go_wp2
        go_ret
        exact ⟨by rw [HO.out, HDA.out, HDB.out]; rfl, rfl⟩
    · have HDA : Aside0 (la.drop k = []) := ⟨List.drop_of_length_le (by omega)⟩
      by_cases hlt' : k < lb.length
      · have HDB : Aside0 (lb.drop k = lb[k] :: lb.drop (k + 1)) := ⟨List.drop_eq_getElem_cons hlt'⟩
        obtain rfl : k = la.length := by omega
        go_wp2
        go_ret
        exact ⟨by rw [HO.out, HDA.out, HDB.out]; rfl, rfl⟩
      · have HDB : Aside0 (lb.drop k = []) := ⟨List.drop_of_length_le (by omega)⟩
        obtain rfl : k = la.length := by omega
        go_wp2
        go_ret
        exact ⟨by rw [HO.out, HDA.out, HDB.out]; rfl, rfl⟩
theorem compareN_calls (la lb : List Nat) (A B : Option Addr) (c d : Nat) (w : World) (ha : Kd.C (Kd.int .i64) w A la.length (ints la)) (hb : Kd.C (Kd.int .i64) w B lb.length (ints lb)) :
    Calls Try.prog 106 #[.slice A la.length c, .slice B lb.length d] w fun e w' => e = .returned (.int .i64 (cmpL (ints la) (ints lb))) ∧ w = w' := by
  have e1 : (ints la).length = la.length := by simp
  have e2 : (ints lb).length = lb.length := by simp
  have := compareI_calls (ints la) (ints lb) A B c d w (by rw [e1]; exact ha) (by rw [e2]; exact hb)
  rw [e1, e2] at this
  exact this
end Go.Proofs.Ytemeapfnfegkiaa.D
end
section
/- Package disk: Wrong. -/
namespace Go.Proofs.Ytemeapfnfegkiaa.D
open Go Go.RowKit Go.Proofs.YtemeapfnfegkiaaK Go.Proofs.YtemeapfnfegkiaaW.PrintWords Go.Proofs.YtemeapfnfegkiaaW.PrintLast Go.Proofs.YtemeapfnfegkiaaW.PrintMore Go.Proofs.Ytemeapfnfegkiaa.PR
set_option linter.unusedVariables false
set_option linter.unusedSimpArgs false

def NewRow (w : World) (n0 : Nat) (v : Value) (l : List Nat) : Prop :=
  (v = .slice none 0 0 ∧ l = []) ∨ ∃ g L n, v = .slice (some ⟨g, 0, none⟩) l.length n ∧ n0 ≤ g ∧ IB w 3 g L ∧ L.length = n ∧ n ≤ 50 ∧ L.take l.length = ints l
theorem NewRow.chg {S : Nat → Prop} {w w' : World} {n0 : Nat} {v : Value} {l : List Nat} (h : NewRow w n0 v l) (hc : Chg S w w') (hs : ∀ k, k < w.heap.size → n0 ≤ k → ¬ S k) : NewRow w' n0 v l := by
  rcases h with h | ⟨g, L, n, h1, h2, h3, h4⟩
  · exact .inl h
  · exact .inr ⟨g, L, n, h1, h2, h3.chg hc (hs g h3.lt h2), h4⟩
theorem NewRow.shape {w : World} {n0 : Nat} {v : Value} {l : List Nat} (h : NewRow w n0 v l) : ∃ A c, v = .slice A l.length c ∧ l.length ≤ 50 ∧ Kd.C (Kd.int .i64) w A l.length (ints l) := by
  rcases h with ⟨rfl, rfl⟩ | ⟨g, L, n, rfl, h2, h3, h4, h5, h6⟩
  · exact ⟨none, 0, rfl, by simp, rfl, by simp, fun h => absurd h (by simp)⟩
  · have hle : l.length ≤ L.length := by
      have := congrArg List.length h6
      simp at this; omega
    refine ⟨_, n, rfl, by omega, ?_⟩
    have := h3.read l.length hle (by omega)
    rw [h6] at this
    exact this

def wrongStep (D : Dat) (set : Nat) (s : Option (List Nat)) : Option (List Nat) :=
  let l := (List.range D.told.length).filter (keepP set)
  if (match s with | some b => decide (b.length < l.length) || (l.length == b.length && decide (0 < cmpL (ints l) (ints b))) | none => false) = true then s
  else if (truthsL D set).isEmpty = false then some l else s
def wrongTo (D : Dat) (k : Nat) : Option (List Nat) := (List.range k).foldl (fun s set => wrongStep D set s) none
theorem wrongTo_succ (D : Dat) (k : Nat) : wrongTo D (k + 1) = wrongStep D k (wrongTo D k) := by simp [wrongTo, List.range_succ]
def wrongF (D : Dat) : List Nat × Int := if (checkF D).2.2 = 0 then ((wrongTo D (2 ^ D.told.length)).getD [], 0) else ([], (checkF D).2.2)

set_option maxRecDepth 100000 in
set_option maxHeartbeats 2000000 in
theorem Wrong_calls (D : Dat) (A4 : Option Addr) (c4 : Nat) (A5 : Option Addr) (c5 : Nat) (w : World) (h : Arg w D A4 c4 A5 c5) :
    Calls Try.prog 35 #[.agg #[.string D.nm, .int .i64 D.rad, .int .i64 D.lo, .int .i64 D.hi, .slice A4 D.spots.length c4, .slice A5 D.told.length c5]] w
      fun e w' => (∃ v, e = .returned (.tuple #[v, .int .i64 (wrongF D).2]) ∧ NewRow w' w.heap.size v (wrongF D).1) ∧ Below w.heap.size w w' := by
  have hb3 := below_alloc (Below.refl w.heap.size w) (.cells #[.string D.nm, .int .i64 D.rad, .int .i64 D.lo, .int .i64 D.hi, .slice A4 D.spots.length c4, .slice A5 D.told.length c5] 27)
  have HB3 := Aside0.mk hb3
  have HA3 := Aside0.mk (h.below hb3)
  have HD3 : Aside0 ((w.alloc (.cells #[.string D.nm, .int .i64 D.rad, .int .i64 D.lo, .int .i64 D.hi, .slice A4 D.spots.length c4, .slice A5 D.told.length c5] 27)).heap[w.heap.size]? = some (.cells #[.string D.nm, .int .i64 D.rad, .int .i64 D.lo, .int .i64 D.hi, .slice A4 D.spots.length c4, .slice A5 D.told.length c5] 27 (0, 0))) := ⟨blk_new _ _⟩
  clear hb3 h
  obtain ⟨r, hr⟩ : ∃ r, wrongF D = r := ⟨_, rfl⟩
  have HF := Aside0.mk hr
  rw [hr]
  clear hr
  obtain ⟨ce, hce⟩ : ∃ ce, checkF D = ce := ⟨_, rfl⟩
  have HCE := Aside0.mk hce
  clear hce
  obtain ⟨c1, c2, c3⟩ := ce
  go_enter Try.func35, Try.ntmps35
  go_wp2_with fail
  generalize hW : w.alloc (.cells #[.string D.nm, .int .i64 D.rad, .int .i64 D.lo, .int .i64 D.hi, .slice A4 D.spots.length c4, .slice A5 D.told.length c5] 27) = W3 at HB3 HA3 HD3 ⊢
  clear hW
  refine (Check_calls D A4 c4 A5 c5 W3 HA3.out).mono ?_
  rw [HCE.out]
  rintro e w1 ⟨rfl, hb1⟩
  have HB1 := Aside0.mk (HB3.out.trans (hb1.mono HB3.out.size))
  have HA1 := Aside0.mk (HA3.out.below hb1)
  have HD1 := Aside0.mk (blk_below HD3.out hb1)
  have b5 : w1.cell? ⟨w.heap.size, 5, none⟩ = some (.slice A5 D.told.length c5) := (blk_cell HD1.out 5).trans rfl
  have lb1 := blk_lt HD1.out
  clear hb1
  by_cases h0 : c3 = 0
  · subst h0
    have hV : Valid D := (check_valid (by rw [HCE.out])).1
    have HV := Aside0.mk hV
    have hn4 := hV.t4
    clear hV
    have hsh : wrap64 (2 ^ D.told.length) = ((2 ^ D.told.length : Nat) : Int) := by
      have h := shl1 D.told.length (by omega)
      rw [Int.one_mul] at h
      rw [← i64_w]; exact h
    have hmt : min D.told.length 64 = D.told.length := by omega
    have hpw : 2 ^ D.told.length ≤ 16 := Nat.pow_le_pow_right (n := 2) (by decide) hn4
    obtain ⟨M, hM⟩ : ∃ M, 2 ^ D.told.length = M := ⟨_, rfl⟩
    have hr : r = ((wrongTo D M).getD [], 0) := by rw [← HF.out, wrongF, HCE.out, ← hM]; rfl
    have HR := Aside0.mk hr
    rw [hM] at hsh hpw
    have HSH := Aside0.mk hsh
    clear hM hr hsh
    go_wp2
    rw [HSH.out]
    clear b5 lb1
    go_loopw [2, 4, 20] (fun bv fv j wr => ∃ k : Nat, k ≤ M ∧ j = .int .i64 k ∧ ∃ best : Option (List Nat), fv = .bool best.isSome ∧ Aside0 (wrongTo D k = best) ∧ Aside0 (NewRow wr w.heap.size bv (best.getD [])) ∧ Aside0 (Chg (fun _ => False) w1 wr)) (fun _ _ j _ => M - (intOf j).toNat)
    case atStart => exact ⟨0, Nat.zero_le _, rfl, none, rfl, ⟨rfl⟩, ⟨.inl ⟨rfl, rfl⟩⟩, ⟨Chg.refl _ _⟩⟩
    case round =>
      obtain ⟨k, hk, rfl, best, rfl, HT, HN, HC⟩ := hrel
      have HDr := Aside0.mk (HC.out.heap HD1.out id)
      have b5 : wr.cell? ⟨w.heap.size, 5, none⟩ = some (.slice A5 D.told.length c5) := (blk_cell HDr.out 5).trans rfl
      have lbr := blk_lt HDr.out
      by_cases hlt : k < M
      · go_wp2_with fail
        refine (list_calls k D.told.length wr (by omega) (by omega)).mono ?_
        rintro e w2 ⟨⟨g, hg, rfl, L, hL, hLn, hLt⟩, hc⟩
        obtain ⟨l, hl⟩ : ∃ l, (List.range D.told.length).filter (keepP k) = l := ⟨_, rfl⟩
        have HL := Aside0.mk hl
        rw [hl] at hLt ⊢
        have HNL : Aside0 (NewRow w2 w.heap.size (.slice (some ⟨g, 0, none⟩) l.length D.told.length) l) := ⟨.inr ⟨g, L, _, rfl, by omega, hL, hLn, by omega, hLt⟩⟩
        have HC2 := Aside0.mk (HC.out.trans hc)
        have HN2 := Aside0.mk (HN.out.chg hc (fun _ _ _ x => x))
        have HD2 := Aside0.mk (hc.heap HDr.out id)
        clear hL hLn hLt hc hl b5 lbr
        have d0 : w2.cell? ⟨w.heap.size, 0, none⟩ = some (.string D.nm) := (blk_cell HD2.out 0).trans rfl
        have d1 : w2.cell? ⟨w.heap.size, 1, none⟩ = some (.int .i64 D.rad) := (blk_cell HD2.out 1).trans rfl
        have d2 : w2.cell? ⟨w.heap.size, 2, none⟩ = some (.int .i64 D.lo) := (blk_cell HD2.out 2).trans rfl
        have d3 : w2.cell? ⟨w.heap.size, 3, none⟩ = some (.int .i64 D.hi) := (blk_cell HD2.out 3).trans rfl
        have d4 : w2.cell? ⟨w.heap.size, 4, none⟩ = some (.slice A4 D.spots.length c4) := (blk_cell HD2.out 4).trans rfl
        have d5 : w2.cell? ⟨w.heap.size, 5, none⟩ = some (.slice A5 D.told.length c5) := (blk_cell HD2.out 5).trans rfl
        have lb2 := blk_lt HD2.out
        have hstep : ∀ s, wrongStep D k best = s → wrongTo D (k + 1) = s := fun s hs => by rw [wrongTo_succ, HT.out, hs]
        have HSTEP := Aside0.mk hstep
        clear hstep
        obtain ⟨A', c', hA', hl5, hrd⟩ := HNL.out.shape
        injection hA' with hA1 hA2 hA3
        subst hA1
        have HRD := Aside0.mk hrd
        clear hrd hA2 hA3
        obtain ⟨q, hq⟩ : ∃ q, (truthsL D k).isEmpty = q := ⟨_, rfl⟩
        have HQ := Aside0.mk hq
        clear hq
        obtain ⟨A, c, rfl, hbl, hbr⟩ := HN2.out.shape
        have HBR := Aside0.mk hbr
        clear hbr
        have HBW : Aside0 (Below w1.heap.size w1 w2) := ⟨HC2.out.below (fun _ _ x => x.elim) (Nat.le_refl _)⟩
        cases best with
        | none =>
          cases q
          · go_wp2_with (first | (go_at_call 107; refine (look_calls w1 w2 D A4 c4 A5 c5 k HBW.out).mono ?_; rintro e w3 ⟨mp, b', rfl, hc3, hs3, hm3, hb3⟩; have HC3 := Aside0.mk hc3; have HS3 := Aside0.mk hs3; clear hc3 hs3) | (go_at_call 108; refine (some_calls w1 w3 D A4 c4 A5 c5 k mp b' HA1.out HV.out (by omega) HS3.out).mono ?_; rw [HQ.out]; rintro e w4 ⟨rfl, hc4, _⟩; have HC4 := Aside0.mk (HC3.out.then_ hc4 (fun k' h e => by omega)); clear hc4))
            go_roundw
            case rel => exact ⟨k + 1, by omega, by go_num, some l, rfl, ⟨HSTEP.out _ (by unfold wrongStep; rw [HL.out]; simp only []; rw [if_neg (by simp), HQ.out]; rfl)⟩, ⟨HNL.out.chg HC4.out (fun _ _ _ x => x)⟩, ⟨HC2.out.trans HC4.out⟩⟩
            case measure => simp [intOf]; omega
          · go_wp2_with (first | (go_at_call 107; refine (look_calls w1 w2 D A4 c4 A5 c5 k HBW.out).mono ?_; rintro e w3 ⟨mp, b', rfl, hc3, hs3, hm3, hb3⟩; have HC3 := Aside0.mk hc3; have HS3 := Aside0.mk hs3; clear hc3 hs3) | (go_at_call 108; refine (some_calls w1 w3 D A4 c4 A5 c5 k mp b' HA1.out HV.out (by omega) HS3.out).mono ?_; rw [HQ.out]; rintro e w4 ⟨rfl, hc4, _⟩; have HC4 := Aside0.mk (HC3.out.then_ hc4 (fun k' h e => by omega)); clear hc4))
            go_roundw
            case rel => exact ⟨k + 1, by omega, by go_num, none, rfl, ⟨HSTEP.out _ (by unfold wrongStep; rw [HL.out]; simp only []; rw [if_neg (by simp), HQ.out]; rfl)⟩, ⟨HN2.out.chg HC4.out (fun _ _ _ x => x)⟩, ⟨HC2.out.trans HC4.out⟩⟩
            case measure => simp [intOf]; omega
        | some b =>
          simp only [Option.getD_some] at HBR hbl HN2 ⊢
          by_cases h1 : b.length < l.length
          · go_wp2
            go_roundw
            case rel => exact ⟨k + 1, by omega, by go_num, some b, rfl, ⟨HSTEP.out _ (by unfold wrongStep; rw [HL.out]; simp only []; rw [if_pos (by simp [h1])])⟩, HN2, HC2⟩
            case measure => simp [intOf]; omega
          · obtain ⟨z, hz⟩ : ∃ z, cmpL (ints l) (ints b) = z := ⟨_, rfl⟩
            have HZ := Aside0.mk hz
            clear hz
            by_cases h2 : l.length = b.length
            · have h2' : ((l.length : Int) == (b.length : Int)) = true := beq_iff_eq.2 (by omega)
              have hcm := compareN_calls l b (some ⟨g, 0, none⟩) A D.told.length c w2 HRD.out HBR.out
              rw [h2, HZ.out] at hcm
              have HCM := Aside0.mk hcm
              have H2 := Aside0.mk h2
              clear hcm
              by_cases h3 : 0 < z
              · go_wp2_with (first | (go_at_call 106; refine HCM.out.mono ?_; rintro e w3 ⟨rfl, rfl⟩))
                go_roundw
                case rel => exact ⟨k + 1, by omega, by go_num, some b, rfl, ⟨HSTEP.out _ (by unfold wrongStep; rw [HL.out]; simp only []; rw [if_pos (by rw [HZ.out]; simp [h3, H2.out])])⟩, HN2, HC2⟩
                case measure => simp [intOf]; omega
              · cases q
                · go_wp2_with (first | (go_at_call 106; refine HCM.out.mono ?_; rintro e w3 ⟨rfl, rfl⟩) | (go_at_call 107; refine (look_calls w1 w2 D A4 c4 A5 c5 k HBW.out).mono ?_; rintro e w3 ⟨mp, b', rfl, hc3, hs3, hm3, hb3⟩; have HC3 := Aside0.mk hc3; have HS3 := Aside0.mk hs3; clear hc3 hs3) | (go_at_call 108; refine (some_calls w1 w3 D A4 c4 A5 c5 k mp b' HA1.out HV.out (by omega) HS3.out).mono ?_; rw [HQ.out]; rintro e w4 ⟨rfl, hc4, _⟩; have HC4 := Aside0.mk (HC3.out.then_ hc4 (fun k' h e => by omega)); clear hc4))
                  go_roundw
                  case rel => exact ⟨k + 1, by omega, by go_num, some l, rfl, ⟨HSTEP.out _ (by unfold wrongStep; rw [HL.out]; simp only []; rw [if_neg (by rw [HZ.out]; simp [H2.out]; omega), HQ.out]; rfl)⟩, ⟨by have := HNL.out.chg HC4.out (fun _ _ _ x => x); rw [H2.out] at this; exact this⟩, ⟨HC2.out.trans HC4.out⟩⟩
                  case measure => simp [intOf]; omega
                · go_wp2_with (first | (go_at_call 106; refine HCM.out.mono ?_; rintro e w3 ⟨rfl, rfl⟩) | (go_at_call 107; refine (look_calls w1 w2 D A4 c4 A5 c5 k HBW.out).mono ?_; rintro e w3 ⟨mp, b', rfl, hc3, hs3, hm3, hb3⟩; have HC3 := Aside0.mk hc3; have HS3 := Aside0.mk hs3; clear hc3 hs3) | (go_at_call 108; refine (some_calls w1 w3 D A4 c4 A5 c5 k mp b' HA1.out HV.out (by omega) HS3.out).mono ?_; rw [HQ.out]; rintro e w4 ⟨rfl, hc4, _⟩; have HC4 := Aside0.mk (HC3.out.then_ hc4 (fun k' h e => by omega)); clear hc4))
                  go_roundw
                  case rel => exact ⟨k + 1, by omega, by go_num, some b, rfl, ⟨HSTEP.out _ (by unfold wrongStep; rw [HL.out]; simp only []; rw [if_neg (by rw [HZ.out]; simp [H2.out]; omega), HQ.out]; rfl)⟩, ⟨HN2.out.chg HC4.out (fun _ _ _ x => x)⟩, ⟨HC2.out.trans HC4.out⟩⟩
                  case measure => simp [intOf]; omega
            · have h2' : ((l.length : Int) == (b.length : Int)) = false := beq_eq_false_iff_ne.2 (by omega)
              cases q
              · go_wp2_with (first | (go_at_call 107; refine (look_calls w1 w2 D A4 c4 A5 c5 k HBW.out).mono ?_; rintro e w3 ⟨mp, b', rfl, hc3, hs3, hm3, hb3⟩; have HC3 := Aside0.mk hc3; have HS3 := Aside0.mk hs3; clear hc3 hs3) | (go_at_call 108; refine (some_calls w1 w3 D A4 c4 A5 c5 k mp b' HA1.out HV.out (by omega) HS3.out).mono ?_; rw [HQ.out]; rintro e w4 ⟨rfl, hc4, _⟩; have HC4 := Aside0.mk (HC3.out.then_ hc4 (fun k' h e => by omega)); clear hc4))
                go_roundw
                case rel => exact ⟨k + 1, by omega, by go_num, some l, rfl, ⟨HSTEP.out _ (by unfold wrongStep; rw [HL.out]; simp only []; rw [if_neg (by simp [h1, h2]), HQ.out]; rfl)⟩, ⟨HNL.out.chg HC4.out (fun _ _ _ x => x)⟩, ⟨HC2.out.trans HC4.out⟩⟩
                case measure => simp [intOf]; omega
              · go_wp2_with (first | (go_at_call 107; refine (look_calls w1 w2 D A4 c4 A5 c5 k HBW.out).mono ?_; rintro e w3 ⟨mp, b', rfl, hc3, hs3, hm3, hb3⟩; have HC3 := Aside0.mk hc3; have HS3 := Aside0.mk hs3; clear hc3 hs3) | (go_at_call 108; refine (some_calls w1 w3 D A4 c4 A5 c5 k mp b' HA1.out HV.out (by omega) HS3.out).mono ?_; rw [HQ.out]; rintro e w4 ⟨rfl, hc4, _⟩; have HC4 := Aside0.mk (HC3.out.then_ hc4 (fun k' h e => by omega)); clear hc4))
                go_roundw
                case rel => exact ⟨k + 1, by omega, by go_num, some b, rfl, ⟨HSTEP.out _ (by unfold wrongStep; rw [HL.out]; simp only []; rw [if_neg (by simp [h1, h2]), HQ.out]; rfl)⟩, ⟨HN2.out.chg HC4.out (fun _ _ _ x => x)⟩, ⟨HC2.out.trans HC4.out⟩⟩
                case measure => simp [intOf]; omega
      · obtain rfl : k = M := by omega
        go_wp2
        go_ret2
        exact ⟨⟨_, by rw [HR.out]; rfl, by rw [HR.out, HT.out]; exact HN.out⟩, HB1.out.trans (HC.out.below (fun _ _ x => x.elim) HB1.out.size)⟩
  · have hr : r = ([], c3) := by rw [← HF.out, wrongF, HCE.out]; exact if_neg h0
    subst hr
    go_wp2
    go_ret2
    exact ⟨⟨_, rfl, .inl ⟨rfl, rfl⟩⟩, HB1.out⟩
end Go.Proofs.Ytemeapfnfegkiaa.D
end
section
/- Package disk: the sheets of Awake, what is answered of them. -/
namespace Go.Proofs.Ytemeapfnfegkiaa.D
open Go Go.RowKit Go.Proofs.YtemeapfnfegkiaaK Go.Proofs.YtemeapfnfegkiaaW.PrintWords Go.Proofs.YtemeapfnfegkiaaW.PrintLast Go.Proofs.YtemeapfnfegkiaaW.PrintMore Go.Proofs.Ytemeapfnfegkiaa.PR
set_option linter.unusedVariables false
set_option linter.unusedSimpArgs false

def exD (told : List Told) : Dat := ⟨⟨#[119, 111, 108, 102]⟩, 5, 1, 3, [⟨0, 0, true⟩, ⟨2, 1, true⟩, ⟨4, 2, false⟩, ⟨-3, 0, true⟩, ⟨5, 5, true⟩], told⟩
theorem ex_is0 : isF (exD []) 0 = (1, 0) := by kernel_rfl
def exT : List Told := [⟨0, 1, true⟩]
def exW : List Told := [⟨0, 1, true⟩, ⟨0, 1, false⟩]
theorem ex_is2 : isF (exD []) 2 = (0, 0) := by kernel_rfl
theorem ex_is4 : isF (exD []) 4 = (2, 0) := by kernel_rfl
theorem ex_one01 : oneF (exD []) 0 1 = (0, 0) := by kernel_rfl
theorem ex_one11 : oneF (exD []) 1 1 = (0, 2) := by kernel_rfl
theorem ex_many : spanF (exD []) (fun _ g => manyF g) = (1, 4) := by kernel_rfl
theorem ex_spots : spanF (exD []) (fun _ g => spotsTo g 7) = (3, 4) := by kernel_rfl
theorem ex_enter : enterE (exD []) [] = 0 := by kernel_rfl
theorem ex_enterT : enterE (exD exT) [] = 0 := by kernel_rfl
theorem ex_enterW : enterE (exD exW) [] = 8 := by kernel_rfl
theorem ex_number : spanF (exD exT) (fun _ g => 10 * manyF g + spotsTo g 7) = (13, 24) := by kernel_rfl
theorem ex_near : spanF (exD exT) (fun n _ => n) = (2, 3) := by kernel_rfl
theorem ex_nearW : spanF (exD exW) (fun n _ => n) = (0, 0) := by kernel_rfl
theorem ex_ask : askF (exD []) = (0, 1, 4, 0) := by kernel_rfl
theorem ex_wrong : wrongF (exD exW) = ([0], 0) := by kernel_rfl
theorem ex_name : nameB ⟨#[97, 46, 57]⟩ = true := by kernel_rfl
theorem ex_name' : nameB ⟨#[57, 97]⟩ = false := by kernel_rfl

theorem span_calls (a b : Int) (w : World) : Calls Try.prog 40 #[.int .i64 a, .int .i64 b] w fun e w' => e = .returned (.agg #[.int .i64 a, .int .i64 b]) ∧ Chg (fun _ => False) w w' := by
  go_enter Try.func40, Try.ntmps40
  go_wp2
  exact bodyPost_ret (results_cell_row rfl _ _ w.heap.size 23 _ (0, 0) _ rfl (blk_new _ _) Try.underlying23 rfl info23s) rfl ⟨rfl, (Chg.refl _ w).alloc _⟩
theorem info52s : (Try.prog.info? 52).map (·.size) = some 3 := by kernel_rfl
theorem info27s : (Try.prog.info? 27).map (·.size) = some 6 := by kernel_rfl
theorem oneL_calls (a b : Int) (w : World) : Calls Try.prog 39 #[.int .i64 a, .int .i64 b] w fun e w' => e = .returned (.agg #[.int .i64 a, .int .i64 b, .bool true]) ∧ Chg (fun _ => False) w w' := by
  go_enter Try.func39, Try.ntmps39
  go_wp2
  exact bodyPost_ret (results_cell_row rfl _ _ w.heap.size 52 _ (0, 0) _ rfl (blk_new _ _) Try.underlying52 rfl info52s) rfl ⟨rfl, (Chg.refl _ w).alloc _⟩
theorem notL_calls (a b : Int) (w : World) : Calls Try.prog 89 #[.int .i64 a, .int .i64 b] w fun e w' => e = .returned (.agg #[.int .i64 a, .int .i64 b, .bool false]) ∧ Chg (fun _ => False) w w' := by
  go_enter Try.func89, Try.ntmps89
  go_wp2
  exact bodyPost_ret (results_cell_row rfl _ _ w.heap.size 52 _ (0, 0) _ rfl (blk_new _ _) Try.underlying52 rfl info52s) rfl ⟨rfl, (Chg.refl _ w).alloc _⟩

abbrev exCells : Array Value := #[.int .i64 0, .int .i64 0, .bool true, .int .i64 2, .int .i64 1, .bool true, .int .i64 4, .int .i64 2, .bool false, .int .i64 (-3), .int .i64 0, .bool true, .int .i64 5, .int .i64 5, .bool true]
set_option maxHeartbeats 400000 in
theorem Sheet_calls (v : Value) (A : Option Addr) (n c : Nat) (hv : v = .slice A n c) (w : World) : Calls Try.prog 38 #[v] w
    fun e w' => (∃ g, w.heap.size ≤ g ∧ e = .returned (.agg #[.string ⟨#[119, 111, 108, 102]⟩, .int .i64 5, .int .i64 1, .int .i64 3, .slice (some ⟨g, 0, none⟩) 5 5, v]) ∧ w'.heap[g]? = some (.cells exCells 80 (0, 0))) ∧ Chg (fun _ => False) w w' := by
  subst hv
  go_enter Try.func38, Try.ntmps38
  go_wp2_with (go_at_call 40; refine (span_calls 1 3 _).mono ?_; rintro e w1 ⟨rfl, hc1⟩; have HC1 := Aside0.mk hc1; have hd := hc1.heap (blk_new w (.cells #[.string ⟨#[]⟩, .int .i64 0, .int .i64 0, .int .i64 0, .slice none 0 0, .slice none 0 0] 27)) id; have k0 : w1.cell? ⟨w.heap.size, 0, none⟩ = some (.string ⟨#[]⟩) := (blk_cell hd 0).trans rfl; have f0 := blk_frozen hd 0; have k1 : w1.cell? ⟨w.heap.size, 1, none⟩ = some (.int .i64 0) := (blk_cell hd 1).trans rfl; have f1 := blk_frozen hd 1; have k2 : w1.cell? ⟨w.heap.size, 2, none⟩ = some (.int .i64 0) := (blk_cell hd 2).trans rfl; have f2 := blk_frozen hd 2; have k3 : w1.cell? ⟨w.heap.size, 3, none⟩ = some (.int .i64 0) := (blk_cell hd 3).trans rfl; have f3 := blk_frozen hd 3; have k4 : w1.cell? ⟨w.heap.size, 4, none⟩ = some (.slice none 0 0) := (blk_cell hd 4).trans rfl; have f4 := blk_frozen hd 4; have k5 : w1.cell? ⟨w.heap.size, 5, none⟩ = some (.slice none 0 0) := (blk_cell hd 5).trans rfl; have f5 := blk_frozen hd 5; have lb := blk_lt hd; have HD := Aside0.mk hd; clear hc1 hd)
  refine bodyPost_ret (v := .agg #[.string ⟨#[119, 111, 108, 102]⟩, .int .i64 5, .int .i64 1, .int .i64 3, .slice (some ⟨w1.heap.size, 0, none⟩) 5 5, .slice A n c]) (results_cell_row rfl _ _ w.heap.size 27 _ (0, 0) _ rfl (blk_alloc (blk_set (blk_set (blk_set (blk_set (blk_set (blk_set HD.out 0 _) 1 _) 2 _) 3 _) 4 _) 5 _) _) Try.underlying27 rfl info27s) rfl
    ⟨⟨w1.heap.size, by have := HC1.out.size; simp at this; omega, rfl, new_at (by simp) _⟩, ?_⟩
  have hc := (Chg.refl (fun k => k = w.heap.size) w).alloc (.cells #[.string ⟨#[]⟩, .int .i64 0, .int .i64 0, .int .i64 0, .slice none 0 0, .slice none 0 0] 27)
  refine Chg.mono (S := fun k => k = w.heap.size) ?_ (fun k hk e => by omega)
  exact ((((((((hc.trans (HC1.out.mono (fun _ _ x => x.elim))).setCell (p := ⟨w.heap.size, 0, none⟩) (fun _ => rfl) _).setCell (p := ⟨w.heap.size, 1, none⟩) (fun _ => rfl) _).setCell (p := ⟨w.heap.size, 2, none⟩) (fun _ => rfl) _).setCell (p := ⟨w.heap.size, 3, none⟩) (fun _ => rfl) _).setCell (p := ⟨w.heap.size, 4, none⟩) (fun _ => rfl) _).setCell (p := ⟨w.heap.size, 5, none⟩) (fun _ => rfl) _).alloc _)

theorem cell3 {w : World} {b : Nat} {cs : Array Value} {t : TypeId} (h : w.heap[b]? = some (.cells cs t (0, 0))) (i : Nat) {v : Value} (hv : cs[i]? = some v) : w.cell? ((⟨b, 0, none⟩ : Addr).add i) = some v := by
  have hadd : (⟨b, 0, none⟩ : Addr).add i = ⟨b, i, none⟩ := by unfold Addr.add; split <;> simp_all
  rw [hadd, cell_of_row w b i cs t (0, 0) h]; exact hv
theorem exSpots_C {w : World} {g : Nat} (h : w.heap[g]? = some (.cells exCells 80 (0, 0))) (told : List Told) : Kd.C k80 w (some ⟨g, 0, none⟩) (exD told).spots.length (exD told).spots := by
  refine ⟨rfl, by show (5 : Nat) ≤ _; decide, fun _ => ⟨_, rfl, fun j p hj => ?_⟩⟩
  have hj5 : j < 5 := (List.getElem?_eq_some_iff.1 hj).1
  have : j = 0 ∨ j = 1 ∨ j = 2 ∨ j = 3 ∨ j = 4 := by omega
  rcases this with rfl | rfl | rfl | rfl | rfl <;> cases hj <;> refine ⟨_, rfl, k80_mk w _, fun i u hu => ?_⟩ <;>
    (have hi := (List.getElem?_eq_some_iff.1 hu).1; simp at hi; have hh : i = 0 ∨ i = 1 ∨ i = 2 := by omega
     rcases hh with rfl | rfl | rfl <;> cases hu <;> exact cell3 h _ rfl)
theorem exT_C {w : World} {g : Nat} (h : w.heap[g]? = some (.cells #[.int .i64 0, .int .i64 1, .bool true] 52 (0, 0))) : Kd.C k52 w (some ⟨g, 0, none⟩) exT.length exT := by
  refine ⟨rfl, by decide, fun _ => ⟨_, rfl, fun j p hj => ?_⟩⟩
  have hj5 : j < 1 := (List.getElem?_eq_some_iff.1 hj).1
  obtain rfl : j = 0 := by omega
  cases hj; refine ⟨_, rfl, k52_mk w _, fun i u hu => ?_⟩
  have hi := (List.getElem?_eq_some_iff.1 hu).1; simp at hi; have hh : i = 0 ∨ i = 1 ∨ i = 2 := by omega
  rcases hh with rfl | rfl | rfl <;> cases hu <;> exact cell3 h _ rfl
theorem exW_C {w : World} {g : Nat} (h : w.heap[g]? = some (.cells #[.int .i64 0, .int .i64 1, .bool true, .int .i64 0, .int .i64 1, .bool false] 52 (0, 0))) : Kd.C k52 w (some ⟨g, 0, none⟩) exW.length exW := by
  refine ⟨rfl, by decide, fun _ => ⟨_, rfl, fun j p hj => ?_⟩⟩
  have hj5 : j < 2 := (List.getElem?_eq_some_iff.1 hj).1
  have : j = 0 ∨ j = 1 := by omega
  rcases this with rfl | rfl <;> cases hj <;> refine ⟨_, rfl, k52_mk w _, fun i u hu => ?_⟩ <;>
    (have hi := (List.getElem?_eq_some_iff.1 hu).1; simp at hi; have hh : i = 0 ∨ i = 1 ∨ i = 2 := by omega
     rcases hh with rfl | rfl | rfl <;> cases hu <;> exact cell3 h _ rfl)

theorem exArg {w : World} {g : Nat} {A : Option Addr} {c : Nat} (told : List Told) (h : w.heap[g]? = some (.cells exCells 80 (0, 0))) (ht : Kd.C k52 w A told.length told) (hc : told.length ≤ c) : Arg w (exD told) (some ⟨g, 0, none⟩) 5 A c :=
  ⟨by show (4 : Nat) ≤ _; decide, exSpots_C h told, Nat.le_refl 5, ht, hc⟩
end Go.Proofs.Ytemeapfnfegkiaa.D
end
section
/- Package disk: Ints of the reference, Awake. -/
namespace Go.Proofs.Ytemeapfnfegkiaa.D
open Go Go.RowKit Go.Proofs.YtemeapfnfegkiaaK Go.Proofs.YtemeapfnfegkiaaW.PrintWords Go.Proofs.YtemeapfnfegkiaaW.PrintLast Go.Proofs.YtemeapfnfegkiaaW.PrintMore Go.Proofs.Ytemeapfnfegkiaa.PR
set_option linter.unusedVariables false
set_option linter.unusedSimpArgs false

set_option maxHeartbeats 400000 in
theorem Ints_calls (la lb : List Int) (A B : Option Addr) (n m c d : Nat) (w : World) (hn : n = la.length) (hm : m = lb.length) (ha : Kd.C (Kd.int .i64) w A n la) (hb : Kd.C (Kd.int .i64) w B m lb) :
    Calls Try.prog 37 #[.slice A n c, .slice B m d] w fun e w' => e = .returned (.bool (la == lb)) ∧ Chg (fun _ => False) w w' := by
  subst hn hm
  have hlen := ha.2.1
  have hlen' := hb.2.1
  have HA := Aside0.mk ha
  have HB := Aside0.mk hb
  clear ha hb
  by_cases he : la.length = lb.length
  · have hb' : ((la.length : Int) == (lb.length : Int)) = true := beq_iff_eq.2 (by omega)
    go_enter Try.func37, Try.ntmps37
    go_wp2
    go_loopw [5, 6] (fun b j wr => ∃ (k : Nat) (q : Bool), k ≤ la.length ∧ j = .int .i64 k ∧ b = .bool q ∧ Aside0 ((la == lb) = (q && (la.drop k == lb.drop k))) ∧ Aside0 (Chg (fun _ => False) w wr)) (fun b j _ => la.length - (intOf j).toNat)
    case atStart => exact ⟨0, true, Nat.zero_le _, rfl, rfl, ⟨by simp⟩, ⟨Chg.refl _ _⟩⟩
    case round =>
      obtain ⟨k, q, hk, rfl, rfl, HO, HC⟩ := hrel
      cases q
      · go_wp2
        go_ret
        exact ⟨by rw [HO.out]; rfl, HC.out⟩
      · by_cases hlt : k < la.length
        · have hlt' : k < lb.length := by omega
          obtain ⟨ad, e, hc⟩ := at_nat (Kd.C_below HA.out (HC.out.below (fun _ _ x => x.elim) (Nat.le_refl _))) k hlt
          obtain ⟨bd, e', hd⟩ := at_nat (Kd.C_below HB.out (HC.out.below (fun _ _ x => x.elim) (Nat.le_refl _))) k hlt'
          subst e e'
          rw [show rd la k = la[k] by simp [rd, hlt]] at hc
          rw [show rd lb k = lb[k]'hlt' by simp [rd, hlt']] at hd
          have HD : Aside0 ((la == lb) = ((la[k] == lb[k]'hlt') && (la.drop (k + 1) == lb.drop (k + 1)))) := ⟨by
            rw [HO.out, List.drop_eq_getElem_cons hlt, List.drop_eq_getElem_cons hlt', Bool.true_and]; rfl⟩
          generalize la[k] = x at hc HD
          generalize lb[k]'hlt' = y at hd HD
          obtain ⟨q, hq⟩ : ∃ q, (x == y) = q := ⟨_, rfl⟩
          rw [hq] at HD
          go_wp2
          go_quiet (fail)
          go_wp2
          go_roundw
          case rel => exact ⟨k + 1, q, by omega, by go_num, rfl, HD, ⟨HC.out.drewN _⟩⟩
          case measure => simp [intOf]; omega
        · obtain rfl : k = la.length := by omega
          go_wp2
          go_ret
          exact ⟨by rw [HO.out, List.drop_of_length_le (Nat.le_refl _), List.drop_of_length_le (by omega)]; rfl, HC.out⟩
  · have hb' : ((la.length : Int) == (lb.length : Int)) = false := beq_eq_false_iff_ne.2 (by omega)
    have hne : (la == lb) = false := beq_eq_false_iff_ne.2 (fun e => he (by rw [e]))
    have HNE := Aside0.mk hne
    clear hne
    go_enter Try.func37, Try.ntmps37
    go_wp2
    go_loop [5, 6] (fun b j => b = .bool false ∧ j = .int .i64 0) (fun b j => 0)
    case atStart => exact ⟨rfl, rfl⟩
    case round =>
      obtain ⟨rfl, rfl⟩ := hrel
      go_wp2
      go_ret
      exact ⟨by rw [HNE.out]; rfl, Chg.refl _ _⟩
theorem awInts {w : World} {Aw : Option Addr} {cw : Nat} (h : Kd.C (Kd.int .i64) w Aw 1 [0]) :
    Calls Try.prog 37 #[.slice Aw 1 cw, .slice (some ⟨w.heap.size, 0, none⟩) 1 1] (w.alloc (.cells #[.int .i64 0] 3)) fun e w' => e = .returned (.bool true) ∧ Chg (fun _ => False) (w.alloc (.cells #[.int .i64 0] 3)) w' :=
  Ints_calls [0] [0] _ _ 1 1 _ _ _ rfl rfl (Kd.C_alloc h _) (C_lit (l := [0]) (blk_new w (.cells #[.int .i64 0] 3)) (by decide))
theorem NewRow.one {w : World} {n0 : Nat} {v : Value} (h : NewRow w n0 v [0]) : ∃ A c, v = .slice A 1 c ∧ Kd.C (Kd.int .i64) w A 1 [0] := by
  obtain ⟨A, c, h1, _, h3⟩ := h.shape
  exact ⟨A, c, h1, h3⟩
end Go.Proofs.Ytemeapfnfegkiaa.D
end
section
/- Regions that draw their order: a run of operations each of which is the only one that may come up next. -/
namespace Go.Proofs.YtemeapfnfegkiaaK
open Go
set_option linter.unusedVariables false

def pre (n i : Nat) : Array Bool := (List.replicate i true ++ List.replicate (n - i) false).toArray
theorem pre_zero (n : Nat) : Array.replicate n false = pre n 0 := by simp [pre, ← List.toArray_replicate]
theorem pre_succ {n i : Nat} (h : i < n) : (pre n i).setIfInBounds i true = pre n (i + 1) := by
  unfold pre
  rw [List.setIfInBounds_toArray]
  congr 1
  have e : n - i = (n - (i + 1)) + 1 := by omega
  rw [e, List.replicate_succ, List.set_append_right _ _ (by simp)]
  simp only [List.length_replicate, Nat.sub_self, List.set_cons_zero]
  rw [List.replicate_succ', List.append_assoc]
  rfl
theorem pre_getD (n k i : Nat) (d : Bool) (hk : k ≤ n) : (pre n k).getD i d = if i < n then decide (i < k) else d := by
  unfold pre
  simp only [Array.getD_eq_getD_getElem?, List.getElem?_toArray]
  by_cases h : i < k
  · rw [List.getElem?_append_left (by simpa using h), List.getElem?_replicate, if_pos h, if_pos (by omega)]; simp [h]
  · rw [List.getElem?_append_right (by simp; omega), List.length_replicate, List.getElem?_replicate]
    by_cases h' : i < n
    · rw [if_pos (by omega), if_pos h']; simp [h]
    · rw [if_neg (by omega), if_neg h']; rfl
def maxA : List Edge → Nat
  | [] => 0
  | e :: l => if Region.binds .any e = true then max (e.on + 1) (maxA l) else maxA l
theorem maxA_le {k : Nat} : ∀ {l : List Edge}, maxA l ≤ k ↔ ∀ e ∈ l, Region.binds .any e = true → e.on < k
  | [] => by simp [maxA]
  | e :: l => by
    have ih := @maxA_le k l
    unfold maxA
    split
    · rename_i h
      simp only [List.mem_cons, forall_eq_or_imp]
      rw [← ih]
      constructor
      · intro h'; exact ⟨fun _ => by omega, by omega⟩
      · rintro ⟨h1, h2⟩; have := h1 h; omega
    · rename_i h
      simp only [List.mem_cons, forall_eq_or_imp]
      rw [← ih]
      exact ⟨fun h' => ⟨fun x => absurd x h, h'⟩, fun h' => h'.2⟩
def waits (ops : Array Oper) : List Nat := ops.toList.map fun o => maxA o.after.toList
theorem range_one {n k : Nat} (h : k < n) : (List.range n).filter (fun i => i == k) = [k] := by
  induction n with
  | zero => omega
  | succ n ih =>
    rw [List.range_succ, List.filter_append]
    by_cases e : k = n
    · subst e
      have : (List.range k).filter (fun i => i == k) = [] := List.filter_eq_nil_iff.2 fun i hi hh => by
        have := List.mem_range.1 hi
        have := eq_of_beq hh
        omega
      rw [this]; simp
    · rw [ih (by omega)]
      have : (n == k) = false := by simpa using fun x => e x.symm
      simp [this]
theorem ready_one {ops : Array Oper} {n k : Nat} {M : List Nat} (hn : ops.size = n) (hM : waits ops = M) (hk : k < n) (h1 : M.getD k 0 ≤ k) (h2 : ∀ j, k < j → j < n → k < M.getD j 0) : Region.ready .any ops (pre n k) = [k] := by
  unfold Region.ready
  rw [hn, ← range_one hk]
  refine List.filter_congr fun i hi => ?_
  have hin := List.mem_range.1 hi
  have ho : ops[i]? = some (ops[i]'(by omega)) := Array.getElem?_eq_getElem (by omega)
  have hMi : M.getD i 0 = maxA (ops[i]'(by omega)).after.toList := by
    rw [← hM]
    unfold waits
    rw [List.getD_eq_getElem?_getD, List.getElem?_map, Array.getElem?_toList, ho]; rfl
  rw [pre_getD n k i true (by omega), if_pos hin, ho]
  simp only [Option.map_some, Option.getD_some]
  rcases Nat.lt_trichotomy i k with h | h | h
  · rw [decide_eq_true h]
    have : (i == k) = false := by simpa using Nat.ne_of_lt h
    simp [this]
  · subst h
    rw [decide_eq_false (by omega)]
    simp only [Bool.not_false, Bool.true_and, beq_self_eq_true]
    rw [← Array.all_toList, List.all_eq_true]
    intro e he
    by_cases hb : Region.binds .any e = true
    · have := maxA_le.1 (hMi ▸ h1) e he hb
      rw [pre_getD n i e.on false (by omega), if_pos (by omega), decide_eq_true this]; simp
    · have : Region.binds .any e = false := by simpa using hb
      rw [this]; rfl
  · have hne : (i == k) = false := by simpa using Nat.ne_of_gt h
    rw [hne, Bool.eq_false_iff]
    intro hh
    have hh2 := (Bool.and_eq_true_iff.1 hh).2
    rw [← Array.all_toList, List.all_eq_true] at hh2
    have hlt := h2 i h hin
    rw [hMi] at hlt
    have : maxA (ops[i]'(by omega)).after.toList ≤ k := maxA_le.2 fun e he hb => by
      have := hh2 e he
      rw [hb, pre_getD n k e.on false (by omega)] at this
      by_cases hen : e.on < n
      · rw [if_pos hen] at this; simpa using this
      · rw [if_neg hen] at this; simp at this
    omega
def soleM (M : List Nat) (n k m : Nat) : Bool := (List.range m).all fun j => Nat.ble (M.getD (k + j) 0) (k + j) && ((M.take n).drop (k + j + 1)).all fun x => Nat.ble (k + j + 1) x
theorem soleM_at {ops : Array Oper} {n k m : Nat} {M : List Nat} (hn : ops.size = n) (hM : waits ops = M) (hkm : k + m ≤ n) (h : soleM M n k m = true) {j : Nat} (hj : j < m) : Region.ready .any ops (pre n (k + j)) = [k + j] := by
  have := List.all_eq_true.1 h j (List.mem_range.2 hj)
  obtain ⟨h1, h2⟩ := Bool.and_eq_true_iff.1 this
  refine ready_one hn hM (by omega) (Nat.le_of_ble_eq_true h1) (fun i hi hin => ?_)
  have hl : M.length = n := by rw [← hM]; simp [waits, hn]
  have h3 := List.all_eq_true.1 h2 (M.getD i 0) (by
    have e : M.getD i 0 = M[i]'(by omega) := by simp [List.getD_eq_getElem?_getD, hl, hin]
    rw [e, List.mem_iff_getElem?]
    refine ⟨i - (k + j + 1), ?_⟩
    rw [List.getElem?_drop, show k + j + 1 + (i - (k + j + 1)) = i by omega, List.getElem?_take_of_lt hin, List.getElem?_eq_getElem (by omega)])
  have := Nat.le_of_ble_eq_true h3
  omega

section
variable {P : Program} {ops : Array Oper} {Q : Exit → Act → World → Prop} {S : World → Prop} {n : Nat}
theorem wpAnyH_run {w : World} (hS : S w) : ∀ (l : List Oper) (k fuel : Nat) (a : Act), (∀ j, j < l.length → ops[k + j]? = l[j]?) → k + l.length ≤ n → (∀ j, j < l.length → Region.ready .any ops (pre n (k + j)) = [k + j]) →
    wpStill P ops w (fun a' => wpAnyH P .any ops Q S fuel (pre n (k + l.length)) a' w) l a → wpAnyH P .any ops Q S (fuel + l.length) (pre n k) a w
  | [], k, fuel, a, _, _, _, h => h
  | o :: l, k, fuel, a, hl, hn, hr, h => by
    have h0 : ops[k]? = some o := by simpa using hl 0 (by simp)
    have hr0 := hr 0 (by simp)
    have ih : ∀ a', wpStill P ops w (fun a' => wpAnyH P .any ops Q S fuel (pre n (k + (o :: l).length)) a' w) l a' → wpAnyH P .any ops Q S (fuel + l.length) (pre n (k + 1)) a' w := fun a' h' => by
      refine wpAnyH_run hS l (k + 1) fuel a' (fun j hj => ?_) (by simp only [List.length_cons] at hn; omega) (fun j hj => ?_) ?_
      · have := hl (j + 1) (by simp; omega)
        rw [show k + 1 + j = k + (j + 1) by omega, this]; rfl
      · have := hr (j + 1) (by simp; omega)
        rw [show k + 1 + j = k + (j + 1) by omega, this]
      · have e : k + 1 + l.length = k + (o :: l).length := by simp only [List.length_cons]; omega
        rw [e]; exact h'
    refine wpAnyH_all (rs := [k]) hr0 (by simp) (fun i hi => ?_)
    obtain rfl : i = k := by simpa using hi
    rw [pre_succ (by simp only [List.length_cons] at hn; omega)]
    unfold wpOp
    rw [h0]
    simp only [wpStill] at h
    show if Region.wanted o (yielded ops a.tmps) = true then _ else _
    split
    · rename_i hw
      rw [if_pos hw] at h
      exact .inl (Oper.wp_of_still (fun a' hK => ⟨hS, ih a' hK⟩) h)
    · rename_i hw
      rw [if_neg hw] at h
      exact ⟨hS, ih _ h⟩
theorem wpAnyH_seg {w : World} {a : Act} (k m fuel : Nat) (hS : S w) (hl : (List.drop k ops.toList).length ≥ m) (hn : k + m ≤ n) (hz : ops.size = n) {M : List Nat} (hM : waits ops = M) (hr : soleM M n k m = true)
    (h : wpStill P ops w (fun a' => wpAnyH P .any ops Q S fuel (pre n (k + m)) a' w) ((ops.toList.drop k).take m) a) : wpAnyH P .any ops Q S (fuel + m) (pre n k) a w := by
  have e : ((ops.toList.drop k).take m).length = m := by rw [List.length_take]; omega
  have := wpAnyH_run (P := P) (Q := Q) (n := n) hS ((ops.toList.drop k).take m) k fuel a (fun j hj => by
    rw [List.getElem?_take_of_lt (by omega), List.getElem?_drop, Array.getElem?_toList]) (by omega) (fun j hj => soleM_at hz hM hn hr (by omega)) (by rw [e]; exact h)
  rw [e] at this
  exact this
theorem wpAnyH_start {w : World} {a : Act} (n : Nat) (hn : ops.size = n) (h : wpAnyH P .any ops Q S n (pre n 0) a w) : wpAnyH P .any ops Q S ops.size (Array.replicate ops.size false) a w := by
  rw [hn, pre_zero]; exact h
theorem wpAnyH_one {w : World} {a : Act} {i fuel : Nat} {o : Oper} (hi : i + 1 ≤ n) (ho : ops[i]? = some o) (hz : ops.size = n) {M : List Nat} (hM : waits ops = M) (hr : soleM M n i 1 = true)
    (h : ∀ K' : Act → World → Prop, Shut (∀ a w, S w → (S w → wpAnyH P .any ops Q S fuel (pre n (i + 1)) a w) → K' a w) → if Region.wanted o (yielded ops a.tmps) = true then Oper.wp P o a w K' Q else K' (a.put o.dst undef) w) :
    wpAnyH P .any ops Q S (fuel + 1) (pre n i) a w := by
  refine wpAnyH_ready (by simpa using soleM_at hz hM hi hr (Nat.zero_lt_one)) (by simp) (AllReadyH.cons ho (fun K' hK => h K' ?_) AllReadyH.nil)
  rw [pre_succ hi] at hK
  exact hK
theorem wpAnyH_load {w : World} {a : Act} {i fuel : Nat} {o : Oper} {v : Value} (hi : i < n) (ho : ops[i]? = some o) (hs : Region.noSelect ops = true) (hf : Region.free .any ops (pre n i) i = true) (hr : (Region.ready .any ops (pre n i)).contains i = true)
    (hQ : ∀ c a w, Q (.panic c) (a.put o.dst v) w → Q (.panic c) a w) (hy : YieldsIf P ops S o v a) (hS : S w) (h : wpAnyH P .any ops Q S fuel (pre n (i + 1)) (a.put o.dst v) w) :
    wpAnyH P .any ops Q S (fuel + 1) (pre n i) a w := by
  refine wpAnyH_take ho hs hf hr hQ hy hS ?_
  rw [pre_succ hi]; exact h
end
end Go.Proofs.YtemeapfnfegkiaaK
end
section
/- Package disk: Awake. -/
namespace Go.Proofs.Ytemeapfnfegkiaa.D
open Go Go.RowKit Go.Proofs.YtemeapfnfegkiaaK Go.Proofs.YtemeapfnfegkiaaW.PrintWords Go.Proofs.YtemeapfnfegkiaaW.PrintLast Go.Proofs.YtemeapfnfegkiaaW.PrintMore Go.Proofs.Ytemeapfnfegkiaa.PR
set_option linter.unusedVariables false
set_option linter.unusedSimpArgs false

abbrev shV (g : Nat) (v : Value) : Array Value := #[.string ⟨#[119, 111, 108, 102]⟩, .int .i64 5, .int .i64 1, .int .i64 3, .slice (some ⟨g, 0, none⟩) 5 5, v]
structure AW (n0 : Nat) (W : World) (t g1 g2 g3 a2 a3 : Nat) : Prop where
  s1 : W.heap[t]? = some (.cells (shV g1 (.slice none 0 0)) 27 (0, 0))
  s2 : W.heap[t + 1]? = some (.cells (shV g2 (.slice (some ⟨a2, 0, none⟩) 1 1)) 27 (0, 0))
  s3 : W.heap[t + 1 + 1]? = some (.cells (shV g3 (.slice (some ⟨a3, 0, none⟩) 2 2)) 27 (0, 0))
  p1 : W.heap[g1]? = some (.cells exCells 80 (0, 0))
  p2 : W.heap[g2]? = some (.cells exCells 80 (0, 0))
  p3 : W.heap[g3]? = some (.cells exCells 80 (0, 0))
  q2 : W.heap[a2]? = some (.cells #[.int .i64 0, .int .i64 1, .bool true] 52 (0, 0))
  q3 : W.heap[a3]? = some (.cells #[.int .i64 0, .int .i64 1, .bool true, .int .i64 0, .int .i64 1, .bool false] 52 (0, 0))
theorem AW.chg {n0 t g1 g2 g3 a2 a3 : Nat} {W W' : World} (h : AW n0 W t g1 g2 g3 a2 a3) (hc : Chg (fun k => W.heap.size ≤ k) W W') : AW n0 W' t g1 g2 g3 a2 a3 := by
  have f : ∀ {k : Nat} {o : Obj}, W.heap[k]? = some o → W'.heap[k]? = some o := fun h => hc.heap h (by have := (Array.getElem?_eq_some_iff.1 h).1; omega)
  exact ⟨f h.s1, f h.s2, f h.s3, f h.p1, f h.p2, f h.p3, f h.q2, f h.q3⟩
theorem AW.a1 {n0 t g1 g2 g3 a2 a3 : Nat} {W : World} (h : AW n0 W t g1 g2 g3 a2 a3) : Arg W (exD []) (some ⟨g1, 0, none⟩) 5 none 0 := exArg [] h.p1 ⟨rfl, by decide, fun h => absurd h (by decide)⟩ (Nat.le_refl _)
theorem AW.a2' {n0 t g1 g2 g3 a2 a3 : Nat} {W : World} (h : AW n0 W t g1 g2 g3 a2 a3) : Arg W (exD exT) (some ⟨g2, 0, none⟩) 5 (some ⟨a2, 0, none⟩) 1 := exArg exT h.p2 (exT_C h.q2) (Nat.le_refl _)
theorem AW.a3' {n0 t g1 g2 g3 a2 a3 : Nat} {W : World} (h : AW n0 W t g1 g2 g3 a2 a3) : Arg W (exD exW) (some ⟨g3, 0, none⟩) 5 (some ⟨a3, 0, none⟩) 2 := exArg exW h.p3 (exW_C h.q3) (Nat.le_refl _)

def awM : List Nat := [0, 1, 2, 3, 4, 5, 6, 7, 8, 9, 10, 11, 12, 13, 14, 15, 16, 17, 18, 19, 20, 21, 22, 23, 24, 25, 26, 27, 28, 29, 30, 31, 32, 33, 34, 35, 36, 37, 38, 39, 40, 41, 42, 43, 44, 45, 46, 47, 48, 49, 50, 51, 52, 53, 54, 55, 56, 57, 58, 59, 59, 61, 62, 63, 64, 64, 66, 67, 68, 69, 69, 71, 72, 73, 74, 74, 76, 77, 78, 79, 80, 81, 82, 83, 84, 85, 86, 87, 88, 89, 90, 91, 91, 93, 94, 95, 96, 97, 98, 99, 100, 101, 102]
set_option maxRecDepth 100000 in
set_option maxHeartbeats 12000000 in
theorem Awake_calls (w : World) : Calls Try.prog 22 #[] w fun e w' => e = .returned (.bool true) ∧ Below w.heap.size w w' := by
  go_enter Try.func22, Try.ntmps22
  go_wp2_with fail
  refine (Sheet_calls _ none 0 0 rfl _).mono ?_
  rintro e w1 ⟨⟨g1, hg1, rfl, hp1⟩, hc1⟩
  have HP1 := Aside0.mk hp1
  have HC1 := Aside0.mk hc1
  clear hp1 hc1
  go_wp2_with fail
  refine (oneL_calls 0 1 _).mono ?_
  rintro e w2 ⟨rfl, hc2⟩
  have HP2 := Aside0.mk (hc2.heap HP1.out id)
  have HC2 := Aside0.mk (HC1.out.trans hc2)
  clear hc2 HP1 HC1
  go_wp2_with fail
  have hq2 := blk_new w2 (.cells #[.int .i64 0, .int .i64 1, .bool true] 52)
  have HQ2 := Aside0.mk hq2
  have HP3 := Aside0.mk (blk_alloc HP2.out (.cells #[.int .i64 0, .int .i64 1, .bool true] 52))
  have HC3 := Aside0.mk (HC2.out.alloc (.cells #[.int .i64 0, .int .i64 1, .bool true] 52))
  obtain ⟨a2, ha2⟩ : ∃ a2, w2.heap.size = a2 := ⟨_, rfl⟩
  generalize w2.alloc (.cells #[.int .i64 0, .int .i64 1, .bool true] 52) = w3 at HQ2 HP3 HC3 ⊢
  rw [ha2] at HQ2 ⊢
  clear ha2 hq2 HP2 HC2
  refine (Sheet_calls _ (some ⟨a2, 0, none⟩) 1 1 rfl _).mono ?_
  rintro e w4 ⟨⟨g2, hg2, rfl, hp2⟩, hc4⟩
  have HP4 := Aside0.mk (hc4.heap HP3.out id)
  have HQ4 := Aside0.mk (hc4.heap HQ2.out id)
  have HR4 := Aside0.mk hp2
  have HC4 := Aside0.mk (HC3.out.trans hc4)
  clear hp2 hc4 HP3 HQ2 HC3 hg2
  go_wp2_with fail
  refine (oneL_calls 0 1 _).mono ?_
  rintro e w5 ⟨rfl, hc⟩
  have HP5 := Aside0.mk (hc.heap HP4.out id)
  have HQ5 := Aside0.mk (hc.heap HQ4.out id)
  have HR5 := Aside0.mk (hc.heap HR4.out id)
  have HC5 := Aside0.mk (HC4.out.trans hc)
  clear hc HP4 HQ4 HR4 HC4
  go_wp2_with fail
  refine (notL_calls 0 1 _).mono ?_
  rintro e w6 ⟨rfl, hc⟩
  have HP6 := Aside0.mk (hc.heap HP5.out id)
  have HQ6 := Aside0.mk (hc.heap HQ5.out id)
  have HR6 := Aside0.mk (hc.heap HR5.out id)
  have HC6 := Aside0.mk (HC5.out.trans hc)
  clear hc HP5 HQ5 HR5 HC5
  go_wp2_with fail
  have HS := Aside0.mk (blk_new w6 (.cells #[.int .i64 0, .int .i64 1, .bool true, .int .i64 0, .int .i64 1, .bool false] 52))
  have hc := (Chg.refl (fun _ => False) w6).alloc (.cells #[.int .i64 0, .int .i64 1, .bool true, .int .i64 0, .int .i64 1, .bool false] 52)
  have HP7 := Aside0.mk (hc.heap HP6.out id)
  have HQ7 := Aside0.mk (hc.heap HQ6.out id)
  have HR7 := Aside0.mk (hc.heap HR6.out id)
  have HC7 := Aside0.mk (HC6.out.trans hc)
  obtain ⟨a3, ha3⟩ : ∃ a3, w6.heap.size = a3 := ⟨_, rfl⟩
  clear hc
  generalize w6.alloc (.cells #[.int .i64 0, .int .i64 1, .bool true, .int .i64 0, .int .i64 1, .bool false] 52) = w7 at HS HP7 HQ7 HR7 HC7 ⊢
  rw [ha3] at HS ⊢
  clear ha3 HP6 HQ6 HR6 HC6
  refine (Sheet_calls _ (some ⟨a3, 0, none⟩) 2 2 rfl _).mono ?_
  rintro e w8 ⟨⟨g3, hg3, rfl, hp3⟩, hc⟩
  have HP8 := Aside0.mk (hc.heap HP7.out id)
  have HQ8 := Aside0.mk (hc.heap HQ7.out id)
  have HR8 := Aside0.mk (hc.heap HR7.out id)
  have HS8 := Aside0.mk (hc.heap HS.out id)
  have HT8 := Aside0.mk hp3
  have HC8 := Aside0.mk (HC7.out.trans hc)
  clear hc hp3 hg3 HP7 HQ7 HR7 HS HC7 hg1
  go_upto_region 2 with (fail)
  have M0 : AW 0 (((w8.alloc (.cells (shV g1 (.slice none 0 0)) 27)).alloc (.cells (shV g2 (.slice (some ⟨a2, 0, none⟩) 1 1)) 27)).alloc (.cells (shV g3 (.slice (some ⟨a3, 0, none⟩) 2 2)) 27)) w8.heap.size g1 g2 g3 a2 a3 :=
    ⟨blk_alloc (blk_alloc (blk_new _ _) _) _, blk_alloc (new_at (by simp) _) _, new_at (by simp) _, blk_alloc (blk_alloc (blk_alloc HP8.out _) _) _, blk_alloc (blk_alloc (blk_alloc HR8.out _) _) _, blk_alloc (blk_alloc (blk_alloc HT8.out _) _) _, blk_alloc (blk_alloc (blk_alloc HQ8.out _) _) _, blk_alloc (blk_alloc (blk_alloc HS8.out _) _) _⟩
  have M := Aside0.mk M0
  have HB : Aside0 (Below w.heap.size w (((w8.alloc (.cells (shV g1 (.slice none 0 0)) 27)).alloc (.cells (shV g2 (.slice (some ⟨a2, 0, none⟩) 1 1)) 27)).alloc (.cells (shV g3 (.slice (some ⟨a3, 0, none⟩) 2 2)) 27))) := ⟨(((HC8.out.alloc _).alloc _).alloc _).below (fun _ _ x => x.elim) (Nat.le_refl _)⟩
  clear M0
  obtain ⟨t, ht⟩ : ∃ t, w8.heap.size = t := ⟨_, rfl⟩
  generalize (((w8.alloc (.cells (shV g1 (.slice none 0 0)) 27)).alloc (.cells (shV g2 (.slice (some ⟨a2, 0, none⟩) 1 1)) 27)).alloc (.cells (shV g3 (.slice (some ⟨a3, 0, none⟩) 2 2)) 27)) = W at M HB ⊢
  rw [ht] at M ⊢
  clear ht HP8 HQ8 HR8 HS8 HT8 HC8
  have k0 : W.cell? ⟨t, 0, none⟩ = some (.string ⟨#[119, 111, 108, 102]⟩) := (blk_cell M.out.s1 0).trans rfl
  have k1 : W.cell? ⟨t, 1, none⟩ = some (.int .i64 5) := (blk_cell M.out.s1 1).trans rfl
  have k2 : W.cell? ⟨t, 2, none⟩ = some (.int .i64 1) := (blk_cell M.out.s1 2).trans rfl
  have k3 : W.cell? ⟨t, 3, none⟩ = some (.int .i64 3) := (blk_cell M.out.s1 3).trans rfl
  have k4 : W.cell? ⟨t, 4, none⟩ = some (.slice (some ⟨g1, 0, none⟩) 5 5) := (blk_cell M.out.s1 4).trans rfl
  have k5 : W.cell? ⟨t, 5, none⟩ = some (.slice none 0 0) := (blk_cell M.out.s1 5).trans rfl
  have kl := blk_lt M.out.s1
  go_wp2_with fail
  refine (Is_calls (exD []) (some ⟨g1, 0, none⟩) 5 none 0 0 W M.out.a1).mono ?_
  rw [ex_is0]
  rintro e X1 ⟨rfl, hb⟩
  have M' := Aside0.mk (M.out.chg (Chg.of_below hb))
  have HB' := Aside0.mk (HB.out.trans (hb.mono HB.out.size))
  clear hb k0 k1 k2 k3 k4 k5 kl M HB
  have M := M'
  have HB := HB'
  clear M' HB'
  go_upto_region 3 with (fail)
  have k0 : X1.cell? ⟨t, 0, none⟩ = some (.string ⟨#[119, 111, 108, 102]⟩) := (blk_cell M.out.s1 0).trans rfl
  have k1 : X1.cell? ⟨t, 1, none⟩ = some (.int .i64 5) := (blk_cell M.out.s1 1).trans rfl
  have k2 : X1.cell? ⟨t, 2, none⟩ = some (.int .i64 1) := (blk_cell M.out.s1 2).trans rfl
  have k3 : X1.cell? ⟨t, 3, none⟩ = some (.int .i64 3) := (blk_cell M.out.s1 3).trans rfl
  have k4 : X1.cell? ⟨t, 4, none⟩ = some (.slice (some ⟨g1, 0, none⟩) 5 5) := (blk_cell M.out.s1 4).trans rfl
  have k5 : X1.cell? ⟨t, 5, none⟩ = some (.slice none 0 0) := (blk_cell M.out.s1 5).trans rfl
  have kl := blk_lt M.out.s1
  go_wp2_with fail
  refine (Is_calls (exD []) (some ⟨g1, 0, none⟩) 5 none 0 2 X1 M.out.a1).mono ?_
  rw [ex_is2]
  rintro e X2 ⟨rfl, hb⟩
  have M' := Aside0.mk (M.out.chg (Chg.of_below hb))
  have HB' := Aside0.mk (HB.out.trans (hb.mono HB.out.size))
  clear hb k0 k1 k2 k3 k4 k5 kl M HB
  have M := M'
  have HB := HB'
  clear M' HB'
  go_upto_region 4 with (fail)
  have k0 : X2.cell? ⟨t, 0, none⟩ = some (.string ⟨#[119, 111, 108, 102]⟩) := (blk_cell M.out.s1 0).trans rfl
  have k1 : X2.cell? ⟨t, 1, none⟩ = some (.int .i64 5) := (blk_cell M.out.s1 1).trans rfl
  have k2 : X2.cell? ⟨t, 2, none⟩ = some (.int .i64 1) := (blk_cell M.out.s1 2).trans rfl
  have k3 : X2.cell? ⟨t, 3, none⟩ = some (.int .i64 3) := (blk_cell M.out.s1 3).trans rfl
  have k4 : X2.cell? ⟨t, 4, none⟩ = some (.slice (some ⟨g1, 0, none⟩) 5 5) := (blk_cell M.out.s1 4).trans rfl
  have k5 : X2.cell? ⟨t, 5, none⟩ = some (.slice none 0 0) := (blk_cell M.out.s1 5).trans rfl
  have kl := blk_lt M.out.s1
  go_wp2_with fail
  refine (Is_calls (exD []) (some ⟨g1, 0, none⟩) 5 none 0 4 X2 M.out.a1).mono ?_
  rw [ex_is4]
  rintro e X3 ⟨rfl, hb⟩
  have M' := Aside0.mk (M.out.chg (Chg.of_below hb))
  have HB' := Aside0.mk (HB.out.trans (hb.mono HB.out.size))
  clear hb k0 k1 k2 k3 k4 k5 kl M HB
  have M := M'
  have HB := HB'
  clear M' HB'
  go_upto_region 5 with (fail)
  have k0 : X3.cell? ⟨t, 0, none⟩ = some (.string ⟨#[119, 111, 108, 102]⟩) := (blk_cell M.out.s1 0).trans rfl
  have k1 : X3.cell? ⟨t, 1, none⟩ = some (.int .i64 5) := (blk_cell M.out.s1 1).trans rfl
  have k2 : X3.cell? ⟨t, 2, none⟩ = some (.int .i64 1) := (blk_cell M.out.s1 2).trans rfl
  have k3 : X3.cell? ⟨t, 3, none⟩ = some (.int .i64 3) := (blk_cell M.out.s1 3).trans rfl
  have k4 : X3.cell? ⟨t, 4, none⟩ = some (.slice (some ⟨g1, 0, none⟩) 5 5) := (blk_cell M.out.s1 4).trans rfl
  have k5 : X3.cell? ⟨t, 5, none⟩ = some (.slice none 0 0) := (blk_cell M.out.s1 5).trans rfl
  have kl := blk_lt M.out.s1
  go_wp2_with fail
  refine (One_calls (exD []) (some ⟨g1, 0, none⟩) 5 none 0 0 1 X3 M.out.a1).mono ?_
  rw [ex_one01]
  rintro e X4 ⟨rfl, hb⟩
  have M' := Aside0.mk (M.out.chg (Chg.of_below hb))
  have HB' := Aside0.mk (HB.out.trans (hb.mono HB.out.size))
  clear hb k0 k1 k2 k3 k4 k5 kl M HB
  have M := M'
  have HB := HB'
  clear M' HB'
  go_upto_region 6 with (fail)
  have k0 : X4.cell? ⟨t, 0, none⟩ = some (.string ⟨#[119, 111, 108, 102]⟩) := (blk_cell M.out.s1 0).trans rfl
  have k1 : X4.cell? ⟨t, 1, none⟩ = some (.int .i64 5) := (blk_cell M.out.s1 1).trans rfl
  have k2 : X4.cell? ⟨t, 2, none⟩ = some (.int .i64 1) := (blk_cell M.out.s1 2).trans rfl
  have k3 : X4.cell? ⟨t, 3, none⟩ = some (.int .i64 3) := (blk_cell M.out.s1 3).trans rfl
  have k4 : X4.cell? ⟨t, 4, none⟩ = some (.slice (some ⟨g1, 0, none⟩) 5 5) := (blk_cell M.out.s1 4).trans rfl
  have k5 : X4.cell? ⟨t, 5, none⟩ = some (.slice none 0 0) := (blk_cell M.out.s1 5).trans rfl
  have kl := blk_lt M.out.s1
  go_wp2_with fail
  refine (Counts_calls (exD []) (some ⟨g1, 0, none⟩) 5 none 0 X4 M.out.a1).mono ?_
  rw [ex_many, ex_spots, ex_enter]
  rintro e X5 ⟨rfl, hb⟩
  have M' := Aside0.mk (M.out.chg (Chg.of_below hb))
  have HB' := Aside0.mk (HB.out.trans (hb.mono HB.out.size))
  clear hb k0 k1 k2 k3 k4 k5 kl M HB
  have M := M'
  have HB := HB'
  clear M' HB'
  go_upto_region 7 with (fail)
  have hb : Below X5.heap.size X5 ((X5.alloc (.cells #[.int .i64 1, .int .i64 4] 23)).alloc (.cells #[.int .i64 3, .int .i64 4] 23)) := below_alloc (below_alloc (Below.refl _ _) (.cells #[.int .i64 1, .int .i64 4] 23)) (.cells #[.int .i64 3, .int .i64 4] 23)
  have M' := Aside0.mk (M.out.chg (Chg.of_below hb))
  have HB' := Aside0.mk (HB.out.trans (hb.mono HB.out.size))
  have SA' : Aside0 (((X5.alloc (.cells #[.int .i64 1, .int .i64 4] 23)).alloc (.cells #[.int .i64 3, .int .i64 4] 23)).heap[X5.heap.size]? = some (.cells #[.int .i64 1, .int .i64 4] 23 (0, 0))) := ⟨blk_alloc (new_at (by simp) _) _⟩
  have SB' : Aside0 (((X5.alloc (.cells #[.int .i64 1, .int .i64 4] 23)).alloc (.cells #[.int .i64 3, .int .i64 4] 23)).heap[X5.heap.size + 1]? = some (.cells #[.int .i64 3, .int .i64 4] 23 (0, 0))) := ⟨new_at (by simp) _⟩
  clear hb M HB
  have M := M'
  have HB := HB'
  have SA := SA'
  have SB := SB'
  clear M' HB' SA' SB'
  generalize ((X5.alloc (.cells #[.int .i64 1, .int .i64 4] 23)).alloc (.cells #[.int .i64 3, .int .i64 4] 23)) = Y5 at M HB SA SB ⊢
  obtain ⟨sab, hsz⟩ : ∃ sab, X5.heap.size = sab := ⟨_, rfl⟩
  rw [hsz] at SA SB ⊢
  clear hsz
  have k0 : Y5.cell? ⟨t + 1, 0, none⟩ = some (.string ⟨#[119, 111, 108, 102]⟩) := (blk_cell M.out.s2 0).trans rfl
  have k1 : Y5.cell? ⟨t + 1, 1, none⟩ = some (.int .i64 5) := (blk_cell M.out.s2 1).trans rfl
  have k2 : Y5.cell? ⟨t + 1, 2, none⟩ = some (.int .i64 1) := (blk_cell M.out.s2 2).trans rfl
  have k3 : Y5.cell? ⟨t + 1, 3, none⟩ = some (.int .i64 3) := (blk_cell M.out.s2 3).trans rfl
  have k4 : Y5.cell? ⟨t + 1, 4, none⟩ = some (.slice (some ⟨g2, 0, none⟩) 5 5) := (blk_cell M.out.s2 4).trans rfl
  have k5 : Y5.cell? ⟨t + 1, 5, none⟩ = some (.slice (some ⟨a2, 0, none⟩) 1 1) := (blk_cell M.out.s2 5).trans rfl
  have kl := blk_lt M.out.s2
  go_wp2_with fail
  refine (Number_calls (exD exT) (some ⟨g2, 0, none⟩) 5 (some ⟨a2, 0, none⟩) 1 Y5 M.out.a2').mono ?_
  rw [ex_number, ex_enterT]
  rintro e X6 ⟨rfl, hb⟩
  have M' := Aside0.mk (M.out.chg (Chg.of_below hb))
  have HB' := Aside0.mk (HB.out.trans (hb.mono HB.out.size))
  have SA' := Aside0.mk (blk_below SA.out hb)
  have SB' := Aside0.mk (blk_below SB.out hb)
  clear hb k0 k1 k2 k3 k4 k5 kl M HB SA SB
  have M := M'
  have HB := HB'
  have SA := SA'
  have SB := SB'
  clear M' HB' SA' SB'
  go_upto_region 8 with (fail)
  have hb : Below X6.heap.size X6 (X6.alloc (.cells #[.int .i64 13, .int .i64 24] 23)) := below_alloc (Below.refl _ _) (.cells #[.int .i64 13, .int .i64 24] 23)
  have M' := Aside0.mk (M.out.chg (Chg.of_below hb))
  have HB' := Aside0.mk (HB.out.trans (hb.mono HB.out.size))
  have SA' := Aside0.mk (blk_below SA.out hb)
  have SB' := Aside0.mk (blk_below SB.out hb)
  have SN' : Aside0 ((X6.alloc (.cells #[.int .i64 13, .int .i64 24] 23)).heap[X6.heap.size]? = some (.cells #[.int .i64 13, .int .i64 24] 23 (0, 0))) := ⟨new_at (by simp) _⟩
  clear hb M HB SA SB
  have M := M'
  have HB := HB'
  have SA := SA'
  have SB := SB'
  have SN := SN'
  clear M' HB' SA' SB' SN'
  generalize (X6.alloc (.cells #[.int .i64 13, .int .i64 24] 23)) = Y6 at M HB SA SB SN ⊢
  obtain ⟨snb, hsz⟩ : ∃ snb, X6.heap.size = snb := ⟨_, rfl⟩
  rw [hsz] at SN ⊢
  clear hsz
  have k0 : Y6.cell? ⟨t + 1, 0, none⟩ = some (.string ⟨#[119, 111, 108, 102]⟩) := (blk_cell M.out.s2 0).trans rfl
  have k1 : Y6.cell? ⟨t + 1, 1, none⟩ = some (.int .i64 5) := (blk_cell M.out.s2 1).trans rfl
  have k2 : Y6.cell? ⟨t + 1, 2, none⟩ = some (.int .i64 1) := (blk_cell M.out.s2 2).trans rfl
  have k3 : Y6.cell? ⟨t + 1, 3, none⟩ = some (.int .i64 3) := (blk_cell M.out.s2 3).trans rfl
  have k4 : Y6.cell? ⟨t + 1, 4, none⟩ = some (.slice (some ⟨g2, 0, none⟩) 5 5) := (blk_cell M.out.s2 4).trans rfl
  have k5 : Y6.cell? ⟨t + 1, 5, none⟩ = some (.slice (some ⟨a2, 0, none⟩) 1 1) := (blk_cell M.out.s2 5).trans rfl
  have kl := blk_lt M.out.s2
  go_wp2_with fail
  refine (Near_calls (exD exT) (some ⟨g2, 0, none⟩) 5 (some ⟨a2, 0, none⟩) 1 Y6 M.out.a2').mono ?_
  rw [ex_near, ex_enterT]
  rintro e X7 ⟨rfl, hb⟩
  have M' := Aside0.mk (M.out.chg (Chg.of_below hb))
  have HB' := Aside0.mk (HB.out.trans (hb.mono HB.out.size))
  have SA' := Aside0.mk (blk_below SA.out hb)
  have SB' := Aside0.mk (blk_below SB.out hb)
  have SN' := Aside0.mk (blk_below SN.out hb)
  clear hb k0 k1 k2 k3 k4 k5 kl M HB SA SB SN
  have M := M'
  have HB := HB'
  have SA := SA'
  have SB := SB'
  have SN := SN'
  clear M' HB' SA' SB' SN'
  go_upto_region 9 with (fail)
  have hb : Below X7.heap.size X7 (X7.alloc (.cells #[.int .i64 2, .int .i64 3] 23)) := below_alloc (Below.refl _ _) (.cells #[.int .i64 2, .int .i64 3] 23)
  have M' := Aside0.mk (M.out.chg (Chg.of_below hb))
  have HB' := Aside0.mk (HB.out.trans (hb.mono HB.out.size))
  have SA' := Aside0.mk (blk_below SA.out hb)
  have SB' := Aside0.mk (blk_below SB.out hb)
  have SN' := Aside0.mk (blk_below SN.out hb)
  have SR' : Aside0 ((X7.alloc (.cells #[.int .i64 2, .int .i64 3] 23)).heap[X7.heap.size]? = some (.cells #[.int .i64 2, .int .i64 3] 23 (0, 0))) := ⟨new_at (by simp) _⟩
  clear hb M HB SA SB SN
  have M := M'
  have HB := HB'
  have SA := SA'
  have SB := SB'
  have SN := SN'
  have SR := SR'
  clear M' HB' SA' SB' SN' SR'
  generalize (X7.alloc (.cells #[.int .i64 2, .int .i64 3] 23)) = Y7 at M HB SA SB SN SR ⊢
  obtain ⟨srb, hsz⟩ : ∃ srb, X7.heap.size = srb := ⟨_, rfl⟩
  rw [hsz] at SR ⊢
  clear hsz
  have k0 : Y7.cell? ⟨t, 0, none⟩ = some (.string ⟨#[119, 111, 108, 102]⟩) := (blk_cell M.out.s1 0).trans rfl
  have k1 : Y7.cell? ⟨t, 1, none⟩ = some (.int .i64 5) := (blk_cell M.out.s1 1).trans rfl
  have k2 : Y7.cell? ⟨t, 2, none⟩ = some (.int .i64 1) := (blk_cell M.out.s1 2).trans rfl
  have k3 : Y7.cell? ⟨t, 3, none⟩ = some (.int .i64 3) := (blk_cell M.out.s1 3).trans rfl
  have k4 : Y7.cell? ⟨t, 4, none⟩ = some (.slice (some ⟨g1, 0, none⟩) 5 5) := (blk_cell M.out.s1 4).trans rfl
  have k5 : Y7.cell? ⟨t, 5, none⟩ = some (.slice none 0 0) := (blk_cell M.out.s1 5).trans rfl
  have kl := blk_lt M.out.s1
  go_wp2_with fail
  refine (Ask_calls (exD []) (some ⟨g1, 0, none⟩) 5 none 0 Y7 M.out.a1).mono ?_
  rw [ex_ask]
  rintro e X8 ⟨rfl, hb⟩
  have M' := Aside0.mk (M.out.chg (Chg.of_below hb))
  have HB' := Aside0.mk (HB.out.trans (hb.mono HB.out.size))
  have SA' := Aside0.mk (blk_below SA.out hb)
  have SB' := Aside0.mk (blk_below SB.out hb)
  have SN' := Aside0.mk (blk_below SN.out hb)
  have SR' := Aside0.mk (blk_below SR.out hb)
  clear hb k0 k1 k2 k3 k4 k5 kl M HB SA SB SN SR
  have M := M'
  have HB := HB'
  have SA := SA'
  have SB := SB'
  have SN := SN'
  have SR := SR'
  clear M' HB' SA' SB' SN' SR'
  go_upto_region 10 with (fail)
  have k0 : X8.cell? ⟨t + 1 + 1, 0, none⟩ = some (.string ⟨#[119, 111, 108, 102]⟩) := (blk_cell M.out.s3 0).trans rfl
  have k1 : X8.cell? ⟨t + 1 + 1, 1, none⟩ = some (.int .i64 5) := (blk_cell M.out.s3 1).trans rfl
  have k2 : X8.cell? ⟨t + 1 + 1, 2, none⟩ = some (.int .i64 1) := (blk_cell M.out.s3 2).trans rfl
  have k3 : X8.cell? ⟨t + 1 + 1, 3, none⟩ = some (.int .i64 3) := (blk_cell M.out.s3 3).trans rfl
  have k4 : X8.cell? ⟨t + 1 + 1, 4, none⟩ = some (.slice (some ⟨g3, 0, none⟩) 5 5) := (blk_cell M.out.s3 4).trans rfl
  have k5 : X8.cell? ⟨t + 1 + 1, 5, none⟩ = some (.slice (some ⟨a3, 0, none⟩) 2 2) := (blk_cell M.out.s3 5).trans rfl
  have kl := blk_lt M.out.s3
  go_wp2_with fail
  refine (Wrong_calls (exD exW) (some ⟨g3, 0, none⟩) 5 (some ⟨a3, 0, none⟩) 2 X8 M.out.a3').mono ?_
  rw [ex_wrong]
  rintro e X9 ⟨⟨vw, rfl, hnr⟩, hb⟩
  have M' := Aside0.mk (M.out.chg (Chg.of_below hb))
  have HB' := Aside0.mk (HB.out.trans (hb.mono HB.out.size))
  have SA' := Aside0.mk (blk_below SA.out hb)
  have SB' := Aside0.mk (blk_below SB.out hb)
  have SN' := Aside0.mk (blk_below SN.out hb)
  have SR' := Aside0.mk (blk_below SR.out hb)
  obtain ⟨Aw, cw, rfl, hrw⟩ := hnr.one
  have HW := Aside0.mk hrw
  clear hrw hnr
  clear hb k0 k1 k2 k3 k4 k5 kl M HB SA SB SN SR
  have M := M'
  have HB := HB'
  have SA := SA'
  have SB := SB'
  have SN := SN'
  have SR := SR'
  clear M' HB' SA' SB' SN' SR'
  go_upto_region 11 with (fail)
  have k0 : X9.cell? ⟨t + 1 + 1, 0, none⟩ = some (.string ⟨#[119, 111, 108, 102]⟩) := (blk_cell M.out.s3 0).trans rfl
  have k1 : X9.cell? ⟨t + 1 + 1, 1, none⟩ = some (.int .i64 5) := (blk_cell M.out.s3 1).trans rfl
  have k2 : X9.cell? ⟨t + 1 + 1, 2, none⟩ = some (.int .i64 1) := (blk_cell M.out.s3 2).trans rfl
  have k3 : X9.cell? ⟨t + 1 + 1, 3, none⟩ = some (.int .i64 3) := (blk_cell M.out.s3 3).trans rfl
  have k4 : X9.cell? ⟨t + 1 + 1, 4, none⟩ = some (.slice (some ⟨g3, 0, none⟩) 5 5) := (blk_cell M.out.s3 4).trans rfl
  have k5 : X9.cell? ⟨t + 1 + 1, 5, none⟩ = some (.slice (some ⟨a3, 0, none⟩) 2 2) := (blk_cell M.out.s3 5).trans rfl
  have kl := blk_lt M.out.s3
  go_wp2_with fail
  refine (Near_calls (exD exW) (some ⟨g3, 0, none⟩) 5 (some ⟨a3, 0, none⟩) 2 X9 M.out.a3').mono ?_
  rw [ex_nearW, ex_enterW]
  rintro e X10 ⟨rfl, hb⟩
  have M' := Aside0.mk (M.out.chg (Chg.of_below hb))
  have HB' := Aside0.mk (HB.out.trans (hb.mono HB.out.size))
  have SA' := Aside0.mk (blk_below SA.out hb)
  have SB' := Aside0.mk (blk_below SB.out hb)
  have SN' := Aside0.mk (blk_below SN.out hb)
  have SR' := Aside0.mk (blk_below SR.out hb)
  have HW' := Aside0.mk (Kd.C_below HW.out hb)
  clear HW
  have HW := HW'
  clear HW'
  clear hb k0 k1 k2 k3 k4 k5 kl M HB SA SB SN SR
  have M := M'
  have HB := HB'
  have SA := SA'
  have SB := SB'
  have SN := SN'
  have SR := SR'
  clear M' HB' SA' SB' SN' SR'
  go_upto_region 12 with (fail)
  have hb : Below X10.heap.size X10 (X10.alloc (.cells #[.int .i64 0, .int .i64 0] 23)) := below_alloc (Below.refl _ _) (.cells #[.int .i64 0, .int .i64 0] 23)
  have M' := Aside0.mk (M.out.chg (Chg.of_below hb))
  have HB' := Aside0.mk (HB.out.trans (hb.mono HB.out.size))
  have SA' := Aside0.mk (blk_below SA.out hb)
  have SB' := Aside0.mk (blk_below SB.out hb)
  have SN' := Aside0.mk (blk_below SN.out hb)
  have SR' := Aside0.mk (blk_below SR.out hb)
  have HW' := Aside0.mk (Kd.C_below HW.out hb)
  have SZ' : Aside0 ((X10.alloc (.cells #[.int .i64 0, .int .i64 0] 23)).heap[X10.heap.size]? = some (.cells #[.int .i64 0, .int .i64 0] 23 (0, 0))) := ⟨new_at (by simp) _⟩
  clear hb M HB SA SB SN SR HW
  have M := M'
  have HB := HB'
  have SA := SA'
  have SB := SB'
  have SN := SN'
  have SR := SR'
  have SZ := SZ'
  have HW := HW'
  clear M' HB' SA' SB' SN' SR' SZ' HW'
  generalize (X10.alloc (.cells #[.int .i64 0, .int .i64 0] 23)) = Y10 at M HB SA SB SN SR SZ HW ⊢
  obtain ⟨szb, hsz⟩ : ∃ szb, X10.heap.size = szb := ⟨_, rfl⟩
  rw [hsz] at SZ ⊢
  clear hsz
  have k0 : Y10.cell? ⟨t, 0, none⟩ = some (.string ⟨#[119, 111, 108, 102]⟩) := (blk_cell M.out.s1 0).trans rfl
  have k1 : Y10.cell? ⟨t, 1, none⟩ = some (.int .i64 5) := (blk_cell M.out.s1 1).trans rfl
  have k2 : Y10.cell? ⟨t, 2, none⟩ = some (.int .i64 1) := (blk_cell M.out.s1 2).trans rfl
  have k3 : Y10.cell? ⟨t, 3, none⟩ = some (.int .i64 3) := (blk_cell M.out.s1 3).trans rfl
  have k4 : Y10.cell? ⟨t, 4, none⟩ = some (.slice (some ⟨g1, 0, none⟩) 5 5) := (blk_cell M.out.s1 4).trans rfl
  have k5 : Y10.cell? ⟨t, 5, none⟩ = some (.slice none 0 0) := (blk_cell M.out.s1 5).trans rfl
  have kl := blk_lt M.out.s1
  go_wp2_with fail
  refine (One_calls (exD []) (some ⟨g1, 0, none⟩) 5 none 0 1 1 Y10 M.out.a1).mono ?_
  rw [ex_one11]
  rintro e X11 ⟨rfl, hb⟩
  have M' := Aside0.mk (M.out.chg (Chg.of_below hb))
  have HB' := Aside0.mk (HB.out.trans (hb.mono HB.out.size))
  have SA' := Aside0.mk (blk_below SA.out hb)
  have SB' := Aside0.mk (blk_below SB.out hb)
  have SN' := Aside0.mk (blk_below SN.out hb)
  have SR' := Aside0.mk (blk_below SR.out hb)
  have SZ' := Aside0.mk (blk_below SZ.out hb)
  have HW' := Aside0.mk (Kd.C_below HW.out hb)
  clear HW
  have HW := HW'
  clear HW'
  clear hb k0 k1 k2 k3 k4 k5 kl M HB SA SB SN SR SZ
  have M := M'
  have HB := HB'
  have SA := SA'
  have SB := SB'
  have SN := SN'
  have SR := SR'
  have SZ := SZ'
  clear M' HB' SA' SB' SN' SR' SZ'
  go_upto_region 13 with (fail)
  have sa0 : X11.drew.cell? ⟨sab, 0, none⟩ = some (.int .i64 1) := (blk_cell SA.out 0).trans rfl
  have sa1 : X11.drew.cell? ⟨sab, 1, none⟩ = some (.int .i64 4) := (blk_cell SA.out 1).trans rfl
  have sb0 : X11.drew.cell? ⟨sab + 1, 0, none⟩ = some (.int .i64 3) := (blk_cell SB.out 0).trans rfl
  have sb1 : X11.drew.cell? ⟨sab + 1, 1, none⟩ = some (.int .i64 4) := (blk_cell SB.out 1).trans rfl
  have sn0 : X11.drew.cell? ⟨snb, 0, none⟩ = some (.int .i64 13) := (blk_cell SN.out 0).trans rfl
  have sn1 : X11.drew.cell? ⟨snb, 1, none⟩ = some (.int .i64 24) := (blk_cell SN.out 1).trans rfl
  have sr0 : X11.drew.cell? ⟨srb, 0, none⟩ = some (.int .i64 2) := (blk_cell SR.out 0).trans rfl
  have sr1 : X11.drew.cell? ⟨srb, 1, none⟩ = some (.int .i64 3) := (blk_cell SR.out 1).trans rfl
  have HWd : Aside0 (Kd.C (Kd.int .i64) X11.drew Aw 1 [0]) := ⟨Kd.C_drew HW.out⟩
  have HBd : Aside0 (Below w.heap.size w X11.drew) := ⟨below_drew1 HB.out⟩
  clear SA SB SN SR SZ M HW HB
  simp only [List.append_eq, List.cons_append, List.nil_append]
  refine wp_region_held_drew (S := fun w' : World => w'.cell? ⟨sab, 0, none⟩ = some (.int .i64 1) ∧ w'.cell? ⟨sab, 1, none⟩ = some (.int .i64 4) ∧ w'.cell? ⟨sab + 1, 0, none⟩ = some (.int .i64 3) ∧ w'.cell? ⟨sab + 1, 1, none⟩ = some (.int .i64 4) ∧ w'.cell? ⟨snb, 0, none⟩ = some (.int .i64 13) ∧ w'.cell? ⟨snb, 1, none⟩ = some (.int .i64 24) ∧ w'.cell? ⟨srb, 0, none⟩ = some (.int .i64 2) ∧ w'.cell? ⟨srb, 1, none⟩ = some (.int .i64 3)) (by as_aux_lemma => kernel_rfl) ⟨sa0, sa1, sb0, sb1, sn0, sn1, sr0, sr1⟩ (fun hHeld => ?_)
  clear sa0 sa1 sb0 sb1 sn0 sn1 sr0 sr1
  refine wpAnyH_start 103 (by as_aux_lemma => kernel_rfl) ?_
  refine wpAnyH_seg 0 59 44 hHeld (by simp only [List.drop_succ_cons, List.drop_zero, List.length_cons, List.length_nil]; decide) (by decide) (by as_aux_lemma => kernel_rfl) (M := awM) (by as_aux_lemma => kernel_rfl) (by as_aux_lemma => kernel_rfl) ?_
  simp only [List.drop_succ_cons, List.take_succ_cons, List.drop_zero, List.take_zero]
  still_step
  still_step
  still_step
  still_step
  still_step
  still_step
  still_step
  still_step
  still_step
  still_step
  still_step
  still_step
  still_step
  still_step
  still_step
  still_step
  still_step
  still_step
  still_step
  still_step
  still_step
  still_step
  still_step
  still_step
  still_step
  still_step
  still_step
  still_step
  still_step
  still_step
  still_step
  still_step
  still_step
  still_step
  still_step
  still_step
  still_step
  still_step
  still_step
  still_step
  still_step
  still_step
  still_step
  still_step
  still_step
  still_step
  still_step
  still_step
  still_step
  still_step
  still_step
  still_step
  still_step
  still_step
  still_step
  still_step
  still_step
  still_step
  still_step
  refine wpStill_nil ?_
  refine wpAnyH_load (i := 59) (v := .agg #[.int .i64 1, .int .i64 4]) (by decide) rfl (by as_aux_lemma => kernel_rfl) (by as_aux_lemma => kernel_rfl) (by as_aux_lemma => kernel_rfl) (fun _ _ _ h => h) (Or.inl ⟨by rfl, ?_⟩) hHeld ?_
  · intro w hSw
    obtain ⟨h0, h1, h2, h3, h4, h5, h6, h7⟩ := hSw
    go_simp
    try rfl
  simp only [Act.put, List.setIfInBounds_toArray, List.set_cons_zero, List.set_cons_succ]
  refine wpAnyH_one (i := 60) (by decide) rfl (by as_aux_lemma => kernel_rfl) (M := awM) (by as_aux_lemma => kernel_rfl) (by as_aux_lemma => kernel_rfl) (fun K hK => ?_)
  go_simp
  refine (span_calls _ _ _).mono ?_
  rintro e w' ⟨rfl, hc⟩
  obtain ⟨h0, h1, h2, h3, h4, h5, h6, h7⟩ := hHeld
  replace h0 := hc.cell h0 id; replace h1 := hc.cell h1 id; replace h2 := hc.cell h2 id; replace h3 := hc.cell h3 id; replace h4 := hc.cell h4 id; replace h5 := hc.cell h5 id; replace h6 := hc.cell h6 id; replace h7 := hc.cell h7 id
  have hbl := hc.below (fun _ _ x => x.elim) (Nat.le_refl _)
  replace HWd := Aside0.mk (Kd.C_below HWd.out hbl)
  replace HBd := Aside0.mk (HBd.out.trans (hbl.mono HBd.out.size))
  clear hc hbl
  refine hK.out _ _ ⟨h0, h1, h2, h3, h4, h5, h6, h7⟩ (fun hHeld => ?_)
  clear h0 h1 h2 h3 h4 h5 h6 h7
  clear hK K
  try simp only [Act.put, List.setIfInBounds_toArray, List.set_cons_zero, List.set_cons_succ]
  refine wpAnyH_seg 61 3 39 hHeld (by simp only [List.drop_succ_cons, List.drop_zero, List.length_cons, List.length_nil]; decide) (by decide) (by as_aux_lemma => kernel_rfl) (M := awM) (by as_aux_lemma => kernel_rfl) (by as_aux_lemma => kernel_rfl) ?_
  simp only [List.drop_succ_cons, List.take_succ_cons, List.drop_zero, List.take_zero]
  still_step
  still_step
  still_step
  refine wpStill_nil ?_
  refine wpAnyH_load (i := 64) (v := .agg #[.int .i64 3, .int .i64 4]) (by decide) rfl (by as_aux_lemma => kernel_rfl) (by as_aux_lemma => kernel_rfl) (by as_aux_lemma => kernel_rfl) (fun _ _ _ h => h) (Or.inl ⟨by rfl, ?_⟩) hHeld ?_
  · intro w hSw
    obtain ⟨h0, h1, h2, h3, h4, h5, h6, h7⟩ := hSw
    go_simp
    try rfl
  simp only [Act.put, List.setIfInBounds_toArray, List.set_cons_zero, List.set_cons_succ]
  refine wpAnyH_one (i := 65) (by decide) rfl (by as_aux_lemma => kernel_rfl) (M := awM) (by as_aux_lemma => kernel_rfl) (by as_aux_lemma => kernel_rfl) (fun K hK => ?_)
  go_simp
  refine (span_calls _ _ _).mono ?_
  rintro e w' ⟨rfl, hc⟩
  obtain ⟨h0, h1, h2, h3, h4, h5, h6, h7⟩ := hHeld
  replace h0 := hc.cell h0 id; replace h1 := hc.cell h1 id; replace h2 := hc.cell h2 id; replace h3 := hc.cell h3 id; replace h4 := hc.cell h4 id; replace h5 := hc.cell h5 id; replace h6 := hc.cell h6 id; replace h7 := hc.cell h7 id
  have hbl := hc.below (fun _ _ x => x.elim) (Nat.le_refl _)
  replace HWd := Aside0.mk (Kd.C_below HWd.out hbl)
  replace HBd := Aside0.mk (HBd.out.trans (hbl.mono HBd.out.size))
  clear hc hbl
  refine hK.out _ _ ⟨h0, h1, h2, h3, h4, h5, h6, h7⟩ (fun hHeld => ?_)
  clear h0 h1 h2 h3 h4 h5 h6 h7
  clear hK K
  try simp only [Act.put, List.setIfInBounds_toArray, List.set_cons_zero, List.set_cons_succ]
  refine wpAnyH_seg 66 3 34 hHeld (by simp only [List.drop_succ_cons, List.drop_zero, List.length_cons, List.length_nil]; decide) (by decide) (by as_aux_lemma => kernel_rfl) (M := awM) (by as_aux_lemma => kernel_rfl) (by as_aux_lemma => kernel_rfl) ?_
  simp only [List.drop_succ_cons, List.take_succ_cons, List.drop_zero, List.take_zero]
  still_step
  still_step
  still_step
  refine wpStill_nil ?_
  refine wpAnyH_load (i := 69) (v := .agg #[.int .i64 13, .int .i64 24]) (by decide) rfl (by as_aux_lemma => kernel_rfl) (by as_aux_lemma => kernel_rfl) (by as_aux_lemma => kernel_rfl) (fun _ _ _ h => h) (Or.inl ⟨by rfl, ?_⟩) hHeld ?_
  · intro w hSw
    obtain ⟨h0, h1, h2, h3, h4, h5, h6, h7⟩ := hSw
    go_simp
    try rfl
  simp only [Act.put, List.setIfInBounds_toArray, List.set_cons_zero, List.set_cons_succ]
  refine wpAnyH_one (i := 70) (by decide) rfl (by as_aux_lemma => kernel_rfl) (M := awM) (by as_aux_lemma => kernel_rfl) (by as_aux_lemma => kernel_rfl) (fun K hK => ?_)
  go_simp
  refine (span_calls _ _ _).mono ?_
  rintro e w' ⟨rfl, hc⟩
  obtain ⟨h0, h1, h2, h3, h4, h5, h6, h7⟩ := hHeld
  replace h0 := hc.cell h0 id; replace h1 := hc.cell h1 id; replace h2 := hc.cell h2 id; replace h3 := hc.cell h3 id; replace h4 := hc.cell h4 id; replace h5 := hc.cell h5 id; replace h6 := hc.cell h6 id; replace h7 := hc.cell h7 id
  have hbl := hc.below (fun _ _ x => x.elim) (Nat.le_refl _)
  replace HWd := Aside0.mk (Kd.C_below HWd.out hbl)
  replace HBd := Aside0.mk (HBd.out.trans (hbl.mono HBd.out.size))
  clear hc hbl
  refine hK.out _ _ ⟨h0, h1, h2, h3, h4, h5, h6, h7⟩ (fun hHeld => ?_)
  clear h0 h1 h2 h3 h4 h5 h6 h7
  clear hK K
  try simp only [Act.put, List.setIfInBounds_toArray, List.set_cons_zero, List.set_cons_succ]
  refine wpAnyH_seg 71 3 29 hHeld (by simp only [List.drop_succ_cons, List.drop_zero, List.length_cons, List.length_nil]; decide) (by decide) (by as_aux_lemma => kernel_rfl) (M := awM) (by as_aux_lemma => kernel_rfl) (by as_aux_lemma => kernel_rfl) ?_
  simp only [List.drop_succ_cons, List.take_succ_cons, List.drop_zero, List.take_zero]
  still_step
  still_step
  still_step
  refine wpStill_nil ?_
  refine wpAnyH_load (i := 74) (v := .agg #[.int .i64 2, .int .i64 3]) (by decide) rfl (by as_aux_lemma => kernel_rfl) (by as_aux_lemma => kernel_rfl) (by as_aux_lemma => kernel_rfl) (fun _ _ _ h => h) (Or.inl ⟨by rfl, ?_⟩) hHeld ?_
  · intro w hSw
    obtain ⟨h0, h1, h2, h3, h4, h5, h6, h7⟩ := hSw
    go_simp
    try rfl
  simp only [Act.put, List.setIfInBounds_toArray, List.set_cons_zero, List.set_cons_succ]
  refine wpAnyH_one (i := 75) (by decide) rfl (by as_aux_lemma => kernel_rfl) (M := awM) (by as_aux_lemma => kernel_rfl) (by as_aux_lemma => kernel_rfl) (fun K hK => ?_)
  go_simp
  refine (span_calls _ _ _).mono ?_
  rintro e w' ⟨rfl, hc⟩
  obtain ⟨h0, h1, h2, h3, h4, h5, h6, h7⟩ := hHeld
  replace h0 := hc.cell h0 id; replace h1 := hc.cell h1 id; replace h2 := hc.cell h2 id; replace h3 := hc.cell h3 id; replace h4 := hc.cell h4 id; replace h5 := hc.cell h5 id; replace h6 := hc.cell h6 id; replace h7 := hc.cell h7 id
  have hbl := hc.below (fun _ _ x => x.elim) (Nat.le_refl _)
  replace HWd := Aside0.mk (Kd.C_below HWd.out hbl)
  replace HBd := Aside0.mk (HBd.out.trans (hbl.mono HBd.out.size))
  clear hc hbl
  refine hK.out _ _ ⟨h0, h1, h2, h3, h4, h5, h6, h7⟩ (fun hHeld => ?_)
  clear h0 h1 h2 h3 h4 h5 h6 h7
  clear hK K
  try simp only [Act.put, List.setIfInBounds_toArray, List.set_cons_zero, List.set_cons_succ]
  refine wpAnyH_seg 76 15 12 hHeld (by simp only [List.drop_succ_cons, List.drop_zero, List.length_cons, List.length_nil]; decide) (by decide) (by as_aux_lemma => kernel_rfl) (M := awM) (by as_aux_lemma => kernel_rfl) (by as_aux_lemma => kernel_rfl) ?_
  simp only [List.drop_succ_cons, List.take_succ_cons, List.drop_zero, List.take_zero]
  still_step
  still_step
  still_step
  still_step
  still_step
  still_step
  still_step
  still_step
  still_step
  still_step
  still_step
  still_step
  still_step
  still_step
  still_step
  refine wpStill_nil ?_
  refine wpAnyH_load (i := 91) (v := .slice Aw 1 cw) (by decide) rfl (by as_aux_lemma => kernel_rfl) (by as_aux_lemma => kernel_rfl) (by as_aux_lemma => kernel_rfl) (fun _ _ _ h => h) (Or.inl ⟨by rfl, ?_⟩) hHeld ?_
  · intro w hSw
    clear hSw
    go_simp
    try rfl
  simp only [Act.put, List.setIfInBounds_toArray, List.set_cons_zero, List.set_cons_succ]
  refine wpAnyH_one (i := 92) (by decide) rfl (by as_aux_lemma => kernel_rfl) (M := awM) (by as_aux_lemma => kernel_rfl) (by as_aux_lemma => kernel_rfl) (fun K hK => ?_)
  go_simp
  obtain ⟨h0, h1, h2, h3, h4, h5, h6, h7⟩ := hHeld
  replace h0 := Lib.cell?_alloc_some (.cells #[.int .i64 0] 3) h0; replace h1 := Lib.cell?_alloc_some (.cells #[.int .i64 0] 3) h1; replace h2 := Lib.cell?_alloc_some (.cells #[.int .i64 0] 3) h2; replace h3 := Lib.cell?_alloc_some (.cells #[.int .i64 0] 3) h3; replace h4 := Lib.cell?_alloc_some (.cells #[.int .i64 0] 3) h4; replace h5 := Lib.cell?_alloc_some (.cells #[.int .i64 0] 3) h5; replace h6 := Lib.cell?_alloc_some (.cells #[.int .i64 0] 3) h6; replace h7 := Lib.cell?_alloc_some (.cells #[.int .i64 0] 3) h7
  replace HBd := Aside0.mk (below_alloc HBd.out (.cells #[.int .i64 0] 3))
  refine hK.out _ _ ⟨h0, h1, h2, h3, h4, h5, h6, h7⟩ (fun hHeld => ?_)
  clear h0 h1 h2 h3 h4 h5 h6 h7
  clear hK K
  try simp only [Act.put, List.setIfInBounds_toArray, List.set_cons_zero, List.set_cons_succ]
  refine wpAnyH_one (i := 93) (by decide) rfl (by as_aux_lemma => kernel_rfl) (M := awM) (by as_aux_lemma => kernel_rfl) (by as_aux_lemma => kernel_rfl) (fun K hK => ?_)
  go_simp
  refine (awInts HWd.out).mono ?_
  rintro e w' ⟨rfl, hc⟩
  obtain ⟨h0, h1, h2, h3, h4, h5, h6, h7⟩ := hHeld
  replace h0 := hc.cell h0 id; replace h1 := hc.cell h1 id; replace h2 := hc.cell h2 id; replace h3 := hc.cell h3 id; replace h4 := hc.cell h4 id; replace h5 := hc.cell h5 id; replace h6 := hc.cell h6 id; replace h7 := hc.cell h7 id
  have hbl := hc.below (fun _ _ x => x.elim) (Nat.le_refl _)
  replace HBd := Aside0.mk (HBd.out.trans (hbl.mono HBd.out.size))
  clear hc hbl
  refine hK.out _ _ ⟨h0, h1, h2, h3, h4, h5, h6, h7⟩ (fun hHeld => ?_)
  clear h0 h1 h2 h3 h4 h5 h6 h7
  clear hK K
  try simp only [Act.put, List.setIfInBounds_toArray, List.set_cons_zero, List.set_cons_succ]
  refine wpAnyH_seg 94 2 7 hHeld (by simp only [List.drop_succ_cons, List.drop_zero, List.length_cons, List.length_nil]; decide) (by decide) (by as_aux_lemma => kernel_rfl) (M := awM) (by as_aux_lemma => kernel_rfl) (by as_aux_lemma => kernel_rfl) ?_
  simp only [List.drop_succ_cons, List.take_succ_cons, List.drop_zero, List.take_zero]
  still_step
  still_step
  refine wpStill_nil ?_
  refine wpAnyH_one (i := 96) (by decide) rfl (by as_aux_lemma => kernel_rfl) (M := awM) (by as_aux_lemma => kernel_rfl) (by as_aux_lemma => kernel_rfl) (fun K hK => ?_)
  go_simp
  refine (Name_calls _ _ (by decide)).mono ?_
  (first | rw [ex_name] | rw [ex_name'])
  rintro e w' ⟨rfl, hbl⟩
  have hc := Chg.of_below hbl
  obtain ⟨h0, h1, h2, h3, h4, h5, h6, h7⟩ := hHeld
  replace h0 := hc.cell h0 (fun hx => Nat.lt_irrefl _ (Nat.lt_of_lt_of_le (World.block_lt_of_cell? _ _ h0) hx)); replace h1 := hc.cell h1 (fun hx => Nat.lt_irrefl _ (Nat.lt_of_lt_of_le (World.block_lt_of_cell? _ _ h1) hx)); replace h2 := hc.cell h2 (fun hx => Nat.lt_irrefl _ (Nat.lt_of_lt_of_le (World.block_lt_of_cell? _ _ h2) hx)); replace h3 := hc.cell h3 (fun hx => Nat.lt_irrefl _ (Nat.lt_of_lt_of_le (World.block_lt_of_cell? _ _ h3) hx)); replace h4 := hc.cell h4 (fun hx => Nat.lt_irrefl _ (Nat.lt_of_lt_of_le (World.block_lt_of_cell? _ _ h4) hx)); replace h5 := hc.cell h5 (fun hx => Nat.lt_irrefl _ (Nat.lt_of_lt_of_le (World.block_lt_of_cell? _ _ h5) hx)); replace h6 := hc.cell h6 (fun hx => Nat.lt_irrefl _ (Nat.lt_of_lt_of_le (World.block_lt_of_cell? _ _ h6) hx)); replace h7 := hc.cell h7 (fun hx => Nat.lt_irrefl _ (Nat.lt_of_lt_of_le (World.block_lt_of_cell? _ _ h7) hx))
  replace HBd := Aside0.mk (HBd.out.trans (hbl.mono HBd.out.size))
  clear hc hbl
  refine hK.out _ _ ⟨h0, h1, h2, h3, h4, h5, h6, h7⟩ (fun hHeld => ?_)
  clear h0 h1 h2 h3 h4 h5 h6 h7
  clear hK K
  try simp only [Act.put, List.setIfInBounds_toArray, List.set_cons_zero, List.set_cons_succ]
  refine wpAnyH_seg 97 2 4 hHeld (by simp only [List.drop_succ_cons, List.drop_zero, List.length_cons, List.length_nil]; decide) (by decide) (by as_aux_lemma => kernel_rfl) (M := awM) (by as_aux_lemma => kernel_rfl) (by as_aux_lemma => kernel_rfl) ?_
  simp only [List.drop_succ_cons, List.take_succ_cons, List.drop_zero, List.take_zero]
  still_step
  still_step
  refine wpStill_nil ?_
  refine wpAnyH_one (i := 99) (by decide) rfl (by as_aux_lemma => kernel_rfl) (M := awM) (by as_aux_lemma => kernel_rfl) (by as_aux_lemma => kernel_rfl) (fun K hK => ?_)
  go_simp
  refine (Name_calls _ _ (by decide)).mono ?_
  (first | rw [ex_name] | rw [ex_name'])
  rintro e w' ⟨rfl, hbl⟩
  have hc := Chg.of_below hbl
  obtain ⟨h0, h1, h2, h3, h4, h5, h6, h7⟩ := hHeld
  replace h0 := hc.cell h0 (fun hx => Nat.lt_irrefl _ (Nat.lt_of_lt_of_le (World.block_lt_of_cell? _ _ h0) hx)); replace h1 := hc.cell h1 (fun hx => Nat.lt_irrefl _ (Nat.lt_of_lt_of_le (World.block_lt_of_cell? _ _ h1) hx)); replace h2 := hc.cell h2 (fun hx => Nat.lt_irrefl _ (Nat.lt_of_lt_of_le (World.block_lt_of_cell? _ _ h2) hx)); replace h3 := hc.cell h3 (fun hx => Nat.lt_irrefl _ (Nat.lt_of_lt_of_le (World.block_lt_of_cell? _ _ h3) hx)); replace h4 := hc.cell h4 (fun hx => Nat.lt_irrefl _ (Nat.lt_of_lt_of_le (World.block_lt_of_cell? _ _ h4) hx)); replace h5 := hc.cell h5 (fun hx => Nat.lt_irrefl _ (Nat.lt_of_lt_of_le (World.block_lt_of_cell? _ _ h5) hx)); replace h6 := hc.cell h6 (fun hx => Nat.lt_irrefl _ (Nat.lt_of_lt_of_le (World.block_lt_of_cell? _ _ h6) hx)); replace h7 := hc.cell h7 (fun hx => Nat.lt_irrefl _ (Nat.lt_of_lt_of_le (World.block_lt_of_cell? _ _ h7) hx))
  replace HBd := Aside0.mk (HBd.out.trans (hbl.mono HBd.out.size))
  clear hc hbl
  refine hK.out _ _ ⟨h0, h1, h2, h3, h4, h5, h6, h7⟩ (fun hHeld => ?_)
  clear h0 h1 h2 h3 h4 h5 h6 h7
  clear hK K
  try simp only [Act.put, List.setIfInBounds_toArray, List.set_cons_zero, List.set_cons_succ]
  refine wpAnyH_seg 100 3 0 hHeld (by simp only [List.drop_succ_cons, List.drop_zero, List.length_cons, List.length_nil]; decide) (by decide) (by as_aux_lemma => kernel_rfl) (M := awM) (by as_aux_lemma => kernel_rfl) (by as_aux_lemma => kernel_rfl) ?_
  simp only [List.drop_succ_cons, List.take_succ_cons, List.drop_zero, List.take_zero]
  still_step
  still_step
  still_step
  refine wpStill_nil ?_
  refine wpAnyH_done (by as_aux_lemma => kernel_rfl) ?_ _
  go_wp2
  go_ret
  exact ⟨rfl, HBd.out⟩
end Go.Proofs.Ytemeapfnfegkiaa.D
end
section
/- Package disk: a sheet that came in as an argument, opened. -/
namespace Go.Proofs.Ytemeapfnfegkiaa.D
open Go Go.RowKit Go.ChangeShapes Go.WideShapes Go.Deep Go.Proofs.YtemeapfnfegkiaaK Go.Proofs.YtemeapfnfegkiaaW.PrintWords Go.Proofs.YtemeapfnfegkiaaW.PrintLast Go.Proofs.YtemeapfnfegkiaaW.PrintMore Go.Proofs.Ytemeapfnfegkiaa.PR
set_option linter.unusedVariables false
set_option linter.unusedSimpArgs false
set_option linter.unusedSectionVars false

section
variable {H : Type} {enc : TypeId × Value → H} {P : Program} {w : World} {base : Nat} {spare : Nat → Bool} {held : Bool}
theorem open_three {t : TypeId} {F : Array Field} {fuel : Nat} {cs : List Value} {x : DataW H × List MemPlace} (ht : P.underlying t = some (.struct F))
    (h0 : ∃ f, F[0]? = some f ∧ f.offset = 0 ∧ P.underlying f.type = some (.int .i64) ∧ P.cellsOf f.type = 1)
    (h1 : ∃ f, F[1]? = some f ∧ f.offset = 1 ∧ P.underlying f.type = some (.int .i64) ∧ P.cellsOf f.type = 1)
    (h2 : ∃ f, F[2]? = some f ∧ f.offset = 2 ∧ P.underlying f.type = some .bool ∧ P.cellsOf f.type = 1)
    (hc : P.cellsOf t = 3) (h : DataW.trod enc P w base spare held fuel t cs = some x) :
    ∃ a b c, cs = [.int .i64 a, .int .i64 b, .bool c] ∧ (Lit.int .i64 a).wf = true ∧ (Lit.int .i64 b).wf = true := by
  obtain ⟨xs, n, rfl, hx, hl, hlen, hf⟩ := DataW.trod_struct ht h
  rw [hc] at hl
  match cs, hl with
  | [v0, v1, v2], _ =>
    obtain ⟨g0, e0, o0, u0, c0⟩ := h0
    obtain ⟨g1, e1, o1, u1, c1⟩ := h1
    obtain ⟨g2, e2, o2, u2, c2⟩ := h2
    have k0 := hf 0 g0 e0
    have k1 := hf 1 g1 e1
    have k2 := hf 2 g2 e2
    have l0 : 0 < F.size := (Array.getElem?_eq_some_iff.1 e0).1
    have l1 : 1 < F.size := (Array.getElem?_eq_some_iff.1 e1).1
    have l2 : 2 < F.size := (Array.getElem?_eq_some_iff.1 e2).1
    rw [o0, c0, List.getElem?_eq_getElem (by omega)] at k0
    rw [o1, c1, List.getElem?_eq_getElem (by omega)] at k1
    rw [o2, c2, List.getElem?_eq_getElem (by omega)] at k2
    obtain ⟨a, ha, _, wa⟩ := DataW.trod_int u0 k0
    obtain ⟨b, hb, _, wb⟩ := DataW.trod_int u1 k1
    obtain ⟨c, hc, _⟩ := DataW.trod_bool u2 k2
    simp only [List.drop_zero, List.take_succ_cons, List.take_zero, List.drop_succ_cons] at ha hb hc
    cases ha; cases hb; cases hc
    exact ⟨a, b, c, rfl, wa, wb⟩

theorem open_row3 {α : Type} {mk : Int → Int → Bool → α} {t e : TypeId} {F : Array Field} {fuel : Nat} {cs : List Value} {x : DataW H × List MemPlace} {K : World → α → List Value → Prop}
    (hK : ∀ w a b c, K w (mk a b c) [.int .i64 a, .int .i64 b, .bool c]) {g0 g1 : α → Int} (hg0 : ∀ a b c, g0 (mk a b c) = a) (hg1 : ∀ a b c, g1 (mk a b c) = b)
    (ht : P.underlying t = some (.slice e)) (he : P.underlying e = some (.struct F))
    (h0 : ∃ f, F[0]? = some f ∧ f.offset = 0 ∧ P.underlying f.type = some (.int .i64) ∧ P.cellsOf f.type = 1)
    (h1 : ∃ f, F[1]? = some f ∧ f.offset = 1 ∧ P.underlying f.type = some (.int .i64) ∧ P.cellsOf f.type = 1)
    (h2 : ∃ f, F[2]? = some f ∧ f.offset = 2 ∧ P.underlying f.type = some .bool ∧ P.cellsOf f.type = 1)
    (hc : P.cellsOf e = 3) (h : DataW.trod enc P w base spare held fuel t cs = some x) :
    ∃ (A : Option Addr) (cap : Nat) (l : List α), cs = [.slice A l.length cap] ∧ l.length ≤ cap ∧ ReadsRow (K w) 3 w A l.length l ∧ ∀ p ∈ l, (Lit.int .i64 (g0 p)).wf = true ∧ (Lit.int .i64 (g1 p)).wf = true := by
  rcases open_slice ht h with ⟨rfl, rfl⟩ | ⟨a, len, cap, m, n, D, Pl, rfl, hb, hl, hm, hmm, hx, hi⟩
  · exact ⟨none, 0, [], rfl, Nat.le_refl _, ⟨rfl, Nat.zero_le _, fun h => absurd h (Nat.lt_irrefl 0)⟩, fun p hp => by simp at hp⟩
  · have hml : len ≤ m := by rw [hmm]; split <;> omega
    have hh : ∀ i, ∃ p : α, i < len → (∃ c, c.length = 3 ∧ K w p c ∧ ∀ j u, c[j]? = some u → w.cell? (a.add (i * 3 + j)) = some u) ∧ (Lit.int .i64 (g0 p)).wf = true ∧ (Lit.int .i64 (g1 p)).wf = true := by
      intro i
      by_cases hil : i < len
      · obtain ⟨cs', hcc, htt⟩ := hi i (by omega)
        rw [hc] at hcc
        obtain ⟨_, hcl, hat⟩ := World.cells?_some hcc
        obtain ⟨p, q, r, rfl, w1, w2⟩ := open_three he h0 h1 h2 hc htt
        refine ⟨mk p q r, fun _ => ⟨⟨_, rfl, hK w p q r, fun j u hu => ?_⟩, by rw [hg0]; exact w1, by rw [hg1]; exact w2⟩⟩
        have hj : j < 3 := (List.getElem?_eq_some_iff.1 hu).1
        have := hat j hj
        rw [hu] at this
        rw [← this, Go.Deep.add_add]
      · exact ⟨mk 0 0 false, fun h => absurd h hil⟩
    let pick : Nat → α := fun i => (hh i).choose
    have hpick : ∀ i, i < len → (∃ c, c.length = 3 ∧ K w (pick i) c ∧ ∀ j u, c[j]? = some u → w.cell? (a.add (i * 3 + j)) = some u) ∧ (Lit.int .i64 (g0 (pick i))).wf = true ∧ (Lit.int .i64 (g1 (pick i))).wf = true := fun i => (hh i).choose_spec
    have hlen : ((List.range len).map pick).length = len := by simp
    refine ⟨some a, cap, (List.range len).map pick, by rw [hlen], by rw [hlen]; exact hl, ⟨rfl, by rw [hlen]; unfold maxLen at hm; omega, fun _ => ⟨a, rfl, fun j p hp => ?_⟩⟩, fun p hp => ?_⟩
    · have hj : j < len := by have := (List.getElem?_eq_some_iff.1 hp).1; simpa using this
      have : p = pick j := by
        have h := (List.getElem?_eq_some_iff.1 hp).2
        rw [← h]; simp
      subst this
      obtain ⟨c, h1, h2, h3⟩ := (hpick j hj).1
      exact ⟨c, h1, h2, h3⟩
    · obtain ⟨i, hi, rfl⟩ := List.mem_map.1 hp
      exact (hpick i (List.mem_range.1 hi)).2
end

structure Dat.Wf (D : Dat) : Prop where
  rad : (Lit.int .i64 D.rad).wf = true
  lo : (Lit.int .i64 D.lo).wf = true
  hi : (Lit.int .i64 D.hi).wf = true
  spots : ∀ p ∈ D.spots, (Lit.int .i64 p.f0).wf = true ∧ (Lit.int .i64 p.f1).wf = true
  told : ∀ p ∈ D.told, (Lit.int .i64 p.f0).wf = true ∧ (Lit.int .i64 p.f1).wf = true

section
variable {H : Type} {enc : TypeId × Value → H} {w : World} {base : Nat} {spare : Nat → Bool} {held : Bool}
set_option maxRecDepth 100000 in
theorem open_sheet {r : Reach} {b0 : Nat} {v : Value} {d : DataW H} {p : List MemPlace} (hv : Value.okWide Try.prog w r b0 27 v) (h : DataW.Trod enc Try.prog w base spare held 27 v d p) :
    ∃ (D : Dat) (A4 : Option Addr) (c4 : Nat) (A5 : Option Addr) (c5 : Nat), v = .agg #[.string D.nm, .int .i64 D.rad, .int .i64 D.lo, .int .i64 D.hi, .slice A4 D.spots.length c4, .slice A5 D.told.length c5] ∧ Arg w D A4 c4 A5 c5 ∧ D.Wf := by
  have hC : Try.prog.cellsOf 27 = 6 := by kernel_rfl
  have hS : Try.prog.cellsOf 23 = 2 := by kernel_rfl
  have hI : Try.prog.cellsOf 3 = 1 := by kernel_rfl
  have hN : Try.prog.cellsOf 9 = 1 := by kernel_rfl
  have h4 : Try.prog.cellsOf 24 = 1 := by kernel_rfl
  have h5 : Try.prog.cellsOf 25 = 1 := by kernel_rfl
  have hs4 : Try.prog.cellsOf 80 = 3 := by kernel_rfl
  have hs5 : Try.prog.cellsOf 52 = 3 := by kernel_rfl
  have hB : Try.prog.cellsOf 4 = 1 := by kernel_rfl
  have e27 := Try.underlying27
  have e23 := Try.underlying23
  have e3 := Try.underlying3
  have e4 := Try.underlying4
  have e9 := Try.underlying9
  have e24 := Try.underlying24
  have e25 := Try.underlying25
  have e80 := Try.underlying80
  have e52 := Try.underlying52
  generalize Try.prog = P at hv h hC hS hI hN h4 h5 hs4 hs5 hB e27 e23 e3 e4 e9 e24 e25 e80 e52 ⊢
  obtain ⟨cs, rfl, hsz⟩ := okWide_struct e27 hv
  obtain ⟨l⟩ := cs
  rw [hC] at hsz
  match l, hsz with
  | [c0, c1, c2, c3, c4, c5], _ =>
    obtain ⟨fuel, hf⟩ := h
    obtain ⟨xs, n, _, hx, _, hlen, hg⟩ := DataW.trod_struct e27 hf
    have g0 := hg 0 _ rfl
    have g1 := hg 1 _ rfl
    have g2 := hg 2 _ rfl
    have g3 := hg 3 _ rfl
    have g4 := hg 4 _ rfl
    have hl5 : xs.length = 5 := hlen
    rw [List.getElem?_eq_getElem (by omega)] at g0 g1 g2 g3 g4
    simp only [Value.cells, List.getElem_toArray, List.getElem_cons_zero, List.getElem_cons_succ, hN, hI, hS, h4, h5, List.drop_zero, List.drop_succ_cons, List.take_succ_cons, List.take_zero] at g0 g1 g2 g3 g4
    obtain ⟨s, hs, _, ws⟩ := DataW.trod_string e9 g0
    obtain ⟨rad, hr, _, wr⟩ := DataW.trod_int e3 g1
    obtain ⟨ys, m, _, _, _, hyl, hy⟩ := DataW.trod_struct e23 g2
    have y0 := hy 0 _ rfl
    have y1 := hy 1 _ rfl
    have hy2 : ys.length = 2 := hyl
    rw [List.getElem?_eq_getElem (by omega)] at y0 y1
    simp only [hI, List.getElem_toArray, List.getElem_cons_zero, List.getElem_cons_succ, List.drop_zero, List.drop_succ_cons, List.take_succ_cons, List.take_zero] at y0 y1
    obtain ⟨lo, hlo, _, wlo⟩ := DataW.trod_int e3 y0
    obtain ⟨hi, hhi, _, whi⟩ := DataW.trod_int e3 y1
    obtain ⟨A4, k4, l4, hA4, hk4, hR4, w4⟩ := open_row3 (K := k80.K) (mk := S80.mk) (g0 := S80.f0) (g1 := S80.f1) (fun w a b c => k80_mk w ⟨a, b, c⟩) (fun _ _ _ => rfl) (fun _ _ _ => rfl) e24 e80 ⟨_, rfl, rfl, e3, hI⟩ ⟨_, rfl, rfl, e3, hI⟩ ⟨_, rfl, rfl, e4, hB⟩ hs4 g3
    obtain ⟨A5, k5, l5, hA5, hk5, hR5, w5⟩ := open_row3 (K := k52.K) (mk := S52.mk) (g0 := S52.f0) (g1 := S52.f1) (fun w a b c => k52_mk w ⟨a, b, c⟩) (fun _ _ _ => rfl) (fun _ _ _ => rfl) e25 e52 ⟨_, rfl, rfl, e3, hI⟩ ⟨_, rfl, rfl, e3, hI⟩ ⟨_, rfl, rfl, e4, hB⟩ hs5 g4
    cases hs; cases hr; cases hlo; cases hhi; cases hA4; cases hA5
    exact ⟨⟨s, rad, lo, hi, l4, l5⟩, A4, k4, A5, k5, rfl, ⟨ws, hR4, hk4, hR5, hk5⟩, ⟨wr, wlo, whi, w4, w5⟩⟩
end
end Go.Proofs.Ytemeapfnfegkiaa.D
end
section
/- Package disk: the groups of a view are the components of the near dots. -/
namespace Go.Proofs.Ytemeapfnfegkiaa.D
open Go Go.RowKit Go.Proofs.YtemeapfnfegkiaaK Go.Proofs.YtemeapfnfegkiaaW.PrintWords Go.Proofs.YtemeapfnfegkiaaW.PrintLast Go.Proofs.YtemeapfnfegkiaaW.PrintMore Go.Proofs.Ytemeapfnfegkiaa.PR
set_option linter.unusedVariables false
set_option linter.unusedSimpArgs false

inductive Path (E : Nat → Nat → Prop) (a : Nat) : Nat → Prop
  | here : Path E a a
  | step {b c : Nat} : Path E a b → E b c → Path E a c
theorem Path.trans {E : Nat → Nat → Prop} {a b c : Nat} (h : Path E a b) (h' : Path E b c) : Path E a c := by
  induction h' with
  | here => exact h
  | step _ e ih => exact ih.step e
theorem Path.one {E : Nat → Nat → Prop} {a b : Nat} (h : E a b) : Path E a b := Path.here.step h
theorem Path.symm {E : Nat → Nat → Prop} (hE : ∀ a b, E a b → E b a) {a b : Nat} (h : Path E a b) : Path E b a := by
  induction h with
  | here => exact Path.here
  | step _ e ih => exact (Path.one (hE _ _ e)).trans ih

structure Joined (E : Nat → Nat → Prop) (n : Nat) (m : Int) (d : Nat) (g g' : Nat → Int) : Prop where
  val : ∀ k, g' k = g k ∨ (g k = 0 ∧ g' k = m ∧ Path E d k)
  at_ : g' d ≠ 0
  shut : ∀ x, g x = 0 → g' x ≠ 0 → ∀ k, E x k → g' k ≠ 0
theorem Joined.mono {E : Nat → Nat → Prop} {n : Nat} {m : Int} {d : Nat} {g g' : Nat → Int} (hm : m ≠ 0) (h : Joined E n m d g g') (k : Nat) (hk : g k ≠ 0) : g' k = g k := by
  rcases h.val k with h | h
  · exact h
  · exact absurd h.1 hk

section
variable {adj : Nat → Nat → Bool} {n : Nat} {m : Int} {E : Nat → Nat → Prop} {ok : Nat → Prop}
theorem joinF_spec (hm : m ≠ 0) (hE : ∀ a b, ok a → (E a b ↔ (b < n ∧ adj a b = true))) (hok : ∀ a b, ok a → E a b → ok b) : ∀ (f : Nat) (g : Nat → Int) (d : Nat), ok d → d < n → g d = 0 → zeros n g ≤ f → Joined E n m d g (joinF adj n m f g d)
  | 0, g, d, _, hd, hg, hz => by have := zeros_pos hd hg; omega
  | f + 1, g, d, hd0, hd, hg, hz => by
    have key : ∀ k, k ≤ n → (∀ j, joinTo adj n m f d (upd g d m) k j = upd g d m j ∨ (upd g d m j = 0 ∧ joinTo adj n m f d (upd g d m) k j = m ∧ Path E d j)) ∧
        (∀ x, upd g d m x = 0 → joinTo adj n m f d (upd g d m) k x ≠ 0 → ∀ j, E x j → joinTo adj n m f d (upd g d m) k j ≠ 0) ∧
        (∀ j, j < k → E d j → joinTo adj n m f d (upd g d m) k j ≠ 0) := by
      intro k
      induction k with
      | zero =>
        intro _
        refine ⟨fun j => .inl rfl, fun x hx hx' => absurd hx hx', fun j hj => absurd hj (by omega)⟩
      | succ k ih =>
        intro hk
        obtain ⟨a1, a2, a3⟩ := ih (by omega)
        rw [joinTo_succ]
        generalize hh : joinTo adj n m f d (upd g d m) k = h at a1 a2 a3
        have hz' : zeros n h ≤ f := by
          have h1 : zeros n h ≤ zeros n (upd g d m) := zeros_le (fun j _ hj => (a1 j).elim (fun e => e.symm.trans hj) (fun e => e.1))
          have h2 := zeros_upd hd hg hm
          omega
        split
        · rename_i hc
          simp only [Bool.and_eq_true, beq_iff_eq] at hc
          have hEk : E d k := (hE d k hd0).2 ⟨by omega, hc.1⟩
          have J := joinF_spec hm hE hok f h k (hok d k hd0 hEk) (by omega) hc.2 hz'
          refine ⟨fun j => ?_, fun x hx hx' j hj => ?_, fun j hj hEj => ?_⟩
          · rcases J.val j with e | e
            · rw [e]; exact a1 j
            · right
              refine ⟨?_, e.2.1, (Path.one hEk).trans e.2.2⟩
              rcases a1 j with e' | e'
              · rw [← e']; exact e.1
              · exact e'.1
          · by_cases hx2 : h x = 0
            · exact J.shut x hx2 hx' j hj
            · have := a2 x hx hx2 j hj
              rw [J.mono hm j this]; exact this
          · by_cases e : j = k
            · subst e; exact J.at_
            · have := a3 j (by omega) hEj
              rw [J.mono hm j this]; exact this
        · rename_i hc
          refine ⟨a1, a2, fun j hj hEj => ?_⟩
          by_cases e : j = k
          · subst e
            intro h0
            apply hc
            simp only [Bool.and_eq_true, beq_iff_eq]
            exact ⟨((hE d j hd0).1 hEj).2, h0⟩
          · exact a3 j (by omega) hEj
    obtain ⟨a1, a2, a3⟩ := key n (Nat.le_refl _)
    have e : joinF adj n m (f + 1) g d = joinTo adj n m f d (upd g d m) n := rfl
    rw [e]
    generalize joinTo adj n m f d (upd g d m) n = h at a1 a2 a3
    have hdm : h d = m := by
      rcases a1 d with e | e
      · rw [e]; simp [upd]
      · exact e.2.1
    refine ⟨fun k => ?_, by rw [hdm]; exact hm, fun x hx hx' k hk => ?_⟩
    · by_cases e : k = d
      · subst e
        exact .inr ⟨hg, hdm, Path.here⟩
      · have eu : upd g d m k = g k := by simp [upd, e]
        rcases a1 k with e | e
        · exact .inl (e.trans eu)
        · exact .inr ⟨eu.symm.trans e.1, e.2⟩
    · by_cases e : x = d
      · subst e
        exact a3 k ((hE x k hd0).1 hk).1 hk
      · have eu : upd g d m x = 0 := by simp [upd, e, hx]
        exact a2 x eu hx' k hk
end

def Nb (near : Nat → Nat → Bool) (set n : Nat) (a b : Nat) : Prop := a < n ∧ b < n ∧ set.testBit a = true ∧ set.testBit b = true ∧ near a b = true
def leader (g : Nat → Int) (j : Nat) : Bool := decide (0 < g j) && (List.range j).all fun k => g k != g j
theorem leader_iff {g : Nat → Int} {j : Nat} : leader g j = true ↔ 0 < g j ∧ ∀ k, k < j → g k ≠ g j := by
  simp [leader]

structure Grouped (near : Nat → Nat → Bool) (set n i : Nat) (many : Int) (g : Nat → Int) : Prop where
  low : ∀ x, 0 ≤ g x ∧ g x ≤ many
  in_ : ∀ x, g x ≠ 0 → x < n ∧ set.testBit x = true
  done : ∀ j, j < i → set.testBit j = true → g j ≠ 0
  shut : ∀ x y, Nb near set n x y → g x ≠ 0 → g y = g x
  join : ∀ x y, g x ≠ 0 → g x = g y → Path (Nb near set n) x y
  lead : (((List.range n).countP (leader g) : Nat) : Int) = many
  has : ∀ v, 1 ≤ v → v ≤ many → ∃ x, x < n ∧ g x = v

theorem countP_one {n i : Nat} (hi : i < n) {p q : Nat → Bool} (h : ∀ j, j < n → j ≠ i → p j = q j) (hp : p i = false) (hq : q i = true) : (List.range n).countP q = (List.range n).countP p + 1 := by
  induction n with
  | zero => omega
  | succ n ih =>
    simp only [List.range_succ, List.countP_append, List.countP_singleton]
    by_cases e : i = n
    · subst e
      have : (List.range i).countP q = (List.range i).countP p := by
        refine List.countP_congr fun j hj => ?_
        have := List.mem_range.1 hj
        rw [h j (by omega) (by omega)]
      rw [this, hp, hq]; simp
    · have := ih (by omega) (fun j hj hji => h j (by omega) hji)
      rw [this, h n (by omega) (fun x => e x.symm)]
      omega

theorem grouped_start (near : Nat → Nat → Bool) (set n : Nat) : Grouped near set n 0 0 (fun _ => 0) where
  low := fun _ => ⟨Int.le_refl _, Int.le_refl _⟩
  in_ := fun x h => absurd rfl h
  done := fun j hj => absurd hj (by omega)
  shut := fun x y _ h => absurd rfl h
  join := fun x y h => absurd rfl h
  lead := by
    have : (List.range n).countP (leader fun _ => 0) = 0 := by
      rw [List.countP_eq_zero]
      intro j _; simp [leader]
    rw [this]; rfl
  has := fun v h1 h2 => by omega

theorem grouped_skip {near : Nat → Nat → Bool} {set n i : Nat} {many : Int} {g : Nat → Int} (h : Grouped near set n i many g) (hi : set.testBit i = true → g i ≠ 0) : Grouped near set n (i + 1) many g :=
  ⟨h.low, h.in_, fun j hj hb => if e : j = i then by subst e; exact hi hb else h.done j (by omega) hb, h.shut, h.join, h.lead, h.has⟩

theorem grouped_join {near : Nat → Nat → Bool} (hs : ∀ a b, near a b = near b a) {set n i : Nat} {many : Int} {g g' : Nat → Int} (h : Grouped near set n i many g) (hi : i < n) (hb : set.testBit i = true) (h0 : g i = 0)
    (J : Joined (Nb near set n) n (many + 1) i g g') : Grouped near set n (i + 1) (many + 1) g' := by
  have hm0 : 0 ≤ many := by have := h.low 0; omega
  have hm : many + 1 ≠ 0 := by omega
  have hsym : ∀ a b, Nb near set n a b → Nb near set n b a := fun a b x => ⟨x.2.1, x.1, x.2.2.2.1, x.2.2.1, by rw [hs]; exact x.2.2.2.2⟩
  have hpath : ∀ x, Path (Nb near set n) i x → x < n ∧ set.testBit x = true := by
    intro x hx
    cases hx with
    | here => exact ⟨hi, hb⟩
    | step _ e => exact ⟨e.2.1, e.2.2.2.1⟩
  have hge : ∀ x, g x = 0 → g' x ≠ 0 → i ≤ x := by
    intro x hx hx'
    rcases Nat.lt_or_ge x i with hlt | hge
    · rcases J.val x with e | e
      · exact absurd (e.trans hx) hx'
      · exact absurd hx (h.done x hlt (hpath x e.2.2).2)
    · exact hge
  have hi' : g' i = many + 1 := by
    rcases J.val i with e | e
    · exact absurd (e.trans h0) J.at_
    · exact e.2.1
  refine ⟨fun x => ?_, fun x hx => ?_, fun j hj hbj => ?_, fun x y hxy hx => ?_, fun x y hx hxy => ?_, ?_, fun v h1 h2 => ?_⟩
  · have := h.low x
    rcases J.val x with e | e
    · omega
    · omega
  · rcases J.val x with e | e
    · rw [e] at hx; exact h.in_ x hx
    · exact hpath x e.2.2
  · by_cases e : j = i
    · subst e; exact J.at_
    · have := h.done j (by omega) hbj
      rw [J.mono hm j this]; exact this
  · by_cases hx0 : g x = 0
    · have hy' := J.shut x hx0 hx y hxy
      have hx' : g' x = many + 1 := by
        rcases J.val x with e | e
        · exact absurd (e.trans hx0) hx
        · exact e.2.1
      rcases J.val y with e | e
      · have hy0 : g y ≠ 0 := by rw [← e]; exact hy'
        have := h.shut y x (hsym _ _ hxy) hy0
        exact absurd (this.symm.trans hx0) hy0
      · rw [hx', e.2.1]
    · have hy := h.shut x y hxy hx0
      rw [J.mono hm x hx0, J.mono hm y (by rw [hy]; exact hx0), hy]
  · rcases J.val x with e | e
    · have hx0 : g x ≠ 0 := by rw [← e]; exact hx
      rcases J.val y with e' | e'
      · exact h.join x y hx0 (by rw [← e, ← e']; exact hxy)
      · have := h.low x
        rw [e, e'.2.1] at hxy; omega
    · rcases J.val y with e' | e'
      · have := h.low y
        rw [e', e.2.1] at hxy; omega
      · exact (e.2.2.symm hsym).trans e'.2.2
  · have key : (List.range n).countP (leader g') = (List.range n).countP (leader g) + 1 := by
      refine countP_one hi (fun j hj hji => ?_) ?_ ?_
      · rw [Bool.eq_iff_iff, leader_iff, leader_iff]
        have hlj := h.low j
        rcases J.val j with e | e
        · rw [e]
          constructor
          · rintro ⟨p, q⟩
            refine ⟨p, fun k hk => ?_⟩
            have hlk := h.low k
            rcases J.val k with e' | e'
            · rw [e']; exact fun x => q k hk (by omega)
            · rw [e'.2.1]; omega
          · rintro ⟨p, q⟩
            refine ⟨p, fun k hk => ?_⟩
            have hq := q k hk
            rcases J.val k with e' | e'
            · rw [e'] at hq; exact hq
            · rw [e'.1]; omega
        · have hj' : g' j ≠ 0 := by rw [e.2.1]; exact hm
          have : i ≤ j := hge j e.1 hj'
          constructor
          · rintro ⟨p, q⟩; rw [e.1] at p; omega
          · rintro ⟨p, q⟩
            exact absurd (q i (by omega)) (fun x => x (by rw [hi', e.2.1]))
      · rw [Bool.eq_false_iff]; intro x
        have := (leader_iff.1 x).1
        omega
      · rw [leader_iff]
        refine ⟨by omega, fun k hk x => ?_⟩
        have hlk := h.low k
        rcases J.val k with e | e
        · rw [e, hi'] at x; omega
        · have := hge k e.1 (by rw [e.2.1]; exact hm)
          omega
    rw [key]
    have := h.lead
    omega
  · by_cases e : v = many + 1
    · subst e; exact ⟨i, hi, hi'⟩
    · obtain ⟨x, hx, hv⟩ := h.has v h1 (by omega)
      exact ⟨x, hx, by rw [J.mono hm x (by omega)]; exact hv⟩

theorem groups_upto {near : Nat → Nat → Bool} (hs : ∀ a b, near a b = near b a) {set n : Nat} (hn : n ≤ 7) (adj : Nat → Nat → Bool) (hadj : ∀ a b, adj a b = (set.testBit b && near a b)) : ∀ i, i ≤ n → Grouped near set n i (groupsTo adj n set i).1 (groupsTo adj n set i).2
  | 0, _ => grouped_start near set n
  | i + 1, hi => by
    have ih := groups_upto hs hn adj hadj i (by omega)
    rw [groupsTo_succ]
    split
    · rename_i hc
      simp only [Bool.and_eq_true, beq_iff_eq] at hc
      have hl := (groupsTo_many adj n set i).1
      refine grouped_join hs ih (by omega) hc.1 hc.2 ?_
      refine joinF_spec (ok := fun a => a < n ∧ set.testBit a = true) (by omega) (fun a b ha => ?_) (fun a b ha h => ⟨h.2.1, h.2.2.2.1⟩) 7 _ i ⟨by omega, hc.1⟩ (by omega) hc.2 (by have := zeros_n n (groupsTo adj n set i).2; omega)
      rw [hadj]
      simp only [Nb, Bool.and_eq_true]
      exact ⟨fun h => ⟨h.2.1, h.2.2.2.1, h.2.2.2.2⟩, fun h => ⟨ha.1, h.1, ha.2, h.2.1, h.2.2⟩⟩
    · rename_i hc
      refine grouped_skip ih (fun hb h0 => hc ?_)
      simp only [Bool.and_eq_true, beq_iff_eq]
      exact ⟨hb, h0⟩

theorem nearS_symm (l : List Spot) (near : Int) (a b : Nat) : nearS l near a b = nearS l near b a := by
  unfold nearS outB
  simp only [List.any_cons, List.any_nil, Bool.or_false]
  rw [Bool.eq_iff_iff]
  simp only [Bool.not_eq_true', Bool.or_eq_false_iff, decide_eq_false_iff_not]
  omega

def manyG (D : Dat) (near : Int) (set : Nat) : Int := (groupsTo (adjS D.spots near set) D.spots.length set D.spots.length).1
theorem G_spec (D : Dat) (near : Int) (set : Nat) (hn : D.spots.length ≤ 7) : Grouped (nearS D.spots near) set D.spots.length D.spots.length (manyG D near set) (G D near set) :=
  groups_upto (nearS_symm D.spots near) hn _ (fun _ _ => rfl) _ (Nat.le_refl _)
end Go.Proofs.Ytemeapfnfegkiaa.D
end
section
namespace Go.Proofs.Ytemeapfnfegkiaa.PR
open Go.RowKit Go.Proofs.YtemeapfnfegkiaaW.PrintWords Go.Proofs.YtemeapfnfegkiaaW.PrintLast Go.Proofs.YtemeapfnfegkiaaW.PrintMore
attribute [local go_sem] max2_int min2_int max_two min_two max_three min_three max_four min_four   -- for this text's walks alone
set_option linter.unusedVariables false
set_option linter.unusedSimpArgs false

def helioscoperef01_In.f (a0 : Int) (a1 : Int) (a2 : Int) : Option (Bool) := if a1 ≤ a0 then (some (decide (a0 ≤ a2))) else (some false)
set_option maxHeartbeats 8000000 in
set_option maxRecDepth 100000 in
theorem helioscoperef01_In.calls (a0 : Int) (a1 : Int) (a2 : Int) (r : Bool) (w : World) (h : helioscoperef01_In.f a0 a1 a2 = some r) :
  Calls Try.prog 54 #[.int .i64 a0, .int .i64 a1, .int .i64 a2] w fun e w' => e = .returned (.bool r) ∧ Drawn0 w w' := by
 have H : (if a1 ≤ a0 then (some (decide (a0 ≤ a2))) else (some false)) = some r := h
 clear h
 by_cases c4 : a1 ≤ a0
 ·
  rw [if_pos c4] at H
  have c4b0 : decide (a1 ≤ a0) = true := decide_eq_true c4
  clear c4
  obtain rfl := Option.some.inj H
  go_enter Try.func54, Try.ntmps54
  go_wp2
  go_ret
  exact ⟨by first | rfl | (simp; done) | (simp [*]; done), by repeat (first | exact Drawn0.refl _ | apply Drawn0.step)⟩
 ·
  rw [if_neg c4] at H
  have c4b0 : decide (a1 ≤ a0) = false := decide_eq_false c4
  clear c4
  obtain rfl := Option.some.inj H
  go_enter Try.func54, Try.ntmps54
  go_wp2
  go_ret
  exact ⟨by first | rfl | (simp; done) | (simp [*]; done), by repeat (first | exact Drawn0.refl _ | apply Drawn0.step)⟩

def helioscoperef01_letter.f (a0 : Int) : Option (Bool) := if a0 ≥ 97 then (some (decide (a0 ≤ 122))) else (some false)
set_option maxHeartbeats 8000000 in
set_option maxRecDepth 100000 in
theorem helioscoperef01_letter.calls (a0 : Int) (r : Bool) (w : World) (h : helioscoperef01_letter.f a0 = some r) :
  Calls Try.prog 87 #[.int .u8 a0] w fun e w' => e = .returned (.bool r) ∧ Drawn0 w w' := by
 have H : (if a0 ≥ 97 then (some (decide (a0 ≤ 122))) else (some false)) = some r := h
 clear h
 by_cases c2 : a0 ≥ 97
 ·
  rw [if_pos c2] at H
  have c2b0 : decide (97 ≤ a0) = true := decide_eq_true c2
  clear c2
  obtain rfl := Option.some.inj H
  go_enter Try.func87, Try.ntmps87
  go_wp2
  go_ret
  exact ⟨by first | rfl | (simp; done) | (simp [*]; done), by repeat (first | exact Drawn0.refl _ | apply Drawn0.step)⟩
 ·
  rw [if_neg c2] at H
  have c2b0 : decide (97 ≤ a0) = false := decide_eq_false c2
  clear c2
  obtain rfl := Option.some.inj H
  go_enter Try.func87, Try.ntmps87
  go_wp2
  go_ret
  exact ⟨by first | rfl | (simp; done) | (simp [*]; done), by repeat (first | exact Drawn0.refl _ | apply Drawn0.step)⟩

def helioscoperef01_digit.f (a0 : Int) : Option (Bool) := if a0 ≥ 48 then (some (decide (a0 ≤ 57))) else (some false)
set_option maxHeartbeats 8000000 in
set_option maxRecDepth 100000 in
theorem helioscoperef01_digit.calls (a0 : Int) (r : Bool) (w : World) (h : helioscoperef01_digit.f a0 = some r) :
  Calls Try.prog 88 #[.int .u8 a0] w fun e w' => e = .returned (.bool r) ∧ Drawn0 w w' := by
 have H : (if a0 ≥ 48 then (some (decide (a0 ≤ 57))) else (some false)) = some r := h
 clear h
 by_cases c2 : a0 ≥ 48
 ·
  rw [if_pos c2] at H
  have c2b0 : decide (48 ≤ a0) = true := decide_eq_true c2
  clear c2
  obtain rfl := Option.some.inj H
  go_enter Try.func88, Try.ntmps88
  go_wp2
  go_ret
  exact ⟨by first | rfl | (simp; done) | (simp [*]; done), by repeat (first | exact Drawn0.refl _ | apply Drawn0.step)⟩
 ·
  rw [if_neg c2] at H
  have c2b0 : decide (48 ≤ a0) = false := decide_eq_false c2
  clear c2
  obtain rfl := Option.some.inj H
  go_enter Try.func88, Try.ntmps88
  go_wp2
  go_ret
  exact ⟨by first | rfl | (simp; done) | (simp [*]; done), by repeat (first | exact Drawn0.refl _ | apply Drawn0.step)⟩

mutual
def helioscoperef01_Name.j0 : Nat → ByteArray → Bool → Option (Bool)
 | 0, _, _ => none
 | k + 1, x0, x13 => if x13 = true then (some false) else (helioscoperef01_Name.l0 k x0 1)
def helioscoperef01_Name.l0 : Nat → ByteArray → Int → Option (Bool)
 | 0, _, _ => none
 | k + 1, x0, x3 => if x3 < (x0.size : Int) then (if 0 ≤ x3 then ((helioscoperef01_letter.f (bt x0 x3)).bind fun t103 => (if t103 = true then (helioscoperef01_Name.l0 k x0 (wrap64 (x3 + 1))) else ((helioscoperef01_digit.f (bt x0 x3)).bind fun t104 => (if t104 = true then (helioscoperef01_Name.l0 k x0 (wrap64 (x3 + 1))) else (if (bt x0 x3) = 46 then (helioscoperef01_Name.l0 k x0 (wrap64 (x3 + 1))) else (some false)))))) else (none)) else (some true)
end
def helioscoperef01_Name.f (k : Nat) (a0 : ByteArray) : Option (Bool) := (helioscoperef01_In.f (a0.size : Int) 1 16).bind fun t101 => (if t101 = true then (if 0 < (a0.size : Int) then ((helioscoperef01_letter.f (bt a0 0)).bind fun t102 => (helioscoperef01_Name.j0 k a0 (!t102))) else (none)) else (helioscoperef01_Name.j0 k a0 true))
set_option maxHeartbeats 8000000 in
set_option maxRecDepth 100000 in
theorem helioscoperef01_Name.calls (k : Nat) (a0 : ByteArray) (r : Bool) (w : World) (h : helioscoperef01_Name.f k a0 = some r) :
  Calls Try.prog 21 #[.string a0] w fun e w' => e = .returned (.bool r) ∧ Drawn0 w w' := by
 have H : ((helioscoperef01_In.f (a0.size : Int) 1 16).bind fun t101 => (if t101 = true then (if 0 < (a0.size : Int) then ((helioscoperef01_letter.f (bt a0 0)).bind fun t102 => (helioscoperef01_Name.j0 k a0 (!t102))) else (none)) else (helioscoperef01_Name.j0 k a0 true))) = some r := h
 clear h
 have HC2 := Aside0.mk H
 clear H
 go_enter Try.func21, Try.ntmps21
 go_upto_region 1 with (fail)
 go_cut [13] (fun v13 wc => ∃ (kq : Nat) (x13_1 : Bool), v13 = .bool x13_1 ∧ Aside0 (helioscoperef01_Name.j0 kq a0 x13_1 = some r) ∧ Aside0 (kq ≤ k) ∧ Drawn0 w wc)
 case first =>
  have H := HC2.out
  clear HC2
  replace H := Option.bind_eq_some_iff.mp H
  obtain ⟨t101, A30, H⟩ := H
  replace H : (if t101 = true then (if 0 < (a0.size : Int) then ((helioscoperef01_letter.f (bt a0 0)).bind fun t102 => (helioscoperef01_Name.j0 k a0 (!t102))) else (none)) else (helioscoperef01_Name.j0 k a0 true)) = some r := H
  have A3 := Aside0.mk A30
  clear A30
  by_cases c4 : t101 = true
  ·
   subst c4
   have H1 : (if 0 < (a0.size : Int) then ((helioscoperef01_letter.f (bt a0 0)).bind fun t102 => (helioscoperef01_Name.j0 k a0 (!t102))) else (none)) = some r := by rw [if_pos rfl] at H; exact H
   clear H
   have H := H1
   clear H1
   by_cases c5 : 0 < (a0.size : Int)
   ·
    rw [if_pos c5] at H
    have c5b0 : decide (0 < (a0.size : Int)) = true := decide_eq_true c5
    have c5b1 : decide (0 < a0.size) = true := decide_eq_true (by omega)
    clear c5
    (first | rw [c5b0] | (simp only [i64_w, i32_w]; rw [c5b0]) | skip)
    replace H := Option.bind_eq_some_iff.mp H
    obtain ⟨t102, A70, H⟩ := H
    replace H : (helioscoperef01_Name.j0 k a0 (!t102)) = some r := H
    have A7 := Aside0.mk A70
    clear A70
    have H' := Aside0.mk H
    clear H
    go_wp2_with (first | ((with_reducible refine gate_callee (f := 54) rfl ?_); refine goesL_ (some 6) rfl rfl Try.func54 (by kernel_rfl) rfl #[.int .i64 (a0.size : Int), .int .i64 1, .int .i64 16] rfl (by (try simp only [List.map_toArray, List.map_cons, List.map_nil]); first | done | rfl | (simp only [List.length_drop, List.length_take]; rfl)) ?_; (with_reducible refine (helioscoperef01_In.calls (a0.size : Int) 1 16 true _ A3.out).mono ?_); rintro e w' ⟨rfl, ⟨nd, rfl⟩⟩; refine ⟨_, rfl, ?_⟩; have p6 : 0 ≤ (0 : Int) := (by omega); have q6 : 0 < a0.size := (by have : (0 : Int) < (a0.size : Int) := of_decide_eq_true (by first | (with_reducible assumption) | assumption); omega); have hx6 : ∀ h : 0 < a0.size, ((a0[0]'h).toNat : Int) = bt a0 0 := bt_at a0 0; clear p6; have qi6 : (0 < (a0.size : Int)) = True := eq_true (of_decide_eq_true (by first | (with_reducible assumption) | assumption)); replace q6 := eq_true q6) | (go_at_call 87; (with_reducible refine (helioscoperef01_letter.calls (bt a0 0) t102 _ A7.out).mono ?_); rintro e w' ⟨rfl, ⟨nd, rfl⟩⟩))
    go_meet
    case rel => exact ⟨_, (!t102), (by first | rfl | (simp; done) | (simp [*]; done)), H', ⟨by first | omega | exact Nat.le_refl _⟩, by repeat (first | exact Drawn0.refl _ | apply Drawn0.step)⟩
   ·
    rw [if_neg c5] at H
    exact absurd H (by simp)
  ·
   replace c4 := Bool.eq_false_iff.mpr c4
   subst c4
   have H1 : (helioscoperef01_Name.j0 k a0 true) = some r := by rw [if_neg (show ¬ (false = true) by decide)] at H; exact H
   clear H
   have H := H1
   clear H1
   have H' := Aside0.mk H
   clear H
   go_wp2_with (first | ((with_reducible refine gate_callee (f := 54) rfl ?_); refine goesL_ (some 6) rfl rfl Try.func54 (by kernel_rfl) rfl #[.int .i64 (a0.size : Int), .int .i64 1, .int .i64 16] rfl (by (try simp only [List.map_toArray, List.map_cons, List.map_nil]); first | done | rfl | (simp only [List.length_drop, List.length_take]; rfl)) ?_; (with_reducible refine (helioscoperef01_In.calls (a0.size : Int) 1 16 false _ A3.out).mono ?_); rintro e w' ⟨rfl, ⟨nd, rfl⟩⟩; refine ⟨_, rfl, ?_⟩))
   go_meet
   case rel => exact ⟨_, (true), (by first | rfl | (simp; done) | (simp [*]; done)), H', ⟨by first | omega | exact Nat.le_refl _⟩, by repeat (first | exact Drawn0.refl _ | apply Drawn0.step)⟩
 case rest =>
  clear HC2
  try clear c2
  try clear p2
  try clear c4
  try clear c5
  try clear c5b0
  try clear c5b1
  try clear p6
  try clear q6
  try clear hx6
  try clear qi6
  try clear p6
  try clear q6
  obtain ⟨kq, x13_1, rfl, HA, HJ1, ⟨mc1, rfl⟩⟩ := hcut
  cases kq with
  | zero => exact absurd HA.out (by simp [helioscoperef01_Name.j0])
  | succ kj1 =>
   have H := HA.out
   clear HA
   simp only [helioscoperef01_Name.j0] at H
   by_cases c8 : x13_1 = true
   ·
    subst c8
    have H1 : (some false) = some r := by rw [if_pos rfl] at H; exact H
    clear H
    have H := H1
    clear H1
    obtain rfl := Option.some.inj H
    go_wp2
    go_ret
    exact ⟨by first | rfl | (simp; done) | (simp [*]; done), by repeat (first | exact Drawn0.refl _ | apply Drawn0.step)⟩
   ·
    replace c8 := Bool.eq_false_iff.mpr c8
    subst c8
    have H1 : (helioscoperef01_Name.l0 kj1 a0 1) = some r := by rw [if_neg (show ¬ (false = true) by decide)] at H; exact H
    clear H
    have H := H1
    clear H1
    have H' := Aside0.mk H
    clear H
    go_wp2
    go_loopg [3] kj1 (fun kq v3 w' => ∃ (x3_2 : Int), v3 = .int .i64 x3_2 ∧ Aside0 (helioscoperef01_Name.l0 kq a0 x3_2 = some r) ∧ Aside0 (kq ≤ kj1) ∧ Drawn0 w w')
    case atStart => exact ⟨(1), (by first | rfl | (simp; done) | (simp [*]; done)), H', ⟨Nat.le_refl _⟩, by repeat (first | exact Drawn0.refl _ | apply Drawn0.step)⟩
    case round =>
     clear H'
     try clear c1
     try clear c2
     try clear p2
     try clear c4
     try clear c5
     try clear c5b0
     try clear c5b1
     try clear p6
     try clear q6
     try clear hx6
     try clear qi6
     try clear c8
     try clear p2
     try clear p6
     try clear q6
     obtain ⟨x3_2, rfl, HA, HK2, ⟨m2, rfl⟩⟩ := hrel
     cases gk with
     | zero => exact absurd HA.out (by simp [helioscoperef01_Name.l0])
     | succ k2 =>
      have H := HA.out
      clear HA
      simp only [helioscoperef01_Name.l0] at H
      by_cases c9 : x3_2 < (a0.size : Int)
      ·
       rw [if_pos c9] at H
       have c9b0 : decide (x3_2 < (a0.size : Int)) = true := decide_eq_true c9
       clear c9
       by_cases c10 : 0 ≤ x3_2
       ·
        rw [if_pos c10] at H
        have c10b0 : decide (0 ≤ x3_2) = true := decide_eq_true c10
        clear c10
        replace H := Option.bind_eq_some_iff.mp H
        obtain ⟨t103, A120, H⟩ := H
        replace H : (if t103 = true then (helioscoperef01_Name.l0 k2 a0 (wrap64 (x3_2 + 1))) else ((helioscoperef01_digit.f (bt a0 x3_2)).bind fun t104 => (if t104 = true then (helioscoperef01_Name.l0 k2 a0 (wrap64 (x3_2 + 1))) else (if (bt a0 x3_2) = 46 then (helioscoperef01_Name.l0 k2 a0 (wrap64 (x3_2 + 1))) else (some false))))) = some r := H
        have A12 := Aside0.mk A120
        clear A120
        by_cases c13 : t103 = true
        ·
         subst c13
         have H1 : (helioscoperef01_Name.l0 k2 a0 (wrap64 (x3_2 + 1))) = some r := by rw [if_pos rfl] at H; exact H
         clear H
         have H := H1
         clear H1
         have H' := Aside0.mk H
         clear H
         have p11 : 0 ≤ (x3_2 : Int) := of_decide_eq_true (by first | (with_reducible assumption) | assumption)
         have q11 : x3_2 < (a0.size : Int) := of_decide_eq_true (by first | (with_reducible assumption) | assumption)
         have hx11 := bt_at a0 x3_2
         replace p11 := eq_true p11
         replace q11 := eq_true q11
         go_wp2_with (first | ((with_reducible refine gate_callee (f := 87) rfl ?_); refine goesL_ (some 23) rfl rfl Try.func87 (by kernel_rfl) rfl #[.int .u8 (bt a0 x3_2)] rfl (by (try simp only [List.map_toArray, List.map_cons, List.map_nil]); first | done | rfl | (simp only [List.length_drop, List.length_take]; rfl)) ?_; (with_reducible refine (helioscoperef01_letter.calls (bt a0 x3_2) true _ A12.out).mono ?_); rintro e w' ⟨rfl, ⟨nd, rfl⟩⟩; refine ⟨_, rfl, ?_⟩))
         go_roundg k2
         case measure => have := HJ1.out; have := HK2.out; omega
         case rel => exact ⟨(wrap64 (x3_2 + 1)), (by first | rfl | (simp; done) | (simp [*]; done)), H', ⟨by have := HJ1.out; have := HK2.out; omega⟩, by repeat (first | exact Drawn0.refl _ | apply Drawn0.step)⟩
        ·
         replace c13 := Bool.eq_false_iff.mpr c13
         subst c13
         have H1 : ((helioscoperef01_digit.f (bt a0 x3_2)).bind fun t104 => (if t104 = true then (helioscoperef01_Name.l0 k2 a0 (wrap64 (x3_2 + 1))) else (if (bt a0 x3_2) = 46 then (helioscoperef01_Name.l0 k2 a0 (wrap64 (x3_2 + 1))) else (some false)))) = some r := by rw [if_neg (show ¬ (false = true) by decide)] at H; exact H
         clear H
         have H := H1
         clear H1
         replace H := Option.bind_eq_some_iff.mp H
         obtain ⟨t104, A150, H⟩ := H
         replace H : (if t104 = true then (helioscoperef01_Name.l0 k2 a0 (wrap64 (x3_2 + 1))) else (if (bt a0 x3_2) = 46 then (helioscoperef01_Name.l0 k2 a0 (wrap64 (x3_2 + 1))) else (some false))) = some r := H
         have A15 := Aside0.mk A150
         clear A150
         by_cases c16 : t104 = true
         ·
          subst c16
          have H1 : (helioscoperef01_Name.l0 k2 a0 (wrap64 (x3_2 + 1))) = some r := by rw [if_pos rfl] at H; exact H
          clear H
          have H := H1
          clear H1
          have H' := Aside0.mk H
          clear H
          have p11 : 0 ≤ (x3_2 : Int) := of_decide_eq_true (by first | (with_reducible assumption) | assumption)
          have q11 : x3_2 < (a0.size : Int) := of_decide_eq_true (by first | (with_reducible assumption) | assumption)
          have hx11 := bt_at a0 x3_2
          replace p11 := eq_true p11
          replace q11 := eq_true q11
          go_wp2_with (first | ((with_reducible refine gate_callee (f := 87) rfl ?_); refine goesL_ (some 23) rfl rfl Try.func87 (by kernel_rfl) rfl #[.int .u8 (bt a0 x3_2)] rfl (by (try simp only [List.map_toArray, List.map_cons, List.map_nil]); first | done | rfl | (simp only [List.length_drop, List.length_take]; rfl)) ?_; (with_reducible refine (helioscoperef01_letter.calls (bt a0 x3_2) false _ A12.out).mono ?_); rintro e w' ⟨rfl, ⟨nd, rfl⟩⟩; refine ⟨_, rfl, ?_⟩; have p14 : 0 ≤ (x3_2 : Int) := of_decide_eq_true (by first | (with_reducible assumption) | assumption); have q14 : x3_2 < (a0.size : Int) := of_decide_eq_true (by first | (with_reducible assumption) | assumption); have hx14 := bt_at a0 x3_2; replace p14 := eq_true p14; replace q14 := eq_true q14) | (go_at_call 88; (with_reducible refine (helioscoperef01_digit.calls (bt a0 x3_2) true _ A15.out).mono ?_); rintro e w' ⟨rfl, ⟨nd, rfl⟩⟩))
          go_roundg k2
          case measure => have := HJ1.out; have := HK2.out; omega
          case rel => exact ⟨(wrap64 (x3_2 + 1)), (by first | rfl | (simp; done) | (simp [*]; done)), H', ⟨by have := HJ1.out; have := HK2.out; omega⟩, by repeat (first | exact Drawn0.refl _ | apply Drawn0.step)⟩
         ·
          replace c16 := Bool.eq_false_iff.mpr c16
          subst c16
          have H1 : (if (bt a0 x3_2) = 46 then (helioscoperef01_Name.l0 k2 a0 (wrap64 (x3_2 + 1))) else (some false)) = some r := by rw [if_neg (show ¬ (false = true) by decide)] at H; exact H
          clear H
          have H := H1
          clear H1
          by_cases c18 : (bt a0 x3_2) = 46
          ·
           rw [if_pos c18] at H
           have c18b0 : ((bt a0 x3_2) == 46) = true := beq_iff_eq.mpr c18
           have c18b1 : ((bt a0 x3_2) != 46) = false := bne_eq_false_iff_eq.mpr c18
           clear c18
           have H' := Aside0.mk H
           clear H
           have p11 : 0 ≤ (x3_2 : Int) := of_decide_eq_true (by first | (with_reducible assumption) | assumption)
           have q11 : x3_2 < (a0.size : Int) := of_decide_eq_true (by first | (with_reducible assumption) | assumption)
           have hx11 := bt_at a0 x3_2
           replace p11 := eq_true p11
           replace q11 := eq_true q11
           go_wp2_with (first | ((with_reducible refine gate_callee (f := 87) rfl ?_); refine goesL_ (some 23) rfl rfl Try.func87 (by kernel_rfl) rfl #[.int .u8 (bt a0 x3_2)] rfl (by (try simp only [List.map_toArray, List.map_cons, List.map_nil]); first | done | rfl | (simp only [List.length_drop, List.length_take]; rfl)) ?_; (with_reducible refine (helioscoperef01_letter.calls (bt a0 x3_2) false _ A12.out).mono ?_); rintro e w' ⟨rfl, ⟨nd, rfl⟩⟩; refine ⟨_, rfl, ?_⟩; have p14 : 0 ≤ (x3_2 : Int) := of_decide_eq_true (by first | (with_reducible assumption) | assumption); have q14 : x3_2 < (a0.size : Int) := of_decide_eq_true (by first | (with_reducible assumption) | assumption); have hx14 := bt_at a0 x3_2; replace p14 := eq_true p14; replace q14 := eq_true q14) | (go_at_call 88; (with_reducible refine (helioscoperef01_digit.calls (bt a0 x3_2) false _ A15.out).mono ?_); rintro e w' ⟨rfl, ⟨nd, rfl⟩⟩; have p17 : 0 ≤ (x3_2 : Int) := of_decide_eq_true (by first | (with_reducible assumption) | assumption); have q17 : x3_2 < (a0.size : Int) := of_decide_eq_true (by first | (with_reducible assumption) | assumption); have hx17 := bt_at a0 x3_2; replace p17 := eq_true p17; replace q17 := eq_true q17))
           go_roundg k2
           case measure => have := HJ1.out; have := HK2.out; omega
           case rel => exact ⟨(wrap64 (x3_2 + 1)), (by first | rfl | (simp; done) | (simp [*]; done)), H', ⟨by have := HJ1.out; have := HK2.out; omega⟩, by repeat (first | exact Drawn0.refl _ | apply Drawn0.step)⟩
          ·
           rw [if_neg c18] at H
           have c18b0 : ((bt a0 x3_2) == 46) = false := beq_eq_false_iff_ne.mpr c18
           have c18b1 : ((bt a0 x3_2) != 46) = true := bne_iff_ne.mpr c18
           obtain rfl := Option.some.inj H
           have p11 : 0 ≤ (x3_2 : Int) := of_decide_eq_true (by first | (with_reducible assumption) | assumption)
           have q11 : x3_2 < (a0.size : Int) := of_decide_eq_true (by first | (with_reducible assumption) | assumption)
           have hx11 := bt_at a0 x3_2
           replace p11 := eq_true p11
           replace q11 := eq_true q11
           go_wp2_with (first | ((with_reducible refine gate_callee (f := 87) rfl ?_); refine goesL_ (some 23) rfl rfl Try.func87 (by kernel_rfl) rfl #[.int .u8 (bt a0 x3_2)] rfl (by (try simp only [List.map_toArray, List.map_cons, List.map_nil]); first | done | rfl | (simp only [List.length_drop, List.length_take]; rfl)) ?_; (with_reducible refine (helioscoperef01_letter.calls (bt a0 x3_2) false _ A12.out).mono ?_); rintro e w' ⟨rfl, ⟨nd, rfl⟩⟩; refine ⟨_, rfl, ?_⟩; have p14 : 0 ≤ (x3_2 : Int) := of_decide_eq_true (by first | (with_reducible assumption) | assumption); have q14 : x3_2 < (a0.size : Int) := of_decide_eq_true (by first | (with_reducible assumption) | assumption); have hx14 := bt_at a0 x3_2; replace p14 := eq_true p14; replace q14 := eq_true q14) | (go_at_call 88; (with_reducible refine (helioscoperef01_digit.calls (bt a0 x3_2) false _ A15.out).mono ?_); rintro e w' ⟨rfl, ⟨nd, rfl⟩⟩; have p17 : 0 ≤ (x3_2 : Int) := of_decide_eq_true (by first | (with_reducible assumption) | assumption); have q17 : x3_2 < (a0.size : Int) := of_decide_eq_true (by first | (with_reducible assumption) | assumption); have hx17 := bt_at a0 x3_2; replace p17 := eq_true p17; replace q17 := eq_true q17))
           go_ret
           exact ⟨by first | rfl | (simp; done) | (simp [*]; done), by repeat (first | exact Drawn0.refl _ | apply Drawn0.step)⟩
       ·
        rw [if_neg c10] at H
        exact absurd H (by simp)
      ·
       rw [if_neg c9] at H
       have c9b0 : decide (x3_2 < (a0.size : Int)) = false := decide_eq_false c9
       clear c9
       obtain rfl := Option.some.inj H
       go_wp2
       go_ret
       exact ⟨by first | rfl | (simp; done) | (simp [*]; done), by repeat (first | exact Drawn0.refl _ | apply Drawn0.step)⟩

def helioscoperef01_Ends.j0 : Nat → Bool → Int → Int → Option (Int)
 | 0, _, _, _ => none
 | k + 1, x7, x106000, x106001 => if x7 = true then (some 7) else (if x106000 > x106001 then (some 2) else (some 0))
def helioscoperef01_Ends.f (k : Nat) (a0_0 : Int) (a0_1 : Int) (a1 : Int) (a2 : Int) : Option (Int) := (helioscoperef01_In.f a0_0 a1 a2).bind fun t106 => (if t106 = true then ((helioscoperef01_In.f a0_1 a1 a2).bind fun t107 => (helioscoperef01_Ends.j0 k (!t107) a0_0 a0_1)) else (helioscoperef01_Ends.j0 k true a0_0 a0_1))
set_option maxHeartbeats 8000000 in
set_option maxRecDepth 100000 in
theorem helioscoperef01_Ends.calls (k : Nat) (a0_0 : Int) (a0_1 : Int) (a1 : Int) (a2 : Int) (r : Int) (w : World) (h : helioscoperef01_Ends.f k a0_0 a0_1 a1 a2 = some r) :
  Calls Try.prog 85 #[.agg #[.int .i64 a0_0, .int .i64 a0_1], .int .i64 a1, .int .i64 a2] w fun e w' => e = .returned (.int .i64 r) ∧ Below w.heap.size w w' := by
 have hu23 := Try.underlying23
 have HB := Aside0.mk (Below.refl w.heap.size w)
 have H : ((helioscoperef01_In.f a0_0 a1 a2).bind fun t106 => (if t106 = true then ((helioscoperef01_In.f a0_1 a1 a2).bind fun t107 => (helioscoperef01_Ends.j0 k (!t107) a0_0 a0_1)) else (helioscoperef01_Ends.j0 k true a0_0 a0_1))) = some r := h
 clear h
 have HC4 := Aside0.mk H
 clear H
 go_enter Try.func85, Try.ntmps85
 go_upto_region 1 with (first | ((with_reducible refine gate_dst (N := 3) rfl ?_); refine box_event ?hg (N := 3) ?hd (cs := #[.int .i64 a0_0, .int .i64 a0_1]) (t := 23) ?hr ?_; (case hd => rfl); (case hg => rfl); (case hr => first | (go_simp; done) | (go_simp; rfl)); intro gb105 hg w5 hbox hb; have n0_ := Aside0.mk (below_step (by repeat (first | (with_reducible first | exact HB.out | apply below_alloc | apply pw_below_drewN | apply below_drew1) | exact HB.out)) hb); have n1_ := Aside0.mk (hbox); have n2_ := Aside0.mk ((by rw [hg]; exact (below_size (by repeat (first | (with_reducible first | exact HB.out | apply below_alloc | apply pw_below_drewN | apply below_drew1) | exact HB.out))) : w.heap.size ≤ gb105)); have n3_ := Aside0.mk ((by rw [hg]; exact (below_size (by repeat (first | (with_reducible first | exact HB.out | apply below_alloc | apply pw_below_drewN | apply below_drew1) | exact HB.out))) : w.heap.size ≤ gb105)); clear HB; have HB := n0_; have BK105 := n1_; have GW105 := n2_; have GE105 := n3_; clear n0_ n1_ n2_ n3_; clear hb hbox hg))
 (try simp only [Act.put, List.setIfInBounds_toArray, List.set_cons_zero, List.set_cons_succ])
 go_cut [7] (fun v7 wc => ∃ (kq : Nat) (x7_3 : Bool), v7 = .bool x7_3 ∧ Aside0 (helioscoperef01_Ends.j0 kq x7_3 a0_0 a0_1 = some r) ∧ Aside0 (kq ≤ k) ∧ Aside0 (wc.heap[gb105]? = some (.cells #[.int .i64 a0_0, .int .i64 a0_1] 23 (0, 0))) ∧ Aside0 (Below w.heap.size w wc))
 case first =>
  have H := HC4.out
  clear HC4
  replace H := Option.bind_eq_some_iff.mp H
  obtain ⟨t106, A60, H⟩ := H
  replace H : (if t106 = true then ((helioscoperef01_In.f a0_1 a1 a2).bind fun t107 => (helioscoperef01_Ends.j0 k (!t107) a0_0 a0_1)) else (helioscoperef01_Ends.j0 k true a0_0 a0_1)) = some r := H
  have A6 := Aside0.mk A60
  clear A60
  by_cases c7 : t106 = true
  ·
   subst c7
   have H1 : ((helioscoperef01_In.f a0_1 a1 a2).bind fun t107 => (helioscoperef01_Ends.j0 k (!t107) a0_0 a0_1)) = some r := by rw [if_pos rfl] at H; exact H
   clear H
   have H := H1
   clear H1
   replace H := Option.bind_eq_some_iff.mp H
   obtain ⟨t107, A80, H⟩ := H
   replace H : (helioscoperef01_Ends.j0 k (!t107) a0_0 a0_1) = some r := H
   have A8 := Aside0.mk A80
   clear A80
   have H' := Aside0.mk H
   clear H
   have hcz9_0 : w5.cell? ⟨gb105, 0, none⟩ = some (.int .i64 a0_0) := (blk_cell BK105.out 0).trans rfl
   have hcz9_1 : w5.cell? ⟨gb105, 1, none⟩ = some (.int .i64 a0_1) := (blk_cell BK105.out 1).trans rfl
   have hfz9_0 := blk_frozen BK105.out 0
   have hfz9_1 := blk_frozen BK105.out 1
   go_wp2_with (first | ((with_reducible refine gate_callee (f := 54) rfl ?_); refine goesL_ (some 12) rfl rfl Try.func54 (by kernel_rfl) rfl #[.int .i64 a0_0, .int .i64 a1, .int .i64 a2] rfl (by (try simp only [List.map_toArray, List.map_cons, List.map_nil]); first | done | rfl | (simp only [List.length_drop, List.length_take]; rfl)) ?_; (with_reducible refine (helioscoperef01_In.calls a0_0 a1 a2 true _ A6.out).mono ?_); rintro e w' ⟨rfl, ⟨nd, rfl⟩⟩; refine ⟨_, rfl, ?_⟩) | (go_at_call 54; (with_reducible refine (helioscoperef01_In.calls a0_1 a1 a2 t107 _ A8.out).mono ?_); rintro e w' ⟨rfl, ⟨nd, rfl⟩⟩))
   go_meet
   case rel => exact ⟨_, (!t107), (by first | rfl | (simp; done) | (simp [*]; done)), H', ⟨by first | omega | exact Nat.le_refl _⟩, ⟨by (with_reducible repeat (first | refine blk_drewN ?_ _ | refine blk_drew ?_ | refine blk_alloc ?_ _)); exact BK105.out⟩, ⟨by repeat (first | (with_reducible first | exact HB.out | apply below_alloc | apply pw_below_drewN | apply below_drew1 | refine below_set ?_ GE105.out) | exact HB.out)⟩⟩
  ·
   replace c7 := Bool.eq_false_iff.mpr c7
   subst c7
   have H1 : (helioscoperef01_Ends.j0 k true a0_0 a0_1) = some r := by rw [if_neg (show ¬ (false = true) by decide)] at H; exact H
   clear H
   have H := H1
   clear H1
   have H' := Aside0.mk H
   clear H
   have hcz10_0 : w5.cell? ⟨gb105, 0, none⟩ = some (.int .i64 a0_0) := (blk_cell BK105.out 0).trans rfl
   have hcz10_1 : w5.cell? ⟨gb105, 1, none⟩ = some (.int .i64 a0_1) := (blk_cell BK105.out 1).trans rfl
   have hfz10_0 := blk_frozen BK105.out 0
   have hfz10_1 := blk_frozen BK105.out 1
   go_wp2_with (first | ((with_reducible refine gate_callee (f := 54) rfl ?_); refine goesL_ (some 12) rfl rfl Try.func54 (by kernel_rfl) rfl #[.int .i64 a0_0, .int .i64 a1, .int .i64 a2] rfl (by (try simp only [List.map_toArray, List.map_cons, List.map_nil]); first | done | rfl | (simp only [List.length_drop, List.length_take]; rfl)) ?_; (with_reducible refine (helioscoperef01_In.calls a0_0 a1 a2 false _ A6.out).mono ?_); rintro e w' ⟨rfl, ⟨nd, rfl⟩⟩; refine ⟨_, rfl, ?_⟩))
   go_meet
   case rel => exact ⟨_, (true), (by first | rfl | (simp; done) | (simp [*]; done)), H', ⟨by first | omega | exact Nat.le_refl _⟩, ⟨by (with_reducible repeat (first | refine blk_drewN ?_ _ | refine blk_drew ?_ | refine blk_alloc ?_ _)); exact BK105.out⟩, ⟨by repeat (first | (with_reducible first | exact HB.out | apply below_alloc | apply pw_below_drewN | apply below_drew1 | refine below_set ?_ GE105.out) | exact HB.out)⟩⟩
 case rest =>
  clear HC4
  try clear p2
  try clear c5
  try clear c7
  try clear c8
  try clear hcz10_0
  try clear hcz10_1
  try clear hcz9_0
  try clear hcz9_1
  try clear hfz10_0
  try clear hfz10_1
  try clear hfz9_0
  try clear hfz9_1
  obtain ⟨kq, x7_3, rfl, HA, HJ3, BK105, HB⟩ := hcut
  cases kq with
  | zero => exact absurd HA.out (by simp [helioscoperef01_Ends.j0])
  | succ kj3 =>
   have H := HA.out
   clear HA
   simp only [helioscoperef01_Ends.j0] at H
   by_cases c11 : x7_3 = true
   ·
    subst c11
    have H1 : (some 7) = some r := by rw [if_pos rfl] at H; exact H
    clear H
    have H := H1
    clear H1
    obtain rfl := Option.some.inj H
    go_wp2
    go_ret
    exact ⟨by first | rfl | (simp [errW_none, errW_some] <;> rfl) | (simp [*, errW_none, errW_some] <;> rfl), by repeat (first | (with_reducible first | exact HB.out | apply below_alloc | apply pw_below_drewN | apply below_drew1 | refine below_set ?_ GE105.out) | exact HB.out)⟩
   ·
    replace c11 := Bool.eq_false_iff.mpr c11
    subst c11
    have H1 : (if a0_0 > a0_1 then (some 2) else (some 0)) = some r := by rw [if_neg (show ¬ (false = true) by decide)] at H; exact H
    clear H
    have H := H1
    clear H1
    by_cases c12 : a0_0 > a0_1
    ·
     rw [if_pos c12] at H
     have c12b0 : decide (a0_1 < a0_0) = true := decide_eq_true c12
     clear c12
     obtain rfl := Option.some.inj H
     have hcz13_0 : wc.cell? ⟨gb105, 0, none⟩ = some (.int .i64 a0_0) := (blk_cell BK105.out 0).trans rfl
     have hcz13_1 : wc.cell? ⟨gb105, 1, none⟩ = some (.int .i64 a0_1) := (blk_cell BK105.out 1).trans rfl
     have hfz13_0 := blk_frozen BK105.out 0
     have hfz13_1 := blk_frozen BK105.out 1
     go_wp2
     go_ret
     exact ⟨by first | rfl | (simp [errW_none, errW_some] <;> rfl) | (simp [*, errW_none, errW_some] <;> rfl), by repeat (first | (with_reducible first | exact HB.out | apply below_alloc | apply pw_below_drewN | apply below_drew1 | refine below_set ?_ GE105.out) | exact HB.out)⟩
    ·
     rw [if_neg c12] at H
     have c12b0 : decide (a0_1 < a0_0) = false := decide_eq_false c12
     clear c12
     obtain rfl := Option.some.inj H
     have hcz14_0 : wc.cell? ⟨gb105, 0, none⟩ = some (.int .i64 a0_0) := (blk_cell BK105.out 0).trans rfl
     have hcz14_1 : wc.cell? ⟨gb105, 1, none⟩ = some (.int .i64 a0_1) := (blk_cell BK105.out 1).trans rfl
     have hfz14_0 := blk_frozen BK105.out 0
     have hfz14_1 := blk_frozen BK105.out 1
     go_wp2
     go_ret
     exact ⟨by first | rfl | (simp [errW_none, errW_some] <;> rfl) | (simp [*, errW_none, errW_some] <;> rfl), by repeat (first | (with_reducible first | exact HB.out | apply below_alloc | apply pw_below_drewN | apply below_drew1 | refine below_set ?_ GE105.out) | exact HB.out)⟩

def helioscoperef01_index.f (a0_0 : ByteArray) (a0_1 : Int) (a0_2 : Int) (a0_3 : Int) (l0_4 : List (S80)) (l0_5 : List (S52)) (a1 : Int) : Option (Bool) := (helioscoperef01_In.f a1 0 (wrap64 ((l0_4.length : Int) - 1))).bind fun t109 => (some t109)
set_option maxHeartbeats 8000000 in
set_option maxRecDepth 100000 in
theorem helioscoperef01_index.calls (a0_0 : ByteArray) (a0_1 : Int) (a0_2 : Int) (a0_3 : Int) (A0_4 : Option Addr) (c0_4 : Nat) (l0_4 : List (S80)) (A0_5 : Option Addr) (c0_5 : Nat) (l0_5 : List (S52)) (a1 : Int) (r : Bool) (w : World) (hr0_4 : Kd.C k80 w A0_4 l0_4.length l0_4) (hc0_4 : l0_4.length ≤ c0_4) (hr0_5 : Kd.C k52 w A0_5 l0_5.length l0_5) (hc0_5 : l0_5.length ≤ c0_5) (h : helioscoperef01_index.f a0_0 a0_1 a0_2 a0_3 l0_4 l0_5 a1 = some r) :
  Calls Try.prog 86 #[.agg #[.string a0_0, .int .i64 a0_1, .int .i64 a0_2, .int .i64 a0_3, .slice A0_4 l0_4.length c0_4, .slice A0_5 l0_5.length c0_5], .int .i64 a1] w fun e w' => e = .returned (.bool r) ∧ Below w.heap.size w w' := by
 have hu27 := Try.underlying27
 have HR0_4 := Aside0.mk hr0_4
 have HC0_4 := Aside0.mk hc0_4
 clear hr0_4 hc0_4
 have HR0_5 := Aside0.mk hr0_5
 have HC0_5 := Aside0.mk hc0_5
 clear hr0_5 hc0_5
 have HB := Aside0.mk (Below.refl w.heap.size w)
 have H : ((helioscoperef01_In.f a1 0 (wrap64 ((l0_4.length : Int) - 1))).bind fun t109 => (some t109)) = some r := h
 clear h
 replace H := Option.bind_eq_some_iff.mp H
 obtain ⟨t109, A30, H⟩ := H
 replace H : (some t109) = some r := H
 have A3 := Aside0.mk A30
 clear A30
 obtain rfl := Option.some.inj H
 go_enter Try.func86, Try.ntmps86
 go_wp2_with (first | ((with_reducible refine gate_dst (N := 2) rfl ?_); refine box_event ?hg (N := 2) ?hd (cs := #[.string a0_0, .int .i64 a0_1, .int .i64 a0_2, .int .i64 a0_3, .slice A0_4 l0_4.length c0_4, .slice A0_5 l0_5.length c0_5]) (t := 27) ?hr ?_; (case hd => rfl); (case hg => rfl); (case hr => first | (go_simp; done) | (go_simp; rfl)); intro gb108 hg w4 hbox hb; have n0_ := Aside0.mk (below_step (by repeat (first | (with_reducible first | exact HB.out | apply below_alloc | apply pw_below_drewN | apply below_drew1) | exact HB.out)) hb); have n1_ := Aside0.mk (hbox); have n2_ := Aside0.mk ((by rw [hg]; exact (below_size (by repeat (first | (with_reducible first | exact HB.out | apply below_alloc | apply pw_below_drewN | apply below_drew1) | exact HB.out))) : w.heap.size ≤ gb108)); have n3_ := Aside0.mk ((by rw [hg]; exact (below_size (by repeat (first | (with_reducible first | exact HB.out | apply below_alloc | apply pw_below_drewN | apply below_drew1) | exact HB.out))) : w.heap.size ≤ gb108)); clear HB; have HB := n0_; have BK108 := n1_; have GW108 := n2_; have GE108 := n3_; clear n0_ n1_ n2_ n3_; clear hb hbox hg; have hcz5_0 : w4.cell? ⟨gb108, 0, none⟩ = some (.string a0_0) := (blk_cell BK108.out 0).trans rfl; have hcz5_1 : w4.cell? ⟨gb108, 1, none⟩ = some (.int .i64 a0_1) := (blk_cell BK108.out 1).trans rfl; have hcz5_2 : w4.cell? ⟨gb108, 2, none⟩ = some (.int .i64 a0_2) := (blk_cell BK108.out 2).trans rfl; have hcz5_3 : w4.cell? ⟨gb108, 3, none⟩ = some (.int .i64 a0_3) := (blk_cell BK108.out 3).trans rfl; have hcz5_4 : w4.cell? ⟨gb108, 4, none⟩ = some (.slice A0_4 l0_4.length c0_4) := (blk_cell BK108.out 4).trans rfl; have hcz5_5 : w4.cell? ⟨gb108, 5, none⟩ = some (.slice A0_5 l0_5.length c0_5) := (blk_cell BK108.out 5).trans rfl; have hfz5_0 := blk_frozen BK108.out 0; have hfz5_1 := blk_frozen BK108.out 1; have hfz5_2 := blk_frozen BK108.out 2; have hfz5_3 := blk_frozen BK108.out 3; have hfz5_4 := blk_frozen BK108.out 4; have hfz5_5 := blk_frozen BK108.out 5) | ((with_reducible refine gate_callee (f := 54) rfl ?_); refine goesL_ (some 10) rfl rfl Try.func54 (by kernel_rfl) rfl #[.int .i64 a1, .int .i64 0, .int .i64 (wrap64 ((l0_4.length : Int) - 1))] rfl (by (try simp only [List.map_toArray, List.map_cons, List.map_nil]); first | done | rfl | (simp only [List.length_drop, List.length_take]; rfl)) ?_; (with_reducible refine (helioscoperef01_In.calls a1 0 (wrap64 ((l0_4.length : Int) - 1)) t109 _ A3.out).mono ?_); rintro e w' ⟨rfl, ⟨nd, rfl⟩⟩; refine ⟨_, rfl, ?_⟩))
 go_ret
 exact ⟨by first | rfl | (simp [errW_none, errW_some] <;> rfl) | (simp [*, errW_none, errW_some] <;> rfl), by repeat (first | (with_reducible first | exact HB.out | apply below_alloc | apply pw_below_drewN | apply below_drew1 | refine below_set ?_ GE108.out) | exact HB.out)⟩

end Go.Proofs.Ytemeapfnfegkiaa.PR
end
