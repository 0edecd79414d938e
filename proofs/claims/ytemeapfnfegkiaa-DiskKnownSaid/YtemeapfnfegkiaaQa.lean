/- Contracts of the functions that this claim reaches, and the words for them. -/
import Derived.Test.YtemeapfnfegkiaaQk
import Derived.Test.YtemeapfnfegkiaaPRx0
import Derived.Laws.RangeAny
import Derived.RegionTactic
import Derived.ChangeAlike
import Derived.Laws.EntriesVeiled
import Derived.Deep.QuietTactic
import Derived.BigQuiet
import Derived.OwnWalkIn
import Derived.TacticsInMore
import Derived.LoopNIn
import Derived.LoopIn
import Derived.Shelf.Abstract
import Derived.Shelf.RegionOpen
/- Package disk: out, and the words of its contracts. -/
section
namespace Go.Proofs.Ytemeapfnfegkiaa.D
open Go Go.RowKit Go.Proofs.YtemeapfnfegkiaaK Go.Proofs.YtemeapfnfegkiaaW.PrintWords Go.Proofs.YtemeapfnfegkiaaW.PrintLast Go.Proofs.YtemeapfnfegkiaaW.PrintMore Go.Proofs.Ytemeapfnfegkiaa.PR
set_option linter.unusedVariables false
set_option linter.unusedSimpArgs false

/-- a row that lies alone in a block reads as its numbers -/
theorem C_lit {W : World} {b : Nat} {t : TypeId} {l : List Int} (h : W.heap[b]? = some (.cells (l.map (Value.int .i64)).toArray t (0, 0))) (hl : l.length ≤ 9223372036854775807) :
    Kd.C (Kd.int .i64) W (some ⟨b, 0, none⟩) l.length l := by
  refine ⟨rfl, hl, fun _ => ⟨_, rfl, fun j p hj => ⟨[.int .i64 p], rfl, rfl, fun i u hu => ?_⟩⟩⟩
  have hi : i = 0 := by
    have := (List.getElem?_eq_some_iff.1 hu).1
    simpa using this
  subst hi
  simp at hu
  subst hu
  rw [add_plain, blk_cell h]
  show (l.map (Value.int .i64)).toArray[j * 1 + 0]? = _
  simp [hj]

theorem at_nat {w : World} {A : Option Addr} {n : Nat} {l : List Int} (h : Kd.C (Kd.int .i64) w A n l) (k : Nat) (hk : k < n) : ∃ ad, A = some ad ∧ w.cell? (ad.add k) = some (.int .i64 (rd l k)) := by
  obtain ⟨ad, e, hc⟩ := Kd.at_int h k (by omega) (by omega)
  exact ⟨ad, e, by rw [Int.toNat_natCast] at hc; exact hc⟩

def outB (lo hi : Int) (l : List Int) : Bool := l.any fun n => decide (n < lo) || decide (hi < n)

set_option maxHeartbeats 400000 in
theorem out_calls (lo hi : Int) (l : List Int) (A : Option Addr) (c : Nat) (w : World) (hr : Kd.C (Kd.int .i64) w A l.length l) :
    Calls Try.prog 78 #[.int .i64 lo, .int .i64 hi, .slice A l.length c] w fun e w' => e = .returned (.bool (outB lo hi l)) ∧ w = w' := by
  have hlen := hr.2.1
  have HR := Aside0.mk hr
  clear hr
  go_enter Try.func78, Try.ntmps78
  go_wp2
  go_loop [11] (fun i => ∃ k : Nat, k ≤ l.length ∧ i = .int .i64 k ∧ Hid (outB lo hi l = outB lo hi (l.drop k))) (fun i => l.length - (intOf i).toNat)
  case atStart => exact ⟨0, Nat.zero_le _, rfl, rfl⟩
  case round =>
    obtain ⟨k, hk, rfl, HO⟩ := hrel
    by_cases hlt : k < l.length
    · obtain ⟨ad, e, hc⟩ := at_nat HR.out k hlt
      subst e
      have hd : l.drop k = rd l k :: l.drop (k + 1) := by
        rw [List.drop_eq_getElem_cons hlt]; congr 1
        simp [rd, hlt]
      have HO2 : Hid (outB lo hi l = ((decide (rd l k < lo) || decide (hi < rd l k)) || outB lo hi (l.drop (k + 1)))) := by
        show outB lo hi l = _
        rw [HO.out, hd]; simp [outB]
      clear hd HO
      generalize rd l k = x at *
      go_wp2
      all_goals first
        | (go_ret; exact ⟨by rw [HO2.out]; simp [*], rfl⟩)
        | (go_round
           case rel => exact ⟨k + 1, by omega, by go_num, by show _ = _; rw [HO2.out]; simp [*]; omega⟩
           case measure => simp [intOf]; omega)
    · obtain rfl : k = l.length := by omega
      go_wp2
      go_ret
      exact ⟨by rw [HO.out]; simp [outB], rfl⟩
end Go.Proofs.Ytemeapfnfegkiaa.D
end
/- Package disk: the closures of Check, first, Check. -/
section
namespace Go.Proofs.Ytemeapfnfegkiaa.D
open Go Go.RowKit Go.Proofs.YtemeapfnfegkiaaK Go.Proofs.YtemeapfnfegkiaaW.PrintWords Go.Proofs.YtemeapfnfegkiaaW.PrintLast Go.Proofs.YtemeapfnfegkiaaW.PrintMore Go.Proofs.Ytemeapfnfegkiaa.PR
set_option linter.unusedVariables false
set_option linter.unusedSimpArgs false

abbrev Spot := S80
abbrev Told := S52
abbrev Spot.v (x : Spot) : Value := .agg #[.int .i64 x.f0, .int .i64 x.f1, .bool x.f2]
abbrev Told.v (x : Told) : Value := .agg #[.int .i64 x.f0, .int .i64 x.f1, .bool x.f2]

set_option maxHeartbeats 400000 in
theorem C11_calls (x d : Spot) (q : Nat) (w : World) (hq : w.heap[q]? = some (.cells #[.int .i64 d.f0, .int .i64 d.f1, .bool d.f2] 80 (0, 0))) :
    Calls Try.prog 82 #[.agg #[.int .i64 x.f0, .int .i64 x.f1, .bool x.f2], .pointer (some ⟨q, 0, none⟩)] w fun e w' => e = .returned (.bool (x.f0 == d.f0 && x.f1 == d.f1)) ∧ Below w.heap.size w w' := by
  have h0 : w.cell? ⟨q, 0, none⟩ = some (.int .i64 d.f0) := (blk_cell hq 0).trans rfl
  have h1 : w.cell? ⟨q, 1, none⟩ = some (.int .i64 d.f1) := (blk_cell hq 1).trans rfl
  have hlt := blk_lt hq
  clear hq
  go_enter Try.func82, Try.ntmps82
  go_wp2
  all_goals (go_ret; exact ⟨by simp [*], below_alloc (Below.refl _ _) _⟩)

theorem at_spot {w : World} {A : Option Addr} {n : Nat} {xs : List Spot} (h : Kd.C k80 w A n xs) (k : Nat) (hk : k < n) : ∃ ad, A = some ad ∧ w.cell? (ad.add (k * 3)) = some (.int .i64 (rd_T80 xs k).f0) ∧ w.cell? ⟨(ad.add (k * 3)).block, (ad.add (k * 3)).off + 1, none⟩ = some (.int .i64 (rd_T80 xs k).f1) ∧ w.cell? ⟨(ad.add (k * 3)).block, (ad.add (k * 3)).off + 2, none⟩ = some (.bool (rd_T80 xs k).f2) := by
  have := at_T80 h (k : Int) (by omega) (by omega)
  simpa only [Int.toNat_natCast] using this
theorem at_told {w : World} {A : Option Addr} {n : Nat} {xs : List Told} (h : Kd.C k52 w A n xs) (k : Nat) (hk : k < n) : ∃ ad, A = some ad ∧ w.cell? (ad.add (k * 3)) = some (.int .i64 (rd_T52 xs k).f0) ∧ w.cell? ⟨(ad.add (k * 3)).block, (ad.add (k * 3)).off + 1, none⟩ = some (.int .i64 (rd_T52 xs k).f1) ∧ w.cell? ⟨(ad.add (k * 3)).block, (ad.add (k * 3)).off + 2, none⟩ = some (.bool (rd_T52 xs k).f2) := by
  have := at_T52 h (k : Int) (by omega) (by omega)
  simpa only [Int.toNat_natCast] using this
theorem spot_at (xs : List Spot) (k : Nat) (hk : k < xs.length) : rd_T80 xs (k : Int) = xs[k] := by simp [rd_T80, hk]
theorem told_at (xs : List Told) (k : Nat) (hk : k < xs.length) : rd_T52 xs (k : Int) = xs[k] := by simp [rd_T52, hk]

/-- the index of the first thing that is so, counted from k on; -1: there is none -/
def idxFrom {α : Type} (p : α → Bool) : List α → Nat → Int
  | [], _ => -1
  | x :: xs, k => if p x then k else idxFrom p xs (k + 1)
theorem idxFrom_pos {α : Type} (p : α → Bool) : ∀ (l : List α) (k : Nat), decide (0 ≤ idxFrom p l k) = l.any p
  | [], _ => by simp [idxFrom]
  | x :: xs, k => by
    unfold idxFrom
    by_cases h : p x = true
    · rw [if_pos h]; simp [h]
    · rw [if_neg h, idxFrom_pos p xs (k + 1)]; simp [h]

def sameAs (d x : Spot) : Bool := x.f0 == d.f0 && x.f1 == d.f1

set_option maxHeartbeats 400000 in
theorem indexS_calls (l : List Spot) (n : Nat) (d : Spot) (q : Nat) (A : Option Addr) (c : Nat) (w : World) (hr : Kd.C k80 w A n l) (hq : w.heap[q]? = some (.cells #[.int .i64 d.f0, .int .i64 d.f1, .bool d.f2] 80 (0, 0))) :
    Calls Try.prog 117 #[.slice A n c, .func (.func 82) #[] #[.pointer (some ⟨q, 0, none⟩)]] w fun e w' => e = .returned (.int .i64 (idxFrom (sameAs d) l 0)) ∧ Below w.heap.size w w' := by
  obtain rfl := hr.1
  have hlen := hr.2.1
  have HR := Aside0.mk hr
  have HQ := Aside0.mk hq
  clear hr hq
  go_enter Try.func117, Try.ntmps117
  go_wp2
  go_loopw [5, 8] (fun i j wr => ∃ k : Nat, k ≤ l.length ∧ j = .int .i64 k ∧ Aside0 (idxFrom (sameAs d) l 0 = idxFrom (sameAs d) (l.drop k) k) ∧ Aside0 (Below w.heap.size w wr)) (fun i j _ => l.length - (intOf j).toNat)
  case atStart => exact ⟨0, Nat.zero_le _, rfl, ⟨rfl⟩, ⟨Below.refl _ _⟩⟩
  case round =>
    obtain ⟨k, hk, rfl, HO, HB⟩ := hrel
    by_cases hlt : k < l.length
    · obtain ⟨ad, e, hc0, hc1, hc2⟩ := at_spot (Kd.C_below HR.out HB.out) k hlt
      subst e
      rw [spot_at _ _ hlt] at hc0 hc1 hc2
      have HO2 := Aside0.mk (show idxFrom (sameAs d) l 0 = if sameAs d l[k] then (k : Int) else idxFrom (sameAs d) (l.drop (k + 1)) (k + 1) by
        rw [HO.out, List.drop_eq_getElem_cons hlt]; rfl)
      clear HO
      generalize l[k] = x at *
      have hq1 := blk_below HQ.out HB.out
      by_cases hs : sameAs d x = true
      · have hs' := Aside0.mk hs
        clear hs
        go_wp2_with (go_at_call 82; refine (C11_calls x d q _ (by assumption)).mono ?_; rintro e w1 ⟨rfl, hb1⟩; rw [show (x.f0 == d.f0 && x.f1 == d.f1) = true from hs'.out])
        go_ret
        exact ⟨by rw [HO2.out, if_pos hs'.out]; rfl, HB.out.trans (hb1.mono HB.out.size)⟩
      · have hs' := Aside0.mk (Bool.eq_false_iff.2 hs)
        clear hs
        go_wp2_with (go_at_call 82; refine (C11_calls x d q _ (by assumption)).mono ?_; rintro e w1 ⟨rfl, hb1⟩; rw [show (x.f0 == d.f0 && x.f1 == d.f1) = false from hs'.out])
        go_roundw
        case rel => exact ⟨k + 1, by omega, by go_num, ⟨by rw [HO2.out, if_neg (by rw [hs'.out]; simp)]⟩, ⟨HB.out.trans (hb1.mono HB.out.size)⟩⟩
        case measure => simp [intOf]; omega
    · obtain rfl : k = l.length := by omega
      go_wp2
      go_ret
      exact ⟨by rw [HO.out]; simp [idxFrom], HB.out⟩

set_option maxHeartbeats 400000 in
theorem containsS_calls (l : List Spot) (n : Nat) (d : Spot) (q : Nat) (A : Option Addr) (c : Nat) (w : World) (hr : Kd.C k80 w A n l) (hq : w.heap[q]? = some (.cells #[.int .i64 d.f0, .int .i64 d.f1, .bool d.f2] 80 (0, 0))) :
    Calls Try.prog 81 #[.slice A n c, .func (.func 82) #[] #[.pointer (some ⟨q, 0, none⟩)]] w fun e w' => e = .returned (.bool (l.any (sameAs d))) ∧ Below w.heap.size w w' := by
  have HR := Aside0.mk hr
  have HQ := Aside0.mk hq
  clear hr hq
  go_enter Try.func81, Try.ntmps81
  go_wp2_with (go_at_call 117; refine (indexS_calls l n d q _ _ _ HR.out HQ.out).mono ?_; rintro e w1 ⟨rfl, hb1⟩)
  go_ret
  exact ⟨by rw [← idxFrom_pos (sameAs d) l 0]; rfl, hb1⟩
end Go.Proofs.Ytemeapfnfegkiaa.D
end
/- Package disk: the closures of Check, first, Check. -/
section
namespace Go.Proofs.Ytemeapfnfegkiaa.D
open Go Go.RowKit Go.Proofs.YtemeapfnfegkiaaK Go.Proofs.YtemeapfnfegkiaaW.PrintWords Go.Proofs.YtemeapfnfegkiaaW.PrintLast Go.Proofs.YtemeapfnfegkiaaW.PrintMore Go.Proofs.Ytemeapfnfegkiaa.PR
set_option linter.unusedVariables false
set_option linter.unusedSimpArgs false

theorem C_take {α : Type} {d : Kd α} {w : World} {A : Option Addr} {n : Nat} {xs : List α} (h : d.C w A n xs) (i : Nat) (hi : i ≤ n) : d.C w A i (xs.take i) := by
  refine ⟨by rw [List.length_take, h.1]; omega, by have := h.2.1; omega, fun h0 => ?_⟩
  obtain ⟨ad, e, hc⟩ := h.2.2 (by omega)
  exact ⟨ad, e, fun j p hj => hc j p (by rw [List.getElem?_take] at hj; split at hj; · exact hj
                                         · cases hj)⟩

theorem lit1 {W : World} {b : Nat} {t : TypeId} (x : Int) (hb : W.heap.size = b) : Kd.C (Kd.int .i64) (W.alloc (.cells #[.int .i64 x] t)) (some ⟨b, 0, none⟩) [x].length [x] :=
  C_lit (t := t) (by subst hb; exact blk_new _ _) (by simp)
theorem lit2 {W : World} {b : Nat} {t : TypeId} (x y : Int) (hb : W.heap.size = b) : Kd.C (Kd.int .i64) (W.alloc (.cells #[.int .i64 x, .int .i64 y] t)) (some ⟨b, 0, none⟩) [x, y].length [x, y] :=
  C_lit (t := t) (by subst hb; exact blk_new _ _) (by simp)

/-- the error of a dot -/
def errS (l : List Spot) (i : Nat) (d : Spot) : Int := if outB (-12) 12 [d.f0, d.f1] then 7 else if (l.take i).any (sameAs d) then 5 else 0

set_option maxHeartbeats 400000 in
theorem CheckC1_calls (l : List Spot) (i : Nat) (d : Spot) (bs : Nat) (nm : ByteArray) (rad lo hi : Int) (A : Option Addr) (c : Nat) (v5 : Value) (w : World)
    (hr : Kd.C k80 w A l.length l) (hc : l.length ≤ c) (hi' : i ≤ l.length) (hs : w.heap[bs]? = some (.cells #[.string nm, .int .i64 rad, .int .i64 lo, .int .i64 hi, .slice A l.length c, v5] 27 (0, 0))) :
    Calls Try.prog 80 #[.int .i64 i, .agg #[.int .i64 d.f0, .int .i64 d.f1, .bool d.f2], .pointer (some ⟨bs, 0, none⟩)] w fun e w' => e = .returned (.int .i64 (errS l i d)) ∧ Below w.heap.size w w' := by
  have hlen := hr.2.1
  have HR := Aside0.mk hr
  have HS := Aside0.mk hs
  have hlt := blk_lt hs
  clear hr hs
  go_enter Try.func80, Try.ntmps80
  by_cases ho : outB (-12) 12 [d.f0, d.f1] = true
  · have HO := Aside0.mk ho
    clear ho
    go_wp2_with (go_at_call 78; refine (out_calls (-12) 12 [d.f0, d.f1] _ _ _ (lit2 d.f0 d.f1 (by simp))).mono ?_; rintro e w1 ⟨rfl, rfl⟩; rw [HO.out])
    go_ret
    exact ⟨by rw [errS, if_pos HO.out]; rfl, below_alloc (below_alloc (Below.refl _ _) _) _⟩
  · have HO := Aside0.mk (Bool.eq_false_iff.2 ho)
    have hs3 : w.cell? ⟨bs, 4, none⟩ = some (.slice A l.length c) := (blk_cell HS.out 4).trans rfl
    clear ho
    have hb2 := Aside0.mk (below_alloc (below_alloc (Below.refl w.heap.size w) (.cells #[.int .i64 d.f0, .int .i64 d.f1, .bool d.f2] 80)) (.cells #[.int .i64 d.f0, .int .i64 d.f1] 3))
    obtain ⟨b, hb⟩ : ∃ b, (l.take i).any (sameAs d) = b := ⟨_, rfl⟩
    have HN := Aside0.mk hb
    clear hb
    cases b
    all_goals
      go_wp2_with (first | (go_at_call 78; refine (out_calls (-12) 12 [d.f0, d.f1] _ _ _ (lit2 d.f0 d.f1 (by simp))).mono ?_; rintro e w1 ⟨rfl, rfl⟩; rw [HO.out]) | (go_at_call 81; refine (containsS_calls (l.take i) i d _ _ _ _ (C_take (Kd.C_below HR.out hb2.out) i hi') (blk_alloc (blk_new _ _) _)).mono ?_; rintro e w1 ⟨rfl, hb1⟩; rw [HN.out]))
      go_ret
      exact ⟨by rw [errS, if_neg (by rw [HO.out]; simp), HN.out]; rfl, hb2.out.trans (hb1.mono hb2.out.size)⟩

/-- the first thing with an error, counted from k on -/
def firstE {α : Type} (E : Nat → α → Int) : List α → Nat → Int × Int
  | [], _ => (0, 0)
  | x :: xs, k => if E k x = 0 then firstE E xs (k + 1) else (k, E k x)
def firstL {α : Type} (l : List α) (most : Int) (E : Nat → α → Int) : Int × Int := if most < l.length then (0, 3) else firstE E l 0

set_option maxHeartbeats 400000 in
theorem firstS_calls (l : List Spot) (most : Int) (bs : Nat) (nm : ByteArray) (rad lo hi : Int) (A : Option Addr) (c : Nat) (v5 : Value) (w : World)
    (hr : Kd.C k80 w A l.length l) (hc : l.length ≤ c) (hs : w.heap[bs]? = some (.cells #[.string nm, .int .i64 rad, .int .i64 lo, .int .i64 hi, .slice A l.length c, v5] 27 (0, 0))) :
    Calls Try.prog 79 #[.slice A l.length c, .int .i64 most, .func (.func 80) #[] #[.pointer (some ⟨bs, 0, none⟩)]] w
      fun e w' => e = .returned (.tuple #[.int .i64 (firstL l most (errS l)).1, .int .i64 (firstL l most (errS l)).2]) ∧ Below w.heap.size w w' := by
  have hlen := hr.2.1
  have HR := Aside0.mk hr
  have HS := Aside0.mk hs
  clear hr hs
  by_cases hm : most < l.length
  · go_enter Try.func79, Try.ntmps79
    go_wp2
    go_ret2
    exact ⟨by simp [firstL, hm], Below.refl _ _⟩
  · have HM := Aside0.mk hm
    go_enter Try.func79, Try.ntmps79
    go_wp2
    go_loopw [17] (fun j wr => ∃ k : Nat, k ≤ l.length ∧ j = .int .i64 k ∧ Aside0 (firstL l most (errS l) = firstE (errS l) (l.drop k) k) ∧ Aside0 (Below w.heap.size w wr)) (fun j _ => l.length - (intOf j).toNat)
    case atStart => exact ⟨0, Nat.zero_le _, rfl, ⟨by rw [firstL, if_neg (by have := HM.out; omega)]; rfl⟩, ⟨Below.refl _ _⟩⟩
    case round =>
      obtain ⟨k, hk, rfl, HO, HB⟩ := hrel
      by_cases hlt : k < l.length
      · obtain ⟨ad, e, hc0, hc1, hc2⟩ := at_spot (Kd.C_below HR.out HB.out) k hlt
        subst e
        rw [spot_at _ _ hlt] at hc0 hc1 hc2
        have HO2 := Aside0.mk (show firstL l most (errS l) = if errS l k l[k] = 0 then firstE (errS l) (l.drop (k + 1)) (k + 1) else (k, errS l k l[k]) by
          rw [HO.out, List.drop_eq_getElem_cons hlt]; rfl)
        clear HO
        generalize l[k] = x at *
        obtain ⟨E, hE⟩ : ∃ E, errS l k x = E := ⟨_, rfl⟩
        have HE := Aside0.mk hE
        clear hE
        have HB2 := Aside0.mk (below_alloc HB.out (.cells #[.int .i64 x.f0, .int .i64 x.f1, .bool x.f2] 80))
        by_cases h0 : E = 0
        all_goals
          go_wp2_with (go_at_call 80; refine (CheckC1_calls l k x bs nm rad lo hi _ c v5 _ (Kd.C_below HR.out HB2.out) hc hk (blk_below HS.out HB2.out)).mono ?_; rintro e w1 ⟨rfl, hb1⟩; rw [HE.out])
          first
            | (go_roundw
               case rel => exact ⟨k + 1, by omega, by go_num, ⟨by rw [HO2.out, HE.out, if_pos (by assumption)]⟩, ⟨HB2.out.trans (hb1.mono HB2.out.size)⟩⟩
               case measure => simp [intOf]; omega)
            | (go_ret2
               exact ⟨by rw [HO2.out, HE.out, if_neg (by assumption)]; rfl, HB2.out.trans (hb1.mono HB2.out.size)⟩)
      · obtain rfl : k = l.length := by omega
        go_wp2
        go_ret2
        exact ⟨by rw [HO.out]; simp [firstE], HB.out⟩
end Go.Proofs.Ytemeapfnfegkiaa.D
end
/- Package disk: Name; Check. -/
section
namespace Go.Proofs.Ytemeapfnfegkiaa.D
open Go Go.RowKit Go.Proofs.YtemeapfnfegkiaaK Go.Proofs.YtemeapfnfegkiaaW.PrintWords Go.Proofs.YtemeapfnfegkiaaW.PrintLast Go.Proofs.YtemeapfnfegkiaaW.PrintMore Go.Proofs.Ytemeapfnfegkiaa.PR
set_option linter.unusedVariables false
set_option linter.unusedSimpArgs false

def okByte (first : Bool) (b : Int) : Bool := (decide (97 ≤ b) && decide (b ≤ 122)) || (!first && (b == 46 || (decide (48 ≤ b) && decide (b ≤ 57))))
def okTo (s : ByteArray) (k : Nat) : Bool := (List.range k).all fun i => okByte (i == 0) (bt s i)
def nameB (s : ByteArray) : Bool := !outB 1 16 [(s.size : Int)] && okTo s s.size

theorem bt_nat (s : ByteArray) (k : Nat) (h : k < s.size) : bt s (k : Int) = ((s[k]'h).toNat : Int) := by simp [bt, h]
theorem okTo_succ (s : ByteArray) (k : Nat) : okTo s (k + 1) = (okTo s k && okByte (k == 0) (bt s k)) := by simp [okTo, List.range_succ]
theorem okTo_le (s : ByteArray) {k n : Nat} (h : k ≤ n) (hf : okTo s k = false) : okTo s n = false := by
  induction n with
  | zero => have : k = 0 := by omega
            subst this; exact hf
  | succ n ih =>
    by_cases e : k = n + 1
    · subst e; exact hf
    · rw [okTo_succ, ih (by omega)]; rfl

theorem okByte_iff (k : Nat) (b : Int) : okByte (k == 0) b = true ↔ ((97 ≤ b ∧ b ≤ 122) ∨ (0 < k ∧ (b = 46 ∨ (48 ≤ b ∧ b ≤ 57)))) := by
  unfold okByte
  cases k <;> simp
theorem okByte_not (k : Nat) (b : Int) (h : ¬ ((97 ≤ b ∧ b ≤ 122) ∨ (0 < k ∧ (b = 46 ∨ (48 ≤ b ∧ b ≤ 57))))) : okByte (k == 0) b = false := by
  rw [Bool.eq_false_iff]; intro h'; exact h ((okByte_iff k b).1 h')

set_option maxHeartbeats 1000000 in
theorem Name_calls (s : ByteArray) (w : World) (hs : s.size ≤ 9223372036854775807) :
    Calls Try.prog 20 #[.string s] w fun e w' => e = .returned (.bool (nameB s)) ∧ Below w.heap.size w w' := by
  go_enter Try.func20, Try.ntmps20
  go_wp2
  go_loopw [7] (fun _ wr => ∃ k : Nat, k ≤ s.size ∧ wr = w.iter s k ∧ Aside0 (okTo s k = true)) (fun _ wr => s.size - wr.iterPos w.heap.size)
  case atStart => exact ⟨0, Nat.zero_le _, rfl, ⟨rfl⟩⟩
  case round =>
    obtain ⟨k, hk, rfl, HO⟩ := hrel
    by_cases hlt : k < s.size
    · by_cases ha : (s[k]'hlt).toNat < 128
      · have hn := fun ty => run_next_ascii (P := Try.prog) w s k ty hlt ha
        obtain ⟨b, hb⟩ : ∃ b : Int, ((s[k]'hlt).toNat : Int) = b := ⟨_, rfl⟩
        rw [hb] at hn
        have hbt : bt s k = b := by rw [← hb]; exact bt_nat s k hlt
        have hb0 : 0 ≤ b := by omega
        have HBT := Aside0.mk hbt
        clear hbt hb ha
        have HL : Aside0 (okByte (k == 0) b = false → nameB s = false) := ⟨fun h => by
          have : okTo s (k + 1) = false := by rw [okTo_succ, HBT.out, h]; simp
          rw [nameB, okTo_le s (show k + 1 ≤ s.size by omega) this]; simp⟩
        have HR : Aside0 (okByte (k == 0) b = true → okTo s (k + 1) = true) := ⟨fun h => by rw [okTo_succ, HBT.out, h, HO.out]; rfl⟩
        clear HO HBT
        by_cases h46 : b = 46
        · subst h46
          clear hb0
          go_wp2
          all_goals first
            | (go_roundw
               case rel => exact ⟨k + 1, by omega, rfl, ⟨HR.out ((okByte_iff _ _).2 (by omega))⟩⟩
               case measure => simp; omega)
            | (go_ret
               exact ⟨by rw [HL.out (okByte_not _ _ (by omega))]; rfl, below_alloc (Below.refl _ _) _⟩)
        · have h46' : (b == 46) = false := beq_eq_false_iff_ne.2 h46
          go_wp2
          all_goals first
            | (go_roundw
               case rel => exact ⟨k + 1, by omega, rfl, ⟨HR.out ((okByte_iff _ _).2 (by omega))⟩⟩
               case measure => simp; omega)
            | (go_ret
               exact ⟨by rw [HL.out (okByte_not _ _ (by omega))]; rfl, below_alloc (Below.refl _ _) _⟩)
      · have hn := fun ty => run_next_any (P := Try.prog) w s k ty hlt
        have hd := decode_high s k hlt (by omega)
        obtain ⟨r, hr⟩ : ∃ r, Utf8.decode s k = r := ⟨_, rfl⟩
        rw [hr] at hn hd
        obtain ⟨r, m⟩ := r
        have hr1 : ¬ ((r : Int) ≤ 122) := by have := hd.1; simp at this; omega
        have hr2 : ((r : Int) == 46) = false := beq_eq_false_iff_ne.2 (by omega)
        have hr3 : ¬ ((r : Int) ≤ 57) := by omega
        have HL : Aside0 (nameB s = false) := ⟨by
          have : okTo s (k + 1) = false := by
            rw [okTo_succ, okByte_not _ _ (by rw [bt_nat s k hlt]; omega)]; simp
          rw [nameB, okTo_le s (show k + 1 ≤ s.size by omega) this]; simp⟩
        clear hr hd ha
        go_wp2
        all_goals
          go_ret
          exact ⟨by rw [HL.out]; rfl, below_alloc (Below.refl _ _) _⟩
    · have hn := fun ty => run_next_end (P := Try.prog) w s k ty hlt
      obtain rfl : k = s.size := by omega
      go_wp2_with (go_at_call 78; refine (out_calls 1 16 [(s.size : Int)] _ _ _ (lit1 _ (by simp [World.iter]))).mono ?_; rintro e w1 ⟨rfl, rfl⟩)
      go_ret
      exact ⟨by rw [nameB, HO.out]; simp, below_alloc (below_alloc (Below.refl _ _) _) _⟩
end Go.Proofs.Ytemeapfnfegkiaa.D
end
/- Package disk: Check. -/
section
namespace Go.Proofs.Ytemeapfnfegkiaa.D
open Go Go.RowKit Go.Proofs.YtemeapfnfegkiaaK Go.Proofs.YtemeapfnfegkiaaW.PrintWords Go.Proofs.YtemeapfnfegkiaaW.PrintLast Go.Proofs.YtemeapfnfegkiaaW.PrintMore Go.Proofs.Ytemeapfnfegkiaa.PR
set_option linter.unusedVariables false
set_option linter.unusedSimpArgs false

/-- the error of a thing that was told of n dots -/
def errT (n : Nat) (_ : Nat) (t : Told) : Int := if outB 0 ((n : Int) - 1) [t.f0, t.f1] then 4 else if t.f0 = t.f1 then 2 else 0

set_option maxHeartbeats 400000 in
theorem CheckC2_calls (n : Nat) (i : Nat) (t : Told) (bs : Nat) (nm : ByteArray) (rad lo hi : Int) (A : Option Addr) (c : Nat) (v5 : Value) (w : World)
    (hn : n ≤ 9223372036854775807) (hs : w.heap[bs]? = some (.cells #[.string nm, .int .i64 rad, .int .i64 lo, .int .i64 hi, .slice A n c, v5] 27 (0, 0))) :
    Calls Try.prog 84 #[.int .i64 i, .agg #[.int .i64 t.f0, .int .i64 t.f1, .bool t.f2], .pointer (some ⟨bs, 0, none⟩)] w fun e w' => e = .returned (.int .i64 (errT n i t)) ∧ Below w.heap.size w w' := by
  have HS := Aside0.mk hs
  have hlt := blk_lt hs
  have hs3 : w.cell? ⟨bs, 4, none⟩ = some (.slice A n c) := (blk_cell hs 4).trans rfl
  clear hs
  have hb2 := Aside0.mk (below_alloc (below_alloc (Below.refl w.heap.size w) (.cells #[.int .i64 t.f0, .int .i64 t.f1, .bool t.f2] 52)) (.cells #[.int .i64 t.f0, .int .i64 t.f1] 3))
  go_enter Try.func84, Try.ntmps84
  obtain ⟨b, hb⟩ : ∃ b, outB 0 ((n : Int) - 1) [t.f0, t.f1] = b := ⟨_, rfl⟩
  have HO := Aside0.mk hb
  clear hb
  by_cases he : t.f0 = t.f1 <;> cases b
  all_goals
    have HE := Aside0.mk he
    clear he
    go_wp2_with (go_at_call 78; refine (out_calls 0 ((n : Int) - 1) [t.f0, t.f1] _ _ _ (lit2 t.f0 t.f1 (by simp))).mono ?_; rintro e w1 ⟨rfl, rfl⟩; rw [HO.out])
    all_goals
      go_ret
      exact ⟨by rw [errT, HO.out]; first | rfl | (have := HE.out; simp [*]; done) | (have := HE.out; simp_all; done), hb2.out⟩

set_option maxHeartbeats 400000 in
theorem firstT_calls (l : List Told) (n : Nat) (most : Int) (bs : Nat) (nm : ByteArray) (rad lo hi : Int) (A4 : Option Addr) (c4 : Nat) (A : Option Addr) (c : Nat) (v5 : Value) (w : World)
    (hr : Kd.C k52 w A l.length l) (hn : n ≤ 9223372036854775807) (hs : w.heap[bs]? = some (.cells #[.string nm, .int .i64 rad, .int .i64 lo, .int .i64 hi, .slice A4 n c4, v5] 27 (0, 0))) :
    Calls Try.prog 83 #[.slice A l.length c, .int .i64 most, .func (.func 84) #[] #[.pointer (some ⟨bs, 0, none⟩)]] w
      fun e w' => e = .returned (.tuple #[.int .i64 (firstL l most (errT n)).1, .int .i64 (firstL l most (errT n)).2]) ∧ Below w.heap.size w w' := by
  have hlen := hr.2.1
  have HR := Aside0.mk hr
  have HS := Aside0.mk hs
  clear hr hs
  by_cases hm : most < l.length
  · go_enter Try.func83, Try.ntmps83
    go_wp2
    go_ret2
    exact ⟨by simp [firstL, hm], Below.refl _ _⟩
  · have HM := Aside0.mk hm
    go_enter Try.func83, Try.ntmps83
    go_wp2
    go_loopw [17] (fun j wr => ∃ k : Nat, k ≤ l.length ∧ j = .int .i64 k ∧ Aside0 (firstL l most (errT n) = firstE (errT n) (l.drop k) k) ∧ Aside0 (Below w.heap.size w wr)) (fun j _ => l.length - (intOf j).toNat)
    case atStart => exact ⟨0, Nat.zero_le _, rfl, ⟨by rw [firstL, if_neg (by have := HM.out; omega)]; rfl⟩, ⟨Below.refl _ _⟩⟩
    case round =>
      obtain ⟨k, hk, rfl, HO, HB⟩ := hrel
      by_cases hlt : k < l.length
      · obtain ⟨ad, e, hc0, hc1, hc2⟩ := at_told (Kd.C_below HR.out HB.out) k hlt
        subst e
        rw [told_at _ _ hlt] at hc0 hc1 hc2
        have HO2 := Aside0.mk (show firstL l most (errT n) = if errT n k l[k] = 0 then firstE (errT n) (l.drop (k + 1)) (k + 1) else (k, errT n k l[k]) by
          rw [HO.out, List.drop_eq_getElem_cons hlt]; rfl)
        clear HO
        generalize l[k] = x at *
        obtain ⟨E, hE⟩ : ∃ E, errT n k x = E := ⟨_, rfl⟩
        have HE := Aside0.mk hE
        clear hE
        have HB2 := Aside0.mk (below_alloc HB.out (.cells #[.int .i64 x.f0, .int .i64 x.f1, .bool x.f2] 52))
        by_cases h0 : E = 0
        all_goals
          go_wp2_with (go_at_call 84; refine (CheckC2_calls n k x bs nm rad lo hi _ c4 v5 _ hn (blk_below HS.out HB2.out)).mono ?_; rintro e w1 ⟨rfl, hb1⟩; rw [HE.out])
          first
            | (go_roundw
               case rel => exact ⟨k + 1, by omega, by go_num, ⟨by rw [HO2.out, HE.out, if_pos (by assumption)]⟩, ⟨HB2.out.trans (hb1.mono HB2.out.size)⟩⟩
               case measure => simp [intOf]; omega)
            | (go_ret2
               exact ⟨by rw [HO2.out, HE.out, if_neg (by assumption)]; rfl, HB2.out.trans (hb1.mono HB2.out.size)⟩)
      · obtain rfl : k = l.length := by omega
        go_wp2
        go_ret2
        exact ⟨by rw [HO.out]; simp [firstE], HB.out⟩

/-- what a sheet holds -/
structure Dat where
  nm : ByteArray
  rad : Int
  lo : Int
  hi : Int
  spots : List Spot
  told : List Told

def checkF (D : Dat) : Int × Int × Int :=
  if nameB D.nm = false then (1, 0, 6) else if (outB 1 12 [D.rad] || outB 0 12 [D.lo, D.hi]) = true then (1, 0, 7) else if D.hi < D.lo then (1, 0, 2)
  else if (firstL D.spots 7 (errS D.spots)).2 ≠ 0 then (2, firstL D.spots 7 (errS D.spots)) else if (firstL D.told 4 (errT D.spots.length)).2 ≠ 0 then (3, firstL D.told 4 (errT D.spots.length)) else (0, 0, 0)

/-- a sheet's slices, as they came in -/
structure Arg (w : World) (D : Dat) (A4 : Option Addr) (c4 : Nat) (A5 : Option Addr) (c5 : Nat) : Prop where
  nm : D.nm.size ≤ 9223372036854775807
  s : Kd.C k80 w A4 D.spots.length D.spots
  sc : D.spots.length ≤ c4
  t : Kd.C k52 w A5 D.told.length D.told
  tc : D.told.length ≤ c5
theorem Arg.below {w w' : World} {D : Dat} {A4 : Option Addr} {c4 : Nat} {A5 : Option Addr} {c5 : Nat} (h : Arg w D A4 c4 A5 c5) (hb : Below w.heap.size w w') : Arg w' D A4 c4 A5 c5 :=
  ⟨h.nm, Kd.C_below h.s hb, h.sc, Kd.C_below h.t hb, h.tc⟩

set_option maxHeartbeats 1000000 in
theorem Check_calls (D : Dat) (A4 : Option Addr) (c4 : Nat) (A5 : Option Addr) (c5 : Nat) (w : World) (h : Arg w D A4 c4 A5 c5) :
    Calls Try.prog 18 #[.agg #[.string D.nm, .int .i64 D.rad, .int .i64 D.lo, .int .i64 D.hi, .slice A4 D.spots.length c4, .slice A5 D.told.length c5]] w
      fun e w' => e = .returned (.tuple #[.int .i64 (checkF D).1, .int .i64 (checkF D).2.1, .int .i64 (checkF D).2.2]) ∧ Below w.heap.size w w' := by
  have HA := Aside0.mk h
  have hn5 : D.spots.length ≤ 9223372036854775807 := h.s.2.1
  have HX := Aside0.mk (blk_new w (.cells #[.string D.nm, .int .i64 D.rad, .int .i64 D.lo, .int .i64 D.hi, .slice A4 D.spots.length c4, .slice A5 D.told.length c5] 27))
  have hbx := Aside0.mk (below_alloc (Below.refl w.heap.size w) (.cells #[.string D.nm, .int .i64 D.rad, .int .i64 D.lo, .int .i64 D.hi, .slice A4 D.spots.length c4, .slice A5 D.told.length c5] 27))
  clear h
  obtain ⟨r, hr⟩ : ∃ r, checkF D = r := ⟨_, rfl⟩
  have HF := Aside0.mk hr
  clear hr
  rw [HF.out]
  go_enter Try.func18, Try.ntmps18
  go_wp2_with fail
  refine (Name_calls D.nm _ HA.out.nm).mono ?_
  rintro e w1 ⟨rfl, hb1⟩
  have HX1 := Aside0.mk (blk_below HX.out hb1)
  have HB1 := Aside0.mk (hbx.out.trans (hb1.mono hbx.out.size))
  clear hb1 hbx HX
  have x1 : w1.cell? ⟨w.heap.size, 1, none⟩ = some (.int .i64 D.rad) := (blk_cell HX1.out 1).trans rfl
  have x2 : w1.cell? ⟨w.heap.size, 2, none⟩ = some (.int .i64 D.lo) := (blk_cell HX1.out 2).trans rfl
  have x3 : w1.cell? ⟨w.heap.size, 3, none⟩ = some (.int .i64 D.hi) := (blk_cell HX1.out 3).trans rfl
  have x4 : w1.cell? ⟨w.heap.size, 4, none⟩ = some (.slice A4 D.spots.length c4) := (blk_cell HX1.out 4).trans rfl
  have hlt1 := blk_lt HX1.out
  obtain ⟨b1, hb1⟩ : ∃ b, nameB D.nm = b := ⟨_, rfl⟩
  have H1 := Aside0.mk hb1
  rw [hb1]
  clear hb1
  cases b1
  · have hr : r = (1, 0, 6) := by rw [← HF.out, checkF, H1.out]; rfl
    subst hr
    go_wp2
    go_ret3
    exact ⟨rfl, HB1.out⟩
  · go_wp2_with fail
    refine (out_calls 1 12 [D.rad] _ _ _ (lit1 _ rfl)).mono ?_
    rintro e w2 ⟨rfl, rfl⟩
    obtain ⟨b2, hb2⟩ : ∃ b, outB 1 12 [D.rad] = b := ⟨_, rfl⟩
    have H2 := Aside0.mk hb2
    rw [hb2]
    clear hb2
    cases b2
    · go_wp2_with fail
      refine (out_calls 0 12 [D.lo, D.hi] _ _ _ (lit2 _ _ (by simp))).mono ?_
      rintro e w2 ⟨rfl, rfl⟩
      obtain ⟨b3, hb3⟩ : ∃ b, outB 0 12 [D.lo, D.hi] = b := ⟨_, rfl⟩
      have H3 := Aside0.mk hb3
      rw [hb3]
      clear hb3
      cases b3
      · by_cases hlo : D.hi < D.lo
        · have hr : r = (1, 0, 2) := by rw [← HF.out, checkF, H1.out, H2.out, H3.out, if_neg (by simp), if_neg (by simp), if_pos hlo]
          subst hr
          go_wp2
          go_ret3
          exact ⟨rfl, below_alloc (below_alloc HB1.out _) _⟩
        · have HL := Aside0.mk hlo
          go_wp2_with fail
          have hb2 := below_alloc (below_alloc (Below.refl w1.heap.size w1) (.cells #[.int .i64 D.rad] 3)) (.cells #[.int .i64 D.lo, .int .i64 D.hi] 3)
          have HB2 := Aside0.mk (HB1.out.trans (hb2.mono HB1.out.size))
          have HX2 := Aside0.mk (blk_below HX1.out hb2)
          clear hb2
          refine (firstS_calls D.spots 7 w.heap.size D.nm D.rad D.lo D.hi A4 c4 _ _ (Kd.C_below HA.out.s HB2.out) HA.out.sc HX2.out).mono ?_
          rintro e w3 ⟨rfl, hb3⟩
          have HB3 := Aside0.mk (HB2.out.trans (hb3.mono HB2.out.size))
          have HX3 := Aside0.mk (blk_below HX2.out hb3)
          clear hb3 x1 x2 x3 x4
          have x5 : w3.cell? ⟨w.heap.size, 5, none⟩ = some (.slice A5 D.told.length c5) := (blk_cell HX3.out 5).trans rfl
          obtain ⟨f, hf⟩ : ∃ f, firstL D.spots 7 (errS D.spots) = f := ⟨_, rfl⟩
          have HS := Aside0.mk hf
          rw [hf]
          clear hf
          obtain ⟨f1, f2⟩ := f
          by_cases h0 : f2 = 0
          · subst h0
            go_wp2_with fail
            refine (firstT_calls D.told D.spots.length 4 w.heap.size D.nm D.rad D.lo D.hi A4 c4 A5 c5 _ _ (Kd.C_below HA.out.t HB3.out) hn5 HX3.out).mono ?_
            rintro e w4 ⟨rfl, hb4⟩
            have HB4 := Aside0.mk (HB3.out.trans (hb4.mono HB3.out.size))
            clear hb4 x5
            obtain ⟨g, hg⟩ : ∃ g, firstL D.told 4 (errT D.spots.length) = g := ⟨_, rfl⟩
            have HT := Aside0.mk hg
            rw [hg]
            clear hg
            obtain ⟨g1, g2⟩ := g
            by_cases h1 : g2 = 0
            · subst h1
              have hr : r = (0, 0, 0) := by rw [← HF.out, checkF, H1.out, H2.out, H3.out, HS.out, HT.out, if_neg (by simp), if_neg (by simp), if_neg (by have := HL.out; omega), if_neg (by simp), if_neg (by simp)]
              subst hr
              go_wp2
              go_ret3
              exact ⟨rfl, HB4.out⟩
            · have hr : r = (3, g1, g2) := by rw [← HF.out, checkF, H1.out, H2.out, H3.out, HS.out, HT.out, if_neg (by simp), if_neg (by simp), if_neg (by have := HL.out; omega), if_neg (by simp), if_pos h1]
              subst hr
              go_wp2
              go_ret3
              exact ⟨rfl, HB4.out⟩
          · have hr : r = (2, f1, f2) := by rw [← HF.out, checkF, H1.out, H2.out, H3.out, HS.out, if_neg (by simp), if_neg (by simp), if_neg (by have := HL.out; omega), if_pos h0]
            subst hr
            go_wp2
            go_ret3
            exact ⟨rfl, HB3.out⟩
      · have hr : r = (1, 0, 7) := by rw [← HF.out, checkF, H1.out, H2.out, H3.out]; rfl
        subst hr
        go_wp2
        go_ret3
        exact ⟨rfl, below_alloc (below_alloc HB1.out _) _⟩
    · have hr : r = (1, 0, 7) := by rw [← HF.out, checkF, H1.out, H2.out]; rfl
      subst hr
      go_wp2
      go_ret3
      exact ⟨rfl, below_alloc HB1.out _⟩
end Go.Proofs.Ytemeapfnfegkiaa.D
end
/- Package disk: groups: the closure join. -/
section
namespace Go.Proofs.Ytemeapfnfegkiaa.D
open Go Go.RowKit Go.Proofs.YtemeapfnfegkiaaK Go.Proofs.YtemeapfnfegkiaaW.PrintWords Go.Proofs.YtemeapfnfegkiaaW.PrintLast Go.Proofs.YtemeapfnfegkiaaW.PrintMore Go.Proofs.Ytemeapfnfegkiaa.PR
set_option linter.unusedVariables false
set_option linter.unusedSimpArgs false

abbrev vec (g : Nat → Int) : Array Value := #[.int .i64 (g 0), .int .i64 (g 1), .int .i64 (g 2), .int .i64 (g 3), .int .i64 (g 4), .int .i64 (g 5), .int .i64 (g 6)]
def upd (g : Nat → Int) (k : Nat) (x : Int) : Nat → Int := fun j => if j = k then x else g j
theorem vec_get (g : Nat → Int) (k : Nat) (hk : k < 7) : (vec g)[k]? = some (.int .i64 (g k)) := by
  match k, hk with
  | 0, _ => rfl | 1, _ => rfl | 2, _ => rfl | 3, _ => rfl | 4, _ => rfl | 5, _ => rfl | 6, _ => rfl
theorem vec_set (g : Nat → Int) (k : Nat) (x : Int) (hk : k < 7) : (vec g).setIfInBounds k (.int .i64 x) = vec (upd g k x) := by
  match k, hk with
  | 0, _ => rfl | 1, _ => rfl | 2, _ => rfl | 3, _ => rfl | 4, _ => rfl | 5, _ => rfl | 6, _ => rfl

/-- what the closure join does -/
def joinF (adj : Nat → Nat → Bool) (n : Nat) (m : Int) : Nat → (Nat → Int) → Nat → (Nat → Int)
  | 0, g, _ => g
  | f + 1, g, d => (List.range n).foldl (fun g k => if adj d k && g k == 0 then joinF adj n m f g k else g) (upd g d m)
def nearS (l : List Spot) (near : Int) (d k : Nat) : Bool := !outB (-near) near [(rd_T80 l d).f0 - (rd_T80 l k).f0, (rd_T80 l d).f1 - (rd_T80 l k).f1]
def adjS (l : List Spot) (near : Int) (set : Nat) (d k : Nat) : Bool := set.testBit k && nearS l near d k

abbrev shCells (D : Dat) (A4 : Option Addr) (c4 : Nat) (A5 : Option Addr) (c5 : Nat) (but : Int) (mp : Nat) : Array Value :=
  #[.string D.nm, .int .i64 D.rad, .int .i64 D.lo, .int .i64 D.hi, .slice A4 D.spots.length c4, .slice A5 D.told.length c5, .int .i64 but, .map (some mp)]

/-- the memory of groups while join runs -/
structure JW (w0 W : World) (D : Dat) (A4 : Option Addr) (c4 : Nat) (A5 : Option Addr) (c5 : Nat) (but : Int) (mp b Bm Bg Bs Bv Bj : Nat) (m near : Int) (set : Nat) (g : Nat → Int) : Prop where
  base : Below w0.heap.size w0 W
  sh : W.heap[b]? = some (.cells (shCells D A4 c4 A5 c5 but mp) 151 (0, 0))
  bm : W.heap[Bm]? = some (.cells #[.int .i64 m] 3 (0, 0))
  bg : W.heap[Bg]? = some (.cells (vec g) 118 (0, 0))
  bs : W.heap[Bs]? = some (.cells #[.pointer (some ⟨b, 0, none⟩)] 112 (0, 0))
  bv : W.heap[Bv]? = some (.cells #[.int .i64 near, .int .i64 set] 130 (0, 0))
  bj : W.heap[Bj]? = some (.cells #[.func (.func 139) #[] #[.pointer (some ⟨Bm, 0, none⟩), .pointer (some ⟨Bg, 0, none⟩), .pointer (some ⟨Bs, 0, none⟩), .pointer (some ⟨Bv, 0, none⟩), .pointer (some ⟨Bj, 0, none⟩)]] 166 (0, 0))
  gg : w0.heap.size ≤ Bg

/-- what Check has looked at -/
structure Valid (D : Dat) : Prop where
  n7 : D.spots.length ≤ 7
  t4 : D.told.length ≤ 4
  rad : 1 ≤ D.rad ∧ D.rad ≤ 12
  lo : 0 ≤ D.lo
  hi : D.hi ≤ 12
  le : D.lo ≤ D.hi
  xy : ∀ k : Nat, k < D.spots.length → -12 ≤ (rd_T80 D.spots k).f0 ∧ (rd_T80 D.spots k).f0 ≤ 12 ∧ -12 ≤ (rd_T80 D.spots k).f1 ∧ (rd_T80 D.spots k).f1 ≤ 12
  ab : ∀ k : Nat, k < D.told.length → 0 ≤ (rd_T52 D.told k).f0 ∧ (rd_T52 D.told k).f0 < D.spots.length ∧ 0 ≤ (rd_T52 D.told k).f1 ∧ (rd_T52 D.told k).f1 < D.spots.length ∧ (rd_T52 D.told k).f0 ≠ (rd_T52 D.told k).f1

theorem JW.set {w0 W : World} {D : Dat} {A4 : Option Addr} {c4 : Nat} {A5 : Option Addr} {c5 : Nat} {but : Int} {mp b Bm Bg Bs Bv Bj : Nat} {m near : Int} {set : Nat} {g : Nat → Int}
    (h : JW w0 W D A4 c4 A5 c5 but mp b Bm Bg Bs Bv Bj m near set g) (d : Nat) (x : Int) (hd : d < 7) : JW w0 (W.setCell ⟨Bg, d, none⟩ (.int .i64 x)) D A4 c4 A5 c5 but mp b Bm Bg Bs Bv Bj m near set (upd g d x) :=
  ⟨h.base.setCell h.gg _, blk_far h.sh (blk_ne h.sh h.bg (by decide)) _, blk_far h.bm (blk_ne h.bm h.bg (by decide)) _,
   by rw [← vec_set g d x hd]; exact blk_set h.bg d _, blk_far h.bs (blk_ne h.bs h.bg (by decide)) _, blk_far h.bv (blk_ne h.bv h.bg (by decide)) _, blk_far h.bj (blk_ne h.bj h.bg (by decide)) _, h.gg⟩
theorem JW.chg {w0 W W' : World} {D : Dat} {A4 : Option Addr} {c4 : Nat} {A5 : Option Addr} {c5 : Nat} {but : Int} {mp b Bm Bg Bs Bv Bj : Nat} {m near : Int} {set : Nat} {g : Nat → Int}
    (h : JW w0 W D A4 c4 A5 c5 but mp b Bm Bg Bs Bv Bj m near set g) (hc : Chg (fun _ => False) W W') : JW w0 W' D A4 c4 A5 c5 but mp b Bm Bg Bs Bv Bj m near set g :=
  ⟨h.base.trans ((hc.below (fun _ _ x => x.elim) (Nat.le_refl _)).mono h.base.size), hc.heap h.sh id, hc.heap h.bm id, hc.heap h.bg id, hc.heap h.bs id, hc.heap h.bv id, hc.heap h.bj id, h.gg⟩

/-- how many dots are in no group yet -/
def zeros (n : Nat) (g : Nat → Int) : Nat := (List.range n).countP fun k => g k == 0
theorem zeros_pos {n : Nat} {g : Nat → Int} {d : Nat} (hd : d < n) (hg : g d = 0) : 0 < zeros n g := by
  unfold zeros
  rw [List.countP_pos_iff]
  exact ⟨d, by simpa using hd, by simp [hg]⟩
theorem zeros_le {n : Nat} {g h : Nat → Int} (hh : ∀ k, k < n → h k = 0 → g k = 0) : zeros n h ≤ zeros n g := by
  unfold zeros
  refine List.countP_mono_left fun k hk h0 => ?_
  have := hh k (by simpa using hk) (by simpa using h0)
  simp [this]
theorem zeros_upd {n : Nat} {g : Nat → Int} {d : Nat} {m : Int} (hd : d < n) (hg : g d = 0) (hm : m ≠ 0) : zeros n (upd g d m) + 1 ≤ zeros n g := by
  induction n with
  | zero => omega
  | succ n ih =>
    have e : ∀ f, zeros (n + 1) f = zeros n f + (if f n = 0 then 1 else 0) := fun f => by
      simp [zeros, List.range_succ, List.countP_append, List.countP_cons]
    rw [e, e]
    by_cases hdn : d = n
    · subst hdn
      have h1 : zeros d (upd g d m) ≤ zeros d g := zeros_le (fun k hk h0 => by simp only [upd] at h0; rw [if_neg (by omega)] at h0; exact h0)
      rw [if_neg (by simp [upd, hm]), if_pos hg]; omega
    · have := ih (by omega)
      have e2 : upd g d m n = g n := by simp [upd]; omega
      rw [e2]; omega
/-- what is in a group stays -/
theorem joinF_keeps (adj : Nat → Nat → Bool) (n : Nat) (m : Int) (hm : m ≠ 0) : ∀ (f : Nat) (g : Nat → Int) (d k : Nat), joinF adj n m f g d k = 0 → g k = 0
  | 0, g, d, k => fun h => h
  | f + 1, g, d, k => by
    have key : ∀ (l : List Nat) (g' : Nat → Int), l.foldl (fun g k => if adj d k && g k == 0 then joinF adj n m f g k else g) g' k = 0 → g' k = 0 := by
      intro l
      induction l with
      | nil => exact fun _ h => h
      | cons a l ih =>
        intro g' h
        simp only [List.foldl_cons] at h
        have := ih _ h
        split at this
        · exact joinF_keeps adj n m hm f g' a k this
        · exact this
    intro h
    have := key _ _ h
    simp only [upd] at this
    split at this
    · exact absurd this hm
    · exact this
def joinTo (adj : Nat → Nat → Bool) (n : Nat) (m : Int) (f : Nat) (d : Nat) (g : Nat → Int) (k : Nat) : Nat → Int :=
  (List.range k).foldl (fun g k => if adj d k && g k == 0 then joinF adj n m f g k else g) g
theorem joinTo_succ (adj : Nat → Nat → Bool) (n : Nat) (m : Int) (f : Nat) (d : Nat) (g : Nat → Int) (k : Nat) :
    joinTo adj n m f d g (k + 1) = if adj d k && joinTo adj n m f d g k k == 0 then joinF adj n m f (joinTo adj n m f d g k) k else joinTo adj n m f d g k := by
  simp [joinTo, List.range_succ, List.foldl_append]
theorem joinTo_keeps (adj : Nat → Nat → Bool) (n : Nat) (m : Int) (hm : m ≠ 0) (f : Nat) (d : Nat) (g : Nat → Int) (k j : Nat) (h : joinTo adj n m f d g k j = 0) : g j = 0 := by
  induction k with
  | zero => exact h
  | succ k ih =>
    rw [joinTo_succ] at h
    split at h
    · exact ih (joinF_keeps _ _ _ hm _ _ _ _ h)
    · exact ih h

set_option maxRecDepth 100000 in
set_option maxHeartbeats 1000000 in
theorem join_calls (w0 : World) (D : Dat) (A4 : Option Addr) (c4 : Nat) (A5 : Option Addr) (c5 : Nat) (but : Int) (mp b Bm Bg Bs Bv Bj : Nat) (m near : Int) (set : Nat)
    (hA : Arg w0 D A4 c4 A5 c5) (hV : Valid D) (hn0 : 0 ≤ near) (hn1 : near ≤ 12) (hset : set < 2 ^ 62) (hm : m ≠ 0) (f : Nat) : ∀ (d : Nat) (g : Nat → Int) (W : World),
    d < D.spots.length → zeros D.spots.length g ≤ f → g d = 0 → JW w0 W D A4 c4 A5 c5 but mp b Bm Bg Bs Bv Bj m near set g →
    Calls Try.prog 139 #[.int .i64 d, .pointer (some ⟨Bm, 0, none⟩), .pointer (some ⟨Bg, 0, none⟩), .pointer (some ⟨Bs, 0, none⟩), .pointer (some ⟨Bv, 0, none⟩), .pointer (some ⟨Bj, 0, none⟩)] W
      fun e W' => (∃ v, e = .returned v) ∧ Chg (fun k => k = Bg) W W' ∧ JW w0 W' D A4 c4 A5 c5 but mp b Bm Bg Bs Bv Bj m near set (joinF (adjS D.spots near set) D.spots.length m f g d) := by
  induction f with
  | zero =>
    intro d g W hd hz hg hJ
    have := zeros_pos hd hg
    omega
  | succ f ih =>
    intro d g W hd hz hg hJ
    have hn7 := hV.n7
    have HZ := Aside0.mk hz
    have HG := Aside0.mk hg
    clear hz hg
    have HV := Aside0.mk hV
    clear hV
    have HI := Aside0.mk ih
    clear ih
    have HJ := Aside0.mk hJ
    have hm0 : W.cell? ⟨Bm, 0, none⟩ = some (.int .i64 m) := (blk_cell hJ.bm 0).trans rfl
    have hg0 : W.cell? ⟨Bg, d, none⟩ = some (.int .i64 (g d)) := (blk_cell hJ.bg d).trans (vec_get g d (by omega))
    have hgf := blk_frozen hJ.bg d
    clear hJ
    go_enter Try.func139, Try.ntmps139
    go_upto_region 1 with (fail)
    have HJ1 := Aside0.mk (HJ.out.set d m (by omega))
    have HC1 := Aside0.mk ((Chg.refl (fun k => k = Bg) W).setCell (p := ⟨Bg, d, none⟩) (fun _ => rfl) (.int .i64 m))
    clear hm0 hg0 hgf
    generalize W.setCell ⟨Bg, d, none⟩ (.int .i64 m) = W1 at HJ1 HC1 ⊢
    have hs0 : W1.cell? ⟨Bs, 0, none⟩ = some (.pointer (some ⟨b, 0, none⟩)) := (blk_cell HJ1.out.bs 0).trans rfl
    have hb4 : W1.cell? ⟨b, 4, none⟩ = some (.slice A4 D.spots.length c4) := (blk_cell HJ1.out.sh 4).trans rfl
    have ls := blk_lt HJ1.out.bs
    have lb := blk_lt HJ1.out.sh
    obtain ⟨ad0, e, hc0, hc1, hc2⟩ := at_spot (Kd.C_below hA.s HJ1.out.base) d hd
    subst e
    obtain ⟨xd, hxd⟩ : ∃ x, rd_T80 D.spots d = x := ⟨_, rfl⟩
    have HD := Aside0.mk hxd
    rw [hxd] at hc0 hc1 hc2
    have vd := HV.out.xy d hd
    rw [hxd] at vd
    clear hxd
    obtain ⟨vd0, vd1, vd2, vd3⟩ := vd
    go_wp2
    have HA0 := Aside0.mk (blk_new W1 (.cells #[.int .i64 xd.f0, .int .i64 xd.f1, .bool xd.f2] 80))
    have HJ2 := Aside0.mk (HJ1.out.chg ((Chg.refl (fun _ => False) W1).alloc (.cells #[.int .i64 xd.f0, .int .i64 xd.f1, .bool xd.f2] 80)))
    have HC2 := Aside0.mk (HC1.out.alloc (.cells #[.int .i64 xd.f0, .int .i64 xd.f1, .bool xd.f2] 80))
    clear hs0 hb4 hc0 hc1 hc2 ls lb HJ1 HC1
    obtain ⟨Ba, hBa⟩ : ∃ Ba, W1.heap.size = Ba := ⟨_, rfl⟩
    rw [hBa] at HA0 ⊢
    clear hBa
    generalize W1.alloc (.cells #[.int .i64 xd.f0, .int .i64 xd.f1, .bool xd.f2] 80) = W2 at HA0 HJ2 HC2 ⊢
    go_loopw [27] (fun j wr => ∃ k : Nat, k ≤ D.spots.length ∧ j = .int .i64 k ∧ Aside0 (JW w0 wr D (some ad0) c4 A5 c5 but mp b Bm Bg Bs Bv Bj m near set (joinTo (adjS D.spots near set) D.spots.length m f d (upd g d m) k)) ∧ Aside0 (Chg (fun k => k = Bg) W wr) ∧
      Aside0 (wr.heap[Ba]? = some (.cells #[.int .i64 xd.f0, .int .i64 xd.f1, .bool xd.f2] 80 (0, 0)))) (fun j _ => D.spots.length - (intOf j).toNat)
    case atStart => exact ⟨0, Nat.zero_le _, rfl, HJ2, HC2, HA0⟩
    case round =>
      clear HJ2 HC2 HA0
      obtain ⟨k, hk, rfl, HJ2, HC2, HA0⟩ := hrel
      by_cases hlt : k < D.spots.length
      · obtain ⟨ad, e, hc0, hc1, hc2⟩ := at_spot (Kd.C_below hA.s HJ2.out.base) k hlt
        obtain rfl := Option.some.inj e
        clear e
        obtain ⟨xk, hxk⟩ : ∃ x, rd_T80 D.spots k = x := ⟨_, rfl⟩
        have HK := Aside0.mk hxk
        rw [hxk] at hc0 hc1 hc2
        have vk := HV.out.xy k hlt
        rw [hxk] at vk
        clear hxk
        obtain ⟨vk0, vk1, vk2, vk3⟩ := vk
        have hv0 : wr.cell? ⟨Bv, 0, none⟩ = some (.int .i64 near) := (blk_cell HJ2.out.bv 0).trans rfl
        have hv1 : wr.cell? ⟨Bv, 1, none⟩ = some (.int .i64 set) := (blk_cell HJ2.out.bv 1).trans rfl
        have ha0 : wr.cell? ⟨Ba, 0, none⟩ = some (.int .i64 xd.f0) := (blk_cell HA0.out 0).trans rfl
        have ha1 : wr.cell? ⟨Ba, 1, none⟩ = some (.int .i64 xd.f1) := (blk_cell HA0.out 1).trans rfl
        obtain ⟨G, hG⟩ : ∃ G, joinTo (adjS D.spots near set) D.spots.length m f d (upd g d m) k = G := ⟨_, rfl⟩
        have HGG := Aside0.mk hG
        have hgk : wr.cell? ⟨Bg, k, none⟩ = some (.int .i64 (G k)) := by rw [← hG]; exact (blk_cell HJ2.out.bg k).trans (vec_get _ k (by omega))
        have hj0 : wr.cell? ⟨Bj, 0, none⟩ = some (.func (.func 139) #[] #[.pointer (some ⟨Bm, 0, none⟩), .pointer (some ⟨Bg, 0, none⟩), .pointer (some ⟨Bs, 0, none⟩), .pointer (some ⟨Bv, 0, none⟩), .pointer (some ⟨Bj, 0, none⟩)]) := (blk_cell HJ2.out.bj 0).trans rfl
        rw [hG] at HJ2
        clear hG
        have lv := blk_lt HJ2.out.bv
        have la := blk_lt HA0.out
        have lg := blk_lt HJ2.out.bg
        have lj := blk_lt HJ2.out.bj
        have hbit := bit1 set k hset
        obtain ⟨q, hq⟩ : ∃ q, set.testBit k = q := ⟨_, rfl⟩
        rw [hq] at hbit
        have HQ := Aside0.mk hq
        clear hq
        have hCA := Aside0.mk ((Chg.refl (fun _ => False) wr).alloc (.cells #[.int .i64 xk.f0, .int .i64 xk.f1, .bool xk.f2] 80))
        cases q
        · rw [if_neg (by simp)] at hbit
          go_wp2
          go_roundw
          case rel => exact ⟨k + 1, by omega, by go_num, ⟨by rw [joinTo_succ, HGG.out, adjS, HQ.out]; exact HJ2.out.chg hCA.out⟩, ⟨HC2.out.alloc _⟩, ⟨blk_alloc HA0.out _⟩⟩
          case measure => simp [intOf]; omega
        · rw [if_pos rfl] at hbit
          by_cases hgz : G k = 0
          · have hgz' : (G k == 0) = true := beq_iff_eq.2 hgz
            have HGZ := Aside0.mk hgz
            have HZG : Aside0 (zeros D.spots.length G ≤ f) := ⟨by
              have h1 := zeros_upd hd HG.out hm
              have h2 : zeros D.spots.length G ≤ zeros D.spots.length (upd g d m) := zeros_le (fun j _ hj => by rw [← HGG.out] at hj; exact joinTo_keeps _ _ _ hm _ _ _ _ _ hj)
              have := HZ.out
              omega⟩
            have NA : Aside0 (Ba ≠ Bg) := ⟨blk_ne HA0.out HJ2.out.bg (by decide)⟩
            rw [hgz] at hgk
            clear hgz
            obtain ⟨q, hq⟩ : ∃ q, outB (-near) near [xd.f0 - xk.f0, xd.f1 - xk.f1] = q := ⟨_, rfl⟩
            have HO := Aside0.mk hq
            have HN : Aside0 (adjS D.spots near set d k = !q) := ⟨by rw [adjS, HQ.out, nearS, HD.out, HK.out, hq]; rfl⟩
            clear hq
            have HC3 := Aside0.mk (hCA.out.alloc (.cells #[.int .i64 (xd.f0 - xk.f0), .int .i64 (xd.f1 - xk.f1)] 3))
            cases q
            · go_wp2_with (first | (go_at_call 78; refine (out_calls (-near) near [xd.f0 - xk.f0, xd.f1 - xk.f1] _ _ _ (lit2 _ _ (by simp))).mono ?_; rintro e w1 ⟨rfl, rfl⟩; rw [HO.out]) | (go_at_call 139; refine (HI.out k G _ hlt HZG.out HGZ.out (HJ2.out.chg HC3.out)).mono ?_; rintro e w1 ⟨⟨v, rfl⟩, hcj, hjj⟩; have HCJ := Aside0.mk hcj; have HJJ := Aside0.mk hjj; clear hcj hjj))
              go_roundw
              case rel => exact ⟨k + 1, by omega, by go_num, ⟨by rw [joinTo_succ, HGG.out, HN.out, HGZ.out]; exact HJJ.out⟩, ⟨((HC2.out.alloc _).alloc _).trans HCJ.out⟩, ⟨HCJ.out.heap (blk_alloc (blk_alloc HA0.out _) _) (fun e => NA.out e)⟩⟩
              case measure => simp [intOf]; omega
            · go_wp2_with (go_at_call 78; refine (out_calls (-near) near [xd.f0 - xk.f0, xd.f1 - xk.f1] _ _ _ (lit2 _ _ (by simp))).mono ?_; rintro e w1 ⟨rfl, rfl⟩; rw [HO.out])
              go_roundw
              case rel => exact ⟨k + 1, by omega, by go_num, ⟨by rw [joinTo_succ, HGG.out, HN.out]; exact HJ2.out.chg HC3.out⟩, ⟨(HC2.out.alloc _).alloc _⟩, ⟨blk_alloc (blk_alloc HA0.out _) _⟩⟩
              case measure => simp [intOf]; omega
          · have hgz' : (G k == 0) = false := beq_eq_false_iff_ne.2 hgz
            go_wp2
            go_roundw
            case rel => exact ⟨k + 1, by omega, by go_num, ⟨by rw [joinTo_succ, HGG.out, hgz', Bool.and_false]; exact HJ2.out.chg hCA.out⟩, ⟨HC2.out.alloc _⟩, ⟨blk_alloc HA0.out _⟩⟩
            case measure => simp [intOf]; omega
      · obtain rfl : k = D.spots.length := by omega
        go_wp2
        go_end0
        exact ⟨⟨_, rfl⟩, HC2.out, HJ2.out⟩
end Go.Proofs.Ytemeapfnfegkiaa.D
end
/- Package disk: groups. -/
section
namespace Go.Proofs.Ytemeapfnfegkiaa.D
open Go Go.RowKit Go.Proofs.YtemeapfnfegkiaaK Go.Proofs.YtemeapfnfegkiaaW.PrintWords Go.Proofs.YtemeapfnfegkiaaW.PrintLast Go.Proofs.YtemeapfnfegkiaaW.PrintMore Go.Proofs.Ytemeapfnfegkiaa.PR
set_option linter.unusedVariables false
set_option linter.unusedSimpArgs false

abbrev encV (p : Int × Int) : Value := .agg #[.int .i64 p.1, .int .i64 p.2]
theorem v1 : Try.prog.underlying 130 = some (.struct (Try.prog.fieldsOf 130)) := by kernel_rfl
theorem v2 : Try.prog.stoodInHeld 130 = false := by kernel_rfl
theorem v3 : Try.prog.plainKey 3 = true := by kernel_rfl
theorem v4 : ((Try.prog.fieldsOf 130).toList.map fun f => (f.name == "_", f.type, f.offset)) = [(false, 3, 0), (false, 3, 1)] := by kernel_rfl
theorem v5 (w : World) (a b : Int × Int) : (Op.equalIn (9999 + 1) 130 (encV a) (encV b)).run Try.prog w = .ok (a.1 == b.1 && a.2 == b.2) w := equal_two w v1 v2 Try.underlying3 v3 v4 a.1 a.2 b.1 b.2 9999 (by decide)
theorem v6 (w : World) (a b : Int × Int) : (Op.equal 130 (encV a) (encV b)).run Try.prog w = .ok (a.1 == b.1 && a.2 == b.2) w := v5 w a b
theorem v7 (w : World) (e : Bool) (a : Int × Int) : (Instr.checkKey e 10000 130 (encV a)).run Try.prog w = .ok () w := by kernel_rfl
theorem v8 (a : Int × Int) : Instr.sameBits (9999 + 1) (encV a) (encV a) = true := by simp [Instr.sameBits]
theorem keyV : KeyRun Try.prog 130 encV where
  chk := fun e a w => v7 w e a
  eq := fun a b w => by
    rw [v6]
    congr 1
    rw [Bool.eq_iff_iff]
    simp [Prod.ext_iff]
  und := ⟨_, Try.underlying130, fun _ _ => rfl⟩
  same := v8

def groupsTo (adj : Nat → Nat → Bool) (n : Nat) (set : Nat) (k : Nat) : Int × (Nat → Int) :=
  (List.range k).foldl (fun s i => if set.testBit i && s.2 i == 0 then (s.1 + 1, joinF adj n (s.1 + 1) 7 s.2 i) else s) (0, fun _ => 0)
def G (D : Dat) (near : Int) (set : Nat) : Nat → Int := (groupsTo (adjS D.spots near set) D.spots.length set D.spots.length).2

structure Sh (w0 W : World) (D : Dat) (A4 : Option Addr) (c4 : Nat) (A5 : Option Addr) (c5 : Nat) (but : Int) (mp b : Nat) : Prop where
  base : Below w0.heap.size w0 W
  sh : W.heap[b]? = some (.cells (shCells D A4 c4 A5 c5 but mp) 151 (0, 0))
  gb : w0.heap.size ≤ b
  gm : w0.heap.size ≤ mp
  cache : ∃ l, MapAt W mp encV l ∧ ∀ p ∈ l, ∃ (near : Int) (set : Nat), p.1 = (near, (set : Int)) ∧ p.2 = .agg (vec (G D near set))

theorem set_vec {W : World} {B : Nat} {t : TypeId} {g : Nat → Int} (hB : W.heap[B]? = some (.cells (vec g) t (0, 0))) (k : Nat) (hk : k < 7) (x : Int) : (W.setCell ⟨B, k, none⟩ (.int .i64 x)).heap[B]? = some (.cells (vec (upd g k x)) t (0, 0)) := by
  rw [← vec_set g k x hk]; exact blk_set hB k _
/-- a whole array is stored -/
abbrev st7 (W : World) (B : Nat) (h : Nat → Int) : World :=
  ((((((W.setCell ⟨B, 0, none⟩ (.int .i64 (h 0))).setCell ⟨B, 1, none⟩ (.int .i64 (h 1))).setCell ⟨B, 2, none⟩ (.int .i64 (h 2))).setCell ⟨B, 3, none⟩ (.int .i64 (h 3))).setCell ⟨B, 4, none⟩ (.int .i64 (h 4))).setCell ⟨B, 5, none⟩ (.int .i64 (h 5))).setCell ⟨B, 6, none⟩ (.int .i64 (h 6))
theorem st7_heap {W : World} {B : Nat} {t : TypeId} {g : Nat → Int} (hB : W.heap[B]? = some (.cells (vec g) t (0, 0))) (h : Nat → Int) : (st7 W B h).heap[B]? = some (.cells (vec h) t (0, 0)) := by
  have h7 := set_vec (set_vec (set_vec (set_vec (set_vec (set_vec (set_vec hB 0 (by omega) (h 0)) 1 (by omega) (h 1)) 2 (by omega) (h 2)) 3 (by omega) (h 3)) 4 (by omega) (h 4)) 5 (by omega) (h 5)) 6 (by omega) (h 6)
  rw [h7]; simp [upd]
theorem st7_chg {S : Nat → Prop} {W0 W : World} {B : Nat} (hc : Chg S W0 W) (hB : B < W0.heap.size → S B) (h : Nat → Int) : Chg S W0 (st7 W B h) :=
  ((((((hc.setCell (p := ⟨B, 0, none⟩) hB _).setCell (p := ⟨B, 1, none⟩) hB _).setCell (p := ⟨B, 2, none⟩) hB _).setCell (p := ⟨B, 3, none⟩) hB _).setCell (p := ⟨B, 4, none⟩) hB _).setCell (p := ⟨B, 5, none⟩) hB _).setCell (p := ⟨B, 6, none⟩) hB _

theorem Sh.chg {w0 W W' : World} {D : Dat} {A4 : Option Addr} {c4 : Nat} {A5 : Option Addr} {c5 : Nat} {but : Int} {mp b : Nat} {S : Nat → Prop} (h : Sh w0 W D A4 c4 A5 c5 but mp b) (hc : Chg S W W') (h0 : ∀ k, S k → w0.heap.size ≤ k ∧ k ≠ b ∧ k ≠ mp) : Sh w0 W' D A4 c4 A5 c5 but mp b := by
  obtain ⟨l, hl, hp⟩ := h.cache
  exact ⟨h.base.trans (hc.below (fun k _ hk => (h0 k hk).1) h.base.size), hc.heap h.sh (fun hk => (h0 _ hk).2.1 rfl), h.gb, h.gm, l, hl.chg hc (fun hk => (h0 _ hk).2.2 rfl), hp⟩
theorem info118 : (Try.prog.info? 118).map (·.size) = some 7 := by kernel_rfl

theorem new_at {W : World} {n : Nat} (h : W.heap.size = n) (o : Obj) : (W.alloc o).heap[n]? = some o := by subst h; exact blk_new _ _
/-- many counts on -/
theorem JW.setm {w0 W : World} {D : Dat} {A4 : Option Addr} {c4 : Nat} {A5 : Option Addr} {c5 : Nat} {but : Int} {mp b Bm Bg Bs Bv Bj : Nat} {m near : Int} {set : Nat} {g : Nat → Int}
    (h : JW w0 W D A4 c4 A5 c5 but mp b Bm Bg Bs Bv Bj m near set g) (hm : w0.heap.size ≤ Bm) (x : Int) : JW w0 (W.setCell ⟨Bm, 0, none⟩ (.int .i64 x)) D A4 c4 A5 c5 but mp b Bm Bg Bs Bv Bj x near set g :=
  ⟨h.base.setCell hm _, blk_far h.sh (blk_ne h.sh h.bm (by decide)) _, blk_set h.bm 0 _, blk_far h.bg (blk_ne h.bg h.bm (by decide)) _, blk_far h.bs (blk_ne h.bs h.bm (by decide)) _, blk_far h.bv (blk_ne h.bv h.bm (by decide)) _, blk_far h.bj (blk_ne h.bj h.bm (by decide)) _, h.gg⟩
abbrev joinV (Bm Bg Bs Bv Bj : Nat) : Value := .func (.func 139) #[] #[.pointer (some ⟨Bm, 0, none⟩), .pointer (some ⟨Bg, 0, none⟩), .pointer (some ⟨Bs, 0, none⟩), .pointer (some ⟨Bv, 0, none⟩), .pointer (some ⟨Bj, 0, none⟩)]
theorem groupsTo_succ (adj : Nat → Nat → Bool) (n set k : Nat) : groupsTo adj n set (k + 1) = (if set.testBit k && (groupsTo adj n set k).2 k == 0 then ((groupsTo adj n set k).1 + 1, joinF adj n ((groupsTo adj n set k).1 + 1) 7 (groupsTo adj n set k).2 k) else groupsTo adj n set k) := by
  simp [groupsTo, List.range_succ, List.foldl_append]
theorem groupsTo_many (adj : Nat → Nat → Bool) (n set k : Nat) : 0 ≤ (groupsTo adj n set k).1 ∧ (groupsTo adj n set k).1 ≤ k := by
  induction k with
  | zero => simp [groupsTo]
  | succ k ih => rw [groupsTo_succ]; split <;> simp <;> omega
theorem joinF_val (adj : Nat → Nat → Bool) (n : Nat) (m : Int) : ∀ (f : Nat) (g : Nat → Int) (d k : Nat), joinF adj n m f g d k = g k ∨ joinF adj n m f g d k = m
  | 0, g, d, k => .inl rfl
  | f + 1, g, d, k => by
    have key : ∀ (l : List Nat) (g' : Nat → Int), l.foldl (fun g k => if adj d k && g k == 0 then joinF adj n m f g k else g) g' k = g' k ∨ l.foldl (fun g k => if adj d k && g k == 0 then joinF adj n m f g k else g) g' k = m := by
      intro l
      induction l with
      | nil => exact fun _ => .inl rfl
      | cons a l ih =>
        intro g'
        simp only [List.foldl_cons]
        rcases ih (if adj d a && g' a == 0 then joinF adj n m f g' a else g') with h | h
        · rw [h]
          split
          · exact joinF_val adj n m f g' a k
          · exact .inl rfl
        · exact .inr h
    unfold joinF
    rcases key (List.range n) (upd g d m) with h | h
    · rw [h]; unfold upd
      split
      · exact .inr rfl
      · exact .inl rfl
    · exact .inr h
theorem groupsTo_val (adj : Nat → Nat → Bool) (n set k : Nat) : ∀ j, 0 ≤ (groupsTo adj n set k).2 j ∧ (groupsTo adj n set k).2 j ≤ (groupsTo adj n set k).1 := by
  induction k with
  | zero => simp [groupsTo]
  | succ k ih =>
    intro j
    have hm := groupsTo_many adj n set k
    rw [groupsTo_succ]
    split
    · have := ih j
      rcases joinF_val adj n ((groupsTo adj n set k).1 + 1) 7 (groupsTo adj n set k).2 k j with h | h <;> simp only [h] <;> omega
    · exact ih j
theorem zeros_n (n : Nat) (g : Nat → Int) : zeros n g ≤ n := by
  have := List.countP_le_length (p := fun k => g k == 0) (l := List.range n)
  simpa [zeros] using this

set_option maxRecDepth 100000 in
set_option maxHeartbeats 2000000 in
theorem groups_calls (w0 W : World) (D : Dat) (A4 : Option Addr) (c4 : Nat) (A5 : Option Addr) (c5 : Nat) (but : Int) (mp b : Nat) (near : Int) (set : Nat)
    (hA : Arg w0 D A4 c4 A5 c5) (hV : Valid D) (hn0 : 0 ≤ near) (hn1 : near ≤ 12) (hset : set < 2 ^ 62) (h : Sh w0 W D A4 c4 A5 c5 but mp b) :
    Calls Try.prog 131 #[.pointer (some ⟨b, 0, none⟩), .agg #[.int .i64 near, .int .i64 set]] W
      fun e W' => e = .returned (.agg (vec (G D near set))) ∧ Chg (fun k => k = mp) W W' ∧ Sh w0 W' D A4 c4 A5 c5 but mp b := by
  have H := Aside0.mk h
  obtain ⟨l, hl, hp⟩ := h.cache
  clear h
  go_enter Try.func131, Try.ntmps131
  go_wp2
  go_step3
  have HC1 : Aside0 (Chg (fun _ => False) W (((W.alloc (.cells #[.pointer (some ⟨b, 0, none⟩)] 112)).alloc (.cells #[.int .i64 near, .int .i64 set] 130)).alloc (.cells (vec fun _ => 0) 118))) := ⟨(((Chg.refl _ W).alloc _).alloc _).alloc _⟩
  have HB1 : Aside0 ((((W.alloc (.cells #[.pointer (some ⟨b, 0, none⟩)] 112)).alloc (.cells #[.int .i64 near, .int .i64 set] 130)).alloc (.cells (vec fun _ => 0) 118)).heap[W.heap.size]? = some (.cells #[.pointer (some ⟨b, 0, none⟩)] 112 (0, 0))) := ⟨blk_alloc (blk_alloc (blk_new _ _) _) _⟩
  have HB2 : Aside0 ((((W.alloc (.cells #[.pointer (some ⟨b, 0, none⟩)] 112)).alloc (.cells #[.int .i64 near, .int .i64 set] 130)).alloc (.cells (vec fun _ => 0) 118)).heap[W.heap.size + 1]? = some (.cells #[.int .i64 near, .int .i64 set] 130 (0, 0))) := ⟨blk_alloc (by have := blk_new (W.alloc (.cells #[.pointer (some ⟨b, 0, none⟩)] 112)) (.cells #[.int .i64 near, .int .i64 set] 130); rwa [World.size_alloc] at this) _⟩
  have HB3 : Aside0 ((((W.alloc (.cells #[.pointer (some ⟨b, 0, none⟩)] 112)).alloc (.cells #[.int .i64 near, .int .i64 set] 130)).alloc (.cells (vec fun _ => 0) 118)).heap[W.heap.size + 1 + 1]? = some (.cells (vec fun _ => 0) 118 (0, 0))) := ⟨by have := blk_new ((W.alloc (.cells #[.pointer (some ⟨b, 0, none⟩)] 112)).alloc (.cells #[.int .i64 near, .int .i64 set] 130)) (.cells (vec fun _ => 0) 118); rwa [World.size_alloc, World.size_alloc] at this⟩
  obtain ⟨Bs, hBs⟩ : ∃ Bs, W.heap.size = Bs := ⟨_, rfl⟩
  rw [hBs] at HB1 HB2 HB3 ⊢
  generalize (((W.alloc (.cells #[.pointer (some ⟨b, 0, none⟩)] 112)).alloc (.cells #[.int .i64 near, .int .i64 set] 130)).alloc (.cells (vec fun _ => 0) 118)) = W1 at HC1 HB1 HB2 HB3 ⊢
  have h2 : W1.cell? ⟨b, 7, none⟩ = some (.map (some mp)) := (blk_cell (HC1.out.heap H.out.sh id) 7).trans rfl
  have s0 : W1.cell? ⟨Bs, 0, none⟩ = some (.pointer (some ⟨b, 0, none⟩)) := (blk_cell HB1.out 0).trans rfl
  have s1 : W1.cell? ⟨Bs + 1, 0, none⟩ = some (.int .i64 near) := (blk_cell HB2.out 0).trans rfl
  have s2 : W1.cell? ⟨Bs + 1, 1, none⟩ = some (.int .i64 set) := (blk_cell HB2.out 1).trans rfl
  have hl1 := hl.chg HC1.out id
  have r0 : W1.cell? ⟨Bs + 1 + 1, 0, none⟩ = some (.int .i64 0) := (blk_cell HB3.out 0).trans rfl
  have f0 := blk_frozen HB3.out 0
  have r1 : W1.cell? ⟨Bs + 1 + 1, 1, none⟩ = some (.int .i64 0) := (blk_cell HB3.out 1).trans rfl
  have f1 := blk_frozen HB3.out 1
  have r2 : W1.cell? ⟨Bs + 1 + 1, 2, none⟩ = some (.int .i64 0) := (blk_cell HB3.out 2).trans rfl
  have f2 := blk_frozen HB3.out 2
  have r3 : W1.cell? ⟨Bs + 1 + 1, 3, none⟩ = some (.int .i64 0) := (blk_cell HB3.out 3).trans rfl
  have f3 := blk_frozen HB3.out 3
  have r4 : W1.cell? ⟨Bs + 1 + 1, 4, none⟩ = some (.int .i64 0) := (blk_cell HB3.out 4).trans rfl
  have f4 := blk_frozen HB3.out 4
  have r5 : W1.cell? ⟨Bs + 1 + 1, 5, none⟩ = some (.int .i64 0) := (blk_cell HB3.out 5).trans rfl
  have f5 := blk_frozen HB3.out 5
  have r6 : W1.cell? ⟨Bs + 1 + 1, 6, none⟩ = some (.int .i64 0) := (blk_cell HB3.out 6).trans rfl
  have f6 := blk_frozen HB3.out 6
  have z0 := blk_lt HB1.out
  have z1 := blk_lt HB2.out
  have z2 := blk_lt HB3.out
  have z3 := blk_lt (HC1.out.heap H.out.sh id)
  cases hq : mlook (near, (set : Int)) l with
  | some v =>
    have hlk : ∀ W', Chg (fun _ => False) W1 W' → (Instr.lookup 149 (.map (some mp)) (.agg #[.int .i64 near, .int .i64 set]) true).run Try.prog W' = .ok (.tuple #[v, .bool true]) W' := fun W' h' => by
      have := lookup_run (P := Try.prog) keyV (T := 149) Try.underlying149 (elem := 118) (z := .agg (vec fun _ => 0)) (by kernel_rfl) (hl1.chg h' id) (near, (set : Int)) true
      rw [hq] at this; exact this
    obtain ⟨n', s', e1, e2⟩ := hp _ (look_mem hq)
    simp only [Prod.mk.injEq] at e1
    obtain ⟨rfl, e1⟩ := e1
    obtain rfl : set = s' := by omega
    simp only at e2
    subst e2
    clear hq hp
    have hk1 := hlk _ (Chg.refl _ W1).drew
    have hk2 := fun o => hlk _ ((Chg.refl _ W1).drew.alloc o)
    have hk3 := fun o => hlk _ ((Chg.refl _ W1).alloc o).drew
    go_wp2
    go_region
    go_wp2
    rw [Exit.noGoto_ret]
    have HC2 := Aside0.mk (((st7_chg HC1.out (B := Bs + 1 + 1) (fun hx => by omega) (G D near set)).alloc (.cells (vec (G D near set)) 118)).drew)
    refine bodyPost_ret (v := .agg (vec (G D near set))) (results_cell_row rfl _ _ (Bs + 1 + 1) 118 _ (0, 0) _ rfl (blk_drew (blk_alloc (st7_heap HB3.out _) _)) Try.underlying118 rfl info118) rfl ⟨rfl, HC2.out.mono (fun _ _ x => x.elim), H.out.chg HC2.out (fun _ x => x.elim)⟩
  | none =>
    have hlk : ∀ W', Chg (fun _ => False) W1 W' → (Instr.lookup 149 (.map (some mp)) (.agg #[.int .i64 near, .int .i64 set]) true).run Try.prog W' = .ok (.tuple #[.agg (vec fun _ => 0), .bool false]) W' := fun W' h' => by
      have := lookup_run (P := Try.prog) keyV (T := 149) Try.underlying149 (elem := 118) (z := .agg (vec fun _ => 0)) (by kernel_rfl) (hl1.chg h' id) (near, (set : Int)) true
      rw [hq] at this; exact this
    have HQ := Aside0.mk hq
    clear hq
    have hk1 := hlk _ (Chg.refl _ W1).drew
    have hk2 := fun o => hlk _ ((Chg.refl _ W1).drew.alloc o)
    have hk3 := fun o => hlk _ ((Chg.refl _ W1).alloc o).drew
    go_wp2
    go_region
    go_wp2
    clear hlk hk1 hk2 hk3
    have gW := HC1.out.size
    have g0 := H.out.base.size
    obtain ⟨W2, hW2⟩ : ∃ W2, ((((W1.alloc (.cells (vec fun _ => 0) 118)).alloc (.cells (vec fun _ => 0) 118)).alloc (.cells #[.int .i64 0] 3)).alloc (.cells #[joinV (W1.heap.size + 1 + 1) (W1.heap.size + 1) Bs (Bs + 1) (W1.heap.size + 1 + 1 + 1)] 166)).drew = W2 := ⟨_, rfl⟩
    have HC2 : Aside0 (Chg (fun _ => False) W W2) := ⟨by rw [← hW2]; exact ((((HC1.out.alloc _).alloc _).alloc _).alloc _).drew⟩
    have HC12 : Aside0 (Chg (fun _ => False) W1 W2) := ⟨by rw [← hW2]; exact (((((Chg.refl _ W1).alloc _).alloc _).alloc _).alloc _).drew⟩
    have HJ : Aside0 (JW w0 W2 D A4 c4 A5 c5 but mp b (W1.heap.size + 1 + 1) (W1.heap.size + 1) Bs (Bs + 1) (W1.heap.size + 1 + 1 + 1) (groupsTo (adjS D.spots near set) D.spots.length set 0).1 near set (groupsTo (adjS D.spots near set) D.spots.length set 0).2) := ⟨{
      base := (H.out.chg HC2.out (fun _ x => x.elim)).base
      sh := HC2.out.heap H.out.sh id
      bm := by rw [← hW2]; exact blk_drew (blk_alloc (new_at (by simp) _) _)
      bg := by rw [← hW2]; exact blk_drew (blk_alloc (blk_alloc (new_at (by simp) _) _) _)
      bs := HC12.out.heap HB1.out id
      bv := HC12.out.heap HB2.out id
      bj := by rw [← hW2]; exact blk_drew (new_at (by simp) _)
      gg := by omega }⟩
    have HR : Aside0 (W2.heap[Bs + 1 + 1]? = some (.cells (vec fun _ => 0) 118 (0, 0))) := ⟨HC12.out.heap HB3.out id⟩
    show Code.wp Try.prog _ _ _ ((((W1.alloc (.cells (vec fun _ => 0) 118)).alloc (.cells (vec fun _ => 0) 118)).alloc (.cells #[.int .i64 0] 3)).alloc (.cells #[joinV (W1.heap.size + 1 + 1) (W1.heap.size + 1) Bs (Bs + 1) (W1.heap.size + 1 + 1 + 1)] 166)).drew
    rw [hW2]
    clear hW2 HC12 HB1 HB2 HB3 h2 s0 s1 s2 hl1 z0 z1 z3 r0 r1 r2 r3 r4 r5 r6 f0 f1 f2 f3 f4 f5 f6
    obtain ⟨Bg, hBg⟩ : ∃ Bg, W1.heap.size + 1 = Bg := ⟨_, rfl⟩
    rw [hBg] at HJ ⊢
    have gg : W.heap.size < Bg := by omega
    have gR : Bs + 1 + 1 < Bg := by omega
    clear gW hBg z2
    go_step3
    have s0 : W2.cell? ⟨Bs, 0, none⟩ = some (.pointer (some ⟨b, 0, none⟩)) := (blk_cell HJ.out.bs 0).trans rfl
    have h4 : W2.cell? ⟨b, 4, none⟩ = some (.slice A4 D.spots.length c4) := (blk_cell HJ.out.sh 4).trans rfl
    go_wp2
    go_loopw [29] (fun j wr => ∃ k : Nat, k ≤ D.spots.length ∧ j = .int .i64 k ∧ Aside0 (JW w0 wr D A4 c4 A5 c5 but mp b (Bg + 1) Bg Bs (Bs + 1) (Bg + 1 + 1) (groupsTo (adjS D.spots near set) D.spots.length set k).1 near set (groupsTo (adjS D.spots near set) D.spots.length set k).2) ∧ Aside0 (Chg (fun _ => False) W wr) ∧
      Aside0 (wr.heap[Bs + 1 + 1]? = some (.cells (vec fun _ => 0) 118 (0, 0)))) (fun j _ => D.spots.length - (intOf j).toNat)
    case atStart => exact ⟨0, Nat.zero_le _, rfl, HJ, HC2, HR⟩
    case round =>
      clear HJ HC2 HR s0 h4
      obtain ⟨k, hk, rfl, HJ, HC2, HR⟩ := hrel
      by_cases hlt : k < D.spots.length
      · have hn7 := hV.n7
        obtain ⟨g, hg⟩ : ∃ g, groupsTo (adjS D.spots near set) D.spots.length set k = g := ⟨_, rfl⟩
        have HG := Aside0.mk hg
        have hval := groupsTo_val (adjS D.spots near set) D.spots.length set k k
        have hmany := groupsTo_many (adjS D.spots near set) D.spots.length set k
        rw [hg] at HJ hval hmany
        clear hg
        obtain ⟨m, g⟩ := g
        simp only at HJ hval hmany
        obtain ⟨hv0, hv1⟩ := hval
        obtain ⟨hm0, hm1⟩ := hmany
        have hb1 : wr.cell? ⟨Bs + 1, 1, none⟩ = some (.int .i64 set) := (blk_cell HJ.out.bv 1).trans rfl
        have hgk : wr.cell? ⟨Bg, k, none⟩ = some (.int .i64 (g k)) := (blk_cell HJ.out.bg k).trans (vec_get _ k (by omega))
        have hbm : wr.cell? ⟨Bg + 1, 0, none⟩ = some (.int .i64 m) := (blk_cell HJ.out.bm 0).trans rfl
        have hfm := blk_frozen HJ.out.bm 0
        have hbit := bit1 set k hset
        obtain ⟨q, hq⟩ : ∃ q, set.testBit k = q := ⟨_, rfl⟩
        rw [hq] at hbit
        have HQ1 := Aside0.mk hq
        clear hq
        cases q
        · rw [if_neg (by simp)] at hbit
          go_wp2
          go_roundw
          case rel => exact ⟨k + 1, by omega, by go_num, ⟨by rw [groupsTo_succ, HG.out, HQ1.out]; exact HJ.out⟩, HC2, HR⟩
          case measure => simp [intOf]; omega
        · rw [if_pos rfl] at hbit
          by_cases hz : g k = 0
          · have HZ := Aside0.mk hz
            rw [hz] at hgk
            clear hz hv0 hv1
            have HJ2 := Aside0.mk (HJ.out.setm (by omega) (m + 1))
            have hbj : wr.cell? ⟨Bg + 1 + 1, 0, none⟩ = some (joinV (Bg + 1) Bg Bs (Bs + 1) (Bg + 1 + 1)) := (blk_cell HJ.out.bj 0).trans rfl
            go_wp2_with (go_at_call 139; refine (join_calls w0 D A4 c4 A5 c5 but mp b (Bg + 1) Bg Bs (Bs + 1) (Bg + 1 + 1) (m + 1) near set hA hV hn0 hn1 hset (by omega) 7 k g _ hlt (Nat.le_trans (zeros_n _ _) hn7) HZ.out HJ2.out).mono ?_; rintro e w1 ⟨⟨v, rfl⟩, hcj, hjj⟩; have HCJ := Aside0.mk hcj; have HJJ := Aside0.mk hjj; clear hcj hjj)
            go_roundw
            case rel => exact ⟨k + 1, by omega, by go_num, ⟨by rw [groupsTo_succ, HG.out, HQ1.out, if_pos (by simp [HZ.out])]; exact HJJ.out⟩, ⟨(HC2.out.setCell (p := ⟨Bg + 1, 0, none⟩) (fun hx => by simp at hx; omega) _).then_ HCJ.out (fun j hj e => by omega)⟩, ⟨HCJ.out.heap (blk_far HR.out (by simp; omega) _) (by omega)⟩⟩
            case measure => simp [intOf]; omega
          · have hz' : ¬ g k ≤ 0 := by omega
            have HZ := Aside0.mk hz
            go_wp2
            go_roundw
            case rel => exact ⟨k + 1, by omega, by go_num, ⟨by rw [groupsTo_succ, HG.out, HQ1.out, beq_eq_false_iff_ne.2 (show (m, g).2 k ≠ 0 from HZ.out)]; exact HJ.out⟩, HC2, HR⟩
            case measure => simp [intOf]; omega
      · obtain rfl : k = D.spots.length := by omega
        have hJ := HJ.out
        rw [show (groupsTo (adjS D.spots near set) D.spots.length set D.spots.length).2 = G D near set from rfl] at hJ
        have hs0 : wr.cell? ⟨Bs, 0, none⟩ = some (.pointer (some ⟨b, 0, none⟩)) := (blk_cell hJ.bs 0).trans rfl
        have h7 : wr.cell? ⟨b, 7, none⟩ = some (.map (some mp)) := (blk_cell hJ.sh 7).trans rfl
        have hv0 : wr.cell? ⟨Bs + 1, 0, none⟩ = some (.int .i64 near) := (blk_cell hJ.bv 0).trans rfl
        have hv1 : wr.cell? ⟨Bs + 1, 1, none⟩ = some (.int .i64 set) := (blk_cell hJ.bv 1).trans rfl
        have q0 : wr.cell? ⟨Bg, 0, none⟩ = some (.int .i64 (G D near set 0)) := (blk_cell hJ.bg 0).trans rfl
        have q1 : wr.cell? ⟨Bg, 1, none⟩ = some (.int .i64 (G D near set 1)) := (blk_cell hJ.bg 1).trans rfl
        have q2 : wr.cell? ⟨Bg, 2, none⟩ = some (.int .i64 (G D near set 2)) := (blk_cell hJ.bg 2).trans rfl
        have q3 : wr.cell? ⟨Bg, 3, none⟩ = some (.int .i64 (G D near set 3)) := (blk_cell hJ.bg 3).trans rfl
        have q4 : wr.cell? ⟨Bg, 4, none⟩ = some (.int .i64 (G D near set 4)) := (blk_cell hJ.bg 4).trans rfl
        have q5 : wr.cell? ⟨Bg, 5, none⟩ = some (.int .i64 (G D near set 5)) := (blk_cell hJ.bg 5).trans rfl
        have q6 : wr.cell? ⟨Bg, 6, none⟩ = some (.int .i64 (G D near set 6)) := (blk_cell hJ.bg 6).trans rfl
        obtain ⟨W3, hmu, hm3, hc3, hs3⟩ := put_run (P := Try.prog) keyV (T := 149) Try.underlying149 (elem := 118) (W := wr.drew) ((hl.chg HC2.out id).chg (Chg.refl (fun _ => False) wr).drew id) (near, (set : Int)) (.agg (vec (G D near set)))
        have hB3 := HJ.out.base
        have HW : Aside0 (Chg (fun k => k = mp) W W3) := ⟨((HC2.out.mono (fun _ _ x => x.elim)).drew).trans hc3⟩
        have hne : Bg ≠ mp := fun e => by
          obtain ⟨es, cl, hb, _⟩ := hl.chg HC2.out id
          rw [← e, hJ.bg] at hb; cases hb
        have hneR : Bs + 1 + 1 ≠ mp := fun e => by
          obtain ⟨es, cl, hb, _⟩ := hl.chg HC2.out id
          rw [← e, HR.out] at hb; cases hb
        have hneb : b ≠ mp := fun e => by
          obtain ⟨es, cl, hb, _⟩ := hl.chg HC2.out id
          rw [← e, hJ.sh] at hb; cases hb
        have HG3 := Aside0.mk (hc3.heap (blk_drew hJ.bg) hne)
        have HR3 := Aside0.mk (hc3.heap (blk_drew HR.out) hneR)
        have HSh : Aside0 (Sh w0 W3 D A4 c4 A5 c5 but mp b) := ⟨{
          base := H.out.base.trans (HW.out.below (fun k _ e => by rw [e]; exact H.out.gm) H.out.base.size)
          sh := HW.out.heap H.out.sh hneb
          gb := H.out.gb
          gm := H.out.gm
          cache := ⟨_, hm3, fun p hp' => by
            rw [look_none HQ.out] at hp'
            rcases List.mem_append.1 hp' with h | h
            · exact hp p h
            · simp at h; subst h; exact ⟨near, set, rfl, rfl⟩⟩ }⟩
        clear hJ hB3 HJ HC2 hm3 hne hneb hneR hl hp
        go_wp2
        go_region
        clear hmu hs0 h7 hv0 hv1 q0 q1 q2 q3 q4 q5 q6
        have y0 : W3.cell? ⟨Bg, 0, none⟩ = some (.int .i64 (G D near set 0)) := (blk_cell HG3.out 0).trans rfl
        have r0 : W3.cell? ⟨Bs + 1 + 1, 0, none⟩ = some (.int .i64 0) := (blk_cell HR3.out 0).trans rfl
        have f0 := blk_frozen HR3.out 0
        have y1 : W3.cell? ⟨Bg, 1, none⟩ = some (.int .i64 (G D near set 1)) := (blk_cell HG3.out 1).trans rfl
        have r1 : W3.cell? ⟨Bs + 1 + 1, 1, none⟩ = some (.int .i64 0) := (blk_cell HR3.out 1).trans rfl
        have f1 := blk_frozen HR3.out 1
        have y2 : W3.cell? ⟨Bg, 2, none⟩ = some (.int .i64 (G D near set 2)) := (blk_cell HG3.out 2).trans rfl
        have r2 : W3.cell? ⟨Bs + 1 + 1, 2, none⟩ = some (.int .i64 0) := (blk_cell HR3.out 2).trans rfl
        have f2 := blk_frozen HR3.out 2
        have y3 : W3.cell? ⟨Bg, 3, none⟩ = some (.int .i64 (G D near set 3)) := (blk_cell HG3.out 3).trans rfl
        have r3 : W3.cell? ⟨Bs + 1 + 1, 3, none⟩ = some (.int .i64 0) := (blk_cell HR3.out 3).trans rfl
        have f3 := blk_frozen HR3.out 3
        have y4 : W3.cell? ⟨Bg, 4, none⟩ = some (.int .i64 (G D near set 4)) := (blk_cell HG3.out 4).trans rfl
        have r4 : W3.cell? ⟨Bs + 1 + 1, 4, none⟩ = some (.int .i64 0) := (blk_cell HR3.out 4).trans rfl
        have f4 := blk_frozen HR3.out 4
        have y5 : W3.cell? ⟨Bg, 5, none⟩ = some (.int .i64 (G D near set 5)) := (blk_cell HG3.out 5).trans rfl
        have r5 : W3.cell? ⟨Bs + 1 + 1, 5, none⟩ = some (.int .i64 0) := (blk_cell HR3.out 5).trans rfl
        have f5 := blk_frozen HR3.out 5
        have y6 : W3.cell? ⟨Bg, 6, none⟩ = some (.int .i64 (G D near set 6)) := (blk_cell HG3.out 6).trans rfl
        have r6 : W3.cell? ⟨Bs + 1 + 1, 6, none⟩ = some (.int .i64 0) := (blk_cell HR3.out 6).trans rfl
        have f6 := blk_frozen HR3.out 6
        go_wp2
        rw [Exit.noGoto_ret]
        have gRW : ¬ Bs + 1 + 1 < W.heap.size := by omega
        have HC4 := Aside0.mk (st7_chg HW.out (B := Bs + 1 + 1) (fun hx => absurd hx gRW) (G D near set))
        have HC5 := Aside0.mk (st7_chg (Chg.refl (fun k => k = Bs + 1 + 1) W3) (B := Bs + 1 + 1) (fun _ => rfl) (G D near set))
        refine bodyPost_ret (v := .agg (vec (G D near set))) (results_cell_row rfl _ _ (Bs + 1 + 1) 118 _ (0, 0) _ rfl (st7_heap HR3.out _) Try.underlying118 rfl info118) rfl ⟨rfl, HC4.out, HSh.out.chg HC5.out (fun k e => ?_)⟩
        have n1 : Bs + 1 + 1 ≠ b := fun x => by have h1 := HR3.out; rw [x, HSh.out.sh] at h1; cases h1
        have n2 : Bs + 1 + 1 ≠ mp := fun x => by
          obtain ⟨l', ⟨es, cl, hb, _⟩, _⟩ := HSh.out.cache
          rw [← x, HR3.out] at hb; cases hb
        exact ⟨by omega, by omega, by omega⟩
end Go.Proofs.Ytemeapfnfegkiaa.D
end
/- Package disk: so; the iterator truths. -/
section
namespace Go.Proofs.Ytemeapfnfegkiaa.D
open Go Go.RowKit Go.Proofs.YtemeapfnfegkiaaK Go.Proofs.YtemeapfnfegkiaaW.PrintWords Go.Proofs.YtemeapfnfegkiaaW.PrintLast Go.Proofs.YtemeapfnfegkiaaW.PrintMore Go.Proofs.Ytemeapfnfegkiaa.PR
set_option linter.unusedVariables false
set_option linter.unusedSimpArgs false

/-- whether something that was told is so -/
def sayB (g : Nat → Int) (t : Told) : Bool := (decide (0 < g t.f0.toNat) && g t.f0.toNat == g t.f1.toNat) == t.f2
def soTo (D : Dat) (but : Nat) (g : Nat → Int) (k : Nat) : Bool := (List.range k).all fun i => but.testBit i || sayB g (rd_T52 D.told i)
def soB (D : Dat) (but : Nat) (g : Nat → Int) : Bool := soTo D but g D.told.length
theorem soTo_succ (D : Dat) (but : Nat) (g : Nat → Int) (k : Nat) : soTo D but g (k + 1) = (soTo D but g k && (but.testBit k || sayB g (rd_T52 D.told k))) := by simp [soTo, List.range_succ]
theorem soTo_le (D : Dat) (but : Nat) (g : Nat → Int) {k n : Nat} (h : k ≤ n) (hf : soTo D but g k = false) : soTo D but g n = false := by
  induction n with
  | zero => have : k = 0 := by omega
            subst this; exact hf
  | succ n ih =>
    by_cases e : k = n + 1
    · subst e; exact hf
    · rw [soTo_succ, ih (by omega)]; rfl

set_option maxRecDepth 100000 in
set_option maxHeartbeats 1000000 in
theorem so_calls (w0 W : World) (D : Dat) (A4 : Option Addr) (c4 : Nat) (A5 : Option Addr) (c5 : Nat) (but : Nat) (mp b : Nat) (g : Nat → Int)
    (hA : Arg w0 D A4 c4 A5 c5) (hV : Valid D) (hbut : but < 2 ^ 62) (h : Sh w0 W D A4 c4 A5 c5 but mp b) :
    Calls Try.prog 130 #[.pointer (some ⟨b, 0, none⟩), .agg (vec g)] W
      fun e W' => e = .returned (.bool (soB D but g)) ∧ Chg (fun _ => False) W W' := by
  have H := Aside0.mk h
  have HV := Aside0.mk hV
  have h5 : W.cell? ⟨b, 5, none⟩ = some (.slice A5 D.told.length c5) := (blk_cell h.sh 5).trans rfl
  have h6 : W.cell? ⟨b, 6, none⟩ = some (.int .i64 but) := (blk_cell h.sh 6).trans rfl
  have lb := blk_lt h.sh
  have hn5 := hV.t4
  clear h hV
  go_enter Try.func130, Try.ntmps130
  go_wp2
  have HX : Aside0 ((W.alloc (.cells (vec g) 118)).heap[W.heap.size]? = some (.cells (vec g) 118 (0, 0))) := ⟨blk_new _ _⟩
  have HC : Aside0 (Chg (fun _ => False) W (W.alloc (.cells (vec g) 118))) := ⟨(Chg.refl _ W).alloc _⟩
  generalize W.alloc (.cells (vec g) 118) = W1 at HX HC ⊢
  obtain ⟨Bx, hBx⟩ : ∃ Bx, W.heap.size = Bx := ⟨_, rfl⟩
  rw [hBx] at HX ⊢
  clear hBx
  go_loopw [13] (fun j wr => ∃ k : Nat, k ≤ D.told.length ∧ j = .int .i64 k ∧ Aside0 (soTo D but g k = true) ∧ Aside0 (Chg (fun _ => False) W wr) ∧ Aside0 (wr.heap[Bx]? = some (.cells (vec g) 118 (0, 0)))) (fun j _ => D.told.length - (intOf j).toNat)
  case atStart => exact ⟨0, Nat.zero_le _, rfl, ⟨rfl⟩, HC, HX⟩
  case round =>
    clear HC HX
    obtain ⟨k, hk, rfl, HS, HC, HX⟩ := hrel
    by_cases hlt : k < D.told.length
    · obtain ⟨ad, e, hc0, hc1, hc2⟩ := at_told (Kd.C_below hA.t (H.out.chg HC.out (fun _ x => x.elim)).base) k hlt
      subst e
      obtain ⟨t, ht⟩ : ∃ t, rd_T52 D.told k = t := ⟨_, rfl⟩
      have HT := Aside0.mk ht
      rw [ht] at hc0 hc1 hc2
      have vt := HV.out.ab k hlt
      have hn7 := HV.out.n7
      rw [ht] at vt
      clear ht
      obtain ⟨a, b', o⟩ := t
      simp only at hc0 hc1 hc2 vt
      obtain ⟨v0, v1, v2, v3, v4⟩ := vt
      obtain ⟨a, rfl⟩ := Int.eq_ofNat_of_zero_le v0
      obtain ⟨d, rfl⟩ := Int.eq_ofNat_of_zero_le v2
      have hxa : wr.cell? ⟨Bx, a, none⟩ = some (.int .i64 (g a)) := (blk_cell HX.out a).trans (vec_get _ a (by omega))
      have hxd : wr.cell? ⟨Bx, d, none⟩ = some (.int .i64 (g d)) := (blk_cell HX.out d).trans (vec_get _ d (by omega))
      have lx := blk_lt HX.out
      have hb6 : wr.cell? ⟨b, 6, none⟩ = some (.int .i64 but) := HC.out.cell h6 id
      have lb' : b < wr.heap.size := Nat.lt_of_lt_of_le lb HC.out.size
      have hbit := bit1 but k hbut
      obtain ⟨q, hq⟩ : ∃ q, but.testBit k = q := ⟨_, rfl⟩
      rw [hq] at hbit
      have HQ1 := Aside0.mk hq
      clear hq
      cases q
      · rw [if_neg (by simp)] at hbit
        have HL : Aside0 (∀ r, sayB g ⟨a, d, o⟩ = r → soTo D but g (k + 1) = r) := ⟨fun r hr => by rw [soTo_succ, HS.out, HQ1.out, HT.out, hr]; rfl⟩
        have HE : Aside0 (sayB g ⟨a, d, o⟩ = ((decide (0 < g a) && g a == g d) == o)) := ⟨by simp [sayB]⟩
        obtain ⟨q, hq⟩ : ∃ q, (g a == g d) = q := ⟨_, rfl⟩
        by_cases hg : 0 < g a <;> cases q <;> cases o
        all_goals
          have HG : Aside0 (decide (0 < g a) = decide (0 < g a)) := ⟨rfl⟩
          first | (have hgd : decide (0 < g a) = true := by simpa using hg) | (have hgd : decide (0 < g a) = false := by simpa using hg)
          rw [hgd, hq] at HE
          go_wp2
          go_quiet (fail)
          go_wp2
          first
            | (go_roundw
               case rel => exact ⟨k + 1, by omega, by go_num, ⟨HL.out true HE.out⟩, ⟨(HC.out.alloc _).drewN _⟩, ⟨blk_drewN (blk_alloc HX.out _) _⟩⟩
               case measure => simp [intOf]; omega)
            | (go_ret
               exact ⟨by rw [soB, soTo_le D but g (show k + 1 ≤ D.told.length by omega) (HL.out false HE.out)]; rfl, (HC.out.alloc _).drewN _⟩)
      · rw [if_pos rfl] at hbit
        go_wp2
        go_quiet (fail)
        go_wp2
        go_roundw
        case rel => exact ⟨k + 1, by omega, by go_num, ⟨by rw [soTo_succ, HS.out, HQ1.out]; rfl⟩, ⟨(HC.out.alloc _).drewN _⟩, ⟨blk_drewN (blk_alloc HX.out _) _⟩⟩
        case measure => simp [intOf]; omega
    · obtain rfl : k = D.told.length := by omega
      go_wp2
      go_ret
      exact ⟨by rw [soB, HS.out]; rfl, HC.out⟩
end Go.Proofs.Ytemeapfnfegkiaa.D
end
/- Package disk: the iterator truths. -/
section
namespace Go.Proofs.Ytemeapfnfegkiaa.D
open Go Go.RowKit Go.Proofs.YtemeapfnfegkiaaK Go.Proofs.YtemeapfnfegkiaaW.PrintWords Go.Proofs.YtemeapfnfegkiaaW.PrintLast Go.Proofs.YtemeapfnfegkiaaW.PrintMore Go.Proofs.Ytemeapfnfegkiaa.PR
set_option linter.unusedVariables false
set_option linter.unusedSimpArgs false

def onB (D : Dat) (k : Nat) : Bool := decide ((rd_T80 D.spots k).f0 * (rd_T80 D.spots k).f0 + (rd_T80 D.spots k).f1 * (rd_T80 D.spots k).f1 ≤ D.rad * D.rad)
def mayTo (D : Dat) : Nat → Nat
  | 0 => 0
  | k + 1 => if onB D k then mayTo D k ||| 2 ^ k else mayTo D k
def sureTo (D : Dat) : Nat → Nat
  | 0 => 0
  | k + 1 => if onB D k && (rd_T80 D.spots k).f2 then sureTo D k ||| 2 ^ k else sureTo D k
theorem mayTo_lt (D : Dat) : ∀ k, mayTo D k < 2 ^ k
  | 0 => by simp [mayTo]
  | k + 1 => by
    have h := mayTo_lt D k
    unfold mayTo
    split
    · exact Nat.or_lt_two_pow (by omega) (by omega)
    · omega
theorem sureTo_lt (D : Dat) : ∀ k, sureTo D k < 2 ^ k
  | 0 => by simp [sureTo]
  | k + 1 => by
    have h := sureTo_lt D k
    unfold sureTo
    split
    · exact Nat.or_lt_two_pow (by omega) (by omega)
    · omega
/-- which dots can be all spots -/
def okSet (D : Dat) (set : Nat) : Bool := set &&& sureTo D D.spots.length == sureTo D D.spots.length && less set (mayTo D D.spots.length) == 0
def isTruth (D : Dat) (but : Nat) (near : Int) (set : Nat) : Bool := okSet D set && soB D but (G D near set)
def setsTo (D : Dat) (but : Nat) (near : Int) (s : Nat) : List (Int × Nat) := ((List.range s).filter (isTruth D but near)).map fun s => (near, s)
def nearsTo (D : Dat) (but : Nat) (k : Nat) : List (Int × Nat) := (List.range k).flatMap fun (i : Nat) => setsTo D but (D.lo + (i : Int)) (2 ^ D.spots.length)
/-- all truths, in the program's order -/
def truthsL (D : Dat) (but : Nat) : List (Int × Nat) := nearsTo D but (D.hi - D.lo + 1).toNat
def encT (D : Dat) (x : Int × Nat) : Array Value := #[.agg #[.int .i64 x.1, .int .i64 x.2], .agg (vec (G D x.1 x.2))]
theorem setsTo_succ (D : Dat) (but : Nat) (near : Int) (s : Nat) : setsTo D but near (s + 1) = setsTo D but near s ++ (if isTruth D but near s then [(near, s)] else []) := by
  simp only [setsTo, List.range_succ, List.filter_append, List.map_append]
  by_cases h : isTruth D but near s = true
  · simp [h]
  · simp [h]
theorem nearsTo_succ (D : Dat) (but : Nat) (k : Nat) : nearsTo D but (k + 1) = nearsTo D but k ++ setsTo D but (D.lo + k) (2 ^ D.spots.length) := by
  simp [nearsTo, List.range_succ]
theorem setsTo_prefix (D : Dat) (but : Nat) (near : Int) {s t : Nat} (h : s ≤ t) : setsTo D but near s <+: setsTo D but near t := by
  induction t with
  | zero => have : s = 0 := by omega
            subst this; exact List.prefix_refl _
  | succ t ih =>
    by_cases e : s = t + 1
    · subst e; exact List.prefix_refl _
    · exact (ih (by omega)).trans (by rw [setsTo_succ]; exact List.prefix_append _ _)
theorem nearsTo_prefix (D : Dat) (but : Nat) {s t : Nat} (h : s ≤ t) : nearsTo D but s <+: nearsTo D but t := by
  induction t with
  | zero => have : s = 0 := by omega
            subst this; exact List.prefix_refl _
  | succ t ih =>
    by_cases e : s = t + 1
    · subst e; exact List.prefix_refl _
    · exact (ih (by omega)).trans (by rw [nearsTo_succ]; exact List.prefix_append _ _)
theorem part_prefix (D : Dat) (but : Nat) {i s : Nat} (hi : i < (D.hi - D.lo + 1).toNat) (hs : s ≤ 2 ^ D.spots.length) : nearsTo D but i ++ setsTo D but (D.lo + i) s <+: truthsL D but :=
  ((List.prefix_append_right_inj _).2 (setsTo_prefix D but _ hs)).trans (by rw [← nearsTo_succ]; exact nearsTo_prefix D but hi)

/-- what holds whenever a round runs -/
structure Ok (w0 : World) (D : Dat) (A4 : Option Addr) (c4 : Nat) (A5 : Option Addr) (c5 : Nat) (but : Nat) (mp b Bs : Nat) (W : World) : Prop where
  s : Sh w0 W D A4 c4 A5 c5 but mp b
  bs : W.heap[Bs]? = some (.cells #[.pointer (some ⟨b, 0, none⟩)] 112 (0, 0))

theorem sq_le {x : Int} (h : -12 ≤ x) (k : x ≤ 12) : 0 ≤ x * x ∧ x * x ≤ 144 := by
  constructor
  · rcases Int.le_total 0 x with h0 | h0
    · exact Int.mul_nonneg h0 h0
    · have := Int.mul_nonneg (show 0 ≤ -x by omega) (show 0 ≤ -x by omega)
      rwa [Int.neg_mul_neg] at this
  · have : 0 ≤ (12 - x) * (12 + x) := Int.mul_nonneg (by omega) (by omega)
    have e : (12 - x) * (12 + x) = 144 - x * x := by rw [Int.sub_mul, Int.mul_add, Int.mul_add]; omega
    omega
theorem or_pow {a k : Nat} (ha : a < 2 ^ 62) (hk : k < 62) : bits .or .i64 (a : Int) (wrap64 (2 ^ k)) = ((a ||| 2 ^ k : Nat) : Int) := by
  have h := shl1 k hk
  rw [Int.one_mul] at h
  have h' : wrap64 (2 ^ k) = ((2 ^ k : Nat) : Int) := by rw [← i64_w]; exact h
  rw [h', or_i64 a (2 ^ k) ha (Nat.pow_lt_pow_right (by decide) hk)]

set_option maxRecDepth 100000 in
set_option maxHeartbeats 2000000 in
theorem truthsC_iter (w0 W0 : World) (D : Dat) (A4 : Option Addr) (c4 : Nat) (A5 : Option Addr) (c5 : Nat) (but : Nat) (mp b Bs : Nat)
    (hA : Arg w0 D A4 c4 A5 c5) (hV : Valid D) (hbut : but < 2 ^ 62) (hmp : mp < W0.heap.size) :
    Iter Try.prog 129 #[.pointer (some ⟨Bs, 0, none⟩)] (encT D) (fun k => k = mp) (Ok w0 D A4 c4 A5 c5 but mp b Bs) (truthsL D but) W0 := by
  intro l J Jx W Fp0 hW hl1 hl2 hF0 hJ hJx hY h0 hOk
  refine callsIn_wide.2 ?_
  have HOk := Aside0.mk hOk
  have H0 := Aside0.mk h0
  have HY := Aside0.mk hY
  have HJ := Aside0.mk hJ
  have HJx := Aside0.mk hJx
  have s0 : W.cell? ⟨Bs, 0, none⟩ = some (.pointer (some ⟨b, 0, none⟩)) := (blk_cell hOk.bs 0).trans rfl
  have h1 : W.cell? ⟨b, 1, none⟩ = some (.int .i64 D.rad) := (blk_cell hOk.s.sh 1).trans rfl
  have h4 : W.cell? ⟨b, 4, none⟩ = some (.slice A4 D.spots.length c4) := (blk_cell hOk.s.sh 4).trans rfl
  have lb := blk_lt hOk.s.sh
  have ls := blk_lt hOk.bs
  have hn7 := hV.n7
  have HF0 := Aside0.mk hF0
  clear hOk h0 hY hJ hJx hW hF0
  go_enter Try.func129, Try.ntmps129
  go_wp2
  go_loopw [4, 5, 20] (fun v4 v5 j wr => ∃ k : Nat, k ≤ D.spots.length ∧ j = .int .i64 k ∧ v4 = .int .i64 (sureTo D k) ∧ v5 = .int .i64 (mayTo D k) ∧ Aside0 (Chg (fun _ => False) W wr)) (fun _ _ j _ => D.spots.length - (intOf j).toNat)
  case atStart => exact ⟨0, Nat.zero_le _, rfl, rfl, rfl, ⟨Chg.refl _ _⟩⟩
  case round =>
    obtain ⟨k, hk, rfl, rfl, rfl, HC⟩ := hrel
    have c0 : wr.cell? ⟨Bs, 0, none⟩ = some (.pointer (some ⟨b, 0, none⟩)) := HC.out.cell s0 id
    have c1 : wr.cell? ⟨b, 1, none⟩ = some (.int .i64 D.rad) := HC.out.cell h1 id
    have c4' : wr.cell? ⟨b, 4, none⟩ = some (.slice A4 D.spots.length c4) := HC.out.cell h4 id
    have lb' : b < wr.heap.size := Nat.lt_of_lt_of_le lb HC.out.size
    have ls' : Bs < wr.heap.size := Nat.lt_of_lt_of_le ls HC.out.size
    by_cases hlt : k < D.spots.length
    · obtain ⟨ad, e, hc0, hc1, hc2⟩ := at_spot (Kd.C_below hA.s (HOk.out.s.chg HC.out (fun _ x => x.elim)).base) k hlt
      subst e
      obtain ⟨xk, hxk⟩ : ∃ x, rd_T80 D.spots k = x := ⟨_, rfl⟩
      have HK := Aside0.mk hxk
      rw [hxk] at hc0 hc1 hc2
      have vk := hV.xy k hlt
      rw [hxk] at vk
      clear hxk
      obtain ⟨vk0, vk1, vk2, vk3⟩ := vk
      have m1 := sq_le vk0 vk1
      have m2 := sq_le vk2 vk3
      have m3 := sq_le (show -12 ≤ D.rad by have := hV.rad; omega) hV.rad.2
      obtain ⟨m10, m11⟩ := m1
      obtain ⟨m20, m21⟩ := m2
      obtain ⟨m30, m31⟩ := m3
      have HON : Aside0 (onB D k = decide (xk.f0 * xk.f0 + xk.f1 * xk.f1 ≤ D.rad * D.rad)) := ⟨by rw [onB, HK.out]⟩
      obtain ⟨p, hp⟩ : ∃ p, xk.f0 * xk.f0 = p := ⟨_, rfl⟩
      obtain ⟨q, hq⟩ : ∃ q, xk.f1 * xk.f1 = q := ⟨_, rfl⟩
      obtain ⟨r, hr⟩ : ∃ r, D.rad * D.rad = r := ⟨_, rfl⟩
      rw [hp] at m10 m11 HON
      rw [hq] at m20 m21 HON
      rw [hr] at m30 m31 HON
      have hk62 : k < 62 := by omega
      have hor1 : bits .or .i64 (mayTo D k : Int) (wrap64 (2 ^ k)) = ((mayTo D k ||| 2 ^ k : Nat) : Int) := or_pow (Nat.lt_trans (mayTo_lt D k) (Nat.pow_lt_pow_right (by decide) hk62)) hk62
      have hor2 : bits .or .i64 (sureTo D k : Int) (wrap64 (2 ^ k)) = ((sureTo D k ||| 2 ^ k : Nat) : Int) := or_pow (Nat.lt_trans (sureTo_lt D k) (Nat.pow_lt_pow_right (by decide) hk62)) hk62
      obtain ⟨f0, f1, f2⟩ := xk
      simp only at hc0 hc1 hc2 hp hq
      by_cases hon : p + q ≤ r
      · have HO2 : Aside0 (onB D k = true) := ⟨by rw [HON.out]; simpa using hon⟩
        cases f2
        all_goals
          go_wp2
          go_quiet (fail)
          go_wp2
          go_roundw
          case rel => exact ⟨k + 1, by omega, by go_num, by rw [sureTo, HO2.out, HK.out]; rfl, by rw [mayTo, HO2.out]; rfl, ⟨(HC.out.alloc _).drewN _⟩⟩
          case measure => simp [intOf]; omega
      · have HO2 : Aside0 (onB D k = false) := ⟨by rw [HON.out]; simpa using hon⟩
        go_wp2
        go_quiet (fail)
        go_wp2
        go_roundw
        case rel => exact ⟨k + 1, by omega, by go_num, by rw [sureTo, HO2.out]; rfl, by rw [mayTo, HO2.out]; rfl, ⟨(HC.out.alloc _).drewN _⟩⟩
        case measure => simp [intOf]; omega
    · obtain rfl : k = D.spots.length := by omega
      have HOk1 : Aside0 (Ok w0 D A4 c4 A5 c5 but mp b Bs wr) := ⟨HOk.out.s.chg HC.out (fun _ x => x.elim), HC.out.heap HOk.out.bs id⟩
      have HJ1 : Aside0 (J [] Fp0 wr) := ⟨HJ.out _ _ _ _ H0.out (HC.out.mono (fun _ _ x => x.elim)) HOk1.out⟩
      have HF1 : Aside0 (∀ k, Fp0 k → k < wr.heap.size) := ⟨fun k hk => Nat.lt_of_lt_of_le (HF0.out k hk) HC.out.size⟩
      have HS1 := Aside0.mk HC.out.size
      have c2 : wr.cell? ⟨b, 2, none⟩ = some (.int .i64 D.lo) := (blk_cell HOk1.out.s.sh 2).trans rfl
      have lo0 := hV.lo
      have hi12 := hV.hi
      have hle := hV.le
      have hsh : wrap64 (2 ^ D.spots.length) = ((2 ^ D.spots.length : Nat) : Int) := by
        have h := shl1 D.spots.length (by omega)
        rw [Int.one_mul] at h
        rw [← i64_w]; exact h
      have hN : 2 ^ D.spots.length ≤ 128 := Nat.pow_le_pow_right (n := 2) (by decide) hn7
      obtain ⟨N, hNe⟩ : ∃ N, 2 ^ D.spots.length = N := ⟨_, rfl⟩
      have HN := Aside0.mk hNe
      rw [hNe] at hsh hN
      have HSH := Aside0.mk hsh
      clear hNe hsh
      go_wp2
      go_loopw [8] (fun v8 wr => ∃ (i : Nat) (Fp : Nat → Prop), i ≤ (D.hi - D.lo + 1).toNat ∧ v8 = .int .i64 (D.lo + i) ∧ Aside0 (J (nearsTo D but i) Fp wr) ∧ Aside0 (Ok w0 D A4 c4 A5 c5 but mp b Bs wr) ∧ Aside0 (∀ k, Fp k → k < wr.heap.size) ∧ Aside0 (W.heap.size ≤ wr.heap.size)) (fun v8 _ => (D.hi + 1 - intOf v8).toNat)
      case atStart => exact ⟨0, Fp0, Nat.zero_le _, by simp, HJ1, HOk1, HF1, HS1⟩
      case round =>
        clear HOk1 HJ1 HF1 HS1 c2 HC
        obtain ⟨i, Fp, hi, rfl, HJ1, HOk1, HF1, HS1⟩ := hrel
        have c0 : wr.cell? ⟨Bs, 0, none⟩ = some (.pointer (some ⟨b, 0, none⟩)) := (blk_cell HOk1.out.bs 0).trans rfl
        have c3 : wr.cell? ⟨b, 3, none⟩ = some (.int .i64 D.hi) := (blk_cell HOk1.out.s.sh 3).trans rfl
        have c4' : wr.cell? ⟨b, 4, none⟩ = some (.slice A4 D.spots.length c4) := (blk_cell HOk1.out.s.sh 4).trans rfl
        obtain ⟨near, hnear⟩ : ∃ near, D.lo + (i : Int) = near := ⟨_, rfl⟩
        have HNE := Aside0.mk hnear
        have hnear0 : 0 ≤ near := by omega
        by_cases hlt : near ≤ D.hi
        · have hi1 : i < (D.hi - D.lo + 1).toNat := by omega
          rw [hnear]
          clear hnear
          go_wp2
          rw [HSH.out]
          go_loopw [87] (fun v87 wr => ∃ (t : Nat) (Fp : Nat → Prop), t ≤ N ∧ v87 = .int .i64 t ∧ Aside0 (J (nearsTo D but i ++ setsTo D but near t) Fp wr) ∧ Aside0 (Ok w0 D A4 c4 A5 c5 but mp b Bs wr) ∧ Aside0 (∀ k, Fp k → k < wr.heap.size) ∧ Aside0 (W.heap.size ≤ wr.heap.size)) (fun v87 _ => N - (intOf v87).toNat)
          case atStart => exact ⟨0, Fp, Nat.zero_le _, rfl, ⟨by simpa [setsTo] using HJ1.out⟩, HOk1, HF1, HS1⟩
          case round =>
            clear HOk1 HJ1 HF1 HS1 c0 c3 c4' 
            obtain ⟨t, Fp, ht, rfl, HJ1, HOk1, HF1, HS1⟩ := hrel
            by_cases htn : t < N
            · have ht62 : t < 2 ^ 62 := by omega
              have hsu : sureTo D D.spots.length < 2 ^ 62 := Nat.lt_trans (sureTo_lt D _) (Nat.pow_lt_pow_right (by decide) (by omega))
              have hma : mayTo D D.spots.length < 2 ^ 62 := Nat.lt_trans (mayTo_lt D _) (Nat.pow_lt_pow_right (by decide) (by omega))
              have hand := and_i64 t (sureTo D D.spots.length) ht62 hsu
              have hnot := andNot_i64 t (mayTo D D.spots.length) ht62 hma
              have HOS : Aside0 (okSet D t = (t &&& sureTo D D.spots.length == sureTo D D.spots.length && less t (mayTo D D.spots.length) == 0)) := ⟨rfl⟩
              obtain ⟨x, hx⟩ : ∃ x, t &&& sureTo D D.spots.length = x := ⟨_, rfl⟩
              obtain ⟨y, hy⟩ : ∃ y, less t (mayTo D D.spots.length) = y := ⟨_, rfl⟩
              rw [hx] at hand HOS
              rw [hy] at hnot HOS
              clear ht62 hsu hma hx hy
              have c0 : wr.cell? ⟨Bs, 0, none⟩ = some (.pointer (some ⟨b, 0, none⟩)) := (blk_cell HOk1.out.bs 0).trans rfl
              by_cases hxs : x = sureTo D D.spots.length
              · have hx1 : ((x : Int) == (sureTo D D.spots.length : Int)) = true := by rw [hxs]; simp
                by_cases hy0 : y = 0
                · have HOK : Aside0 (okSet D t = true) := ⟨by rw [HOS.out, hxs, hy0]; simp⟩
                  rw [hxs] at hand
                  rw [hy0] at hnot
                  clear hxs hy0 hx1 HOS
                  have HOka : Aside0 (Ok w0 D A4 c4 A5 c5 but mp b Bs (wr.alloc (.cells #[.int .i64 near, .int .i64 t] 130))) := ⟨HOk1.out.s.chg ((Chg.refl (fun _ => False) wr).alloc _) (fun _ x => x.elim), blk_alloc HOk1.out.bs _⟩
                  have HVa : Aside0 ((wr.alloc (.cells #[.int .i64 near, .int .i64 t] 130)).heap[wr.heap.size]? = some (.cells #[.int .i64 near, .int .i64 t] 130 (0, 0))) := ⟨blk_new _ _⟩
                  have ls' : Bs < wr.heap.size := blk_lt HOk1.out.bs
                  go_upto_region 19 with (go_at_call 131; refine (groups_calls w0 _ D A4 c4 A5 c5 but mp b near t hA hV hnear0 (by omega) (by omega) HOka.out.s).mono ?_; rintro e w1 ⟨rfl, hcg, hsg⟩; have HCG := Aside0.mk hcg; have HSG := Aside0.mk hsg; clear hcg hsg)
                  have HC2 : Aside0 (Chg (fun k => k = mp) wr (w1.alloc (.cells (vec (G D near t)) 118))) := ⟨((((Chg.refl (fun k => k = mp) wr).alloc _).trans HCG.out).alloc _)⟩
                  have HOk2 : Aside0 (Ok w0 D A4 c4 A5 c5 but mp b Bs (w1.alloc (.cells (vec (G D near t)) 118))) := ⟨HSG.out.chg ((Chg.refl (fun _ => False) w1).alloc _) (fun _ x => x.elim), HC2.out.heap HOk1.out.bs (fun e => by
                    obtain ⟨es, cl, hb, _⟩ := HOk1.out.s.cache.choose_spec.1
                    rw [← e, HOk1.out.bs] at hb; cases hb)⟩
                  have HV2 : Aside0 ((w1.alloc (.cells (vec (G D near t)) 118)).heap[wr.heap.size]? = some (.cells #[.int .i64 near, .int .i64 t] 130 (0, 0))) := ⟨blk_alloc (HCG.out.heap HVa.out (fun e => by
                    obtain ⟨es, cl, hb, _⟩ := HOka.out.s.cache.choose_spec.1
                    rw [← e, HVa.out] at hb; cases hb)) _⟩
                  have HG2 : Aside0 ((w1.alloc (.cells (vec (G D near t)) 118)).heap[w1.heap.size]? = some (.cells (vec (G D near t)) 118 (0, 0))) := ⟨blk_new _ _⟩
                  clear HCG HSG HOka HVa ls' c0
                  generalize hW2 : w1.alloc (.cells (vec (G D near t)) 118) = W2 at HC2 HOk2 HV2 HG2 ⊢
                  clear hW2
                  obtain ⟨Bv, hBv⟩ : ∃ Bv, wr.heap.size = Bv := ⟨_, rfl⟩
                  obtain ⟨Bg, hBg⟩ : ∃ Bg, w1.heap.size = Bg := ⟨_, rfl⟩
                  rw [hBv] at HV2 ⊢
                  rw [hBg] at HG2 ⊢
                  clear hBv hBg
                  have HJ2 : Aside0 (J (nearsTo D but i ++ setsTo D but near t) Fp W2) := ⟨HJ.out _ _ _ _ HJ1.out (HC2.out.mono (fun k _ e => .inl e)) HOk2.out⟩
                  have HF2 : Aside0 (∀ k, Fp k → k < W2.heap.size) := ⟨fun k hk => Nat.lt_of_lt_of_le (HF1.out k hk) HC2.out.size⟩
                  have HS2 : Aside0 (W.heap.size ≤ W2.heap.size) := ⟨Nat.le_trans HS1.out HC2.out.size⟩
                  clear HC2 HJ1 HOk1 HF1 HS1
                  have q0 : W2.cell? ⟨Bg, 0, none⟩ = some (.int .i64 (G D near t 0)) := (blk_cell HG2.out 0).trans rfl
                  have q1 : W2.cell? ⟨Bg, 1, none⟩ = some (.int .i64 (G D near t 1)) := (blk_cell HG2.out 1).trans rfl
                  have q2 : W2.cell? ⟨Bg, 2, none⟩ = some (.int .i64 (G D near t 2)) := (blk_cell HG2.out 2).trans rfl
                  have q3 : W2.cell? ⟨Bg, 3, none⟩ = some (.int .i64 (G D near t 3)) := (blk_cell HG2.out 3).trans rfl
                  have q4 : W2.cell? ⟨Bg, 4, none⟩ = some (.int .i64 (G D near t 4)) := (blk_cell HG2.out 4).trans rfl
                  have q5 : W2.cell? ⟨Bg, 5, none⟩ = some (.int .i64 (G D near t 5)) := (blk_cell HG2.out 5).trans rfl
                  have q6 : W2.cell? ⟨Bg, 6, none⟩ = some (.int .i64 (G D near t 6)) := (blk_cell HG2.out 6).trans rfl
                  obtain ⟨so, hso⟩ : ∃ so, soB D but (G D near t) = so := ⟨_, rfl⟩
                  have HSO := Aside0.mk hso
                  have HT : Aside0 (isTruth D but near t = so) := ⟨by rw [isTruth, HOK.out, hso]; rfl⟩
                  clear hso
                  have HPRE : Aside0 (so = true → (nearsTo D but i ++ setsTo D but near t) ++ [(near, t)] <+: truthsL D but) := ⟨fun h => by
                    rw [List.append_assoc, show setsTo D but near t ++ [(near, t)] = setsTo D but near (t + 1) by rw [setsTo_succ, HT.out, h]; rfl, ← HNE.out]
                    exact part_prefix D but hi1 (by rw [HN.out]; omega)⟩
                  cases so
                  · go_wp2_with (go_at_call 130; refine (so_calls w0 _ D A4 c4 A5 c5 but mp b (G D near t) hA hV hbut HOk2.out.s).mono ?_; rintro e w2 ⟨rfl, hc2⟩; have HC3 := Aside0.mk hc2; clear hc2; rw [HSO.out])
                    go_roundw
                    case rel => exact ⟨t + 1, Fp, by omega, by go_num, ⟨by rw [setsTo_succ, HT.out]; simpa using HJ.out _ _ _ _ HJ2.out (HC3.out.mono (fun _ _ x => x.elim)) ⟨HOk2.out.s.chg HC3.out (fun _ x => x.elim), HC3.out.heap HOk2.out.bs id⟩⟩, ⟨HOk2.out.s.chg HC3.out (fun _ x => x.elim), HC3.out.heap HOk2.out.bs id⟩, ⟨fun k hk => Nat.lt_of_lt_of_le (HF2.out k hk) HC3.out.size⟩, ⟨Nat.le_trans HS2.out HC3.out.size⟩⟩
                    case measure => simp [intOf]; omega
                  · refine (wpIn_wide (n := 0)).1 ?_
                    gi_wp2_with (refine ⟨trivial, rfl, ?_⟩; gi_at_call 130; refine (callsIn_wide.2 (so_calls w0 _ D A4 c4 A5 c5 but mp b (G D near t) hA hV hbut HOk2.out.s)).mono ?_; rintro e w2 ⟨rfl, hc2⟩; have HC3 := Aside0.mk hc2; clear hc2; rw [HSO.out]; have HOk3 : Aside0 (Ok w0 D A4 c4 A5 c5 but mp b Bs w2) := ⟨⟨HOk2.out.s.chg HC3.out (fun _ x => x.elim), HC3.out.heap HOk2.out.bs id⟩⟩; have HJ3 : Aside0 (J (nearsTo D but i ++ setsTo D but near t) Fp w2) := ⟨HJ.out _ _ _ _ HJ2.out (HC3.out.mono (fun _ _ x => x.elim)) HOk3.out⟩; have HF3 : Aside0 (∀ k, Fp k → k < w2.heap.size) := ⟨fun k hk => Nat.lt_of_lt_of_le (HF2.out k hk) HC3.out.size⟩; obtain ⟨fn, tmps, assign, body, hy, hR⟩ := HY.out _ (near, t) Fp w2 (HPRE.out (by simp)) HJ3.out HOk3.out HF3.out; dsimp only [encT] at hy; have HRQ := Aside0.mk hR; clear hR; have q0 := HC3.out.cell q0 id; have q1 := HC3.out.cell q1 id; have q2 := HC3.out.cell q2 id; have q3 := HC3.out.cell q3 id; have q4 := HC3.out.cell q4 id; have q5 := HC3.out.cell q5 id; have q6 := HC3.out.cell q6 id; have v0 : w2.cell? ⟨Bv, 0, none⟩ = some (.int .i64 near) := (blk_cell (HC3.out.heap HV2.out id) 0).trans rfl; have v1 : w2.cell? ⟨Bv, 1, none⟩ = some (.int .i64 t) := (blk_cell (HC3.out.heap HV2.out id) 1).trans rfl)
                    refine ⟨rfl, HRQ.out.mono ?_⟩
                    clear hy
                    rintro e W3 (⟨rfl, Fp', hj4, hc4, hok4, hf4⟩ | ⟨rfl, hj4, hok4⟩)
                    · have HJ4 := Aside0.mk hj4
                      have HC4 := Aside0.mk hc4
                      have HOk4 := Aside0.mk hok4
                      have HF4 : Aside0 (∀ k, Fp' k → k < W3.heap.size) := ⟨fun k hk => (hf4 k hk).1⟩
                      clear hj4 hc4 hok4 hf4
                      gi_wp2
                      go_wp2
                      go_roundw
                      case rel => exact ⟨t + 1, Fp', by omega, by go_num, ⟨by rw [setsTo_succ, HT.out, if_pos rfl, ← List.append_assoc]; exact HJ4.out⟩, HOk4, HF4, ⟨Nat.le_trans HS2.out (Nat.le_trans HC3.out.size HC4.out.size)⟩⟩
                      case measure => simp [intOf]; omega
                    · have HJ4 := Aside0.mk hj4
                      have HOk4 := Aside0.mk hok4
                      clear hj4 hok4
                      gi_wp2
                      go_wp2
                      refine bodyPost_ret (results_none rfl _ _ _) rfl ?_
                      exact ⟨⟨_, rfl⟩, .inr ⟨_, HPRE.out (by simp), HJ4.out, HOk4.out⟩⟩
                · have hy1 : ((y : Int) == 0) = false := beq_eq_false_iff_ne.2 (by omega)
                  have HT : Aside0 (isTruth D but near t = false) := ⟨by rw [isTruth, HOS.out, beq_eq_false_iff_ne.2 hy0]; simp⟩
                  rw [hxs] at hand
                  clear hxs
                  go_wp2
                  go_roundw
                  case rel => exact ⟨t + 1, Fp, by omega, by go_num, ⟨by rw [setsTo_succ, HT.out]; simpa using HJ1.out⟩, HOk1, HF1, HS1⟩
                  case measure => simp [intOf]; omega
              · have hx1 : ((x : Int) == (sureTo D D.spots.length : Int)) = false := beq_eq_false_iff_ne.2 (by omega)
                have HT : Aside0 (isTruth D but near t = false) := ⟨by rw [isTruth, HOS.out, beq_eq_false_iff_ne.2 hxs]; simp⟩
                go_wp2
                go_roundw
                case rel => exact ⟨t + 1, Fp, by omega, by go_num, ⟨by rw [setsTo_succ, HT.out]; simpa using HJ1.out⟩, HOk1, HF1, HS1⟩
                case measure => simp [intOf]; omega
            · obtain rfl : t = N := by omega
              go_wp2
              go_roundw
              case rel => exact ⟨i + 1, Fp, by omega, by rw [← HNE.out]; go_num, ⟨by rw [nearsTo_succ, HN.out, HNE.out]; exact HJ1.out⟩, HOk1, HF1, HS1⟩
              case measure => simp [intOf]; omega
        · have hi1 : i = (D.hi - D.lo + 1).toNat := by omega
          rw [hnear]
          clear hnear
          go_wp2
          go_end0
          exact ⟨⟨_, rfl⟩, .inl ⟨Fp, by rw [truthsL, ← hi1]; exact HJ1.out, HOk1.out, HF1.out⟩⟩
end Go.Proofs.Ytemeapfnfegkiaa.D
end
/- Package disk: look, truths, some, enter. -/
section
namespace Go.Proofs.Ytemeapfnfegkiaa.D
open Go Go.RowKit Go.Proofs.YtemeapfnfegkiaaK Go.Proofs.YtemeapfnfegkiaaW.PrintWords Go.Proofs.YtemeapfnfegkiaaW.PrintLast Go.Proofs.YtemeapfnfegkiaaW.PrintMore Go.Proofs.Ytemeapfnfegkiaa.PR
set_option linter.unusedVariables false
set_option linter.unusedSimpArgs false
attribute [local go_sem] Oper.semAt_some

set_option maxHeartbeats 400000 in
theorem look_calls (w0 W : World) (D : Dat) (A4 : Option Addr) (c4 : Nat) (A5 : Option Addr) (c5 : Nat) (but : Nat) (hB : Below w0.heap.size w0 W) :
    Calls Try.prog 107 #[.agg #[.string D.nm, .int .i64 D.rad, .int .i64 D.lo, .int .i64 D.hi, .slice A4 D.spots.length c4, .slice A5 D.told.length c5], .int .i64 but] W
      fun e W' => ∃ mp b, e = .returned (.pointer (some ⟨b, 0, none⟩)) ∧ Chg (fun _ => False) W W' ∧ Sh w0 W' D A4 c4 A5 c5 but mp b ∧ W.heap.size ≤ mp ∧ W.heap.size ≤ b := by
  have hmm := @run_makeMap Try.prog
  have hz := hB.size
  go_enter Try.func107, Try.ntmps107
  go_wp2
  go_ret
  refine ⟨W.heap.size + 1, _, rfl, (((Chg.refl _ W).alloc _).alloc _).alloc _, ⟨?_, ?_, ?_, ?_, [], ?_, fun p hp => by cases hp⟩, by omega, by omega⟩
  · exact ((hB.alloc hz _).alloc (by simp; omega) _).alloc (by simp; omega) _
  · exact new_at (by simp) _
  · omega
  · omega
  · exact (MapAt.made (W.alloc _) encV).chg (((Chg.refl (fun _ => False) _).alloc _)) id |> fun h => by simpa using h

set_option maxHeartbeats 400000 in
theorem truths_calls (W : World) (b : Nat) :
    Calls Try.prog 118 #[.pointer (some ⟨b, 0, none⟩)] W
      fun e W' => e = .returned (.func (.func 129) #[] #[.pointer (some ⟨W.heap.size, 0, none⟩)]) ∧ W' = W.alloc (.cells #[.pointer (some ⟨b, 0, none⟩)] 112) := by
  go_enter Try.func118, Try.ntmps118
  go_wp2
  go_ret
  exact ⟨rfl, rfl⟩

theorem enters129 (args : Array Value) (w : World) : (callFunc 129 args).run Try.prog w = .ok (.enter 129 args) w := enters_of Try.func129 (by kernel_rfl) rfl args w
theorem Ok.chg {w0 : World} {D : Dat} {A4 : Option Addr} {c4 : Nat} {A5 : Option Addr} {c5 : Nat} {but : Nat} {mp b Bs : Nat} {W W' : World} {S : Nat → Prop} (h : Ok w0 D A4 c4 A5 c5 but mp b Bs W) (hc : Chg S W W') (h0 : ∀ k, S k → w0.heap.size ≤ k ∧ k ≠ b ∧ k ≠ mp ∧ k ≠ Bs) : Ok w0 D A4 c4 A5 c5 but mp b Bs W' :=
  ⟨h.s.chg hc (fun k hk => ⟨(h0 k hk).1, (h0 k hk).2.1, (h0 k hk).2.2.1⟩), hc.heap h.bs (fun hk => (h0 _ hk).2.2.2 rfl)⟩
theorem Sh.mp_lt {w0 W : World} {D : Dat} {A4 : Option Addr} {c4 : Nat} {A5 : Option Addr} {c5 : Nat} {but : Int} {mp b : Nat} (h : Sh w0 W D A4 c4 A5 c5 but mp b) : mp < W.heap.size := by
  obtain ⟨l, ⟨es, cl, hb, _⟩, _⟩ := h.cache
  exact blk_lt hb
theorem Sh.mp_ne {w0 W : World} {D : Dat} {A4 : Option Addr} {c4 : Nat} {A5 : Option Addr} {c5 : Nat} {but : Int} {mp b : Nat} (h : Sh w0 W D A4 c4 A5 c5 but mp b) {B : Nat} {cs : Array Value} {t : TypeId} (hb : W.heap[B]? = some (.cells cs t (0, 0))) : B ≠ mp := by
  obtain ⟨l, ⟨es, cl, hb', _⟩, _⟩ := h.cache
  rintro rfl
  rw [hb] at hb'; cases hb'

set_option maxRecDepth 100000 in
set_option maxHeartbeats 1000000 in
theorem some_calls (w0 W : World) (D : Dat) (A4 : Option Addr) (c4 : Nat) (A5 : Option Addr) (c5 : Nat) (but : Nat) (mp b : Nat)
    (hA : Arg w0 D A4 c4 A5 c5) (hV : Valid D) (hbut : but < 2 ^ 62) (h : Sh w0 W D A4 c4 A5 c5 but mp b) :
    Calls Try.prog 108 #[.pointer (some ⟨b, 0, none⟩)] W
      fun e W' => e = .returned (.bool (!(truthsL D but).isEmpty)) ∧ Chg (fun k => k = mp) W W' ∧ Sh w0 W' D A4 c4 A5 c5 but mp b := by
  have H := Aside0.mk h
  have hmp := h.mp_lt
  have hb0 := blk_lt h.sh
  clear h
  refine (callsIn_wide (n := 0)).1 ?_
  refine callsIn_of_wp_marks Try.func108 rfl trivial ?_
  simp only [Try.ntmps108, List.size_toArray, List.length_cons, List.length_nil, Nat.reduceAdd, Nat.reduceSub, Array.replicate_succ, Array.replicate_zero, List.push_toArray, List.append_toArray, List.nil_append, List.cons_append]
  gi_wp2_with (refine ⟨trivial, rfl, ?_⟩; gi_at_call 118; refine (callsIn_wide.2 (truths_calls _ b)).mono ?_; rintro e w1 ⟨rfl, rfl⟩)
  have HC : Aside0 (Chg (fun _ => False) W ((W.alloc (.cells #[.bool false] 4)).alloc (.cells #[.pointer (some ⟨b, 0, none⟩)] 112))) := ⟨((Chg.refl _ W).alloc _).alloc _⟩
  have HR : Aside0 (((W.alloc (.cells #[.bool false] 4)).alloc (.cells #[.pointer (some ⟨b, 0, none⟩)] 112)).heap[W.heap.size]? = some (.cells #[.bool false] 4 (0, 0))) := ⟨blk_alloc (blk_new _ _) _⟩
  have HBs : Aside0 (((W.alloc (.cells #[.bool false] 4)).alloc (.cells #[.pointer (some ⟨b, 0, none⟩)] 112)).heap[W.heap.size + 1]? = some (.cells #[.pointer (some ⟨b, 0, none⟩)] 112 (0, 0))) := ⟨new_at (by simp) _⟩
  generalize hW1 : (W.alloc (.cells #[.bool false] 4)).alloc (.cells #[.pointer (some ⟨b, 0, none⟩)] 112) = W1 at HC HR HBs ⊢
  clear hW1
  have HOk : Aside0 (Ok w0 D A4 c4 A5 c5 but mp b (W.heap.size + 1) W1) := ⟨H.out.chg HC.out (fun _ x => x.elim), HBs.out⟩
  have z1 := blk_lt HBs.out
  have zb := H.out.base.size
  have z2 : mp < W1.heap.size := by omega
  have z3 : b < W1.heap.size := by omega
  refine rangeFunc (gf := 129) (lb := #[.pointer (some ⟨W.heap.size + 1, 0, none⟩)]) rfl enters129 (truthsC_iter w0 W1 D A4 c4 A5 c5 but mp b (W.heap.size + 1) hA hV hbut z2) (fun _ => rfl)
    (fun pre Fp V => pre = [] ∧ Fp = (fun k => k = W.heap.size) ∧ V.heap[W.heap.size]? = some (.cells #[.bool false] 4 (0, 0)) ∧ Chg (fun k => k = mp) W V)
    (fun c pre V => c = .ret ∧ pre ≠ [] ∧ V.heap[W.heap.size]? = some (.cells #[.bool true] 4 (0, 0)) ∧ Chg (fun k => k = mp) W V)
    (fun k => k = W.heap.size) (fun k e => by omega) (fun A B ho hc => ho.chg hc (fun k hk => by omega)) ?_ ?_ ⟨rfl, rfl, HR.out, HC.out.mono (fun _ _ x => x.elim)⟩ (fun k e => by omega) HOk.out ?_ ?_ ?_
  · rintro pre Fp A B ⟨h1, h2, h3, h4⟩ hc hok
    exact ⟨h1, h2, hc.heap h3 (by omega), h4.then_ hc (fun k hk hx => by omega)⟩
  · rintro c pre A B ⟨h1, h2, h3, h4⟩ hc hok
    exact ⟨h1, h2, hc.heap h3 (by omega), h4.then_ hc (fun k hk hx => by omega)⟩
  · rintro l pre x Fp V hl1 hl2 hfl hFp hpre ⟨h1, h2, h3, h4⟩ hok
    dsimp only [encT]
    gi_wp2
    refine ⟨Chg.refl _ _, ?_⟩
    rintro V2 hc2 hs2 ⟨h1', h2', h3', h4'⟩ hok2
    have HK := Aside0.mk hok2
    have H4 := Aside0.mk h4'
    have c0 : V2.cell? ⟨W.heap.size, 0, none⟩ = some (.bool false) := (blk_cell h3' 0).trans rfl
    have f0 := blk_frozen h3' 0
    have H3 := Aside0.mk h3'
    clear h3' h4' hok2 h3 h4 hok hc2
    subst h2'
    gi_wp2
    refine ⟨⟨rfl, by simp, blk_set H3.out 0 _, H4.out.setCell (p := ⟨W.heap.size, 0, none⟩) (fun e => by simp at e) _⟩, (Chg.refl (fun k => k = W.heap.size) V2).setCell (p := ⟨W.heap.size, 0, none⟩) (fun _ => rfl) _, HK.out.chg ((Chg.refl (fun k => k = W.heap.size) V2).setCell (p := ⟨W.heap.size, 0, none⟩) (fun _ => rfl) _) (fun k e => by omega)⟩
  · rintro Fp V ⟨h1, h2, h3, h4⟩ hok hfD hD hsz
    have H4 := Aside0.mk h4
    have HK := Aside0.mk hok
    have H3 := Aside0.mk h3
    have HD := Aside0.mk hD
    have HE := Aside0.mk h1
    have c0 : V.cell? ⟨W.heap.size, 0, none⟩ = some (.bool false) := (blk_cell h3 0).trans rfl
    have f0 := blk_frozen h3 0
    clear h4 hok h3 hD h1 h2
    gi_wp2
    have HD2 : Aside0 ((V.setCell ⟨W.heap.size, 0, none⟩ (.bool false)).heap[W1.heap.size]? = some (.deferred (some []))) := ⟨(Below.heap_setCell _ _ _ _ (by simp; omega)).trans HD.out⟩
    have HC2 : Aside0 (Chg (fun k => k = W.heap.size ∨ k = W1.heap.size) V ((V.setCell ⟨W.heap.size, 0, none⟩ (.bool false)).putObj W1.heap.size (.deferred none))) := ⟨((Chg.refl _ V).setCell (p := ⟨W.heap.size, 0, none⟩) (fun _ => .inl rfl) _).putObj (fun _ => .inr rfl) _⟩
    refine leave_mark HD2.out (v := .bool false) (results_cell1 rfl _ _ W.heap.size _ _ rfl (cell_putObj ((blk_cell (blk_set H3.out 0 _) 0).trans rfl) HD2.out) Try.underlying4 rfl) ⟨by rw [HE.out]; rfl, H4.out.then_ HC2.out (fun k hk hx => by omega), HK.out.s.chg HC2.out (fun k hx => by omega)⟩
  · rintro c pre V hpre ⟨rfl, h2, h3, h4⟩ hok hD hsz
    have H4 := Aside0.mk h4
    have HK := Aside0.mk hok
    have H3 := Aside0.mk h3
    have HD := Aside0.mk hD
    clear h4 hok h3 hD
    gi_wp2
    have HC2 : Aside0 (Chg (fun k => k = W1.heap.size) V (V.putObj W1.heap.size (.deferred none))) := ⟨(Chg.refl (fun k => k = W1.heap.size) V).putObj (l := W1.heap.size) (fun _ => rfl) _⟩
    refine leave_mark HD.out (v := .bool true) (results_cell1 rfl _ _ W.heap.size _ _ rfl (cell_putObj ((blk_cell H3.out 0).trans rfl) HD.out) Try.underlying4 rfl) ⟨?_, H4.out.then_ HC2.out (fun k hk hx => by omega), HK.out.s.chg HC2.out (fun k hx => by omega)⟩
    have hne : (truthsL D but).isEmpty = false := by
      rw [List.isEmpty_eq_false_iff]
      intro e
      rw [e] at hpre
      exact h2 (List.prefix_nil.1 hpre)
    rw [hne]; rfl
end Go.Proofs.Ytemeapfnfegkiaa.D
end
/- Package disk: enter. -/
section
namespace Go.Proofs.Ytemeapfnfegkiaa.D
open Go Go.RowKit Go.Proofs.YtemeapfnfegkiaaK Go.Proofs.YtemeapfnfegkiaaW.PrintWords Go.Proofs.YtemeapfnfegkiaaW.PrintLast Go.Proofs.YtemeapfnfegkiaaW.PrintMore Go.Proofs.Ytemeapfnfegkiaa.PR
set_option linter.unusedVariables false
set_option linter.unusedSimpArgs false

theorem firstE_zero {α : Type} (E : Nat → α → Int) : ∀ (l : List α) (k : Nat), (firstE E l k).2 = 0 → ∀ i (h : i < l.length), E (k + i) l[i] = 0
  | [], k, _, i, h => by cases h
  | x :: l, k, h, i, hi => by
    unfold firstE at h
    split at h
    · next h0 =>
      match i with
      | 0 => simpa using h0
      | i + 1 =>
        have := firstE_zero E l (k + 1) h i (by simpa using hi)
        simpa [Nat.add_assoc, Nat.add_comm, Nat.add_left_comm] using this
    · next h0 => exact absurd h h0
theorem firstL_zero {α : Type} {l : List α} {most : Int} {E : Nat → α → Int} (h : (firstL l most E).2 = 0) : (l.length : Int) ≤ most ∧ ∀ i (hi : i < l.length), E i l[i] = 0 := by
  unfold firstL at h
  split at h
  · cases h
  · exact ⟨by omega, fun i hi => by simpa using firstE_zero E l 0 h i hi⟩
theorem outB_cons (lo hi x : Int) (l : List Int) : outB lo hi (x :: l) = false ↔ (lo ≤ x ∧ x ≤ hi) ∧ outB lo hi l = false := by
  simp [outB]
theorem outB_nil (lo hi : Int) : outB lo hi [] = false := rfl
theorem check_valid {D : Dat} (h : (checkF D).2.2 = 0) : Valid D ∧ nameB D.nm = true ∧ checkF D = (0, 0, 0) := by
  unfold checkF at h
  split at h
  · cases h
  · next h1 =>
    split at h
    · cases h
    · next h2 =>
      split at h
      · cases h
      · next h3 =>
        split at h
        · next h4 => exact absurd h h4
        · next h4 =>
          split at h
          · next h5 => exact absurd h h5
          · next h5 =>
            have h4' : (firstL D.spots 7 (errS D.spots)).2 = 0 := Decidable.of_not_not h4
            have h5' : (firstL D.told 4 (errT D.spots.length)).2 = 0 := Decidable.of_not_not h5
            obtain ⟨n7, hs⟩ := firstL_zero h4'
            obtain ⟨t4, ht⟩ := firstL_zero h5'
            simp only [Bool.or_eq_true, not_or, Bool.not_eq_true, outB_cons] at h2
            refine ⟨⟨by omega, by omega, h2.1.1, h2.2.1.1, h2.2.2.1.2, by omega, fun k hk => ?_, fun k hk => ?_⟩, by simpa using h1, ?_⟩
            · have := hs k hk
              rw [spot_at _ _ hk]
              unfold errS at this
              split at this
              · cases this
              · next h6 =>
                simp only [Bool.not_eq_true, outB_cons] at h6
                exact ⟨h6.1.1, h6.1.2, h6.2.1.1, h6.2.1.2⟩
            · have := ht k hk
              rw [told_at _ _ hk]
              unfold errT at this
              split at this
              · cases this
              · next h6 =>
                split at this
                · cases this
                · next h7 =>
                  simp only [Bool.not_eq_true, outB_cons] at h6
                  exact ⟨h6.1.1, by omega, h6.2.1.1, by omega, h7⟩
            · unfold checkF
              rw [if_neg h1, if_neg (by simp only [Bool.or_eq_true, not_or, Bool.not_eq_true, outB_cons]; exact h2), if_neg h3, if_neg h4, if_neg h5]

/-- the error of enter -/
def enterE (D : Dat) (dots : List Int) : Int :=
  if (checkF D).2.2 ≠ 0 then (checkF D).2.2 else if outB 0 ((D.spots.length : Int) - 1) dots then 4 else if dots.length = 2 ∧ rd dots 0 = rd dots 1 then 2 else if (truthsL D 0).isEmpty then 8 else 0

set_option maxHeartbeats 1000000 in
theorem enter_calls (D : Dat) (A4 : Option Addr) (c4 : Nat) (A5 : Option Addr) (c5 : Nat) (dots : List Int) (A : Option Addr) (c : Nat) (w : World) (h : Arg w D A4 c4 A5 c5) (hr : Kd.C (Kd.int .i64) w A dots.length dots) :
    Calls Try.prog 90 #[.agg #[.string D.nm, .int .i64 D.rad, .int .i64 D.lo, .int .i64 D.hi, .slice A4 D.spots.length c4, .slice A5 D.told.length c5], .slice A dots.length c] w
      fun e w' => ∃ v, e = .returned (.tuple #[v, .int .i64 (enterE D dots)]) ∧ Below w.heap.size w w' ∧ (enterE D dots = 0 → ∃ mp b, v = .pointer (some ⟨b, 0, none⟩) ∧ Sh w w' D A4 c4 A5 c5 0 mp b) := by
  have HA := Aside0.mk h
  have HR := Aside0.mk hr
  have hn5 : D.spots.length ≤ 9223372036854775807 := h.s.2.1
  have hn6 := hr.2.1
  have HB0 := Aside0.mk (below_alloc (Below.refl w.heap.size w) (.cells #[.string D.nm, .int .i64 D.rad, .int .i64 D.lo, .int .i64 D.hi, .slice A4 D.spots.length c4, .slice A5 D.told.length c5] 27))
  have HX := Aside0.mk (blk_new w (.cells #[.string D.nm, .int .i64 D.rad, .int .i64 D.lo, .int .i64 D.hi, .slice A4 D.spots.length c4, .slice A5 D.told.length c5] 27))
  clear h hr
  obtain ⟨r, hr⟩ : ∃ r, enterE D dots = r := ⟨_, rfl⟩
  have HE := Aside0.mk hr
  rw [hr]
  clear hr
  go_enter Try.func90, Try.ntmps90
  go_wp2_with fail
  refine (Check_calls D A4 c4 A5 c5 _ (HA.out.below HB0.out)).mono ?_
  rintro e w1 ⟨rfl, hb1⟩
  have HB1 := Aside0.mk (HB0.out.trans (hb1.mono HB0.out.size))
  have HX1 := Aside0.mk (blk_below HX.out hb1)
  clear hb1 HX HB0
  have x0 : w1.cell? ⟨w.heap.size, 0, none⟩ = some (.string D.nm) := (blk_cell HX1.out 0).trans rfl
  have x1 : w1.cell? ⟨w.heap.size, 1, none⟩ = some (.int .i64 D.rad) := (blk_cell HX1.out 1).trans rfl
  have x2 : w1.cell? ⟨w.heap.size, 2, none⟩ = some (.int .i64 D.lo) := (blk_cell HX1.out 2).trans rfl
  have x3 : w1.cell? ⟨w.heap.size, 3, none⟩ = some (.int .i64 D.hi) := (blk_cell HX1.out 3).trans rfl
  have x4 : w1.cell? ⟨w.heap.size, 4, none⟩ = some (.slice A4 D.spots.length c4) := (blk_cell HX1.out 4).trans rfl
  have x5 : w1.cell? ⟨w.heap.size, 5, none⟩ = some (.slice A5 D.told.length c5) := (blk_cell HX1.out 5).trans rfl
  obtain ⟨q, hq⟩ : ∃ q, checkF D = q := ⟨_, rfl⟩
  have HQ := Aside0.mk hq
  rw [hq]
  clear hq
  obtain ⟨q1, q2, q3⟩ := q
  by_cases h0 : q3 = 0
  · subst h0
    obtain ⟨hV, _, _⟩ := check_valid (D := D) (by rw [HQ.out])
    have HV := Aside0.mk hV
    clear hV
    go_wp2_with fail
    refine (out_calls 0 ((D.spots.length : Int) - 1) dots _ _ _ (Kd.C_below HR.out HB1.out)).mono ?_
    rintro e w2 ⟨rfl, rfl⟩
    obtain ⟨o, ho⟩ : ∃ o, outB 0 ((D.spots.length : Int) - 1) dots = o := ⟨_, rfl⟩
    have HO := Aside0.mk ho
    rw [ho]
    clear ho
    cases o
    · by_cases h2 : dots.length = 2 ∧ rd dots 0 = rd dots 1
      · obtain ⟨h2, h3⟩ := h2
        have hr : r = 2 := by rw [← HE.out, enterE, HQ.out, HO.out, if_neg (by simp), if_neg (by simp), if_pos ⟨h2, h3⟩]
        subst hr
        obtain ⟨ad, e, k0⟩ := at_nat (Kd.C_below HR.out HB1.out) 0 (by omega)
        obtain ⟨ad', e', k1⟩ := at_nat (Kd.C_below HR.out HB1.out) 1 (by omega)
        subst e
        obtain rfl := Option.some.inj e'
        have hl : ((dots.length : Int) == 2) = true := beq_iff_eq.2 (by omega)
        have e0 : ad.add 0 = ad := rfl
        rw [e0] at k0
        have hl0 : (0 : Int) < dots.length := by omega
        have hl1 : (1 : Int) < dots.length := by omega
        have hm0 : 0 < dots.length := by omega
        have hm1 : 1 < dots.length := by omega
        rw [show rd dots ((0 : Nat) : Int) = rd dots 1 from h3] at k0
        rw [show rd dots ((1 : Nat) : Int) = rd dots 1 from rfl] at k1
        have k2 : w1.cell? ⟨ad.block, ad.off + 1, none⟩ = some (.int .i64 (rd dots 1)) := k1
        clear h2 h3 e0 e'
        go_wp2
        go_quiet (fail)
        go_wp2
        go_ret2
        exact ⟨_, rfl, pw_below_drewN HB1.out _, fun h => by cases h⟩
      · have H2 := Aside0.mk h2
        clear h2
        have hmain : ∀ K : Nat, True := fun _ => trivial
        by_cases h2 : dots.length = 2
        · have h3 : ¬ rd dots 0 = rd dots 1 := fun e => H2.out ⟨h2, e⟩
          obtain ⟨ad, e, k0⟩ := at_nat (Kd.C_below HR.out HB1.out) 0 (by omega)
          obtain ⟨ad', e', k1⟩ := at_nat (Kd.C_below HR.out HB1.out) 1 (by omega)
          subst e
          obtain rfl := Option.some.inj e'
          have hl : ((dots.length : Int) == 2) = true := beq_iff_eq.2 (by omega)
          have e0 : ad.add 0 = ad := rfl
          rw [e0] at k0
          have hl0 : (0 : Int) < dots.length := by omega
          have hl1 : (1 : Int) < dots.length := by omega
          have hm0 : 0 < dots.length := by omega
          have hm1 : 1 < dots.length := by omega
          rw [show rd dots ((0 : Nat) : Int) = rd dots 0 from rfl] at k0
          rw [show rd dots ((1 : Nat) : Int) = rd dots 1 from rfl] at k1
          generalize rd dots 0 = y0 at k0 h3
          generalize rd dots 1 = y1 at k1 h3
          have k2 : w1.cell? ⟨ad.block, ad.off + 1, none⟩ = some (.int .i64 y1) := k1
          have hy : (y0 == y1) = false := beq_eq_false_iff_ne.2 h3
          clear h2 h3 e0 e'
          go_wp2
          go_quiet (fail)
          go_wp2_with fail
          refine (look_calls w _ D A4 c4 A5 c5 0 (pw_below_drewN HB1.out _)).mono ?_
          rintro e w2 ⟨mp, b, rfl, hc, hs, _, _⟩
          have HS := Aside0.mk hs
          clear hc hs
          go_wp2_with fail
          refine (some_calls w _ D A4 c4 A5 c5 0 mp b HA.out HV.out (by decide) HS.out).mono ?_
          rintro e w3 ⟨rfl, _, hs3⟩
          have HS3 := Aside0.mk hs3
          clear hs3
          obtain ⟨t, ht⟩ : ∃ t, (truthsL D 0).isEmpty = t := ⟨_, rfl⟩
          have HT := Aside0.mk ht
          rw [ht]
          clear ht
          have hr : r = if t = true then 8 else 0 := by rw [← HE.out, enterE, HQ.out, HO.out, HT.out, if_neg (by simp), if_neg (by simp), if_neg H2.out]
          cases t
          · obtain rfl : r = 0 := by rw [hr]; rfl
            clear hr
            go_wp2
            go_ret2
            exact ⟨_, rfl, HS3.out.base, mp, b, rfl, HS3.out⟩
          · obtain rfl : r = 8 := by rw [hr]; rfl
            clear hr
            go_wp2
            go_ret2
            exact ⟨_, rfl, HS3.out.base, fun h => by cases h⟩
        · have hl : ((dots.length : Int) == 2) = false := beq_eq_false_iff_ne.2 (by omega)
          go_wp2
          go_quiet (fail)
          go_wp2_with fail
          refine (look_calls w _ D A4 c4 A5 c5 0 (pw_below_drewN HB1.out _)).mono ?_
          rintro e w2 ⟨mp, b, rfl, hc, hs, _, _⟩
          have HS := Aside0.mk hs
          clear hc hs
          go_wp2_with fail
          refine (some_calls w _ D A4 c4 A5 c5 0 mp b HA.out HV.out (by decide) HS.out).mono ?_
          rintro e w3 ⟨rfl, _, hs3⟩
          have HS3 := Aside0.mk hs3
          clear hs3
          obtain ⟨t, ht⟩ : ∃ t, (truthsL D 0).isEmpty = t := ⟨_, rfl⟩
          have HT := Aside0.mk ht
          rw [ht]
          clear ht
          have hr : r = if t = true then 8 else 0 := by rw [← HE.out, enterE, HQ.out, HO.out, HT.out, if_neg (by simp), if_neg (by simp), if_neg H2.out]
          cases t
          · obtain rfl : r = 0 := by rw [hr]; rfl
            clear hr
            go_wp2
            go_ret2
            exact ⟨_, rfl, HS3.out.base, mp, b, rfl, HS3.out⟩
          · obtain rfl : r = 8 := by rw [hr]; rfl
            clear hr
            go_wp2
            go_ret2
            exact ⟨_, rfl, HS3.out.base, fun h => by cases h⟩
    · have hr : r = 4 := by rw [← HE.out, enterE, HQ.out, HO.out]; rfl
      subst hr
      go_wp2
      go_ret2
      exact ⟨_, rfl, HB1.out, fun h => by cases h⟩
  · have hr : r = q3 := by rw [← HE.out, enterE, HQ.out, if_pos h0]
    subst hr
    go_wp2
    go_ret2
    exact ⟨_, rfl, HB1.out, fun h => absurd h h0⟩
end Go.Proofs.Ytemeapfnfegkiaa.D
end
