/- Contracts of the functions that this claim reaches, with the words for them: pruned and packed by wip/tools/prune.py. -/
import Derived.Test.YtgoidclnccjdeaaAe
import Derived.KernelRfl
import Derived.Deep.RegionHeld3
import Derived.Deep.QuietTactic
import Derived.BigQuiet
import Derived.Maps.AppendAt
import Derived.Laws.OwnMore
import Derived.Laws.World
import Derived.Deep.AppendLies
import Derived.OpenShut
import Derived.Laws.IdiomArrays
section
/- Package glass: what the reference's Check answers is what the program's does. -/
namespace Go.Proofs.Ytgoidclnccjdeaa.D
open Go Go.RowKit Go.Proofs.YtgoidclnccjdeaaK Go.Proofs.YtgoidclnccjdeaaW.PrintWords Go.Proofs.YtgoidclnccjdeaaW.PrintLast Go.Proofs.YtgoidclnccjdeaaW.PrintMore Go.Proofs.Ytgoidclnccjdeaa.PR
set_option linter.unusedVariables false
set_option linter.unusedSimpArgs false

theorem rIn (a lo hi : Int) : r1_In.f a lo hi = some (decide (lo ≤ a ∧ a ≤ hi)) := by
 unfold r1_In.f; split <;> simp [*]
theorem rletter (b : Int) : r1_letter.f b = some (decide (97 ≤ b ∧ b ≤ 122)) := by
 unfold r1_letter.f; split <;> simp <;> omega
theorem rdigit (b : Int) : r1_digit.f b = some (decide (48 ≤ b ∧ b ≤ 57)) := by
 unfold r1_digit.f; split <;> simp <;> omega
theorem wrapN {n : Nat} (h : n < 9223372036854775807) : wrap64 ((n : Int) + 1) = ((n + 1 : Nat) : Int) := by
 unfold wrap64; omega

theorem rName_l0 (s : ByteArray) (hs : s.size ≤ 9223372036854775807) : ∀ (d i : Nat), i + d = s.size → 1 ≤ i → okTo s i = true → Ev (fun k => r1_Name.l0 k s (i : Int)) (okTo s s.size)
 | 0, i, hd, _, h => by
  obtain rfl : i = s.size := by omega
  rw [h]
  exact Ev.step (f := fun _ => some true) (fun k => by simp only [r1_Name.l0]; rw [if_neg (by omega)]) (Ev.now _)
 | d + 1, i, hd, hi, h => by
  by_cases hb : okByte (i == 0) (bt s (i : Int)) = true
  ·
   have h1 : okTo s (i + 1) = true := by rw [okTo_succ, h, hb]; rfl
   have ih := rName_l0 s hs d (i + 1) (by omega) (by omega) h1
   refine Ev.step (f := fun k => r1_Name.l0 k s ((i + 1 : Nat) : Int)) (fun k => ?_) ih
   have hb' := (okByte_iff i _).1 hb
   simp only [r1_Name.l0, rletter, rdigit, Option.bind_some, decide_eq_true_eq]
   rw [if_pos (by omega), if_pos (by omega), wrapN (by omega)]
   split
   ·
    rfl
   ·
    split
    ·
     rfl
    ·
     rw [if_pos (by omega)]
  ·
   have hf : okByte (i == 0) (bt s (i : Int)) = false := by simpa using hb
   have h1 : okTo s (i + 1) = false := by rw [okTo_succ, hf]; simp
   rw [okTo_le s (by omega) h1]
   refine Ev.step (f := fun _ => some false) (fun k => ?_) (Ev.now _)
   have hb' : ¬ ((97 ≤ bt s (i : Int) ∧ bt s (i : Int) ≤ 122) ∨ (0 < i ∧ (bt s (i : Int) = 46 ∨ (48 ≤ bt s (i : Int) ∧ bt s (i : Int) ≤ 57)))) := fun x => hb ((okByte_iff i _).2 x)
   simp only [r1_Name.l0, rletter, rdigit, Option.bind_some, decide_eq_true_eq]
   rw [if_pos (by omega), if_pos (by omega), if_neg (by omega), if_neg (by omega), if_neg (by omega)]

theorem outB_one (lo hi a : Int) : outB lo hi [a] = true ↔ ¬ (lo ≤ a ∧ a ≤ hi) := by
 unfold outB; simp; omega
theorem outB_two (lo hi a b : Int) : outB lo hi [a, b] = true ↔ ¬ ((lo ≤ a ∧ a ≤ hi) ∧ (lo ≤ b ∧ b ≤ hi)) := by
 unfold outB; simp; omega

theorem rName (s : ByteArray) (hs : s.size ≤ 9223372036854775807) : Ev (fun k => r1_Name.f k s) (nameB s) := by
 unfold r1_Name.f
 simp only [rIn, rletter, Option.bind_some, decide_eq_true_eq]
 by_cases h : 1 ≤ (s.size : Int) ∧ (s.size : Int) ≤ 16
 ·
  have e : nameB s = okTo s s.size := by
   have : outB 1 16 [(s.size : Int)] = false := by rw [Bool.eq_false_iff]; exact fun x => (outB_one _ _ _).1 x h
   unfold nameB; rw [this]; rfl
  rw [e]
  refine Ev.congr (f := fun k => r1_Name.j0 k s (!decide (97 ≤ bt s 0 ∧ bt s 0 ≤ 122))) (fun k => by rw [if_pos h, if_pos (by omega)]) ?_
  by_cases hb : 97 ≤ bt s 0 ∧ bt s 0 ≤ 122
  ·
   have h1 : okTo s 1 = true := by
    have := (okByte_iff 0 (bt s ((0 : Nat) : Int))).2 (.inl hb)
    simp only [okTo, List.range_succ, List.range_zero, List.nil_append, List.all_cons, List.all_nil, Bool.and_true]
    exact this
   refine Ev.step (f := fun k => r1_Name.l0 k s ((1 : Nat) : Int)) (fun k => ?_) (rName_l0 s hs (s.size - 1) 1 (by omega) (by omega) h1)
   simp only [r1_Name.j0, decide_eq_true hb]
   rfl
  ·
   have h1 : okTo s 1 = false := by
    have := okByte_not 0 (bt s ((0 : Nat) : Int)) (fun x => by rcases x with x | x; exact hb x; omega)
    simp only [okTo, List.range_succ, List.range_zero, List.nil_append, List.all_cons, List.all_nil, Bool.and_true]
    exact this
   rw [okTo_le s (by omega) h1]
   refine Ev.step (f := fun _ => some false) (fun k => ?_) (Ev.now _)
   simp only [r1_Name.j0, decide_eq_false hb]
   rfl
 ·
  have e : nameB s = false := by
   have : outB 1 16 [(s.size : Int)] = true := (outB_one _ _ _).2 h
   unfold nameB; rw [this]; rfl
  rw [e]
  refine Ev.step (f := fun _ => some false) (fun k => ?_) (Ev.now _)
  rw [if_neg h]
  simp only [r1_Name.j0, if_true]

theorem rEnds (lo hi a b : Int) : Ev (fun k => r1_Ends.f k lo hi a b) (if outB a b [lo, hi] = true then 7 else if hi < lo then 2 else 0) := by
 unfold r1_Ends.f
 simp only [rIn, Option.bind_some, decide_eq_true_eq]
 refine Ev.step (f := fun _ => some (if outB a b [lo, hi] = true then 7 else if hi < lo then 2 else 0)) (fun k => ?_) (Ev.now _)
 simp only [outB_two, r1_Ends.j0]
 by_cases h1 : a ≤ lo ∧ lo ≤ b <;> by_cases h2 : a ≤ hi ∧ hi ≤ b <;> simp [h1, h2] <;> split <;> simp_all <;> omega

theorem rends (lo hi a b : Int) (ha : 0 ≤ a) (hb : b ≤ 1000) : Ev (fun k => r7_ends.f k lo hi a b) (endsE lo hi a b) := by
 unfold r7_ends.f
 refine Ev.bind (rEnds lo hi a b) ?_
 unfold endsE
 by_cases h1 : outB a b [lo, hi] = true
 ·
  simp only [h1, if_true]; rw [if_neg (by decide)]; exact Ev.now _
 ·
  have h2 : (a ≤ lo ∧ lo ≤ b) ∧ (a ≤ hi ∧ hi ≤ b) := by
   by_cases h : (a ≤ lo ∧ lo ≤ b) ∧ (a ≤ hi ∧ hi ≤ b)
   ·
    exact h
   ·
    exact absurd ((outB_two a b lo hi).2 h) h1
  have e : wrap64 (hi - lo) = hi - lo := by unfold wrap64; omega
  have ho := outB_one 0 2 (hi - lo)
  simp only [h1, if_false, e]
  by_cases h3 : hi < lo
  ·
   have : outB 0 2 [hi - lo] = true := ho.2 (by omega)
   simp only [h3, if_true, this]; rw [if_neg (by decide)]; exact Ev.now _
  ·
   simp only [h3, if_false, if_true]
   by_cases h4 : hi - lo > 2
   ·
    have : outB 0 2 [hi - lo] = true := ho.2 (by omega)
    simp only [h4, if_true, this]; exact Ev.now _
   ·
    have : outB 0 2 [hi - lo] = false := by rw [Bool.eq_false_iff]; exact fun x => ho.1 x ⟨by omega, by omega⟩
    simp only [h4, if_false, this]; exact Ev.now _

theorem rWhere0 (names : List ByteArray) (s : ByteArray) (hn : names.length ≤ 1000) : ∀ (d i : Nat), i + d = names.length → Ev (fun k => r1_Where.l0 k names s (i : Int)) (idxFrom (fun x => x.toList == s.toList) (names.drop i) i)
 | 0, i, hd => by
  rw [List.drop_eq_nil_of_le (by omega)]
  exact Ev.step (f := fun _ => some (-1)) (fun k => by simp only [r1_Where.l0]; rw [if_neg (by omega)]) (Ev.now _)
 | d + 1, i, hd => by
  have hi : i < names.length := by omega
  have e : rdOf ByteArray.empty names (i : Int) = names[i] := by simp [rdOf, hi]
  rw [List.drop_eq_getElem_cons hi]
  by_cases h : names[i].toList = s.toList
  ·
   refine Ev.step (f := fun _ => some (i : Int)) (fun k => ?_) (by simp only [idxFrom, h, beq_self_eq_true, if_true]; exact Ev.now _)
   simp only [r1_Where.l0, e]
   rw [if_pos (by omega), if_pos (by omega), if_pos h]
  ·
   refine Ev.step (f := fun k => r1_Where.l0 k names s ((i + 1 : Nat) : Int)) (fun k => ?_) ?_
   ·
    simp only [r1_Where.l0, e]
    rw [if_pos (by omega), if_pos (by omega), if_neg h, wrapN (by omega)]
   ·
    have hf : (names[i].toList == s.toList) = false := by simpa using h
    simp only [idxFrom, hf, Bool.false_eq_true, if_false]
    exact rWhere0 names s hn d (i + 1) (by omega)
theorem rWhere (names : List ByteArray) (s : ByteArray) (hn : names.length ≤ 1000) : Ev (fun k => r1_Where.f k names s) (idxFrom (fun x => x.toList == s.toList) names 0) := by
 have := rWhere0 names s hn names.length 0 (by omega)
 simpa [r1_Where.f] using this
theorem rFresh (s : ByteArray) (names : List ByteArray) (hs : s.size ≤ 9223372036854775807) (hn : names.length ≤ 1000) :
  Ev (fun k => r1_Fresh.f k s names) (if nameB s = false then 6 else if names.any (fun x => x.toList == s.toList) then 5 else 0) := by
 unfold r1_Fresh.f
 refine Ev.bind (rName s hs) ?_
 cases h : nameB s
 ·
  simp only [Bool.false_eq_true, if_false, if_true]; exact Ev.now _
 ·
  simp only [if_true, Bool.true_eq_false, if_false]
  refine Ev.bind (rWhere names s hn) ?_
  have hp := idxFrom_pos (fun x : ByteArray => x.toList == s.toList) names 0
  rw [← hp]
  by_cases h0 : 0 ≤ idxFrom (fun x : ByteArray => x.toList == s.toList) names 0
  ·
   rw [if_pos h0, decide_eq_true h0, if_pos rfl]; exact Ev.now _
  ·
   rw [if_neg h0, decide_eq_false h0, if_neg (by decide)]; exact Ev.now _

theorem rall0 (m : Nat) (hm : m ≤ 62) : ∀ (d i : Nat), i + d = m → Ev (fun k => r7_all.l0 k (m : Int) (((2 ^ i : Nat) : Int) - 1) (i : Int)) (((2 ^ m : Nat) : Int) - 1)
 | 0, i, hd => by
  obtain rfl : i = m := by omega
  exact Ev.step (f := fun _ => some _) (fun k => by simp only [r7_all.l0]; rw [if_neg (by omega)]) (Ev.now _)
 | d + 1, i, hd => by
  refine Ev.step (f := fun k => r7_all.l0 k (m : Int) (((2 ^ (i + 1) : Nat) : Int) - 1) ((i + 1 : Nat) : Int)) (fun k => ?_) (rall0 m hm d (i + 1) (by omega))
  have h2 : 2 ^ (i + 1) ≤ 2 ^ 62 := Nat.pow_le_pow_right (by decide) (by omega)
  have h3 : 2 ^ (i + 1) = 2 * 2 ^ i := by rw [Nat.pow_succ]; omega
  have h4 : (2 : Nat) ^ 62 = 4611686018427387904 := by decide
  have e1 : wrap64 (2 * (((2 ^ i : Nat) : Int) - 1)) = 2 * (((2 ^ i : Nat) : Int) - 1) := by
   generalize 2 ^ i = x at *; rw [h4] at h2; unfold wrap64; omega
  have e2 : wrap64 (2 * (((2 ^ i : Nat) : Int) - 1) + 1) = ((2 ^ (i + 1) : Nat) : Int) - 1 := by
   rw [h3] at h2 ⊢
   generalize 2 ^ i = x at *; rw [h4] at h2; unfold wrap64; omega
  simp only [r7_all.l0]
  rw [if_pos (by omega), e1, e2, wrapN (by omega)]
theorem rall (m : Nat) (hm : m ≤ 62) : Ev (fun k => r7_all.f k (m : Int)) (((2 ^ m : Nat) : Int) - 1) := rall0 m hm m 0 (by omega)
theorem rdrawing (D : Dat) (d : Dr) (hg : D.gl.length ≤ 9223372036854775807) (hs : D.sp.length ≤ 62) (i : Nat) :
  Ev (fun k => r7_drawing.f k D.gl D.lo D.hi D.sp D.dr d.f0 d.f1 d.f2) (errD D.gl.length D.sp.length i d) := by
 unfold r7_drawing.f errD
 have e : wrap64 ((D.gl.length : Int) - 1) = (D.gl.length : Int) - 1 := by unfold wrap64; omega
 simp only [rIn, e, Option.bind_some, decide_eq_true_eq]
 have o1 := outB_one (-1) ((D.gl.length : Int) - 1) d.f0
 have o2 := outB_one 0 9 d.f1
 have o3 := outB_one 0 (((2 ^ D.sp.length : Nat) : Int) - 1) d.f2
 by_cases h1 : -1 ≤ d.f0 ∧ d.f0 ≤ (D.gl.length : Int) - 1
 ·
  rw [Bool.eq_false_iff.2 (fun x => o1.1 x h1)]
  simp only [h1, and_self, if_true, Bool.false_eq_true, if_false]
  by_cases h2 : 0 ≤ d.f1 ∧ d.f1 ≤ 9
  ·
   rw [Bool.eq_false_iff.2 (fun x => o2.1 x h2)]
   simp only [h2, and_self, if_true, Bool.false_eq_true, if_false]
   refine Ev.bind (rall D.sp.length hs) ?_
   by_cases h3 : 0 ≤ d.f2 ∧ d.f2 ≤ ((2 ^ D.sp.length : Nat) : Int) - 1
   ·
    rw [Bool.eq_false_iff.2 (fun x => o3.1 x h3), if_pos h3]; exact Ev.now _
   ·
    rw [o3.2 h3, if_neg h3]; exact Ev.now _
  ·
   rw [o2.2 h2]; simp only [h2, if_false, if_true]; exact Ev.now _
 ·
  rw [o1.2 h1]; simp only [h1, if_false, if_true]; exact Ev.now _

def drF (D : Dat) (i : Nat) : Int × Int × Int := if (firstE (errD D.gl.length D.sp.length) (D.dr.drop i) i).2 ≠ 0 then (4, firstE (errD D.gl.length D.sp.length) (D.dr.drop i) i) else (0, 0, 0)
def drE (D : Dat) : Int × Int × Int := if (firstL D.dr 0 4 (errD D.gl.length D.sp.length)).2 ≠ 0 then (4, firstL D.dr 0 4 (errD D.gl.length D.sp.length)) else (0, 0, 0)
def spFr (D : Dat) (i : Nat) : Int × Int × Int := if (firstE errP (D.sp.drop i) i).2 ≠ 0 then (3, firstE errP (D.sp.drop i) i) else drE D
def spE (D : Dat) : Int × Int × Int := if (firstL D.sp 0 4 errP).2 ≠ 0 then (3, firstL D.sp 0 4 errP) else drE D
def glE (D : Dat) : Int × Int × Int := if endsE D.lo D.hi 0 3 ≠ 0 then (2, 0, endsE D.lo D.hi 0 3) else spE D
def glF (D : Dat) (i : Nat) : Int × Int × Int := if (firstE (errG D.gl) (D.gl.drop i) i).2 ≠ 0 then (1, firstE (errG D.gl) (D.gl.drop i) i) else glE D
theorem firstE_drop {α : Type} (E : Nat → α → Int) (l : List α) (i : Nat) (h : i < l.length) : firstE E (l.drop i) i = if E i l[i] = 0 then firstE E (l.drop (i + 1)) (i + 1) else (((i : Nat) : Int), E i l[i]) := by
 rw [List.drop_eq_getElem_cons h]; rfl
theorem rCheck_l2 (D : Dat) (hg : D.gl.length ≤ 1000) (hs : D.sp.length ≤ 62) (hd : D.dr.length ≤ 1000) : ∀ (d i : Nat), i + d = D.dr.length →
  Ev (fun k => r7_Check.l2 k (i : Int) D.gl D.lo D.hi D.sp D.dr) (drF D i)
 | 0, i, h => by
  have e : drF D i = (0, 0, 0) := by unfold drF; rw [List.drop_eq_nil_of_le (by omega)]; rfl
  rw [e]
  exact Ev.step (f := fun _ => some (0, 0, 0)) (fun k => by simp only [r7_Check.l2]; rw [if_neg (by omega)]) (Ev.now _)
 | d + 1, i, h => by
  have hi : i < D.dr.length := by omega
  have ih := rCheck_l2 D hg hs hd d (i + 1) (by omega)
  have e : drF D i = if errD D.gl.length D.sp.length i D.dr[i] = 0 then drF D (i + 1) else (4, (i : Int), errD D.gl.length D.sp.length i D.dr[i]) := by
   unfold drF
   rw [firstE_drop _ _ _ hi]
   by_cases e : errD D.gl.length D.sp.length i D.dr[i] = 0
   ·
    simp only [if_pos e]
   ·
    simp only [if_neg e, ne_eq]; rw [if_pos e]
  rw [e]
  refine Ev.step (f := fun k => (r7_drawing.f k D.gl D.lo D.hi D.sp D.dr D.dr[i].f0 D.dr[i].f1 D.dr[i].f2).bind fun t => if t = 0 then r7_Check.l2 k ((i + 1 : Nat) : Int) D.gl D.lo D.hi D.sp D.dr else some (4, (i : Int), t)) (fun k => ?_) ?_
  ·
   simp only [r7_Check.l2, dr_at _ _ hi]
   rw [if_pos (by omega), if_pos (by omega), wrapN (by omega)]
  ·
   refine Ev.bind (rdrawing D D.dr[i] (by omega) hs i) ?_
   by_cases e : errD D.gl.length D.sp.length i D.dr[i] = 0
   ·
    simp only [if_pos e]; exact ih
   ·
    simp only [if_neg e]; exact Ev.now _
theorem rCheck_l1 (D : Dat) (hg : D.gl.length ≤ 1000) (hs : D.sp.length ≤ 62) (hd : D.dr.length ≤ 9223372036854775807) : ∀ (d i : Nat), i + d = D.sp.length →
  Ev (fun k => r7_Check.l1 k (i : Int) D.gl D.lo D.hi D.sp D.dr) (spFr D i)
 | 0, i, h => by
  have e : spFr D i = drE D := by unfold spFr; rw [List.drop_eq_nil_of_le (by omega)]; rfl
  rw [e]
  by_cases h4 : (D.dr.length : Int) > 4
  ·
   have e : drE D = (4, 0, 3) := by
    have : outB 0 4 [(D.dr.length : Int)] = true := (outB_one _ _ _).2 (by omega)
    unfold drE firstL; rw [this]; rfl
   rw [e]
   exact Ev.step (f := fun _ => some (4, 0, 3)) (fun k => by simp only [r7_Check.l1]; rw [if_neg (by omega), if_pos h4]) (Ev.now _)
  ·
   have e : drE D = drF D 0 := by
    have : outB 0 4 [(D.dr.length : Int)] = false := by rw [Bool.eq_false_iff]; exact fun x => (outB_one _ _ _).1 x ⟨by omega, by omega⟩
    unfold drE firstL; rw [this]; rfl
   rw [e]
   exact Ev.step (f := fun k => r7_Check.l2 k ((0 : Nat) : Int) D.gl D.lo D.hi D.sp D.dr) (fun k => by simp only [r7_Check.l1]; rw [if_neg (by omega), if_neg h4]; rfl) (rCheck_l2 D hg hs (by omega) _ 0 (Nat.zero_add _))
 | d + 1, i, h => by
  have hi : i < D.sp.length := by omega
  have ih := rCheck_l1 D hg hs hd d (i + 1) (by omega)
  have e : spFr D i = if errP i D.sp[i] = 0 then spFr D (i + 1) else (3, (i : Int), errP i D.sp[i]) := by
   unfold spFr
   rw [firstE_drop _ _ _ hi]
   by_cases e : errP i D.sp[i] = 0
   ·
    simp only [if_pos e]
   ·
    simp only [if_neg e, ne_eq]; rw [if_pos e]
  rw [e]
  refine Ev.step (f := fun k => (r7_ends.f k D.sp[i].f0 D.sp[i].f1 1 60).bind fun t => if t = 0 then r7_Check.l1 k ((i + 1 : Nat) : Int) D.gl D.lo D.hi D.sp D.dr else some (3, (i : Int), t)) (fun k => ?_) ?_
  ·
   simp only [r7_Check.l1, sp_at _ _ hi]
   rw [if_pos (by omega), if_pos (by omega), wrapN (by omega)]
  ·
   refine Ev.bind (rends _ _ 1 60 (by decide) (by decide)) ?_
   show Ev (fun n => if errP i D.sp[i] = 0 then _ else some (3, (i : Int), errP i D.sp[i])) _
   by_cases e : errP i D.sp[i] = 0
   ·
    simp only [if_pos e]; exact ih
   ·
    simp only [if_neg e]; exact Ev.now _
theorem rCheck_l0 (D : Dat) (hn : ∀ x ∈ D.gl, x.f0.size ≤ 9223372036854775807) (hg : D.gl.length ≤ 1000) (hs : D.sp.length ≤ 9223372036854775807) (hd : D.dr.length ≤ 9223372036854775807) : ∀ (d i : Nat), i + d = D.gl.length →
  Ev (fun k => r7_Check.l0 k ((D.gl.take i).map fun x => x.f0) (i : Int) D.gl D.lo D.hi D.sp D.dr) (glF D i)
 | 0, i, h => by
  have e : glF D i = glE D := by unfold glF; rw [List.drop_eq_nil_of_le (by omega)]; rfl
  rw [e]
  refine Ev.step (f := fun k => (r7_ends.f k D.lo D.hi 0 3).bind fun t => if t = 0 then (if (D.sp.length : Int) > 4 then some (3, 0, 3) else r7_Check.l1 k 0 D.gl D.lo D.hi D.sp D.dr) else some (2, 0, t)) (fun k => by simp only [r7_Check.l0]; rw [if_neg (by omega)]) ?_
  refine Ev.bind (rends _ _ 0 3 (by decide) (by decide)) ?_
  unfold glE
  by_cases e : endsE D.lo D.hi 0 3 = 0
  ·
   simp only [if_pos e, e, ne_eq, not_true_eq_false, if_false]
   by_cases h4 : (D.sp.length : Int) > 4
   ·
    have e : spE D = (3, 0, 3) := by
     have : outB 0 4 [(D.sp.length : Int)] = true := (outB_one _ _ _).2 (by omega)
     unfold spE firstL; rw [this]; rfl
    rw [e]; simp only [if_pos h4]; exact Ev.now _
   ·
    have e : spE D = spFr D 0 := by
     have : outB 0 4 [(D.sp.length : Int)] = false := by rw [Bool.eq_false_iff]; exact fun x => (outB_one _ _ _).1 x ⟨by omega, by omega⟩
     unfold spE firstL; rw [this]; rfl
    rw [e]; simp only [if_neg h4]; exact rCheck_l1 D hg (by omega) hd _ 0 (Nat.zero_add _)
  ·
   simp only [if_neg e, ne_eq, e, not_false_eq_true, if_true]; exact Ev.now _
 | d + 1, i, h => by
  have hi : i < D.gl.length := by omega
  have ih := rCheck_l0 D hn hg hs hd d (i + 1) (by omega)
  have e : glF D i = if errG D.gl i D.gl[i] = 0 then glF D (i + 1) else (1, (i : Int), errG D.gl i D.gl[i]) := by
   unfold glF
   rw [firstE_drop _ _ _ hi]
   by_cases e : errG D.gl i D.gl[i] = 0
   ·
    simp only [if_pos e]
   ·
    simp only [if_neg e, ne_eq]; rw [if_pos e]
  rw [e]
  have hl : ((D.gl.take i).map fun x => x.f0).length = i := by simp; omega
  have hx : (D.gl.take i).map (fun x => x.f0) ++ [D.gl[i].f0] = (D.gl.take (i + 1)).map fun x => x.f0 := by
   rw [List.take_add_one, List.getElem?_eq_getElem hi, List.map_append]; rfl
  refine Ev.step (f := fun k => (r1_Fresh.f k D.gl[i].f0 ((D.gl.take i).map fun x => x.f0)).bind fun t => if t = 0 then ((r7_ends.f k D.gl[i].f1.f0 D.gl[i].f1.f1 1 40).bind fun u => if u = 0 then r7_Check.l0 k ((D.gl.take (i + 1)).map fun x => x.f0) ((i + 1 : Nat) : Int) D.gl D.lo D.hi D.sp D.dr else some (1, (i : Int), u)) else some (1, (i : Int), t)) (fun k => ?_) ?_
  ·
   simp only [r7_Check.l0, gl_at _ _ hi, hx]
   rw [if_pos (by omega), if_pos (by omega), wrapN (by omega)]
   congr 1
   funext t
   rw [if_pos (by rw [hl]; omega)]
  ·
   refine Ev.bind (rFresh _ _ (hn _ (List.getElem_mem hi)) (by rw [hl]; omega)) ?_
   have ha : ((D.gl.take i).map fun x => x.f0).any (fun x => x.toList == D.gl[i].f0.toList) = (D.gl.take i).any (sameName D.gl[i]) := by
    rw [List.any_map]; rfl
   rw [ha]
   unfold errG
   cases hnb : nameB D.gl[i].f0
   ·
    simp only [if_true]; exact Ev.congr (f := fun _ => some (1, (i : Int), 6)) (fun k => rfl) (Ev.now _)
   ·
    simp only [Bool.true_eq_false, if_false]
    cases hsn : (D.gl.take i).any (sameName D.gl[i])
    ·
     simp only [Bool.false_eq_true, if_false, if_true]
     refine Ev.bind (rends _ _ 1 40 (by decide) (by decide)) ?_
     by_cases e : endsE D.gl[i].f1.f0 D.gl[i].f1.f1 1 40 = 0
     ·
      simp only [if_pos e]; exact ih
     ·
      simp only [if_neg e]; exact Ev.now _
    ·
     simp only [if_true]; exact Ev.congr (f := fun _ => some (1, (i : Int), 5)) (fun k => rfl) (Ev.now _)
theorem rCheck (D : Dat) (hn : ∀ x ∈ D.gl, x.f0.size ≤ 9223372036854775807) (hg : D.gl.length ≤ 9223372036854775807) (hs : D.sp.length ≤ 9223372036854775807) (hd : D.dr.length ≤ 9223372036854775807) :
  Ev (fun k => r7_Check.f k D.gl D.lo D.hi D.sp D.dr) (checkF D) := by
 unfold r7_Check.f
 simp only [rIn, Option.bind_some, decide_eq_true_eq]
 have o := outB_one 1 3 (D.gl.length : Int)
 have e0 : checkF D = if (firstL D.gl 1 3 (errG D.gl)).2 ≠ 0 then (1, firstL D.gl 1 3 (errG D.gl)) else glE D := rfl
 rw [e0]
 by_cases h : 1 ≤ (D.gl.length : Int) ∧ (D.gl.length : Int) ≤ 3
 ·
  have e : (if (firstL D.gl 1 3 (errG D.gl)).2 ≠ 0 then (1, firstL D.gl 1 3 (errG D.gl)) else glE D) = glF D 0 := by
   unfold firstL; rw [Bool.eq_false_iff.2 (fun x => o.1 x h)]; rfl
  rw [e]
  simp only [h, and_self, if_true]
  exact rCheck_l0 D hn (by omega) hs hd _ 0 (Nat.zero_add _)
 ·
  have e : (if (firstL D.gl 1 3 (errG D.gl)).2 ≠ 0 then (1, firstL D.gl 1 3 (errG D.gl)) else glE D) = (1, 0, 3) := by
   unfold firstL; rw [o.2 h]; rfl
  rw [e]
  simp only [h, if_false]
  exact Ev.now _
theorem rd_nat (l : List Int) (k : Nat) : rd l (k : Int) = l.getD k 0 := by simp [rd]
theorem rHas0 (but : List Int) (hb : but.length ≤ 1000) (x : Int) (d : Nat) : ∀ (j : Nat), j + d = but.length → Ev (fun f => r1_Has.l0 f but x (j : Int)) ((but.drop j).any fun y => y == x) := by
 induction d with
 | zero =>
  intro j hd
  rw [List.drop_eq_nil_of_le (by omega)]
  refine Ev.step (f := fun _ => some false) (fun f => ?_) (Ev.now _)
  simp only [r1_Has.l0]
  rw [if_neg (by omega)]
 | succ d ih =>
  intro j hd
  have hj : j < but.length := by omega
  have e : rd but (j : Int) = but[j] := by rw [rd_nat, List.getD_eq_getElem?_getD, List.getElem?_eq_getElem hj]; rfl
  rw [List.drop_eq_getElem_cons hj, List.any_cons]
  by_cases h : but[j] = x
  ·
   rw [beq_iff_eq.2 h, Bool.true_or]
   refine Ev.step (f := fun _ => some true) (fun f => ?_) (Ev.now _)
   simp only [r1_Has.l0, e]
   rw [if_pos (by omega), if_pos (by omega), if_pos h]
  ·
   have hf : (but[j] == x) = false := by simpa using h
   rw [hf, Bool.false_or]
   refine Ev.step (f := fun f => r1_Has.l0 f but x ((j + 1 : Nat) : Int)) (fun f => ?_) (ih (j + 1) (by omega))
   simp only [r1_Has.l0, e]
   rw [if_pos (by omega), if_pos (by omega), if_neg h, wrapN (by omega)]
def hasB (but : List Int) (x : Nat) : Bool := but.any fun y => y == (x : Int)
theorem rHas (but : List Int) (hb : but.length ≤ 1000) (x : Nat) : Ev (fun f => r1_Has.f f but (x : Int)) (hasB but x) := rHas0 but hb x but.length 0 (by omega)

end Go.Proofs.Ytgoidclnccjdeaa.D
end
section
/- Package glass, plain: the numbers of all truths without drawings, as_ the program and as_ the reference go through them. -/
namespace Go.Proofs.Ytgoidclnccjdeaa.M
set_option linter.unusedVariables false

def vec (a : List Int) (n : Int) (b : List Int) : List Int := a ++ (List.replicate (3 - a.length) 0 ++ (n :: (b ++ List.replicate (4 - b.length) 0)))
def allL (g : List (Int × Int)) (d : Int × Int) (s : List (Int × Int)) : List (List Int × Int × List Int) :=
 (prodL g).flatMap fun a => (rng d.1 d.2).flatMap fun n => (prodL s).map fun b => (a, n, b)
end Go.Proofs.Ytgoidclnccjdeaa.M
end
section
/- Package glass: the reference's lists of a number of each span, and all truths without drawings. -/
namespace Go.Proofs.Ytgoidclnccjdeaa.D
open Go Go.RowKit Go.Proofs.YtgoidclnccjdeaaK Go.Proofs.YtgoidclnccjdeaaW.PrintWords Go.Proofs.YtgoidclnccjdeaaW.PrintLast Go.Proofs.YtgoidclnccjdeaaW.PrintMore Go.Proofs.Ytgoidclnccjdeaa.PR Go.Proofs.Ytgoidclnccjdeaa.M
set_option linter.unusedVariables false
set_option linter.unusedSimpArgs false

abbrev pr (s : Sp) : Int × Int := (s.f0, s.f1)

end Go.Proofs.Ytgoidclnccjdeaa.D
end
section
/- Package glass: all truths without drawings, as_ the reference has them. -/
namespace Go.Proofs.Ytgoidclnccjdeaa.D
open Go Go.RowKit Go.Proofs.YtgoidclnccjdeaaK Go.Proofs.YtgoidclnccjdeaaW.PrintWords Go.Proofs.YtgoidclnccjdeaaW.PrintLast Go.Proofs.YtgoidclnccjdeaaW.PrintMore Go.Proofs.Ytgoidclnccjdeaa.PR Go.Proofs.Ytgoidclnccjdeaa.M
set_option linter.unusedVariables false
set_option linter.unusedSimpArgs false

abbrev glS (D : Dat) : List (Int × Int) := D.gl.map fun g => (g.f1.f0, g.f1.f1)
abbrev spS (D : Dat) : List (Int × Int) := D.sp.map pr
end Go.Proofs.Ytgoidclnccjdeaa.D
end
section
/- Package glass: what is seen, and the glasses of a drawing, as_ the reference has them; its truths. -/
namespace Go.Proofs.Ytgoidclnccjdeaa.D
open Go Go.RowKit Go.Proofs.YtgoidclnccjdeaaK Go.Proofs.YtgoidclnccjdeaaW.PrintWords Go.Proofs.YtgoidclnccjdeaaW.PrintLast Go.Proofs.YtgoidclnccjdeaaW.PrintMore Go.Proofs.Ytgoidclnccjdeaa.PR Go.Proofs.Ytgoidclnccjdeaa.M
set_option linter.unusedVariables false
set_option linter.unusedSimpArgs false

abbrev Tr := List Int × Int × List Int
abbrev V8 (t : Tr) : List Int := vec t.1 t.2.1 t.2.2
abbrev allD (D : Dat) : List Tr := allL (glS D) (D.lo, D.hi) (spS D)
section
variable {D : Dat} (h : Valid D) {t : Tr} (ht : t ∈ allD D)
include h ht
end
theorem seenTo_testBit (n : Nat → Int) (g : Nat) (y : Int) : ∀ (k i : Nat), (seenTo n g y k).testBit i = (decide (i < k) && seenB n g y i)
 | 0, i => by simp [seenTo]
 | k + 1, i => by
  have ih := seenTo_testBit n g y k i
  unfold seenTo
  by_cases hs : seenB n g y k = true
  ·
   rw [if_pos hs, Nat.testBit_or, ih, Nat.testBit_two_pow]
   by_cases e : i = k
   ·
    subst e; simp [hs]
   ·
    have h2 : decide (k = i) = false := by simp; omega
    rw [h2, Bool.or_false]
    congr 1
    rw [decide_eq_decide]; omega
  ·
   rw [if_neg hs, ih]
   by_cases e : i = k
   ·
    subst e; simp [hs]
   ·
    congr 1
    rw [decide_eq_decide]; omega
end Go.Proofs.Ytgoidclnccjdeaa.D
end
section
/- Package glass: the reference's truths are the program's. -/
namespace Go.Proofs.Ytgoidclnccjdeaa.D
open Go Go.RowKit Go.Proofs.YtgoidclnccjdeaaK Go.Proofs.YtgoidclnccjdeaaW.PrintWords Go.Proofs.YtgoidclnccjdeaaW.PrintLast Go.Proofs.YtgoidclnccjdeaaW.PrintMore Go.Proofs.Ytgoidclnccjdeaa.PR Go.Proofs.Ytgoidclnccjdeaa.M
set_option linter.unusedVariables false
set_option linter.unusedSimpArgs false

def usedL (D : Dat) (t : Tr) (d : Dr) : List Nat := (List.range D.gl.length).filter (thrB D (fn (V8 t)) d)
def ownL (D : Dat) (but : List Int) (t : Tr) (i : Nat) : List Int := if hasB but i = true then [] else ints (usedL D t (rd_T72 D.dr i))
end Go.Proofs.Ytgoidclnccjdeaa.D
end
section
/- Package glass: the reference's known and index. -/
namespace Go.Proofs.Ytgoidclnccjdeaa.D
open Go Go.RowKit Go.Proofs.YtgoidclnccjdeaaK Go.Proofs.YtgoidclnccjdeaaW.PrintWords Go.Proofs.YtgoidclnccjdeaaW.PrintLast Go.Proofs.YtgoidclnccjdeaaW.PrintMore Go.Proofs.Ytgoidclnccjdeaa.PR Go.Proofs.Ytgoidclnccjdeaa.M
set_option linter.unusedVariables false
set_option linter.unusedSimpArgs false

structure Fits (D : Dat) : Prop where
 nm : ∀ x ∈ D.gl, x.f0.size ≤ 9223372036854775807
 g : D.gl.length ≤ 9223372036854775807
 s : D.sp.length ≤ 9223372036854775807
 d : D.dr.length ≤ 9223372036854775807
theorem Arg.fits {w : World} {D : Dat} {A0 : Option Addr} {c0 : Nat} {A3 : Option Addr} {c3 : Nat} {A4 : Option Addr} {c4 : Nat} (h : Arg w D A0 c0 A3 c3 A4 c4) : Fits D := ⟨h.gn, h.g.2.1, h.s.2.1, h.d.2.1⟩
theorem rCheck' {D : Dat} (h : Fits D) : Ev (fun k => r7_Check.f k D.gl D.lo D.hi D.sp D.dr) (checkF D) := rCheck D h.nm h.g h.s h.d
end Go.Proofs.Ytgoidclnccjdeaa.D
end
section
/- Package glass: the reference's Used. -/
namespace Go.Proofs.Ytgoidclnccjdeaa.D
open Go Go.RowKit Go.Proofs.YtgoidclnccjdeaaK Go.Proofs.YtgoidclnccjdeaaW.PrintWords Go.Proofs.YtgoidclnccjdeaaW.PrintLast Go.Proofs.YtgoidclnccjdeaaW.PrintMore Go.Proofs.Ytgoidclnccjdeaa.PR Go.Proofs.Ytgoidclnccjdeaa.M
set_option linter.unusedVariables false
set_option linter.unusedSimpArgs false

theorem hasB_ints (l : List Nat) (g : Nat) : hasB (ints l) g = l.contains g := by
 unfold hasB ints
 rw [List.any_map, Bool.eq_iff_iff]
 simp only [List.any_eq_true, Function.comp, beq_iff_eq, List.contains_iff_mem]
 constructor
 ·
  rintro ⟨x, hx, e⟩
  have : x = g := Int.ofNat.inj e
  exact this ▸ hx
 ·
  intro hg; exact ⟨g, hg, rfl⟩
theorem own_nil (D : Dat) (t : Tr) (i : Nat) : ownL D [] t i = ints (usedL D t (rd_T72 D.dr i)) := by
 unfold ownL; rw [if_neg (by simp [hasB])]
section
variable {D : Dat} (h : Valid D) {d : Nat} (hd : d < D.dr.length)
include h hd
end
end Go.Proofs.Ytgoidclnccjdeaa.D
end
section
/- Package glass: the reference's Sees. -/
namespace Go.Proofs.Ytgoidclnccjdeaa.D
open Go Go.RowKit Go.Proofs.YtgoidclnccjdeaaK Go.Proofs.YtgoidclnccjdeaaW.PrintWords Go.Proofs.YtgoidclnccjdeaaW.PrintLast Go.Proofs.YtgoidclnccjdeaaW.PrintMore Go.Proofs.Ytgoidclnccjdeaa.PR Go.Proofs.Ytgoidclnccjdeaa.M
set_option linter.unusedVariables false
set_option linter.unusedSimpArgs false

theorem mayN_testBit (D : Dat) (g : Nat) (y : Int) (i : Nat) (l : List (List Int)) : (mayN D g y l).testBit i = l.any fun x => (seeL D g y x).testBit i := by
 induction l using list_snoc with
 | h0 => simp [mayN]
 | h1 l x ih => rw [mayN_snoc, Nat.testBit_or, ih, List.any_append]; simp
theorem sureO_testBit (D : Dat) (g : Nat) (y : Int) (i : Nat) (l : List (List Int)) : ∀ a, sureO D g y l = some a → a.testBit i = l.all fun x => (seeL D g y x).testBit i := by
 induction l using list_snoc with
 | h0 => intro a h; simp [sureO] at h
 | h1 l x ih =>
  intro a h
  rw [sureO_snoc] at h
  cases hs : sureO D g y l with
  | none =>
   have hl : l = [] := by
    cases l with
    | nil => rfl
    | cons z t => exact absurd hs (by rw [sureO_some (by simp)]; simp)
   subst hl
   rw [hs] at h
   have := Option.some.inj h
   rw [← this]; simp
  | some b =>
   rw [hs] at h
   have := Option.some.inj h
   rw [← this, Nat.testBit_and, ih b hs, List.all_append]; simp
theorem sureN_testBit {D : Dat} {g : Nat} {y : Int} {i : Nat} {l : List (List Int)} (h : l ≠ []) : (sureN D g y l).testBit i = l.all fun x => (seeL D g y x).testBit i := sureO_testBit D g y i l _ (sureO_some h)
theorem seeL_bit (D : Dat) (g : Nat) (y : Int) (x : List Int) (i : Nat) (hi : i < D.sp.length) : (seeL D g y x).testBit i = seenB (fn x) g y i := by
 unfold seeL; rw [seenTo_testBit]; simp [hi]
section
variable {D : Dat} (h : Valid D) {g : Nat} (hg : g < D.gl.length) {y : Int} (hy : 0 ≤ y ∧ y ≤ 9)
include h hg hy
end
section
variable {D : Dat} (h : Valid D) {g : Nat} (hg : g < D.gl.length) {y : Int} (hy : 0 ≤ y ∧ y ≤ 9) (hne : truthsL D 0 ≠ [])
include h hg hy hne
end
end Go.Proofs.Ytgoidclnccjdeaa.D
end
section
/- Package independent: the fewest of some things: the sets in order, what a search over all sets names. -/
namespace Go.Proofs.YtgoidclnccjdeaaK
open Go
set_option linter.unusedVariables false
set_option linter.unusedSimpArgs false

def cmpZ : List Int → List Int → Int
 | [], [] => 0
 | [], _ :: _ => -1
 | _ :: _, [] => 1
 | a :: l, b :: m => if (if a < b then (-1 : Int) else if b < a then 1 else 0) = 0 then cmpZ l m else (if a < b then -1 else if b < a then 1 else 0)
abbrev natZ (l : List Nat) : List Int := l.map Int.ofNat
def bitsL (set n : Nat) : List Nat := (List.range n).filter fun i => set.testBit i
def wStep (m : Nat) (P : Nat → Bool) (set : Nat) (s : Option (List Nat)) : Option (List Nat) :=
 if (match s with | some b => decide (b.length < (bitsL set m).length) || ((bitsL set m).length == b.length && decide (0 < cmpZ (natZ (bitsL set m)) (natZ b))) | none => false) = true then s
 else if P set = true then some (bitsL set m) else s
def wTo (m : Nat) (P : Nat → Bool) (k : Nat) : Option (List Nat) := (List.range k).foldl (fun s set => wStep m P set s) none
end Go.Proofs.YtgoidclnccjdeaaK
end
section
/- Package glass: the reference's two, Part and Wrong. -/
namespace Go.Proofs.Ytgoidclnccjdeaa.D
open Go Go.RowKit Go.Proofs.YtgoidclnccjdeaaK Go.Proofs.YtgoidclnccjdeaaW.PrintWords Go.Proofs.YtgoidclnccjdeaaW.PrintLast Go.Proofs.YtgoidclnccjdeaaW.PrintMore Go.Proofs.Ytgoidclnccjdeaa.PR Go.Proofs.Ytgoidclnccjdeaa.M
set_option linter.unusedVariables false
set_option linter.unusedSimpArgs false

section
variable {D : Dat} (h : Valid D) {a b : Nat} (ha : a < D.sp.length) (hb : b < D.sp.length) {y : Int} (hy : 0 ≤ y ∧ y ≤ 9) (hne : truthsL D 0 ≠ [])
include h ha hb hy hne
end
theorem cmpL_eq : ∀ a b : List Int, cmpL a b = cmpZ a b
 | [], [] => rfl
 | [], _ :: _ => rfl
 | _ :: _, [] => rfl
 | a :: l, b :: m => by simp only [cmpL, cmpZ, cmpI, cmpL_eq l m]
def someT (D : Dat) (set : Nat) : Bool := !(truthsL D set).isEmpty
theorem wrongStep_eq (D : Dat) (set : Nat) (s : Option (List Nat)) : wrongStep D set s = wStep D.dr.length (someT D) set s := by
 unfold wrongStep wStep someT
 have e : (List.range D.dr.length).filter (keepP set) = bitsL set D.dr.length := List.filter_congr fun i _ => by simp [keepP, outP]
 simp only [e, cmpL_eq]
 cases (truthsL D set).isEmpty <;> cases s <;> simp
theorem wrongTo_eq (D : Dat) (k : Nat) : wrongTo D k = wTo D.dr.length (someT D) k := by
 unfold wrongTo wTo
 congr 1
 funext s set
 exact wrongStep_eq D set s
theorem prodL_mem : ∀ {l : List (Int × Int)} {x : List Int}, x.length = l.length → (∀ i, i < l.length → (l.getD i (0, 0)).1 ≤ x.getD i 0 ∧ x.getD i 0 ≤ (l.getD i (0, 0)).2) → x ∈ prodL l
 | [], [], _, _ => by simp [prodL]
 | [], _ :: _, h, _ => by simp at h
 | _ :: _, [], h, _ => by simp at h
 | s :: l, a :: x, h, hh => by
  simp only [prodL, List.mem_flatMap, List.mem_map]
  refine ⟨a, mem_rng.2 (by simpa using hh 0 (by simp)), x, prodL_mem (by simpa using h) (fun i hi => by simpa using hh (i + 1) (by simpa using hi)), rfl⟩
section
variable {D : Dat} (h : Valid D) {res : List Nat} (hres : wTo D.dr.length (someT D) (2 ^ D.dr.length) = some res)
include h hres
end
end Go.Proofs.Ytgoidclnccjdeaa.D
end
section
/- Package glass: what the outright laws need of the program's answers. -/
namespace Go.Proofs.Ytgoidclnccjdeaa.D
open Go Go.RowKit Go.Proofs.YtgoidclnccjdeaaK Go.Proofs.YtgoidclnccjdeaaW.PrintWords Go.Proofs.YtgoidclnccjdeaaW.PrintLast Go.Proofs.YtgoidclnccjdeaaW.PrintMore Go.Proofs.Ytgoidclnccjdeaa.PR Go.Proofs.Ytgoidclnccjdeaa.M
set_option linter.unusedVariables false
set_option linter.unusedSimpArgs false

def someB (D : Dat) : Bool := (checkF D).2.2 == 0 && someT D 0
theorem rValid {D : Dat} (h : Fits D) : Ev (fun k => helioscopelaw07_valid.f k D.gl D.lo D.hi D.sp D.dr) ((checkF D).2.2 == 0) := by
 unfold helioscopelaw07_valid.f
 exact Ev.bind (rCheck' h) (Ev.now _)
def sureP (D : Dat) (g : Nat) (y : Int) (s : Nat) : Bool := (truthsL D 0).all fun x => seenB (fn x) g y s
def mayP (D : Dat) (g : Nat) (y : Int) (s : Nat) : Bool := (truthsL D 0).any fun x => seenB (fn x) g y s
def sureL (D : Dat) (g : Nat) (y : Int) : List Nat := (List.range D.sp.length).filter (sureP D g y)
def mayL (D : Dat) (g : Nat) (y : Int) : List Nat := (List.range D.sp.length).filter (mayP D g y)
theorem seesF_eq {D : Dat} {g : Nat} {y : Int} (he : enterE D (askSees D g y) = 0) : seesF D g y = (sureL D g y, mayL D g y) := by
 have hne := (enterE_ok he).2.2.2
 unfold seesF sureL mayL
 rw [if_pos he, Int.toNat_natCast]
 congr 1
 ·
  refine List.filter_congr fun s hs => ?_
  show (!!(sureN D g y (truthsL D 0)).testBit s) = _
  rw [Bool.not_not, sureN_testBit hne]
  unfold sureP
  congr 1; funext x
  exact seeL_bit D g y x s (List.mem_range.1 hs)
 ·
  refine List.filter_congr fun s hs => ?_
  show (!!(mayN D g y (truthsL D 0)).testBit s) = _
  rw [Bool.not_not, mayN_testBit]
  unfold mayP
  congr 1; funext x
  exact seeL_bit D g y x s (List.mem_range.1 hs)
theorem truth_in {D : Dat} (hV : Valid D) {but : Nat} {x : List Int} (hx : x ∈ truthsL D but) : x ∈ prodL (spansL D) ∧ soB D but (fn x) = true ∧ x.length = 8 ∧ ∀ i, 0 ≤ fn x i ∧ fn x i ≤ 60 := by
 have h := List.mem_filter.1 hx
 have h2 := mem_spans hV h.1
 exact ⟨h.1, h.2, h2.1, h2.2⟩
theorem has_filter {n : Nat} {P : Nat → Bool} {s : Nat} (h : s < n) : hasB (ints ((List.range n).filter P)) s = P s := by
 rw [hasB_ints, Bool.eq_iff_iff, List.contains_iff_mem, List.mem_filter, List.mem_range]
 exact ⟨fun x => x.2, fun x => ⟨h, x⟩⟩
theorem filter_len (n : Nat) (P : Nat → Bool) : ((List.range n).filter P).length ≤ n := Nat.le_trans (List.length_filter_le _ _) (by simp)
end Go.Proofs.Ytgoidclnccjdeaa.D
end
section
/- Package glass: Rising, which the laws ask of lists. -/
namespace Go.Proofs.Ytgoidclnccjdeaa.D
open Go Go.RowKit Go.Proofs.YtgoidclnccjdeaaK Go.Proofs.YtgoidclnccjdeaaW.PrintWords Go.Proofs.YtgoidclnccjdeaaW.PrintLast Go.Proofs.YtgoidclnccjdeaaW.PrintMore Go.Proofs.Ytgoidclnccjdeaa.PR Go.Proofs.Ytgoidclnccjdeaa.M
set_option linter.unusedVariables false
set_option linter.unusedSimpArgs false

theorem wrapI {x : Int} (h1 : -9223372036854775808 ≤ x) (h2 : x ≤ 9223372036854775807) : IntKind.i64.wrap x = x := by rw [i64_w]; unfold wrap64; omega
end Go.Proofs.Ytgoidclnccjdeaa.D
end
section
/- Package glass: small facts for the walks through outright laws. -/
namespace Go.Proofs.Ytgoidclnccjdeaa.D
open Go Go.RowKit Go.Proofs.YtgoidclnccjdeaaK Go.Proofs.YtgoidclnccjdeaaW.PrintWords Go.Proofs.YtgoidclnccjdeaaW.PrintLast Go.Proofs.YtgoidclnccjdeaaW.PrintMore Go.Proofs.Ytgoidclnccjdeaa.PR Go.Proofs.Ytgoidclnccjdeaa.M
set_option linter.unusedVariables false

theorem tmodN (u m : Int) (hu : 0 ≤ u) (hm : 0 < m) : ∃ a : Nat, (a : Int) < m ∧ u.tmod m = (a : Int) := by
 refine ⟨(u % m).toNat, ?_, ?_⟩
 ·
  have h1 := Int.emod_lt_of_pos u hm
  have h2 := Int.emod_nonneg u (show m ≠ 0 by omega)
  omega
 ·
  have h2 := Int.emod_nonneg u (show m ≠ 0 by omega)
  rw [Int.tmod_eq_emod_of_nonneg hu]
  omega
theorem NewRow.rowI {w : World} {n0 : Nat} {v : Value} {l : List Nat} (h : NewRow w n0 v l) : ∃ A c, v = .slice A (ints l).length c ∧ (ints l).length ≤ c ∧ (ints l).length ≤ 50 ∧ Kd.C (Kd.int .i64) w A (ints l).length (ints l) := by
 have el : (ints l).length = l.length := List.length_map ..
 rw [el]
 rcases h with ⟨rfl, rfl⟩ | ⟨g, L, n, rfl, h2, h3, h4, h5, h6⟩
 ·
  exact ⟨none, 0, rfl, Nat.le_refl _, by simp, rfl, by simp, fun h => absurd h (by simp)⟩
 ·
  have hle : l.length ≤ L.length := by
   have := congrArg List.length h6
   simp at this; omega
  refine ⟨_, n, rfl, by omega, by omega, ?_⟩
  have := h3.read l.length hle (by omega)
  rw [h6] at this
  exact this
end Go.Proofs.Ytgoidclnccjdeaa.D
end
section
/- General lemmas of this session's own: rows of any plain kind that are copied by append. -/
namespace Go.Proofs.YtgoidclnccjdeaaK
open Go Go.RowKit Go.Proofs.YtgoidclnccjdeaaW.PrintWords Go.Proofs.YtgoidclnccjdeaaW.PrintLast Go.Proofs.YtgoidclnccjdeaaW.PrintMore
set_option linter.unusedVariables false
set_option linter.unusedSimpArgs false
variable {P : Program}

theorem flat_at {α : Type} (enc : α → List Value) {sz : Nat} (hl : ∀ x, (enc x).length = sz) : ∀ (xs : List α), (xs.flatMap enc).length = xs.length * sz ∧
  ∀ j u, (xs.flatMap enc)[j]? = some u → ∃ p i, xs[j / sz]? = some p ∧ (enc p)[i]? = some u ∧ i < sz ∧ j = j / sz * sz + i
 | [] => ⟨by simp, fun j u h => by simp at h⟩
 | x :: xs => by
  obtain ⟨h1, h2⟩ := flat_at enc hl xs
  refine ⟨by rw [List.flatMap_cons, List.length_append, h1, hl, List.length_cons, Nat.succ_mul]; omega, fun j u h => ?_⟩
  rw [List.flatMap_cons] at h
  by_cases hj : j < sz
  ·
   rw [List.getElem?_append_left (by rw [hl]; exact hj)] at h
   have hd : j / sz = 0 := Nat.div_eq_of_lt hj
   exact ⟨x, j, by rw [hd]; rfl, h, hj, by rw [hd]; omega⟩
  ·
   have hsz : 0 < sz := by
    rcases Nat.eq_zero_or_pos sz with e | e
    ·
     subst e
     have h0 : (xs.flatMap enc).length = 0 := by rw [h1, Nat.mul_zero]
     rw [List.getElem?_append_right (by rw [hl]; omega), List.eq_nil_of_length_eq_zero h0] at h
     simp at h
    ·
     exact e
   rw [List.getElem?_append_right (by rw [hl]; omega), hl] at h
   obtain ⟨p, i, a1, a2, a3, a4⟩ := h2 (j - sz) u h
   have hd : j / sz = (j - sz) / sz + 1 := by
    rw [Nat.div_eq_sub_div hsz (by omega)]
   exact ⟨p, i, by rw [hd]; simpa using a1, a2, a3, by rw [hd, Nat.succ_mul]; omega⟩

theorem C_news {α : Type} {d : Kd α} {enc : α → List Value} (hK : ∀ (w : World) x cs, d.K w x cs → cs = enc x) (hl : ∀ x, (enc x).length = d.sz) {w : World} {A : Option Addr} {xs : List α} (h : Kd.C d w A xs.length xs) {ad : Addr} (hA : A = some ad) :
  ∀ j u, (xs.flatMap enc)[j]? = some u → w.cell? (ad.add j) = some u := by
 intro j u hj
 obtain ⟨p, i, h1, h2, h3, h4⟩ := (flat_at enc hl xs).2 j u hj
 have hpos : 0 < xs.length := by
  have := (List.getElem?_eq_some_iff.1 h1).1
  exact Nat.lt_of_le_of_lt (Nat.zero_le _) this
 obtain ⟨ad', e, hc⟩ := h.2.2 hpos
 rw [hA] at e
 cases e
 obtain ⟨cs, hs, hk, hcell⟩ := hc _ p h1
 rw [hK w p cs hk] at hcell
 rw [h4]
 exact hcell i u h2
theorem C_some {α : Type} {d : Kd α} {w : World} {A : Option Addr} {xs : List α} (h : Kd.C d w A xs.length xs) (h0 : A = none) : xs = [] := by
 by_cases hp : 0 < xs.length
 ·
  obtain ⟨ad, e, _⟩ := h.2.2 hp
  rw [h0] at e; cases e
 ·
  exact List.eq_nil_of_length_eq_zero (by omega)

theorem append_row {α : Type} {d : Kd α} {enc : α → List Value} (hK : ∀ (w : World) x cs, d.K w x cs → cs = enc x) (hl : ∀ x, (enc x).length = d.sz) (h1 : ∀ x, ∀ u ∈ enc x, u.oneCell' = true) {w : World} {base e t ty : Nat} {i : TypeInfo} {z : Value} {bytes : Nat}
  (ht : P.underlying t = some (.slice e)) (hi : P.info? e = some i) (hz : i.zero = some z) (hsize : i.size = d.sz) (hby : i.bytes = bytes) (hzs : z.cells.size = d.sz) (hsz : 0 < d.sz) (hb : 0 < bytes)
  {v : Value} {ys : List α} (hown : w.ownsRow base e d.sz v ys.length (ys.flatMap enc)) {A : Option Addr} {c : Nat} {xs : List α} (h : Kd.C d w A xs.length xs) (hn : (ys.length + xs.length) * bytes ≤ 140737488355328) (hbase : base ≤ w.heap.size)
  (hno : A = none → (Builtin.append_ #[t, t] ty #[v, .slice none xs.length c]).run P w = .ok v w) :
  ∃ v' w', (Builtin.append_ #[t, t] ty #[v, .slice A xs.length c]).run P w = .ok v' w' ∧ w'.ownsRow base e d.sz v' (ys ++ xs).length ((ys ++ xs).flatMap enc) ∧ w.grownBy w' v.ownBlock ∧ (v'.ownBlock = v.ownBlock ∨ v'.ownBlock = some w.heap.size) := by
 cases A with
 | none =>
  have hx := C_some h rfl
  refine ⟨v, w, hno rfl, ?_, ⟨rfl, rfl, rfl, Nat.le_refl _, fun _ _ _ => rfl⟩, .inl rfl⟩
  subst hx
  rw [List.append_nil]
  exact hown
 | some ad =>
  obtain ⟨v', w', hr, ho, hg, _, hb'⟩ := run_append_own_at (P := P) w base t ty e i z d.sz bytes ht hi hz hsize hby hzs hsz v ys.length _ hown ad xs.length c (xs.flatMap enc) (flat_at enc hl xs).1 (C_news hK hl h rfl)
   (fun u hu => by obtain ⟨x, _, hx⟩ := List.mem_flatMap.1 hu; exact h1 x u hx) (by have := Nat.le_mul_of_pos_right (ys.length + xs.length) hb; simp only [maxLen]; omega) (by exact hn) hbase
  exact ⟨v', w', hr, by rw [List.length_append, List.flatMap_append]; exact ho, hg, hb'⟩
theorem row_read {α : Type} {d : Kd α} {enc : α → List Value} (hM : ∀ (w : World) x, d.K w x (enc x)) (hl : ∀ x, (enc x).length = d.sz) {w : World} {base e : Nat} {v : Value} {xs : List α} (h : w.ownsRow base e d.sz v xs.length (xs.flatMap enc)) (hn : xs.length ≤ 9223372036854775807) :
  ∃ A c, v = .slice A xs.length c ∧ xs.length ≤ c ∧ Kd.C d w A xs.length xs := by
 rcases h.2 with ⟨rfl, h0⟩ | ⟨g, cap, cur, rfl, hb, hg, hcap, hm, hs, ht⟩
 ·
  have : xs = [] := List.eq_nil_of_length_eq_zero h0
  subst this
  exact ⟨none, 0, rfl, Nat.le_refl _, rfl, by simp, fun h => absurd h (by simp)⟩
 ·
  refine ⟨_, cap, rfl, hcap, rfl, hn, fun _ => ⟨_, rfl, fun j p hj => ⟨enc p, hl p, hM w p, fun i u hu => ?_⟩⟩⟩
  have hadd : (⟨g, 0, none⟩ : Addr).add (j * d.sz + i) = ⟨g, j * d.sz + i, none⟩ := by unfold Addr.add; split <;> simp_all
  rw [hadd, cell_of_row w g _ cur e (0, 0) hg]
  have hjl := (List.getElem?_eq_some_iff.1 hj).1
  have hil : i < d.sz := by rw [← hl p]; exact (List.getElem?_eq_some_iff.1 hu).1
  have key : ∀ (xs : List α) (j : Nat), xs[j]? = some p → (xs.flatMap enc)[j * d.sz + i]? = some u := by
   intro xs
   induction xs with
   | nil => intro j hj; simp at hj
   | cons x xs ih =>
    intro j hj
    rw [List.flatMap_cons]
    cases j with
    | zero =>
     simp at hj
     subst hj
     rw [Nat.zero_mul, Nat.zero_add, List.getElem?_append_left (by rw [hl]; exact hil)]
     exact hu
    | succ j =>
     rw [List.getElem?_append_right (by rw [hl, Nat.succ_mul]; omega), hl, Nat.succ_mul]
     have := ih j (by simpa using hj)
     rw [← this]; congr 1; omega
  have hk := key xs j hj
  have hlt : j * d.sz + i < xs.length * d.sz := by
   have : (j + 1) * d.sz ≤ xs.length * d.sz := Nat.mul_le_mul_right _ hjl
   rw [Nat.succ_mul] at this; omega
  rw [← ht, List.getElem?_take_of_lt hlt] at hk
  rw [← Array.getElem?_toList]; exact hk
theorem append_none {w : World} {t ty e : TypeId} {i : TypeInfo} {z : Value} (ht : P.underlying t = some (.slice e)) (hi : P.info? e = some i) (g m c c' : Nat) (h : m ≤ c) :
  (Builtin.append_ #[t, t] ty #[.slice (some ⟨g, 0, none⟩) m c, .slice none 0 c']).run P w = .ok (.slice (some ⟨g, 0, none⟩) m c) w := by
 simp [Builtin.append_, run_underlying ht, sizeOf, typeInfo, hi, Builtin.lenOf, Builtin.firstCells, loadCells, loadCellsFrom, h, storeCells]

theorem step_run {ops : Array Oper} {o : Oper} {a : Act} {w : World} {K : Act → World → Prop} {Q : Exit → Act → World → Prop} {E : Prop} (hgd : o.guard = none) (s x : Operand) (t : TypeId)
  (ho : o.op = .call { callee := .builtin .append, args := #[s, x], argTypes := #[t, t] }) {v u : Value} (hs : a.eval s = v) (hx : a.eval x = u) {R : Value → World → Prop}
  (hrun : ∃ v' w', (Builtin.append_ #[t, t] o.type #[v, u]).run P w = .ok v' w' ∧ R v' w')
  (h : ∀ v' w', R v' w' → K (a.put o.dst v') w') : if Region.wanted o (yielded ops a.tmps) = true then Oper.wp P o a w K Q else E := by
 have hw : Region.wanted o (yielded ops a.tmps) = true := by simp [Region.wanted, hgd]
 rw [if_pos hw]
 obtain ⟨v', w', hr, h2⟩ := hrun
 unfold Oper.wp execOp
 simp only [ho, resolve, invoke, builtin, Sem.run_bind, Sem.run_pure, Result.andThen_ok, List.map_toArray, List.map_cons, List.map_nil, hs, hx, hr]
 exact h v' w' h2
theorem own_new0 {w : World} {base e sz : Nat} (hb : base ≤ w.heap.size) : (w.alloc (.cells #[] e)).ownsRow base e sz (.slice (some ⟨w.heap.size, 0, none⟩) 0 0) 0 [] :=
 World.ownsRow_lit w #[] 0 hb (by decide) (by simp)
theorem own_far {w : World} {base e sz n : Nat} {v : Value} {xs : List Value} (h : w.ownsRow base e sz v n xs) {p : Addr} (hp : p.block < base) (u : Value) : (w.setCell p u).ownsRow base e sz v n xs := by
 refine ⟨h.1, ?_⟩
 rcases h.2 with hn | ⟨g, cap, cur, rfl, hb, hg, rest⟩
 ·
  exact .inl hn
 ·
  exact .inr ⟨g, cap, cur, rfl, hb, (Below.heap_setCell w p u g (by omega)).trans hg, rest⟩
end Go.Proofs.YtgoidclnccjdeaaK
end
section
/- General lemmas of this session's own: an element of three cells written into a row of its own. -/
namespace Go.Proofs.YtgoidclnccjdeaaK
open Go Go.RowKit Go.Proofs.YtgoidclnccjdeaaW.PrintWords Go.Proofs.YtgoidclnccjdeaaW.PrintLast Go.Proofs.YtgoidclnccjdeaaW.PrintMore
set_option linter.unusedVariables false
set_option linter.unusedSimpArgs false

theorem agree_set {w w0 : World} {a z g j : Nat} {v : Value} (h : ∀ k, a ≤ k → k < z → w.heap[k]? = w0.heap[k]?) (hg : g < a ∨ z ≤ g) : ∀ k, a ≤ k → k < z → (w.setCell ⟨g, j, none⟩ v).heap[k]? = w0.heap[k]? :=
 fun k h1 h2 => (Below.heap_setCell w ⟨g, j, none⟩ v k (by show k ≠ g; omega)).trans (h k h1 h2)
theorem agree_below {w w' w0 : World} {a z : Nat} (h : ∀ k, a ≤ k → k < z → w.heap[k]? = w0.heap[k]?) (hb : Below w.heap.size w w') (hz : z ≤ w.heap.size) : ∀ k, a ≤ k → k < z → w'.heap[k]? = w0.heap[k]? :=
 fun k h1 h2 => (hb.block k (Nat.lt_of_lt_of_le h2 hz)).trans (h k h1 h2)
end Go.Proofs.YtgoidclnccjdeaaK
end
section
/- Package glass: a row that a call has made, kept through stores into other blocks. -/
namespace Go.Proofs.Ytgoidclnccjdeaa.D
open Go Go.RowKit Go.Proofs.YtgoidclnccjdeaaK Go.Proofs.YtgoidclnccjdeaaW.PrintWords Go.Proofs.YtgoidclnccjdeaaW.PrintLast Go.Proofs.YtgoidclnccjdeaaW.PrintMore Go.Proofs.Ytgoidclnccjdeaa.PR Go.Proofs.Ytgoidclnccjdeaa.M
set_option linter.unusedVariables false
set_option linter.unusedSimpArgs false

structure Keep (n0 : Nat) (w0 w : World) : Prop where
 size : w0.heap.size ≤ w.heap.size
 same : ∀ k, n0 ≤ k → k < w0.heap.size → w.heap[k]? = w0.heap[k]?
theorem Keep.refl (n0 : Nat) (w : World) : Keep n0 w w := ⟨Nat.le_refl _, fun _ _ _ => rfl⟩
theorem Keep.below {n0 : Nat} {w0 w w' : World} (h : Keep n0 w0 w) (hb : Below w.heap.size w w') : Keep n0 w0 w' := ⟨Nat.le_trans h.size hb.size, agree_below h.same hb h.size⟩
theorem Keep.set {n0 g j : Nat} {w0 w : World} (h : Keep n0 w0 w) (hg : g < n0 ∨ w0.heap.size ≤ g) (v : Value) : Keep n0 w0 (w.setCell ⟨g, j, none⟩ v) :=
 ⟨by simpa [World.setCell] using h.size, agree_set h.same hg⟩
theorem NewRow.read {w : World} {n0 n c : Nat} {A : Option Addr} {l : List Nat} (h : NewRow w n0 (.slice A n c) l) : Kd.C (Kd.int .i64) w A (ints l).length (ints l) := by
 obtain ⟨A', c', e, _, _, hC⟩ := h.rowI
 cases e
 exact hC
end Go.Proofs.Ytgoidclnccjdeaa.D
end
section
/- Package glass: the fewest drawings that must be wrong, as_ the law asks. -/
namespace Go.Proofs.Ytgoidclnccjdeaa.D
open Go Go.RowKit Go.Proofs.YtgoidclnccjdeaaK Go.Proofs.YtgoidclnccjdeaaW.PrintWords Go.Proofs.YtgoidclnccjdeaaW.PrintLast Go.Proofs.YtgoidclnccjdeaaW.PrintMore Go.Proofs.Ytgoidclnccjdeaa.PR Go.Proofs.Ytgoidclnccjdeaa.M
set_option linter.unusedVariables false
set_option linter.unusedSimpArgs false

theorem bit_ok : ((List.range 256).all fun b => (List.range 4).all fun i => r1_Bit.f 10 (b : Int) (i : Int) == some (b.testBit i)) = true := by kernel_rfl
theorem rBit {b i : Nat} (hb : b < 256) (hi : i < 4) : r1_Bit.f 10 (b : Int) (i : Int) = some (b.testBit i) :=
 eq_of_beq (List.all_eq_true.1 (List.all_eq_true.1 bit_ok b (List.mem_range.2 hb)) i (List.mem_range.2 hi))
end Go.Proofs.Ytgoidclnccjdeaa.D
end
section
/- Package glass: a shelf with fewer truths (one more drawing), and what that does to the program's answers. -/
namespace Go.Proofs.Ytgoidclnccjdeaa.D
open Go Go.RowKit Go.Proofs.YtgoidclnccjdeaaK Go.Proofs.YtgoidclnccjdeaaW.PrintWords Go.Proofs.YtgoidclnccjdeaaW.PrintLast Go.Proofs.YtgoidclnccjdeaaW.PrintMore Go.Proofs.Ytgoidclnccjdeaa.PR Go.Proofs.Ytgoidclnccjdeaa.M
set_option linter.unusedVariables false
set_option linter.unusedSimpArgs false

theorem minF_le {l : List (List Int)} {k : Nat} {x : List Int} (h : x ∈ l) : minF l k ≤ fn x k := by
 induction l using list_snoc with
 | h0 => simp at h
 | h1 l y ih =>
  rw [minF_snoc]
  rcases List.mem_append.1 h with h | h
  ·
   have := ih h; split <;> omega
  ·
   simp at h; subst h; split <;> omega
theorem maxF_ge {l : List (List Int)} {k : Nat} {x : List Int} (h : x ∈ l) : fn x k ≤ maxF l k := by
 induction l using list_snoc with
 | h0 => simp at h
 | h1 l y ih =>
  rw [maxF_snoc]
  rcases List.mem_append.1 h with h | h
  ·
   have := ih h; split <;> omega
  ·
   simp at h; subst h; split <;> omega
theorem minF_61 (l : List (List Int)) (k : Nat) : minF l k ≤ 61 := by
 induction l using list_snoc with
 | h0 => simp [minF]
 | h1 l y ih => rw [minF_snoc]; split <;> omega
theorem maxF_m1 (l : List (List Int)) (k : Nat) : -1 ≤ maxF l k := by
 induction l using list_snoc with
 | h0 => simp [maxF]
 | h1 l y ih => rw [maxF_snoc]; split <;> omega
theorem minF_lb {l : List (List Int)} {k : Nat} {b : Int} (hb : b ≤ 61) (h : ∀ x ∈ l, b ≤ fn x k) : b ≤ minF l k := by
 induction l using list_snoc with
 | h0 => simpa [minF] using hb
 | h1 l y ih =>
  have h1 := ih (fun x hx => h x (List.mem_append.2 (.inl hx)))
  have h2 := h y (by simp)
  rw [minF_snoc]; split <;> omega
theorem maxF_ub {l : List (List Int)} {k : Nat} {b : Int} (hb : -1 ≤ b) (h : ∀ x ∈ l, fn x k ≤ b) : maxF l k ≤ b := by
 induction l using list_snoc with
 | h0 => simpa [maxF] using hb
 | h1 l y ih =>
  have h1 := ih (fun x hx => h x (List.mem_append.2 (.inl hx)))
  have h2 := h y (by simp)
  rw [maxF_snoc]; split <;> omega
end Go.Proofs.Ytgoidclnccjdeaa.D
end
section
/- Package glass: a shelf without drawings. -/
namespace Go.Proofs.Ytgoidclnccjdeaa.D
open Go Go.RowKit Go.Proofs.YtgoidclnccjdeaaK Go.Proofs.YtgoidclnccjdeaaW.PrintWords Go.Proofs.YtgoidclnccjdeaaW.PrintLast Go.Proofs.YtgoidclnccjdeaaW.PrintMore Go.Proofs.Ytgoidclnccjdeaa.PR Go.Proofs.Ytgoidclnccjdeaa.M
set_option linter.unusedVariables false
set_option linter.unusedSimpArgs false

def nd (D : Dat) : Dat := ⟨D.gl, D.lo, D.hi, D.sp, []⟩
section
variable {D : Dat} (hV : Valid (nd D)) {g i : Nat} (hg : g < D.gl.length) (hi : i < D.sp.length) {y : Int} (hy : 0 ≤ y)
include hV hg hi hy
end
end Go.Proofs.Ytgoidclnccjdeaa.D
end
section
/- Package glass: a shelf with other drawings; of which a drawing is said to be made through one glass. -/
namespace Go.Proofs.Ytgoidclnccjdeaa.D
open Go Go.RowKit Go.Proofs.YtgoidclnccjdeaaK Go.Proofs.YtgoidclnccjdeaaW.PrintWords Go.Proofs.YtgoidclnccjdeaaW.PrintLast Go.Proofs.YtgoidclnccjdeaaW.PrintMore Go.Proofs.Ytgoidclnccjdeaa.PR Go.Proofs.Ytgoidclnccjdeaa.M
set_option linter.unusedVariables false
set_option linter.unusedSimpArgs false

def wdr (D : Dat) (l : List Dr) : Dat := ⟨D.gl, D.lo, D.hi, D.sp, l⟩
theorem firstE_ok {α : Type} (E : Nat → α → Int) : ∀ (l : List α) (k : Nat), (∀ i (h : i < l.length), E (k + i) l[i] = 0) → firstE E l k = (0, 0)
 | [], k, _ => rfl
 | x :: l, k, h => by
  have h0 := h 0 (by simp)
  simp only [Nat.add_zero, List.getElem_cons_zero] at h0
  unfold firstE
  rw [if_pos h0]
  refine firstE_ok E l (k + 1) (fun i hi => ?_)
  have := h (i + 1) (by simp; omega)
  rw [show k + 1 + i = k + (i + 1) by omega]
  simpa using this
theorem wdr_check {D : Dat} (hc : (checkF D).2.2 = 0) {l : List Dr} (hl : l.length ≤ 4) (h : ∀ i (hi : i < l.length), errD D.gl.length D.sp.length i l[i] = 0) : (checkF (wdr D l)).2.2 = 0 := by
 have h4 : (firstL l 0 4 (errD D.gl.length D.sp.length)).2 = 0 := by
  unfold firstL
  rw [if_neg (by simp [outB]; omega), firstE_ok _ _ _ (fun i hi => by rw [Nat.zero_add]; exact h i hi)]
 unfold checkF at hc ⊢
 split at hc
 ·
  next h1 => exact absurd hc h1
 ·
  next h1 =>
  split at hc
  ·
   next h2 => exact absurd hc h2
  ·
   next h2 =>
   split at hc
   ·
    next h3 => exact absurd hc h3
   ·
    next h3 =>
    show (if (firstL D.gl 1 3 (errG D.gl)).2 ≠ 0 then _ else _ : Int × Int × Int).2.2 = 0
    rw [if_neg h1]
    show (if endsE D.lo D.hi 0 3 ≠ 0 then _ else _ : Int × Int × Int).2.2 = 0
    rw [if_neg h2]
    show (if (firstL D.sp 0 4 errP).2 ≠ 0 then _ else _ : Int × Int × Int).2.2 = 0
    rw [if_neg h3]
    show (if (firstL l 0 4 (errD D.gl.length D.sp.length)).2 ≠ 0 then _ else _ : Int × Int × Int).2.2 = 0
    rw [if_neg (fun x => x h4)]
theorem errD_mk {n m i : Nat} {d : Dr} (h0 : -1 ≤ d.f0 ∧ d.f0 ≤ (n : Int) - 1) (h1 : 0 ≤ d.f1 ∧ d.f1 ≤ 9) (h2 : 0 ≤ d.f2 ∧ d.f2 ≤ ((2 ^ m : Nat) : Int) - 1) : errD n m i d = 0 := by
 unfold errD
 rw [if_neg (by rw [outB_one]; exact fun x => x h0), if_neg (by rw [outB_one]; exact fun x => x h1), if_neg (by rw [outB_one]; exact fun x => x h2)]
section
variable {D : Dat} (hs : someB D = true) {i g : Nat} (hi : i < D.dr.length) (hg : g < D.gl.length)
include hs hi
include hg
end
end Go.Proofs.Ytgoidclnccjdeaa.D
end
section
/- Package glass: spots told the other way round. -/
namespace Go.Proofs.Ytgoidclnccjdeaa.D
open Go Go.RowKit Go.Proofs.YtgoidclnccjdeaaK Go.Proofs.YtgoidclnccjdeaaW.PrintWords Go.Proofs.YtgoidclnccjdeaaW.PrintLast Go.Proofs.YtgoidclnccjdeaaW.PrintMore Go.Proofs.Ytgoidclnccjdeaa.PR Go.Proofs.Ytgoidclnccjdeaa.M
set_option linter.unusedVariables false
set_option linter.unusedSimpArgs false

def rho (n k : Nat) : Nat := if 4 ≤ k ∧ k < 4 + n then 4 + (n - 1 - (k - 4)) else k
theorem rho_rho (n k : Nat) : rho n (rho n k) = k := by
 unfold rho
 by_cases h : 4 ≤ k ∧ k < 4 + n
 ·
  rw [if_pos h, if_pos (by omega)]; omega
 ·
  rw [if_neg h, if_neg h]
theorem rho_lt {n k : Nat} (hn : n ≤ 4) (hk : k < 8) : rho n k < 8 := by unfold rho; split <;> omega
theorem rho_spot {n i : Nat} (h : i < n) : rho n (4 + i) = 4 + (n - 1 - i) := by unfold rho; rw [if_pos (by omega)]; omega
theorem rho_low {n k : Nat} (h : k < 4) : rho n k = k := by unfold rho; rw [if_neg (by omega)]
def revT (n : Nat) (x : List Int) : List Int := (List.range 8).map fun k => fn x (rho n k)
theorem fn_rev {n k : Nat} (x : List Int) (hk : k < 8) : fn (revT n x) k = fn x (rho n k) := by
 show ((List.range 8).map fun k => fn x (rho n k)).getD k 0 = _
 rw [List.getD_eq_getElem?_getD, List.getElem?_map, List.getElem?_range hk]; rfl
theorem rev_len (n : Nat) (x : List Int) : (revT n x).length = 8 := by simp [revT]
theorem rev_rev {n : Nat} (hn : n ≤ 4) {x : List Int} (hx : x.length = 8) : revT n (revT n x) = x :=
 fn_inj (rev_len _ _) hx (fun i hi => by rw [fn_rev _ hi, fn_rev _ (rho_lt hn hi), rho_rho])
def revTo (s : Nat) : Nat → Nat
 | 0 => 0
 | k + 1 => 2 * revTo s k + if s.testBit k = true then 1 else 0
theorem revTo_testBit (s : Nat) : ∀ k i, (revTo s k).testBit i = (decide (i < k) && s.testBit (k - 1 - i))
 | 0, i => by simp [revTo]
 | k + 1, 0 => by
  unfold revTo
  rw [Nat.testBit_zero]
  simp only [Nat.add_sub_cancel, Nat.sub_zero, Nat.zero_lt_succ, decide_true, Bool.true_and]
  cases s.testBit k <;> simp <;> omega
 | k + 1, i + 1 => by
  have ih := revTo_testBit s k i
  unfold revTo
  rw [Nat.testBit_succ]
  have e : (2 * revTo s k + if s.testBit k = true then 1 else 0) / 2 = revTo s k := by split <;> omega
  rw [e, ih]
  congr 1
  ·
   rw [decide_eq_decide]; omega
  ·
   congr 1; omega
theorem revTo_lt (s : Nat) : ∀ k, revTo s k < 2 ^ k
 | 0 => by simp [revTo]
 | k + 1 => by
  have := revTo_lt s k
  unfold revTo
  rw [Nat.pow_succ]
  split <;> omega
def bkDr (n : Nat) (d : Dr) : Dr := ⟨d.f0, d.f1, ((revTo d.f2.toNat n : Nat) : Int)⟩
def bkD (D : Dat) : Dat := ⟨D.gl, D.lo, D.hi, D.sp.reverse, D.dr.map (bkDr D.sp.length)⟩
theorem bk_sp {D : Dat} {i : Nat} (h : i < D.sp.length) : rd_T24 D.sp.reverse (i : Int) = rd_T24 D.sp ((D.sp.length - 1 - i : Nat) : Int) := by
 simp only [rd_T24, Int.toNat_natCast, List.getD_eq_getElem?_getD]
 rw [List.getElem?_reverse h]
theorem bk_dr {D : Dat} {i : Nat} (h : i < D.dr.length) : rd_T72 (bkD D).dr (i : Int) = bkDr D.sp.length (rd_T72 D.dr (i : Int)) := by
 show rd_T72 (D.dr.map (bkDr D.sp.length)) (i : Int) = _
 simp only [rd_T72, Int.toNat_natCast, List.getD_eq_getElem?_getD, List.getElem?_map, List.getElem?_eq_getElem h, Option.map_some, Option.getD_some]
theorem bk_span {D : Dat} (hg : D.gl.length ≤ 3) (k : Nat) : spanF (bkD D) k = spanF D (rho D.sp.length k) := by
 unfold spanF
 have hl : (bkD D).sp.length = D.sp.length := List.length_reverse
 show (if k < D.gl.length then _ else if k = 3 then _ else if 4 ≤ k ∧ k < 4 + (bkD D).sp.length then _ else _ : Int × Int) = _
 rw [hl]
 by_cases h : 4 ≤ k ∧ k < 4 + D.sp.length
 ·
  have hr : rho D.sp.length k = 4 + (D.sp.length - 1 - (k - 4)) := by unfold rho; rw [if_pos h]
  rw [hr, if_neg (by omega), if_neg (by omega), if_pos h, if_neg (by omega), if_neg (by omega), if_pos (by omega)]
  show ((rd_T24 D.sp.reverse ((k - 4 : Nat) : Int)).f0, (rd_T24 D.sp.reverse ((k - 4 : Nat) : Int)).f1) = _
  rw [bk_sp (by omega), show 4 + (D.sp.length - 1 - (k - 4)) - 4 = D.sp.length - 1 - (k - 4) by omega]
 ·
  have hr : rho D.sp.length k = k := by unfold rho; rw [if_neg h]
  rw [hr, if_neg h, if_neg h]
  rfl
section
variable {D : Dat} (hc : (checkF D).2.2 = 0)
include hc
theorem bk_check : (checkF (bkD D)).2.2 = 0 := by
 have hV := (check_valid hc).1
 have hd : ∀ i (hi : i < (bkD D).dr.length), errD D.gl.length D.sp.length i (bkD D).dr[i] = 0 := fun i hi => by
  have hi' : i < D.dr.length := by simpa [bkD] using hi
  have hb := hV.dr i hi'
  have e : (bkD D).dr[i] = bkDr D.sp.length (rd_T72 D.dr (i : Int)) := by rw [← bk_dr hi', dr_at _ _ hi]
  rw [e]
  have hlt := revTo_lt (rd_T72 D.dr (i : Int)).f2.toNat D.sp.length
  refine errD_mk ⟨hb.1, ?_⟩ ⟨hb.2.2.1, hb.2.2.2.1⟩ ⟨?_, ?_⟩
  ·
   show (rd_T72 D.dr (i : Int)).f0 ≤ _; omega
  ·
   show (0 : Int) ≤ ((revTo _ _ : Nat) : Int); omega
  ·
   show ((revTo _ _ : Nat) : Int) ≤ _; omega
 have hs : (firstL (bkD D).sp 0 4 errP).2 = 0 := by
  have hl : (bkD D).sp.length = D.sp.length := List.length_reverse
  unfold firstL
  rw [hl, if_neg (by have := hV.s4; simp [outB]; omega), firstE_ok _ _ _ (fun i hi => by
   have hi' : i < D.sp.length := by rw [hl] at hi; exact hi
   have hb := hV.sp (D.sp.length - 1 - i) (by omega)
   have e : (bkD D).sp[i] = rd_T24 D.sp ((D.sp.length - 1 - i : Nat) : Int) := by rw [← bk_sp hi']; exact (sp_at _ _ hi).symm
   rw [e]
   unfold errP endsE
   rw [if_neg (by rw [outB_two]; exact fun x => x ⟨⟨hb.1, by omega⟩, ⟨by omega, hb.2.2.1⟩⟩), if_neg (by rw [outB_one]; exact fun x => x ⟨by omega, hb.2.2.2⟩)])]
 have hck := wdr_check (D := ⟨D.gl, D.lo, D.hi, (bkD D).sp, []⟩) (l := (bkD D).dr) (by
  unfold checkF at hc ⊢
  split at hc
  ·
   next h1 => exact absurd hc h1
  ·
   next h1 =>
   split at hc
   ·
    next h2 => exact absurd hc h2
   ·
    next h2 =>
    show (if (firstL D.gl 1 3 (errG D.gl)).2 ≠ 0 then _ else _ : Int × Int × Int).2.2 = 0
    rw [if_neg h1]
    show (if endsE D.lo D.hi 0 3 ≠ 0 then _ else _ : Int × Int × Int).2.2 = 0
    rw [if_neg h2]
    show (if (firstL (bkD D).sp 0 4 errP).2 ≠ 0 then _ else _ : Int × Int × Int).2.2 = 0
    rw [if_neg (fun x => x hs)]
    rfl) (by have := hV.d4; simp [bkD]; omega) (fun i hi => by
   have hl : (bkD D).sp.length = D.sp.length := List.length_reverse
   show errD D.gl.length (bkD D).sp.length i _ = 0
   rw [hl]; exact hd i hi)
 exact hck
theorem bk_seen (x : List Int) {g : Nat} (hg : g < D.gl.length) (y : Int) {i : Nat} (hi : i < D.sp.length) : seenB (fn x) g y i = seenB (fn (revT D.sp.length x)) g y (D.sp.length - 1 - i) := by
 have hV := (check_valid hc).1
 have hg3 := hV.g3
 have hs4 := hV.s4
 unfold seenB
 rw [fn_rev _ (by omega), fn_rev _ (by omega), fn_rev _ (by omega), rho_low (by omega), rho_low (by omega), rho_spot (by omega)]
 rw [show D.sp.length - 1 - (D.sp.length - 1 - i) = i by omega]
theorem bk_thr (x : List Int) {g : Nat} (hg : g < D.gl.length) {i : Nat} (hi : i < D.dr.length) : thrB (bkD D) (fn x) (bkDr D.sp.length (rd_T72 D.dr (i : Int))) g = thrB D (fn (revT D.sp.length x)) (rd_T72 D.dr (i : Int)) g := by
 have hV := (check_valid hc).1
 have hb := hV.dr i hi
 have hl : (bkD D).sp.length = D.sp.length := List.length_reverse
 obtain ⟨s, hs⟩ := Int.eq_ofNat_of_zero_le hb.2.2.2.2.1
 have hs2 : s < 2 ^ D.sp.length := by have := hb.2.2.2.2.2; rw [hs] at this; exact Int.ofNat_lt.1 this
 unfold thrB bkDr
 show (_ && _) = (_ && _)
 rw [hl]
 congr 1
 show (((seenTo (fn x) g (rd_T72 D.dr (i : Int)).f1 D.sp.length : Nat) : Int) == ((revTo (rd_T72 D.dr (i : Int)).f2.toNat D.sp.length : Nat) : Int)) = (((seenTo (fn (revT D.sp.length x)) g (rd_T72 D.dr (i : Int)).f1 D.sp.length : Nat) : Int) == (rd_T72 D.dr (i : Int)).f2)
 rw [hs, Int.toNat_natCast, Bool.eq_iff_iff, beq_iff_eq, beq_iff_eq]
 generalize (rd_T72 D.dr (i : Int)).f1 = y
 constructor
 ·
  intro h
  have h' : seenTo (fn x) g y D.sp.length = revTo s D.sp.length := Int.ofNat.inj h
  refine congrArg Int.ofNat (Nat.eq_of_testBit_eq fun j => ?_)
  rw [seenTo_testBit]
  by_cases hj : j < D.sp.length
  ·
   have h2 := congrArg (fun z => z.testBit (D.sp.length - 1 - j)) h'
   simp only [seenTo_testBit, revTo_testBit] at h2
   rw [decide_eq_true (by omega), Bool.true_and, Bool.true_and, bk_seen hc x hg y (by omega), show D.sp.length - 1 - (D.sp.length - 1 - j) = j by omega] at h2
   rw [decide_eq_true hj, Bool.true_and]; exact h2
  ·
   rw [decide_eq_false hj, Bool.false_and]
   exact (Nat.testBit_lt_two_pow (Nat.lt_of_lt_of_le hs2 (Nat.pow_le_pow_right (by decide) (by omega)))).symm
 ·
  intro h
  have h' : seenTo (fn (revT D.sp.length x)) g y D.sp.length = s := Int.ofNat.inj h
  refine congrArg Int.ofNat (Nat.eq_of_testBit_eq fun j => ?_)
  rw [seenTo_testBit, revTo_testBit]
  by_cases hj : j < D.sp.length
  ·
   rw [decide_eq_true hj, Bool.true_and, Bool.true_and, ← h', seenTo_testBit, decide_eq_true (by omega), Bool.true_and]
   exact bk_seen hc x hg y hj
  ·
   rw [decide_eq_false hj, Bool.false_and, Bool.false_and]
theorem bk_mem {x : List Int} (hx : x.length = 8) (but : Nat) : x ∈ truthsL (bkD D) but ↔ revT D.sp.length x ∈ truthsL D but := by
 have hV := (check_valid hc).1
 have hs4 := hV.s4
 have e0 : x ∈ truthsL (bkD D) but ↔ x ∈ prodL (spansL (bkD D)) ∧ soB (bkD D) but (fn x) = true := List.mem_filter
 have e1 : revT D.sp.length x ∈ truthsL D but ↔ revT D.sp.length x ∈ prodL (spansL D) ∧ soB D but (fn (revT D.sp.length x)) = true := List.mem_filter
 rw [e0, e1]
 have getS : ∀ (D : Dat) i, i < 8 → (spansL D).getD i (0, 0) = spanF D i := fun D i hi => by
  have : i < (spansL D).length := by rw [spansL_len]; exact hi
  rw [List.getD_eq_getElem?_getD, List.getElem?_eq_getElem this, Option.getD_some, spansL_get]
 have inP : ∀ (D : Dat) (z : List Int), z.length = 8 → (z ∈ prodL (spansL D) ↔ ∀ k, k < 8 → (spanF D k).1 ≤ fn z k ∧ fn z k ≤ (spanF D k).2) := fun D z hz => by
  constructor
  ·
   intro h k hk
   obtain ⟨hl, hh⟩ := mem_prodL _ _ h
   have h1 : k < (spansL D).length := by rw [spansL_len]; exact hk
   have := hh k h1 (by omega)
   rw [spansL_get] at this
   show (spanF D k).1 ≤ z.getD k 0 ∧ z.getD k 0 ≤ (spanF D k).2
   rw [List.getD_eq_getElem?_getD, List.getElem?_eq_getElem (by omega), Option.getD_some]
   exact this
  ·
   intro h
   refine prodL_mem (by rw [spansL_len]; exact hz) (fun i hi => ?_)
   rw [spansL_len] at hi
   rw [getS D i hi]; exact h i hi
 rw [inP _ _ hx, inP _ _ (rev_len _ _)]
 refine and_congr ?_ ?_
 ·
  constructor
  ·
   intro h k hk
   have := h (rho D.sp.length k) (rho_lt hs4 hk)
   rw [bk_span hV.g3, rho_rho] at this
   rw [fn_rev _ hk]; exact this
  ·
   intro h k hk
   have := h (rho D.sp.length k) (rho_lt hs4 hk)
   rw [fn_rev _ (rho_lt hs4 hk), rho_rho] at this
   rw [bk_span hV.g3]; exact this
 ·
  have hl : (bkD D).dr.length = D.dr.length := by simp [bkD]
  unfold soB soTo
  rw [hl, List.all_eq_true, List.all_eq_true]
  refine forall_congr' fun i => forall_congr' fun hi => ?_
  have hlt := List.mem_range.1 hi
  rw [bk_dr hlt]
  have e : soD (bkD D) (fn x) (bkDr D.sp.length (rd_T72 D.dr (i : Int))) D.gl.length = soD D (fn (revT D.sp.length x)) (rd_T72 D.dr (i : Int)) D.gl.length := by
   unfold soD
   rw [Bool.eq_iff_iff, List.any_eq_true, List.any_eq_true]
   refine exists_congr fun g => and_congr_right fun hg => ?_
   rw [bk_thr hc x (List.mem_range.1 hg) hlt]
  show (but.testBit i || soD (bkD D) (fn x) (bkDr D.sp.length (rd_T72 D.dr (i : Int))) D.gl.length) = true ↔ _
  rw [e]
theorem bk_some (but : Nat) : someT (bkD D) but = someT D but := by
 have hV := (check_valid hc).1
 have hV2 := (check_valid (bk_check hc)).1
 unfold someT
 congr 1
 rw [Bool.eq_iff_iff, List.isEmpty_iff, List.isEmpty_iff, List.eq_nil_iff_forall_not_mem, List.eq_nil_iff_forall_not_mem]
 constructor
 ·
  intro h x hx
  have h8 := (truth_in hV hx).2.2.1
  have := (bk_mem hc (rev_len D.sp.length x) but).2 (by rw [rev_rev hV.s4 h8]; exact hx)
  exact h _ this
 ·
  intro h x hx
  exact h _ ((bk_mem hc (truth_in hV2 hx).2.2.1 but).1 hx)
end
end Go.Proofs.Ytgoidclnccjdeaa.D
end
section
/- Package glass: spots told the other way round: what the program answers. -/
namespace Go.Proofs.Ytgoidclnccjdeaa.D
open Go Go.RowKit Go.Proofs.YtgoidclnccjdeaaK Go.Proofs.YtgoidclnccjdeaaW.PrintWords Go.Proofs.YtgoidclnccjdeaaW.PrintLast Go.Proofs.YtgoidclnccjdeaaW.PrintMore Go.Proofs.Ytgoidclnccjdeaa.PR Go.Proofs.Ytgoidclnccjdeaa.M
set_option linter.unusedVariables false
set_option linter.unusedSimpArgs false

theorem min_same {l l' : List (List Int)} {k k' : Nat} (h1 : ∀ x ∈ l, ∃ z ∈ l', fn z k' = fn x k) (h2 : ∀ z ∈ l', ∃ x ∈ l, fn x k = fn z k') : minF l k = minF l' k' ∧ maxF l k = maxF l' k' := by
 refine ⟨Int.le_antisymm ?_ ?_, Int.le_antisymm ?_ ?_⟩
 ·
  exact minF_lb (minF_61 _ _) (fun z hz => by obtain ⟨x, hx, e⟩ := h2 z hz; rw [← e]; exact minF_le hx)
 ·
  exact minF_lb (minF_61 _ _) (fun x hx => by obtain ⟨z, hz, e⟩ := h1 x hx; rw [← e]; exact minF_le hz)
 ·
  exact maxF_ub (maxF_m1 _ _) (fun x hx => by obtain ⟨z, hz, e⟩ := h1 x hx; rw [← e]; exact maxF_ge hz)
 ·
  exact maxF_ub (maxF_m1 _ _) (fun z hz => by obtain ⟨x, hx, e⟩ := h2 z hz; rw [← e]; exact maxF_ge hx)
theorem bk_enter {D : Dat} (hc : (checkF D).2.2 = 0) (l : List (Bool × Int)) : enterE (bkD D) l = enterE D l := by
 have h := bk_some hc 0
 unfold someT at h
 have h' : (truthsL (bkD D) 0).isEmpty = (truthsL D 0).isEmpty := by
  cases h1 : (truthsL (bkD D) 0).isEmpty <;> cases h2 : (truthsL D 0).isEmpty <;> rw [h1, h2] at h <;> simp at h ⊢
 unfold enterE
 rw [h', bk_check hc, hc]
section
variable {D : Dat} (hc : (checkF D).2.2 = 0)
include hc
theorem bk_to {x : List Int} (hx : x ∈ truthsL (bkD D) 0) : revT D.sp.length x ∈ truthsL D 0 :=
 (bk_mem hc (truth_in (check_valid (bk_check hc)).1 hx).2.2.1 0).1 hx
theorem bk_of {x : List Int} (hx : x ∈ truthsL D 0) : revT D.sp.length x ∈ truthsL (bkD D) 0 :=
 (bk_mem hc (rev_len _ _) 0).2 (by rw [rev_rev (check_valid hc).1.s4 (truth_in (check_valid hc).1 hx).2.2.1]; exact hx)
theorem bk_min {k : Nat} (hk : k < 8) : minF (truthsL (bkD D) 0) k = minF (truthsL D 0) (rho D.sp.length k) ∧ maxF (truthsL (bkD D) 0) k = maxF (truthsL D 0) (rho D.sp.length k) := by
 have hs4 := (check_valid hc).1.s4
 refine min_same (fun x hx => ⟨_, bk_to hc hx, ?_⟩) (fun z hz => ⟨_, bk_of hc hz, fn_rev _ hk⟩)
 rw [fn_rev _ (rho_lt hs4 hk), rho_rho]
theorem bk_hull {l l' : List (Bool × Int)} (hl : enterE D l = enterE D l') {k : Nat} (hk : k < 8) : hullF (bkD D) l k = hullF D l' (rho D.sp.length k) := by
 unfold hullF
 rw [bk_enter hc, hl, (bk_min hc hk).1, (bk_min hc hk).2]
theorem bk_sure {g : Nat} (hg : g < D.gl.length) (y : Int) {s : Nat} (hs : s < D.sp.length) : sureP (bkD D) g y s = sureP D g y (D.sp.length - 1 - s) := by
 unfold sureP
 rw [Bool.eq_iff_iff, List.all_eq_true, List.all_eq_true]
 constructor
 ·
  intro h x hx
  have := h _ (bk_of hc hx)
  rw [bk_seen hc _ hg y hs, rev_rev (check_valid hc).1.s4 (truth_in (check_valid hc).1 hx).2.2.1] at this
  exact this
 ·
  intro h x hx
  rw [bk_seen hc x hg y hs]
  exact h _ (bk_to hc hx)
theorem bk_may {g : Nat} (hg : g < D.gl.length) (y : Int) {s : Nat} (hs : s < D.sp.length) : mayP (bkD D) g y s = mayP D g y (D.sp.length - 1 - s) := by
 unfold mayP
 rw [Bool.eq_iff_iff, List.any_eq_true, List.any_eq_true]
 constructor
 ·
  rintro ⟨x, hx, h⟩
  rw [bk_seen hc x hg y hs] at h
  exact ⟨_, bk_to hc hx, h⟩
 ·
  rintro ⟨x, hx, h⟩
  refine ⟨_, bk_of hc hx, ?_⟩
  rw [bk_seen hc _ hg y hs, rev_rev (check_valid hc).1.s4 (truth_in (check_valid hc).1 hx).2.2.1]
  exact h
theorem bk_wrong : wrongF (bkD D) = wrongF D := by
 unfold wrongF
 have hl : (bkD D).dr.length = D.dr.length := by simp [bkD]
 rw [if_pos hc, if_pos (bk_check hc), wrongTo_eq, wrongTo_eq, hl]
 congr 2
 unfold wTo
 congr 2
 funext s set
 unfold wStep
 rw [bk_some hc]
end
theorem filter_rev_len (n : Nat) {P Q : Nat → Bool} (h : ∀ s, s < n → P s = Q (n - 1 - s)) : ((List.range n).filter P).length = ((List.range n).filter Q).length := by
 have e : (List.range n).reverse = (List.range n).map fun s => n - 1 - s := by
  refine List.ext_getElem (by simp) (fun i h1 h2 => ?_)
  simp only [List.length_reverse, List.length_range] at h1
  rw [List.getElem_reverse, List.getElem_map, List.getElem_range, List.getElem_range]
  simp
 have h1 : ((List.range n).filter Q).length = ((List.range n).reverse.filter Q).length := by rw [List.filter_reverse, List.length_reverse]
 rw [h1, e, List.filter_map, List.length_map]
 refine congrArg List.length (List.filter_congr fun s hs => ?_)
 rw [h s (List.mem_range.1 hs)]; rfl
end Go.Proofs.Ytgoidclnccjdeaa.D
end
section
/- Package glass: spots told the other way round: the rows of Sees. -/
namespace Go.Proofs.Ytgoidclnccjdeaa.D
open Go Go.RowKit Go.Proofs.YtgoidclnccjdeaaK Go.Proofs.YtgoidclnccjdeaaW.PrintWords Go.Proofs.YtgoidclnccjdeaaW.PrintLast Go.Proofs.YtgoidclnccjdeaaW.PrintMore Go.Proofs.Ytgoidclnccjdeaa.PR Go.Proofs.Ytgoidclnccjdeaa.M
set_option linter.unusedVariables false
set_option linter.unusedSimpArgs false

theorem bk_sees {D : Dat} (hc : (checkF D).2.2 = 0) {g : Nat} (hg : g < D.gl.length) (y : Int) {P1 P2 R1 R2 : List Nat} (h1 : seesF D (g : Int) y = (P1, P2)) (h2 : seesF (bkD D) (g : Int) y = (R1, R2)) :
  R1.length = P1.length ∧ R2.length = P2.length ∧ P1.length ≤ 4 ∧ P2.length ≤ 4 ∧ ∀ s, s < D.sp.length → hasB (ints R1) (D.sp.length - 1 - s) = hasB (ints P1) s ∧ hasB (ints R2) (D.sp.length - 1 - s) = hasB (ints P2) s := by
 have hs4 := (check_valid hc).1.s4
 have hl : (bkD D).sp.length = D.sp.length := List.length_reverse
 have hen : enterE (bkD D) (askSees (bkD D) (g : Int) y) = enterE D (askSees D (g : Int) y) := bk_enter hc _
 by_cases he : enterE D (askSees D (g : Int) y) = 0
 ·
  rw [seesF_eq he] at h1
  rw [seesF_eq (hen.trans he)] at h2
  obtain ⟨rfl, rfl⟩ := Prod.mk.inj h1
  obtain ⟨rfl, rfl⟩ := Prod.mk.inj h2
  unfold sureL mayL
  rw [hl]
  refine ⟨filter_rev_len _ (fun s hs => bk_sure hc hg y hs), filter_rev_len _ (fun s hs => bk_may hc hg y hs), Nat.le_trans (filter_len _ _) hs4, Nat.le_trans (filter_len _ _) hs4, fun s hs => ?_⟩
  rw [has_filter (by omega), has_filter hs, has_filter (by omega), has_filter hs, bk_sure hc hg y (by omega), bk_may hc hg y (by omega), show D.sp.length - 1 - (D.sp.length - 1 - s) = s by omega]
  exact ⟨rfl, rfl⟩
 ·
  unfold seesF at h1 h2
  rw [if_neg he] at h1
  rw [if_neg (by rw [hen]; exact he)] at h2
  obtain ⟨rfl, rfl⟩ := Prod.mk.inj h1
  obtain ⟨rfl, rfl⟩ := Prod.mk.inj h2
  exact ⟨rfl, rfl, by simp, by simp, fun s hs => ⟨rfl, rfl⟩⟩
theorem bk_size {D : Dat} (hc : (checkF D).2.2 = 0) {s : Nat} (hs : s < D.sp.length) :
  enterE (bkD D) [(amongB (bkD D).sp.length [((D.sp.length - 1 - s : Nat) : Int)], 4)] = enterE D [(amongB D.sp.length [(s : Int)], 4)] ∧
  hullF (bkD D) [(amongB (bkD D).sp.length [((D.sp.length - 1 - s : Nat) : Int)], 4)] (4 + (D.sp.length - 1 - s)) = hullF D [(amongB D.sp.length [(s : Int)], 4)] (4 + s) := by
 have hs4 := (check_valid hc).1.s4
 have hl : (bkD D).sp.length = D.sp.length := List.length_reverse
 have ha : amongB (bkD D).sp.length [((D.sp.length - 1 - s : Nat) : Int)] = amongB D.sp.length [(s : Int)] := by
  rw [hl]
  have e1 : amongB (D.sp.length : Int) [((D.sp.length - 1 - s : Nat) : Int)] = true := Bool.eq_iff_iff.2 ⟨fun _ => rfl, fun _ => by unfold amongB; simp [outB]; omega⟩
  have e2 : amongB (D.sp.length : Int) [(s : Int)] = true := Bool.eq_iff_iff.2 ⟨fun _ => rfl, fun _ => by unfold amongB; simp [outB]; omega⟩
  rw [e1, e2]
 rw [ha]
 refine ⟨bk_enter hc _, ?_⟩
 rw [bk_hull hc (l' := [(amongB D.sp.length [(s : Int)], 4)]) rfl (k := 4 + (D.sp.length - 1 - s)) (by omega), rho_spot (by omega), show D.sp.length - 1 - (D.sp.length - 1 - s) = s by omega]
end Go.Proofs.Ytgoidclnccjdeaa.D
end
section
/- Package glass: rows of drawings and of spans, copied by append. -/
namespace Go.Proofs.Ytgoidclnccjdeaa.D
open Go Go.RowKit Go.Proofs.YtgoidclnccjdeaaK Go.Proofs.YtgoidclnccjdeaaW.PrintWords Go.Proofs.YtgoidclnccjdeaaW.PrintLast Go.Proofs.YtgoidclnccjdeaaW.PrintMore Go.Proofs.Ytgoidclnccjdeaa.PR Go.Proofs.Ytgoidclnccjdeaa.M
set_option linter.unusedVariables false
set_option linter.unusedSimpArgs false
theorem cell3 {w : World} {b : Nat} {cs : Array Value} {t : TypeId} (h : w.heap[b]? = some (.cells cs t (0, 0))) (i : Nat) {v : Value} (hv : cs[i]? = some v) : w.cell? ((⟨b, 0, none⟩ : Addr).add i) = some v := by
 have hadd : (⟨b, 0, none⟩ : Addr).add i = ⟨b, i, none⟩ := by unfold Addr.add; split <;> simp_all
 rw [hadd, cell_of_row w b i cs t (0, 0) h]; exact hv
def encP (x : Sp) : List Value := [.int .i64 x.f0, .int .i64 x.f1]
def encR (x : Dr) : List Value := [.int .i64 x.f0, .int .i64 x.f1, .int .i64 x.f2]
theorem infoDr : ∃ i, Try.prog.info? 72 = some i ∧ i.zero = some (.agg #[(.int .i64 0), (.int .i64 0), (.int .i64 0)]) ∧ i.size = 3 ∧ i.bytes = 24 := by
 have h : (Try.prog.info? 72).map (fun i => (i.zero, i.size, i.bytes)) = some (some (.agg #[(.int .i64 0), (.int .i64 0), (.int .i64 0)]), 3, 24) := by kernel_rfl
 cases hi : Try.prog.info? 72 with
 | none => rw [hi] at h; cases h
 | some i => rw [hi] at h; simp at h; exact ⟨i, rfl, h.1, h.2.1, h.2.2⟩
theorem infoSp : ∃ i, Try.prog.info? 24 = some i ∧ i.zero = some (.agg #[(.int .i64 0), (.int .i64 0)]) ∧ i.size = 2 ∧ i.bytes = 16 := by
 have h : (Try.prog.info? 24).map (fun i => (i.zero, i.size, i.bytes)) = some (some (.agg #[(.int .i64 0), (.int .i64 0)]), 2, 16) := by kernel_rfl
 cases hi : Try.prog.info? 24 with
 | none => rw [hi] at h; cases h
 | some i => rw [hi] at h; simp at h; exact ⟨i, rfl, h.1, h.2.1, h.2.2⟩
theorem encP_one (x : Sp) : ∀ u ∈ encP x, u.oneCell' = true := by simp [encP, Value.oneCell']
theorem encR_one (x : Dr) : ∀ u ∈ encR x, u.oneCell' = true := by simp [encR, Value.oneCell']
theorem own_form {w : World} {base e sz n k : Nat} {v : Value} {cs : List Value} (h : w.ownsRow base e sz v n cs) (hk : v.ownBlock = some k) : ∃ c, v = .slice (some ⟨k, 0, none⟩) n c := by
 rcases h.2 with ⟨rfl, _⟩ | ⟨g, cap, cur, rfl, _⟩
 ·
  simp [Value.ownBlock] at hk
 ·
  simp [Value.ownBlock] at hk
  subst hk
  exact ⟨_, rfl⟩
theorem append_spans {w : World} {base ty g m c0 k0 : Nat} {ys : List Sp} (hm : m = ys.length) (hown : w.ownsRow base 24 2 (.slice (some ⟨g, 0, none⟩) m c0) ys.length (ys.flatMap encP)) {A : Option Addr} {c n : Nat} {xs : List Sp} (hx : n = xs.length)
  (h : Kd.C k24 w A xs.length xs) (hk0 : k0 = ys.length + xs.length) (hn : (ys.length + xs.length) * 16 ≤ 140737488355328) (hbase : base ≤ w.heap.size) :
  ∃ g' c' w', (Builtin.append_ #[25, 25] ty #[.slice (some ⟨g, 0, none⟩) m c0, .slice A n c]).run Try.prog w = .ok (.slice (some ⟨g', 0, none⟩) k0 c') w' ∧ base ≤ g' ∧ w'.ownsRow base 24 2 (.slice (some ⟨g', 0, none⟩) k0 c') (ys ++ xs).length ((ys ++ xs).flatMap encP) ∧ Below base w w' ∧ w.grownBy w' (some g) := by
 subst hm hx hk0
 obtain ⟨i, hi, hz, hs, hb⟩ := infoSp
 obtain ⟨v', w', hr, ho, hg, hb'⟩ := append_row (ty := ty) (d := k24) (enc := encP) (fun w x cs hK => k24_open hK) (fun _ => rfl) encP_one Try.underlying25 hi hz hs hb rfl (by decide) (by decide) hown h hn hbase (fun hA => by
  have hx0 := C_some h hA
  have hle := own_le hown
  rw [hx0]
  exact append_none (z := .int .i64 0) Try.underlying25 hi g _ c0 c hle)
 obtain ⟨k, hk⟩ : ∃ k, v'.ownBlock = some k := by rcases hb' with e | e <;> exact ⟨_, e⟩
 obtain ⟨c', rfl⟩ := own_form ho hk
 rw [List.length_append] at hr ho
 refine ⟨k, c', w', hr, own_base ho k rfl, by rw [List.length_append]; exact ho, (Below.refl base w).grown hg hbase (fun k' e => own_base hown k' e), hg⟩
theorem append_drs {w : World} {base ty g m c0 k0 : Nat} {ys : List Dr} (hm : m = ys.length) (hown : w.ownsRow base 72 3 (.slice (some ⟨g, 0, none⟩) m c0) ys.length (ys.flatMap encR)) {A : Option Addr} {c n : Nat} {xs : List Dr} (hx : n = xs.length)
  (h : Kd.C k72 w A xs.length xs) (hk0 : k0 = ys.length + xs.length) (hn : (ys.length + xs.length) * 24 ≤ 140737488355328) (hbase : base ≤ w.heap.size) :
  ∃ g' c' w', (Builtin.append_ #[26, 26] ty #[.slice (some ⟨g, 0, none⟩) m c0, .slice A n c]).run Try.prog w = .ok (.slice (some ⟨g', 0, none⟩) k0 c') w' ∧ base ≤ g' ∧ w'.ownsRow base 72 3 (.slice (some ⟨g', 0, none⟩) k0 c') (ys ++ xs).length ((ys ++ xs).flatMap encR) ∧ Below base w w' ∧ w.grownBy w' (some g) := by
 subst hm hx hk0
 obtain ⟨i, hi, hz, hs, hb⟩ := infoDr
 obtain ⟨v', w', hr, ho, hg, hb'⟩ := append_row (ty := ty) (d := k72) (enc := encR) (fun w x cs hK => k72_open hK) (fun _ => rfl) encR_one Try.underlying26 hi hz hs hb rfl (by decide) (by decide) hown h hn hbase (fun hA => by
  have hx0 := C_some h hA
  have hle := own_le hown
  rw [hx0]
  exact append_none (z := .int .i64 0) Try.underlying26 hi g _ c0 c hle)
 obtain ⟨k, hk⟩ : ∃ k, v'.ownBlock = some k := by rcases hb' with e | e <;> exact ⟨_, e⟩
 obtain ⟨c', rfl⟩ := own_form ho hk
 rw [List.length_append] at hr ho
 refine ⟨k, c', w', hr, own_base ho k rfl, by rw [List.length_append]; exact ho, (Below.refl base w).grown hg hbase (fun k' e => own_base hown k' e), hg⟩
theorem step_spans {ops : Array Oper} {o : Oper} {a : Act} {W : World} {K : Act → World → Prop} {Q : Exit → Act → World → Prop} {E : Prop} {base g m c0 c n k0 : Nat} {A : Option Addr} {ys xs : List Sp} (hgd : o.guard = none) (s x : Operand)
  (ho : o.op = .call { callee := .builtin .append, args := #[s, x], argTypes := #[25, 25] }) (hs : a.eval s = .slice (some ⟨g, 0, none⟩) m c0) (hx : a.eval x = .slice A n c) (hm : m = ys.length) (hn : n = xs.length) (hk0 : k0 = ys.length + xs.length)
  (hown : W.ownsRow base 24 2 (.slice (some ⟨g, 0, none⟩) m c0) ys.length (ys.flatMap encP)) (hC : Kd.C k24 W A xs.length xs) (hl : (ys.length + xs.length) * 16 ≤ 140737488355328) (hb : base ≤ W.heap.size)
  (hk : ∀ g' c' w', base ≤ g' → w'.ownsRow base 24 2 (.slice (some ⟨g', 0, none⟩) k0 c') (ys ++ xs).length ((ys ++ xs).flatMap encP) → Below base W w' → W.grownBy w' (some g) → K (a.put o.dst (.slice (some ⟨g', 0, none⟩) k0 c')) w') :
  if Region.wanted o (yielded ops a.tmps) = true then Oper.wp Try.prog o a W K Q else E := by
 obtain ⟨g', c', w', hr, h1, h2, h3, h4⟩ := append_spans (ty := o.type) hm hown hn hC hk0 hl hb
 exact step_run (R := fun v' w'' => v' = .slice (some ⟨g', 0, none⟩) k0 c' ∧ w'' = w') hgd s x 25 ho hs hx ⟨_, _, hr, rfl, rfl⟩ (fun v' w'' ⟨e1, e2⟩ => by subst e1 e2; exact hk g' c' _ h1 h2 h3 h4)
theorem step_drs {ops : Array Oper} {o : Oper} {a : Act} {W : World} {K : Act → World → Prop} {Q : Exit → Act → World → Prop} {E : Prop} {base g m c0 c n k0 : Nat} {A : Option Addr} {ys xs : List Dr} (hgd : o.guard = none) (s x : Operand)
  (ho : o.op = .call { callee := .builtin .append, args := #[s, x], argTypes := #[26, 26] }) (hs : a.eval s = .slice (some ⟨g, 0, none⟩) m c0) (hx : a.eval x = .slice A n c) (hm : m = ys.length) (hn : n = xs.length) (hk0 : k0 = ys.length + xs.length)
  (hown : W.ownsRow base 72 3 (.slice (some ⟨g, 0, none⟩) m c0) ys.length (ys.flatMap encR)) (hC : Kd.C k72 W A xs.length xs) (hl : (ys.length + xs.length) * 24 ≤ 140737488355328) (hb : base ≤ W.heap.size)
  (hk : ∀ g' c' w', base ≤ g' → w'.ownsRow base 72 3 (.slice (some ⟨g', 0, none⟩) k0 c') (ys ++ xs).length ((ys ++ xs).flatMap encR) → Below base W w' → W.grownBy w' (some g) → K (a.put o.dst (.slice (some ⟨g', 0, none⟩) k0 c')) w') :
  if Region.wanted o (yielded ops a.tmps) = true then Oper.wp Try.prog o a W K Q else E := by
 obtain ⟨g', c', w', hr, h1, h2, h3, h4⟩ := append_drs (ty := o.type) hm hown hn hC hk0 hl hb
 exact step_run (R := fun v' w'' => v' = .slice (some ⟨g', 0, none⟩) k0 c' ∧ w'' = w') hgd s x 26 ho hs hx ⟨_, _, hr, rfl, rfl⟩ (fun v' w'' ⟨e1, e2⟩ => by subst e1 e2; exact hk g' c' _ h1 h2 h3 h4)
theorem spans_read {w : World} {base : Nat} {v : Value} {xs : List Sp} (h : w.ownsRow base 24 2 v xs.length (xs.flatMap encP)) (hn : xs.length ≤ 9223372036854775807) : ∃ A c, v = .slice A xs.length c ∧ xs.length ≤ c ∧ Kd.C k24 w A xs.length xs :=
 row_read (d := k24) (enc := encP) (fun w x => k24_mk w x) (fun _ => rfl) h hn
theorem drs_read {w : World} {base : Nat} {v : Value} {xs : List Dr} (h : w.ownsRow base 72 3 v xs.length (xs.flatMap encR)) (hn : xs.length ≤ 9223372036854775807) : ∃ A c, v = .slice A xs.length c ∧ xs.length ≤ c ∧ Kd.C k72 w A xs.length xs :=
 row_read (d := k72) (enc := encR) (fun w x => k72_mk w x) (fun _ => rfl) h hn
theorem C_one_span {w : World} {g : Nat} (x : Sp) (h : w.heap[g]? = some (.cells #[.int .i64 x.f0, .int .i64 x.f1] 24 (0, 0))) : Kd.C k24 w (some ⟨g, 0, none⟩) [x].length [x] := by
 refine ⟨rfl, by simp, fun _ => ⟨_, rfl, fun j p hj => ?_⟩⟩
 have hj5 : j < 1 := (List.getElem?_eq_some_iff.1 hj).1
 obtain rfl : j = 0 := by omega
 cases hj; refine ⟨_, rfl, k24_mk w _, fun i u hu => ?_⟩
 have hi := (List.getElem?_eq_some_iff.1 hu).1; simp at hi; have hh : i = 0 ∨ i = 1 := by omega
 rcases hh with rfl | rfl <;> cases hu <;> exact cell3 h _ rfl
theorem C_one_dr {w : World} {g : Nat} (x : Dr) (h : w.heap[g]? = some (.cells #[.int .i64 x.f0, .int .i64 x.f1, .int .i64 x.f2] 72 (0, 0))) : Kd.C k72 w (some ⟨g, 0, none⟩) [x].length [x] := by
 refine ⟨rfl, by simp, fun _ => ⟨_, rfl, fun j p hj => ?_⟩⟩
 have hj5 : j < 1 := (List.getElem?_eq_some_iff.1 hj).1
 obtain rfl : j = 0 := by omega
 cases hj; refine ⟨_, rfl, k72_mk w _, fun i u hu => ?_⟩
 have hi := (List.getElem?_eq_some_iff.1 hu).1; simp at hi; have hh : i = 0 ∨ i = 1 ∨ i = 2 := by omega
 rcases hh with rfl | rfl | rfl <;> cases hu <;> exact cell3 h _ rfl
theorem spans_C {w : World} {base n c : Nat} {A : Option Addr} {xs : List Sp} (h : w.ownsRow base 24 2 (.slice A n c) xs.length (xs.flatMap encP)) (hn : xs.length ≤ 9223372036854775807) : Kd.C k24 w A xs.length xs := by
 obtain ⟨A1, c1, e, _, h2⟩ := spans_read h hn; cases e; exact h2
theorem drs_C {w : World} {base n c : Nat} {A : Option Addr} {xs : List Dr} (h : w.ownsRow base 72 3 (.slice A n c) xs.length (xs.flatMap encR)) (hn : xs.length ≤ 9223372036854775807) : Kd.C k72 w A xs.length xs := by
 obtain ⟨A1, c1, e, _, h2⟩ := drs_read h hn; cases e; exact h2
end Go.Proofs.Ytgoidclnccjdeaa.D
end
section
/- Package glass: GlassOrder. -/
namespace Go.Proofs.Ytgoidclnccjdeaa.D
open Go Go.RowKit Go.Proofs.YtgoidclnccjdeaaK Go.Proofs.YtgoidclnccjdeaaW.PrintWords Go.Proofs.YtgoidclnccjdeaaW.PrintLast Go.Proofs.YtgoidclnccjdeaaW.PrintMore Go.Proofs.Ytgoidclnccjdeaa.PR Go.Proofs.Ytgoidclnccjdeaa.M
set_option linter.unusedVariables false
set_option linter.unusedSimpArgs false

theorem own_mono {w : World} {b b' e sz n : Nat} {v : Value} {xs : List Value} (h : w.ownsRow b e sz v n xs) (hb : b' ≤ b) : w.ownsRow b' e sz v n xs := by
 refine ⟨h.1, ?_⟩
 rcases h.2 with h1 | ⟨g, cap, cur, e1, e2, r⟩
 ·
  exact .inl h1
 ·
  exact .inr ⟨g, cap, cur, e1, Nat.le_trans hb e2, r⟩
theorem own_keep {w0 w : World} {b e sz n : Nat} {v : Value} {xs : List Value} (h : w0.ownsRow b e sz v n xs) (hk : Keep b w0 w) : w.ownsRow b e sz v n xs := by
 refine ⟨h.1, ?_⟩
 rcases h.2 with h1 | ⟨g, cap, cur, e1, e2, e3, r⟩
 ·
  exact .inl h1
 ·
  exact .inr ⟨g, cap, cur, e1, e2, (hk.same g e2 (blk_lt e3)).trans e3, r⟩

set_option maxRecDepth 100000 in
set_option maxHeartbeats 16000000 in
theorem GlassOrder_calls (D : Dat) (A0 : Option Addr) (c0 : Nat) (A3 : Option Addr) (c3 : Nat) (A4 : Option Addr) (c4 : Nat) (x0 x1 : Int) (w : World) (h : Arg w D A0 c0 A3 c3 A4 c4) (hx0 : 0 ≤ x0 ∧ x0 ≤ 255) (hx1 : 0 ≤ x1 ∧ x1 ≤ 255) :
  Calls Try.prog 16 #[.agg (D.cells A0 c0 A3 c3 A4 c4), .agg #[.int .u8 x0, .int .u8 x1]] w
   fun e w' => e = .returned (.bool true) ∧ Below w.heap.size w w' := by
 have HS := Aside0.mk (blk_alloc (blk_new w (.cells (D.cells A0 c0 A3 c3 A4 c4) 28)) (.cells #[.int .u8 x0, .int .u8 x1] 65))
 have HX := Aside0.mk (new_at (W := (w.alloc (.cells (D.cells A0 c0 A3 c3 A4 c4) 28))) (n := w.heap.size + 1) (by simp) (.cells #[.int .u8 x0, .int .u8 x1] 65))
 have HB := Aside0.mk (below_alloc (below_alloc (Below.refl w.heap.size w) (.cells (D.cells A0 c0 A3 c3 A4 c4) 28)) (.cells #[.int .u8 x0, .int .u8 x1] 65))
 have HA := Aside0.mk h
 have HBD := Aside0.mk (And.intro hx0 hx1)
 clear hx0 hx1
 obtain ⟨K1, hK1⟩ := (rValid h.fits).rounds
 clear h
 obtain ⟨q, hq⟩ : ∃ q, w.heap.size = q := ⟨_, rfl⟩
 have HK1 := Aside0.mk hK1
 go_enter Try.func16, Try.ntmps16
 go_upto_region 1 with (fail)
 generalize (w.alloc (.cells (D.cells A0 c0 A3 c3 A4 c4) 28)).alloc (.cells #[.int .u8 x0, .int .u8 x1] 65) = w1 at HS HX HB ⊢
 rw [hq] at HS HX
 try rw [hq]
 have HQQ := Aside0.mk hq
 obtain ⟨cv, hcv⟩ : ∃ z, ((checkF D).2.2 == 0) = z := ⟨_, rfl⟩
 rw [hcv] at HK1
 have ECV := Aside0.mk hcv
 clear hcv hK1
 have k0 := (blk_cell HS.out 0).trans rfl
 have k1 := (blk_cell HS.out 1).trans rfl
 have k2 := (blk_cell HS.out 2).trans rfl
 have k3 := (blk_cell HS.out 3).trans rfl
 have k4 := (blk_cell HS.out 4).trans rfl
 have kl := blk_lt HS.out
 have y0 := (blk_cell HX.out 0).trans rfl
 have y1 := (blk_cell HX.out 1).trans rfl
 have yl := blk_lt HX.out
 go_wp2_with fail
 clear k0 k1 k2 k3 k4 kl y0 y1 yl
 have hA := HA.out.below HB.out
 refine (helioscopelaw07_valid.calls K1 A0 c0 D.gl D.lo D.hi A3 c3 D.sp A4 c4 D.dr _ w1 hA.g hA.gc hA.s hA.sc hA.d hA.dc HK1.out).mono ?_
 clear hA
 rintro e w2 ⟨rfl, hb⟩
 replace HB := Aside0.mk (HB.out.trans (hb.mono HB.out.size))
 replace HS := Aside0.mk (blk_below HS.out hb)
 replace HX := Aside0.mk (blk_below HX.out hb)
 clear hb HK1
 cases cv
 ·
  go_wp2_with fail
  refine (Awake_calls _).mono ?_
  rintro e wA ⟨rfl, hb⟩
  replace HB := Aside0.mk (HB.out.trans (hb.mono HB.out.size))
  clear hb
  go_wp2
  go_ret
  exact ⟨rfl, by first | exact HB.out | (rw [← hq]; exact HB.out)⟩
 ·
  have hc : (checkF D).2.2 = 0 := by have := ECV.out; simpa using this
  have HC := Aside0.mk hc
  have HV := Aside0.mk (check_valid hc).1
  clear hc
  have hg1 := HV.out.g1
  have hg3 := HV.out.g3
  have hs4 := HV.out.s4
  have hd4 := HV.out.d4
  have k0 := (blk_cell HS.out 0).trans rfl
  have k1 := (blk_cell HS.out 1).trans rfl
  have k2 := (blk_cell HS.out 2).trans rfl
  have k3 := (blk_cell HS.out 3).trans rfl
  have k4 := (blk_cell HS.out 4).trans rfl
  have kl := blk_lt HS.out
  go_upto_region 5 with (fail)
  clear k0 k1 k2 k3 k4 kl
  have hb : Below w2.heap.size w2 (w2.alloc (.cells (D.cells A0 c0 A3 c3 A4 c4) 28)) := below_alloc (Below.refl _ _) _
  have n1 := Aside0.mk (blk_new w2 (.cells (D.cells A0 c0 A3 c3 A4 c4) 28))
  have hqM : Aside0 (q + 1 < w2.heap.size) := ⟨blk_lt HX.out⟩
  have hzM : Aside0 (w.heap.size ≤ w2.heap.size) := ⟨HB.out.size⟩
  have hsM : Aside0 ((w2.alloc (.cells (D.cells A0 c0 A3 c3 A4 c4) 28)).heap.size = w2.heap.size + 1) := ⟨by simp⟩
  replace HB := Aside0.mk (HB.out.trans (hb.mono HB.out.size))
  replace HS := Aside0.mk (blk_below HS.out hb)
  replace HX := Aside0.mk (blk_below HX.out hb)
  clear hb
  obtain ⟨M, hM⟩ : ∃ b, w2.heap.size = b := ⟨_, rfl⟩
  rw [hM] at n1 hqM hzM hsM ⊢
  generalize (w2.alloc (.cells (D.cells A0 c0 A3 c3 A4 c4) 28)) = w3 at HB n1 HS HX hsM ⊢
  clear hM
  have HM := n1
  clear n1
  have m0 := (blk_cell HM.out 0).trans rfl
  have m1 := (blk_cell HM.out 1).trans rfl
  have m2 := (blk_cell HM.out 2).trans rfl
  have m3 := (blk_cell HM.out 3).trans rfl
  have m4 := (blk_cell HM.out 4).trans rfl
  have ml := blk_lt HM.out
  have mf3 := blk_frozen HM.out 3
  have mf4 := blk_frozen HM.out 4
  go_upto_region 6 with (fail)
  clear m0 m1 m2 m3 m4 ml mf3 mf4
  have n1 := Aside0.mk (blk_far (p := ⟨M, 4, none⟩) (blk_far (p := ⟨M, 3, none⟩) HS.out (show q ≠ M from by have := hqM.out; omega) (.slice none 0 0)) (show q ≠ M from by have := hqM.out; omega) (.slice none 0 0))
  have n2 := Aside0.mk (blk_far (p := ⟨M, 4, none⟩) (blk_far (p := ⟨M, 3, none⟩) HX.out (show q + 1 ≠ M from by have := hqM.out; omega) (.slice none 0 0)) (show q + 1 ≠ M from by have := hqM.out; omega) (.slice none 0 0))
  have n3 := Aside0.mk (blk_set (blk_set HM.out 3 (.slice none 0 0)) 4 (.slice none 0 0))
  have n4 : Aside0 (Below w.heap.size w ((w3.setCell ⟨M, 3, none⟩ (.slice none 0 0)).setCell ⟨M, 4, none⟩ (.slice none 0 0))) := ⟨below_set (below_set HB.out hzM.out) hzM.out⟩
  have n5 : Aside0 (((w3.setCell ⟨M, 3, none⟩ (.slice none 0 0)).setCell ⟨M, 4, none⟩ (.slice none 0 0)).heap.size = M + 1) := ⟨by simpa [World.setCell] using hsM.out⟩
  clear HS HX HM HB hsM
  generalize (w3.setCell ⟨M, 3, none⟩ (.slice none 0 0)).setCell ⟨M, 4, none⟩ (.slice none 0 0) = w4 at n1 n2 n3 n4 n5 ⊢
  have HS := n1
  have HX := n2
  have HM : Aside0 (w4.heap[M]? = some (.cells #[.slice A0 D.gl.length c0, .int .i64 D.lo, .int .i64 D.hi, (.slice none 0 0), (.slice none 0 0)] 28 (0, 0))) := n3
  have HB := n4
  have HSZ := n5
  clear n1 n2 n3 n4 n5
  have hw1 : IntKind.i64.wrap ((D.sp.length : Int) - 1) = (D.sp.length : Int) - 1 := wrapI (by omega) (by omega)
  go_wp2_with fail
  clear hw1
  go_loopw [7] (fun j wr => ∃ (k : Nat) (A : Option Addr) (c : Nat), k ≤ D.sp.length ∧ j = .int .i64 ((k : Int) - 1) ∧ Aside0 (Below w.heap.size w wr) ∧ Aside0 (wr.heap[q]? = some (.cells (D.cells A0 c0 A3 c3 A4 c4) 28 (0, 0))) ∧ Aside0 (wr.heap[q + 1]? = some (.cells #[.int .u8 x0, .int .u8 x1] 65 (0, 0))) ∧ Aside0 (wr.heap[M]? = some (.cells #[.slice A0 D.gl.length c0, .int .i64 D.lo, .int .i64 D.hi, .slice A (D.sp.length - k) c, .slice none 0 0] 28 (0, 0))) ∧ Aside0 (wr.ownsRow (M + 1) 24 2 (.slice A (D.sp.length - k) c) (D.sp.length - k) ((D.sp.drop k).reverse.flatMap encP)) ∧ Aside0 (M + 1 ≤ wr.heap.size)) (fun j _ => (intOf j + 1).toNat)
  case atStart => exact ⟨D.sp.length, none, 0, Nat.le_refl _, rfl, HB, HS, HX, ⟨by rw [Nat.sub_self]; exact HM.out⟩, ⟨by rw [Nat.sub_self, List.drop_length]; exact ⟨rfl, .inl ⟨rfl, rfl⟩⟩⟩, ⟨by rw [HSZ.out]; exact Nat.le_refl _⟩⟩
  case round =>
   clear HB HS HX HM HSZ
   obtain ⟨k, A, c, hk, rfl, HB, HS, HX, HM, HO, HSZ⟩ := hrel
   by_cases hk0 : k = 0
   ·
    subst hk0
    rw [show ((0 : Nat) : Int) - 1 = -1 from rfl]
    simp only [Nat.sub_zero, List.drop_zero] at HM HO
    generalize wr = wA at HB HS HX HM HO HSZ ⊢
    have HSP := HO
    clear HO
    have k0 := (blk_cell HS.out 0).trans rfl
    have k1 := (blk_cell HS.out 1).trans rfl
    have k2 := (blk_cell HS.out 2).trans rfl
    have k3 := (blk_cell HS.out 3).trans rfl
    have k4 := (blk_cell HS.out 4).trans rfl
    have kl := blk_lt HS.out
    go_wp2_with fail
    clear k0 k1 k2 k3 k4 kl
    go_loopw [8] (fun j wr => ∃ (k : Nat) (R : Option Addr) (cR : Nat), k ≤ D.dr.length ∧ j = .int .i64 (k : Int) ∧ Aside0 (Below w.heap.size w wr) ∧ Aside0 (wr.heap[q]? = some (.cells (D.cells A0 c0 A3 c3 A4 c4) 28 (0, 0))) ∧ Aside0 (wr.heap[q + 1]? = some (.cells #[.int .u8 x0, .int .u8 x1] 65 (0, 0))) ∧ Aside0 (wr.heap[M]? = some (.cells #[.slice A0 D.gl.length c0, .int .i64 D.lo, .int .i64 D.hi, .slice A D.sp.length c, .slice R k cR] 28 (0, 0))) ∧ Aside0 (wr.ownsRow wA.heap.size 72 3 (.slice R k cR) k (((D.dr.take k).map (bkDr D.sp.length)).flatMap encR)) ∧ Aside0 (Keep (M + 1) wA wr)) (fun j _ => D.dr.length - (intOf j).toNat)
    case atStart => exact ⟨0, none, 0, Nat.zero_le _, rfl, HB, HS, HX, HM, ⟨⟨rfl, .inl ⟨rfl, rfl⟩⟩⟩, ⟨Keep.refl _ _⟩⟩
    case round =>
     clear HB HS HX HM
     obtain ⟨k, R, cR, hk, rfl, HB, HS, HX, HM, HO, HKP⟩ := hrel
     generalize wr = w100 at HB HS HX HM HO HKP ⊢
     by_cases hlt : k < D.dr.length
     ·
      obtain ⟨a4, hA4, e0, e1, e2⟩ := at_T72 HA.out.d (k : Int) (by omega) (by omega)
      rw [Int.toNat_natCast] at e0 e1 e2
      subst hA4
      have hdv := HV.out.dr k hlt
      obtain ⟨Z, hZ⟩ : ∃ z, rd_T72 D.dr (k : Int) = z := ⟨_, rfl⟩
      rw [hZ] at e0 e1 e2 hdv
      obtain ⟨s, hs⟩ := Int.eq_ofNat_of_zero_le hdv.2.2.2.2.1
      have hs2 : s < 2 ^ D.sp.length := by have := hdv.2.2.2.2.2; rw [hs] at this; exact Int.ofNat_lt.1 this
      have hs256 : s < 256 := Nat.lt_of_lt_of_le hs2 (Nat.le_trans (Nat.pow_le_pow_right (by decide) hs4) (by decide))
      rw [hs] at e2
      have HZD := Aside0.mk hZ
      have HZS := Aside0.mk hs
      clear hdv hZ hs hs2
      have e0' := cell_below e0 HB.out
      have e1' := cell_below e1 HB.out
      have e2' := cell_below e2 HB.out
      clear e0 e1 e2
      have q1 : (0 ≤ (k : Int)) = True := eq_true (by omega)
      have q2 : ((k : Int) < (D.dr.length : Int)) = True := eq_true (by omega)
      have k0 := (blk_cell HS.out 0).trans rfl
      have k1 := (blk_cell HS.out 1).trans rfl
      have k2 := (blk_cell HS.out 2).trans rfl
      have k3 := (blk_cell HS.out 3).trans rfl
      have k4 := (blk_cell HS.out 4).trans rfl
      have kl := blk_lt HS.out
      go_upto_region 14 with (fail)
      clear k0 k1 k2 k3 k4 kl e0' e1' e2' q1 q2
      have hb : Below w100.heap.size w100 (w100.alloc (.cells #[.int .i64 Z.f0, .int .i64 Z.f1, .int .i64 (s : Int)] 72)) := below_alloc (Below.refl _ _) _
      have n1 := Aside0.mk (blk_new w100 (.cells #[.int .i64 Z.f0, .int .i64 Z.f1, .int .i64 (s : Int)] 72))
      have HK2 : Aside0 (Keep wA.heap.size w100 w100) := ⟨Keep.refl _ _⟩
      have hPA : Aside0 (wA.heap.size ≤ w100.heap.size) := ⟨HKP.out.size⟩
      have hPw : Aside0 (w.heap.size ≤ w100.heap.size) := ⟨HB.out.size⟩
      replace HB := Aside0.mk (HB.out.trans (hb.mono HB.out.size))
      replace HS := Aside0.mk (blk_below HS.out hb)
      replace HX := Aside0.mk (blk_below HX.out hb)
      replace HM := Aside0.mk (blk_below HM.out hb)
      replace HKP := Aside0.mk (HKP.out.below hb)
      replace HK2 := Aside0.mk (HK2.out.below hb)
      clear hb
      obtain ⟨P, hP⟩ : ∃ b, w100.heap.size = b := ⟨_, rfl⟩
      rw [hP] at n1 hPA hPw ⊢
      generalize (w100.alloc (.cells #[.int .i64 Z.f0, .int .i64 Z.f1, .int .i64 (s : Int)] 72)) = w101 at HB n1 HS HX HM HKP HK2 ⊢
      have hPP := Aside0.mk hP
      clear hP
      have HP := n1
      clear n1
      go_wp2_with fail
      go_loopw [10, 11] (fun b j wr => ∃ (m : Nat), m ≤ D.sp.length ∧ b = .int .i64 ((revTo s m : Nat) : Int) ∧ j = .int .i64 (m : Int) ∧ Aside0 (Below w101.heap.size w101 wr)) (fun _ j _ => D.sp.length - (intOf j).toNat)
      case atStart => exact ⟨0, Nat.zero_le _, rfl, rfl, ⟨Below.refl _ _⟩⟩
      case round =>
       obtain ⟨m, hm, rfl, rfl, HR⟩ := hrel
       by_cases hltm : m < D.sp.length
       ·
        have HPr := Aside0.mk (blk_below HP.out HR.out)
        have hrl := revTo_lt s m
        have hr16 : revTo s m < 16 := Nat.lt_of_lt_of_le hrl (Nat.pow_le_pow_right (by decide) (show m ≤ 4 by omega))
        have HRV : Aside0 (revTo s (m + 1) = 2 * revTo s m + if s.testBit m = true then 1 else 0) := ⟨rfl⟩
        obtain ⟨r, hr⟩ : ∃ r, revTo s m = r := ⟨_, rfl⟩
        rw [hr] at hr16 HRV ⊢
        clear hrl hr
        have hw2 : IntKind.i64.wrap (2 * (r : Int)) = 2 * (r : Int) := wrapI (by omega) (by omega)
        have hw3 : IntKind.i64.wrap (2 * (r : Int) + 1) = 2 * (r : Int) + 1 := wrapI (by omega) (by omega)
        have hw4 : IntKind.i64.wrap ((m : Int) + 1) = (m : Int) + 1 := wrapI (by omega) (by omega)
        have p0 := (blk_cell HPr.out 0).trans rfl
        have p1 := (blk_cell HPr.out 1).trans rfl
        have p2 := (blk_cell HPr.out 2).trans rfl
        have pl := blk_lt HPr.out
        by_cases hbit : s.testBit m = true
        ·
         have HBT : Aside0 (r1_Bit.f 10 (s : Int) (m : Int) = some true) := ⟨by rw [rBit hs256 (by omega)]; rw [hbit]⟩
         have HE : Aside0 (((revTo s (m + 1) : Nat) : Int) = 2 * (r : Int) + 1) := ⟨by rw [HRV.out, if_pos hbit]; omega⟩
         clear hbit HRV
         go_wp2_with fail
         refine (r1_Bit.calls 10 _ _ true _ HBT.out).mono ?_
         rintro e w' ⟨rfl, ⟨nd, rfl⟩⟩
         go_wp2_with fail
         go_roundw
         case rel =>
          refine ⟨m + 1, by omega, ?_, ?_, ⟨pw_below_drewN HR.out _⟩⟩
          ·
           rw [HE.out]
          ·
           go_num
         case measure => simp [intOf]; omega
        ·
         have HBT : Aside0 (r1_Bit.f 10 (s : Int) (m : Int) = some false) := ⟨by rw [rBit hs256 (by omega)]; simpa using hbit⟩
         have HE : Aside0 (((revTo s (m + 1) : Nat) : Int) = 2 * (r : Int)) := ⟨by rw [HRV.out, if_neg hbit]; omega⟩
         clear hbit HRV
         go_wp2_with fail
         refine (r1_Bit.calls 10 _ _ false _ HBT.out).mono ?_
         rintro e w' ⟨rfl, ⟨nd, rfl⟩⟩
         go_wp2_with fail
         go_roundw
         case rel =>
          refine ⟨m + 1, by omega, ?_, ?_, ⟨pw_below_drewN HR.out _⟩⟩
          ·
           rw [HE.out]
          ·
           go_num
         case measure => simp [intOf]; omega
       ·
        obtain rfl : m = D.sp.length := by omega
        have hb := HR.out
        clear HR
        replace HB := Aside0.mk (HB.out.trans (hb.mono HB.out.size))
        replace HS := Aside0.mk (blk_below HS.out hb)
        replace HX := Aside0.mk (blk_below HX.out hb)
        replace HM := Aside0.mk (blk_below HM.out hb)
        replace HKP := Aside0.mk (HKP.out.below hb)
        replace HK2 := Aside0.mk (HK2.out.below hb)
        replace HP := Aside0.mk (blk_below HP.out hb)
        clear hb
        generalize wr = w102 at HB HS HX HM HKP HK2 HP ⊢
        have p0 := (blk_cell HP.out 0).trans rfl
        have p1 := (blk_cell HP.out 1).trans rfl
        have p2 := (blk_cell HP.out 2).trans rfl
        have pl := blk_lt HP.out
        have pf2 := blk_frozen HP.out 2
        go_upto_region 22 with (fail)
        clear p0 p1 p2 pl pf2
        have hlq := hqM.out
        have hlp := hPA.out
        have hls := HSZ.out
        have n1 := Aside0.mk (blk_far (p := ⟨P, 2, none⟩) HS.out (show q ≠ P by omega) (.int .i64 ((revTo s D.sp.length : Nat) : Int)))
        have n2 := Aside0.mk (blk_far (p := ⟨P, 2, none⟩) HX.out (show q + 1 ≠ P by omega) (.int .i64 ((revTo s D.sp.length : Nat) : Int)))
        have n3 := Aside0.mk (blk_far (p := ⟨P, 2, none⟩) HM.out (show M ≠ P by omega) (.int .i64 ((revTo s D.sp.length : Nat) : Int)))
        have n4 := Aside0.mk (blk_set HP.out 2 (.int .i64 ((revTo s D.sp.length : Nat) : Int)))
        have n5 : Aside0 (Below w.heap.size w (w102.setCell ⟨P, 2, none⟩ (.int .i64 ((revTo s D.sp.length : Nat) : Int)))) := ⟨below_set HB.out hPw.out⟩
        have n6 : Aside0 (Keep (M + 1) wA (w102.setCell ⟨P, 2, none⟩ (.int .i64 ((revTo s D.sp.length : Nat) : Int)))) := ⟨HKP.out.set (.inr hPA.out) _⟩
        have n7 : Aside0 (Keep wA.heap.size w100 (w102.setCell ⟨P, 2, none⟩ (.int .i64 ((revTo s D.sp.length : Nat) : Int)))) := ⟨HK2.out.set (.inr (Nat.le_of_eq hPP.out)) _⟩
        clear HS HX HM HB HKP HK2 HP
        generalize (w102.setCell ⟨P, 2, none⟩ (.int .i64 ((revTo s D.sp.length : Nat) : Int))) = w103 at n1 n2 n3 n4 n5 n6 n7 ⊢
        obtain ⟨Z2, hZ2⟩ : ∃ z : Dr, z = ⟨Z.f0, Z.f1, ((revTo s D.sp.length : Nat) : Int)⟩ := ⟨_, rfl⟩
        have HZ2 := Aside0.mk hZ2
        have HS := n1
        have HX := n2
        have HM := n3
        have HP : Aside0 (w103.heap[P]? = some (.cells #[.int .i64 Z2.f0, .int .i64 Z2.f1, .int .i64 Z2.f2] 72 (0, 0))) := ⟨by rw [hZ2]; exact n4.out⟩
        have HB := n5
        have HKP := n6
        have HK2 := n7
        clear n1 n2 n3 n4 n5 n6 n7 hZ2
        obtain ⟨ys, hys⟩ : ∃ ys, (D.dr.take k).map (bkDr D.sp.length) = ys := ⟨_, rfl⟩
        have hyl : k = ys.length := by rw [← hys]; simp; omega
        have hO := own_keep HO.out HK2.out
        rw [hys] at hO
        have HYS := Aside0.mk hys
        have HYL := Aside0.mk hyl
        have hMk : w103.heap[M]? = some (.cells #[.slice A0 D.gl.length c0, .int .i64 D.lo, .int .i64 D.hi, .slice A D.sp.length c, .slice R ys.length cR] 28 (0, 0)) := by rw [← hyl]; exact HM.out
        clear HM
        have HM := Aside0.mk hMk
        have hO2 : w103.ownsRow wA.heap.size 72 3 (.slice R ys.length cR) ys.length (ys.flatMap encR) := by rw [← hyl]; exact hO
        have HROW := Aside0.mk (drs_C hO2 (by omega))
        have hyy : ys.length ≤ 4 := by omega
        clear hO hO2 hMk hys hyl
        refine region_puts' (X := Nat × Nat × Nat × Nat × Nat × Nat) (fun x => [(88, (.slice (some ⟨x.1, 0, none⟩) 0 0)), (89, (.pointer (some ⟨M, 4, none⟩))), (90, (.slice R ys.length cR)), (91, (.slice (some ⟨x.2.1, 0, none⟩) ys.length x.2.2.1)), (92, (.agg #[.int .i64 Z2.f0, .int .i64 Z2.f1, .int .i64 Z2.f2])), (93, (.slice (some ⟨x.2.2.2.1, 0, none⟩) 1 1)), (94, (.slice (some ⟨x.2.2.2.2.1, 0, none⟩) (ys.length + 1) x.2.2.2.2.2)), (95, (.pointer (some ⟨M, 4, none⟩)))]) (fun x w' => ∃ w0, w' = w0.setCell ⟨M, 4, none⟩ (.slice (some ⟨x.2.2.2.2.1, 0, none⟩) (ys.length + 1) x.2.2.2.2.2) ∧ Below w103.heap.size w103 w0 ∧ w0.ownsRow w103.heap.size 72 3 (.slice (some ⟨x.2.2.2.2.1, 0, none⟩) (ys.length + 1) x.2.2.2.2.2) (ys ++ [Z2]).length ((ys ++ [Z2]).flatMap encR)) ?_ ?_
        ·
         have hb0 : Below w103.heap.size w103 w103.drew := below_drew1 (Below.refl _ _)
         have B0 := Aside0.mk hb0
         clear hb0
         refine wp_region_G (List.range 8) (S := fun w' : World => w'.cell? ⟨M, 4, none⟩ = some (.slice R ys.length cR) ∧ w'.cell? ⟨P, 0, none⟩ = some (.int .i64 Z2.f0) ∧ w'.cell? ⟨P, 1, none⟩ = some (.int .i64 Z2.f1) ∧ w'.cell? ⟨P, 2, none⟩ = some (.int .i64 Z2.f2)) (by kernel_rfl) ⟨(blk_cell (blk_below HM.out B0.out) 4).trans rfl, (blk_cell (blk_below HP.out B0.out) 0).trans rfl, (blk_cell (blk_below HP.out B0.out) 1).trans rfl, (blk_cell (blk_below HP.out B0.out) 2).trans rfl⟩ (fun hHeld => ?_)
         generalize w103.drew = v0 at B0 hHeld ⊢
         refine takeG 1 ?_
         refine takeG 2 ?_
         refine takeG 4 ?_
         refine wpAnyG_two (i := 0) (j := 5) (by kernel_rfl) rfl rfl (fun K hK => ?_) (fun K hK => ?_)
         ·
          go_simp
          clear hHeld
          obtain ⟨g0, hg⟩ : ∃ a, v0.heap.size = a := ⟨_, rfl⟩
          try rw [hg]
          refine named (fun w' : World => Below w103.heap.size w103 w' ∧ (w'.ownsRow w103.heap.size 72 3 (.slice (some ⟨g0, 0, none⟩) 0 0) 0 [] ∧ g0 < w'.heap.size)) ⟨below_alloc B0.out _, ⟨by rw [← hg]; exact own_new0 B0.out.size, by rw [← hg]; simp⟩⟩ ?_
          rintro v1 ⟨h0, h1⟩
          have B1 := Aside0.mk h0
          have n1 := Aside0.mk h1
          clear hg h0 h1
          have O1 := n1
          clear n1
          refine hK.out _ _ ⟨(blk_cell (blk_below HM.out B1.out) 4).trans rfl, (blk_cell (blk_below HP.out B1.out) 0).trans rfl, (blk_cell (blk_below HP.out B1.out) 1).trans rfl, (blk_cell (blk_below HP.out B1.out) 2).trans rfl⟩ (by trivial) (fun hHeld _ => ?_)
          clear hK K
          refine putG ?_
          refine wpAnyG_two (i := 3) (j := 5) (by kernel_rfl) rfl rfl (fun K hK => ?_) (fun K hK => ?_)
          ·
           refine step_drs (base := w103.heap.size) (ys := []) (xs := ys) (k0 := ys.length) rfl (.tmp 88) (.tmp 90) rfl rfl rfl rfl rfl (by simp) O1.out.1 (Kd.C_below HROW.out B1.out) (by simp; omega) B1.out.size ?_
           intro g3 k3 v2 hg3 ho3 hz3 hr3
           have B2 := Aside0.mk (B1.out.trans hz3)
           have O3 := Aside0.mk ho3
           clear hg3 ho3 hz3 hr3 hHeld
           refine hK.out _ _ ⟨(blk_cell (blk_below HM.out B2.out) 4).trans rfl, (blk_cell (blk_below HP.out B2.out) 0).trans rfl, (blk_cell (blk_below HP.out B2.out) 1).trans rfl, (blk_cell (blk_below HP.out B2.out) 2).trans rfl⟩ (by trivial) (fun hHeld _ => ?_)
           clear hK K
           refine putG ?_
           refine wpAnyG_only (i := 5) (by kernel_rfl) rfl (fun K hK => ?_)
           go_simp
           clear hHeld
           obtain ⟨g9, hg⟩ : ∃ a, v2.heap.size = a := ⟨_, rfl⟩
           try rw [hg]
           refine named (fun w' : World => Below w103.heap.size w103 w' ∧ (w'.heap[g9]? = some (.cells #[.int .i64 Z2.f0, .int .i64 Z2.f1, .int .i64 Z2.f2] 72 (0, 0)) ∧ True) ∧ w'.ownsRow w103.heap.size 72 3 (.slice (some ⟨g3, 0, none⟩) ys.length k3) ys.length (ys.flatMap encR)) ⟨below_alloc B2.out _, ⟨by rw [← hg]; exact blk_new _ _, trivial⟩, pw_own_below O3.out (below_alloc (Below.refl _ _) _)⟩ ?_
           rintro v3 ⟨h0, h1, h2⟩
           have B3 := Aside0.mk h0
           have n1 := Aside0.mk h1
           have n2 := Aside0.mk h2
           clear hg h0 h1 h2
           have L9 := n1
           clear n1
           have O3 := n2
           clear n2
           refine hK.out _ _ ⟨(blk_cell (blk_below HM.out B3.out) 4).trans rfl, (blk_cell (blk_below HP.out B3.out) 0).trans rfl, (blk_cell (blk_below HP.out B3.out) 1).trans rfl, (blk_cell (blk_below HP.out B3.out) 2).trans rfl⟩ (by trivial) (fun hHeld _ => ?_)
           clear hK K
           refine putG ?_
           refine wpAnyG_only (i := 6) (by kernel_rfl) rfl (fun K hK => ?_)
           refine step_drs (base := w103.heap.size) (ys := ys) (xs := [Z2]) (n := 1) (k0 := ys.length + 1) rfl (.tmp 91) (.tmp 93) rfl rfl rfl rfl rfl (by simp) O3.out (C_one_dr Z2 L9.out.1) (by simp; omega) B3.out.size ?_
           intro g10 k10 v4 hg10 ho10 hz10 hr10
           have B4 := Aside0.mk (B3.out.trans hz10)
           have O10 := Aside0.mk ho10
           clear hg10 ho10 hz10 hr10 hHeld
           refine hK.out _ _ ⟨(blk_cell (blk_below HM.out B4.out) 4).trans rfl, (blk_cell (blk_below HP.out B4.out) 0).trans rfl, (blk_cell (blk_below HP.out B4.out) 1).trans rfl, (blk_cell (blk_below HP.out B4.out) 2).trans rfl⟩ (by trivial) (fun hHeld _ => ?_)
           clear hK K
           refine putG ?_
           refine takeG 7 ?_
           have m3 := (blk_cell (blk_below HM.out B4.out) 4).trans rfl
           have mf := blk_frozen (blk_below HM.out B4.out) 4
           have ml := blk_lt (blk_below HM.out B4.out)
           refine wpAnyG_last (i := 8) (by kernel_rfl) rfl (by kernel_rfl) (by kernel_rfl) (fun K hK => ?_)
           go_simp
           refine hK.out _ _ ?_
           clear hK K
           refine doneG ?_
           refine ⟨(g0, g3, k3, g9, g10, k10), ?_, _, rfl, B4.out, O10.out⟩
           simp only [putL, List.foldl, Act.put, List.getElem_toArray, List.getElem_cons_zero, List.getElem_cons_succ, List.setIfInBounds_toArray, List.set_cons_zero, List.set_cons_succ]
          ·
           go_simp
           clear hHeld
           obtain ⟨g9, hg⟩ : ∃ a, v1.heap.size = a := ⟨_, rfl⟩
           try rw [hg]
           refine named (fun w' : World => Below w103.heap.size w103 w' ∧ (w'.heap[g9]? = some (.cells #[.int .i64 Z2.f0, .int .i64 Z2.f1, .int .i64 Z2.f2] 72 (0, 0)) ∧ g0 ≠ g9) ∧ (w'.ownsRow w103.heap.size 72 3 (.slice (some ⟨g0, 0, none⟩) 0 0) 0 [] ∧ g0 < w'.heap.size)) ⟨below_alloc B1.out _, ⟨by rw [← hg]; exact blk_new _ _, by have := O1.out.2; omega⟩, ⟨pw_own_below O1.out.1 (below_alloc (Below.refl _ _) _), by have := O1.out.2; simp; omega⟩⟩ ?_
           rintro v5 ⟨h0, h1, h2⟩
           have B5 := Aside0.mk h0
           have n1 := Aside0.mk h1
           have n2 := Aside0.mk h2
           clear hg h0 h1 h2
           have L9 := n1
           clear n1
           have O1 := n2
           clear n2
           refine hK.out _ _ ⟨(blk_cell (blk_below HM.out B5.out) 4).trans rfl, (blk_cell (blk_below HP.out B5.out) 0).trans rfl, (blk_cell (blk_below HP.out B5.out) 1).trans rfl, (blk_cell (blk_below HP.out B5.out) 2).trans rfl⟩ (by trivial) (fun hHeld _ => ?_)
           clear hK K
           refine putG ?_
           refine wpAnyG_only (i := 3) (by kernel_rfl) rfl (fun K hK => ?_)
           refine step_drs (base := w103.heap.size) (ys := []) (xs := ys) (k0 := ys.length) rfl (.tmp 88) (.tmp 90) rfl rfl rfl rfl rfl (by simp) O1.out.1 (Kd.C_below HROW.out B5.out) (by simp; omega) B5.out.size ?_
           intro g3 k3 v6 hg3 ho3 hz3 hr3
           have B6 := Aside0.mk (B5.out.trans hz3)
           have O3 := Aside0.mk ho3
           have n9 := Aside0.mk (And.intro ((hr3.block g9 (blk_lt L9.out.1) (fun e => L9.out.2 (Option.some.inj e).symm)).trans L9.out.1) L9.out.2)
           have L9 := n9
           clear n9 hg3 ho3 hz3 hr3 hHeld
           refine hK.out _ _ ⟨(blk_cell (blk_below HM.out B6.out) 4).trans rfl, (blk_cell (blk_below HP.out B6.out) 0).trans rfl, (blk_cell (blk_below HP.out B6.out) 1).trans rfl, (blk_cell (blk_below HP.out B6.out) 2).trans rfl⟩ (by trivial) (fun hHeld _ => ?_)
           clear hK K
           refine putG ?_
           refine wpAnyG_only (i := 6) (by kernel_rfl) rfl (fun K hK => ?_)
           refine step_drs (base := w103.heap.size) (ys := ys) (xs := [Z2]) (n := 1) (k0 := ys.length + 1) rfl (.tmp 91) (.tmp 93) rfl rfl rfl rfl rfl (by simp) O3.out (C_one_dr Z2 L9.out.1) (by simp; omega) B6.out.size ?_
           intro g10 k10 v7 hg10 ho10 hz10 hr10
           have B7 := Aside0.mk (B6.out.trans hz10)
           have O10 := Aside0.mk ho10
           clear hg10 ho10 hz10 hr10 hHeld
           refine hK.out _ _ ⟨(blk_cell (blk_below HM.out B7.out) 4).trans rfl, (blk_cell (blk_below HP.out B7.out) 0).trans rfl, (blk_cell (blk_below HP.out B7.out) 1).trans rfl, (blk_cell (blk_below HP.out B7.out) 2).trans rfl⟩ (by trivial) (fun hHeld _ => ?_)
           clear hK K
           refine putG ?_
           refine takeG 7 ?_
           have m3 := (blk_cell (blk_below HM.out B7.out) 4).trans rfl
           have mf := blk_frozen (blk_below HM.out B7.out) 4
           have ml := blk_lt (blk_below HM.out B7.out)
           refine wpAnyG_last (i := 8) (by kernel_rfl) rfl (by kernel_rfl) (by kernel_rfl) (fun K hK => ?_)
           go_simp
           refine hK.out _ _ ?_
           clear hK K
           refine doneG ?_
           refine ⟨(g0, g3, k3, g9, g10, k10), ?_, _, rfl, B7.out, O10.out⟩
           simp only [putL, List.foldl, Act.put, List.getElem_toArray, List.getElem_cons_zero, List.getElem_cons_succ, List.setIfInBounds_toArray, List.set_cons_zero, List.set_cons_succ]
         ·
          go_simp
          clear hHeld
          obtain ⟨g9, hg⟩ : ∃ a, v0.heap.size = a := ⟨_, rfl⟩
          try rw [hg]
          refine named (fun w' : World => Below w103.heap.size w103 w' ∧ (w'.heap[g9]? = some (.cells #[.int .i64 Z2.f0, .int .i64 Z2.f1, .int .i64 Z2.f2] 72 (0, 0)) ∧ True)) ⟨below_alloc B0.out _, ⟨by rw [← hg]; exact blk_new _ _, trivial⟩⟩ ?_
          rintro v8 ⟨h0, h1⟩
          have B8 := Aside0.mk h0
          have n1 := Aside0.mk h1
          clear hg h0 h1
          have L9 := n1
          clear n1
          refine hK.out _ _ ⟨(blk_cell (blk_below HM.out B8.out) 4).trans rfl, (blk_cell (blk_below HP.out B8.out) 0).trans rfl, (blk_cell (blk_below HP.out B8.out) 1).trans rfl, (blk_cell (blk_below HP.out B8.out) 2).trans rfl⟩ (by trivial) (fun hHeld _ => ?_)
          clear hK K
          refine putG ?_
          refine wpAnyG_only (i := 0) (by kernel_rfl) rfl (fun K hK => ?_)
          go_simp
          clear hHeld
          obtain ⟨g0, hg⟩ : ∃ a, v8.heap.size = a := ⟨_, rfl⟩
          try rw [hg]
          refine named (fun w' : World => Below w103.heap.size w103 w' ∧ (w'.ownsRow w103.heap.size 72 3 (.slice (some ⟨g0, 0, none⟩) 0 0) 0 [] ∧ g0 < w'.heap.size) ∧ (w'.heap[g9]? = some (.cells #[.int .i64 Z2.f0, .int .i64 Z2.f1, .int .i64 Z2.f2] 72 (0, 0)) ∧ g0 ≠ g9)) ⟨below_alloc B8.out _, ⟨by rw [← hg]; exact own_new0 B8.out.size, by rw [← hg]; simp⟩, ⟨blk_alloc L9.out.1 _, by have := blk_lt L9.out.1; omega⟩⟩ ?_
          rintro v9 ⟨h0, h1, h2⟩
          have B9 := Aside0.mk h0
          have n1 := Aside0.mk h1
          have n2 := Aside0.mk h2
          clear hg h0 h1 h2
          have O1 := n1
          clear n1
          have L9 := n2
          clear n2
          refine hK.out _ _ ⟨(blk_cell (blk_below HM.out B9.out) 4).trans rfl, (blk_cell (blk_below HP.out B9.out) 0).trans rfl, (blk_cell (blk_below HP.out B9.out) 1).trans rfl, (blk_cell (blk_below HP.out B9.out) 2).trans rfl⟩ (by trivial) (fun hHeld _ => ?_)
          clear hK K
          refine putG ?_
          refine wpAnyG_only (i := 3) (by kernel_rfl) rfl (fun K hK => ?_)
          refine step_drs (base := w103.heap.size) (ys := []) (xs := ys) (k0 := ys.length) rfl (.tmp 88) (.tmp 90) rfl rfl rfl rfl rfl (by simp) O1.out.1 (Kd.C_below HROW.out B9.out) (by simp; omega) B9.out.size ?_
          intro g3 k3 v10 hg3 ho3 hz3 hr3
          have B10 := Aside0.mk (B9.out.trans hz3)
          have O3 := Aside0.mk ho3
          have n9 := Aside0.mk (And.intro ((hr3.block g9 (blk_lt L9.out.1) (fun e => L9.out.2 (Option.some.inj e).symm)).trans L9.out.1) L9.out.2)
          have L9 := n9
          clear n9 hg3 ho3 hz3 hr3 hHeld
          refine hK.out _ _ ⟨(blk_cell (blk_below HM.out B10.out) 4).trans rfl, (blk_cell (blk_below HP.out B10.out) 0).trans rfl, (blk_cell (blk_below HP.out B10.out) 1).trans rfl, (blk_cell (blk_below HP.out B10.out) 2).trans rfl⟩ (by trivial) (fun hHeld _ => ?_)
          clear hK K
          refine putG ?_
          refine wpAnyG_only (i := 6) (by kernel_rfl) rfl (fun K hK => ?_)
          refine step_drs (base := w103.heap.size) (ys := ys) (xs := [Z2]) (n := 1) (k0 := ys.length + 1) rfl (.tmp 91) (.tmp 93) rfl rfl rfl rfl rfl (by simp) O3.out (C_one_dr Z2 L9.out.1) (by simp; omega) B10.out.size ?_
          intro g10 k10 v11 hg10 ho10 hz10 hr10
          have B11 := Aside0.mk (B10.out.trans hz10)
          have O10 := Aside0.mk ho10
          clear hg10 ho10 hz10 hr10 hHeld
          refine hK.out _ _ ⟨(blk_cell (blk_below HM.out B11.out) 4).trans rfl, (blk_cell (blk_below HP.out B11.out) 0).trans rfl, (blk_cell (blk_below HP.out B11.out) 1).trans rfl, (blk_cell (blk_below HP.out B11.out) 2).trans rfl⟩ (by trivial) (fun hHeld _ => ?_)
          clear hK K
          refine putG ?_
          refine takeG 7 ?_
          have m3 := (blk_cell (blk_below HM.out B11.out) 4).trans rfl
          have mf := blk_frozen (blk_below HM.out B11.out) 4
          have ml := blk_lt (blk_below HM.out B11.out)
          refine wpAnyG_last (i := 8) (by kernel_rfl) rfl (by kernel_rfl) (by kernel_rfl) (fun K hK => ?_)
          go_simp
          refine hK.out _ _ ?_
          clear hK K
          refine doneG ?_
          refine ⟨(g0, g3, k3, g9, g10, k10), ?_, _, rfl, B11.out, O10.out⟩
          simp only [putL, List.foldl, Act.put, List.getElem_toArray, List.getElem_cons_zero, List.getElem_cons_succ, List.setIfInBounds_toArray, List.set_cons_zero, List.set_cons_succ]
        ·
         rintro ⟨g0, g3, k3, g9, g10, k10⟩ w' ⟨w0, rfl, hz0, ho⟩
         simp only [putL, List.foldl, Act.put, List.getElem_toArray, List.getElem_cons_zero, List.getElem_cons_succ, List.setIfInBounds_toArray, List.set_cons_zero, List.set_cons_succ] at hz0 ho ⊢
         have hKs := HKP.out.size
         have n1 := Aside0.mk (blk_far (p := ⟨M, 4, none⟩) (blk_below HS.out hz0) (show q ≠ M by omega) (.slice (some ⟨g10, 0, none⟩) (ys.length + 1) k10))
         have n2 := Aside0.mk (blk_far (p := ⟨M, 4, none⟩) (blk_below HX.out hz0) (show q + 1 ≠ M by omega) (.slice (some ⟨g10, 0, none⟩) (ys.length + 1) k10))
         have n3 := Aside0.mk (blk_set (blk_below HM.out hz0) 4 (.slice (some ⟨g10, 0, none⟩) (ys.length + 1) k10))
         have n4 : Aside0 (Below w.heap.size w (w0.setCell ⟨M, 4, none⟩ (.slice (some ⟨g10, 0, none⟩) (ys.length + 1) k10))) := ⟨below_set (HB.out.trans (hz0.mono HB.out.size)) hzM.out⟩
         have hye : (D.dr.take (k + 1)).map (bkDr D.sp.length) = ys ++ [Z2] := by rw [List.take_succ_eq_append_getElem hlt, List.map_append, HYS.out, ← dr_at _ _ hlt, HZD.out, HZ2.out]; simp only [List.map_cons, List.map_nil, bkDr, HZS.out, Int.toNat_natCast]
         have hle : k + 1 = ys.length + 1 := by rw [HYL.out]
         have n5 : Aside0 ((w0.setCell ⟨M, 4, none⟩ (.slice (some ⟨g10, 0, none⟩) (ys.length + 1) k10)).ownsRow wA.heap.size 72 3 (.slice (some ⟨g10, 0, none⟩) (ys.length + 1) k10) (k + 1) (((D.dr.take (k + 1)).map (bkDr D.sp.length)).flatMap encR)) := ⟨by rw [hye, hle]; rw [List.length_append] at ho; exact own_far (own_mono ho hKs) (p := ⟨M, 4, none⟩) (show M < wA.heap.size by omega) _⟩
         have n6 : Aside0 (Keep (M + 1) wA (w0.setCell ⟨M, 4, none⟩ (.slice (some ⟨g10, 0, none⟩) (ys.length + 1) k10))) := ⟨(HKP.out.below hz0).set (.inl (Nat.lt_succ_self M)) _⟩
         rw [← hle] at n1 n2 n3 n4 n5 n6 ⊢
         generalize w0.setCell ⟨M, 4, none⟩ (.slice (some ⟨g10, 0, none⟩) (k + 1) k10) = w9 at n1 n2 n3 n4 n5 n6 ⊢
         clear HS HX HM HB HO HKP HK2 HP HROW hz0 ho hye hle hKs hyy hlq hlp hls
         go_wp2_with fail
         go_roundw
         case rel => exact ⟨k + 1, some ⟨g10, 0, none⟩, k10, by omega, by go_num, n4, n1, n2, n3, n5, n6⟩
         case measure => simp [intOf]; omega
     ·
      obtain rfl : k = D.dr.length := by omega
      rw [List.take_length] at HO
      obtain ⟨A1, c1, e1, hcs, hCs⟩ := spans_read (xs := D.sp.reverse) (by rw [List.length_reverse]; exact own_keep HSP.out HKP.out) (by simp; omega)
      obtain ⟨rfl, -, rfl⟩ := Value.slice.inj e1
      clear e1
      obtain ⟨A2, c2, e2, hcd, hCd⟩ := drs_read (xs := D.dr.map (bkDr D.sp.length)) (by rw [List.length_map]; exact HO.out) (by simp; omega)
      obtain ⟨rfl, -, rfl⟩ := Value.slice.inj e2
      clear e2
      obtain ⟨D2, hD2⟩ : ∃ D2, D2 = bkD D := ⟨_, rfl⟩
      have HA2 : Aside0 (Arg w100 D2 A0 c0 A c R cR) := ⟨by rw [hD2]; exact ⟨(HA.out.below HB.out).g, HA.out.gc, HA.out.gn, hCs, hcs, hCd, hcd⟩⟩
      have hM2 : Aside0 (w100.heap[M]? = some (.cells (D2.cells A0 c0 A c R cR) 28 (0, 0))) := ⟨by rw [hD2, show (bkD D).cells A0 c0 A c R cR = #[.slice A0 D.gl.length c0, .int .i64 D.lo, .int .i64 D.hi, .slice A D.sp.length c, .slice R D.dr.length cR] from by simp [Dat.cells, bkD]]; exact HM.out⟩
      clear HM
      have HM := hM2
      have HD2 := Aside0.mk hD2
      have HCK2 : Aside0 ((checkF D2).2.2 = 0) := ⟨by rw [hD2]; exact bk_check HC.out⟩
      clear hM2 hD2 hCs hcs hCd hcd HO HKP HSP HSZ hlt hk
      have HAB := Aside0.mk (Below.refl w100.heap.size w100)
      have k0 := (blk_cell HS.out 0).trans rfl
      have k1 := (blk_cell HS.out 1).trans rfl
      have k2 := (blk_cell HS.out 2).trans rfl
      have k3 := (blk_cell HS.out 3).trans rfl
      have k4 := (blk_cell HS.out 4).trans rfl
      have kl := blk_lt HS.out
      have y0' : w100.drew.cell? ⟨q + 1, 0, none⟩ = some (.int .u8 x0) := (blk_cell HX.out 0).trans rfl
      have y1' : w100.drew.cell? ⟨q + 1, 1, none⟩ = some (.int .u8 x1) := (blk_cell HX.out 1).trans rfl
      have yl := blk_lt HX.out
      have hw0 : IntKind.i64.wrap x0 = x0 := wrapI (by have := HBD.out; omega) (by have := HBD.out; omega)
      have hw1 : IntKind.i64.wrap x1 = x1 := wrapI (by have := HBD.out; omega) (by have := HBD.out; omega)
      have hnz : ¬ ((D.gl.length : Int) = 0) := by omega
      have hnz1 : ((D.gl.length : Int) == 0) = false := beq_eq_false_iff_ne.2 hnz
      have hnz2 : ¬ (D.gl.length = 0) := by omega
      go_upto_region 23 with (fail)
      go_region_held3 (fun w' => w'.cell? ⟨q + 1, 0, none⟩ = some (.int .u8 x0) ∧ w'.cell? ⟨q + 1, 1, none⟩ = some (.int .u8 x1) ∧ w'.cell? ⟨q, 0, none⟩ = some (.slice A0 D.gl.length c0)) (refine ⟨?_, ?_, ?_⟩ <;> assumption) (fail)
      obtain ⟨g, hg', eg⟩ := tmodN x0 (D.gl.length : Int) HBD.out.1.1 (by omega)
      obtain ⟨yr, hyr, ey⟩ := tmodN x1 10 HBD.out.2.1 (by omega)
      rw [eg, ey]
      clear k0 k1 k2 k3 k4 kl eg ey y0' y1' yl hw0 hw1 hnz hnz1 hnz2 HX
      have hg : g < D.gl.length := by omega
      clear hg'
      have HY9 := Aside0.mk hyr
      clear hyr
      have hb : Below w100.heap.size w100 w100.drew := below_drew1 (Below.refl _ _)
      replace HB := Aside0.mk (HB.out.trans (hb.mono HB.out.size))
      replace HS := Aside0.mk (blk_below HS.out hb)
      replace HM := Aside0.mk (blk_below HM.out hb)
      replace HAB := Aside0.mk (HAB.out.trans (hb.mono HAB.out.size))
      clear hb
      generalize w100.drew = w101 at HB HS HM HAB ⊢
      obtain ⟨en, hen⟩ : ∃ z, enterE D (askSees D (g : Int) (yr : Int)) = z := ⟨_, rfl⟩
      have hen2 : enterE D2 (askSees D2 (g : Int) (yr : Int)) = en := by rw [HD2.out, ← hen]; exact bk_enter HC.out _
      obtain ⟨⟨P1, P2⟩, hs1⟩ : ∃ z, seesF D (g : Int) (yr : Int) = z := ⟨_, rfl⟩
      obtain ⟨⟨R1, R2⟩, hs2⟩ : ∃ z, seesF D2 (g : Int) (yr : Int) = z := ⟨_, rfl⟩
      have EN1 := Aside0.mk hen
      have EN2 := Aside0.mk hen2
      have ES1 := Aside0.mk hs1
      have ES2 := Aside0.mk hs2
      clear hen hen2 hs1 hs2
      have k0 := (blk_cell HS.out 0).trans rfl
      have k1 := (blk_cell HS.out 1).trans rfl
      have k2 := (blk_cell HS.out 2).trans rfl
      have k3 := (blk_cell HS.out 3).trans rfl
      have k4 := (blk_cell HS.out 4).trans rfl
      have kl := blk_lt HS.out
      go_wp2_with fail
      clear k0 k1 k2 k3 k4 kl
      have hA := HA.out.below HB.out
      refine (Sees_calls D A0 c0 A3 c3 A4 c4 (g : Int) (yr : Int) w101 hA).mono ?_
      clear hA
      rw [EN1.out, ES1.out]
      rintro e w102 ⟨⟨u, v, rfl, hn, m', _, _, hn2⟩, hb⟩
      obtain ⟨A1', ca1, rfl, hc1, _, hC1⟩ := NewRow.rowI (l := P1) hn
      obtain ⟨B1', cb1, rfl, hd1, _, hD1⟩ := NewRow.rowI (l := P2) hn2
      have HC1 := Aside0.mk hC1
      have HJ1 := Aside0.mk hD1
      have HN1 := Aside0.mk (And.intro hc1 hd1)
      clear hn hn2 hC1 hD1 hc1 hd1
      replace HB := Aside0.mk (HB.out.trans (hb.mono HB.out.size))
      replace HS := Aside0.mk (blk_below HS.out hb)
      replace HM := Aside0.mk (blk_below HM.out hb)
      replace HAB := Aside0.mk (HAB.out.trans (hb.mono HAB.out.size))
      clear hb
      go_upto_region 25 with (fail)
      have k0 := (blk_cell HS.out 0).trans rfl
      have k1 := (blk_cell HS.out 1).trans rfl
      have k2 := (blk_cell HS.out 2).trans rfl
      have k3 := (blk_cell HS.out 3).trans rfl
      have k4 := (blk_cell HS.out 4).trans rfl
      have kl := blk_lt HS.out
      have m0 := (blk_cell HM.out 0).trans rfl
      have m1 := (blk_cell HM.out 1).trans rfl
      have m2 := (blk_cell HM.out 2).trans rfl
      have m3 := (blk_cell HM.out 3).trans rfl
      have m4 := (blk_cell HM.out 4).trans rfl
      have ml := blk_lt HM.out
      go_wp2_with fail
      clear k0 k1 k2 k3 k4 kl m0 m1 m2 m3 m4 ml
      refine (Sees_calls D2 A0 c0 A c R cR (g : Int) (yr : Int) w102 (HA2.out.below HAB.out)).mono ?_
      rw [EN2.out, ES2.out]
      rintro e w103 ⟨⟨u, v, rfl, hn, m', _, _, hn2⟩, hb⟩
      obtain ⟨A2', ca2, rfl, hc2, _, hC2⟩ := NewRow.rowI (l := R1) hn
      obtain ⟨B2', cb2, rfl, hd2, _, hD2⟩ := NewRow.rowI (l := R2) hn2
      have HC2 := Aside0.mk hC2
      have HJ2 := Aside0.mk hD2
      have HN2 := Aside0.mk (And.intro hc2 hd2)
      clear hn hn2 hC2 hD2 hc2 hd2
      replace HB := Aside0.mk (HB.out.trans (hb.mono HB.out.size))
      replace HS := Aside0.mk (blk_below HS.out hb)
      replace HM := Aside0.mk (blk_below HM.out hb)
      replace HAB := Aside0.mk (HAB.out.trans (hb.mono HAB.out.size))
      replace HC1 := Aside0.mk (Kd.C_below HC1.out hb)
      replace HJ1 := Aside0.mk (Kd.C_below HJ1.out hb)
      clear hb
      go_upto_region 26 with (fail)
      obtain ⟨eL, heL⟩ : ∃ z, enterE D [(amongB D.gl.length [(g : Int)], 4)] = z := ⟨_, rfl⟩
      have heL2 : enterE D2 [(amongB D2.gl.length [(g : Int)], 4)] = eL := by rw [HD2.out, ← heL]; exact bk_enter HC.out _
      obtain ⟨⟨u1, u2⟩, hh1⟩ : ∃ z, hullF D [(amongB D.gl.length [(g : Int)], 4)] ((g : Int).toNat) = z := ⟨_, rfl⟩
      have hh2 : hullF D2 [(amongB D2.gl.length [(g : Int)], 4)] ((g : Int).toNat) = (u1, u2) := by have h := bk_hull (D := D) (l := [(amongB (bkD D).gl.length [(g : Int)], 4)]) (l' := [(amongB D.gl.length [(g : Int)], 4)]) HC.out rfl (k := g) (by omega); rw [rho_low (by omega)] at h; rw [Int.toNat_natCast] at hh1 ⊢; rw [HD2.out, h, hh1]
      have EL1 := Aside0.mk heL
      have EL2 := Aside0.mk heL2
      have EH1 := Aside0.mk hh1
      have EH2 := Aside0.mk hh2
      clear heL heL2 hh1 hh2
      have k0 := (blk_cell HS.out 0).trans rfl
      have k1 := (blk_cell HS.out 1).trans rfl
      have k2 := (blk_cell HS.out 2).trans rfl
      have k3 := (blk_cell HS.out 3).trans rfl
      have k4 := (blk_cell HS.out 4).trans rfl
      have kl := blk_lt HS.out
      go_wp2_with fail
      clear k0 k1 k2 k3 k4 kl
      have hA := HA.out.below HB.out
      refine (Least_calls D A0 c0 A3 c3 A4 c4 (g : Int) w103 hA).mono ?_
      clear hA
      rw [EL1.out, EH1.out]
      rintro e w104 ⟨rfl, hb⟩
      replace HB := Aside0.mk (HB.out.trans (hb.mono HB.out.size))
      replace HS := Aside0.mk (blk_below HS.out hb)
      replace HM := Aside0.mk (blk_below HM.out hb)
      replace HAB := Aside0.mk (HAB.out.trans (hb.mono HAB.out.size))
      replace HC1 := Aside0.mk (Kd.C_below HC1.out hb)
      replace HJ1 := Aside0.mk (Kd.C_below HJ1.out hb)
      replace HC2 := Aside0.mk (Kd.C_below HC2.out hb)
      replace HJ2 := Aside0.mk (Kd.C_below HJ2.out hb)
      clear hb
      go_upto_region 27 with (fail)
      have hb : Below w104.heap.size w104 (w104.alloc (.cells #[.int .i64 u1, .int .i64 u2] 24)) := below_alloc (Below.refl _ _) _
      have n1 := Aside0.mk (blk_new w104 (.cells #[.int .i64 u1, .int .i64 u2] 24))
      replace HB := Aside0.mk (HB.out.trans (hb.mono HB.out.size))
      replace HS := Aside0.mk (blk_below HS.out hb)
      replace HM := Aside0.mk (blk_below HM.out hb)
      replace HAB := Aside0.mk (HAB.out.trans (hb.mono HAB.out.size))
      replace HC1 := Aside0.mk (Kd.C_below HC1.out hb)
      replace HJ1 := Aside0.mk (Kd.C_below HJ1.out hb)
      replace HC2 := Aside0.mk (Kd.C_below HC2.out hb)
      replace HJ2 := Aside0.mk (Kd.C_below HJ2.out hb)
      clear hb
      obtain ⟨P, hP⟩ : ∃ b, w104.heap.size = b := ⟨_, rfl⟩
      rw [hP] at n1 ⊢
      generalize (w104.alloc (.cells #[.int .i64 u1, .int .i64 u2] 24)) = w105 at HB n1 HS HM HAB HC1 HJ1 HC2 HJ2 ⊢
      clear hP
      have HP := n1
      clear n1
      have k0 := (blk_cell HS.out 0).trans rfl
      have k1 := (blk_cell HS.out 1).trans rfl
      have k2 := (blk_cell HS.out 2).trans rfl
      have k3 := (blk_cell HS.out 3).trans rfl
      have k4 := (blk_cell HS.out 4).trans rfl
      have kl := blk_lt HS.out
      have m0 := (blk_cell HM.out 0).trans rfl
      have m1 := (blk_cell HM.out 1).trans rfl
      have m2 := (blk_cell HM.out 2).trans rfl
      have m3 := (blk_cell HM.out 3).trans rfl
      have m4 := (blk_cell HM.out 4).trans rfl
      have ml := blk_lt HM.out
      go_wp2_with fail
      clear k0 k1 k2 k3 k4 kl m0 m1 m2 m3 m4 ml
      refine (Least_calls D2 A0 c0 A c R cR (g : Int) w105 (HA2.out.below HAB.out)).mono ?_
      rw [EL2.out, EH2.out]
      rintro e w106 ⟨rfl, hb⟩
      replace HB := Aside0.mk (HB.out.trans (hb.mono HB.out.size))
      replace HS := Aside0.mk (blk_below HS.out hb)
      replace HM := Aside0.mk (blk_below HM.out hb)
      replace HAB := Aside0.mk (HAB.out.trans (hb.mono HAB.out.size))
      replace HP := Aside0.mk (blk_below HP.out hb)
      replace HC1 := Aside0.mk (Kd.C_below HC1.out hb)
      replace HJ1 := Aside0.mk (Kd.C_below HJ1.out hb)
      replace HC2 := Aside0.mk (Kd.C_below HC2.out hb)
      replace HJ2 := Aside0.mk (Kd.C_below HJ2.out hb)
      clear hb
      go_upto_region 28 with (fail)
      have hb : Below w106.heap.size w106 (w106.alloc (.cells #[.int .i64 u1, .int .i64 u2] 24)) := below_alloc (Below.refl _ _) _
      have n1 := Aside0.mk (blk_new w106 (.cells #[.int .i64 u1, .int .i64 u2] 24))
      replace HB := Aside0.mk (HB.out.trans (hb.mono HB.out.size))
      replace HS := Aside0.mk (blk_below HS.out hb)
      replace HM := Aside0.mk (blk_below HM.out hb)
      replace HAB := Aside0.mk (HAB.out.trans (hb.mono HAB.out.size))
      replace HP := Aside0.mk (blk_below HP.out hb)
      replace HC1 := Aside0.mk (Kd.C_below HC1.out hb)
      replace HJ1 := Aside0.mk (Kd.C_below HJ1.out hb)
      replace HC2 := Aside0.mk (Kd.C_below HC2.out hb)
      replace HJ2 := Aside0.mk (Kd.C_below HJ2.out hb)
      clear hb
      obtain ⟨U, hU⟩ : ∃ b, w106.heap.size = b := ⟨_, rfl⟩
      rw [hU] at n1 ⊢
      generalize (w106.alloc (.cells #[.int .i64 u1, .int .i64 u2] 24)) = w107 at HB n1 HS HM HAB HP HC1 HJ1 HC2 HJ2 ⊢
      clear hU
      have HU := n1
      clear n1
      obtain ⟨⟨ls, we⟩, hwf⟩ : ∃ z, wrongF D = z := ⟨_, rfl⟩
      have hwf2 : wrongF D2 = (ls, we) := by rw [HD2.out, bk_wrong HC.out, hwf]
      have EW1 := Aside0.mk hwf
      have EW2 := Aside0.mk hwf2
      clear hwf hwf2
      have k0 := (blk_cell HS.out 0).trans rfl
      have k1 := (blk_cell HS.out 1).trans rfl
      have k2 := (blk_cell HS.out 2).trans rfl
      have k3 := (blk_cell HS.out 3).trans rfl
      have k4 := (blk_cell HS.out 4).trans rfl
      have kl := blk_lt HS.out
      go_wp2_with fail
      clear k0 k1 k2 k3 k4 kl
      have hA := HA.out.below HB.out
      refine (Wrong_calls D A0 c0 A3 c3 A4 c4 w107 hA).mono ?_
      clear hA
      rw [EW1.out]
      rintro e w108 ⟨⟨v, rfl, hn⟩, hb⟩
      obtain ⟨Aw1', cw1', rfl, hcw1'⟩ := hn.lit
      have Hw1' := Aside0.mk hcw1'
      clear hcw1' hn
      replace HB := Aside0.mk (HB.out.trans (hb.mono HB.out.size))
      replace HS := Aside0.mk (blk_below HS.out hb)
      replace HM := Aside0.mk (blk_below HM.out hb)
      replace HAB := Aside0.mk (HAB.out.trans (hb.mono HAB.out.size))
      replace HP := Aside0.mk (blk_below HP.out hb)
      replace HU := Aside0.mk (blk_below HU.out hb)
      replace HC1 := Aside0.mk (Kd.C_below HC1.out hb)
      replace HJ1 := Aside0.mk (Kd.C_below HJ1.out hb)
      replace HC2 := Aside0.mk (Kd.C_below HC2.out hb)
      replace HJ2 := Aside0.mk (Kd.C_below HJ2.out hb)
      clear hb
      go_upto_region 29 with (fail)
      have k0 := (blk_cell HS.out 0).trans rfl
      have k1 := (blk_cell HS.out 1).trans rfl
      have k2 := (blk_cell HS.out 2).trans rfl
      have k3 := (blk_cell HS.out 3).trans rfl
      have k4 := (blk_cell HS.out 4).trans rfl
      have kl := blk_lt HS.out
      have m0 := (blk_cell HM.out 0).trans rfl
      have m1 := (blk_cell HM.out 1).trans rfl
      have m2 := (blk_cell HM.out 2).trans rfl
      have m3 := (blk_cell HM.out 3).trans rfl
      have m4 := (blk_cell HM.out 4).trans rfl
      have ml := blk_lt HM.out
      go_wp2_with fail
      clear k0 k1 k2 k3 k4 kl m0 m1 m2 m3 m4 ml
      refine (Wrong_calls D2 A0 c0 A c R cR w108 (HA2.out.below HAB.out)).mono ?_
      rw [EW2.out]
      rintro e w109 ⟨⟨v, rfl, hn⟩, hb⟩
      obtain ⟨Aw2', cw2', rfl, hcw2'⟩ := hn.lit
      have Hw2' := Aside0.mk hcw2'
      clear hcw2' hn
      replace HB := Aside0.mk (HB.out.trans (hb.mono HB.out.size))
      replace HS := Aside0.mk (blk_below HS.out hb)
      replace HM := Aside0.mk (blk_below HM.out hb)
      replace HAB := Aside0.mk (HAB.out.trans (hb.mono HAB.out.size))
      replace HP := Aside0.mk (blk_below HP.out hb)
      replace HU := Aside0.mk (blk_below HU.out hb)
      replace HC1 := Aside0.mk (Kd.C_below HC1.out hb)
      replace HJ1 := Aside0.mk (Kd.C_below HJ1.out hb)
      replace HC2 := Aside0.mk (Kd.C_below HC2.out hb)
      replace HJ2 := Aside0.mk (Kd.C_below HJ2.out hb)
      replace Hw1' := Aside0.mk (Kd.C_below Hw1'.out hb)
      clear hb
      go_upto_region 30 with (fail)
      have p0 := (blk_cell HP.out 0).trans rfl
      have p1 := (blk_cell HP.out 1).trans rfl
      have pl := blk_lt HP.out
      have u0 := (blk_cell HU.out 0).trans rfl
      have u1 := (blk_cell HU.out 1).trans rfl
      have ul := blk_lt HU.out
      go_wp2_with fail
      have hI := Ints_calls (ints ls) (ints ls) Aw1' Aw2' ls.length ls.length cw1' cw2' w109 (by simp [ints]) (by simp [ints]) Hw1'.out (by have h9 := Hw2'.out; simpa [ints] using h9)
      rw [beq_self_eq_true] at hI
      refine Calls.mono (by first | exact hI | (simpa [ints] using hI)) ?_
      clear hI
      rintro e w110 ⟨rfl, hc⟩
      have hb := hc.below (fun _ _ x => x.elim) (Nat.le_refl _)
      clear hc
      replace HB := Aside0.mk (HB.out.trans (hb.mono HB.out.size))
      replace HS := Aside0.mk (blk_below HS.out hb)
      replace HM := Aside0.mk (blk_below HM.out hb)
      replace HAB := Aside0.mk (HAB.out.trans (hb.mono HAB.out.size))
      replace HP := Aside0.mk (blk_below HP.out hb)
      replace HU := Aside0.mk (blk_below HU.out hb)
      replace HC1 := Aside0.mk (Kd.C_below HC1.out hb)
      replace HJ1 := Aside0.mk (Kd.C_below HJ1.out hb)
      replace HC2 := Aside0.mk (Kd.C_below HC2.out hb)
      replace HJ2 := Aside0.mk (Kd.C_below HJ2.out hb)
      replace Hw1' := Aside0.mk (Kd.C_below Hw1'.out hb)
      replace Hw2' := Aside0.mk (Kd.C_below Hw2'.out hb)
      clear hb p0 p1 pl u0 u1 ul HP HU Hw1' Hw2'
      obtain ⟨hl1, hl2, hp1, hp2, hhas⟩ := bk_sees (R1 := R1) (R2 := R2) HC.out hg (yr : Int) ES1.out (HD2.out ▸ ES2.out)
      have hne1 : ((P1.length : Int) != (R1.length : Int)) = false := by simp [hl1]
      have hne2 : ((P2.length : Int) != (R2.length : Int)) = false := by simp [hl2]
      have hne3 : (P1.length != R1.length) = false := by simp [hl1]
      have hne4 : (P2.length != R2.length) = false := by simp [hl2]
      have HHAS := Aside0.mk hhas
      have HLEN := Aside0.mk (And.intro (And.intro hl1 hl2) (And.intro hp1 hp2))
      clear hl1 hl2 hp1 hp2 hhas
      go_wp2_with fail
      go_loopw [28] (fun j wr => ∃ s : Nat, s ≤ D.sp.length ∧ j = .int .i64 (s : Int) ∧ Aside0 (Below w110.heap.size w110 wr)) (fun j _ => D.sp.length - (intOf j).toNat)
      case atStart => exact ⟨0, Nat.zero_le _, rfl, ⟨Below.refl _ _⟩⟩
      case round =>
       obtain ⟨s, hs, rfl, HBr⟩ := hrel
       have hb := HBr.out
       replace HB := Aside0.mk (HB.out.trans (hb.mono HB.out.size))
       replace HS := Aside0.mk (blk_below HS.out hb)
       replace HM := Aside0.mk (blk_below HM.out hb)
       replace HAB := Aside0.mk (HAB.out.trans (hb.mono HAB.out.size))
       replace HC1 := Aside0.mk (Kd.C_below HC1.out hb)
       replace HJ1 := Aside0.mk (Kd.C_below HJ1.out hb)
       replace HC2 := Aside0.mk (Kd.C_below HC2.out hb)
       replace HJ2 := Aside0.mk (Kd.C_below HJ2.out hb)
       clear hb
       generalize wr = w200 at HBr HB HS HM HAB HC1 HJ1 HC2 HJ2 ⊢
       by_cases hlt : s < D.sp.length
       ·
        obtain ⟨hb1, hb2⟩ := bk_size HC.out hlt
        rw [← HD2.out] at hb1 hb2
        obtain ⟨es, hes⟩ : ∃ z, enterE D [(amongB D.sp.length [(s : Int)], 4)] = z := ⟨_, rfl⟩
        obtain ⟨⟨v1, v2⟩, hv⟩ : ∃ z, hullF D [(amongB D.sp.length [(s : Int)], 4)] (4 + s) = z := ⟨_, rfl⟩
        rw [hes] at hb1
        rw [hv] at hb2
        have S1 := Aside0.mk hes
        have S2 := Aside0.mk hv
        have S3 := Aside0.mk hb1
        have S4 := Aside0.mk hb2
        clear hes hv hb1 hb2
        obtain ⟨t, ht⟩ : ∃ t, D.sp.length - 1 - s = t := ⟨_, rfl⟩
        rw [ht] at S3 S4
        have hw1 : IntKind.i64.wrap ((D.sp.length : Int) - 1) = (D.sp.length : Int) - 1 := wrapI (by omega) (by omega)
        have hw2 : IntKind.i64.wrap ((D.sp.length : Int) - 1 - (s : Int)) = (t : Int) := by rw [show (D.sp.length : Int) - 1 - (s : Int) = (t : Int) by omega]; exact wrapI (by omega) (by omega)
        have HT := Aside0.mk ht
        clear ht
        have k0 := (blk_cell HS.out 0).trans rfl
        have k1 := (blk_cell HS.out 1).trans rfl
        have k2 := (blk_cell HS.out 2).trans rfl
        have k3 := (blk_cell HS.out 3).trans rfl
        have k4 := (blk_cell HS.out 4).trans rfl
        have kl := blk_lt HS.out
        go_wp2_with fail
        clear k0 k1 k2 k3 k4 kl
        have hA := HA.out.below HB.out
        refine (Size_calls D A0 c0 A3 c3 A4 c4 (s : Int) w200 hA).mono ?_
        clear hA
        rw [Int.toNat_natCast, S1.out, S2.out]
        rintro e w201 ⟨rfl, hb⟩
        replace HB := Aside0.mk (HB.out.trans (hb.mono HB.out.size))
        replace HS := Aside0.mk (blk_below HS.out hb)
        replace HM := Aside0.mk (blk_below HM.out hb)
        replace HAB := Aside0.mk (HAB.out.trans (hb.mono HAB.out.size))
        replace HBr := Aside0.mk (HBr.out.trans (hb.mono HBr.out.size))
        replace HC1 := Aside0.mk (Kd.C_below HC1.out hb)
        replace HJ1 := Aside0.mk (Kd.C_below HJ1.out hb)
        replace HC2 := Aside0.mk (Kd.C_below HC2.out hb)
        replace HJ2 := Aside0.mk (Kd.C_below HJ2.out hb)
        clear hb
        go_upto_region 36 with (fail)
        have hb : Below w201.heap.size w201 (w201.alloc (.cells #[.int .i64 v1, .int .i64 v2] 24)) := below_alloc (Below.refl _ _) _
        have n1 := Aside0.mk (blk_new w201 (.cells #[.int .i64 v1, .int .i64 v2] 24))
        replace HB := Aside0.mk (HB.out.trans (hb.mono HB.out.size))
        replace HS := Aside0.mk (blk_below HS.out hb)
        replace HM := Aside0.mk (blk_below HM.out hb)
        replace HAB := Aside0.mk (HAB.out.trans (hb.mono HAB.out.size))
        replace HBr := Aside0.mk (HBr.out.trans (hb.mono HBr.out.size))
        replace HC1 := Aside0.mk (Kd.C_below HC1.out hb)
        replace HJ1 := Aside0.mk (Kd.C_below HJ1.out hb)
        replace HC2 := Aside0.mk (Kd.C_below HC2.out hb)
        replace HJ2 := Aside0.mk (Kd.C_below HJ2.out hb)
        clear hb
        obtain ⟨P, hP⟩ : ∃ b, w201.heap.size = b := ⟨_, rfl⟩
        rw [hP] at n1 ⊢
        generalize (w201.alloc (.cells #[.int .i64 v1, .int .i64 v2] 24)) = w202 at HB n1 HS HM HAB HBr HC1 HJ1 HC2 HJ2 ⊢
        clear hP
        have HP := n1
        clear n1
        have k0 := (blk_cell HS.out 0).trans rfl
        have k1 := (blk_cell HS.out 1).trans rfl
        have k2 := (blk_cell HS.out 2).trans rfl
        have k3 := (blk_cell HS.out 3).trans rfl
        have k4 := (blk_cell HS.out 4).trans rfl
        have kl := blk_lt HS.out
        have m0 := (blk_cell HM.out 0).trans rfl
        have m1 := (blk_cell HM.out 1).trans rfl
        have m2 := (blk_cell HM.out 2).trans rfl
        have m3 := (blk_cell HM.out 3).trans rfl
        have m4 := (blk_cell HM.out 4).trans rfl
        have ml := blk_lt HM.out
        go_wp2_with fail
        clear k0 k1 k2 k3 k4 kl m0 m1 m2 m3 m4 ml
        refine (Size_calls D2 A0 c0 A c R cR (t : Int) w202 (HA2.out.below HAB.out)).mono ?_
        rw [Int.toNat_natCast, S3.out, S4.out]
        rintro e w203 ⟨rfl, hb⟩
        replace HB := Aside0.mk (HB.out.trans (hb.mono HB.out.size))
        replace HS := Aside0.mk (blk_below HS.out hb)
        replace HM := Aside0.mk (blk_below HM.out hb)
        replace HAB := Aside0.mk (HAB.out.trans (hb.mono HAB.out.size))
        replace HBr := Aside0.mk (HBr.out.trans (hb.mono HBr.out.size))
        replace HP := Aside0.mk (blk_below HP.out hb)
        replace HC1 := Aside0.mk (Kd.C_below HC1.out hb)
        replace HJ1 := Aside0.mk (Kd.C_below HJ1.out hb)
        replace HC2 := Aside0.mk (Kd.C_below HC2.out hb)
        replace HJ2 := Aside0.mk (Kd.C_below HJ2.out hb)
        clear hb
        go_upto_region 37 with (fail)
        have hb : Below w203.heap.size w203 (w203.alloc (.cells #[.int .i64 v1, .int .i64 v2] 24)) := below_alloc (Below.refl _ _) _
        have n1 := Aside0.mk (blk_new w203 (.cells #[.int .i64 v1, .int .i64 v2] 24))
        replace HB := Aside0.mk (HB.out.trans (hb.mono HB.out.size))
        replace HS := Aside0.mk (blk_below HS.out hb)
        replace HM := Aside0.mk (blk_below HM.out hb)
        replace HAB := Aside0.mk (HAB.out.trans (hb.mono HAB.out.size))
        replace HBr := Aside0.mk (HBr.out.trans (hb.mono HBr.out.size))
        replace HP := Aside0.mk (blk_below HP.out hb)
        replace HC1 := Aside0.mk (Kd.C_below HC1.out hb)
        replace HJ1 := Aside0.mk (Kd.C_below HJ1.out hb)
        replace HC2 := Aside0.mk (Kd.C_below HC2.out hb)
        replace HJ2 := Aside0.mk (Kd.C_below HJ2.out hb)
        clear hb
        obtain ⟨U, hU⟩ : ∃ b, w203.heap.size = b := ⟨_, rfl⟩
        rw [hU] at n1 ⊢
        generalize (w203.alloc (.cells #[.int .i64 v1, .int .i64 v2] 24)) = w204 at HB n1 HS HM HAB HBr HP HC1 HJ1 HC2 HJ2 ⊢
        clear hU
        have HU := n1
        clear n1
        obtain ⟨h1, h2⟩ := HHAS.out s hlt
        rw [HT.out] at h1 h2
        obtain ⟨b1, hb1⟩ : ∃ b, hasB (ints P1) s = b := ⟨_, rfl⟩
        obtain ⟨b2, hb2⟩ : ∃ b, hasB (ints P2) s = b := ⟨_, rfl⟩
        rw [hb1] at h1
        rw [hb2] at h2
        have hle := HLEN.out
        obtain ⟨Ka, hKa⟩ := (rHas (ints P1) (by simp [ints]; omega) s).rounds
        rw [hb1] at hKa
        have HKa := Aside0.mk hKa
        clear hKa
        obtain ⟨Kb, hKb⟩ := (rHas (ints R1) (by simp [ints]; omega) t).rounds
        rw [h1] at hKb
        have HKb := Aside0.mk hKb
        clear hKb
        obtain ⟨Kc, hKc⟩ := (rHas (ints P2) (by simp [ints]; omega) s).rounds
        rw [hb2] at hKc
        have HKc := Aside0.mk hKc
        clear hKc
        obtain ⟨Ke, hKe⟩ := (rHas (ints R2) (by simp [ints]; omega) t).rounds
        rw [h2] at hKe
        have HKe := Aside0.mk hKe
        clear hKe h1 h2 hb1 hb2 hle
        have p0 := (blk_cell HP.out 0).trans rfl
        have p1 := (blk_cell HP.out 1).trans rfl
        have pl := blk_lt HP.out
        have u0 := (blk_cell HU.out 0).trans rfl
        have u1 := (blk_cell HU.out 1).trans rfl
        have ul := blk_lt HU.out
        go_wp2_with fail
        clear p0 p1 pl u0 u1 ul
        have hcl := r1_Has.calls Ka A1' ca1 (ints P1) (s : Int) b1 w204 HC1.out HN1.out.1 HKa.out
        rw [show (ints P1).length = P1.length from by simp [ints]] at hcl
        refine hcl.mono ?_
        clear hcl
        rintro e wq ⟨rfl, nd, rfl⟩
        have hb : Below w204.heap.size w204 (w204.drewN nd) := pw_below_drewN (Below.refl _ _) nd
        replace HB := Aside0.mk (HB.out.trans (hb.mono HB.out.size))
        replace HS := Aside0.mk (blk_below HS.out hb)
        replace HM := Aside0.mk (blk_below HM.out hb)
        replace HAB := Aside0.mk (HAB.out.trans (hb.mono HAB.out.size))
        replace HBr := Aside0.mk (HBr.out.trans (hb.mono HBr.out.size))
        replace HP := Aside0.mk (blk_below HP.out hb)
        replace HU := Aside0.mk (blk_below HU.out hb)
        replace HC1 := Aside0.mk (Kd.C_below HC1.out hb)
        replace HJ1 := Aside0.mk (Kd.C_below HJ1.out hb)
        replace HC2 := Aside0.mk (Kd.C_below HC2.out hb)
        replace HJ2 := Aside0.mk (Kd.C_below HJ2.out hb)
        clear hb
        generalize w204.drewN nd = w205 at HB HS HM HAB HBr HP HU HC1 HJ1 HC2 HJ2 ⊢
        have p0 := (blk_cell HP.out 0).trans rfl
        have p1 := (blk_cell HP.out 1).trans rfl
        have pl := blk_lt HP.out
        have u0 := (blk_cell HU.out 0).trans rfl
        have u1 := (blk_cell HU.out 1).trans rfl
        have ul := blk_lt HU.out
        go_wp2_with fail
        clear p0 p1 pl u0 u1 ul
        have hcl := r1_Has.calls Kb A2' ca2 (ints R1) (t : Int) b1 w205 HC2.out HN2.out.1 HKb.out
        rw [show (ints R1).length = R1.length from by simp [ints]] at hcl
        refine hcl.mono ?_
        clear hcl
        rintro e wq ⟨rfl, nd, rfl⟩
        have hb : Below w205.heap.size w205 (w205.drewN nd) := pw_below_drewN (Below.refl _ _) nd
        replace HB := Aside0.mk (HB.out.trans (hb.mono HB.out.size))
        replace HS := Aside0.mk (blk_below HS.out hb)
        replace HM := Aside0.mk (blk_below HM.out hb)
        replace HAB := Aside0.mk (HAB.out.trans (hb.mono HAB.out.size))
        replace HBr := Aside0.mk (HBr.out.trans (hb.mono HBr.out.size))
        replace HP := Aside0.mk (blk_below HP.out hb)
        replace HU := Aside0.mk (blk_below HU.out hb)
        replace HC1 := Aside0.mk (Kd.C_below HC1.out hb)
        replace HJ1 := Aside0.mk (Kd.C_below HJ1.out hb)
        replace HC2 := Aside0.mk (Kd.C_below HC2.out hb)
        replace HJ2 := Aside0.mk (Kd.C_below HJ2.out hb)
        clear hb
        generalize w205.drewN nd = w206 at HB HS HM HAB HBr HP HU HC1 HJ1 HC2 HJ2 ⊢
        have p0 := (blk_cell HP.out 0).trans rfl
        have p1 := (blk_cell HP.out 1).trans rfl
        have pl := blk_lt HP.out
        have u0 := (blk_cell HU.out 0).trans rfl
        have u1 := (blk_cell HU.out 1).trans rfl
        have ul := blk_lt HU.out
        go_wp2_with fail
        clear p0 p1 pl u0 u1 ul
        have hcl := r1_Has.calls Kc B1' cb1 (ints P2) (s : Int) b2 w206 HJ1.out HN1.out.2 HKc.out
        rw [show (ints P2).length = P2.length from by simp [ints]] at hcl
        refine hcl.mono ?_
        clear hcl
        rintro e wq ⟨rfl, nd, rfl⟩
        have hb : Below w206.heap.size w206 (w206.drewN nd) := pw_below_drewN (Below.refl _ _) nd
        replace HB := Aside0.mk (HB.out.trans (hb.mono HB.out.size))
        replace HS := Aside0.mk (blk_below HS.out hb)
        replace HM := Aside0.mk (blk_below HM.out hb)
        replace HAB := Aside0.mk (HAB.out.trans (hb.mono HAB.out.size))
        replace HBr := Aside0.mk (HBr.out.trans (hb.mono HBr.out.size))
        replace HP := Aside0.mk (blk_below HP.out hb)
        replace HU := Aside0.mk (blk_below HU.out hb)
        replace HC1 := Aside0.mk (Kd.C_below HC1.out hb)
        replace HJ1 := Aside0.mk (Kd.C_below HJ1.out hb)
        replace HC2 := Aside0.mk (Kd.C_below HC2.out hb)
        replace HJ2 := Aside0.mk (Kd.C_below HJ2.out hb)
        clear hb
        generalize w206.drewN nd = w207 at HB HS HM HAB HBr HP HU HC1 HJ1 HC2 HJ2 ⊢
        have p0 := (blk_cell HP.out 0).trans rfl
        have p1 := (blk_cell HP.out 1).trans rfl
        have pl := blk_lt HP.out
        have u0 := (blk_cell HU.out 0).trans rfl
        have u1 := (blk_cell HU.out 1).trans rfl
        have ul := blk_lt HU.out
        go_wp2_with fail
        clear p0 p1 pl u0 u1 ul
        have hcl := r1_Has.calls Ke B2' cb2 (ints R2) (t : Int) b2 w207 HJ2.out HN2.out.2 HKe.out
        rw [show (ints R2).length = R2.length from by simp [ints]] at hcl
        refine hcl.mono ?_
        clear hcl
        rintro e wq ⟨rfl, nd, rfl⟩
        have hb : Below w207.heap.size w207 (w207.drewN nd) := pw_below_drewN (Below.refl _ _) nd
        replace HB := Aside0.mk (HB.out.trans (hb.mono HB.out.size))
        replace HS := Aside0.mk (blk_below HS.out hb)
        replace HM := Aside0.mk (blk_below HM.out hb)
        replace HAB := Aside0.mk (HAB.out.trans (hb.mono HAB.out.size))
        replace HBr := Aside0.mk (HBr.out.trans (hb.mono HBr.out.size))
        replace HP := Aside0.mk (blk_below HP.out hb)
        replace HU := Aside0.mk (blk_below HU.out hb)
        replace HC1 := Aside0.mk (Kd.C_below HC1.out hb)
        replace HJ1 := Aside0.mk (Kd.C_below HJ1.out hb)
        replace HC2 := Aside0.mk (Kd.C_below HC2.out hb)
        replace HJ2 := Aside0.mk (Kd.C_below HJ2.out hb)
        clear hb
        generalize w207.drewN nd = w208 at HB HS HM HAB HBr HP HU HC1 HJ1 HC2 HJ2 ⊢
        have e1 : (b1 != b1) = false := bne_self_eq_false _
        have e2 : (b2 != b2) = false := bne_self_eq_false _
        go_wp2_with fail
        go_roundw
        case rel => exact ⟨s + 1, by omega, by go_num, HBr⟩
        case measure => simp [intOf]; omega
       ·
        go_wp2_with fail
        refine (Awake_calls _).mono ?_
        rintro e wA ⟨rfl, hb⟩
        replace HB := Aside0.mk (HB.out.trans (hb.mono HB.out.size))
        clear hb
        go_wp2
        go_ret
        exact ⟨rfl, by first | exact HB.out | (rw [← hq]; exact HB.out)⟩
   ·
    obtain ⟨i, rfl⟩ : ∃ i, k = i + 1 := ⟨k - 1, by omega⟩
    have hi1 : ((i + 1 : Nat) : Int) - 1 = (i : Int) := by omega
    rw [hi1]
    clear hi1 hk0
    obtain ⟨xs, hxs⟩ : ∃ xs, (D.sp.drop (i + 1)).reverse = xs := ⟨_, rfl⟩
    have hn : D.sp.length - (i + 1) = xs.length := by rw [← hxs]; simp
    rw [hxs, hn] at HO
    rw [hn] at HM
    have HROW := Aside0.mk (spans_C HO.out (by omega))
    obtain ⟨a3, hA3, e0, e1⟩ := at_T24 HA.out.s (i : Int) (by omega) (by omega)
    rw [Int.toNat_natCast] at e0 e1
    subst hA3
    obtain ⟨Z, hZ⟩ : ∃ z, rd_T24 D.sp (i : Int) = z := ⟨_, rfl⟩
    rw [hZ] at e0 e1
    have HZC := Aside0.mk (And.intro e0 e1)
    have HZD := Aside0.mk hZ
    clear e0 e1 hZ
    go_upto_region 9 with (fail)
    have q1 : (0 ≤ (i : Int)) = True := eq_true (by omega)
    have q2 : ((i : Int) < (D.sp.length : Int)) = True := eq_true (by omega)
    have q3 : (i : Int).toNat = i := Int.toNat_natCast i
    have hxl : xs.length ≤ 4 := by omega
    refine region_puts' (X := Nat × Nat × Nat × Nat × Nat × Nat) (fun x => [(49, (.slice (some ⟨x.1, 0, none⟩) 0 0)), (50, (.pointer (some ⟨M, 3, none⟩))), (51, (.slice A xs.length c)), (52, (.slice (some ⟨x.2.1, 0, none⟩) xs.length x.2.2.1)), (53, (.pointer (some ⟨q, 3, none⟩))), (54, (.slice (some a3) D.sp.length c3)), (55, (.int .i64 (i : Int))), (56, (.pointer (some (a3.add (i * 2))))), (57, (.agg #[.int .i64 Z.f0, .int .i64 Z.f1])), (58, (.slice (some ⟨x.2.2.2.1, 0, none⟩) 1 1)), (59, (.slice (some ⟨x.2.2.2.2.1, 0, none⟩) (xs.length + 1) x.2.2.2.2.2)), (60, (.pointer (some ⟨M, 3, none⟩)))]) (fun x w' => ∃ w0, w' = w0.setCell ⟨M, 3, none⟩ (.slice (some ⟨x.2.2.2.2.1, 0, none⟩) (xs.length + 1) x.2.2.2.2.2) ∧ Below wr.heap.size wr w0 ∧ w0.ownsRow wr.heap.size 24 2 (.slice (some ⟨x.2.2.2.2.1, 0, none⟩) (xs.length + 1) x.2.2.2.2.2) (xs ++ [Z]).length ((xs ++ [Z]).flatMap encP)) ?_ ?_
    ·
     have hb0 : Below wr.heap.size wr wr.drew := below_drew1 (Below.refl _ _)
     have B0 := Aside0.mk hb0
     clear hb0
     refine wp_region_G (List.range 12) (S := fun w' : World => w'.cell? ⟨q, 3, none⟩ = some (.slice (some a3) D.sp.length c3) ∧ w'.cell? ⟨M, 3, none⟩ = some (.slice A xs.length c) ∧ w'.cell? (a3.add (i * 2)) = some (.int .i64 Z.f0) ∧ w'.cell? ⟨(a3.add (i * 2)).block, (a3.add (i * 2)).off + 1, none⟩ = some (.int .i64 Z.f1)) (by kernel_rfl) ⟨(blk_cell (blk_below HS.out B0.out) 3).trans rfl, (blk_cell (blk_below HM.out B0.out) 3).trans rfl, cell_below HZC.out.1 (HB.out.trans (B0.out.mono HB.out.size)), cell_below HZC.out.2 (HB.out.trans (B0.out.mono HB.out.size))⟩ (fun hHeld => ?_)
     generalize wr.drew = v0 at B0 hHeld ⊢
     refine takeG 1 ?_
     refine takeG 2 ?_
     refine takeG 4 ?_
     refine takeG 5 ?_
     refine takeG 6 ?_
     refine takeG 7 ?_
     refine takeG 8 ?_
     refine wpAnyG_two (i := 0) (j := 9) (by kernel_rfl) rfl rfl (fun K hK => ?_) (fun K hK => ?_)
     ·
      go_simp
      clear hHeld
      obtain ⟨g0, hg⟩ : ∃ a, v0.heap.size = a := ⟨_, rfl⟩
      try rw [hg]
      refine named (fun w' : World => Below wr.heap.size wr w' ∧ (w'.ownsRow wr.heap.size 24 2 (.slice (some ⟨g0, 0, none⟩) 0 0) 0 [] ∧ g0 < w'.heap.size)) ⟨below_alloc B0.out _, ⟨by rw [← hg]; exact own_new0 B0.out.size, by rw [← hg]; simp⟩⟩ ?_
      rintro v1 ⟨h0, h1⟩
      have B1 := Aside0.mk h0
      have n1 := Aside0.mk h1
      clear hg h0 h1
      have O1 := n1
      clear n1
      refine hK.out _ _ ⟨(blk_cell (blk_below HS.out B1.out) 3).trans rfl, (blk_cell (blk_below HM.out B1.out) 3).trans rfl, cell_below HZC.out.1 (HB.out.trans (B1.out.mono HB.out.size)), cell_below HZC.out.2 (HB.out.trans (B1.out.mono HB.out.size))⟩ (by trivial) (fun hHeld _ => ?_)
      clear hK K
      refine putG ?_
      refine wpAnyG_two (i := 3) (j := 9) (by kernel_rfl) rfl rfl (fun K hK => ?_) (fun K hK => ?_)
      ·
       refine step_spans (base := wr.heap.size) (ys := []) (xs := xs) (k0 := xs.length) rfl (.tmp 49) (.tmp 51) rfl rfl rfl rfl rfl (by simp) O1.out.1 (Kd.C_below HROW.out B1.out) (by simp; omega) B1.out.size ?_
       intro g3 k3 v2 hg3 ho3 hz3 hr3
       have B2 := Aside0.mk (B1.out.trans hz3)
       have O3 := Aside0.mk ho3
       clear hg3 ho3 hz3 hr3 hHeld
       refine hK.out _ _ ⟨(blk_cell (blk_below HS.out B2.out) 3).trans rfl, (blk_cell (blk_below HM.out B2.out) 3).trans rfl, cell_below HZC.out.1 (HB.out.trans (B2.out.mono HB.out.size)), cell_below HZC.out.2 (HB.out.trans (B2.out.mono HB.out.size))⟩ (by trivial) (fun hHeld _ => ?_)
       clear hK K
       refine putG ?_
       refine wpAnyG_only (i := 9) (by kernel_rfl) rfl (fun K hK => ?_)
       go_simp
       clear hHeld
       obtain ⟨g9, hg⟩ : ∃ a, v2.heap.size = a := ⟨_, rfl⟩
       try rw [hg]
       refine named (fun w' : World => Below wr.heap.size wr w' ∧ (w'.heap[g9]? = some (.cells #[.int .i64 Z.f0, .int .i64 Z.f1] 24 (0, 0)) ∧ True) ∧ w'.ownsRow wr.heap.size 24 2 (.slice (some ⟨g3, 0, none⟩) xs.length k3) xs.length (xs.flatMap encP)) ⟨below_alloc B2.out _, ⟨by rw [← hg]; exact blk_new _ _, trivial⟩, pw_own_below O3.out (below_alloc (Below.refl _ _) _)⟩ ?_
       rintro v3 ⟨h0, h1, h2⟩
       have B3 := Aside0.mk h0
       have n1 := Aside0.mk h1
       have n2 := Aside0.mk h2
       clear hg h0 h1 h2
       have L9 := n1
       clear n1
       have O3 := n2
       clear n2
       refine hK.out _ _ ⟨(blk_cell (blk_below HS.out B3.out) 3).trans rfl, (blk_cell (blk_below HM.out B3.out) 3).trans rfl, cell_below HZC.out.1 (HB.out.trans (B3.out.mono HB.out.size)), cell_below HZC.out.2 (HB.out.trans (B3.out.mono HB.out.size))⟩ (by trivial) (fun hHeld _ => ?_)
       clear hK K
       refine putG ?_
       refine wpAnyG_only (i := 10) (by kernel_rfl) rfl (fun K hK => ?_)
       refine step_spans (base := wr.heap.size) (ys := xs) (xs := [Z]) (n := 1) (k0 := xs.length + 1) rfl (.tmp 52) (.tmp 58) rfl rfl rfl rfl rfl (by simp) O3.out (C_one_span Z L9.out.1) (by simp; omega) B3.out.size ?_
       intro g10 k10 v4 hg10 ho10 hz10 hr10
       have B4 := Aside0.mk (B3.out.trans hz10)
       have O10 := Aside0.mk ho10
       clear hg10 ho10 hz10 hr10 hHeld
       refine hK.out _ _ ⟨(blk_cell (blk_below HS.out B4.out) 3).trans rfl, (blk_cell (blk_below HM.out B4.out) 3).trans rfl, cell_below HZC.out.1 (HB.out.trans (B4.out.mono HB.out.size)), cell_below HZC.out.2 (HB.out.trans (B4.out.mono HB.out.size))⟩ (by trivial) (fun hHeld _ => ?_)
       clear hK K
       refine putG ?_
       refine takeG 11 ?_
       have m3 := (blk_cell (blk_below HM.out B4.out) 3).trans rfl
       have mf := blk_frozen (blk_below HM.out B4.out) 3
       have ml := blk_lt (blk_below HM.out B4.out)
       refine wpAnyG_last (i := 12) (by kernel_rfl) rfl (by kernel_rfl) (by kernel_rfl) (fun K hK => ?_)
       go_simp
       refine hK.out _ _ ?_
       clear hK K
       refine doneG ?_
       refine ⟨(g0, g3, k3, g9, g10, k10), ?_, _, rfl, B4.out, O10.out⟩
       simp only [putL, List.foldl, Act.put, List.getElem_toArray, List.getElem_cons_zero, List.getElem_cons_succ, List.setIfInBounds_toArray, List.set_cons_zero, List.set_cons_succ]
      ·
       go_simp
       clear hHeld
       obtain ⟨g9, hg⟩ : ∃ a, v1.heap.size = a := ⟨_, rfl⟩
       try rw [hg]
       refine named (fun w' : World => Below wr.heap.size wr w' ∧ (w'.heap[g9]? = some (.cells #[.int .i64 Z.f0, .int .i64 Z.f1] 24 (0, 0)) ∧ g0 ≠ g9) ∧ (w'.ownsRow wr.heap.size 24 2 (.slice (some ⟨g0, 0, none⟩) 0 0) 0 [] ∧ g0 < w'.heap.size)) ⟨below_alloc B1.out _, ⟨by rw [← hg]; exact blk_new _ _, by have := O1.out.2; omega⟩, ⟨pw_own_below O1.out.1 (below_alloc (Below.refl _ _) _), by have := O1.out.2; simp; omega⟩⟩ ?_
       rintro v5 ⟨h0, h1, h2⟩
       have B5 := Aside0.mk h0
       have n1 := Aside0.mk h1
       have n2 := Aside0.mk h2
       clear hg h0 h1 h2
       have L9 := n1
       clear n1
       have O1 := n2
       clear n2
       refine hK.out _ _ ⟨(blk_cell (blk_below HS.out B5.out) 3).trans rfl, (blk_cell (blk_below HM.out B5.out) 3).trans rfl, cell_below HZC.out.1 (HB.out.trans (B5.out.mono HB.out.size)), cell_below HZC.out.2 (HB.out.trans (B5.out.mono HB.out.size))⟩ (by trivial) (fun hHeld _ => ?_)
       clear hK K
       refine putG ?_
       refine wpAnyG_only (i := 3) (by kernel_rfl) rfl (fun K hK => ?_)
       refine step_spans (base := wr.heap.size) (ys := []) (xs := xs) (k0 := xs.length) rfl (.tmp 49) (.tmp 51) rfl rfl rfl rfl rfl (by simp) O1.out.1 (Kd.C_below HROW.out B5.out) (by simp; omega) B5.out.size ?_
       intro g3 k3 v6 hg3 ho3 hz3 hr3
       have B6 := Aside0.mk (B5.out.trans hz3)
       have O3 := Aside0.mk ho3
       have n9 := Aside0.mk (And.intro ((hr3.block g9 (blk_lt L9.out.1) (fun e => L9.out.2 (Option.some.inj e).symm)).trans L9.out.1) L9.out.2)
       have L9 := n9
       clear n9 hg3 ho3 hz3 hr3 hHeld
       refine hK.out _ _ ⟨(blk_cell (blk_below HS.out B6.out) 3).trans rfl, (blk_cell (blk_below HM.out B6.out) 3).trans rfl, cell_below HZC.out.1 (HB.out.trans (B6.out.mono HB.out.size)), cell_below HZC.out.2 (HB.out.trans (B6.out.mono HB.out.size))⟩ (by trivial) (fun hHeld _ => ?_)
       clear hK K
       refine putG ?_
       refine wpAnyG_only (i := 10) (by kernel_rfl) rfl (fun K hK => ?_)
       refine step_spans (base := wr.heap.size) (ys := xs) (xs := [Z]) (n := 1) (k0 := xs.length + 1) rfl (.tmp 52) (.tmp 58) rfl rfl rfl rfl rfl (by simp) O3.out (C_one_span Z L9.out.1) (by simp; omega) B6.out.size ?_
       intro g10 k10 v7 hg10 ho10 hz10 hr10
       have B7 := Aside0.mk (B6.out.trans hz10)
       have O10 := Aside0.mk ho10
       clear hg10 ho10 hz10 hr10 hHeld
       refine hK.out _ _ ⟨(blk_cell (blk_below HS.out B7.out) 3).trans rfl, (blk_cell (blk_below HM.out B7.out) 3).trans rfl, cell_below HZC.out.1 (HB.out.trans (B7.out.mono HB.out.size)), cell_below HZC.out.2 (HB.out.trans (B7.out.mono HB.out.size))⟩ (by trivial) (fun hHeld _ => ?_)
       clear hK K
       refine putG ?_
       refine takeG 11 ?_
       have m3 := (blk_cell (blk_below HM.out B7.out) 3).trans rfl
       have mf := blk_frozen (blk_below HM.out B7.out) 3
       have ml := blk_lt (blk_below HM.out B7.out)
       refine wpAnyG_last (i := 12) (by kernel_rfl) rfl (by kernel_rfl) (by kernel_rfl) (fun K hK => ?_)
       go_simp
       refine hK.out _ _ ?_
       clear hK K
       refine doneG ?_
       refine ⟨(g0, g3, k3, g9, g10, k10), ?_, _, rfl, B7.out, O10.out⟩
       simp only [putL, List.foldl, Act.put, List.getElem_toArray, List.getElem_cons_zero, List.getElem_cons_succ, List.setIfInBounds_toArray, List.set_cons_zero, List.set_cons_succ]
     ·
      go_simp
      clear hHeld
      obtain ⟨g9, hg⟩ : ∃ a, v0.heap.size = a := ⟨_, rfl⟩
      try rw [hg]
      refine named (fun w' : World => Below wr.heap.size wr w' ∧ (w'.heap[g9]? = some (.cells #[.int .i64 Z.f0, .int .i64 Z.f1] 24 (0, 0)) ∧ True)) ⟨below_alloc B0.out _, ⟨by rw [← hg]; exact blk_new _ _, trivial⟩⟩ ?_
      rintro v8 ⟨h0, h1⟩
      have B8 := Aside0.mk h0
      have n1 := Aside0.mk h1
      clear hg h0 h1
      have L9 := n1
      clear n1
      refine hK.out _ _ ⟨(blk_cell (blk_below HS.out B8.out) 3).trans rfl, (blk_cell (blk_below HM.out B8.out) 3).trans rfl, cell_below HZC.out.1 (HB.out.trans (B8.out.mono HB.out.size)), cell_below HZC.out.2 (HB.out.trans (B8.out.mono HB.out.size))⟩ (by trivial) (fun hHeld _ => ?_)
      clear hK K
      refine putG ?_
      refine wpAnyG_only (i := 0) (by kernel_rfl) rfl (fun K hK => ?_)
      go_simp
      clear hHeld
      obtain ⟨g0, hg⟩ : ∃ a, v8.heap.size = a := ⟨_, rfl⟩
      try rw [hg]
      refine named (fun w' : World => Below wr.heap.size wr w' ∧ (w'.ownsRow wr.heap.size 24 2 (.slice (some ⟨g0, 0, none⟩) 0 0) 0 [] ∧ g0 < w'.heap.size) ∧ (w'.heap[g9]? = some (.cells #[.int .i64 Z.f0, .int .i64 Z.f1] 24 (0, 0)) ∧ g0 ≠ g9)) ⟨below_alloc B8.out _, ⟨by rw [← hg]; exact own_new0 B8.out.size, by rw [← hg]; simp⟩, ⟨blk_alloc L9.out.1 _, by have := blk_lt L9.out.1; omega⟩⟩ ?_
      rintro v9 ⟨h0, h1, h2⟩
      have B9 := Aside0.mk h0
      have n1 := Aside0.mk h1
      have n2 := Aside0.mk h2
      clear hg h0 h1 h2
      have O1 := n1
      clear n1
      have L9 := n2
      clear n2
      refine hK.out _ _ ⟨(blk_cell (blk_below HS.out B9.out) 3).trans rfl, (blk_cell (blk_below HM.out B9.out) 3).trans rfl, cell_below HZC.out.1 (HB.out.trans (B9.out.mono HB.out.size)), cell_below HZC.out.2 (HB.out.trans (B9.out.mono HB.out.size))⟩ (by trivial) (fun hHeld _ => ?_)
      clear hK K
      refine putG ?_
      refine wpAnyG_only (i := 3) (by kernel_rfl) rfl (fun K hK => ?_)
      refine step_spans (base := wr.heap.size) (ys := []) (xs := xs) (k0 := xs.length) rfl (.tmp 49) (.tmp 51) rfl rfl rfl rfl rfl (by simp) O1.out.1 (Kd.C_below HROW.out B9.out) (by simp; omega) B9.out.size ?_
      intro g3 k3 v10 hg3 ho3 hz3 hr3
      have B10 := Aside0.mk (B9.out.trans hz3)
      have O3 := Aside0.mk ho3
      have n9 := Aside0.mk (And.intro ((hr3.block g9 (blk_lt L9.out.1) (fun e => L9.out.2 (Option.some.inj e).symm)).trans L9.out.1) L9.out.2)
      have L9 := n9
      clear n9 hg3 ho3 hz3 hr3 hHeld
      refine hK.out _ _ ⟨(blk_cell (blk_below HS.out B10.out) 3).trans rfl, (blk_cell (blk_below HM.out B10.out) 3).trans rfl, cell_below HZC.out.1 (HB.out.trans (B10.out.mono HB.out.size)), cell_below HZC.out.2 (HB.out.trans (B10.out.mono HB.out.size))⟩ (by trivial) (fun hHeld _ => ?_)
      clear hK K
      refine putG ?_
      refine wpAnyG_only (i := 10) (by kernel_rfl) rfl (fun K hK => ?_)
      refine step_spans (base := wr.heap.size) (ys := xs) (xs := [Z]) (n := 1) (k0 := xs.length + 1) rfl (.tmp 52) (.tmp 58) rfl rfl rfl rfl rfl (by simp) O3.out (C_one_span Z L9.out.1) (by simp; omega) B10.out.size ?_
      intro g10 k10 v11 hg10 ho10 hz10 hr10
      have B11 := Aside0.mk (B10.out.trans hz10)
      have O10 := Aside0.mk ho10
      clear hg10 ho10 hz10 hr10 hHeld
      refine hK.out _ _ ⟨(blk_cell (blk_below HS.out B11.out) 3).trans rfl, (blk_cell (blk_below HM.out B11.out) 3).trans rfl, cell_below HZC.out.1 (HB.out.trans (B11.out.mono HB.out.size)), cell_below HZC.out.2 (HB.out.trans (B11.out.mono HB.out.size))⟩ (by trivial) (fun hHeld _ => ?_)
      clear hK K
      refine putG ?_
      refine takeG 11 ?_
      have m3 := (blk_cell (blk_below HM.out B11.out) 3).trans rfl
      have mf := blk_frozen (blk_below HM.out B11.out) 3
      have ml := blk_lt (blk_below HM.out B11.out)
      refine wpAnyG_last (i := 12) (by kernel_rfl) rfl (by kernel_rfl) (by kernel_rfl) (fun K hK => ?_)
      go_simp
      refine hK.out _ _ ?_
      clear hK K
      refine doneG ?_
      refine ⟨(g0, g3, k3, g9, g10, k10), ?_, _, rfl, B11.out, O10.out⟩
      simp only [putL, List.foldl, Act.put, List.getElem_toArray, List.getElem_cons_zero, List.getElem_cons_succ, List.setIfInBounds_toArray, List.set_cons_zero, List.set_cons_succ]
    ·
     rintro ⟨g0, g3, k3, g9, g10, k10⟩ w' ⟨w0, rfl, hz0, ho⟩
     simp only [putL, List.foldl, Act.put, List.getElem_toArray, List.getElem_cons_zero, List.getElem_cons_succ, List.setIfInBounds_toArray, List.set_cons_zero, List.set_cons_succ] at hz0 ho ⊢
     have hlq := hqM.out
     have n1 := Aside0.mk (blk_far (p := ⟨M, 3, none⟩) (blk_below HS.out hz0) (show q ≠ M by omega) (.slice (some ⟨g10, 0, none⟩) (xs.length + 1) k10))
     have n2 := Aside0.mk (blk_far (p := ⟨M, 3, none⟩) (blk_below HX.out hz0) (show q + 1 ≠ M by omega) (.slice (some ⟨g10, 0, none⟩) (xs.length + 1) k10))
     have n3 := Aside0.mk (blk_set (blk_below HM.out hz0) 3 (.slice (some ⟨g10, 0, none⟩) (xs.length + 1) k10))
     have n4 : Aside0 (Below w.heap.size w (w0.setCell ⟨M, 3, none⟩ (.slice (some ⟨g10, 0, none⟩) (xs.length + 1) k10))) := ⟨below_set (HB.out.trans (hz0.mono HB.out.size)) hzM.out⟩
     have hxe : (D.sp.drop i).reverse = xs ++ [Z] := by rw [List.drop_eq_getElem_cons (show i < D.sp.length by omega), List.reverse_cons, hxs, ← HZD.out, sp_at _ _ (show i < D.sp.length by omega)]
     have hle : D.sp.length - i = xs.length + 1 := by omega
     have n5 : Aside0 ((w0.setCell ⟨M, 3, none⟩ (.slice (some ⟨g10, 0, none⟩) (xs.length + 1) k10)).ownsRow (M + 1) 24 2 (.slice (some ⟨g10, 0, none⟩) (xs.length + 1) k10) (D.sp.length - i) ((D.sp.drop i).reverse.flatMap encP)) := ⟨by rw [hxe, hle]; rw [List.length_append] at ho; exact own_far (own_mono ho HSZ.out) (p := ⟨M, 3, none⟩) (Nat.lt_succ_self M) _⟩
     have n6 : Aside0 (M + 1 ≤ (w0.setCell ⟨M, 3, none⟩ (.slice (some ⟨g10, 0, none⟩) (xs.length + 1) k10)).heap.size) := ⟨by have h1 := HSZ.out; have h2 := hz0.size; simp only [World.setCell, Array.size_modify]; omega⟩
     rw [← hle] at n1 n2 n3 n4 n5 n6 ⊢
     generalize w0.setCell ⟨M, 3, none⟩ (.slice (some ⟨g10, 0, none⟩) (D.sp.length - i) k10) = w9 at n1 n2 n3 n4 n5 n6 ⊢
     clear HS HX HM HB HO HSZ HROW hz0 ho hxe hle hxl q1 q2 q3 HZC HZD hlq
     have hw : IntKind.i64.wrap ((i : Int) - 1) = (i : Int) - 1 := wrapI (by omega) (by omega)
     go_wp2_with fail
     clear hw
     go_roundw
     case rel => exact ⟨i, some ⟨g10, 0, none⟩, k10, by omega, rfl, n4, n1, n2, n3, n5, n6⟩
     case measure => simp [intOf]
end Go.Proofs.Ytgoidclnccjdeaa.D
end
section
/- Package glass: small arrays of ints that came in as_ arguments, opened. -/
namespace Go.Proofs.Ytgoidclnccjdeaa.D
open Go Go.RowKit Go.ChangeShapes Go.WideShapes Go.Deep
set_option linter.unusedVariables false
set_option linter.unusedSectionVars false
section
variable {H : Type} {enc : TypeId × Value → H} {w : World} {base : Nat} {spare : Nat → Bool} {held : Bool} {P : Program}
theorem okWide_array {n : Nat} {e t : TypeId} {r : Reach} {b0 : Nat} {v : Value} (ht : P.underlying t = some (.array n e)) (h : Value.okWide P w r b0 t v) : ∃ cs, v = .agg cs ∧ cs.size = P.cellsOf t := by
 simp only [Value.okWide, ht] at h
 obtain ⟨cs, h1, h2, _⟩ := h
 exact ⟨cs, h1, h2⟩
theorem open_arr2b' {e t : TypeId} {r : Reach} {b0 : Nat} {v : Value} {d : DataW H} {p : List MemPlace} (ht : P.underlying t = some (.array 2 e)) (hc : P.cellsOf t = 2) (he : P.underlying e = some (.int .u8)) (hc1 : P.cellsOf e = 1)
  (hv : Value.okWide P w r b0 t v) (h : DataW.Trod enc P w base spare held t v d p) : ∃ x0 x1 : Int, v = .agg #[.int .u8 x0, .int .u8 x1] ∧ (Lit.int .u8 x0).wf = true ∧ (Lit.int .u8 x1).wf = true := by
 obtain ⟨cs, rfl, hsz⟩ := okWide_array ht hv
 obtain ⟨fuel, hf⟩ := h
 obtain ⟨xs, m, _, _, _, hl, hi⟩ := DataW.trod_array ht hf
 obtain ⟨L⟩ := cs
 rw [hc] at hsz
 match L, hsz with
 | [c0, c1], _ =>
  have g0 := hi 0 (by decide)
  rw [hc1, List.getElem?_eq_getElem (by omega)] at g0
  obtain ⟨x0, e0, _, w0⟩ := DataW.trod_int he g0
  simp [Value.cells] at e0
  have g1 := hi 1 (by decide)
  rw [hc1, List.getElem?_eq_getElem (by omega)] at g1
  obtain ⟨x1, e1, _, w1⟩ := DataW.trod_int he g1
  simp [Value.cells] at e1
  subst e0 e1
  exact ⟨x0, x1, rfl, w0, w1⟩
end
section
variable {H : Type} {enc : TypeId × Value → H} {w : World} {base : Nat} {spare : Nat → Bool} {held : Bool}
set_option maxRecDepth 100000 in
theorem open_arr2b {t : TypeId} {r : Reach} {b0 : Nat} {v : Value} {d : DataW H} {p : List MemPlace} (ht : Try.prog.underlying t = some (.array 2 5)) (hc : Try.prog.cellsOf t = 2)
  (hv : Value.okWide Try.prog w r b0 t v) (h : DataW.Trod enc Try.prog w base spare held t v d p) : ∃ x0 x1 : Int, v = .agg #[.int .u8 x0, .int .u8 x1] ∧ (Lit.int .u8 x0).wf = true ∧ (Lit.int .u8 x1).wf = true :=
 open_arr2b' ht hc Try.underlying5 (by kernel_rfl) hv h
end
end Go.Proofs.Ytgoidclnccjdeaa.D
end
