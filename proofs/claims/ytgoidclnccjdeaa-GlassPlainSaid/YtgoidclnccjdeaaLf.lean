/- Contracts of the functions that this claim reaches, with the words for them: pruned and packed by wip/tools/prune.py. -/
import Derived.Test.YtgoidclnccjdeaaLe
import Derived.KernelRfl
import Derived.Deep.RegionHeld3
import Derived.Deep.QuietTactic
import Derived.BigQuiet
import Derived.OpenShut
import Derived.Laws.IdiomArrays
section
/- Package glass: what the reference's Check answers is what the program's does. -/
namespace Go.Proofs.Ytgoidclnccjdeaa.D
open Go Go.RowKit Go.Proofs.YtgoidclnccjdeaaK Go.Proofs.YtgoidclnccjdeaaW.PrintWords Go.Proofs.YtgoidclnccjdeaaW.PrintLast Go.Proofs.YtgoidclnccjdeaaW.PrintMore Go.Proofs.Ytgoidclnccjdeaa.PR
set_option linter.unusedVariables false
set_option linter.unusedSimpArgs false

theorem rIn (a lo hi : Int) : r1_In.f a lo hi = some (decide (lo ≤ a ∧ a ≤ hi)) := by
 unfold r1_In.f; split <;> simp [*]
theorem rletter (b : Int) : r1_letter.f b = some (decide (97 ≤ b ∧ b ≤ 122)) := by
 unfold r1_letter.f; split <;> simp <;> omega
theorem rdigit (b : Int) : r1_digit.f b = some (decide (48 ≤ b ∧ b ≤ 57)) := by
 unfold r1_digit.f; split <;> simp <;> omega
theorem wrapN {n : Nat} (h : n < 9223372036854775807) : wrap64 ((n : Int) + 1) = ((n + 1 : Nat) : Int) := by
 unfold wrap64; omega

theorem rName_l0 (s : ByteArray) (hs : s.size ≤ 9223372036854775807) : ∀ (d i : Nat), i + d = s.size → 1 ≤ i → okTo s i = true → Ev (fun k => r1_Name.l0 k s (i : Int)) (okTo s s.size)
 | 0, i, hd, _, h => by
  obtain rfl : i = s.size := by omega
  rw [h]
  exact Ev.step (f := fun _ => some true) (fun k => by simp only [r1_Name.l0]; rw [if_neg (by omega)]) (Ev.now _)
 | d + 1, i, hd, hi, h => by
  by_cases hb : okByte (i == 0) (bt s (i : Int)) = true
  ·
   have h1 : okTo s (i + 1) = true := by rw [okTo_succ, h, hb]; rfl
   have ih := rName_l0 s hs d (i + 1) (by omega) (by omega) h1
   refine Ev.step (f := fun k => r1_Name.l0 k s ((i + 1 : Nat) : Int)) (fun k => ?_) ih
   have hb' := (okByte_iff i _).1 hb
   simp only [r1_Name.l0, rletter, rdigit, Option.bind_some, decide_eq_true_eq]
   rw [if_pos (by omega), if_pos (by omega), wrapN (by omega)]
   split
   ·
    rfl
   ·
    split
    ·
     rfl
    ·
     rw [if_pos (by omega)]
  ·
   have hf : okByte (i == 0) (bt s (i : Int)) = false := by simpa using hb
   have h1 : okTo s (i + 1) = false := by rw [okTo_succ, hf]; simp
   rw [okTo_le s (by omega) h1]
   refine Ev.step (f := fun _ => some false) (fun k => ?_) (Ev.now _)
   have hb' : ¬ ((97 ≤ bt s (i : Int) ∧ bt s (i : Int) ≤ 122) ∨ (0 < i ∧ (bt s (i : Int) = 46 ∨ (48 ≤ bt s (i : Int) ∧ bt s (i : Int) ≤ 57)))) := fun x => hb ((okByte_iff i _).2 x)
   simp only [r1_Name.l0, rletter, rdigit, Option.bind_some, decide_eq_true_eq]
   rw [if_pos (by omega), if_pos (by omega), if_neg (by omega), if_neg (by omega), if_neg (by omega)]

theorem outB_one (lo hi a : Int) : outB lo hi [a] = true ↔ ¬ (lo ≤ a ∧ a ≤ hi) := by
 unfold outB; simp; omega
theorem outB_two (lo hi a b : Int) : outB lo hi [a, b] = true ↔ ¬ ((lo ≤ a ∧ a ≤ hi) ∧ (lo ≤ b ∧ b ≤ hi)) := by
 unfold outB; simp; omega

theorem rName (s : ByteArray) (hs : s.size ≤ 9223372036854775807) : Ev (fun k => r1_Name.f k s) (nameB s) := by
 unfold r1_Name.f
 simp only [rIn, rletter, Option.bind_some, decide_eq_true_eq]
 by_cases h : 1 ≤ (s.size : Int) ∧ (s.size : Int) ≤ 16
 ·
  have e : nameB s = okTo s s.size := by
   have : outB 1 16 [(s.size : Int)] = false := by rw [Bool.eq_false_iff]; exact fun x => (outB_one _ _ _).1 x h
   unfold nameB; rw [this]; rfl
  rw [e]
  refine Ev.congr (f := fun k => r1_Name.j0 k s (!decide (97 ≤ bt s 0 ∧ bt s 0 ≤ 122))) (fun k => by rw [if_pos h, if_pos (by omega)]) ?_
  by_cases hb : 97 ≤ bt s 0 ∧ bt s 0 ≤ 122
  ·
   have h1 : okTo s 1 = true := by
    have := (okByte_iff 0 (bt s ((0 : Nat) : Int))).2 (.inl hb)
    simp only [okTo, List.range_succ, List.range_zero, List.nil_append, List.all_cons, List.all_nil, Bool.and_true]
    exact this
   refine Ev.step (f := fun k => r1_Name.l0 k s ((1 : Nat) : Int)) (fun k => ?_) (rName_l0 s hs (s.size - 1) 1 (by omega) (by omega) h1)
   simp only [r1_Name.j0, decide_eq_true hb]
   rfl
  ·
   have h1 : okTo s 1 = false := by
    have := okByte_not 0 (bt s ((0 : Nat) : Int)) (fun x => by rcases x with x | x; exact hb x; omega)
    simp only [okTo, List.range_succ, List.range_zero, List.nil_append, List.all_cons, List.all_nil, Bool.and_true]
    exact this
   rw [okTo_le s (by omega) h1]
   refine Ev.step (f := fun _ => some false) (fun k => ?_) (Ev.now _)
   simp only [r1_Name.j0, decide_eq_false hb]
   rfl
 ·
  have e : nameB s = false := by
   have : outB 1 16 [(s.size : Int)] = true := (outB_one _ _ _).2 h
   unfold nameB; rw [this]; rfl
  rw [e]
  refine Ev.step (f := fun _ => some false) (fun k => ?_) (Ev.now _)
  rw [if_neg h]
  simp only [r1_Name.j0, if_true]

theorem rEnds (lo hi a b : Int) : Ev (fun k => r1_Ends.f k lo hi a b) (if outB a b [lo, hi] = true then 7 else if hi < lo then 2 else 0) := by
 unfold r1_Ends.f
 simp only [rIn, Option.bind_some, decide_eq_true_eq]
 refine Ev.step (f := fun _ => some (if outB a b [lo, hi] = true then 7 else if hi < lo then 2 else 0)) (fun k => ?_) (Ev.now _)
 simp only [outB_two, r1_Ends.j0]
 by_cases h1 : a ≤ lo ∧ lo ≤ b <;> by_cases h2 : a ≤ hi ∧ hi ≤ b <;> simp [h1, h2] <;> split <;> simp_all <;> omega

theorem rends (lo hi a b : Int) (ha : 0 ≤ a) (hb : b ≤ 1000) : Ev (fun k => r7_ends.f k lo hi a b) (endsE lo hi a b) := by
 unfold r7_ends.f
 refine Ev.bind (rEnds lo hi a b) ?_
 unfold endsE
 by_cases h1 : outB a b [lo, hi] = true
 ·
  simp only [h1, if_true]; rw [if_neg (by decide)]; exact Ev.now _
 ·
  have h2 : (a ≤ lo ∧ lo ≤ b) ∧ (a ≤ hi ∧ hi ≤ b) := by
   by_cases h : (a ≤ lo ∧ lo ≤ b) ∧ (a ≤ hi ∧ hi ≤ b)
   ·
    exact h
   ·
    exact absurd ((outB_two a b lo hi).2 h) h1
  have e : wrap64 (hi - lo) = hi - lo := by unfold wrap64; omega
  have ho := outB_one 0 2 (hi - lo)
  simp only [h1, if_false, e]
  by_cases h3 : hi < lo
  ·
   have : outB 0 2 [hi - lo] = true := ho.2 (by omega)
   simp only [h3, if_true, this]; rw [if_neg (by decide)]; exact Ev.now _
  ·
   simp only [h3, if_false, if_true]
   by_cases h4 : hi - lo > 2
   ·
    have : outB 0 2 [hi - lo] = true := ho.2 (by omega)
    simp only [h4, if_true, this]; exact Ev.now _
   ·
    have : outB 0 2 [hi - lo] = false := by rw [Bool.eq_false_iff]; exact fun x => ho.1 x ⟨by omega, by omega⟩
    simp only [h4, if_false, this]; exact Ev.now _

theorem rWhere0 (names : List ByteArray) (s : ByteArray) (hn : names.length ≤ 1000) : ∀ (d i : Nat), i + d = names.length → Ev (fun k => r1_Where.l0 k names s (i : Int)) (idxFrom (fun x => x.toList == s.toList) (names.drop i) i)
 | 0, i, hd => by
  rw [List.drop_eq_nil_of_le (by omega)]
  exact Ev.step (f := fun _ => some (-1)) (fun k => by simp only [r1_Where.l0]; rw [if_neg (by omega)]) (Ev.now _)
 | d + 1, i, hd => by
  have hi : i < names.length := by omega
  have e : rdOf ByteArray.empty names (i : Int) = names[i] := by simp [rdOf, hi]
  rw [List.drop_eq_getElem_cons hi]
  by_cases h : names[i].toList = s.toList
  ·
   refine Ev.step (f := fun _ => some (i : Int)) (fun k => ?_) (by simp only [idxFrom, h, beq_self_eq_true, if_true]; exact Ev.now _)
   simp only [r1_Where.l0, e]
   rw [if_pos (by omega), if_pos (by omega), if_pos h]
  ·
   refine Ev.step (f := fun k => r1_Where.l0 k names s ((i + 1 : Nat) : Int)) (fun k => ?_) ?_
   ·
    simp only [r1_Where.l0, e]
    rw [if_pos (by omega), if_pos (by omega), if_neg h, wrapN (by omega)]
   ·
    have hf : (names[i].toList == s.toList) = false := by simpa using h
    simp only [idxFrom, hf, Bool.false_eq_true, if_false]
    exact rWhere0 names s hn d (i + 1) (by omega)
theorem rWhere (names : List ByteArray) (s : ByteArray) (hn : names.length ≤ 1000) : Ev (fun k => r1_Where.f k names s) (idxFrom (fun x => x.toList == s.toList) names 0) := by
 have := rWhere0 names s hn names.length 0 (by omega)
 simpa [r1_Where.f] using this
theorem rFresh (s : ByteArray) (names : List ByteArray) (hs : s.size ≤ 9223372036854775807) (hn : names.length ≤ 1000) :
  Ev (fun k => r1_Fresh.f k s names) (if nameB s = false then 6 else if names.any (fun x => x.toList == s.toList) then 5 else 0) := by
 unfold r1_Fresh.f
 refine Ev.bind (rName s hs) ?_
 cases h : nameB s
 ·
  simp only [Bool.false_eq_true, if_false, if_true]; exact Ev.now _
 ·
  simp only [if_true, Bool.true_eq_false, if_false]
  refine Ev.bind (rWhere names s hn) ?_
  have hp := idxFrom_pos (fun x : ByteArray => x.toList == s.toList) names 0
  rw [← hp]
  by_cases h0 : 0 ≤ idxFrom (fun x : ByteArray => x.toList == s.toList) names 0
  ·
   rw [if_pos h0, decide_eq_true h0, if_pos rfl]; exact Ev.now _
  ·
   rw [if_neg h0, decide_eq_false h0, if_neg (by decide)]; exact Ev.now _

theorem rall0 (m : Nat) (hm : m ≤ 62) : ∀ (d i : Nat), i + d = m → Ev (fun k => r7_all.l0 k (m : Int) (((2 ^ i : Nat) : Int) - 1) (i : Int)) (((2 ^ m : Nat) : Int) - 1)
 | 0, i, hd => by
  obtain rfl : i = m := by omega
  exact Ev.step (f := fun _ => some _) (fun k => by simp only [r7_all.l0]; rw [if_neg (by omega)]) (Ev.now _)
 | d + 1, i, hd => by
  refine Ev.step (f := fun k => r7_all.l0 k (m : Int) (((2 ^ (i + 1) : Nat) : Int) - 1) ((i + 1 : Nat) : Int)) (fun k => ?_) (rall0 m hm d (i + 1) (by omega))
  have h2 : 2 ^ (i + 1) ≤ 2 ^ 62 := Nat.pow_le_pow_right (by decide) (by omega)
  have h3 : 2 ^ (i + 1) = 2 * 2 ^ i := by rw [Nat.pow_succ]; omega
  have h4 : (2 : Nat) ^ 62 = 4611686018427387904 := by decide
  have e1 : wrap64 (2 * (((2 ^ i : Nat) : Int) - 1)) = 2 * (((2 ^ i : Nat) : Int) - 1) := by
   generalize 2 ^ i = x at *; rw [h4] at h2; unfold wrap64; omega
  have e2 : wrap64 (2 * (((2 ^ i : Nat) : Int) - 1) + 1) = ((2 ^ (i + 1) : Nat) : Int) - 1 := by
   rw [h3] at h2 ⊢
   generalize 2 ^ i = x at *; rw [h4] at h2; unfold wrap64; omega
  simp only [r7_all.l0]
  rw [if_pos (by omega), e1, e2, wrapN (by omega)]
theorem rall (m : Nat) (hm : m ≤ 62) : Ev (fun k => r7_all.f k (m : Int)) (((2 ^ m : Nat) : Int) - 1) := rall0 m hm m 0 (by omega)
theorem rdrawing (D : Dat) (d : Dr) (hg : D.gl.length ≤ 9223372036854775807) (hs : D.sp.length ≤ 62) (i : Nat) :
  Ev (fun k => r7_drawing.f k D.gl D.lo D.hi D.sp D.dr d.f0 d.f1 d.f2) (errD D.gl.length D.sp.length i d) := by
 unfold r7_drawing.f errD
 have e : wrap64 ((D.gl.length : Int) - 1) = (D.gl.length : Int) - 1 := by unfold wrap64; omega
 simp only [rIn, e, Option.bind_some, decide_eq_true_eq]
 have o1 := outB_one (-1) ((D.gl.length : Int) - 1) d.f0
 have o2 := outB_one 0 9 d.f1
 have o3 := outB_one 0 (((2 ^ D.sp.length : Nat) : Int) - 1) d.f2
 by_cases h1 : -1 ≤ d.f0 ∧ d.f0 ≤ (D.gl.length : Int) - 1
 ·
  rw [Bool.eq_false_iff.2 (fun x => o1.1 x h1)]
  simp only [h1, and_self, if_true, Bool.false_eq_true, if_false]
  by_cases h2 : 0 ≤ d.f1 ∧ d.f1 ≤ 9
  ·
   rw [Bool.eq_false_iff.2 (fun x => o2.1 x h2)]
   simp only [h2, and_self, if_true, Bool.false_eq_true, if_false]
   refine Ev.bind (rall D.sp.length hs) ?_
   by_cases h3 : 0 ≤ d.f2 ∧ d.f2 ≤ ((2 ^ D.sp.length : Nat) : Int) - 1
   ·
    rw [Bool.eq_false_iff.2 (fun x => o3.1 x h3), if_pos h3]; exact Ev.now _
   ·
    rw [o3.2 h3, if_neg h3]; exact Ev.now _
  ·
   rw [o2.2 h2]; simp only [h2, if_false, if_true]; exact Ev.now _
 ·
  rw [o1.2 h1]; simp only [h1, if_false, if_true]; exact Ev.now _

def drF (D : Dat) (i : Nat) : Int × Int × Int := if (firstE (errD D.gl.length D.sp.length) (D.dr.drop i) i).2 ≠ 0 then (4, firstE (errD D.gl.length D.sp.length) (D.dr.drop i) i) else (0, 0, 0)
def drE (D : Dat) : Int × Int × Int := if (firstL D.dr 0 4 (errD D.gl.length D.sp.length)).2 ≠ 0 then (4, firstL D.dr 0 4 (errD D.gl.length D.sp.length)) else (0, 0, 0)
def spFr (D : Dat) (i : Nat) : Int × Int × Int := if (firstE errP (D.sp.drop i) i).2 ≠ 0 then (3, firstE errP (D.sp.drop i) i) else drE D
def spE (D : Dat) : Int × Int × Int := if (firstL D.sp 0 4 errP).2 ≠ 0 then (3, firstL D.sp 0 4 errP) else drE D
def glE (D : Dat) : Int × Int × Int := if endsE D.lo D.hi 0 3 ≠ 0 then (2, 0, endsE D.lo D.hi 0 3) else spE D
def glF (D : Dat) (i : Nat) : Int × Int × Int := if (firstE (errG D.gl) (D.gl.drop i) i).2 ≠ 0 then (1, firstE (errG D.gl) (D.gl.drop i) i) else glE D
theorem firstE_drop {α : Type} (E : Nat → α → Int) (l : List α) (i : Nat) (h : i < l.length) : firstE E (l.drop i) i = if E i l[i] = 0 then firstE E (l.drop (i + 1)) (i + 1) else (((i : Nat) : Int), E i l[i]) := by
 rw [List.drop_eq_getElem_cons h]; rfl
theorem rCheck_l2 (D : Dat) (hg : D.gl.length ≤ 1000) (hs : D.sp.length ≤ 62) (hd : D.dr.length ≤ 1000) : ∀ (d i : Nat), i + d = D.dr.length →
  Ev (fun k => r7_Check.l2 k (i : Int) D.gl D.lo D.hi D.sp D.dr) (drF D i)
 | 0, i, h => by
  have e : drF D i = (0, 0, 0) := by unfold drF; rw [List.drop_eq_nil_of_le (by omega)]; rfl
  rw [e]
  exact Ev.step (f := fun _ => some (0, 0, 0)) (fun k => by simp only [r7_Check.l2]; rw [if_neg (by omega)]) (Ev.now _)
 | d + 1, i, h => by
  have hi : i < D.dr.length := by omega
  have ih := rCheck_l2 D hg hs hd d (i + 1) (by omega)
  have e : drF D i = if errD D.gl.length D.sp.length i D.dr[i] = 0 then drF D (i + 1) else (4, (i : Int), errD D.gl.length D.sp.length i D.dr[i]) := by
   unfold drF
   rw [firstE_drop _ _ _ hi]
   by_cases e : errD D.gl.length D.sp.length i D.dr[i] = 0
   ·
    simp only [if_pos e]
   ·
    simp only [if_neg e, ne_eq]; rw [if_pos e]
  rw [e]
  refine Ev.step (f := fun k => (r7_drawing.f k D.gl D.lo D.hi D.sp D.dr D.dr[i].f0 D.dr[i].f1 D.dr[i].f2).bind fun t => if t = 0 then r7_Check.l2 k ((i + 1 : Nat) : Int) D.gl D.lo D.hi D.sp D.dr else some (4, (i : Int), t)) (fun k => ?_) ?_
  ·
   simp only [r7_Check.l2, dr_at _ _ hi]
   rw [if_pos (by omega), if_pos (by omega), wrapN (by omega)]
  ·
   refine Ev.bind (rdrawing D D.dr[i] (by omega) hs i) ?_
   by_cases e : errD D.gl.length D.sp.length i D.dr[i] = 0
   ·
    simp only [if_pos e]; exact ih
   ·
    simp only [if_neg e]; exact Ev.now _
theorem rCheck_l1 (D : Dat) (hg : D.gl.length ≤ 1000) (hs : D.sp.length ≤ 62) (hd : D.dr.length ≤ 9223372036854775807) : ∀ (d i : Nat), i + d = D.sp.length →
  Ev (fun k => r7_Check.l1 k (i : Int) D.gl D.lo D.hi D.sp D.dr) (spFr D i)
 | 0, i, h => by
  have e : spFr D i = drE D := by unfold spFr; rw [List.drop_eq_nil_of_le (by omega)]; rfl
  rw [e]
  by_cases h4 : (D.dr.length : Int) > 4
  ·
   have e : drE D = (4, 0, 3) := by
    have : outB 0 4 [(D.dr.length : Int)] = true := (outB_one _ _ _).2 (by omega)
    unfold drE firstL; rw [this]; rfl
   rw [e]
   exact Ev.step (f := fun _ => some (4, 0, 3)) (fun k => by simp only [r7_Check.l1]; rw [if_neg (by omega), if_pos h4]) (Ev.now _)
  ·
   have e : drE D = drF D 0 := by
    have : outB 0 4 [(D.dr.length : Int)] = false := by rw [Bool.eq_false_iff]; exact fun x => (outB_one _ _ _).1 x ⟨by omega, by omega⟩
    unfold drE firstL; rw [this]; rfl
   rw [e]
   exact Ev.step (f := fun k => r7_Check.l2 k ((0 : Nat) : Int) D.gl D.lo D.hi D.sp D.dr) (fun k => by simp only [r7_Check.l1]; rw [if_neg (by omega), if_neg h4]; rfl) (rCheck_l2 D hg hs (by omega) _ 0 (Nat.zero_add _))
 | d + 1, i, h => by
  have hi : i < D.sp.length := by omega
  have ih := rCheck_l1 D hg hs hd d (i + 1) (by omega)
  have e : spFr D i = if errP i D.sp[i] = 0 then spFr D (i + 1) else (3, (i : Int), errP i D.sp[i]) := by
   unfold spFr
   rw [firstE_drop _ _ _ hi]
   by_cases e : errP i D.sp[i] = 0
   ·
    simp only [if_pos e]
   ·
    simp only [if_neg e, ne_eq]; rw [if_pos e]
  rw [e]
  refine Ev.step (f := fun k => (r7_ends.f k D.sp[i].f0 D.sp[i].f1 1 60).bind fun t => if t = 0 then r7_Check.l1 k ((i + 1 : Nat) : Int) D.gl D.lo D.hi D.sp D.dr else some (3, (i : Int), t)) (fun k => ?_) ?_
  ·
   simp only [r7_Check.l1, sp_at _ _ hi]
   rw [if_pos (by omega), if_pos (by omega), wrapN (by omega)]
  ·
   refine Ev.bind (rends _ _ 1 60 (by decide) (by decide)) ?_
   show Ev (fun n => if errP i D.sp[i] = 0 then _ else some (3, (i : Int), errP i D.sp[i])) _
   by_cases e : errP i D.sp[i] = 0
   ·
    simp only [if_pos e]; exact ih
   ·
    simp only [if_neg e]; exact Ev.now _
theorem rCheck_l0 (D : Dat) (hn : ∀ x ∈ D.gl, x.f0.size ≤ 9223372036854775807) (hg : D.gl.length ≤ 1000) (hs : D.sp.length ≤ 9223372036854775807) (hd : D.dr.length ≤ 9223372036854775807) : ∀ (d i : Nat), i + d = D.gl.length →
  Ev (fun k => r7_Check.l0 k ((D.gl.take i).map fun x => x.f0) (i : Int) D.gl D.lo D.hi D.sp D.dr) (glF D i)
 | 0, i, h => by
  have e : glF D i = glE D := by unfold glF; rw [List.drop_eq_nil_of_le (by omega)]; rfl
  rw [e]
  refine Ev.step (f := fun k => (r7_ends.f k D.lo D.hi 0 3).bind fun t => if t = 0 then (if (D.sp.length : Int) > 4 then some (3, 0, 3) else r7_Check.l1 k 0 D.gl D.lo D.hi D.sp D.dr) else some (2, 0, t)) (fun k => by simp only [r7_Check.l0]; rw [if_neg (by omega)]) ?_
  refine Ev.bind (rends _ _ 0 3 (by decide) (by decide)) ?_
  unfold glE
  by_cases e : endsE D.lo D.hi 0 3 = 0
  ·
   simp only [if_pos e, e, ne_eq, not_true_eq_false, if_false]
   by_cases h4 : (D.sp.length : Int) > 4
   ·
    have e : spE D = (3, 0, 3) := by
     have : outB 0 4 [(D.sp.length : Int)] = true := (outB_one _ _ _).2 (by omega)
     unfold spE firstL; rw [this]; rfl
    rw [e]; simp only [if_pos h4]; exact Ev.now _
   ·
    have e : spE D = spFr D 0 := by
     have : outB 0 4 [(D.sp.length : Int)] = false := by rw [Bool.eq_false_iff]; exact fun x => (outB_one _ _ _).1 x ⟨by omega, by omega⟩
     unfold spE firstL; rw [this]; rfl
    rw [e]; simp only [if_neg h4]; exact rCheck_l1 D hg (by omega) hd _ 0 (Nat.zero_add _)
  ·
   simp only [if_neg e, ne_eq, e, not_false_eq_true, if_true]; exact Ev.now _
 | d + 1, i, h => by
  have hi : i < D.gl.length := by omega
  have ih := rCheck_l0 D hn hg hs hd d (i + 1) (by omega)
  have e : glF D i = if errG D.gl i D.gl[i] = 0 then glF D (i + 1) else (1, (i : Int), errG D.gl i D.gl[i]) := by
   unfold glF
   rw [firstE_drop _ _ _ hi]
   by_cases e : errG D.gl i D.gl[i] = 0
   ·
    simp only [if_pos e]
   ·
    simp only [if_neg e, ne_eq]; rw [if_pos e]
  rw [e]
  have hl : ((D.gl.take i).map fun x => x.f0).length = i := by simp; omega
  have hx : (D.gl.take i).map (fun x => x.f0) ++ [D.gl[i].f0] = (D.gl.take (i + 1)).map fun x => x.f0 := by
   rw [List.take_add_one, List.getElem?_eq_getElem hi, List.map_append]; rfl
  refine Ev.step (f := fun k => (r1_Fresh.f k D.gl[i].f0 ((D.gl.take i).map fun x => x.f0)).bind fun t => if t = 0 then ((r7_ends.f k D.gl[i].f1.f0 D.gl[i].f1.f1 1 40).bind fun u => if u = 0 then r7_Check.l0 k ((D.gl.take (i + 1)).map fun x => x.f0) ((i + 1 : Nat) : Int) D.gl D.lo D.hi D.sp D.dr else some (1, (i : Int), u)) else some (1, (i : Int), t)) (fun k => ?_) ?_
  ·
   simp only [r7_Check.l0, gl_at _ _ hi, hx]
   rw [if_pos (by omega), if_pos (by omega), wrapN (by omega)]
   congr 1
   funext t
   rw [if_pos (by rw [hl]; omega)]
  ·
   refine Ev.bind (rFresh _ _ (hn _ (List.getElem_mem hi)) (by rw [hl]; omega)) ?_
   have ha : ((D.gl.take i).map fun x => x.f0).any (fun x => x.toList == D.gl[i].f0.toList) = (D.gl.take i).any (sameName D.gl[i]) := by
    rw [List.any_map]; rfl
   rw [ha]
   unfold errG
   cases hnb : nameB D.gl[i].f0
   ·
    simp only [if_true]; exact Ev.congr (f := fun _ => some (1, (i : Int), 6)) (fun k => rfl) (Ev.now _)
   ·
    simp only [Bool.true_eq_false, if_false]
    cases hsn : (D.gl.take i).any (sameName D.gl[i])
    ·
     simp only [Bool.false_eq_true, if_false, if_true]
     refine Ev.bind (rends _ _ 1 40 (by decide) (by decide)) ?_
     by_cases e : endsE D.gl[i].f1.f0 D.gl[i].f1.f1 1 40 = 0
     ·
      simp only [if_pos e]; exact ih
     ·
      simp only [if_neg e]; exact Ev.now _
    ·
     simp only [if_true]; exact Ev.congr (f := fun _ => some (1, (i : Int), 5)) (fun k => rfl) (Ev.now _)
theorem rCheck (D : Dat) (hn : ∀ x ∈ D.gl, x.f0.size ≤ 9223372036854775807) (hg : D.gl.length ≤ 9223372036854775807) (hs : D.sp.length ≤ 9223372036854775807) (hd : D.dr.length ≤ 9223372036854775807) :
  Ev (fun k => r7_Check.f k D.gl D.lo D.hi D.sp D.dr) (checkF D) := by
 unfold r7_Check.f
 simp only [rIn, Option.bind_some, decide_eq_true_eq]
 have o := outB_one 1 3 (D.gl.length : Int)
 have e0 : checkF D = if (firstL D.gl 1 3 (errG D.gl)).2 ≠ 0 then (1, firstL D.gl 1 3 (errG D.gl)) else glE D := rfl
 rw [e0]
 by_cases h : 1 ≤ (D.gl.length : Int) ∧ (D.gl.length : Int) ≤ 3
 ·
  have e : (if (firstL D.gl 1 3 (errG D.gl)).2 ≠ 0 then (1, firstL D.gl 1 3 (errG D.gl)) else glE D) = glF D 0 := by
   unfold firstL; rw [Bool.eq_false_iff.2 (fun x => o.1 x h)]; rfl
  rw [e]
  simp only [h, and_self, if_true]
  exact rCheck_l0 D hn (by omega) hs hd _ 0 (Nat.zero_add _)
 ·
  have e : (if (firstL D.gl 1 3 (errG D.gl)).2 ≠ 0 then (1, firstL D.gl 1 3 (errG D.gl)) else glE D) = (1, 0, 3) := by
   unfold firstL; rw [o.2 h]; rfl
  rw [e]
  simp only [h, if_false]
  exact Ev.now _
theorem rd_nat (l : List Int) (k : Nat) : rd l (k : Int) = l.getD k 0 := by simp [rd]
theorem rHas0 (but : List Int) (hb : but.length ≤ 1000) (x : Int) (d : Nat) : ∀ (j : Nat), j + d = but.length → Ev (fun f => r1_Has.l0 f but x (j : Int)) ((but.drop j).any fun y => y == x) := by
 induction d with
 | zero =>
  intro j hd
  rw [List.drop_eq_nil_of_le (by omega)]
  refine Ev.step (f := fun _ => some false) (fun f => ?_) (Ev.now _)
  simp only [r1_Has.l0]
  rw [if_neg (by omega)]
 | succ d ih =>
  intro j hd
  have hj : j < but.length := by omega
  have e : rd but (j : Int) = but[j] := by rw [rd_nat, List.getD_eq_getElem?_getD, List.getElem?_eq_getElem hj]; rfl
  rw [List.drop_eq_getElem_cons hj, List.any_cons]
  by_cases h : but[j] = x
  ·
   rw [beq_iff_eq.2 h, Bool.true_or]
   refine Ev.step (f := fun _ => some true) (fun f => ?_) (Ev.now _)
   simp only [r1_Has.l0, e]
   rw [if_pos (by omega), if_pos (by omega), if_pos h]
  ·
   have hf : (but[j] == x) = false := by simpa using h
   rw [hf, Bool.false_or]
   refine Ev.step (f := fun f => r1_Has.l0 f but x ((j + 1 : Nat) : Int)) (fun f => ?_) (ih (j + 1) (by omega))
   simp only [r1_Has.l0, e]
   rw [if_pos (by omega), if_pos (by omega), if_neg h, wrapN (by omega)]
def hasB (but : List Int) (x : Nat) : Bool := but.any fun y => y == (x : Int)
theorem rHas (but : List Int) (hb : but.length ≤ 1000) (x : Nat) : Ev (fun f => r1_Has.f f but (x : Int)) (hasB but x) := rHas0 but hb x but.length 0 (by omega)

end Go.Proofs.Ytgoidclnccjdeaa.D
end
section
/- Package glass, plain: the numbers of all truths without drawings, as_ the program and as_ the reference go through them. -/
namespace Go.Proofs.Ytgoidclnccjdeaa.M
set_option linter.unusedVariables false

def vec (a : List Int) (n : Int) (b : List Int) : List Int := a ++ (List.replicate (3 - a.length) 0 ++ (n :: (b ++ List.replicate (4 - b.length) 0)))
def allL (g : List (Int × Int)) (d : Int × Int) (s : List (Int × Int)) : List (List Int × Int × List Int) :=
 (prodL g).flatMap fun a => (rng d.1 d.2).flatMap fun n => (prodL s).map fun b => (a, n, b)
end Go.Proofs.Ytgoidclnccjdeaa.M
end
section
/- Package glass: the reference's lists of a number of each span, and all truths without drawings. -/
namespace Go.Proofs.Ytgoidclnccjdeaa.D
open Go Go.RowKit Go.Proofs.YtgoidclnccjdeaaK Go.Proofs.YtgoidclnccjdeaaW.PrintWords Go.Proofs.YtgoidclnccjdeaaW.PrintLast Go.Proofs.YtgoidclnccjdeaaW.PrintMore Go.Proofs.Ytgoidclnccjdeaa.PR Go.Proofs.Ytgoidclnccjdeaa.M
set_option linter.unusedVariables false
set_option linter.unusedSimpArgs false

abbrev pr (s : Sp) : Int × Int := (s.f0, s.f1)

end Go.Proofs.Ytgoidclnccjdeaa.D
end
section
/- Package glass: all truths without drawings, as_ the reference has them. -/
namespace Go.Proofs.Ytgoidclnccjdeaa.D
open Go Go.RowKit Go.Proofs.YtgoidclnccjdeaaK Go.Proofs.YtgoidclnccjdeaaW.PrintWords Go.Proofs.YtgoidclnccjdeaaW.PrintLast Go.Proofs.YtgoidclnccjdeaaW.PrintMore Go.Proofs.Ytgoidclnccjdeaa.PR Go.Proofs.Ytgoidclnccjdeaa.M
set_option linter.unusedVariables false
set_option linter.unusedSimpArgs false

abbrev glS (D : Dat) : List (Int × Int) := D.gl.map fun g => (g.f1.f0, g.f1.f1)
abbrev spS (D : Dat) : List (Int × Int) := D.sp.map pr
end Go.Proofs.Ytgoidclnccjdeaa.D
end
section
/- Package glass: what is seen, and the glasses of a drawing, as_ the reference has them; its truths. -/
namespace Go.Proofs.Ytgoidclnccjdeaa.D
open Go Go.RowKit Go.Proofs.YtgoidclnccjdeaaK Go.Proofs.YtgoidclnccjdeaaW.PrintWords Go.Proofs.YtgoidclnccjdeaaW.PrintLast Go.Proofs.YtgoidclnccjdeaaW.PrintMore Go.Proofs.Ytgoidclnccjdeaa.PR Go.Proofs.Ytgoidclnccjdeaa.M
set_option linter.unusedVariables false
set_option linter.unusedSimpArgs false

abbrev Tr := List Int × Int × List Int
abbrev V8 (t : Tr) : List Int := vec t.1 t.2.1 t.2.2
abbrev allD (D : Dat) : List Tr := allL (glS D) (D.lo, D.hi) (spS D)
section
variable {D : Dat} (h : Valid D) {t : Tr} (ht : t ∈ allD D)
include h ht
end
theorem seenTo_testBit (n : Nat → Int) (g : Nat) (y : Int) : ∀ (k i : Nat), (seenTo n g y k).testBit i = (decide (i < k) && seenB n g y i)
 | 0, i => by simp [seenTo]
 | k + 1, i => by
  have ih := seenTo_testBit n g y k i
  unfold seenTo
  by_cases hs : seenB n g y k = true
  ·
   rw [if_pos hs, Nat.testBit_or, ih, Nat.testBit_two_pow]
   by_cases e : i = k
   ·
    subst e; simp [hs]
   ·
    have h2 : decide (k = i) = false := by simp; omega
    rw [h2, Bool.or_false]
    congr 1
    rw [decide_eq_decide]; omega
  ·
   rw [if_neg hs, ih]
   by_cases e : i = k
   ·
    subst e; simp [hs]
   ·
    congr 1
    rw [decide_eq_decide]; omega
end Go.Proofs.Ytgoidclnccjdeaa.D
end
section
/- Package glass: the reference's truths are the program's. -/
namespace Go.Proofs.Ytgoidclnccjdeaa.D
open Go Go.RowKit Go.Proofs.YtgoidclnccjdeaaK Go.Proofs.YtgoidclnccjdeaaW.PrintWords Go.Proofs.YtgoidclnccjdeaaW.PrintLast Go.Proofs.YtgoidclnccjdeaaW.PrintMore Go.Proofs.Ytgoidclnccjdeaa.PR Go.Proofs.Ytgoidclnccjdeaa.M
set_option linter.unusedVariables false
set_option linter.unusedSimpArgs false

def usedL (D : Dat) (t : Tr) (d : Dr) : List Nat := (List.range D.gl.length).filter (thrB D (fn (V8 t)) d)
def ownL (D : Dat) (but : List Int) (t : Tr) (i : Nat) : List Int := if hasB but i = true then [] else ints (usedL D t (rd_T72 D.dr i))
end Go.Proofs.Ytgoidclnccjdeaa.D
end
section
/- Package glass: the reference's known and index. -/
namespace Go.Proofs.Ytgoidclnccjdeaa.D
open Go Go.RowKit Go.Proofs.YtgoidclnccjdeaaK Go.Proofs.YtgoidclnccjdeaaW.PrintWords Go.Proofs.YtgoidclnccjdeaaW.PrintLast Go.Proofs.YtgoidclnccjdeaaW.PrintMore Go.Proofs.Ytgoidclnccjdeaa.PR Go.Proofs.Ytgoidclnccjdeaa.M
set_option linter.unusedVariables false
set_option linter.unusedSimpArgs false

structure Fits (D : Dat) : Prop where
 nm : ∀ x ∈ D.gl, x.f0.size ≤ 9223372036854775807
 g : D.gl.length ≤ 9223372036854775807
 s : D.sp.length ≤ 9223372036854775807
 d : D.dr.length ≤ 9223372036854775807
theorem Arg.fits {w : World} {D : Dat} {A0 : Option Addr} {c0 : Nat} {A3 : Option Addr} {c3 : Nat} {A4 : Option Addr} {c4 : Nat} (h : Arg w D A0 c0 A3 c3 A4 c4) : Fits D := ⟨h.gn, h.g.2.1, h.s.2.1, h.d.2.1⟩
theorem rCheck' {D : Dat} (h : Fits D) : Ev (fun k => r7_Check.f k D.gl D.lo D.hi D.sp D.dr) (checkF D) := rCheck D h.nm h.g h.s h.d
end Go.Proofs.Ytgoidclnccjdeaa.D
end
section
/- Package glass: the reference's Used. -/
namespace Go.Proofs.Ytgoidclnccjdeaa.D
open Go Go.RowKit Go.Proofs.YtgoidclnccjdeaaK Go.Proofs.YtgoidclnccjdeaaW.PrintWords Go.Proofs.YtgoidclnccjdeaaW.PrintLast Go.Proofs.YtgoidclnccjdeaaW.PrintMore Go.Proofs.Ytgoidclnccjdeaa.PR Go.Proofs.Ytgoidclnccjdeaa.M
set_option linter.unusedVariables false
set_option linter.unusedSimpArgs false

theorem hasB_ints (l : List Nat) (g : Nat) : hasB (ints l) g = l.contains g := by
 unfold hasB ints
 rw [List.any_map, Bool.eq_iff_iff]
 simp only [List.any_eq_true, Function.comp, beq_iff_eq, List.contains_iff_mem]
 constructor
 ·
  rintro ⟨x, hx, e⟩
  have : x = g := Int.ofNat.inj e
  exact this ▸ hx
 ·
  intro hg; exact ⟨g, hg, rfl⟩
theorem own_nil (D : Dat) (t : Tr) (i : Nat) : ownL D [] t i = ints (usedL D t (rd_T72 D.dr i)) := by
 unfold ownL; rw [if_neg (by simp [hasB])]
section
variable {D : Dat} (h : Valid D) {d : Nat} (hd : d < D.dr.length)
include h hd
end
end Go.Proofs.Ytgoidclnccjdeaa.D
end
section
/- Package glass: the reference's Sees. -/
namespace Go.Proofs.Ytgoidclnccjdeaa.D
open Go Go.RowKit Go.Proofs.YtgoidclnccjdeaaK Go.Proofs.YtgoidclnccjdeaaW.PrintWords Go.Proofs.YtgoidclnccjdeaaW.PrintLast Go.Proofs.YtgoidclnccjdeaaW.PrintMore Go.Proofs.Ytgoidclnccjdeaa.PR Go.Proofs.Ytgoidclnccjdeaa.M
set_option linter.unusedVariables false
set_option linter.unusedSimpArgs false

theorem mayN_testBit (D : Dat) (g : Nat) (y : Int) (i : Nat) (l : List (List Int)) : (mayN D g y l).testBit i = l.any fun x => (seeL D g y x).testBit i := by
 induction l using list_snoc with
 | h0 => simp [mayN]
 | h1 l x ih => rw [mayN_snoc, Nat.testBit_or, ih, List.any_append]; simp
theorem sureO_testBit (D : Dat) (g : Nat) (y : Int) (i : Nat) (l : List (List Int)) : ∀ a, sureO D g y l = some a → a.testBit i = l.all fun x => (seeL D g y x).testBit i := by
 induction l using list_snoc with
 | h0 => intro a h; simp [sureO] at h
 | h1 l x ih =>
  intro a h
  rw [sureO_snoc] at h
  cases hs : sureO D g y l with
  | none =>
   have hl : l = [] := by
    cases l with
    | nil => rfl
    | cons z t => exact absurd hs (by rw [sureO_some (by simp)]; simp)
   subst hl
   rw [hs] at h
   have := Option.some.inj h
   rw [← this]; simp
  | some b =>
   rw [hs] at h
   have := Option.some.inj h
   rw [← this, Nat.testBit_and, ih b hs, List.all_append]; simp
theorem sureN_testBit {D : Dat} {g : Nat} {y : Int} {i : Nat} {l : List (List Int)} (h : l ≠ []) : (sureN D g y l).testBit i = l.all fun x => (seeL D g y x).testBit i := sureO_testBit D g y i l _ (sureO_some h)
theorem seeL_bit (D : Dat) (g : Nat) (y : Int) (x : List Int) (i : Nat) (hi : i < D.sp.length) : (seeL D g y x).testBit i = seenB (fn x) g y i := by
 unfold seeL; rw [seenTo_testBit]; simp [hi]
section
variable {D : Dat} (h : Valid D) {g : Nat} (hg : g < D.gl.length) {y : Int} (hy : 0 ≤ y ∧ y ≤ 9)
include h hg hy
end
section
variable {D : Dat} (h : Valid D) {g : Nat} (hg : g < D.gl.length) {y : Int} (hy : 0 ≤ y ∧ y ≤ 9) (hne : truthsL D 0 ≠ [])
include h hg hy hne
end
end Go.Proofs.Ytgoidclnccjdeaa.D
end
section
/- Package independent: the fewest of some things: the sets in order, what a search over all sets names. -/
namespace Go.Proofs.YtgoidclnccjdeaaK
open Go
set_option linter.unusedVariables false
set_option linter.unusedSimpArgs false

def cmpZ : List Int → List Int → Int
 | [], [] => 0
 | [], _ :: _ => -1
 | _ :: _, [] => 1
 | a :: l, b :: m => if (if a < b then (-1 : Int) else if b < a then 1 else 0) = 0 then cmpZ l m else (if a < b then -1 else if b < a then 1 else 0)
abbrev natZ (l : List Nat) : List Int := l.map Int.ofNat
def bitsL (set n : Nat) : List Nat := (List.range n).filter fun i => set.testBit i
def wStep (m : Nat) (P : Nat → Bool) (set : Nat) (s : Option (List Nat)) : Option (List Nat) :=
 if (match s with | some b => decide (b.length < (bitsL set m).length) || ((bitsL set m).length == b.length && decide (0 < cmpZ (natZ (bitsL set m)) (natZ b))) | none => false) = true then s
 else if P set = true then some (bitsL set m) else s
def wTo (m : Nat) (P : Nat → Bool) (k : Nat) : Option (List Nat) := (List.range k).foldl (fun s set => wStep m P set s) none
end Go.Proofs.YtgoidclnccjdeaaK
end
section
/- Package glass: the reference's two, Part and Wrong. -/
namespace Go.Proofs.Ytgoidclnccjdeaa.D
open Go Go.RowKit Go.Proofs.YtgoidclnccjdeaaK Go.Proofs.YtgoidclnccjdeaaW.PrintWords Go.Proofs.YtgoidclnccjdeaaW.PrintLast Go.Proofs.YtgoidclnccjdeaaW.PrintMore Go.Proofs.Ytgoidclnccjdeaa.PR Go.Proofs.Ytgoidclnccjdeaa.M
set_option linter.unusedVariables false
set_option linter.unusedSimpArgs false

section
variable {D : Dat} (h : Valid D) {a b : Nat} (ha : a < D.sp.length) (hb : b < D.sp.length) {y : Int} (hy : 0 ≤ y ∧ y ≤ 9) (hne : truthsL D 0 ≠ [])
include h ha hb hy hne
end
def someT (D : Dat) (set : Nat) : Bool := !(truthsL D set).isEmpty
theorem prodL_mem : ∀ {l : List (Int × Int)} {x : List Int}, x.length = l.length → (∀ i, i < l.length → (l.getD i (0, 0)).1 ≤ x.getD i 0 ∧ x.getD i 0 ≤ (l.getD i (0, 0)).2) → x ∈ prodL l
 | [], [], _, _ => by simp [prodL]
 | [], _ :: _, h, _ => by simp at h
 | _ :: _, [], h, _ => by simp at h
 | s :: l, a :: x, h, hh => by
  simp only [prodL, List.mem_flatMap, List.mem_map]
  refine ⟨a, mem_rng.2 (by simpa using hh 0 (by simp)), x, prodL_mem (by simpa using h) (fun i hi => by simpa using hh (i + 1) (by simpa using hi)), rfl⟩
theorem prodL_ne : ∀ (l : List (Int × Int)), (∀ s ∈ l, s.1 ≤ s.2) → prodL l ≠ []
 | [], _ => by simp [prodL]
 | s :: l, h => by
  have hs := h s (List.mem_cons_self ..)
  have ih := prodL_ne l (fun z hz => h z (List.mem_cons_of_mem _ hz))
  intro e
  obtain ⟨x, hx⟩ := List.exists_mem_of_ne_nil _ ih
  have : s.1 :: x ∈ prodL (s :: l) := by
   simp only [prodL, List.mem_flatMap, List.mem_map]
   exact ⟨s.1, mem_rng.2 ⟨Int.le_refl _, hs⟩, x, hx, rfl⟩
  rw [e] at this; simp at this
section
variable {D : Dat} (h : Valid D) {res : List Nat} (hres : wTo D.dr.length (someT D) (2 ^ D.dr.length) = some res)
include h hres
end
end Go.Proofs.Ytgoidclnccjdeaa.D
end
section
/- Package glass: what the outright laws need of the program's answers. -/
namespace Go.Proofs.Ytgoidclnccjdeaa.D
open Go Go.RowKit Go.Proofs.YtgoidclnccjdeaaK Go.Proofs.YtgoidclnccjdeaaW.PrintWords Go.Proofs.YtgoidclnccjdeaaW.PrintLast Go.Proofs.YtgoidclnccjdeaaW.PrintMore Go.Proofs.Ytgoidclnccjdeaa.PR Go.Proofs.Ytgoidclnccjdeaa.M
set_option linter.unusedVariables false
set_option linter.unusedSimpArgs false

def someB (D : Dat) : Bool := (checkF D).2.2 == 0 && someT D 0
theorem rValid {D : Dat} (h : Fits D) : Ev (fun k => helioscopelaw07_valid.f k D.gl D.lo D.hi D.sp D.dr) ((checkF D).2.2 == 0) := by
 unfold helioscopelaw07_valid.f
 exact Ev.bind (rCheck' h) (Ev.now _)
theorem some_yes {D : Dat} (h : someB D = true) : (checkF D).2.2 = 0 ∧ Valid D ∧ truthsL D 0 ≠ [] := by
 unfold someB someT at h
 rw [Bool.and_eq_true] at h
 have hc : (checkF D).2.2 = 0 := by simpa using h.1
 exact ⟨hc, (check_valid hc).1, fun e => by rw [e] at h; simp at h⟩
theorem enter_yes {D : Dat} (h : someB D = true) {l : List (Bool × Int)} (ha : askE l = 0) : enterE D l = 0 := by
 obtain ⟨h1, _, h3⟩ := some_yes h
 unfold enterE
 rw [if_neg (fun x => x h1), if_neg (fun x => x ha), if_neg (by rw [List.isEmpty_iff]; exact h3)]
theorem ask_one {n : Nat} {k : Nat} (h : k < n) : amongB n [(k : Int)] = true := by
 unfold amongB
 rw [(outB_cons 0 ((n : Int) - 1) k []).2 ⟨⟨by omega, by omega⟩, rfl⟩]; rfl
theorem ask_year {y : Nat} (h : y ≤ 9) : datedB (y : Int) = true := by
 unfold datedB
 rw [(outB_cons 0 9 (y : Int) []).2 ⟨⟨by omega, by omega⟩, rfl⟩]; rfl
theorem ask_sees {D : Dat} {g y : Nat} (hg : g < D.gl.length) (hy : y ≤ 9) : askE (askSees D (g : Int) (y : Int)) = 0 := by
 unfold askSees; simp [askE, ask_one hg, ask_year hy]
theorem ask_size {n k : Nat} (h : k < n) : askE [(amongB n [(k : Int)], 4)] = 0 := by simp [askE, ask_one h]
def sureP (D : Dat) (g : Nat) (y : Int) (s : Nat) : Bool := (truthsL D 0).all fun x => seenB (fn x) g y s
def mayP (D : Dat) (g : Nat) (y : Int) (s : Nat) : Bool := (truthsL D 0).any fun x => seenB (fn x) g y s
def sureL (D : Dat) (g : Nat) (y : Int) : List Nat := (List.range D.sp.length).filter (sureP D g y)
def mayL (D : Dat) (g : Nat) (y : Int) : List Nat := (List.range D.sp.length).filter (mayP D g y)
theorem seesF_eq {D : Dat} {g : Nat} {y : Int} (he : enterE D (askSees D g y) = 0) : seesF D g y = (sureL D g y, mayL D g y) := by
 have hne := (enterE_ok he).2.2.2
 unfold seesF sureL mayL
 rw [if_pos he, Int.toNat_natCast]
 congr 1
 ·
  refine List.filter_congr fun s hs => ?_
  show (!!(sureN D g y (truthsL D 0)).testBit s) = _
  rw [Bool.not_not, sureN_testBit hne]
  unfold sureP
  congr 1; funext x
  exact seeL_bit D g y x s (List.mem_range.1 hs)
 ·
  refine List.filter_congr fun s hs => ?_
  show (!!(mayN D g y (truthsL D 0)).testBit s) = _
  rw [Bool.not_not, mayN_testBit]
  unfold mayP
  congr 1; funext x
  exact seeL_bit D g y x s (List.mem_range.1 hs)
theorem has_filter {n : Nat} {P : Nat → Bool} {s : Nat} (h : s < n) : hasB (ints ((List.range n).filter P)) s = P s := by
 rw [hasB_ints, Bool.eq_iff_iff, List.contains_iff_mem, List.mem_filter, List.mem_range]
 exact ⟨fun x => x.2, fun x => ⟨h, x⟩⟩
theorem filter_len (n : Nat) (P : Nat → Bool) : ((List.range n).filter P).length ≤ n := Nat.le_trans (List.length_filter_le _ _) (by simp)
end Go.Proofs.Ytgoidclnccjdeaa.D
end
section
/- Package glass: Rising, which the laws ask of lists. -/
namespace Go.Proofs.Ytgoidclnccjdeaa.D
open Go Go.RowKit Go.Proofs.YtgoidclnccjdeaaK Go.Proofs.YtgoidclnccjdeaaW.PrintWords Go.Proofs.YtgoidclnccjdeaaW.PrintLast Go.Proofs.YtgoidclnccjdeaaW.PrintMore Go.Proofs.Ytgoidclnccjdeaa.PR Go.Proofs.Ytgoidclnccjdeaa.M
set_option linter.unusedVariables false
set_option linter.unusedSimpArgs false

theorem wrapI {x : Int} (h1 : -9223372036854775808 ≤ x) (h2 : x ≤ 9223372036854775807) : IntKind.i64.wrap x = x := by rw [i64_w]; unfold wrap64; omega
end Go.Proofs.Ytgoidclnccjdeaa.D
end
section
/- Package glass: small facts for the walks through outright laws. -/
namespace Go.Proofs.Ytgoidclnccjdeaa.D
open Go Go.RowKit Go.Proofs.YtgoidclnccjdeaaK Go.Proofs.YtgoidclnccjdeaaW.PrintWords Go.Proofs.YtgoidclnccjdeaaW.PrintLast Go.Proofs.YtgoidclnccjdeaaW.PrintMore Go.Proofs.Ytgoidclnccjdeaa.PR Go.Proofs.Ytgoidclnccjdeaa.M
set_option linter.unusedVariables false

theorem tmodN (u m : Int) (hu : 0 ≤ u) (hm : 0 < m) : ∃ a : Nat, (a : Int) < m ∧ u.tmod m = (a : Int) := by
 refine ⟨(u % m).toNat, ?_, ?_⟩
 ·
  have h1 := Int.emod_lt_of_pos u hm
  have h2 := Int.emod_nonneg u (show m ≠ 0 by omega)
  omega
 ·
  have h2 := Int.emod_nonneg u (show m ≠ 0 by omega)
  rw [Int.tmod_eq_emod_of_nonneg hu]
  omega
theorem NewRow.rowI {w : World} {n0 : Nat} {v : Value} {l : List Nat} (h : NewRow w n0 v l) : ∃ A c, v = .slice A (ints l).length c ∧ (ints l).length ≤ c ∧ (ints l).length ≤ 50 ∧ Kd.C (Kd.int .i64) w A (ints l).length (ints l) := by
 have el : (ints l).length = l.length := List.length_map ..
 rw [el]
 rcases h with ⟨rfl, rfl⟩ | ⟨g, L, n, rfl, h2, h3, h4, h5, h6⟩
 ·
  exact ⟨none, 0, rfl, Nat.le_refl _, by simp, rfl, by simp, fun h => absurd h (by simp)⟩
 ·
  have hle : l.length ≤ L.length := by
   have := congrArg List.length h6
   simp at this; omega
  refine ⟨_, n, rfl, by omega, by omega, ?_⟩
  have := h3.read l.length hle (by omega)
  rw [h6] at this
  exact this
end Go.Proofs.Ytgoidclnccjdeaa.D
end
section
/- Package glass: a shelf with fewer truths (one more drawing), and what that does to the program's answers. -/
namespace Go.Proofs.Ytgoidclnccjdeaa.D
open Go Go.RowKit Go.Proofs.YtgoidclnccjdeaaK Go.Proofs.YtgoidclnccjdeaaW.PrintWords Go.Proofs.YtgoidclnccjdeaaW.PrintLast Go.Proofs.YtgoidclnccjdeaaW.PrintMore Go.Proofs.Ytgoidclnccjdeaa.PR Go.Proofs.Ytgoidclnccjdeaa.M
set_option linter.unusedVariables false
set_option linter.unusedSimpArgs false

theorem minF_le {l : List (List Int)} {k : Nat} {x : List Int} (h : x ∈ l) : minF l k ≤ fn x k := by
 induction l using list_snoc with
 | h0 => simp at h
 | h1 l y ih =>
  rw [minF_snoc]
  rcases List.mem_append.1 h with h | h
  ·
   have := ih h; split <;> omega
  ·
   simp at h; subst h; split <;> omega
theorem maxF_ge {l : List (List Int)} {k : Nat} {x : List Int} (h : x ∈ l) : fn x k ≤ maxF l k := by
 induction l using list_snoc with
 | h0 => simp at h
 | h1 l y ih =>
  rw [maxF_snoc]
  rcases List.mem_append.1 h with h | h
  ·
   have := ih h; split <;> omega
  ·
   simp at h; subst h; split <;> omega
theorem minF_lb {l : List (List Int)} {k : Nat} {b : Int} (hb : b ≤ 61) (h : ∀ x ∈ l, b ≤ fn x k) : b ≤ minF l k := by
 induction l using list_snoc with
 | h0 => simpa [minF] using hb
 | h1 l y ih =>
  have h1 := ih (fun x hx => h x (List.mem_append.2 (.inl hx)))
  have h2 := h y (by simp)
  rw [minF_snoc]; split <;> omega
theorem maxF_ub {l : List (List Int)} {k : Nat} {b : Int} (hb : -1 ≤ b) (h : ∀ x ∈ l, fn x k ≤ b) : maxF l k ≤ b := by
 induction l using list_snoc with
 | h0 => simpa [maxF] using hb
 | h1 l y ih =>
  have h1 := ih (fun x hx => h x (List.mem_append.2 (.inl hx)))
  have h2 := h y (by simp)
  rw [maxF_snoc]; split <;> omega
end Go.Proofs.Ytgoidclnccjdeaa.D
end
section
/- Package glass: a shelf without drawings. -/
namespace Go.Proofs.Ytgoidclnccjdeaa.D
open Go Go.RowKit Go.Proofs.YtgoidclnccjdeaaK Go.Proofs.YtgoidclnccjdeaaW.PrintWords Go.Proofs.YtgoidclnccjdeaaW.PrintLast Go.Proofs.YtgoidclnccjdeaaW.PrintMore Go.Proofs.Ytgoidclnccjdeaa.PR Go.Proofs.Ytgoidclnccjdeaa.M
set_option linter.unusedVariables false
set_option linter.unusedSimpArgs false

theorem pick_mem {D : Dat} (c : Nat → Int) (h : ∀ k, k < 8 → (spanF D k).1 ≤ c k ∧ c k ≤ (spanF D k).2) : (List.range 8).map c ∈ prodL (spansL D) := by
 refine prodL_mem (by simp [spansL]) (fun i hi => ?_)
 have hi8 : i < 8 := by rw [spansL_len] at hi; exact hi
 have e1 : (spansL D).getD i (0, 0) = spanF D i := by
  rw [List.getD_eq_getElem?_getD, List.getElem?_eq_getElem hi, Option.getD_some, spansL_get]
 have e2 : ((List.range 8).map c).getD i 0 = c i := by
  rw [List.getD_eq_getElem?_getD, List.getElem?_map, List.getElem?_range hi8]; rfl
 rw [e1, e2]
 exact h i hi8
theorem fn_pick (c : Nat → Int) {k : Nat} (hk : k < 8) : fn ((List.range 8).map c) k = c k := by
 show ((List.range 8).map c).getD k 0 = c k
 rw [List.getD_eq_getElem?_getD, List.getElem?_map, List.getElem?_range hk]; rfl
theorem prod_in {D : Dat} {x : List Int} (h : x ∈ prodL (spansL D)) {k : Nat} (hk : k < 8) : (spanF D k).1 ≤ fn x k ∧ fn x k ≤ (spanF D k).2 := by
 obtain ⟨hl, hh⟩ := mem_prodL _ _ h
 rw [spansL_len] at hl
 have h1 : k < (spansL D).length := by rw [spansL_len]; exact hk
 have := hh k h1 (by omega)
 rw [spansL_get] at this
 show (spanF D k).1 ≤ x.getD k 0 ∧ x.getD k 0 ≤ (spanF D k).2
 rw [List.getD_eq_getElem?_getD, List.getElem?_eq_getElem (by omega), Option.getD_some]
 exact this
def nd (D : Dat) : Dat := ⟨D.gl, D.lo, D.hi, D.sp, []⟩
theorem nd_truths (D : Dat) : truthsL (nd D) 0 = prodL (spansL (nd D)) := by
 unfold truthsL
 rw [List.filter_eq_self]
 intro x _
 rfl
theorem nd_some {D : Dat} (hV : Valid (nd D)) (hc : (checkF (nd D)).2.2 = 0) : someB (nd D) = true := by
 unfold someB someT
 rw [nd_truths, hc]
 have hne : prodL (spansL (nd D)) ≠ [] := prodL_ne _ (fun s hs => by
  obtain ⟨k, _, rfl⟩ := List.mem_map.1 hs
  exact (spanF_in hV k).2.1)
 cases h : prodL (spansL (nd D)) with
 | nil => exact absurd h hne
 | cons a l => rfl
theorem nd_hull {D : Dat} (hV : Valid (nd D)) {k : Nat} (hk : k < 8) : minF (truthsL (nd D) 0) k = (spanF (nd D) k).1 ∧ maxF (truthsL (nd D) 0) k = (spanF (nd D) k).2 := by
 rw [nd_truths]
 have hk2 := spanF_in hV k
 have m1 := pick_mem (D := nd D) (fun j => (spanF (nd D) j).1) (fun j _ => ⟨Int.le_refl _, (spanF_in hV j).2.1⟩)
 have m2 := pick_mem (D := nd D) (fun j => (spanF (nd D) j).2) (fun j _ => ⟨(spanF_in hV j).2.1, Int.le_refl _⟩)
 refine ⟨Int.le_antisymm ?_ (minF_lb (by omega) (fun x hx => (prod_in hx hk).1)), Int.le_antisymm (maxF_ub (by omega) (fun x hx => (prod_in hx hk).2)) ?_⟩
 ·
  have := minF_le (k := k) m1
  rw [fn_pick _ hk] at this
  exact this
 ·
  have := maxF_ge (k := k) m2
  rw [fn_pick _ hk] at this
  exact this
section
variable {D : Dat} (hV : Valid (nd D)) {g i : Nat} (hg : g < D.gl.length) (hi : i < D.sp.length) {y : Int} (hy : 0 ≤ y)
include hV hg hi hy
theorem nd_sure : sureP (nd D) g y i = decide ((spanF (nd D) g).2 + (spanF (nd D) 3).2 * y ≤ (spanF (nd D) (4 + i)).1) := by
 have hg3 : D.gl.length ≤ 3 := hV.g3
 have hs4 : D.sp.length ≤ 4 := hV.s4
 rw [Bool.eq_iff_iff, decide_eq_true_eq]
 unfold sureP
 rw [nd_truths, List.all_eq_true]
 constructor
 ·
  intro h
  have := h _ (pick_mem (D := nd D) (fun j => if j = 4 + i then (spanF (nd D) j).1 else (spanF (nd D) j).2) (fun j _ => by
   have := spanF_in hV j
   split <;> omega))
  unfold seenB at this
  rw [decide_eq_true_eq, fn_pick _ (by omega), fn_pick _ (by omega), fn_pick _ (by omega), if_neg (by omega), if_neg (by omega), if_pos rfl] at this
  exact this
 ·
  intro h x hx
  unfold seenB
  rw [decide_eq_true_eq]
  have h1 := prod_in hx (k := g) (by omega)
  have h2 := prod_in hx (k := 3) (by omega)
  have h3 := prod_in hx (k := 4 + i) (by omega)
  have := Int.mul_le_mul_of_nonneg_right h2.2 hy
  omega
theorem nd_may : mayP (nd D) g y i = decide ((spanF (nd D) g).1 + (spanF (nd D) 3).1 * y ≤ (spanF (nd D) (4 + i)).2) := by
 have hg3 : D.gl.length ≤ 3 := hV.g3
 have hs4 : D.sp.length ≤ 4 := hV.s4
 rw [Bool.eq_iff_iff, decide_eq_true_eq]
 unfold mayP
 rw [nd_truths, List.any_eq_true]
 constructor
 ·
  rintro ⟨x, hx, h⟩
  unfold seenB at h
  rw [decide_eq_true_eq] at h
  have h1 := prod_in hx (k := g) (by omega)
  have h2 := prod_in hx (k := 3) (by omega)
  have h3 := prod_in hx (k := 4 + i) (by omega)
  have := Int.mul_le_mul_of_nonneg_right h2.1 hy
  omega
 ·
  intro h
  refine ⟨_, pick_mem (D := nd D) (fun j => if j = 4 + i then (spanF (nd D) j).2 else (spanF (nd D) j).1) (fun j _ => by
   have := spanF_in hV j
   split <;> omega), ?_⟩
  unfold seenB
  rw [decide_eq_true_eq, fn_pick _ (by omega), fn_pick _ (by omega), fn_pick _ (by omega), if_neg (by omega), if_neg (by omega), if_pos rfl]
  exact h
end
theorem nd_s3 {D : Dat} (hg : D.gl.length ≤ 3) : spanF (nd D) 3 = (D.lo, D.hi) := by
 unfold spanF
 rw [if_neg (by show ¬ 3 < D.gl.length; omega), if_pos rfl]; rfl
theorem nd_sg {D : Dat} {g : Nat} (hg : g < D.gl.length) : spanF (nd D) g = ((rd_T95 D.gl (g : Int)).f1.f0, (rd_T95 D.gl (g : Int)).f1.f1) := by
 unfold spanF
 rw [if_pos (show g < (nd D).gl.length from hg)]; rfl
theorem nd_si {D : Dat} {i : Nat} (hg : D.gl.length ≤ 3) (hi : i < D.sp.length) : spanF (nd D) (4 + i) = ((rd_T24 D.sp (i : Int)).f0, (rd_T24 D.sp (i : Int)).f1) := by
 unfold spanF
 rw [if_neg (by show ¬ 4 + i < D.gl.length; omega), if_neg (by omega), if_pos ⟨by omega, by show 4 + i < 4 + D.sp.length; omega⟩]
 rw [show 4 + i - 4 = i by omega]; rfl
end Go.Proofs.Ytgoidclnccjdeaa.D
end
section
/- Package glass: GlassPlain. -/
namespace Go.Proofs.Ytgoidclnccjdeaa.D
open Go Go.RowKit Go.Proofs.YtgoidclnccjdeaaK Go.Proofs.YtgoidclnccjdeaaW.PrintWords Go.Proofs.YtgoidclnccjdeaaW.PrintLast Go.Proofs.YtgoidclnccjdeaaW.PrintMore Go.Proofs.Ytgoidclnccjdeaa.PR Go.Proofs.Ytgoidclnccjdeaa.M
set_option linter.unusedVariables false
set_option linter.unusedSimpArgs false

set_option maxRecDepth 100000 in
set_option maxHeartbeats 2000000 in
theorem GlassPlain_calls (D : Dat) (A0 : Option Addr) (c0 : Nat) (A3 : Option Addr) (c3 : Nat) (A4 : Option Addr) (c4 : Nat) (x0 x1 : Int) (w : World) (h : Arg w D A0 c0 A3 c3 A4 c4) (hx0 : 0 ≤ x0 ∧ x0 ≤ 255) (hx1 : 0 ≤ x1 ∧ x1 ≤ 255) :
  Calls Try.prog 15 #[.agg (D.cells A0 c0 A3 c3 A4 c4), .agg #[.int .u8 x0, .int .u8 x1]] w
   fun e w' => e = .returned (.bool true) ∧ Below w.heap.size w w' := by
 have HS := Aside0.mk (blk_alloc (blk_new w (.cells (D.cells A0 c0 A3 c3 A4 c4) 28)) (.cells #[.int .u8 x0, .int .u8 x1] 65))
 have HX := Aside0.mk (new_at (W := (w.alloc (.cells (D.cells A0 c0 A3 c3 A4 c4) 28))) (n := w.heap.size + 1) (by simp) (.cells #[.int .u8 x0, .int .u8 x1] 65))
 have HB := Aside0.mk (below_alloc (below_alloc (Below.refl w.heap.size w) (.cells (D.cells A0 c0 A3 c3 A4 c4) 28)) (.cells #[.int .u8 x0, .int .u8 x1] 65))
 have HA := Aside0.mk h
 have HBD := Aside0.mk (And.intro hx0 hx1)
 clear hx0 hx1
 have hA1 : Arg w (nd D) A0 c0 A3 c3 none 0 := ⟨h.g, h.gc, h.gn, h.s, h.sc, ⟨rfl, by simp [nd], fun hx => absurd hx (by simp [nd])⟩, Nat.le_refl _⟩
 obtain ⟨N, hN⟩ : ∃ N, nd D = N := ⟨_, rfl⟩
 have HN := Aside0.mk hN
 rw [hN] at hA1
 obtain ⟨K1, hK1⟩ := (rValid hA1.fits).rounds
 clear HA
 have HA := Aside0.mk hA1
 clear hA1 h
 obtain ⟨q, hq⟩ : ∃ q, w.heap.size = q := ⟨_, rfl⟩
 have HK1 := Aside0.mk hK1
 go_enter Try.func15, Try.ntmps15
 go_upto_region 1 with (fail)
 generalize (w.alloc (.cells (D.cells A0 c0 A3 c3 A4 c4) 28)).alloc (.cells #[.int .u8 x0, .int .u8 x1] 65) = w1 at HS HX HB ⊢
 rw [hq] at HS HX
 try rw [hq]
 have k0 := (blk_cell HS.out 0).trans rfl
 have k1 := (blk_cell HS.out 1).trans rfl
 have k2 := (blk_cell HS.out 2).trans rfl
 have k3 := (blk_cell HS.out 3).trans rfl
 have k4 := (blk_cell HS.out 4).trans rfl
 have kl := blk_lt HS.out
 have kf4 := blk_frozen HS.out 4
 go_upto_region 2 with (fail)
 clear k0 k1 k2 k3 k4 kl kf4
 have n1 := Aside0.mk (blk_set HS.out 4 (.slice none 0 0))
 have n2 := Aside0.mk (blk_far (p := ⟨q, 4, none⟩) HX.out (show q + 1 ≠ q by omega) (.slice none 0 0))
 have n3 : Aside0 (Below w.heap.size w (w1.setCell ⟨q, 4, none⟩ (.slice none 0 0))) := ⟨below_set HB.out (by rw [hq]; exact Nat.le_refl _)⟩
 generalize w1.setCell ⟨q, 4, none⟩ (.slice none 0 0) = w2 at n1 n2 n3 ⊢
 clear HS HX HB
 have HS : Aside0 (w2.heap[q]? = some (.cells (N.cells A0 c0 A3 c3 none 0) 28 (0, 0))) := ⟨by rw [← HN.out]; exact n1.out⟩
 have HX := n2
 have HB := n3
 clear n1 n2 n3 hN
 obtain ⟨cv, hcv⟩ : ∃ z, ((checkF N).2.2 == 0) = z := ⟨_, rfl⟩
 rw [hcv] at HK1
 have ECV := Aside0.mk hcv
 clear hcv
 have k0 := (blk_cell HS.out 0).trans rfl
 have k1 := (blk_cell HS.out 1).trans rfl
 have k2 := (blk_cell HS.out 2).trans rfl
 have k3 := (blk_cell HS.out 3).trans rfl
 have k4 := (blk_cell HS.out 4).trans rfl
 have kl := blk_lt HS.out
 have y0 := (blk_cell HX.out 0).trans rfl
 have y1 := (blk_cell HX.out 1).trans rfl
 have yl := blk_lt HX.out
 go_wp2_with fail
 clear k0 k1 k2 k3 k4 kl y0 y1 yl
 have hA := HA.out.below HB.out
 refine (helioscopelaw07_valid.calls K1 A0 c0 N.gl N.lo N.hi A3 c3 N.sp none 0 N.dr _ w2 hA.g hA.gc hA.s hA.sc hA.d hA.dc HK1.out).mono ?_
 clear hA
 rintro e w3 ⟨rfl, hb⟩
 replace HB := Aside0.mk (HB.out.trans (hb.mono HB.out.size))
 replace HS := Aside0.mk (blk_below HS.out hb)
 replace HX := Aside0.mk (blk_below HX.out hb)
 clear hb HK1
 cases cv
 ·
  have he : enterE N [] ≠ 0 := fun x => by have h1 := (enterE_ok x).2.1; have := ECV.out; rw [h1] at this; simp at this
  obtain ⟨en, hen⟩ : ∃ en, enterE N [] = en := ⟨_, rfl⟩
  rw [hen] at he
  obtain ⟨⟨s1, s2⟩, hs⟩ : ∃ s, hullF N [] 3 = s := ⟨_, rfl⟩
  have Een := Aside0.mk hen
  have Es := Aside0.mk hs
  clear hen hs
  have hz : (en != 0) = true := by simpa using he
  have hz2 : (en == 0) = false := by simpa using he
  clear he
  have k0 := (blk_cell HS.out 0).trans rfl
  have k1 := (blk_cell HS.out 1).trans rfl
  have k2 := (blk_cell HS.out 2).trans rfl
  have k3 := (blk_cell HS.out 3).trans rfl
  have k4 := (blk_cell HS.out 4).trans rfl
  have kl := blk_lt HS.out
  have y0 := (blk_cell HX.out 0).trans rfl
  have y1 := (blk_cell HX.out 1).trans rfl
  have yl := blk_lt HX.out
  go_wp2_with fail
  clear k0 k1 k2 k3 k4 kl y0 y1 yl
  have hA := HA.out.below HB.out
  refine (Dull_calls N A0 c0 A3 c3 none 0 w3 hA).mono ?_
  clear hA
  rw [Een.out, Es.out]
  rintro e w4 ⟨rfl, hb⟩
  replace HB := Aside0.mk (HB.out.trans (hb.mono HB.out.size))
  replace HS := Aside0.mk (blk_below HS.out hb)
  replace HX := Aside0.mk (blk_below HX.out hb)
  clear hb
  go_upto_region 4 with (fail)
  have hb : Below w4.heap.size w4 (w4.alloc (.cells #[.int .i64 s1, .int .i64 s2] 24)) := below_alloc (Below.refl _ _) _
  have n1 := Aside0.mk (blk_new w4 (.cells #[.int .i64 s1, .int .i64 s2] 24))
  replace HB := Aside0.mk (HB.out.trans (hb.mono HB.out.size))
  replace HS := Aside0.mk (blk_below HS.out hb)
  replace HX := Aside0.mk (blk_below HX.out hb)
  clear hb
  obtain ⟨P, hP⟩ : ∃ b, w4.heap.size = b := ⟨_, rfl⟩
  rw [hP] at n1 ⊢
  generalize (w4.alloc (.cells #[.int .i64 s1, .int .i64 s2] 24)) = w5 at HB n1 HS HX ⊢
  clear hP
  have HP := n1
  clear n1
  go_wp2_with fail
  refine (Awake_calls _).mono ?_
  rintro e wA ⟨rfl, hb⟩
  replace HB := Aside0.mk (HB.out.trans (hb.mono HB.out.size))
  clear hb
  go_wp2
  go_ret
  exact ⟨rfl, by first | exact HB.out | (rw [← hq]; exact HB.out)⟩
 ·
  have hc : (checkF N).2.2 = 0 := by have := ECV.out; simpa using this
  have HV := Aside0.mk (check_valid hc).1
  have HSB : Aside0 (someB N = true) := ⟨by have hv := HV.out; rw [← HN.out] at hv hc ⊢; exact nd_some hv hc⟩
  clear hc
  have hg1 := HV.out.g1
  have hg3 := HV.out.g3
  have hs4 := HV.out.s4
  have k0 := (blk_cell HS.out 0).trans rfl
  have kl := blk_lt HS.out
  have y0' : w3.drew.cell? ⟨q + 1, 0, none⟩ = some (.int .u8 x0) := (blk_cell HX.out 0).trans rfl
  have y1' : w3.drew.cell? ⟨q + 1, 1, none⟩ = some (.int .u8 x1) := (blk_cell HX.out 1).trans rfl
  have yl := blk_lt HX.out
  have hw0 : IntKind.i64.wrap x0 = x0 := wrapI (by have := HBD.out; omega) (by have := HBD.out; omega)
  have hw1 : IntKind.i64.wrap x1 = x1 := wrapI (by have := HBD.out; omega) (by have := HBD.out; omega)
  have hnz : ¬ ((N.gl.length : Int) = 0) := by omega
  have hnz1 : ((N.gl.length : Int) == 0) = false := beq_eq_false_iff_ne.2 hnz
  have hnz2 : ¬ (N.gl.length = 0) := by omega
  go_upto_region 5 with (fail)
  go_region_held3 (fun w' => w'.cell? ⟨q + 1, 0, none⟩ = some (.int .u8 x0) ∧ w'.cell? ⟨q + 1, 1, none⟩ = some (.int .u8 x1) ∧ w'.cell? ⟨q, 0, none⟩ = some (.slice A0 N.gl.length c0)) (refine ⟨?_, ?_, ?_⟩ <;> assumption) (fail)
  obtain ⟨g, hg', eg⟩ := tmodN x0 (N.gl.length : Int) HBD.out.1.1 (by omega)
  obtain ⟨yr, hyr, ey⟩ := tmodN x1 10 HBD.out.2.1 (by omega)
  rw [eg, ey]
  clear eg ey y0' y1' yl hw0 hw1 hnz hnz1 hnz2 k0 kl HX
  have hg : g < N.gl.length := by omega
  clear hg'
  have hb : Below w3.heap.size w3 w3.drew := below_drew1 (Below.refl _ _)
  replace HB := Aside0.mk (HB.out.trans (hb.mono HB.out.size))
  replace HS := Aside0.mk (blk_below HS.out hb)
  clear hb
  generalize w3.drew = w4 at HB HS ⊢
  have HY9 := Aside0.mk hyr
  clear hyr
  obtain ⟨ad, hA0, e0, e1, e2⟩ := at_T95 HA.out.g (g : Int) (by omega) (by omega)
  rw [Int.toNat_natCast] at e0 e1 e2
  subst hA0
  have hgs : spanF N g = ((rd_T95 N.gl (g : Int)).f1.f0, (rd_T95 N.gl (g : Int)).f1.f1) := by rw [← HN.out] at hg ⊢; exact nd_sg hg
  have hgb := HV.out.gl g hg
  obtain ⟨G, hG⟩ : ∃ z, rd_T95 N.gl (g : Int) = z := ⟨_, rfl⟩
  rw [hG] at e1 e2 hgs hgb
  have HGC := Aside0.mk (And.intro e1 e2)
  have HGB := Aside0.mk hgb
  have HGS := Aside0.mk hgs
  clear e0 e1 e2 hgs hgb hG
  have HE0 := Aside0.mk (enter_yes HSB.out (l := ([] : List (Bool × Int))) rfl)
  have HE1 := Aside0.mk (enter_yes HSB.out (l := [(amongB N.gl.length [(g : Int)], 4)]) (ask_size hg))
  have HES := Aside0.mk (enter_yes HSB.out (ask_sees (D := N) (y := yr) hg (by have := HY9.out; omega)))
  have HQ := Aside0.mk (seesF_eq HES.out)
  have HH0 : Aside0 (hullF N [] 3 = (N.lo, N.hi)) := ⟨by unfold hullF; rw [if_pos HE0.out]; have hv := HV.out; have hg3' := hg3; rw [← HN.out] at hv hg3' ⊢; rw [(nd_hull hv (by omega)).1, (nd_hull hv (by omega)).2, nd_s3 (D := D) hg3']; rfl⟩
  have HH1 : Aside0 (hullF N [(amongB N.gl.length [(g : Int)], 4)] ((g : Int).toNat) = (G.f1.f0, G.f1.f1)) := ⟨by unfold hullF; rw [if_pos HE1.out, Int.toNat_natCast, ← HGS.out]; have hv := HV.out; rw [← HN.out] at hv ⊢; rw [(nd_hull hv (by omega)).1, (nd_hull hv (by omega)).2]⟩
  have k0 := (blk_cell HS.out 0).trans rfl
  have k1 := (blk_cell HS.out 1).trans rfl
  have k2 := (blk_cell HS.out 2).trans rfl
  have k3 := (blk_cell HS.out 3).trans rfl
  have k4 := (blk_cell HS.out 4).trans rfl
  have kl := blk_lt HS.out
  go_wp2_with fail
  clear k0 k1 k2 k3 k4 kl
  have hA := HA.out.below HB.out
  refine (Dull_calls N (some ad) c0 A3 c3 none 0 w4 hA).mono ?_
  clear hA
  rw [HE0.out, HH0.out]
  rintro e w5 ⟨rfl, hb⟩
  replace HB := Aside0.mk (HB.out.trans (hb.mono HB.out.size))
  replace HS := Aside0.mk (blk_below HS.out hb)
  clear hb
  go_upto_region 7 with (fail)
  have hb : Below w5.heap.size w5 (w5.alloc (.cells #[.int .i64 N.lo, .int .i64 N.hi] 24)) := below_alloc (Below.refl _ _) _
  have n1 := Aside0.mk (blk_new w5 (.cells #[.int .i64 N.lo, .int .i64 N.hi] 24))
  replace HB := Aside0.mk (HB.out.trans (hb.mono HB.out.size))
  replace HS := Aside0.mk (blk_below HS.out hb)
  clear hb
  obtain ⟨P, hP⟩ : ∃ b, w5.heap.size = b := ⟨_, rfl⟩
  rw [hP] at n1 ⊢
  generalize (w5.alloc (.cells #[.int .i64 N.lo, .int .i64 N.hi] 24)) = w6 at HB n1 HS ⊢
  clear hP
  have HP := n1
  clear n1
  have k0 := (blk_cell HS.out 0).trans rfl
  have k1 := (blk_cell HS.out 1).trans rfl
  have k2 := (blk_cell HS.out 2).trans rfl
  have k3 := (blk_cell HS.out 3).trans rfl
  have k4 := (blk_cell HS.out 4).trans rfl
  have kl := blk_lt HS.out
  go_wp2_with fail
  clear k0 k1 k2 k3 k4 kl
  have hA := HA.out.below HB.out
  refine (Least_calls N (some ad) c0 A3 c3 none 0 (g : Int) w6 hA).mono ?_
  clear hA
  rw [HE1.out, HH1.out]
  rintro e w7 ⟨rfl, hb⟩
  replace HB := Aside0.mk (HB.out.trans (hb.mono HB.out.size))
  replace HS := Aside0.mk (blk_below HS.out hb)
  replace HP := Aside0.mk (blk_below HP.out hb)
  clear hb
  go_upto_region 8 with (fail)
  have hb : Below w7.heap.size w7 (w7.alloc (.cells #[.int .i64 G.f1.f0, .int .i64 G.f1.f1] 24)) := below_alloc (Below.refl _ _) _
  have n1 := Aside0.mk (blk_new w7 (.cells #[.int .i64 G.f1.f0, .int .i64 G.f1.f1] 24))
  replace HB := Aside0.mk (HB.out.trans (hb.mono HB.out.size))
  replace HS := Aside0.mk (blk_below HS.out hb)
  replace HP := Aside0.mk (blk_below HP.out hb)
  clear hb
  obtain ⟨R, hR⟩ : ∃ b, w7.heap.size = b := ⟨_, rfl⟩
  rw [hR] at n1 ⊢
  generalize (w7.alloc (.cells #[.int .i64 G.f1.f0, .int .i64 G.f1.f1] 24)) = w8 at HB n1 HS HP ⊢
  clear hR
  have HR := n1
  clear n1
  have k0 := (blk_cell HS.out 0).trans rfl
  have k1 := (blk_cell HS.out 1).trans rfl
  have k2 := (blk_cell HS.out 2).trans rfl
  have k3 := (blk_cell HS.out 3).trans rfl
  have k4 := (blk_cell HS.out 4).trans rfl
  have kl := blk_lt HS.out
  go_wp2_with fail
  clear k0 k1 k2 k3 k4 kl
  have hA := HA.out.below HB.out
  refine (Sees_calls N (some ad) c0 A3 c3 none 0 (g : Int) (yr : Int) w8 hA).mono ?_
  clear hA
  rw [HES.out, HQ.out]
  rintro e w9 ⟨⟨u, v, rfl, hn, m', _, _, hn2⟩, hb⟩
  obtain ⟨A1, c1', rfl, hc1, _, hC1⟩ := NewRow.rowI (l := sureL N g (yr : Int)) hn
  obtain ⟨B1, d1, rfl, hd1, _, hD1⟩ := NewRow.rowI (l := mayL N g (yr : Int)) hn2
  obtain ⟨L1, hL1⟩ : ∃ L, ints (sureL N g (yr : Int)) = L := ⟨_, rfl⟩
  obtain ⟨L2, hL2⟩ : ∃ L, ints (mayL N g (yr : Int)) = L := ⟨_, rfl⟩
  rw [hL1] at hC1 hc1 ⊢
  rw [hL2] at hD1 hd1 ⊢
  have HC1 := Aside0.mk hC1
  have HD1 := Aside0.mk hD1
  have HN1 := Aside0.mk (And.intro hc1 hd1)
  have EL1 := Aside0.mk hL1
  have EL2 := Aside0.mk hL2
  clear hn hn2 hC1 hD1 hc1 hd1 hL1 hL2 HE0 HE1 HES HQ HH0 HH1
  replace HB := Aside0.mk (HB.out.trans (hb.mono HB.out.size))
  replace HS := Aside0.mk (blk_below HS.out hb)
  replace HP := Aside0.mk (blk_below HP.out hb)
  replace HR := Aside0.mk (blk_below HR.out hb)
  clear hb
  obtain ⟨hG1, hG2⟩ : w9.cell? ⟨(ad.add (g * 3)).block, (ad.add (g * 3)).off + 1, none⟩ = some (.int .i64 G.f1.f0) ∧ w9.cell? ⟨(ad.add (g * 3)).block, (ad.add (g * 3)).off + 2, none⟩ = some (.int .i64 G.f1.f1) := ⟨cell_below HGC.out.1 HB.out, cell_below HGC.out.2 HB.out⟩
  have c1 : decide (0 ≤ (g : Int)) = true := decide_eq_true (by omega)
  have c2 : decide ((g : Int) < (N.gl.length : Int)) = true := decide_eq_true (by omega)
  have c3 : (0 ≤ (g : Int)) = True := eq_true (by omega)
  have c4 : ((g : Int) < (N.gl.length : Int)) = True := eq_true (by omega)
  have c5 : (g : Int).toNat = g := Int.toNat_natCast g
  have k0 := (blk_cell HS.out 0).trans rfl
  have k1 := (blk_cell HS.out 1).trans rfl
  have k2 := (blk_cell HS.out 2).trans rfl
  have k3 := (blk_cell HS.out 3).trans rfl
  have k4 := (blk_cell HS.out 4).trans rfl
  have kl := blk_lt HS.out
  have p0 := (blk_cell HP.out 0).trans rfl
  have p1 := (blk_cell HP.out 1).trans rfl
  have pl := blk_lt HP.out
  have r0 := (blk_cell HR.out 0).trans rfl
  have r1 := (blk_cell HR.out 1).trans rfl
  have rl := blk_lt HR.out
  go_upto_region 9 with (fail)
  go_quiet (fail)
  clear k0 k1 k2 k3 k4 kl p0 p1 pl r0 r1 rl hG1 hG2 c1 c2 c3 c4 c5
  have hb : Below w9.heap.size w9 (w9.drewN nq) := pw_below_drewN (Below.refl _ _) _
  replace HB := Aside0.mk (HB.out.trans (hb.mono HB.out.size))
  replace HS := Aside0.mk (blk_below HS.out hb)
  replace HP := Aside0.mk (blk_below HP.out hb)
  replace HR := Aside0.mk (blk_below HR.out hb)
  replace HC1 := Aside0.mk (Kd.C_below HC1.out hb)
  replace HD1 := Aside0.mk (Kd.C_below HD1.out hb)
  clear hb
  generalize w9.drewN nq = w10 at HB HS HP HR HC1 HD1 ⊢
  go_wp2_with fail
  go_loopw [16] (fun j wr => ∃ k : Nat, k ≤ N.sp.length ∧ j = .int .i64 k ∧ Aside0 (Below w10.heap.size w10 wr)) (fun j _ => N.sp.length - (intOf j).toNat)
  case atStart => exact ⟨0, Nat.zero_le _, rfl, ⟨Below.refl _ _⟩⟩
  case round =>
   obtain ⟨k, hk, rfl, HBr⟩ := hrel
   have hb := HBr.out
   replace HB := Aside0.mk (HB.out.trans (hb.mono HB.out.size))
   replace HS := Aside0.mk (blk_below HS.out hb)
   replace HP := Aside0.mk (blk_below HP.out hb)
   replace HR := Aside0.mk (blk_below HR.out hb)
   replace HC1 := Aside0.mk (Kd.C_below HC1.out hb)
   replace HD1 := Aside0.mk (Kd.C_below HD1.out hb)
   clear hb
   generalize wr = w100 at HBr HB HS HP HR HC1 HD1 ⊢
   by_cases hlt : k < N.sp.length
   ·
    have HE1 := Aside0.mk (enter_yes HSB.out (l := [(amongB N.sp.length [(k : Int)], 4)]) (ask_size hlt))
    obtain ⟨a3, hA3, f0, f1⟩ := at_T24 HA.out.s (k : Int) (by omega) (by omega)
    rw [Int.toNat_natCast] at f0 f1
    subst hA3
    have hss : spanF N (4 + k) = ((rd_T24 N.sp (k : Int)).f0, (rd_T24 N.sp (k : Int)).f1) := by rw [← HN.out] at hg3 hlt ⊢; exact nd_si hg3 hlt
    have hsb := HV.out.sp k hlt
    have hsu : sureP N g (yr : Int) k = decide (G.f1.f1 + N.hi * (yr : Int) ≤ (rd_T24 N.sp (k : Int)).f0) := by have hv := HV.out; have h3 := hss; have h4 := HGS.out; rw [← HN.out] at hv h3 h4 hg hlt ⊢; rw [nd_sure hv hg hlt (by omega), h3, h4, nd_s3 (D := D) hv.g3]; rfl
    have hma : mayP N g (yr : Int) k = decide (G.f1.f0 + N.lo * (yr : Int) ≤ (rd_T24 N.sp (k : Int)).f1) := by have hv := HV.out; have h3 := hss; have h4 := HGS.out; rw [← HN.out] at hv h3 h4 hg hlt ⊢; rw [nd_may hv hg hlt (by omega), h3, h4, nd_s3 (D := D) hv.g3]; rfl
    have HH : Aside0 (hullF N [(amongB N.sp.length [(k : Int)], 4)] (4 + (k : Int).toNat) = ((rd_T24 N.sp (k : Int)).f0, (rd_T24 N.sp (k : Int)).f1)) := ⟨by unfold hullF; rw [if_pos HE1.out, Int.toNat_natCast, ← hss]; have hv := HV.out; rw [← HN.out] at hv ⊢; rw [(nd_hull hv (by omega)).1, (nd_hull hv (by omega)).2]⟩
    obtain ⟨Z, hZ⟩ : ∃ z, rd_T24 N.sp (k : Int) = z := ⟨_, rfl⟩
    rw [hZ] at f0 f1 hsb hsu hma HH
    have hlh := HV.out.lo
    have hle := HV.out.le
    have hhi := HV.out.hi
    have hm1 : 0 ≤ N.hi * (yr : Int) ∧ N.hi * (yr : Int) ≤ 27 := by have h9 := HY9.out; constructor; exact Int.mul_nonneg (by omega) (by omega); calc N.hi * (yr : Int) ≤ 3 * 9 := Int.mul_le_mul (by omega) (by omega) (by omega) (by omega)
     _ = 27 := by decide
    have hm2 : 0 ≤ N.lo * (yr : Int) ∧ N.lo * (yr : Int) ≤ 27 := by have h9 := HY9.out; constructor; exact Int.mul_nonneg (by omega) (by omega); calc N.lo * (yr : Int) ≤ 3 * 9 := Int.mul_le_mul (by omega) (by omega) (by omega) (by omega)
     _ = 27 := by decide
    obtain ⟨m1, hM1⟩ : ∃ z, N.hi * (yr : Int) = z := ⟨_, rfl⟩
    obtain ⟨m2, hM2⟩ : ∃ z, N.lo * (yr : Int) = z := ⟨_, rfl⟩
    rw [hM1] at hm1 hsu
    rw [hM2] at hm2 hma
    have hgb := HGB.out
    have v1 : IntKind.i64.wrap (N.hi * (yr : Int)) = m1 := by rw [hM1]; exact wrapI (by omega) (by omega)
    have v2 : IntKind.i64.wrap (N.lo * (yr : Int)) = m2 := by rw [hM2]; exact wrapI (by omega) (by omega)
    have v3 : IntKind.i64.wrap (G.f1.f1 + m1) = G.f1.f1 + m1 := wrapI (by omega) (by omega)
    have v4 : IntKind.i64.wrap (G.f1.f0 + m2) = G.f1.f0 + m2 := wrapI (by omega) (by omega)
    obtain ⟨b1, hb1⟩ : ∃ z, decide (G.f1.f1 + m1 ≤ Z.f0) = z := ⟨_, rfl⟩
    obtain ⟨b2, hb2⟩ : ∃ z, decide (G.f1.f0 + m2 ≤ Z.f1) = z := ⟨_, rfl⟩
    rw [hb1] at hsu
    rw [hb2] at hma
    obtain ⟨Ks, hKs⟩ : ∃ K, r1_Has.f K L1 (k : Int) = some b1 := by
     have hr := (rHas L1 (by rw [← EL1.out, List.length_map]; exact Nat.le_trans (filter_len _ _) (Nat.le_trans HV.out.s4 (by decide))) k).rounds
     rw [← EL1.out] at hr ⊢
     rw [show hasB (ints (sureL N g (yr : Int))) k = b1 from (has_filter hlt).trans hsu] at hr
     exact hr
    have HKs := Aside0.mk hKs
    obtain ⟨Km, hKm⟩ : ∃ K, r1_Has.f K L2 (k : Int) = some b2 := by
     have hr := (rHas L2 (by rw [← EL2.out, List.length_map]; exact Nat.le_trans (filter_len _ _) (Nat.le_trans HV.out.s4 (by decide))) k).rounds
     rw [← EL2.out] at hr ⊢
     rw [show hasB (ints (mayL N g (yr : Int))) k = b2 from (has_filter hlt).trans hma] at hr
     exact hr
    have HKm := Aside0.mk hKm
    have V1 := Aside0.mk v1
    have V2 := Aside0.mk v2
    have V3 := Aside0.mk v3
    have V4 := Aside0.mk v4
    have B1' := Aside0.mk hb1
    have B2' := Aside0.mk hb2
    have F01 := Aside0.mk (And.intro f0 f1)
    clear v1 v2 v3 v4 hb1 hb2 f0 f1 hss hsb hsu hma hZ hlh hle hhi hm1 hm2 hM1 hM2 hgb hKs hKm
    have k0 := (blk_cell HS.out 0).trans rfl
    have k1 := (blk_cell HS.out 1).trans rfl
    have k2 := (blk_cell HS.out 2).trans rfl
    have k3 := (blk_cell HS.out 3).trans rfl
    have k4 := (blk_cell HS.out 4).trans rfl
    have kl := blk_lt HS.out
    go_wp2_with fail
    clear k0 k1 k2 k3 k4 kl
    have hA := HA.out.below HB.out
    refine (Size_calls N (some ad) c0 (some a3) c3 none 0 (k : Int) w100 hA).mono ?_
    clear hA
    rw [HE1.out, HH.out]
    rintro e w101 ⟨rfl, hb⟩
    replace HB := Aside0.mk (HB.out.trans (hb.mono HB.out.size))
    replace HS := Aside0.mk (blk_below HS.out hb)
    replace HP := Aside0.mk (blk_below HP.out hb)
    replace HR := Aside0.mk (blk_below HR.out hb)
    replace HBr := Aside0.mk (HBr.out.trans (hb.mono HBr.out.size))
    replace HC1 := Aside0.mk (Kd.C_below HC1.out hb)
    replace HD1 := Aside0.mk (Kd.C_below HD1.out hb)
    clear hb
    go_upto_region 15 with (fail)
    have hb : Below w101.heap.size w101 (w101.alloc (.cells #[.int .i64 Z.f0, .int .i64 Z.f1] 24)) := below_alloc (Below.refl _ _) _
    have n1 := Aside0.mk (blk_new w101 (.cells #[.int .i64 Z.f0, .int .i64 Z.f1] 24))
    replace HB := Aside0.mk (HB.out.trans (hb.mono HB.out.size))
    replace HS := Aside0.mk (blk_below HS.out hb)
    replace HP := Aside0.mk (blk_below HP.out hb)
    replace HR := Aside0.mk (blk_below HR.out hb)
    replace HBr := Aside0.mk (HBr.out.trans (hb.mono HBr.out.size))
    replace HC1 := Aside0.mk (Kd.C_below HC1.out hb)
    replace HD1 := Aside0.mk (Kd.C_below HD1.out hb)
    clear hb
    obtain ⟨U, hU⟩ : ∃ b, w101.heap.size = b := ⟨_, rfl⟩
    rw [hU] at n1 ⊢
    generalize (w101.alloc (.cells #[.int .i64 Z.f0, .int .i64 Z.f1] 24)) = w102 at HB n1 HS HP HR HBr HC1 HD1 ⊢
    clear hU
    have HU := n1
    clear n1
    obtain ⟨z0, z1⟩ : w102.cell? (a3.add (k * 2)) = some (.int .i64 Z.f0) ∧ w102.cell? ⟨(a3.add (k * 2)).block, (a3.add (k * 2)).off + 1, none⟩ = some (.int .i64 Z.f1) := ⟨cell_below F01.out.1 HB.out, cell_below F01.out.2 HB.out⟩
    have v1 := V1.out
    have v2 := V2.out
    have v3 := V3.out
    have v4 := V4.out
    have hb1 := B1'.out
    have hb2 := B2'.out
    have c1 : decide (0 ≤ (k : Int)) = true := decide_eq_true (by omega)
    have c2 : decide ((k : Int) < (N.sp.length : Int)) = true := decide_eq_true (by omega)
    have c3 : (0 ≤ (k : Int)) = True := eq_true (by omega)
    have c4 : ((k : Int) < (N.sp.length : Int)) = True := eq_true (by omega)
    have c5 : (k : Int).toNat = k := Int.toNat_natCast k
    have QA : Aside0 (∀ n, Calls Try.prog 43 #[.slice A1 L1.length c1', .int .i64 (k : Int)] (w102.drewN n) fun e w'' => e = .returned (.bool b1) ∧ ∃ m, w'' = w102.drewN m) := ⟨fun n => Calls.quiet_of ((r1_Has.calls Ks A1 c1' L1 (k : Int) b1 (w102.drewN n) (Kd.C_drewN HC1.out n) HN1.out.1 HKs.out).mono fun e w' h => by obtain ⟨h1, m, h2⟩ := h; exact ⟨h1, m, by first | exact h2 | exact h2.symm⟩)⟩
    have QB : Aside0 (∀ n, Calls Try.prog 43 #[.slice B1 L2.length d1, .int .i64 (k : Int)] (w102.drewN n) fun e w'' => e = .returned (.bool b2) ∧ ∃ m, w'' = w102.drewN m) := ⟨fun n => Calls.quiet_of ((r1_Has.calls Km B1 d1 L2 (k : Int) b2 (w102.drewN n) (Kd.C_drewN HD1.out n) HN1.out.2 HKm.out).mono fun e w' h => by obtain ⟨h1, m, h2⟩ := h; exact ⟨h1, m, by first | exact h2 | exact h2.symm⟩)⟩
    have k0 := (blk_cell HS.out 0).trans rfl
    have k1 := (blk_cell HS.out 1).trans rfl
    have k2 := (blk_cell HS.out 2).trans rfl
    have k3 := (blk_cell HS.out 3).trans rfl
    have k4 := (blk_cell HS.out 4).trans rfl
    have kl := blk_lt HS.out
    have p0 := (blk_cell HP.out 0).trans rfl
    have p1 := (blk_cell HP.out 1).trans rfl
    have pl := blk_lt HP.out
    have r0 := (blk_cell HR.out 0).trans rfl
    have r1 := (blk_cell HR.out 1).trans rfl
    have rl := blk_lt HR.out
    have u0 := (blk_cell HU.out 0).trans rfl
    have u1 := (blk_cell HU.out 1).trans rfl
    have ul := blk_lt HU.out
    go_quiet ((go_at_call 43; first | with_reducible exact QA.out _ | with_reducible exact QB.out _))
    clear k0 k1 k2 k3 k4 kl p0 p1 pl r0 r1 rl u0 u1 ul z0 z1 v1 v2 v3 v4 hb1 hb2 c1 c2 c3 c4 c5
    go_wp2_with fail
    go_roundw
    case rel => exact ⟨k + 1, by omega, by go_num, ⟨pw_below_drewN HBr.out _⟩⟩
    case measure => simp [intOf]; omega
   ·
    obtain rfl : k = N.sp.length := by omega
    have k0 := (blk_cell HS.out 0).trans rfl
    have k1 := (blk_cell HS.out 1).trans rfl
    have k2 := (blk_cell HS.out 2).trans rfl
    have k3 := (blk_cell HS.out 3).trans rfl
    have k4 := (blk_cell HS.out 4).trans rfl
    have kl := blk_lt HS.out
    go_wp2_with fail
    clear k0 k1 k2 k3 k4 kl
    refine (Awake_calls _).mono ?_
    rintro e wA ⟨rfl, hb⟩
    replace HB := Aside0.mk (HB.out.trans (hb.mono HB.out.size))
    clear hb
    go_wp2
    go_ret
    exact ⟨rfl, by first | exact HB.out | (rw [← hq]; exact HB.out)⟩
end Go.Proofs.Ytgoidclnccjdeaa.D
end
section
/- Package glass: small arrays of ints that came in as_ arguments, opened. -/
namespace Go.Proofs.Ytgoidclnccjdeaa.D
open Go Go.RowKit Go.ChangeShapes Go.WideShapes Go.Deep
set_option linter.unusedVariables false
set_option linter.unusedSectionVars false
section
variable {H : Type} {enc : TypeId × Value → H} {w : World} {base : Nat} {spare : Nat → Bool} {held : Bool} {P : Program}
theorem okWide_array {n : Nat} {e t : TypeId} {r : Reach} {b0 : Nat} {v : Value} (ht : P.underlying t = some (.array n e)) (h : Value.okWide P w r b0 t v) : ∃ cs, v = .agg cs ∧ cs.size = P.cellsOf t := by
 simp only [Value.okWide, ht] at h
 obtain ⟨cs, h1, h2, _⟩ := h
 exact ⟨cs, h1, h2⟩
theorem open_arr2b' {e t : TypeId} {r : Reach} {b0 : Nat} {v : Value} {d : DataW H} {p : List MemPlace} (ht : P.underlying t = some (.array 2 e)) (hc : P.cellsOf t = 2) (he : P.underlying e = some (.int .u8)) (hc1 : P.cellsOf e = 1)
  (hv : Value.okWide P w r b0 t v) (h : DataW.Trod enc P w base spare held t v d p) : ∃ x0 x1 : Int, v = .agg #[.int .u8 x0, .int .u8 x1] ∧ (Lit.int .u8 x0).wf = true ∧ (Lit.int .u8 x1).wf = true := by
 obtain ⟨cs, rfl, hsz⟩ := okWide_array ht hv
 obtain ⟨fuel, hf⟩ := h
 obtain ⟨xs, m, _, _, _, hl, hi⟩ := DataW.trod_array ht hf
 obtain ⟨L⟩ := cs
 rw [hc] at hsz
 match L, hsz with
 | [c0, c1], _ =>
  have g0 := hi 0 (by decide)
  rw [hc1, List.getElem?_eq_getElem (by omega)] at g0
  obtain ⟨x0, e0, _, w0⟩ := DataW.trod_int he g0
  simp [Value.cells] at e0
  have g1 := hi 1 (by decide)
  rw [hc1, List.getElem?_eq_getElem (by omega)] at g1
  obtain ⟨x1, e1, _, w1⟩ := DataW.trod_int he g1
  simp [Value.cells] at e1
  subst e0 e1
  exact ⟨x0, x1, rfl, w0, w1⟩
end
section
variable {H : Type} {enc : TypeId × Value → H} {w : World} {base : Nat} {spare : Nat → Bool} {held : Bool}
set_option maxRecDepth 100000 in
theorem open_arr2b {t : TypeId} {r : Reach} {b0 : Nat} {v : Value} {d : DataW H} {p : List MemPlace} (ht : Try.prog.underlying t = some (.array 2 5)) (hc : Try.prog.cellsOf t = 2)
  (hv : Value.okWide Try.prog w r b0 t v) (h : DataW.Trod enc Try.prog w base spare held t v d p) : ∃ x0 x1 : Int, v = .agg #[.int .u8 x0, .int .u8 x1] ∧ (Lit.int .u8 x0).wf = true ∧ (Lit.int .u8 x1).wf = true :=
 open_arr2b' ht hc Try.underlying5 (by kernel_rfl) hv h
end
end Go.Proofs.Ytgoidclnccjdeaa.D
end
