/- Package disk: what the reference's Name and Check answer is what the program's do. -/
import Derived.Test.YtemeapfnfegkiaaQa
import Derived.Test.YtemeapfnfegkiaaPRx2
namespace Go.Proofs.Ytemeapfnfegkiaa.D
open Go Go.RowKit Go.Proofs.YtemeapfnfegkiaaK Go.Proofs.YtemeapfnfegkiaaW.PrintWords Go.Proofs.YtemeapfnfegkiaaW.PrintLast Go.Proofs.YtemeapfnfegkiaaW.PrintMore Go.Proofs.Ytemeapfnfegkiaa.PR
set_option linter.unusedVariables false
set_option linter.unusedSimpArgs false

theorem rIn (a lo hi : Int) : helioscoperef01_In.f a lo hi = some (decide (lo ≤ a ∧ a ≤ hi)) := by
  unfold helioscoperef01_In.f; split <;> simp [*]
theorem rletter (b : Int) : helioscoperef01_letter.f b = some (decide (97 ≤ b ∧ b ≤ 122)) := by
  unfold helioscoperef01_letter.f; split <;> simp <;> omega
theorem rdigit (b : Int) : helioscoperef01_digit.f b = some (decide (48 ≤ b ∧ b ≤ 57)) := by
  unfold helioscoperef01_digit.f; split <;> simp <;> omega
theorem wrapN {n : Nat} (h : n < 9223372036854775807) : wrap64 ((n : Int) + 1) = ((n + 1 : Nat) : Int) := by
  unfold wrap64; omega

theorem rName_l0 (s : ByteArray) (hs : s.size ≤ 9223372036854775807) : ∀ (d i : Nat), i + d = s.size → 1 ≤ i → okTo s i = true → Ev (fun k => helioscoperef01_Name.l0 k s (i : Int)) (okTo s s.size)
  | 0, i, hd, _, h => by
    obtain rfl : i = s.size := by omega
    rw [h]
    exact Ev.step (f := fun _ => some true) (fun k => by simp only [helioscoperef01_Name.l0]; rw [if_neg (by omega)]) (Ev.now _)
  | d + 1, i, hd, hi, h => by
    by_cases hb : okByte (i == 0) (bt s (i : Int)) = true
    · have h1 : okTo s (i + 1) = true := by rw [okTo_succ, h, hb]; rfl
      have ih := rName_l0 s hs d (i + 1) (by omega) (by omega) h1
      refine Ev.step (f := fun k => helioscoperef01_Name.l0 k s ((i + 1 : Nat) : Int)) (fun k => ?_) ih
      have hb' := (okByte_iff i _).1 hb
      simp only [helioscoperef01_Name.l0, rletter, rdigit, Option.bind_some, decide_eq_true_eq]
      rw [if_pos (by omega), if_pos (by omega), wrapN (by omega)]
      split
      · rfl
      · split
        · rfl
        · rw [if_pos (by omega)]
    · have hf : okByte (i == 0) (bt s (i : Int)) = false := by simpa using hb
      have h1 : okTo s (i + 1) = false := by rw [okTo_succ, hf]; simp
      rw [okTo_le s (by omega) h1]
      refine Ev.step (f := fun _ => some false) (fun k => ?_) (Ev.now _)
      have hb' : ¬ ((97 ≤ bt s (i : Int) ∧ bt s (i : Int) ≤ 122) ∨ (0 < i ∧ (bt s (i : Int) = 46 ∨ (48 ≤ bt s (i : Int) ∧ bt s (i : Int) ≤ 57)))) := fun x => hb ((okByte_iff i _).2 x)
      simp only [helioscoperef01_Name.l0, rletter, rdigit, Option.bind_some, decide_eq_true_eq]
      rw [if_pos (by omega), if_pos (by omega), if_neg (by omega), if_neg (by omega), if_neg (by omega)]

theorem outB_one (lo hi a : Int) : outB lo hi [a] = true ↔ ¬ (lo ≤ a ∧ a ≤ hi) := by
  unfold outB; simp; omega
theorem outB_two (lo hi a b : Int) : outB lo hi [a, b] = true ↔ ¬ ((lo ≤ a ∧ a ≤ hi) ∧ (lo ≤ b ∧ b ≤ hi)) := by
  unfold outB; simp; omega

theorem rName (s : ByteArray) (hs : s.size ≤ 9223372036854775807) : Ev (fun k => helioscoperef01_Name.f k s) (nameB s) := by
  unfold helioscoperef01_Name.f
  simp only [rIn, rletter, Option.bind_some, decide_eq_true_eq]
  by_cases h : 1 ≤ (s.size : Int) ∧ (s.size : Int) ≤ 16
  · have e : nameB s = okTo s s.size := by
      have : outB 1 16 [(s.size : Int)] = false := by rw [Bool.eq_false_iff]; exact fun x => (outB_one _ _ _).1 x h
      unfold nameB; rw [this]; rfl
    rw [e]
    refine Ev.congr (f := fun k => helioscoperef01_Name.j0 k s (!decide (97 ≤ bt s 0 ∧ bt s 0 ≤ 122))) (fun k => by rw [if_pos h, if_pos (by omega)]) ?_
    by_cases hb : 97 ≤ bt s 0 ∧ bt s 0 ≤ 122
    · have h1 : okTo s 1 = true := by
        have := (okByte_iff 0 (bt s ((0 : Nat) : Int))).2 (.inl hb)
        simp only [okTo, List.range_succ, List.range_zero, List.nil_append, List.all_cons, List.all_nil, Bool.and_true]
        exact this
      refine Ev.step (f := fun k => helioscoperef01_Name.l0 k s ((1 : Nat) : Int)) (fun k => ?_) (rName_l0 s hs (s.size - 1) 1 (by omega) (by omega) h1)
      simp only [helioscoperef01_Name.j0, decide_eq_true hb]
      rfl
    · have h1 : okTo s 1 = false := by
        have := okByte_not 0 (bt s ((0 : Nat) : Int)) (fun x => by rcases x with x | x; exact hb x; omega)
        simp only [okTo, List.range_succ, List.range_zero, List.nil_append, List.all_cons, List.all_nil, Bool.and_true]
        exact this
      rw [okTo_le s (by omega) h1]
      refine Ev.step (f := fun _ => some false) (fun k => ?_) (Ev.now _)
      simp only [helioscoperef01_Name.j0, decide_eq_false hb]
      rfl
  · have e : nameB s = false := by
      have : outB 1 16 [(s.size : Int)] = true := (outB_one _ _ _).2 h
      unfold nameB; rw [this]; rfl
    rw [e]
    refine Ev.step (f := fun _ => some false) (fun k => ?_) (Ev.now _)
    rw [if_neg h]
    simp only [helioscoperef01_Name.j0, if_true]

theorem rEnds (lo hi a b : Int) : Ev (fun k => helioscoperef01_Ends.f k lo hi a b) (if outB a b [lo, hi] = true then 7 else if hi < lo then 2 else 0) := by
  unfold helioscoperef01_Ends.f
  simp only [rIn, Option.bind_some, decide_eq_true_eq]
  refine Ev.step (f := fun _ => some (if outB a b [lo, hi] = true then 7 else if hi < lo then 2 else 0)) (fun k => ?_) (Ev.now _)
  simp only [outB_two, helioscoperef01_Ends.j0]
  by_cases h1 : a ≤ lo ∧ lo ≤ b <;> by_cases h2 : a ≤ hi ∧ hi ≤ b <;> simp [h1, h2] <;> split <;> simp_all <;> omega

/-- what Check answers behind dots that are well -/
def toldE (D : Dat) : Int × Int × Int := if (firstL D.told 4 (errT D.spots.length)).2 ≠ 0 then (3, firstL D.told 4 (errT D.spots.length)) else (0, 0, 0)
def toldFrom (D : Dat) (i : Nat) : Int × Int × Int := if (firstE (errT D.spots.length) (D.told.drop i) i).2 ≠ 0 then (3, firstE (errT D.spots.length) (D.told.drop i) i) else (0, 0, 0)
def spotsFrom (D : Dat) (i : Nat) : Int × Int × Int := if (firstE (errS D.spots) (D.spots.drop i) i).2 ≠ 0 then (2, firstE (errS D.spots) (D.spots.drop i) i) else toldE D

theorem firstE_drop {α : Type} (E : Nat → α → Int) (l : List α) (i : Nat) (h : i < l.length) : firstE E (l.drop i) i = if E i l[i] = 0 then firstE E (l.drop (i + 1)) (i + 1) else (((i : Nat) : Int), E i l[i]) := by
  rw [List.drop_eq_getElem_cons h]; rfl
theorem toldFrom_at (D : Dat) (i : Nat) (h : i < D.told.length) : toldFrom D i = if errT D.spots.length i D.told[i] = 0 then toldFrom D (i + 1) else (3, (i : Int), errT D.spots.length i D.told[i]) := by
  unfold toldFrom
  rw [firstE_drop _ _ _ h]
  by_cases e : errT D.spots.length i D.told[i] = 0
  · simp only [if_pos e]
  · simp only [if_neg e, ne_eq]
    rw [if_pos e]
theorem spotsFrom_at (D : Dat) (i : Nat) (h : i < D.spots.length) : spotsFrom D i = if errS D.spots i D.spots[i] = 0 then spotsFrom D (i + 1) else (2, (i : Int), errS D.spots i D.spots[i]) := by
  unfold spotsFrom
  rw [firstE_drop _ _ _ h]
  by_cases e : errS D.spots i D.spots[i] = 0
  · simp only [if_pos e]
  · simp only [if_neg e, ne_eq]
    rw [if_pos e]

theorem rindex (nm : ByteArray) (rad lo hi : Int) (l : List Spot) (t : List Told) (a : Int) (hl : l.length ≤ 9223372036854775807) : helioscoperef01_index.f nm rad lo hi l t a = some (decide (0 ≤ a ∧ a ≤ (l.length : Int) - 1)) := by
  unfold helioscoperef01_index.f
  have e : wrap64 ((l.length : Int) - 1) = (l.length : Int) - 1 := by unfold wrap64; omega
  rw [e, rIn]; rfl

theorem rCheck_l2 (D : Dat) (hl : D.spots.length ≤ 9223372036854775807) (ht : D.told.length ≤ 9223372036854775807) : ∀ (d i : Nat), i + d = D.told.length →
    Ev (fun k => helioscoperef01_Check.l2 k (i : Int) D.nm D.rad D.lo D.hi D.spots D.told) (toldFrom D i)
  | 0, i, hd => by
    have e : toldFrom D i = (0, 0, 0) := by unfold toldFrom; rw [List.drop_eq_nil_of_le (by omega)]; rfl
    rw [e]
    exact Ev.step (f := fun _ => some (0, 0, 0)) (fun k => by simp only [helioscoperef01_Check.l2]; rw [if_neg (by omega)]) (Ev.now _)
  | d + 1, i, hd => by
    have ih := rCheck_l2 D hl ht d (i + 1) (by omega)
    have hi : i < D.told.length := by omega
    rw [toldFrom_at D i hi]
    rw [show errT D.spots.length i D.told[i] = if outB 0 ((D.spots.length : Int) - 1) [D.told[i].f0, D.told[i].f1] then 4 else if D.told[i].f0 = D.told[i].f1 then 2 else 0 from rfl]
    have hO := outB_two 0 ((D.spots.length : Int) - 1) D.told[i].f0 D.told[i].f1
    have s1 : ∀ k, helioscoperef01_Check.l2 (k + 1) (i : Int) D.nm D.rad D.lo D.hi D.spots D.told = helioscoperef01_Check.j5 k (i : Int) (outB 0 ((D.spots.length : Int) - 1) [D.told[i].f0, D.told[i].f1]) D.nm D.rad D.lo D.hi D.spots D.told D.told[i].f0 D.told[i].f1 D.told[i].f2 := by
      intro k
      simp only [helioscoperef01_Check.l2, rindex _ _ _ _ _ _ _ hl, Option.bind_some, decide_eq_true_eq]
      rw [if_pos (by omega), if_pos (by omega), told_at _ _ hi]
      generalize D.told[i] = t at *
      by_cases h0 : 0 ≤ t.f0 ∧ t.f0 ≤ (D.spots.length : Int) - 1
      · rw [if_pos h0]
        by_cases h1 : 0 ≤ t.f1 ∧ t.f1 ≤ (D.spots.length : Int) - 1
        · rw [decide_eq_true h1, Bool.eq_false_iff.2 (fun x => hO.1 x ⟨h0, h1⟩)]; rfl
        · rw [decide_eq_false h1, hO.2 (fun x => h1 x.2)]; rfl
      · rw [if_neg h0, hO.2 (fun x => h0 x.1)]
    refine Ev.step s1 ?_
    generalize outB 0 ((D.spots.length : Int) - 1) [D.told[i].f0, D.told[i].f1] = o
    cases o
    · by_cases he : D.told[i].f0 = D.told[i].f1
      · refine Ev.step (f := fun _ => some (3, (i : Int), 2)) (fun k => ?_) (by simp only [he]; exact Ev.now _)
        simp only [helioscoperef01_Check.j5, he]; rfl
      · refine Ev.step (f := fun k => helioscoperef01_Check.l2 k ((i + 1 : Nat) : Int) D.nm D.rad D.lo D.hi D.spots D.told) (fun k => ?_) (by simp only [he]; exact ih)
        simp only [helioscoperef01_Check.j5]
        rw [wrapN (by omega), if_neg he]; rfl
    · exact Ev.step (f := fun _ => some (3, (i : Int), 4)) (fun k => by simp only [helioscoperef01_Check.j5]; rfl) (Ev.now _)

theorem rCheck_l1 (D : Dat) (i : Nat) (hi : i < D.spots.length) (hl : D.spots.length ≤ 9223372036854775807) (b : Bool)
    (ih : Ev (fun k => helioscoperef01_Check.l0 k ((i + 1 : Nat) : Int) D.nm D.rad D.lo D.hi D.spots D.told) (spotsFrom D (i + 1))) : ∀ (d j : Nat), j + d = i → (D.spots.take j).any (sameAs D.spots[i]) = false →
    Ev (fun k => helioscoperef01_Check.l1 k (i : Int) (j : Int) D.nm D.rad D.lo D.hi D.spots D.told D.spots[i].f0 D.spots[i].f1 b) (if (D.spots.take i).any (sameAs D.spots[i]) = true then (2, (i : Int), 5) else spotsFrom D (i + 1))
  | 0, j, hd, h => by
    obtain rfl : j = i := by omega
    rw [h]
    refine Ev.step (f := fun k => helioscoperef01_Check.l0 k ((j + 1 : Nat) : Int) D.nm D.rad D.lo D.hi D.spots D.told) (fun k => ?_) ih
    simp only [helioscoperef01_Check.l1]
    rw [if_neg (by omega), wrapN (by omega)]
  | d + 1, j, hd, h => by
    have hj : j < D.spots.length := by omega
    have ht : (D.spots.take (j + 1)).any (sameAs D.spots[i]) = sameAs D.spots[i] D.spots[j] := by
      rw [List.take_add_one, List.getElem?_eq_getElem hj, List.any_append, h]; simp
    by_cases hs : D.spots[j].f0 = D.spots[i].f0 ∧ D.spots[j].f1 = D.spots[i].f1
    · have h1 : (D.spots.take i).any (sameAs D.spots[i]) = true := by
        have : (D.spots.take (j + 1)).any (sameAs D.spots[i]) = true := by rw [ht]; simp [sameAs, hs.1, hs.2]
        obtain ⟨x, hx, hp⟩ := List.any_eq_true.1 this
        refine List.any_eq_true.2 ⟨x, ?_, hp⟩
        have : D.spots.take (j + 1) = (D.spots.take i).take (j + 1) := by rw [List.take_take, Nat.min_eq_left (by omega)]
        rw [this] at hx
        exact List.mem_of_mem_take hx
      rw [h1]
      refine Ev.step (f := fun _ => some (2, (i : Int), 5)) (fun k => ?_) (Ev.now _)
      simp only [helioscoperef01_Check.l1]
      rw [if_pos (by omega), if_pos (by omega), if_pos (by omega), spot_at _ _ hj, if_pos hs.1, if_pos hs.2]
    · have h1 : (D.spots.take (j + 1)).any (sameAs D.spots[i]) = false := by
        rw [ht, Bool.eq_false_iff]; simp only [sameAs, ne_eq, Bool.and_eq_true, beq_iff_eq]; exact hs
      refine Ev.step (f := fun k => helioscoperef01_Check.l1 k (i : Int) ((j + 1 : Nat) : Int) D.nm D.rad D.lo D.hi D.spots D.told D.spots[i].f0 D.spots[i].f1 b) (fun k => ?_) (rCheck_l1 D i hi hl b ih d (j + 1) (by omega) h1)
      simp only [helioscoperef01_Check.l1]
      rw [if_pos (by omega), if_pos (by omega), if_pos (by omega), spot_at _ _ hj, wrapN (by omega)]
      by_cases e0 : D.spots[j].f0 = D.spots[i].f0
      · rw [if_pos e0, if_neg (fun e1 => hs ⟨e0, e1⟩)]
      · rw [if_neg e0]

theorem rCheck_l0 (D : Dat) (hl : D.spots.length ≤ 9223372036854775807) (ht : D.told.length ≤ 9223372036854775807) : ∀ (d i : Nat), i + d = D.spots.length →
    Ev (fun k => helioscoperef01_Check.l0 k (i : Int) D.nm D.rad D.lo D.hi D.spots D.told) (spotsFrom D i)
  | 0, i, hd => by
    have e : spotsFrom D i = toldE D := by unfold spotsFrom; rw [List.drop_eq_nil_of_le (by omega)]; rfl
    rw [e]
    by_cases h4 : (D.told.length : Int) > 4
    · have e : toldE D = (3, 0, 3) := by unfold toldE firstL; rw [if_pos h4]; rfl
      rw [e]
      exact Ev.step (f := fun _ => some (3, 0, 3)) (fun k => by simp only [helioscoperef01_Check.l0]; rw [if_neg (by omega), if_pos h4]) (Ev.now _)
    · have e : toldE D = toldFrom D 0 := by unfold toldE firstL; rw [if_neg h4]; rfl
      rw [e]
      exact Ev.step (f := fun k => helioscoperef01_Check.l2 k ((0 : Nat) : Int) D.nm D.rad D.lo D.hi D.spots D.told) (fun k => by simp only [helioscoperef01_Check.l0]; rw [if_neg (by omega), if_neg h4]; rfl) (rCheck_l2 D hl ht _ 0 (Nat.zero_add _))
  | d + 1, i, hd => by
    have ih := rCheck_l0 D hl ht d (i + 1) (by omega)
    have hi : i < D.spots.length := by omega
    rw [spotsFrom_at D i hi]
    rw [show errS D.spots i D.spots[i] = if outB (-12) 12 [D.spots[i].f0, D.spots[i].f1] then 7 else if (D.spots.take i).any (sameAs D.spots[i]) then 5 else 0 from rfl]
    have hO := outB_two (-12) 12 D.spots[i].f0 D.spots[i].f1
    have s1 : ∀ k, helioscoperef01_Check.l0 (k + 1) (i : Int) D.nm D.rad D.lo D.hi D.spots D.told = helioscoperef01_Check.j2 k (i : Int) (outB (-12) 12 [D.spots[i].f0, D.spots[i].f1]) D.nm D.rad D.lo D.hi D.spots D.told D.spots[i].f0 D.spots[i].f1 D.spots[i].f2 := by
      intro k
      simp only [helioscoperef01_Check.l0, rIn, Option.bind_some, decide_eq_true_eq]
      rw [if_pos (by omega), if_pos (by omega), spot_at _ _ hi]
      generalize D.spots[i] = t at *
      by_cases h0 : -12 ≤ t.f0 ∧ t.f0 ≤ 12
      · rw [if_pos h0]
        by_cases h1 : -12 ≤ t.f1 ∧ t.f1 ≤ 12
        · rw [decide_eq_true h1, Bool.eq_false_iff.2 (fun x => hO.1 x ⟨h0, h1⟩)]; rfl
        · rw [decide_eq_false h1, hO.2 (fun x => h1 x.2)]; rfl
      · rw [if_neg h0, hO.2 (fun x => h0 x.1)]
    refine Ev.step s1 ?_
    generalize outB (-12) 12 [D.spots[i].f0, D.spots[i].f1] = o
    cases o
    · have hh := rCheck_l1 D i hi hl D.spots[i].f2 ih i 0 (by omega) (by simp)
      refine Ev.step (f := fun k => helioscoperef01_Check.l1 k (i : Int) ((0 : Nat) : Int) D.nm D.rad D.lo D.hi D.spots D.told D.spots[i].f0 D.spots[i].f1 D.spots[i].f2) (fun k => by simp only [helioscoperef01_Check.j2]; rfl) ?_
      generalize (D.spots.take i).any (sameAs D.spots[i]) = b at hh ⊢
      cases b
      · exact hh
      · exact hh
    · exact Ev.step (f := fun _ => some (2, (i : Int), 7)) (fun k => by simp only [helioscoperef01_Check.j2]; rfl) (Ev.now _)

theorem rCheck (D : Dat) (hn : D.nm.size ≤ 9223372036854775807) (hl : D.spots.length ≤ 9223372036854775807) (ht : D.told.length ≤ 9223372036854775807) :
    Ev (fun k => helioscoperef01_Check.f k D.nm D.rad D.lo D.hi D.spots D.told) (checkF D) := by
  unfold helioscoperef01_Check.f checkF
  refine Ev.bind (rName D.nm hn) ?_
  by_cases h0 : nameB D.nm = true
  · simp only [h0, if_true, Bool.true_eq_false, if_false]
    refine Ev.bind (rEnds D.lo D.hi 0 12) ?_
    simp only [rIn, Option.bind_some, decide_eq_true_eq]
    have h1 := outB_one 1 12 D.rad
    generalize outB 1 12 [D.rad] = o1 at h1
    generalize outB 0 12 [D.lo, D.hi] = o2
    have hc : ∀ k, (if 1 ≤ D.rad ∧ D.rad ≤ 12 then helioscoperef01_Check.j0 k (if o2 = true then 7 else if D.hi < D.lo then 2 else 0) ((if o2 = true then (7 : Int) else if D.hi < D.lo then 2 else 0) == 7) D.nm D.rad D.lo D.hi D.spots D.told else helioscoperef01_Check.j0 k (if o2 = true then 7 else if D.hi < D.lo then 2 else 0) true D.nm D.rad D.lo D.hi D.spots D.told) =
        helioscoperef01_Check.j0 k (if o2 = true then 7 else if D.hi < D.lo then 2 else 0) (o1 || o2) D.nm D.rad D.lo D.hi D.spots D.told := by
      intro k
      by_cases hr : 1 ≤ D.rad ∧ D.rad ≤ 12
      · have e1 : o1 = false := Bool.eq_false_iff.2 (fun x => h1.1 x hr)
        rw [if_pos hr, e1]
        congr 1
        cases o2
        · by_cases h : D.hi < D.lo <;> simp [h]
        · rfl
      · rw [if_neg hr, h1.2 hr]; rfl
    refine Ev.congr hc ?_
    generalize hoo : (o1 || o2) = o
    cases o
    · have e2 : o2 = false := by cases o1 <;> simp_all
      subst e2
      by_cases h : D.hi < D.lo
      · refine Ev.step (f := fun _ => some (1, 0, 2)) (fun k => ?_) (by simp only [h]; exact Ev.now _)
        simp only [helioscoperef01_Check.j0, h]; rfl
      · simp only [h, Bool.false_eq_true, if_false]
        by_cases h7 : (D.spots.length : Int) > 7
        · refine Ev.step (f := fun _ => some (2, 0, 3)) (fun k => ?_) ?_
          · simp only [helioscoperef01_Check.j0, h7]; rfl
          · have e : firstL D.spots 7 (errS D.spots) = (0, 3) := by unfold firstL; rw [if_pos h7]
            rw [e]; exact Ev.now _
        · refine Ev.step (f := fun k => helioscoperef01_Check.l0 k ((0 : Nat) : Int) D.nm D.rad D.lo D.hi D.spots D.told) (fun k => ?_) ?_
          · simp only [helioscoperef01_Check.j0, h7]; rfl
          · have hh := rCheck_l0 D hl ht _ 0 (Nat.zero_add _)
            have e : spotsFrom D 0 = if (firstL D.spots 7 (errS D.spots)).2 ≠ 0 then (2, firstL D.spots 7 (errS D.spots)) else toldE D := by
              have : firstL D.spots 7 (errS D.spots) = firstE (errS D.spots) D.spots 0 := by unfold firstL; rw [if_neg h7]
              rw [this]; rfl
            rw [e] at hh
            exact hh
    · exact Ev.step (f := fun _ => some (1, 0, 7)) (fun k => by simp only [helioscoperef01_Check.j0]; rfl) (Ev.now _)
  · have e : nameB D.nm = false := by simpa using h0
    simp only [e, Bool.false_eq_true, if_false, if_true]
    exact Ev.now _
end Go.Proofs.Ytemeapfnfegkiaa.D
