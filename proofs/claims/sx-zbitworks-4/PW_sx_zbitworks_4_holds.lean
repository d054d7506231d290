import PyProof.Rows.All
import Wide.All
import OpenK.AllK
import Wide.FinOn
import KE.IntText
import PyProof.Rows.StrStrike
import PyProof.Rows.CatFin
import PyProof.StrCalls6
import PyProof.Conv_int
import PyProof.Rows.BitMore
import PyProof.Rows.Globals
import PyProof.DefCall
import PyProof.RulesTry
import PyProof.CallType
import PyProof.Ends
import PyProof.RaisesAny
import PyProof.ReprStr
import PyProof.StationsW
import PyProof.Rows.Catch
import PyProof.Rows.Exc
import PyProof.Rows.Nodes
import PyProof.InstFacts
import PyProof.RulesRaise
import PyProof.ExcFactsAll.ValueError
import PyProof.Rows.FactsExc_ValueError
import KE.KTryDeep
import PyProof.StrBlockI
import PyProof.StrLawsIdx
import PyProof.Rows.StrFit
import PyProof.Rows.StrJoinRep
import Open.Head
import PySem.Challenge.RW_sx_zbitworks_4
set_option Elab.async false
set_option compiler.extract_closed false
section
set_option maxRecDepth 100000
namespace Mine
open PySem PySem.NumText
/-- the signs are digits of the base -/
def Good (b : Nat) (D : List Nat) : Prop := ∀ c ∈ D, ∃ d, digit? c = some d ∧ d < b
def dv (c : Nat) : Nat := (digit? c).getD 0
def val (b : Nat) (D : List Nat) : Nat := D.foldl (fun a c => a * b + dv c) 0
def pushes (D : List Nat) (ds : Array Nat) : Array Nat := D.foldl (fun a c => a.push (dv c)) ds
theorem Good.tail {b c : Nat} {D : List Nat} (h : Good b (c :: D)) : Good b D := fun d hd => h d (List.mem_cons_of_mem _ hd)
theorem Good.left {b : Nat} {D R : List Nat} (h : Good b (D ++ R)) : Good b D := fun d hd => h d (List.mem_append.mpr (.inl hd))
theorem Good.right {b : Nat} {D R : List Nat} (h : Good b (D ++ R)) : Good b R := fun d hd => h d (List.mem_append.mpr (.inr hd))
theorem digit_us : digit? 95 = none := rfl
theorem step_good {b c : Nat} (h : ∃ d, digit? c = some d ∧ d < b) (ds : Array Nat) (a : Bool) : step b (ds, a) c = some (ds.push (dv c), true) := by
  obtain ⟨d, h1, h2⟩ := h
  have hc : (c == 95) = false := by
    rw [beq_eq_false_iff_ne]; intro e; subst e; rw [digit_us] at h1; cases h1
  unfold NumText.step
  rw [hc]
  simp [h1, h2, dv]
theorem fold_good {b : Nat} : ∀ {D : List Nat}, Good b D → ∀ (ds : Array Nat) (a : Bool), D.foldlM (step b) (ds, a) = some (pushes D ds, a || !D.isEmpty)
  | [], _, ds, a => by simp [pushes]
  | c :: D, h, ds, a => by
    rw [List.foldlM_cons, step_good (h c (List.mem_cons_self ..))]
    show D.foldlM (step b) (ds.push (dv c), true) = _
    rw [fold_good h.tail]
    simp [pushes]
theorem pushes_val (b : Nat) : ∀ (D : List Nat) (ds : Array Nat), (pushes D ds).foldl (fun a d => a * b + d) 0 = D.foldl (fun a c => a * b + dv c) (ds.foldl (fun a d => a * b + d) 0)
  | [], ds => rfl
  | c :: D, ds => by
    rw [pushes, List.foldl_cons, ← pushes, pushes_val b D, List.foldl_cons, Array.foldl_push]
theorem pushes_size : ∀ (D : List Nat) (ds : Array Nat), (pushes D ds).size = ds.size + D.length
  | [], ds => rfl
  | c :: D, ds => by
    rw [pushes, List.foldl_cons, ← pushes, pushes_size D, Array.size_push, List.length_cons]; omega
theorem pushes_app (D R : List Nat) (ds : Array Nat) : pushes R (pushes D ds) = pushes (D ++ R) ds := by simp [pushes]
theorem step_us (b : Nat) (ds : Array Nat) : step b (ds, true) 95 = some (ds, false) := rfl
theorem step_us' (b : Nat) (ds : Array Nat) : step b (ds, false) 95 = none := rfl
theorem step_bad {b c : Nat} (h1 : c ≠ 95) (h2 : ∀ d, digit? c = some d → ¬ d < b) (p : Array Nat × Bool) : step b p c = none := by
  unfold NumText.step
  rw [beq_eq_false_iff_ne.mpr h1]
  cases h : digit? c with
  | none => rfl
  | some d => simp [h2 d h]
/-- no mark -/
theorem digits_plain {b : Nat} {D : List Nat} (h : Good b D) : digits? b D = if D = [] then none else some (pushes D #[]) := by
  unfold digits?
  rw [fold_good h]
  cases D <;> simp [pushes]
/-- one underscore -/
theorem digits_us {b : Nat} {D R : List Nat} (h : Good b D) (k : Good b R) : digits? b (D ++ 95 :: R) = if D = [] ∨ R = [] then none else some (pushes (D ++ R) #[]) := by
  unfold digits?
  rw [List.foldlM_append, fold_good h]
  cases D with
  | nil => simp [step_us']
  | cons c D =>
    show (((95 :: R).foldlM (step b) (pushes (c :: D) #[], true)).bind _) = _
    rw [List.foldlM_cons, step_us]
    show ((R.foldlM (step b) (pushes (c :: D) #[], false)).bind _) = _
    rw [fold_good k, pushes_app]
    cases R <;> simp
theorem digits_us2 {b : Nat} {D R : List Nat} (h : Good b D) : digits? b (D ++ 95 :: 95 :: R) = none := by
  unfold digits?
  rw [List.foldlM_append, fold_good h]
  cases D with
  | nil => simp [step_us']
  | cons c D =>
    show (((95 :: 95 :: R).foldlM (step b) (pushes (c :: D) #[], true)).bind _) = _
    rw [List.foldlM_cons, step_us]
    rfl
theorem digits_bad {b c : Nat} {D R : List Nat} (h : Good b D) (h1 : c ≠ 95) (h2 : ∀ d, digit? c = some d → ¬ d < b) : digits? b (D ++ c :: R) = none := by
  unfold digits?
  rw [List.foldlM_append, fold_good h]
  show (((c :: R).foldlM (step b) _).bind _) = _
  rw [List.foldlM_cons, step_bad h1 h2]
  rfl
/-- signs that neither blank nor NUL -/
def Ink (c : Nat) : Prop := 33 ≤ c ∧ c < 128
theorem blank_ink {c : Nat} (h : Ink c) : blank c = false := by
  obtain ⟨h1, _⟩ := h
  unfold blank
  simp
  omega
theorem drop_ink : ∀ {T : List Nat}, (∀ c ∈ T, Ink c) → T.dropWhile blank = T
  | [], _ => rfl
  | c :: T, h => by rw [List.dropWhile_cons, blank_ink (h c (List.mem_cons_self ..))]; rfl
theorem drop_ink_back {T : List Nat} (h : ∀ c ∈ T, Ink c) : (T.reverse.dropWhile blank).reverse = T := by
  rw [drop_ink fun c hc => h c (List.mem_reverse.mp hc), List.reverse_reverse]
theorem sign_ink {T : List Nat} (h : ∀ c ∈ T.head?, c ≠ 45 ∧ c ≠ 43) : sign T = (false, T) := by
  cases T with
  | nil => rfl
  | cons c T =>
    have := h c (by simp)
    unfold sign
    split
    · rename_i e; cases e; exact absurd rfl this.1
    · rename_i e; cases e; exact absurd rfl this.2
    · rfl
theorem based_ink {T : List Nat} (h : ∀ c ∈ T, Ink c) : ∀ c ∈ (based 0 T).2.2, Ink c := by
  unfold based
  cases hp : prefix? T with
  | none => exact h
  | some p =>
    show ∀ c ∈ (match T.drop 2 with | 95 :: r => r | r => r), Ink c
    split
    · rename_i e
      intro c hc
      exact h c (List.mem_of_mem_drop (by rw [e]; exact List.mem_cons_of_mem _ hc))
    · intro c hc
      exact h c (List.mem_of_mem_drop hc)
/-- what int(text, 0) makes of inky signs without a sign ahead -/
theorem read_ink {T : List Nat} (limit : Nat) (h : ∀ c ∈ T, Ink c) (h2 : ∀ c ∈ T.head?, c ≠ 45 ∧ c ≠ 43) :
    (int_private% "readNumeral") limit 0 T = judge limit false (based 0 T).1 (based 0 T).2.1 (digits? (based 0 T).1 (based 0 T).2.2) := by
  rw [readNumeral_eq, drop_ink h, sign_ink h2]
  show judge limit false (based 0 T).1 (based 0 T).2.1 (digits? (based 0 T).1 (((based 0 T).2.2.reverse.dropWhile blank).reverse)) = _
  rw [drop_ink_back (based_ink h)]
end Mine
end
section
set_option maxRecDepth 100000
namespace Mine
open PySem PySem.NumText
def int0 (T : List Nat) : Option Nat :=
  match digits? (based 0 T).1 (based 0 T).2.2 with
  | none => none
  | some ds => if (based 0 T).2.1 && ds.foldl (fun a d => a * (based 0 T).1 + d) 0 != 0 then none else some (ds.foldl (fun a d => a * (based 0 T).1 + d) 0)
theorem based_of (T : List Nat) : (based 0 T).1 = 16 ∨ (based 0 T).1 = 8 ∨ (based 0 T).1 = 2 ∨ (based 0 T).1 = 10 := by
  unfold based
  cases h : prefix? T with
  | none => exact .inr (.inr (.inr rfl))
  | some p =>
    have : p = 16 ∨ p = 8 ∨ p = 2 := by
      unfold prefix? at h
      repeat' split at h
      all_goals first | (cases h; decide) | cases h
    rcases this with rfl | rfl | rfl
    · exact .inl rfl
    · exact .inr (.inl rfl)
    · exact .inr (.inr (.inl rfl))
theorem read_int0 {T : List Nat} (limit : Nat) (h : ∀ c ∈ T, Ink c) (h2 : ∀ c ∈ T.head?, c ≠ 45 ∧ c ≠ 43) (hl : (based 0 T).1 = 10 → limit = 0 ∧ T.length ≤ 640) :
    (int_private% "readNumeral") limit 0 T = match int0 T with
      | some n => (int_private% "Numeral.value") (n : Int)
      | none => int_private% "Numeral.invalid" := by
  rw [read_ink limit h h2]
  unfold int0
  cases hd : digits? (based 0 T).1 (based 0 T).2.2 with
  | none => rfl
  | some ds =>
    have e1 : (![2, 4, 8, 16, 32].contains (based 0 T).1 && limit != 0 && decide (ds.size > limit)) = false := by
      rcases based_of T with e | e | e | e
      · rw [e]; rfl
      · rw [e]; rfl
      · rw [e]; rfl
      · rw [(hl e).1]; simp
    have e2 : ((based 0 T).1 == 10 && decide (ds.size > 6000)) = false := by
      by_cases e : (based 0 T).1 = 10
      · have h3 := digits_size hd
        have h4 : (based 0 T).2.2.length ≤ T.length := by
          unfold based
          cases prefix? T with
          | none => exact Nat.le_refl _
          | some p =>
            show (match T.drop 2 with | 95 :: r => r | r => r).length ≤ T.length
            split
            · rename_i e; have := congrArg List.length e; simp at this; omega
            · simp
        have := (hl e).2
        rw [decide_eq_false (by omega), Bool.and_false]
      · simp [e]
    unfold judge
    refine (if_neg (by rw [e1]; exact Bool.false_ne_true)).trans ((if_neg (by rw [e2]; exact Bool.false_ne_true)).trans ?_)
    show (if ((based 0 T).2.1 && ds.foldl (fun a d => a * (based 0 T).1 + d) 0 != 0) = true then _ else _) = _
    split <;> rename_i h5 <;> simp [h5]
/-- what the law calls formed, but for the edges and the length -/
def fm (b : Nat) (D : List Nat) (n : Nat) (M : List Nat) (p : Nat) : Bool :=
  if D = [] then false
  else if M ≠ [] ∧ M.head? ≠ some 95 then false
  else if b = 2 then true
  else if b = 10 ∧ 0 < n ∧ D.head? = some 48 then false
  else if M = [] then true
  else if M = [95, 95] ∨ p = D.length then false
  else if 0 < p then true else b ≠ 10
/-- the marks that the law sets in -/
inductive Mark (b : Nat) : List Nat → Prop
  | none : Mark b []
  | one : Mark b [95]
  | two : Mark b [95, 95]
  | bad {c : Nat} : c ≠ 95 → (∀ d, digit? c = some d → ¬ d < b) → Mark b [c]
theorem good_ne {b : Nat} {D : List Nat} (h : Good b D) : ∀ c ∈ D, c ≠ 95 := by
  intro c hc e
  obtain ⟨d, h1, _⟩ := h c hc
  subst e
  rw [digit_us] at h1
  cases h1
def strip1 (R : List Nat) : List Nat := match R with
  | 95 :: r => r
  | r => r
theorem strip1_good {b : Nat} {D R : List Nat} (h : Good b D) (hne : D ≠ []) : strip1 (D ++ R) = D ++ R := by
  cases D with
  | nil => exact absurd rfl hne
  | cons c D =>
    have := good_ne h c (List.mem_cons_self ..)
    unfold strip1
    split
    · rename_i e; injection e with e _; exact absurd e this
    · rfl
theorem strip1_bad {c : Nat} (q1 : c ≠ 95) (R : List Nat) : strip1 (c :: R) = c :: R := by
  unfold strip1
  split
  · rename_i e; injection e with e _; exact absurd e q1
  · rfl
theorem sum_pushes (b : Nat) (D : List Nat) : (pushes D #[]).foldl (fun a d => a * b + d) 0 = val b D := pushes_val b D #[]
/-- with a head of base b: what the digits give -/
theorem int_wide {b : Nat} {D M : List Nat} {p : Nat} (hb2 : b ≠ 2) (hb : b ≠ 10) (h : Good b D) (hp : p ≤ D.length) (hM : Mark b M) :
    (digits? b (strip1 (D.take p ++ M ++ D.drop p))).map (fun ds => ds.foldl (fun a d => a * b + d) 0) = if fm b D (val b D) M p then some (val b D) else none := by
  have h1 : Good b (D.take p) := fun c hc => h c (List.mem_of_mem_take hc)
  have h2 : Good b (D.drop p) := fun c hc => h c (List.mem_of_mem_drop hc)
  have e : D.take p ++ D.drop p = D := List.take_append_drop p D
  by_cases hD : D = []
  · subst hD
    have : fm b [] (val b []) M p = false := by simp [fm]
    rw [this]
    simp only [List.take_nil, List.drop_nil, List.nil_append, List.append_nil]
    cases hM with
    | none => rfl
    | one => rfl
    | two => rfl
    | bad q1 q2 =>
      rename_i c
      rw [strip1_bad q1 [], show ([c] : List Nat) = [] ++ c :: [] from rfl, digits_bad (D := []) (fun c hc => by cases hc) q1 q2]
      rfl
  · by_cases hp0 : p = 0
    · subst hp0
      simp only [List.take_zero, List.drop_zero, List.nil_append]
      cases hM with
      | none =>
        have e1 : strip1 D = D := by have := strip1_good (R := []) h hD; simpa using this
        simp only [List.nil_append]
        rw [e1, digits_plain h, if_neg hD]
        simp [fm, hD, hb, hb2, sum_pushes]
      | one =>
        show (digits? b D).map _ = _
        rw [digits_plain h, if_neg hD]
        have : D.length ≠ 0 := by simpa using hD
        simp [fm, hD, hb, hb2, sum_pushes, Ne.symm this]
      | two =>
        show (digits? b ([] ++ 95 :: D)).map _ = _
        rw [digits_us (D := []) (fun c hc => by cases hc) h]
        simp [fm, hD, hb, hb2]
      | bad q1 q2 =>
        rename_i c
        have e9 : strip1 ([c] ++ D) = c :: D := strip1_bad q1 D
        rw [e9, show c :: D = [] ++ c :: D from rfl, digits_bad (D := []) (fun c hc => by cases hc) q1 q2]
        simp [fm, hD, q1]
    · have hne : D.take p ≠ [] := by
        intro q
        have := congrArg List.length q
        rw [List.length_take] at this
        simp at this
        rcases this with h | h
        · exact hp0 h
        · exact hD h
      rw [List.append_assoc, strip1_good h1 hne]
      cases hM with
      | none =>
        rw [List.nil_append, e, digits_plain h, if_neg hD]
        simp [fm, hD, hb, hb2, sum_pushes]
      | one =>
        show (digits? b (D.take p ++ 95 :: D.drop p)).map _ = _
        rw [digits_us h1 h2, e]
        by_cases hl : p = D.length
        · have : D.drop p = [] := by rw [hl]; simp
          simp [this, fm, hD, hb, hb2, hl]
        · have : D.drop p ≠ [] := by
            intro q
            have := congrArg List.length q
            rw [List.length_drop] at this
            simp at this
            omega
          simp [this, hne, fm, hD, hb, hb2, hl, sum_pushes, Nat.pos_of_ne_zero hp0]
      | two =>
        show (digits? b (D.take p ++ 95 :: 95 :: D.drop p)).map _ = _
        rw [digits_us2 h1]
        simp [fm, hD, hb, hb2]
      | bad q1 q2 =>
        rename_i c
        show (digits? b (D.take p ++ c :: D.drop p)).map _ = _
        rw [digits_bad h1 q1 q2]
        simp [fm, hD, q1]
/-- decimal: no head -/
theorem int_dec {D M : List Nat} {p : Nat} (h : Good 10 D) (hd : ∀ c ∈ D, 48 ≤ c ∧ c ≤ 57) (hp : p ≤ D.length) (hM : Mark 10 M) (hx : ∀ c ∈ M, c = 95 ∨ c = 122) :
    int0 (D.take p ++ M ++ D.drop p) = if fm 10 D (val 10 D) M p then some (val 10 D) else none := by
  have h1 : Good 10 (D.take p) := fun c hc => h c (List.mem_of_mem_take hc)
  have h2 : Good 10 (D.drop p) := fun c hc => h c (List.mem_of_mem_drop hc)
  have e : D.take p ++ D.drop p = D := List.take_append_drop p D
  have hT : ∀ c ∈ D.take p ++ M ++ D.drop p, (48 ≤ c ∧ c ≤ 57) ∨ c = 95 ∨ c = 122 := by
    intro c hc
    rcases List.mem_append.mp hc with hc | hc
    · rcases List.mem_append.mp hc with hc | hc
      · exact .inl (hd c (List.mem_of_mem_take hc))
      · exact .inr (hx c hc)
    · exact .inl (hd c (List.mem_of_mem_drop hc))
  have hpre : prefix? (D.take p ++ M ++ D.drop p) = none := by
    generalize D.take p ++ M ++ D.drop p = T at hT
    cases T with
    | nil => rfl
    | cons a T =>
      cases T with
      | nil => unfold prefix?; split <;> first | rfl | (rename_i e; cases e)
      | cons c T =>
        have hc := hT c (by simp)
        unfold prefix?
        split
        · rename_i c' _ e
          injection e with e1 e2
          injection e2 with e2 e3
          subst e2
          have n1 : (c == 120 || c == 88) = false := by simp; omega
          have n2 : (c == 111 || c == 79) = false := by simp; omega
          have n3 : (c == 98 || c == 66) = false := by simp; omega
          rw [n1, n2, n3]; rfl
        · rfl
  have hbd : based 0 (D.take p ++ M ++ D.drop p) = (10, (D.take p ++ M ++ D.drop p).head? == some 48, D.take p ++ M ++ D.drop p) := by
    unfold based; rw [hpre]; rfl
  unfold int0
  rw [hbd]
  simp only
  by_cases hD : D = []
  · subst hD
    have : fm 10 [] (val 10 []) M p = false := by simp [fm]
    rw [this]
    simp only [List.take_nil, List.drop_nil, List.nil_append, List.append_nil]
    cases hM with
    | none => rfl
    | one => rfl
    | two => rfl
    | bad q1 q2 =>
      rename_i c
      rw [show ([c] : List Nat) = [] ++ c :: [] from rfl, digits_bad (D := []) (fun c hc => by cases hc) q1 q2]
      rfl
  · have hfst : ∀ R, (D ++ R).head? = D.head? := by intro R; cases D with | nil => exact absurd rfl hD | cons a D => rfl
    have key : ∀ (z : Bool), z = (D.head? == some 48) → (if (z && val 10 D != 0) = true then none else some (val 10 D)) = if 0 < val 10 D ∧ D.head? = some 48 then none else some (val 10 D) := by
      intro z hz
      subst hz
      by_cases a1 : D.head? = some 48 <;> by_cases a2 : val 10 D = 0 <;> simp [a1, a2, Nat.pos_iff_ne_zero]
    cases hM with
    | none =>
      rw [List.append_nil, e, digits_plain h, if_neg hD]
      show (if ((D.head? == some 48) && (pushes D #[]).foldl _ 0 != 0) = true then none else some _) = _
      rw [sum_pushes, key _ rfl]
      by_cases a : 0 < val 10 D ∧ D.head? = some 48 <;> simp [fm, hD, a]
    | one =>
      show (match digits? 10 (D.take p ++ [95] ++ D.drop p) with | none => none | some ds => _) = _
      rw [show D.take p ++ [95] ++ D.drop p = D.take p ++ 95 :: D.drop p by simp, digits_us h1 h2, e]
      by_cases hp0 : p = 0
      · subst hp0; simp [fm, hD]
      · have hne : D.take p ≠ [] := by
          intro q
          have := congrArg List.length q
          rw [List.length_take] at this
          simp at this
          rcases this with h | h
          · exact hp0 h
          · exact hD h
        by_cases hl : p = D.length
        · have : D.drop p = [] := by rw [hl]; simp
          simp [fm, hD, hl]
        · have hne2 : D.drop p ≠ [] := by
            intro q
            have := congrArg List.length q
            rw [List.length_drop] at this
            simp at this
            omega
          rw [if_neg (by simp [hne, hne2])]
          have hf : (D.take p ++ 95 :: D.drop p).head? = D.head? := by
            cases D with
            | nil => exact absurd rfl hD
            | cons a D => cases p with | zero => exact absurd rfl hp0 | succ p => rfl
          show (if (((D.take p ++ 95 :: D.drop p).head? == some 48) && (pushes D #[]).foldl _ 0 != 0) = true then none else some _) = _
          rw [sum_pushes, hf, key _ rfl]
          by_cases a : 0 < val 10 D ∧ D.head? = some 48 <;> simp [fm, hD, a, hl, Nat.pos_of_ne_zero hp0]
    | two =>
      rw [show D.take p ++ [95, 95] ++ D.drop p = D.take p ++ 95 :: 95 :: D.drop p by simp, digits_us2 h1]
      by_cases a : 0 < val 10 D ∧ D.head? = some 48 <;> simp [fm, hD, a]
    | bad q1 q2 =>
      rename_i c
      rw [show D.take p ++ [c] ++ D.drop p = D.take p ++ c :: D.drop p by simp, digits_bad h1 q1 q2]
      simp [fm, hD, q1]
/-- with a head -/
theorem int_head {x b : Nat} {D M : List Nat} {p : Nat} (hx : prefix? (48 :: x :: (D.take p ++ M ++ D.drop p)) = some b) (hb2 : b ≠ 2) (hb : b ≠ 10) (h : Good b D) (hp : p ≤ D.length) (hM : Mark b M) :
    int0 (48 :: x :: (D.take p ++ M ++ D.drop p)) = if fm b D (val b D) M p then some (val b D) else none := by
  have hbd : based 0 (48 :: x :: (D.take p ++ M ++ D.drop p)) = (b, false, strip1 (D.take p ++ M ++ D.drop p)) := by
    unfold based; rw [hx]; rfl
  rw [← int_wide hb2 hb h hp hM]
  unfold int0
  rw [hbd]
  simp only [Bool.false_and, Bool.false_eq_true, if_false]
  cases digits? b (strip1 (D.take p ++ M ++ D.drop p)) <;> rfl
/-- binary, as the program reads it -/
def bin1 (n : Nat) (c : Nat) : Option Nat := if c = 48 then some (2 * n) else if c = 49 then some (2 * n + 1) else none
def bin? (T : List Nat) : Option Nat := if T = [] then none else T.foldlM bin1 0
theorem bin_good : ∀ {D : List Nat}, Good 2 D → ∀ n, D.foldlM bin1 n = some (D.foldl (fun a c => a * 2 + dv c) n)
  | [], _, n => rfl
  | c :: D, h, n => by
    obtain ⟨d, h1, h2⟩ := h c (List.mem_cons_self ..)
    have hc : c = 48 ∨ c = 49 := by
      unfold digit? at h1
      simp only [Bool.and_eq_true, decide_eq_true_eq] at h1
      repeat' split at h1
      all_goals first | (cases h1; omega) | cases h1
    have e : bin1 n c = some (n * 2 + dv c) := by
      rcases hc with rfl | rfl
      · show some (2 * n) = some (n * 2 + 0); congr 1; omega
      · show some (2 * n + 1) = some (n * 2 + 1); congr 1; omega
    rw [List.foldlM_cons, e]
    exact bin_good h.tail _
theorem int_bin {D M : List Nat} {p : Nat} (h : Good 2 D) (hM : Mark 2 M) (hx : ∀ c ∈ M, c = 95 ∨ c = 50) :
    bin? ((D.take p ++ M ++ D.drop p).filter (· != 95)) = if fm 2 D (val 2 D) M p then some (val 2 D) else none := by
  have h1 : Good 2 (D.take p) := fun c hc => h c (List.mem_of_mem_take hc)
  have h2 : Good 2 (D.drop p) := fun c hc => h c (List.mem_of_mem_drop hc)
  have e : D.take p ++ D.drop p = D := List.take_append_drop p D
  have f1 : (D.take p).filter (· != 95) = D.take p := List.filter_eq_self.mpr fun c hc => by simpa using good_ne h1 c hc
  have f2 : (D.drop p).filter (· != 95) = D.drop p := List.filter_eq_self.mpr fun c hc => by simpa using good_ne h2 c hc
  rw [List.filter_append, List.filter_append, f1, f2]
  have plain : bin? D = if D = [] then none else some (val 2 D) := by
    unfold bin?
    rw [bin_good h]
    rfl
  cases hM with
  | none => simp only [List.filter_nil, List.append_nil]; rw [e, plain]; by_cases hD : D = [] <;> simp [fm, hD]
  | one => rw [show ([95] : List Nat).filter (· != 95) = [] from rfl, List.append_nil, e, plain]; by_cases hD : D = [] <;> simp [fm, hD]
  | two => rw [show ([95, 95] : List Nat).filter (· != 95) = [] from rfl, List.append_nil, e, plain]; by_cases hD : D = [] <;> simp [fm, hD]
  | bad q1 q2 =>
    rename_i c
    have : c = 50 := (hx c (by simp)).resolve_left q1
    subst this
    rw [show ([50] : List Nat).filter (· != 95) = [50] from rfl]
    have : fm 2 D (val 2 D) [50] p = false := by by_cases hD : D = [] <;> simp [fm, hD]
    rw [this]
    unfold bin?
    rw [if_neg (by simp), List.append_assoc, List.foldlM_append, bin_good h1]
    rfl
end Mine
end
section
set_option maxRecDepth 100000
namespace Mine
open PySem PySem.NumText
/-- what _law_digits writes -/
def dg (S : List Nat) (b : Nat) : Nat → Nat → List Nat → List Nat
  | 0, _, w => w
  | f + 1, n, w => if 0 < n then dg S b f (n / b) (S.getD (n % b) 0 :: w) else dg S b f n w
/-- a table of signs for the base -/
def Table (S : List Nat) (b : Nat) : Prop := ∀ d, d < b → digit? (S.getD d 0) = some d
theorem Table.dv {S : List Nat} {b : Nat} (h : Table S b) {d : Nat} (hd : d < b) : dv (S.getD d 0) = d := by unfold Mine.dv; rw [h d hd]; rfl
theorem dg_good {S : List Nat} {b : Nat} (hb : 2 ≤ b) (h : Table S b) : ∀ (f n : Nat) (w : List Nat), Good b w → Good b (dg S b f n w)
  | 0, _, _, hw => hw
  | f + 1, n, w, hw => by
    rw [dg]
    split
    · refine dg_good hb h f _ _ fun c hc => ?_
      rcases List.mem_cons.mp hc with rfl | hc
      · exact ⟨_, h _ (Nat.mod_lt _ (by omega)), Nat.mod_lt _ (by omega)⟩
      · exact hw c hc
    · exact dg_good hb h f _ _ hw
theorem val_shift (b : Nat) : ∀ (w : List Nat) (a : Nat), w.foldl (fun a c => a * b + dv c) a = a * b ^ w.length + w.foldl (fun a c => a * b + dv c) 0
  | [], a => by simp
  | c :: w, a => by
    rw [List.foldl_cons, List.foldl_cons, val_shift b w, val_shift b w (0 * b + dv c), List.length_cons, Nat.pow_succ, Nat.zero_mul, Nat.zero_add, Nat.add_mul, Nat.add_assoc]
    congr 1
    rw [Nat.mul_assoc, Nat.mul_comm b]
theorem val_cons (b c : Nat) (w : List Nat) : val b (c :: w) = dv c * b ^ w.length + val b w := by
  rw [val, List.foldl_cons, val_shift, Nat.zero_mul, Nat.zero_add]; rfl
theorem dg_zero {S : List Nat} {b : Nat} : ∀ (f : Nat) (w : List Nat), dg S b f 0 w = w
  | 0, _ => rfl
  | f + 1, w => by rw [dg, if_neg (by omega), dg_zero f]
theorem dg_val {S : List Nat} {b : Nat} (hb : 2 ≤ b) (h : Table S b) : ∀ (f n : Nat) (w : List Nat), n < b ^ f → val b (dg S b f n w) = n * b ^ w.length + val b w
  | 0, n, w, hn => by
    have : n = 0 := by simpa using hn
    subst this; simp [dg]
  | f + 1, n, w, hn => by
    by_cases h0 : 0 < n
    · rw [dg, if_pos h0, dg_val hb h f (n / b), val_cons, h.dv (Nat.mod_lt _ (by omega)), List.length_cons, Nat.pow_succ, ← Nat.add_assoc]
      · congr 1
        have := Nat.div_add_mod n b
        conv => rhs; rw [← this, Nat.add_mul]
        congr 1
        rw [Nat.mul_comm (b ^ w.length) b, ← Nat.mul_assoc, Nat.mul_comm (n / b) b]
      · rw [Nat.pow_succ] at hn
        exact Nat.div_lt_of_lt_mul (by rw [Nat.mul_comm]; exact hn)
    · have : n = 0 := by omega
      subst this
      rw [dg_zero]; simp
theorem dg_len {S : List Nat} {b : Nat} : ∀ (f n : Nat) (w : List Nat), (dg S b f n w).length ≤ w.length + f
  | 0, _, _ => Nat.le_refl _
  | f + 1, n, w => by
    rw [dg]
    split
    · have := dg_len (S := S) (b := b) f (n / b) (S.getD (n % b) 0 :: w)
      rw [List.length_cons] at this
      omega
    · have := dg_len (S := S) (b := b) f n w
      omega
theorem dg_mem {S : List Nat} {b : Nat} (hb : 2 ≤ b) (P : Nat → Prop) (hP : ∀ d, d < b → P (S.getD d 0)) : ∀ (f n : Nat) (w : List Nat), (∀ c ∈ w, P c) → ∀ c ∈ dg S b f n w, P c
  | 0, _, _, hw => hw
  | f + 1, n, w, hw => by
    rw [dg]
    split
    · refine dg_mem hb P hP f _ _ fun c hc => ?_
      rcases List.mem_cons.mp hc with rfl | hc
      · exact hP _ (Nat.mod_lt _ (by omega))
      · exact hw c hc
    · exact dg_mem hb P hP f _ _ hw
theorem val_zeros (b z : Nat) (w : List Nat) : val b (List.replicate z 48 ++ w) = val b w := by
  induction z with
  | zero => rfl
  | succ z ih => rw [List.replicate_succ, List.cons_append, val_cons, ih, show dv 48 = 0 from rfl, Nat.zero_mul, Nat.zero_add]
theorem good_zeros {b : Nat} (hb : 2 ≤ b) (z : Nat) {w : List Nat} (h : Good b w) : Good b (List.replicate z 48 ++ w) := by
  intro c hc
  rcases List.mem_append.mp hc with hc | hc
  · rw [List.eq_of_mem_replicate hc]; exact ⟨0, rfl, by omega⟩
  · exact h c hc
/-- the whole of the digits -/
def digs (S : List Nat) (b n z : Nat) : List Nat := List.replicate z 48 ++ dg S b 70 n []
theorem digs_good {S : List Nat} {b : Nat} (hb : 2 ≤ b) (h : Table S b) (n z : Nat) : Good b (digs S b n z) := good_zeros hb z (dg_good hb h 70 n [] fun c hc => by cases hc)
theorem digs_val {S : List Nat} {b : Nat} (hb : 2 ≤ b) (h : Table S b) {n : Nat} (hn : n < 2 ^ 70) (z : Nat) : val b (digs S b n z) = n := by
  have hn' : n < b ^ 70 := Nat.lt_of_lt_of_le hn (Nat.pow_le_pow_left hb 70)
  rw [digs, val_zeros, dg_val hb h 70 n [] hn']
  simp [val]
def S10 : List Nat := [48, 49, 50, 51, 52, 53, 54, 55, 56, 57, 122]
def S16 : List Nat := [48, 49, 50, 51, 52, 53, 54, 55, 56, 57, 97, 98, 99, 100, 101, 102, 103]
def S16U : List Nat := [48, 49, 50, 51, 52, 53, 54, 55, 56, 57, 65, 66, 67, 68, 69, 70, 71]
def S8 : List Nat := [48, 49, 50, 51, 52, 53, 54, 55, 56]
def S2 : List Nat := [48, 49, 50]
/-- the rows of the law's table of heads -/
inductive Row : List Nat → Nat → List Nat → Bool → Prop
  | dec : Row [] 10 S10 false
  | hex : Row [48, 120] 16 S16 true
  | hexU : Row [48, 88] 16 S16U true
  | oct : Row [48, 111] 8 S8 true
  | octU : Row [48, 79] 8 S8 true
  | bin : Row [48, 98] 2 S2 false
  | binU : Row [48, 66] 2 S2 false
theorem Row.table {H S : List Nat} {b : Nat} {w : Bool} (r : Row H b S w) : Table S b := by
  cases r <;> (unfold Table; decide)
theorem Row.two {H S : List Nat} {b : Nat} {w : Bool} (r : Row H b S w) : 2 ≤ b := by cases r <;> decide
/-- signs that the texts are made of -/
def okc (c : Nat) : Bool := (48 ≤ c && c ≤ 57) || (65 ≤ c && c ≤ 73) || c == 79 || c == 88 || c == 95 || (97 ≤ c && c ≤ 105) || c == 111 || c == 120 || c == 122
theorem okc_ink {c : Nat} (h : okc c = true) : Ink c := by
  unfold okc at h
  unfold Ink
  simp only [Bool.or_eq_true, Bool.and_eq_true, decide_eq_true_eq, beq_iff_eq] at h
  omega
theorem Row.head_ok {H S : List Nat} {b : Nat} {w : Bool} (r : Row H b S w) : ∀ c ∈ H, okc c = true := by cases r <;> decide
theorem Row.sign_ok {H S : List Nat} {b : Nat} {w : Bool} (r : Row H b S w) : ∀ d, d < b → okc (S.getD d 0) = true := by cases r <;> decide
theorem Row.sign_ok' {H S : List Nat} {b : Nat} {w : Bool} (r : Row H b S w) : okc (S.getD b 0) = true := by cases r <;> decide
theorem Row.bad {H S : List Nat} {b : Nat} {w : Bool} (r : Row H b S w) : Mark b [S.getD b 0] := by
  cases r <;> refine Mark.bad (by decide) (fun d h => ?_) <;> (have h' := Option.some.inj (h.symm.trans (show digit? _ = some _ from rfl)); subst h'; decide)
/-- the marks of a row -/
def Marks (S : List Nat) (b : Nat) (M : List Nat) : Prop := M = [] ∨ M = [95] ∨ M = [95, 95] ∨ M = [S.getD b 0]
theorem Row.mark {H S M : List Nat} {b : Nat} {w : Bool} (r : Row H b S w) (h : Marks S b M) : Mark b M := by
  rcases h with rfl | rfl | rfl | rfl
  · exact .none
  · exact .one
  · exact .two
  · exact r.bad
theorem Row.mark_ok {H S M : List Nat} {b : Nat} {w : Bool} (r : Row H b S w) (h : Marks S b M) : ∀ c ∈ M, okc c = true := by
  rcases h with rfl | rfl | rfl | rfl
  · intro c hc; cases hc
  · decide
  · decide
  · intro c hc; rw [List.mem_singleton.mp hc]; exact r.sign_ok'
/-- the text between the edges -/
def core (H D M : List Nat) (p : Nat) : List Nat := H ++ (D.take p ++ M ++ D.drop p)
theorem digs_ok {H S : List Nat} {b : Nat} {w : Bool} (r : Row H b S w) (n z : Nat) : ∀ c ∈ digs S b n z, okc c = true := by
  intro c hc
  rcases List.mem_append.mp hc with hc | hc
  · rw [List.eq_of_mem_replicate hc]; rfl
  · exact dg_mem r.two (fun c => okc c = true) r.sign_ok 70 n [] (fun c hc => by cases hc) c hc
theorem core_ok {H S M : List Nat} {b : Nat} {w : Bool} (r : Row H b S w) (h : Marks S b M) (n z p : Nat) : ∀ c ∈ core H (digs S b n z) M p, okc c = true := by
  intro c hc
  rcases List.mem_append.mp hc with hc | hc
  · exact r.head_ok c hc
  · rcases List.mem_append.mp hc with hc | hc
    · rcases List.mem_append.mp hc with hc | hc
      · exact digs_ok r n z c (List.mem_of_mem_take hc)
      · exact r.mark_ok h c hc
    · exact digs_ok r n z c (List.mem_of_mem_drop hc)
/-- what the program reads of it, the edges and the length apart -/
def readC (T : List Nat) : Option Nat := if T.take 2 = [48, 98] ∨ T.take 2 = [48, 66] then bin? ((T.drop 2).filter (· != 95)) else int0 T
theorem read_core {H S M : List Nat} {b n z p : Nat} {w : Bool} (r : Row H b S w) (h : Marks S b M) (hn : n < 2 ^ 70) (hp : p ≤ (digs S b n z).length) :
    readC (core H (digs S b n z) M p) = if fm b (digs S b n z) n M p then some n else none := by
  have hg := digs_good r.two r.table n z
  have hv := digs_val r.two r.table hn z
  have hm := r.mark h
  cases r with
  | dec =>
    have hd : ∀ c ∈ digs S10 10 n z, 48 ≤ c ∧ c ≤ 57 := by
      intro c hc
      rcases List.mem_append.mp hc with hc | hc
      · rw [List.eq_of_mem_replicate hc]; decide
      · exact dg_mem (by decide) (fun c => 48 ≤ c ∧ c ≤ 57) (by decide) 70 n [] (fun c hc => by cases hc) c hc
    have hx : ∀ c ∈ M, c = 95 ∨ c = 122 := by rcases h with rfl | rfl | rfl | rfl <;> decide
    have e := int_dec hg hd hp hm hx
    rw [hv] at e
    unfold readC core
    rw [List.nil_append, if_neg, e]
    have hT : ∀ c ∈ (digs S10 10 n z).take p ++ M ++ (digs S10 10 n z).drop p, (48 ≤ c ∧ c ≤ 57) ∨ c = 95 ∨ c = 122 := by
      intro c hc
      rcases List.mem_append.mp hc with hc | hc
      · rcases List.mem_append.mp hc with hc | hc
        · exact .inl (hd c (List.mem_of_mem_take hc))
        · exact .inr (hx c hc)
      · exact .inl (hd c (List.mem_of_mem_drop hc))
    generalize (digs S10 10 n z).take p ++ M ++ (digs S10 10 n z).drop p = T at hT
    intro q
    have hmem : ∀ c ∈ T.take 2, (48 ≤ c ∧ c ≤ 57) ∨ c = 95 ∨ c = 122 := fun c hc => hT c (List.mem_of_mem_take hc)
    rcases q with q | q <;> rw [q] at hmem
    · have := hmem 98 (by simp); omega
    · have := hmem 66 (by simp); omega
  | hex => have e := int_head (x := 120) (b := 16) rfl (by decide) (by decide) hg hp hm; rw [hv] at e; exact e
  | hexU => have e := int_head (x := 88) (b := 16) rfl (by decide) (by decide) hg hp hm; rw [hv] at e; exact e
  | oct => have e := int_head (x := 111) (b := 8) rfl (by decide) (by decide) hg hp hm; rw [hv] at e; exact e
  | octU => have e := int_head (x := 79) (b := 8) rfl (by decide) (by decide) hg hp hm; rw [hv] at e; exact e
  | bin =>
    have hx : ∀ c ∈ M, c = 95 ∨ c = 50 := by rcases h with rfl | rfl | rfl | rfl <;> decide
    have e := int_bin (p := p) hg hm hx
    rw [hv] at e
    exact e
  | binU =>
    have hx : ∀ c ∈ M, c = 95 ∨ c = 50 := by rcases h with rfl | rfl | rfl | rfl <;> decide
    have e := int_bin (p := p) hg hm hx
    rw [hv] at e
    exact e
end Mine
end
section
set_option maxRecDepth 100000
namespace Mine
open PySem PySem.NumText
theorem val_app (b : Nat) (A B : List Nat) : val b (A ++ B) = val b A * b ^ B.length + val b B := by
  rw [val, List.foldl_append, val_shift]; rfl
theorem val_lt {b : Nat} : ∀ {D : List Nat}, Good b D → val b D < b ^ D.length
  | [], _ => by simp [val]
  | c :: D, h => by
    rw [val_cons, List.length_cons, Nat.pow_succ]
    have h1 := val_lt h.tail
    obtain ⟨d, h2, h3⟩ := h c (List.mem_cons_self ..)
    have h4 : dv c = d := by unfold dv; rw [h2]; rfl
    have h5 : d * b ^ D.length + b ^ D.length ≤ b * b ^ D.length := by
      rw [← Nat.succ_mul]; exact Nat.mul_le_mul_right _ h3
    rw [h4, Nat.mul_comm (b ^ D.length)]
    omega
theorem dg_short {S : List Nat} {b : Nat} (hb : 2 ≤ b) : ∀ (f n w : Nat) (acc : List Nat), n < b ^ w → (dg S b f n acc).length ≤ acc.length + w
  | 0, _, _, _, _ => by rw [dg]; omega
  | f + 1, n, w, acc, hn => by
    by_cases h0 : 0 < n
    · rw [dg, if_pos h0]
      cases w with
      | zero => simp at hn; omega
      | succ w =>
        have := dg_short (S := S) hb f (n / b) w (S.getD (n % b) 0 :: acc) (by
          rw [Nat.pow_succ] at hn
          exact Nat.div_lt_of_lt_mul (by rw [Nat.mul_comm]; exact hn))
        rw [List.length_cons] at this
        omega
    · rw [dg, if_neg h0]
      exact dg_short (S := S) hb f n w acc hn
/-- the word spelled in w bits -/
def spell (n w : Nat) : List Nat := List.replicate (w - (dg [48, 49] 2 70 n []).length) 48 ++ dg [48, 49] 2 70 n []
theorem table01 : Table [48, 49] 2 := by unfold Table; decide
theorem spell_len {n w : Nat} (hn : n < 2 ^ w) : (spell n w).length = w := by
  have := dg_short (S := [48, 49]) (b := 2) (by decide) 70 n w [] hn
  rw [spell, List.length_append, List.length_replicate]
  simp at this
  omega
theorem spell_val {n w : Nat} (hn : n < 2 ^ w) (hw : w ≤ 70) : val 2 (spell n w) = n := by
  rw [spell, val_zeros, dg_val (by decide) table01 70 n [] (Nat.lt_of_lt_of_le hn (Nat.pow_le_pow_right (by decide) hw))]
  simp [val]
theorem spell_good (n w : Nat) : Good 2 (spell n w) := good_zeros (by decide) _ (dg_good (by decide) table01 70 n [] fun c hc => by cases hc)
def rotN (n k w : Nat) : Nat := (n <<< k ||| n >>> (w - k)) % 2 ^ w
theorem rot_is {n k w : Nat} (hn : n < 2 ^ w) (hk : k ≤ w) : rotN n k w = n % 2 ^ (w - k) * 2 ^ k + n / 2 ^ (w - k) := by
  have e1 : n / 2 ^ (w - k) < 2 ^ k := Nat.div_lt_of_lt_mul (by rw [← Nat.pow_add, show w - k + k = w by omega]; exact hn)
  rw [Nat.mul_comm, Nat.two_pow_add_eq_or_of_lt e1]
  refine Nat.eq_of_testBit_eq fun i => ?_
  rw [rotN, Nat.testBit_mod_two_pow, Nat.testBit_or, Nat.testBit_or, Nat.testBit_shiftLeft, Nat.testBit_shiftRight, Nat.testBit_two_pow_mul, Nat.testBit_mod_two_pow, Nat.testBit_div_two_pow]
  by_cases h : i < w
  · by_cases h2 : k ≤ i
    · simp [h, h2, show i - k < w - k by omega, Nat.add_comm]
    · simp [h, h2, Nat.add_comm]
  · have h3 : n.testBit (i + (w - k)) = false := Nat.testBit_lt_two_pow (Nat.lt_of_lt_of_le hn (Nat.pow_le_pow_right (by decide) (by omega)))
    by_cases h2 : k ≤ i
    · simp [h, h3, show ¬ i - k < w - k by omega]
    · simp [h, h3, h2]
theorem rot_right {n k w : Nat} (hk : k ≤ w) : (n >>> k ||| n <<< (w - k)) % 2 ^ w = rotN n (w - k) w := by
  rw [rotN, Nat.or_comm, show w - (w - k) = k by omega]
/-- what the law spells, turned -/
theorem turned {n w cut : Nat} (hn : n < 2 ^ w) (hw : w ≤ 70) (hc : cut ≤ w) : val 2 ((spell n w).drop cut ++ (spell n w).take cut) = rotN n cut w := by
  have hl := spell_len hn
  have hv := spell_val hn hw
  have hg := spell_good n w
  have e : (spell n w).take cut ++ (spell n w).drop cut = spell n w := List.take_append_drop cut _
  have h1 : ((spell n w).drop cut).length = w - cut := by rw [List.length_drop, hl]
  have h2 : ((spell n w).take cut).length = cut := by rw [List.length_take, hl]; omega
  have h3 := val_app 2 ((spell n w).take cut) ((spell n w).drop cut)
  rw [e, hv, h1] at h3
  have h4 : val 2 ((spell n w).drop cut) < 2 ^ (w - cut) := by
    have := val_lt (b := 2) (D := (spell n w).drop cut) fun c hc => hg c (List.mem_of_mem_drop hc)
    rwa [h1] at this
  rw [val_app, h2, rot_is hn hc]
  generalize val 2 ((spell n w).take cut) = A at *
  generalize val 2 ((spell n w).drop cut) = B at *
  have h5 : n / 2 ^ (w - cut) = A := by
    rw [h3, Nat.mul_comm, Nat.mul_add_div (Nat.two_pow_pos _), Nat.div_eq_of_lt h4, Nat.add_zero]
  have h6 : n % 2 ^ (w - cut) = B := by
    rw [h3, Nat.mul_comm, Nat.mul_add_mod, Nat.mod_eq_of_lt h4]
  rw [h5, h6]
end Mine
end
section
set_option maxRecDepth 100000
set_option linter.unusedSimpArgs false
namespace Mine
open PySem PySem.NumText Builtin Builtin.Str
abbrev st (T : List Nat) : PySem.Str := ⟨T.toArray⟩
theorem st_len (T : List Nat) : (st T).length = T.length := by simp [st, PySem.Str.length]
theorem st_inj {T R : List Nat} (h : st T = st R) : T = R := by
  have := congrArg (fun x => x.cps.toList) h
  simpa [st] using this
theorem st_app (T R : List Nat) : st T ++ st R = st (T ++ R) := PySem.Str.ext' (by simp [st, PySem.Str.cps_append])
theorem okc_space : ∀ c, c < 128 → okc c = true → Unicode.isSpace c = false := by decide +kernel
theorem okc_lt {c : Nat} (h : okc c = true) : c < 128 := (okc_ink h).2
/-- strip leaves a text alone that neither opens nor ends with a blank -/
theorem strip_same {T : List Nat} (h1 : ∀ c ∈ T.head?, Unicode.isSpace c = false) (h2 : ∀ c ∈ T.getLast?, Unicode.isSpace c = false) : Txt.strip (st T) = st T := by
  have e1 : stripLo Unicode.isSpace true (st T) = 0 := by
    show ((st T).cps.toList.takeWhile Unicode.isSpace).length = 0
    cases T with
    | nil => rfl
    | cons c T => simp [st, List.takeWhile_cons, h1 c (by simp)]
  have e2 : stripHi Unicode.isSpace true (st T) 0 = (st T).length := by
    show (st T).length - (((st T).cps.toList.drop 0).reverse.takeWhile Unicode.isSpace).length = _
    have : ((st T).cps.toList.drop 0).reverse.takeWhile Unicode.isSpace = [] := by
      show (T.reverse).takeWhile _ = []
      cases hr : T.reverse with
      | nil => rfl
      | cons c R =>
        have : T.getLast? = some c := by rw [← List.head?_reverse, hr]; rfl
        simp [List.takeWhile_cons, h2 c (by simp [this])]
    rw [this]; simp
  unfold Txt.strip Txt.stripBy stripSame
  rw [e1, e2]; simp
theorem strip_not {x : PySem.Str} (h : stripSame Unicode.isSpace true true x = false) : Txt.strip x ≠ x := by
  intro e
  unfold Txt.strip Txt.stripBy at e
  rw [if_neg (by rw [h]; exact Bool.false_ne_true)] at e
  have hl := congrArg (fun y => y.cps.toList.length) e
  unfold stripped at hl
  simp only [StrLaws.strSub_toList, List.length_take, List.length_drop, Array.length_toList] at hl
  have hh : stripHi Unicode.isSpace true x (stripLo Unicode.isSpace true x) ≤ x.cps.size := by
    show x.length - _ ≤ x.cps.size
    exact Nat.sub_le _ _
  have hlo : stripLo Unicode.isSpace true x ≤ x.cps.size := by
    show (x.cps.toList.takeWhile _).length ≤ _
    have := len_takeWhile Unicode.isSpace x.cps.toList
    simpa using this
  have h1 : stripLo Unicode.isSpace true x = 0 := by omega
  have h2 : stripHi Unicode.isSpace true x (stripLo Unicode.isSpace true x) = x.length := by
    show _ = x.cps.size
    omega
  unfold stripSame at h
  rw [h2, h1] at h
  simp at h
theorem strip_front (R : List Nat) : Txt.strip (st (32 :: R)) ≠ st (32 :: R) := by
  refine strip_not ?_
  have : stripLo Unicode.isSpace true (st (32 :: R)) ≠ 0 := by
    show ((32 :: R).takeWhile Unicode.isSpace).length ≠ 0
    rw [List.takeWhile_cons, show Unicode.isSpace 32 = true by decide +kernel]
    simp
  unfold stripSame
  simp [this]
theorem strip_back (R : List Nat) : Txt.strip (st (R ++ [32])) ≠ st (R ++ [32]) := by
  refine strip_not ?_
  unfold stripSame
  by_cases h0 : stripLo Unicode.isSpace true (st (R ++ [32])) = 0
  · rw [h0]
    have : stripHi Unicode.isSpace true (st (R ++ [32])) 0 ≠ (st (R ++ [32])).length := by
      show (st (R ++ [32])).length - (((R ++ [32]).drop 0).reverse.takeWhile Unicode.isSpace).length ≠ _
      have e : ((R ++ [32]).drop 0).reverse = 32 :: R.reverse := by simp
      rw [e, List.takeWhile_cons, show Unicode.isSpace 32 = true by decide +kernel, st_len]
      simp
      omega
    simp [this]
  · simp [h0]
/-- repr of a text of plain signs -/
theorem repr_plain {T : List Nat} (h : ∀ c ∈ T, reprChar 39 c = [c]) (hq : 39 ∉ T) : reprText (st T) = st (39 :: (T ++ [39])) := by
  have eq : reprQuote (st T) = 39 := by
    unfold reprQuote
    have : (st T).cps.contains 39 = false := by
      simp [st]; exact hq
    rw [this]; rfl
  unfold reprText
  rw [eq]
  have key : ∀ (L : List Nat) (acc : Array Nat), (∀ c ∈ L, reprChar 39 c = [c]) → L.foldl (fun out c => out ++ (reprChar 39 c).toArray) acc = acc ++ L.toArray := by
    intro L
    induction L with
    | nil => intro acc _; simp
    | cons c L ih =>
      intro acc hL
      rw [List.foldl_cons, ih _ fun d hd => hL d (List.mem_cons_of_mem _ hd), hL c (List.mem_cons_self ..)]
      simp
  have := key T #[39] h
  refine PySem.Str.ext' ?_
  show ((st T).cps.foldl (fun out c => out ++ (reprChar 39 c).toArray) #[39]).push 39 = _
  rw [← Array.foldl_toList]
  show Array.push (T.foldl (fun out c => out ++ (reprChar 39 c).toArray) #[39]) 39 = _
  rw [this]
  simp
theorem okc_repr : ∀ c, c < 128 → okc c = true → reprChar 39 c = [c] := by decide +kernel
theorem edge_repr : ∀ c ∈ ([32, 43, 45, 1635] : List Nat), reprChar 39 c = [c] := by decide +kernel
theorem okc_lower : ∀ c, c < 128 → Unicode.lowerOf c = [if 65 ≤ c ∧ c ≤ 90 then c + 32 else c] := by decide +kernel
theorem lower_ascii {T : List Nat} (h : ∀ c ∈ T, c < 128) : Txt.lower (st T) = st (T.map fun c => if 65 ≤ c ∧ c ≤ 90 then c + 32 else c) := by
  refine PySem.Str.ext' ?_
  show placed (st T) (fun i _ => Unicode.lowerAt (st T).cps i) = _
  unfold placed
  have e : ((st T).cps.mapIdx fun i c => (Unicode.lowerAt (st T).cps i).toArray) = (T.map fun c => #[if 65 ≤ c ∧ c ≤ 90 then c + 32 else c]).toArray := by
    apply Array.ext
    · simp [st]
    · intro i h1 h2
      have hi : i < T.length := by simpa [st] using h1
      simp only [Array.getElem_mapIdx, List.getElem_toArray, List.getElem_map]
      have hc := h T[i] (List.getElem_mem hi)
      have : Unicode.lowerAt (st T).cps i = [if 65 ≤ T[i] ∧ T[i] ≤ 90 then T[i] + 32 else T[i]] := by
        unfold Unicode.lowerAt
        have : (st T).cps[i]? = some T[i] := by simp [st, hi]
        rw [this]
        have h3 : (T[i] == 0x3A3) = false := by rw [beq_eq_false_iff_ne]; omega
        simp only [h3, Bool.false_and, Bool.false_eq_true, if_false]
        exact okc_lower _ hc
      rw [this]
  rw [e]
  apply Array.toList_inj.mp
  rw [Array.toList_flatten]
  have fl : ∀ L : List Nat, ((L.map fun c => #[if 65 ≤ c ∧ c ≤ 90 then c + 32 else c]).map Array.toList).flatten = L.map fun c => if 65 ≤ c ∧ c ≤ 90 then c + 32 else c := by
    intro L
    induction L with
    | nil => rfl
    | cons c L ih => rw [List.map_cons, List.map_cons, List.flatten_cons, ih]; rfl
  exact fl T
/-- the head of a binary text -/
theorem lower_0b {T : List Nat} (h : ∀ c ∈ T, c < 128) : (Txt.lower (st (T.take 2)) == st [48, 98]) = decide (T.take 2 = [48, 98] ∨ T.take 2 = [48, 66]) := by
  rw [lower_ascii fun c hc => h c (List.mem_of_mem_take hc)]
  generalize hR : T.take 2 = R
  have hl : R.length ≤ 2 := by rw [← hR, List.length_take]; omega
  have key : (R.map fun c => if 65 ≤ c ∧ c ≤ 90 then c + 32 else c) = [48, 98] ↔ R = [48, 98] ∨ R = [48, 66] := by
    match R, hl with
    | [], _ => simp
    | [a], _ => simp
    | [a, c], _ =>
      simp only [List.map_cons, List.map_nil, List.cons.injEq, and_true]
      constructor
      · rintro ⟨h1, h2⟩
        split at h1 <;> split at h2 <;> omega
      · rintro (⟨rfl, rfl⟩ | ⟨rfl, rfl⟩) <;> decide
  by_cases hk : R = [48, 98] ∨ R = [48, 66]
  · rw [key.mpr hk]; simp [hk]
  · rw [decide_eq_false hk, beq_eq_false_iff_ne]
    intro e
    exact hk (key.mp (st_inj e))
end Mine
end
section
set_option maxRecDepth 100000
namespace Mine
open PySem PySem.Calls PySem.NumText
theorem typeCall_int_2 (a b : Value) : checkTypeCall "int" ⟨[a, b], []⟩ = pure () := by kernel_rfl
theorem newCall_int_2 (a b : Value) : checkBuiltinCall "int.__new__" ⟨[.type "int", a, b], []⟩ = pure () := by kernel_rfl
theorem args_object_init_3 (o a b : Value) : argsOk "object.__init__" ⟨[o, a, b], []⟩ := by unfold argsOk; kernel_rfl
theorem call_int_2 {prog : Program} {w : World} {A : Around} {E : Value → Shared → Prop} {s : Shared} {x y : Value} {S : Spec} {Q : Value → Shared → Prop} (g : Meets (Builtin.«int.__new__» ⟨[.type "int", x, y], []⟩) S) (h : S A.in1 (wants (fun obj s₁ => s₁.TypeIs obj "int" ∧ Q obj s₁) E) s) :
    wpAny (model prog w) A (call (.type "int") [x, y]) Q E s :=
  callType_new F.called_int F.newNe_int (typeCall_int_2 x y) (newCall_int_2 x y) (fun obj => args_object_init_3 obj x y) F.entry_int_new g h
set_option maxHeartbeats 4000000 in
theorem wp_text0 {M : Model} {A : Around} {E : Value → Shared → Prop} {s : Shared} {Q : Value → Shared → Prop} {v : Value} {text : List Nat} {n : Int}
    (hs : (text.takeWhile (· != 0)).length ≤ 640) (hr : (int_private% "readNumeral") 0 0 (text.takeWhile (· != 0)) = (int_private% "Numeral.value") n)
    (ha : ((text.takeWhile (· != 0)).length == text.length) = true) (h : Q (.int n s.toks) { s with toks := s.toks + 1 }) :
    wpAny M A ((int_private% "intFromText") v text 0) Q E s := by
  obtain ⟨hp, g, d, tk, os⟩ := s
  repeat (any_goals (first
    | assumption
    | (with_reducible refine wpAny_ite_true (decide_eq_true hs) ?_)
    | (with_reducible refine wpAny_ite_true (decide_eq_true ha) ?_)
    | wp_step))
  all_goals (try rw [hr])
  all_goals (try dsimp only)
  repeat (any_goals (first
    | assumption
    | (with_reducible refine wpAny_ite_true (decide_eq_true hs) ?_)
    | (with_reducible refine wpAny_ite_true (decide_eq_true ha) ?_)
    | wp_step))
end Mine
end
section
set_option maxRecDepth 100000
namespace Mine
open PySem PySem.Calls PySem.NumText
theorem wp_limit {M : Model} {A : Around} {E : Value → Shared → Prop} {s : Shared} {Q : Nat → Shared → Prop} (hd : ∃ mc, s.heap.Ns cStatics mc ∧ mc "sys.int_max_str_digits" = none) (h : Q 4300 s) :
    wpAny M A Builtin.intMaxStrDigits Q E s := by
  obtain ⟨mc, hn, hm⟩ := hd
  unfold Builtin.intMaxStrDigits
  refine wpAny_bind (wpAny_nsGet hn ?_)
  rw [hm]
  exact wpAny_pure h
set_option maxHeartbeats 4000000 in
/-- int(text, 0) gives a number -/
theorem wp_text1 {M : Model} {A : Around} {E : Value → Shared → Prop} {s : Shared} {Q : Value → Shared → Prop} {v : Value} {text : List Nat} {n : Int}
    (hd : ∃ mc, s.heap.Ns cStatics mc ∧ mc "sys.int_max_str_digits" = none)
    (hr : (int_private% "readNumeral") (if (text.takeWhile (· != 0)).length ≤ 640 then 0 else 4300) 0 (text.takeWhile (· != 0)) = (int_private% "Numeral.value") n)
    (ha : ((text.takeWhile (· != 0)).length == text.length) = true) (h : Q (.int n s.toks) { s with toks := s.toks + 1 }) :
    wpAny M A ((int_private% "intFromText") v text 0) Q E s := by
  obtain ⟨hp, g, d, tk, os⟩ := s
  have hk := And.intro hr (And.intro ha hd)
  clear hr ha hd
  by_cases hs : (text.takeWhile (· != 0)).length ≤ 640
  · rw [if_pos hs] at hk
    exact wp_text0 hs hk.1 hk.2.1 h
  · rw [if_neg hs] at hk
    repeat (any_goals (first
      | assumption
      | (with_reducible refine wpAny_ite_false (decide_eq_false hs) ?_)
      | ((with_reducible show wpAny _ _ Builtin.intMaxStrDigits _ _ _); refine wp_limit hk.2.2 ?_)
      | wp_step))
    all_goals (try rw [hk.1])
    all_goals (try dsimp only)
    repeat (any_goals (first
      | assumption
      | (with_reducible refine wpAny_ite_true (decide_eq_true hk.2.1) ?_)
      | wp_step))
end Mine
end
section
set_option maxRecDepth 100000
namespace Mine
open PySem PyProof.Rows
theorem xor_add : ∀ n m : Nat, (n ^^^ m) + 2 * (n &&& m) = n + m := by
  intro n
  induction n using Nat.strongRecOn with
  | _ n ih =>
    intro m
    by_cases h : n = 0
    · subst h; simp
    · have h1 := ih (n / 2) (by omega) (m / 2)
      have e1 : (n ^^^ m) / 2 = n / 2 ^^^ m / 2 := Nat.xor_div_two
      have e2 : (n &&& m) / 2 = n / 2 &&& m / 2 := Nat.and_div_two
      have e3 : (n ^^^ m) % 2 = (n % 2) ^^^ (m % 2) := Nat.xor_mod_two_pow (n := 1)
      have e4 : (n &&& m) % 2 = (n % 2) &&& (m % 2) := Nat.and_mod_two_pow (n := 1)
      rw [← e1, ← e2] at h1
      rcases Nat.mod_two_eq_zero_or_one n with p | p <;> rcases Nat.mod_two_eq_zero_or_one m with q | q <;> rw [p, q] at e3 e4 <;> clear e1 e2 ih <;> simp only [Nat.and_self, Nat.and_zero, Nat.zero_and, Nat.xor_self, Nat.xor_zero, Nat.zero_xor] at e3 e4 <;> omega
theorem andI (n m : Nat) : Builtin.bitAnd (n : Int) (m : Int) = ((n &&& m : Nat) : Int) := by
  rw [bitAnd_pp (by omega) (by omega)]; simp only [Int.toNat_natCast]
theorem orI (n m : Nat) : Builtin.bitOr (n : Int) (m : Int) = ((n ||| m : Nat) : Int) := by
  rw [bitOr_and, andI]
  have h := xor_add n m
  have h2 : n ||| m = (n ^^^ m) + (n &&& m) := by
    have h3 := xor_add (n ^^^ m) (n &&& m)
    have e1 : (n ^^^ m) &&& (n &&& m) = 0 := by
      refine Nat.eq_of_testBit_eq fun i => ?_
      simp only [Nat.testBit_and, Nat.testBit_xor, Nat.zero_testBit]
      cases n.testBit i <;> cases m.testBit i <;> rfl
    have e2 : (n ^^^ m) ^^^ (n &&& m) = n ||| m := by
      refine Nat.eq_of_testBit_eq fun i => ?_
      simp only [Nat.testBit_and, Nat.testBit_xor, Nat.testBit_or]
      cases n.testBit i <;> cases m.testBit i <;> rfl
    rw [e1, e2] at h3
    omega
  omega
theorem powI (k : Nat) : ((2 : Int) ^ k) = ((2 ^ k : Nat) : Int) := by
  induction k with
  | zero => rfl
  | succ k ih => rw [Int.pow_succ, ih, Nat.pow_succ]; simp
theorem shlI (n k : Nat) : (n : Int) * 2 ^ k = ((n <<< k : Nat) : Int) := by
  rw [powI, Nat.shiftLeft_eq]; simp
theorem shrI (n k : Nat) : (n : Int).fdiv (2 ^ k) = ((n >>> k : Nat) : Int) := by
  rw [powI, Nat.shiftRight_eq_div_pow, Int.fdiv_eq_ediv_of_nonneg _ (Int.natCast_nonneg _)]; simp
theorem and_mask (n k : Nat) : n &&& (2 ^ k - 1) = n % 2 ^ k := Nat.and_two_pow_sub_one_eq_mod n k
end Mine
end
section
open PySem PySem.W PySem.Spec PySem.Calls PyProof.Rows PyProof.V
set_option maxRecDepth 100000
namespace Mine
/-- what holds ahead of turn i: the ledger, some names of the frame, some facts, by letters c -/
abbrev At {σ : Type} (Led : Nat → σ → List (Addr × Obj)) (ps : Nat → σ → List (Str × Value)) (Facts : Nat → σ → Prop) (x : Str) (stored : List Str) (m₀ : Str → Option Value) (i : Nat) : (Str → Option Value) → List (Addr × Obj) → Prop :=
  KstS (Led i) (ps i) (Facts i) x stored m₀ (fun _ _ => True) []
section
variable {prog : Program} {w : World} {A : Around} {E : Value → Shared → Prop} {s : Shared} {env : Env} {h₀ : Heap} {x : Str} {body : List Stmt} {Q : Flow → Shared → Prop}
/-- a loop over a range of any step, by what holds ahead of each turn -/
theorem loopR {σ : Type} {r : Addr} {a₀ b₀ c₀ : Int} {t₀ u₀ v₀ : Tok} {n : Nat} {m₀ : Str → Option Value} (Led : Nat → σ → List (Addr × Obj)) (ps : Nat → σ → List (Str × Value)) (Facts : Nat → σ → Prop) (stored : List Str) (c : σ)
    (hh : A.handled = none) (hr : IsRange s.heap r a₀ b₀ c₀ t₀ u₀ v₀) (hsmall : Builtin.Range.small a₀ b₀ c₀ = true) (hn : Builtin.Range.rangeSize a₀ b₀ c₀ = (n : Int)) (F : Fr h₀ env.locals s.heap m₀) (N : News h₀ env.locals s.heap (Led 0 c)) (hf : Facts 0 c) (hk : ∀ p ∈ ps 0 c, m₀ p.1 = some p.2)
    (turn : ∀ (i : Nat) (c' : σ) t (u : Str → Option Value) h tk own, i < n → OwnOff own ((Led 0 c).map (·.1)) → Facts i c' →
      Fr h₀ env.locals h (fun y => if y = x then some (.int (a₀ + (i : Int) * c₀) t) else kstB (fun z => if stored.contains z then u z else m₀ z) (ps i c') y) → News h₀ env.locals h (Led i c' ++ own) →
      wpAny (model prog w) A (execs body env) (InvPostN h₀ env.locals (At Led ps Facts x stored m₀ (i + 1)) own ((Led 0 c).map (·.1)) { s with heap := h, toks := tk } Q) E { s with heap := h, toks := tk })
    (done : ∀ (c' : σ) (u : Str → Option Value) h tk, Facts n c' → Fr h₀ env.locals h (fun y => if y = x then u y else kstB (fun z => if stored.contains z then u z else m₀ z) (ps n c') y) → News h₀ env.locals h (Led n c') → Q .next { s with heap := h, toks := tk }) :
    wpAny (model prog w) A (pyIter (.ref r)) (fun it s₂ => LoopAtV prog w A h₀ env x body Q E it s₂) E s := by
  refine wpAny_pyIter_range hr hsmall ?_
  have W : Walks prog w A s.heap.objs.size [s.heap.objs.size] [s.heap.objs.size] n (fun i v => i < n ∧ ∃ t, v = .int (a₀ + i * c₀) t)
      (fun i h => IsRangeIter h s.heap.objs.size (a₀ + (i : Nat) * c₀) ((n : Int) - (i : Nat)) c₀) := (Walks.range hh _ a₀ c₀ n).bound
  refine loop_invN (fun i m nx => At Led ps Facts x stored m₀ i m nx) W ?_ ?_ ?_ ?_ (by show IsRangeIter _ _ _ _ _; rw [hn]; simpa using Heap.get?_push_size _ rfl) (F.push _) (fun p hp => ⟨Heap.get?_push_of_some _ (N p hp).1, (N p hp).2⟩) ⟨c, rfl, hf, hk, fun _ _ _ _ => rfl, trivial⟩ ?_ ?_
  · intro hm
    exact absurd F.ns.lt ((List.mem_singleton.mp hm) ▸ Nat.lt_irrefl _)
  · intro b hb
    rw [List.mem_singleton.mp hb]
    exact next_is_new F
  · intro p hp hI
    exact absurd (Heap.lt_size (N p hp).1) ((List.mem_singleton.mp hI) ▸ Nat.lt_irrefl _)
  · intro p hp hI
    exact absurd (Heap.lt_size (N p hp).1) ((List.mem_singleton.mp hI) ▸ Nat.lt_irrefl _)
  · rintro i v m₁ nx h tk own hi ⟨_, t, rfl⟩ _ hoff ⟨c', rfl, hf', h1, h2, _⟩ F₁ N₁
    exact turn i c' t m₁ h tk own hi hoff hf' (kst_fr h1 h2 F₁) N₁
  · rintro m₁ nx h tk ⟨c', rfl, hf', h1, h2, _⟩ F₁ N₁
    exact done c' m₁ h tk hf' (kst_frOut h1 h2 F₁) N₁
end
end Mine
end
section
set_option maxRecDepth 100000
namespace Mine
open PySem PySem.Calls
open Sem (wp)
/-- the claim's caller is on the stack -/
def HasC (l : List (Code × Pos)) : Prop := l.any (fun x => x.1.isCaller) = true
theorem HasC.cons {x : Code × Pos} {l : List (Code × Pos)} (h : HasC l) : HasC (x :: l) := by
  unfold HasC at *; rw [List.any_cons, h, Bool.or_true]
/-- wpAny over the contexts that hold the claim's caller -/
def wpP {α : Type} (M : Model) (A : Around) (t : Sem α) (Q : α → Shared → Prop) (E : Value → Shared → Prop) (s : Shared) : Prop :=
  ∀ Γ p, Γ.In A → (Γ.code.isCaller = true ∨ HasC Γ.below) → wp M Γ t (fun a _ s' => Q a s') (fun e _ s' => E e s') p s
def codeP (M : Model) (A : Around) (c : Code) (R : Result → Shared → Prop) (s : Shared) : Prop :=
  ∀ Γ p, Γ.code = c → Γ.Below A → HasC Γ.below → wpCode M Γ R p s
section
variable {α β : Type} {M : Model} {A : Around} {E : Value → Shared → Prop} {s : Shared}
theorem wpP_of {t : Sem α} {Q : α → Shared → Prop} (h : wpAny M A t Q E s) : wpP M A t Q E s := fun Γ p hΓ _ => h Γ p hΓ
theorem codeP_of {c : Code} {R : Result → Shared → Prop} (h : codeAny M A c R s) : codeP M A c R s := fun Γ p hc hΓ _ => h Γ p hc hΓ
theorem wpP_pure {a : α} {Q : α → Shared → Prop} (h : Q a s) : wpP M A (pure a) Q E s := fun _ _ _ _ => h
theorem wpP_mono {t : Sem α} {Q Q' : α → Shared → Prop} {E' : Value → Shared → Prop} (h : wpP M A t Q E s)
    (hQ : ∀ a s, Q a s → Q' a s) (hE : ∀ e s, E e s → E' e s) : wpP M A t Q' E' s :=
  fun Γ p hΓ hc => Sem.wp_mono M Γ t (fun a _ s => hQ a s) (fun e _ s => hE e s) p s (h Γ p hΓ hc)
theorem wpP_bind {m : Sem α} {f : α → Sem β} {Q : β → Shared → Prop} (h : wpP M A m (fun a s' => wpP M A (f a) Q E s') E s) :
    wpP M A (m >>= f) Q E s := fun Γ p hΓ hc => by
  rw [Sem.wp_bind']
  exact Sem.wp_mono M Γ m (fun a p' s' h' => h' Γ p' hΓ hc) (fun _ _ _ h' => h') p s (h Γ p hΓ hc)
theorem wpP_onRaise {m : Sem α} {k : Value → Sem Unit} {Q : α → Shared → Prop}
    (h : wpP M A m Q (fun e s' => wpP M A (k e) (fun _ s'' => E e s'') E s') s) : wpP M A (m.onRaise k) Q E s := fun Γ p hΓ hc => by
  rw [Sem.wp_onRaise]
  exact Sem.wp_mono M Γ m (fun _ _ _ h' => h') (fun e p' s' h' => h' Γ p' hΓ hc) p s (h Γ p hΓ hc)
theorem wpP_attempt {m : Sem α} {Q : Except Value α → Shared → Prop} (h : wpP M A m (fun a => Q (.ok a)) (fun e => Q (.error e)) s) :
    wpP M A m.attempt Q E s := fun Γ p hΓ hc => by rw [Sem.wp_attempt]; exact h Γ p hΓ hc
theorem wpP_holding {vs : List Value} {m : Sem α} {Q : α → Shared → Prop} (h : wpP M A m Q E s) : wpP M A (holding vs m) Q E s :=
  fun Γ p hΓ hc => by rw [Sem.wp_holding]; exact h Γ p hΓ hc
theorem wpP_runValue {c : Code} {Q : Value → Shared → Prop}
    (hc : codeP M A c (fun r s' => match r with | .ok (.ret v) => Q v s' | .ok _ => False | .error e => E e s') s) :
    wpP M A (runValue c) Q E s := fun Γ p hΓ h => by
  rw [Sem.wp_runValue]
  refine hc _ p rfl (hΓ.enter c none p (by intro x; cases x)) ?_
  show HasC ((Γ.code, p) :: Γ.below)
  rcases h with h | h
  · unfold HasC; rw [List.any_cons, h]; rfl
  · exact h.cons
theorem wpP_call {f : Value} {pos : List Value} {kw : List (Str × Value)} {Q : Value → Shared → Prop}
    (hc : codeP M A (.call f ⟨pos, kw⟩) (fun r s' => match r with | .ok (.ret v) => Q v s' | .ok _ => False | .error e => E e s') s) :
    wpP M A (call f pos kw) Q E s := wpP_runValue hc
theorem codeP_of_tree {c : Code} {R : Result → Shared → Prop}
    (h : wpP M (A.under c) (M.den c) (fun fin s' => match fin with | .done f => R (.ok f) s' | .again c' => c'.quiet = true ∧ codeP M A c' R s')
      (fun e s' => R (.error e) s') s) : codeP M A c R s := fun Γ p hc hΓ hC => by
  rw [wpCode_iff_wp, hc]
  refine Sem.wp_mono M Γ _ (fun fin p' s' h' => ?_) (fun _ _ _ h' => h') p s (h Γ p (hc ▸ hΓ.in) (.inr hC))
  cases fin with
  | done f => exact h'
  | again c' => exact ⟨h'.1, h'.2 (Γ.goto c') p' rfl (hΓ.goto c') hC⟩
end
section
variable {prog : Program} {w : World} {A : Around} {E : Value → Shared → Prop} {R : Result → Shared → Prop} {s : Shared} {env : Env}
theorem codeP_func {body : List Stmt}
    (h : wpP (model prog w) (A.deeper env) (execs body env) (fun f s' => R (.ok (.ret (match f with | .ret v => v | _ => .none))) s')
      (fun e s' => wpAny (model prog w) (A.deeper env) (leaving env e) (fun _ s'' => R (.error e) s'') (fun e' s'' => R (.error e') s'') s') s) :
    codeP (model prog w) A (.func body env) R s := by
  refine codeP_of_tree ?_
  show wpP _ (A.deeper env) (do point; match ← (execs body env).onRaise (leaving env) with | .ret v => ret v | _ => ret .none) _ _ s
  refine wpP_bind (wpP_of (wpAny_point (wpP_bind (wpP_onRaise (wpP_mono h (fun f s' h' => ?_) fun _ _ h' => wpP_of h')))))
  cases f <;> exact wpP_pure h'
theorem codeP_call_function {a : Addr} {args : Args} {o : Obj} {fd : FuncData} {body : List Stmt} (hroom : A.depth < recursionLimit)
    (ho : s.heap.get? a = some o)
    (hd' : o.data = .func fd) (hco : fd.scope.isCoroutine = false) (hgen : fd.scope.isGenerator = false) (hbody : fd.body = .stmts body) (hcd : s.heap.CodeRec fd.code fd.qualname)
    (h : wpAny (model prog w) A.in1 (bindArgs fd args) (fun binds s₁ =>
      wpAny (model prog w) A.in1 (newFunctionEnv fd.scope fd.globals fd.closure binds (fd.qualname ++ ".<locals>.") (some a) fd.code none fd.builtins)
        (fun env s₂ => s₂.heap.NoLimit ∧ codeP (model prog w) A (.func body env) R s₂) (fun e s' => R (.error e) s') s₁) (fun e s' => R (.error e) s') s) :
    codeP (model prog w) A (.call (.ref a) args) R s := by
  refine codeP_of_tree (wpP_of ?_)
  show wpAny _ A.in1 (callAny (.ref a) args) _ _ s
  simp only [callAny]
  refine wpAny_bind (wpAny_load ho ?_)
  obtain ⟨c, oc, vs, tq, hc, hoc, hdc, hq⟩ := hcd
  simp only [hd', callFunction, hco, hgen, hbody, hc]
  rw [hc] at h
  refine wpAny_bind (m := field (.ref c) 1) (wpAny_field hoc hdc hq (wpAny_bind (wpAny_pure ?_)))
  exact wpAny_bind (wpAny_mono h (fun binds s₁ h₁ => wpAny_bind (wpAny_mono h₁ (fun env s₂ h₂ => wpAny_bind (wpAny_enterFrame h₂.1 hroom
    (wpAny_pure (And.intro rfl h₂.2)))) fun _ _ h' => h')) fun _ _ h' => h')
theorem codeP_call_def {a : Addr} {o : Obj} {fd : FuncData} {body : List Stmt} {args : Args} {binds : List (Str × Value)}
    (hroom : A.depth < recursionLimit) (ho : s.heap.get? a = some o) (hdata : o.data = .func fd) (hlim : s.heap.NoLimit) (hcd : s.heap.CodeRec fd.code fd.qualname)
    (hbody : fd.body = .stmts body) (hbind : BindsTo s fd args binds)
    (hcell : ∀ x ∈ fd.scope.names, x.2 ≠ .cell) (hloc : ∀ x ∈ binds, fd.scope.names.lookup x.1 = some .local)
    (h : ∀ h₀, h₀.Ns s.heap.objs.size (fun x => binds.reverse.lookup x) → (∀ b o, s.heap.get? b = some o → h₀.get? b = some o) →
      wpP (model prog w) (A.deeper (callEnv fd s.heap.objs.size a)) (execs body (callEnv fd s.heap.objs.size a)) (fun f s' => R (.ok (.ret (match f with | .ret v => v | _ => .none))) s')
        (fun e s' => wpAny (model prog w) (A.deeper (callEnv fd s.heap.objs.size a)) (leaving (callEnv fd s.heap.objs.size a) e) (fun _ s'' => R (.error e) s'') (fun e' s'' => R (.error e') s'') s')
        { s with heap := h₀, toks := s.toks + binds.length })
    (hco : fd.scope.isCoroutine = false := by rfl) (hgen : fd.scope.isGenerator = false := by rfl) (hk : fd.scope.kind = .function := by rfl) :
    codeP (model prog w) A (.call (.ref a) args) R s := by
  refine codeP_call_function hroom ho hdata hco hgen hbody hcd (hbind _ _ _ _ ?_)
  refine wpAny_newFunctionEnv hcell hloc (fun h₀ hns₀ hsb₀ => ⟨hlim.fresh _ hsb₀, codeP_func (h h₀ hns₀ fun b o e => ?_)⟩) hk
  exact hsb₀.extBut b o (Nat.ne_of_lt (Heap.lt_size e)) (Heap.get?_push_of_some _ e)
theorem wpP_execs_cons {M : Model} {st : Stmt} {rest : List Stmt} {Q : Flow → Shared → Prop}
    (h : wpP M A (exec st env) (fun f s' => match f with | .next => wpP M A (execs rest env) Q E s' | f => Q f s') E s) :
    wpP M A (execs (st :: rest) env) Q E s := fun Γ p hΓ hc => by
  rw [execs_cons, Sem.wp_bind']
  refine Sem.wp_mono M Γ _ (fun f p' s' h' => ?_) (fun _ _ _ h' => h') _ _ (h Γ p hΓ hc)
  cases f <;> first | exact h' Γ p' hΓ hc | exact h'
theorem wpP_If {M : Model} {test : Expr} {body orelse : List Stmt} {pos : Pos} {Q : Flow → Shared → Prop}
    (h : wpP M A (isTrue test env (eval test env))
      (fun b s₂ => if b then wpP M A (execs body env) Q E s₂ else wpP M A (execs orelse env) Q E s₂) E s) :
    wpP M A (exec (.If test body orelse pos) env) Q E s := fun Γ p hΓ hc => by
  simp only [exec_If, Sem.wp_bind', Sem.wp_cmd_standAt]
  refine Sem.wp_mono M Γ _ (fun b p₂ s₂ h₂ => ?_) (fun _ _ _ h' => h') _ _ (h Γ _ hΓ hc)
  cases b <;> exact h₂ Γ p₂ hΓ hc
theorem wpP_Assign_Name {M : Model} {x : Str} {pos' : Pos} {value : Expr} {pos : Pos} {Q : Flow → Shared → Prop}
    (h : wpP M A (eval value env) (fun v s₁ => wpAny M A (storeName env x v) (fun _ => Q .next) E s₁) E s)
    (hs : swapsWith value (some (.Name x pos')) pos.line env = pure false := by rfl) :
    wpP M A (exec (.Assign [.Name x pos'] value pos) env) Q E s := fun Γ p hΓ hc => by
  simp only [exec_Assign_Name env x pos' value pos hs, Sem.wp_bind', Sem.wp_cmd_standAt, Sem.wp_bindName, Sem.wp_pure']
  exact Sem.wp_mono M Γ _ (fun v _ s₁ h₁ => h₁ Γ _ hΓ) (fun _ _ _ h' => h') _ _ (h Γ _ hΓ hc)
theorem wpP_Try_except {body orelse : List Stmt} {h₀ : ExceptHandler} {hs : List ExceptHandler} {pos : Pos} {Q : Flow → Shared → Prop}
    (h : wpP (model prog w) A (execs body env) (fun f s₁ => match f with | .next => wpAny (model prog w) A (execs orelse env) Q E s₁ | f => Q f s₁)
      (fun e s₁ => wpAny (model prog w) A (noteFrame e env) (fun _ s₂ => wpAny (model prog w) A (setFlight e none) (fun _ s₃ => wpAny (model prog w) A (handleBy e env (h₀ :: hs)) Q E s₃) E s₂) E s₁) s) :
    wpP (model prog w) A (exec (.Try body (h₀ :: hs) orelse [] pos) env) Q E s := by
  rw [arm_exec_Try]
  refine wpP_bind (wpP_of (wpAny_standAt ?_))
  unfold tryStmt
  simp only [List.isEmpty_nil, if_true, List.isEmpty_cons, Bool.false_and, Bool.false_eq_true, if_false]
  refine wpP_bind (wpP_attempt (wpP_mono h (fun f s₁ h₁ => ?_) fun e s₁ h₁ => ?_))
  · cases f <;> first | exact wpP_of h₁ | exact wpP_pure h₁
  · exact wpP_of (wpAny_bind (wpAny_mono h₁ (fun _ _ h₂ => wpAny_bind h₂) fun _ _ x => x))
theorem wpP_keep {α : Type} {M : Model} {vs : List Value} {m : Sem α} {Q : α → Shared → Prop} (h : wpP M A m Q E s) : wpP M A (m.keep vs) Q E s :=
  fun Γ p hΓ hc => by rw [Sem.wp_keep]; exact h Γ p hΓ hc
theorem wpP_tail {M : Model} {t : Sem Value} {Q : Value → Shared → Prop} (h : wpP M A t Q E s) : wpP M A (t >>= fun r => holding [r] point >>= fun _ => pure r) Q E s :=
  wpP_bind (wpP_mono h (fun _ _ hr => wpP_of (wpAny_bind (wpAny_holding (wpAny_point (wpAny_pure hr))))) fun _ _ x => x)
/-- a call of a def by its name: the arguments by wpAny, the call itself by wpP -/
theorem wpP_callWith_fn {M : Model} {pos : Pos} {a : Addr} {o : Obj} {fd : FuncData} {args : List (Bool × Sem Value)} {Q : Value → Shared → Prop} (hs : args.any (·.1) = false)
    (h : wpAny M A (evalArgs (.ref a) true args []) (fun x s₁ => (s₁.heap.get? a = some o ∧ o.data = .func fd) ∧ wpP M A (call (.ref a) x.pos x.kw) Q E s₁) E s) :
    wpP M A (callWith pos (.ref a) [] args []) Q E s := by
  unfold callWith
  refine wpP_bind (wpP_of (wpAny_holding (wpAny_mono h (fun x s₁ h₁ => ?_) fun _ _ x => x)))
  refine wpP_bind (wpP_of (wpAny_standAt ?_))
  simp only [hs, List.any_nil, Bool.or_false, List.nil_append]
  refine wpP_bind (m := keeperOf (.ref a)) (wpP_of ?_)
  unfold keeperOf
  refine wpAny_bind (wpAny_load h₁.1.1 ?_)
  rw [h₁.1.2]
  refine wpAny_pure ?_
  dsimp only
  by_cases hl : args.length + 2 * ([] : List (Option Str × Sem Value)).length > 30
  · rw [if_pos hl]; exact wpP_tail h₁.2
  · rw [if_neg hl]; exact wpP_tail (by unfold callMarked; exact wpP_keep h₁.2)
theorem wpP_callWith_type {M : Model} {pos : Pos} {T : String} {args : List (Bool × Sem Value)} {Q : Value → Shared → Prop} (hs : args.any (·.1) = false)
    (h : wpAny M A (evalArgs (.type T) true args []) (fun x s₁ => wpP M A (call (.type T) x.pos x.kw) Q E s₁) E s) :
    wpP M A (callWith pos (.type T) [] args []) Q E s := by
  unfold callWith
  refine wpP_bind (wpP_of (wpAny_holding (wpAny_mono h (fun x s₁ h₁ => ?_) fun _ _ x => x)))
  refine wpP_bind (wpP_of (wpAny_standAt ?_))
  simp only [hs, List.any_nil, Bool.or_false, List.nil_append]
  exact wpP_bind (wpP_of (wpAny_pure (wpP_tail h₁)))
theorem wpP_Call {M : Model} {func : Expr} {args : List Expr} {pos : Pos} {Q : Value → Shared → Prop}
    (h : wpAny M A (eval func env) (fun f s₁ => wpP M A (callWith pos f [] (backTo pos (starEach args env)) []) Q E s₁) E s)
    (he : eval (.Call func args [] pos) env = (do callWith pos (← eval func env) [] (backTo pos (starEach args env)) (backToKw pos (keywordEach [] env))) := by rfl) :
    wpP M A (eval (.Call func args [] pos) env) Q E s := by
  rw [he]; exact wpP_bind (wpP_of h)
theorem wpP_callWith_def {M : Model} {pos : Pos} {f : Addr} {o : Obj} {fd : FuncData} {e : Expr} {rest : List Expr} {Q : Value → Shared → Prop} (hdat : o.data = .func fd)
    (h : wpAny M A (spliced (backTo pos (starEach (e :: rest) env))) (fun vs s₁ => s₁.heap.get? f = some o ∧ wpP M A (call (.ref f) vs) Q E s₁) E s)
    (hs : (backTo pos (starEach (e :: rest) env)).any (·.1) = false := by rfl)
    (he : starEach (e :: rest) env = (false, eval e env) :: starEach rest env := by rfl) :
    wpP M A (callWith pos (.ref f) [] (backTo pos (starEach (e :: rest) env)) []) Q E s := by
  refine wpP_callWith_fn (o := o) (fd := fd) hs ?_
  rw [he] at h ⊢
  exact evalArgs_plain (wpAny_mono h (fun vs s₁ h₁ => ⟨⟨h₁.1, hdat⟩, h₁.2⟩) fun _ _ x => x)
theorem wpP_callWith_ty {M : Model} {pos : Pos} {T : String} {e : Expr} {rest : List Expr} {Q : Value → Shared → Prop}
    (h : wpAny M A (spliced (backTo pos (starEach (e :: rest) env))) (fun vs s₁ => wpP M A (call (.type T) vs) Q E s₁) E s)
    (hs : (backTo pos (starEach (e :: rest) env)).any (·.1) = false := by rfl)
    (he : starEach (e :: rest) env = (false, eval e env) :: starEach rest env := by rfl) :
    wpP M A (callWith pos (.type T) [] (backTo pos (starEach (e :: rest) env)) []) Q E s := by
  refine wpP_callWith_type hs ?_
  rw [he] at h ⊢
  exact evalArgs_plain h
theorem wpP_isTrue_Compare1 {M : Model} {l : Expr} {op : CmpOp} {r : Expr} {pos : Pos} {whole : Sem Value} {Q : Bool → Shared → Prop}
    (h : wpP M A (eval l env) (fun a s₁ => wpAny M A (eval r env) (fun b s₂ => wpAny M A (compareOp op a b) (fun v s₃ => wpAny M A (truthy v) Q E s₃) E s₂) E s₁) E s)
    (hm : behindInMarks op r = false := by with_unfolding_all rfl) :
    wpP M A (isTrue (.Compare l [op] [r] pos) env whole) Q E s := fun Γ p hΓ hc => by
  simp only [isTrue_Compare1, markedBehindIn_of_false hm, Sem.wp_bind', Sem.wp_holding, Sem.wp_cmd_standAt, Sem.wp_operate]
  exact Sem.wp_mono M Γ _ (fun a p₁ s₁ h₁ => Sem.wp_mono M Γ _ (fun b _ s₂ h₂ => Sem.wp_mono M Γ _ (fun v _ s₃ h₃ => h₃ Γ _ hΓ) (fun _ _ _ h' => h') _ _ (h₂ Γ _ hΓ)) (fun _ _ _ h' => h') _ _ (h₁ Γ p₁ hΓ))
    (fun _ _ _ h' => h') _ _ (h Γ p hΓ hc)
theorem wp_execs_app (M : Model) (Γ : Ctx) (rest : List Stmt) (Q : Flow → Pos → Shared → Prop) (E' : Value → Pos → Shared → Prop) : ∀ (l : List Stmt) (p : Pos) (s : Shared),
    wp M Γ (execs l env) (fun f p' s' => match f with | .next => wp M Γ (execs rest env) Q E' p' s' | f => Q f p' s') E' p s → wp M Γ (execs (l ++ rest) env) Q E' p s
  | [], p, s, h => by rw [execs_nil, Sem.wp_pure'] at h; exact h
  | st :: l, p, s, h => by
    rw [execs_cons, Sem.wp_bind'] at h
    show wp M Γ (execs (st :: (l ++ rest)) env) Q E' p s
    rw [execs_cons, Sem.wp_bind']
    refine Sem.wp_mono M Γ _ (fun f p' s' h' => ?_) (fun _ _ _ h' => h') _ _ h
    cases f with
    | next => exact wp_execs_app M Γ rest Q E' l p' s' h'
    | _ => exact h'
theorem wpP_execs_append {M : Model} {l rest : List Stmt} {Q : Flow → Shared → Prop}
    (h : wpP M A (execs l env) (fun f s' => match f with | .next => wpP M A (execs rest env) Q E s' | f => Q f s') E s) : wpP M A (execs (l ++ rest) env) Q E s :=
  fun Γ p hΓ hc => wp_execs_app M Γ rest _ _ l p s (Sem.wp_mono M Γ _ (fun f p' s' h' => by cases f <;> first | exact h' Γ p' hΓ hc | exact h') (fun _ _ _ h' => h') p s (h Γ p hΓ hc))
end
end Mine
end
section
set_option maxRecDepth 100000
namespace Mine
open PySem PySem.NumText Builtin Builtin.Str
abbrev lst (x : PySem.Str) : List Nat := x.cps.toList
theorem lst_app (x y : PySem.Str) : lst (x ++ y) = lst x ++ lst y := by simp [lst, PySem.Str.cps_append]
theorem lst_inj {x y : PySem.Str} (h : lst x = lst y) : x = y := PySem.Str.ext' (Array.toList_inj.mp h)
theorem st_lst (x : PySem.Str) : st (lst x) = x := PySem.Str.ext' (by simp [st, lst])
theorem lst_st (T : List Nat) : lst (st T) = T := rfl
theorem lst_len (x : PySem.Str) : (lst x).length = x.length := rfl
/-- a text that the program refuses at its edges -/
def edgy (T : List Nat) : Bool := !(T.all (· < 128)) || (st T != Txt.strip (st T)) || (T.head? == some 43 || T.head? == some 45)
theorem edgy_core {T : List Nat} (h : ∀ c ∈ T, okc c = true) : edgy T = false := by
  have h1 : T.all (· < 128) = true := List.all_eq_true.mpr fun c hc => decide_eq_true (okc_lt (h c hc))
  have h2 : Txt.strip (st T) = st T := strip_same (fun c hc => okc_space c (okc_lt (h c (List.mem_of_mem_head? hc))) (h c (List.mem_of_mem_head? hc)))
    (fun c hc => okc_space c (okc_lt (h c (List.mem_of_mem_getLast? hc))) (h c (List.mem_of_mem_getLast? hc)))
  have h3 : ∀ k, okc k = false → (T.head? == some k) = false := fun k hk => by
    rw [beq_eq_false_iff_ne]
    intro e
    have := h k (List.mem_of_mem_head? e)
    rw [hk] at this; cases this
  unfold edgy
  rw [h1, h2, h3 43 rfl, h3 45 rfl]
  simp
theorem edgy_edges {F C B : List Nat} (hF : F = [] ∨ F = [32] ∨ F = [43] ∨ F = [45]) (hB : B = [] ∨ B = [32] ∨ B = [1635]) (hne : F ++ B ≠ []) : edgy (F ++ C ++ B) = true := by
  unfold edgy
  have bne : ∀ {x y : PySem.Str}, y ≠ x → (x != y) = true := fun h => bne_iff_ne.mpr fun e => h e.symm
  rcases hB with rfl | rfl | rfl
  · rcases hF with rfl | rfl | rfl | rfl
    · exact absurd rfl hne
    · rw [List.append_nil, List.singleton_append, bne (strip_front C)]; simp
    · simp
    · simp
  · rw [bne (strip_back (F ++ C))]; simp
  · simp
def nanS : PySem.Str := "not a number: "
/-- what read_number gives or says -/
def rn (T : List Nat) (k : Nat) : Except PySem.Str Nat :=
  if edgy T then .error (nanS ++ reprText (st T))
  else match (if T.length > 8192 then none else readC T) with
    | none => .error (nanS ++ reprText (st (T.take 40)))
    | some n => if n < 2 ^ k then .ok n else .error ("needs more than " ++ PySem.Str.ofString (toString (k : Int)) ++ " bits: " ++ st (T.take 40))
theorem ok_repr {T : List Nat} (h : ∀ c ∈ T, okc c = true ∨ c ∈ ([32, 43, 45, 1635] : List Nat)) : reprText (st T) = st (39 :: (T ++ [39])) := by
  refine repr_plain (fun c hc => ?_) fun hc => ?_
  · rcases h c hc with x | x
    · exact okc_repr c (okc_lt x) x
    · exact edge_repr c x
  · rcases h 39 hc with x | x
    · cases x
    · simp at x
/-- the law's own text -/
theorem rn_law {H S M F B : List Nat} {b n z p k : Nat} {w : Bool} (r : Row H b S w) (h : Marks S b M) (hn : n < 2 ^ 70) (hp : p ≤ (digs S b n z).length)
    (hF : F = [] ∨ F = [32] ∨ F = [43] ∨ F = [45]) (hB : B = [] ∨ B = [32] ∨ B = [1635]) {T : List Nat} (hT : T = F ++ core H (digs S b n z) M p ++ B) {fo : Bool}
    (hfo : fo = (decide (F ++ B = []) && decide (T.length ≤ 8192) && fm b (digs S b n z) n M p)) :
    rn T k = if fo = false then .error (nanS ++ st (39 :: ((if F ++ B = [] then T.take 40 else T) ++ [39])))
      else if n < 2 ^ k then .ok n else .error ("needs more than " ++ PySem.Str.ofString (toString (k : Int)) ++ " bits: " ++ st (T.take 40)) := by
  have hc := core_ok r h n z p
  have hall : ∀ c ∈ T, okc c = true ∨ c ∈ ([32, 43, 45, 1635] : List Nat) := by
    intro c hcT
    rw [hT] at hcT
    rcases List.mem_append.mp hcT with hcT | hcT
    · rcases List.mem_append.mp hcT with hcT | hcT
      · right; rcases hF with rfl | rfl | rfl | rfl <;> simp_all
      · exact .inl (hc c hcT)
    · right; rcases hB with rfl | rfl | rfl <;> simp_all
  unfold rn
  by_cases he : F ++ B = []
  · obtain ⟨rfl, rfl⟩ := List.append_eq_nil_iff.mp he
    rw [List.nil_append, List.append_nil] at hT
    subst hT
    rw [edgy_core hc, if_neg Bool.false_ne_true, if_pos he]
    rw [ok_repr fun c hcT => hall c (List.mem_of_mem_take hcT)]
    by_cases hl : (core H (digs S b n z) M p).length ≤ 8192
    · rw [if_neg (by omega), read_core r h hn hp]
      cases hf : fm b (digs S b n z) n M p with
      | true =>
        have : fo = true := by rw [hfo, hf]; simp [hl]
        rw [this]; simp
      | false =>
        have : fo = false := by rw [hfo, hf]; simp
        rw [this]; simp
    · rw [if_pos (by omega)]
      have : fo = false := by rw [hfo]; simp [hl]
      rw [this]; simp
  · have : fo = false := by rw [hfo]; simp [he]
    rw [hT, edgy_edges hF hB he, if_pos rfl, ← hT, this, if_pos rfl, if_neg he, ok_repr hall]
/-- what is asked of a text that is handed to read_number -/
def Fine (T : List Nat) : Prop := edgy T = true ∨ ((∀ c ∈ T, okc c = true) ∧ ((based 0 T).1 = 10 → T.length ≤ 640))
theorem fine_law {H S M F B : List Nat} {b n z p : Nat} {w : Bool} (r : Row H b S w) (h : Marks S b M) (hz : w = false → z ≤ 3)
    (hF : F = [] ∨ F = [32] ∨ F = [43] ∨ F = [45]) (hB : B = [] ∨ B = [32] ∨ B = [1635]) {T : List Nat} (hT : T = F ++ core H (digs S b n z) M p ++ B) : Fine T := by
  by_cases he : F ++ B = []
  · obtain ⟨rfl, rfl⟩ := List.append_eq_nil_iff.mp he
    rw [List.nil_append, List.append_nil] at hT
    subst hT
    refine .inr ⟨core_ok r h n z p, fun e => ?_⟩
    have hM : M.length ≤ 2 := by rcases h with rfl | rfl | rfl | rfl <;> simp
    cases r with
    | dec =>
      have h70 : (dg S10 10 70 n []).length ≤ 70 := by have := dg_len (S := S10) (b := 10) 70 n []; simpa using this
      have hz := hz rfl
      have hD : (digs S10 10 n z).length ≤ 73 := by unfold digs; rw [List.length_append, List.length_replicate]; omega
      unfold core
      simp only [List.nil_append, List.length_append, List.length_take, List.length_drop]
      omega
    | hex => exact absurd e (by unfold core based prefix?; simp)
    | hexU => exact absurd e (by unfold core based prefix?; simp)
    | oct => exact absurd e (by unfold core based prefix?; simp)
    | octU => exact absurd e (by unfold core based prefix?; simp)
    | bin => exact absurd e (by unfold core based prefix?; simp)
    | binU => exact absurd e (by unfold core based prefix?; simp)
  · exact .inl (by rw [hT]; exact edgy_edges hF hB he)
def noSq : PySem.Str := "not a square (a1..h8 or 0..63): "
def low1 (c : Nat) : Nat := if 65 ≤ c ∧ c ≤ 90 then c + 32 else c
/-- a square's name -/
def sqName (T : List Nat) : Option Nat := match T with
  | [c, d] => if (97 ≤ low1 c ∧ low1 c ≤ 104) ∧ (49 ≤ d ∧ d ≤ 56) then some (8 * (d - 49) + (low1 c - 97)) else none
  | _ => none
/-- what read_square gives or says -/
def rs (T : List Nat) : Except PySem.Str Nat := match sqName T with
  | some n => .ok n
  | none => match rn T 64 with
    | .ok n => if n > 63 then .error (noSq ++ reprText (st (T.take 40))) else .ok n
    | .error _ => .error (noSq ++ reprText (st (T.take 40)))
end Mine
end
section
set_option maxRecDepth 100000
namespace Mine
open PySem PySem.Calls PySem.NumText
open Sem (wp)
theorem mark_none {own : List String} {l : List (Code × Pos)} (h : HasC l) : pythonCodeMadeTheCall own (l.map (·.1)) = false := by
  unfold pythonCodeMadeTheCall
  have e : ((l.map (·.1)).any fun c => match c with | .builtin "claim.caller" _ => true | _ => false) = true := by
    rw [List.any_map]; exact h
  exact (show ∀ a b c : Bool, a = true → (!a && b && c) = false by decide) _ _ _ e
theorem wpP_mark {M : Model} {A : Around} {E : Value → Shared → Prop} {s : Shared} {own : List String} {e : Value} {Q : Unit → Shared → Prop} (h : Q () s) : wpP M A (markTheRefusal own e) Q E s := fun Γ p hΓ hc => by
  have hh : HasC ((Γ.code, p) :: Γ.below) := by
    rcases hc with hc | hc
    · unfold HasC; rw [List.any_cons, hc]; rfl
    · exact hc.cons
  unfold markTheRefusal stack
  show wp M Γ (Sem.stack .pure >>= fun acts => _) _ _ p s
  rw [Sem.wp_bind', Sem.wp_stack]
  simp only [Sem.wp_pure]
  rw [mark_none hh]
  exact h
theorem wpP_ite_true {α : Type} {M : Model} {A : Around} {E : Value → Shared → Prop} {s : Shared} {c : Prop} [Decidable c] {a b : Sem α} {Q : α → Shared → Prop} (hc : c) (h : wpP M A a Q E s) : wpP M A (if c then a else b) Q E s := by rw [if_pos hc]; exact h
theorem wpP_ite_false {α : Type} {M : Model} {A : Around} {E : Value → Shared → Prop} {s : Shared} {c : Prop} [Decidable c] {a b : Sem α} {Q : α → Shared → Prop} (hc : ¬ c) (h : wpP M A b Q E s) : wpP M A (if c then a else b) Q E s := by rw [if_neg hc]; exact h
/-- the refusal itself -/
theorem wpP_refuse {prog : Program} {w : World} {A : Around} {E : Value → Shared → Prop} {s : Shared} {Q : Value → Shared → Prop} {x : Str} {t : Tok} {pre : Str} (hx : (reprText x).length ≤ sizeLine) (hp : pre.length ≤ 1000) (hh : A.handled = none)
    (h : ∀ h' tk e vs, Heap.MadeExc s.heap h' e "ValueError" vs → E (.ref e) { s with heap := h', toks := tk }) :
    wpP (model prog w) A (do
      let shown ← pyRepr (Value.str x t)
      let v ← mkStr (pre ++ { cps := shown.cps.extract 0 200 })
      let refusal ← newExc (Value.type "ValueError") [v]
      markTheRefusal ["int.__new__"] refusal
      raiseNew refusal) Q E s := by
  refine wpP_bind (wpP_of (wpAny_pyRepr_str ?_ hx))
  refine wpP_bind (wpP_of (wpAny_mkStr ?_ ?_))
  · refine wpP_bind (wpP_of (wpAny_newExc_plain plainExc_ValueError (fun h' e hm => ?_) (by show 1 ≤ sizeLine; decide)))
    exact wpP_bind (wpP_mark (wpP_of (wpAny_raiseNew_none hh (h _ _ _ _ hm))))
  · have : ((pre ++ ({ cps := (reprText x).cps.extract 0 200 } : Str)) : Str).length ≤ 1200 := by
      show (pre.cps ++ (reprText x).cps.extract 0 200).size ≤ 1200
      rw [Array.size_append, Array.size_extract]
      have : pre.cps.size ≤ 1000 := hp
      omega
    exact Nat.le_trans this (by decide)
set_option maxHeartbeats 4000000 in
theorem wpP_text_fail {prog : Program} {w : World} {A : Around} {E : Value → Shared → Prop} {s : Shared} {Q : Value → Shared → Prop} {x : Str} {t : Tok} {text : List Nat} (hx : (reprText x).length ≤ sizeLine)
    (hd : ∃ mc, s.heap.Ns cStatics mc ∧ mc "sys.int_max_str_digits" = none)
    (hr : (int_private% "readNumeral") (if (text.takeWhile (· != 0)).length ≤ 640 then 0 else 4300) 0 (text.takeWhile (· != 0)) = int_private% "Numeral.invalid") (hh : A.handled = none)
    (h : ∀ h' tk e vs, Heap.MadeExc s.heap h' e "ValueError" vs → E (.ref e) { s with heap := h', toks := tk }) :
    wpP (model prog w) A ((int_private% "intFromText") (.str x t) text 0) Q E s := by
  have lim : ∀ {Q : Nat → Shared → Prop}, Q 4300 s → wpAny (model prog w) A Builtin.intMaxStrDigits Q E s := fun {Q} hq => by
    obtain ⟨mc, hn, hm⟩ := hd
    unfold Builtin.intMaxStrDigits
    refine wpAny_bind (wpAny_nsGet hn ?_)
    rw [hm]
    exact wpAny_pure hq
  by_cases hs : (text.takeWhile (· != 0)).length ≤ 640
  · rw [if_pos hs] at hr
    refine wpP_ite_true hs (wpP_bind (wpP_pure ?_))
    dsimp only
    rw [hr]
    dsimp only
    refine wpP_bind (wpP_pure (wpP_ite_false Bool.false_ne_true ?_))
    refine wpP_bind (wpP_of (wpAny_rule ?_))
    exact wpP_bind (wpP_pure (wpP_refuse hx (by decide) hh h))
  · rw [if_neg hs] at hr
    refine wpP_ite_false hs (wpP_bind (wpP_of (lim ?_)))
    dsimp only
    rw [hr]
    dsimp only
    refine wpP_bind (wpP_pure (wpP_ite_false Bool.false_ne_true ?_))
    refine wpP_bind (wpP_of (wpAny_rule ?_))
    exact wpP_bind (wpP_pure (wpP_refuse hx (by decide) hh h))
set_option maxHeartbeats 4000000 in
theorem wpP_new_fail {prog : Program} {w : World} {A : Around} {E : Value → Shared → Prop} {s : Shared} {Q : Fin → Shared → Prop} {x : Str} {t u : Tok} (hx : (reprText x).length ≤ sizeLine) (ha : x.cps.all (· < 128) = true)
    (hd : ∃ mc, s.heap.Ns cStatics mc ∧ mc "sys.int_max_str_digits" = none)
    (hr : (int_private% "readNumeral") (if (x.cps.toList.takeWhile (· != 0)).length ≤ 640 then 0 else 4300) 0 (x.cps.toList.takeWhile (· != 0)) = int_private% "Numeral.invalid") (hh : A.handled = none)
    (h : ∀ h' tk e vs, Heap.MadeExc s.heap h' e "ValueError" vs → E (.ref e) { s with heap := h', toks := tk }) :
    wpP (model prog w) A (Builtin.«int.__new__» ⟨[.type "int", .str x t, .int 0 u], []⟩) Q E s := by
  have hsub := F.called_int.sub
  have hmade := F.called_int.made
  unfold Builtin.«int.__new__»
  dsimp only
  refine wpP_bind (wpP_of (wpAny_pure ?_))
  refine wpP_ite_false Bool.false_ne_true ?_
  refine wpP_bind (wpP_of (wpAny_of_eq hsub ?_))
  refine wpP_ite_false Bool.false_ne_true ?_
  refine wpP_bind (wpP_of ?_)
  repeat wp_step
  refine wpP_ite_false Bool.false_ne_true ?_
  refine wpP_ite_false (show ¬ (2 + 0 > 2) by decide) ?_
  refine wpP_bind (wpP_pure ?_)
  refine wpP_bind (wpP_of ?_)
  repeat wp_step
  refine wpP_ite_false (by decide) ?_
  refine wpP_bind (wpP_pure ?_)
  dsimp only
  rw [if_pos ha]
  exact wpP_bind (wpP_text_fail hx hd hr hh h)
theorem codeP_builtin {prog : Program} {w : World} {A : Around} {R : Result → Shared → Prop} {s : Shared} {id : String} {args : Args} {b : Builtin} (hb : entryFor table id = some b)
    (h : wpP (model prog w) (A.under (.builtin id args)) (b args)
      (fun fin s' => match fin with | .done f => R (.ok f) s' | .again c' => c'.quiet = true ∧ codeP (model prog w) A c' R s') (fun e s' => R (.error e) s') s) :
    codeP (model prog w) A (.builtin id args) R s := by
  refine codeP_of_tree ?_
  show wpP _ _ (match entryFor table id with | some b => b args | none => unsupported ((withoutEnding? id "#data").getD id)) _ _ s
  rw [hb]; exact h
/-- int(x, 0) refuses x -/
theorem wpP_int_fail {prog : Program} {w : World} {A : Around} {E : Value → Shared → Prop} {s : Shared} {Q : Value → Shared → Prop} {x : Str} {t u : Tok} (hx : (reprText x).length ≤ sizeLine) (ha : x.cps.all (· < 128) = true)
    (hd : ∃ mc, s.heap.Ns cStatics mc ∧ mc "sys.int_max_str_digits" = none)
    (hr : (int_private% "readNumeral") (if (x.cps.toList.takeWhile (· != 0)).length ≤ 640 then 0 else 4300) 0 (x.cps.toList.takeWhile (· != 0)) = int_private% "Numeral.invalid") (hh : A.handled = none)
    (h : ∀ h' tk e vs, Heap.MadeExc s.heap h' e "ValueError" vs → E (.ref e) { s with heap := h', toks := tk }) :
    wpP (model prog w) A (call (.type "int") [.str x t, .int 0 u]) Q E s := by
  obtain ⟨c, tl, hmro⟩ := F.called_int.mro
  have hmade := F.called_int.made
  have h1 := F.called_int.notType
  have h2 := F.called_int.canCreate
  refine wpP_call (codeP_of_tree ?_)
  show wpP _ _ (callAny (.type "int") _) _ _ _
  refine wpP_of (wpAny_pure ⟨Code.quiet_builtin _ (by decide +kernel), codeP_builtin F.entry_type_call ?_⟩)
  rw [Around.under_plain (weight_type_call_type "int" _ []) (units_type_call_type "int" _ [])]
  unfold Builtin.«type.__call__»
  dsimp only
  refine wpP_ite_false (by rw [h1]; exact Bool.false_ne_true) ?_
  refine wpP_ite_false (by rw [h2]; exact Bool.false_ne_true) ?_
  refine wpP_bind (wpP_of (wpAny_of_eq (typeCall_int_2 _ _) ?_))
  refine wpP_bind (wpP_of (wpAny_of_eq hmro ?_))
  refine wpP_ite_false Bool.false_ne_true ?_
  refine wpP_bind (wpP_of (wpAny_of_eq hmade ?_))
  dsimp only
  refine wpP_bind (wpP_pure ?_)
  refine wpP_bind (wpP_holding (wpP_call (codeP_of_tree ?_)))
  show wpP _ _ (do checkBuiltinCall "int.__new__" _; again (.builtin "int.__new__" _)) _ _ s
  refine wpP_bind (wpP_of (wpAny_of_eq (newCall_int_2 _ _) (wpP_of (wpAny_pure ⟨plainId_quiet (by decide +kernel) _, codeP_builtin F.entry_int_new ?_⟩))))
  exact wpP_new_fail hx ha hd hr (by rw [Around.under_plainId (by decide +kernel)]; exact hh) h
theorem take_ink {T : List Nat} (h : ∀ c ∈ T, Ink c) : T.takeWhile (· != 0) = T := by
  induction T with
  | nil => rfl
  | cons c T ih =>
    have hc : (c != 0) = true := by have := (h c (.head _)).1; simp; omega
    rw [List.takeWhile_cons, hc, if_pos rfl, ih fun d hd => h d (.tail _ hd)]
/-- int(x, 0), of a text of plain signs -/
theorem wpP_int0 {prog : Program} {w : World} {A : Around} {E : Value → Shared → Prop} {s : Shared} {Q : Value → Shared → Prop} {x : Str} {t u : Tok} (hx : (reprText x).length ≤ sizeLine)
    (hi : ∀ c ∈ x.cps.toList, Ink c) (h2 : ∀ c ∈ x.cps.toList.head?, c ≠ 45 ∧ c ≠ 43) (hl : (based 0 x.cps.toList).1 = 10 → x.cps.toList.length ≤ 640)
    (hd : ∃ mc, s.heap.Ns cStatics mc ∧ mc "sys.int_max_str_digits" = none) (hh : A.handled = none)
    (hok : ∀ n, int0 x.cps.toList = some n → Q (.int (n : Int) s.toks) { s with toks := s.toks + 1 })
    (hno : int0 x.cps.toList = none → ∀ h' tk e vs, Heap.MadeExc s.heap h' e "ValueError" vs → E (.ref e) { s with heap := h', toks := tk }) :
    wpP (model prog w) A (call (.type "int") [.str x t, .int 0 u]) Q E s := by
  have hr := read_int0 (T := x.cps.toList) (if x.cps.toList.length ≤ 640 then 0 else 4300) hi h2 (fun e => ⟨if_pos (hl e), hl e⟩)
  have ha : x.cps.all (· < 128) = true := by
    rw [← Array.all_toList]
    exact List.all_eq_true.mpr fun c hc => decide_eq_true (hi c hc).2
  cases e : int0 x.cps.toList with
  | none =>
    rw [e] at hr
    exact wpP_int_fail hx ha hd (by rw [take_ink hi]; exact hr) hh (hno e)
  | some n =>
    rw [e] at hr
    refine wpP_of (call_int_2 (S := fun _ R s => (∃ mc, s.heap.Ns cStatics mc ∧ mc "sys.int_max_str_digits" = none) ∧ R (.ok (.ret (.int (n : Int) s.toks))) { s with toks := s.toks + 1 }) ?_ ⟨hd, rfl, hok n e⟩)
    refine Meets.of_wp fun prog w A R s hs => ?_
    obtain ⟨hd, hq⟩ := hs
    have hsub := F.called_int.sub
    have hmade := F.called_int.made
    unfold Builtin.«int.__new__»
    dsimp only
    have hr' : (int_private% "readNumeral") (if (x.cps.toList.takeWhile (· != 0)).length ≤ 640 then 0 else 4300) 0 (x.cps.toList.takeWhile (· != 0)) = (int_private% "Numeral.value") (n : Int) := by rw [take_ink hi]; exact hr
    have ha' : ((x.cps.toList.takeWhile (· != 0)).length == x.cps.toList.length) = true := by rw [take_ink hi]; simp
    refine wpAny_bind (wpAny_pure ?_)
    refine wpAny_ite_false rfl ?_
    refine wpAny_bind (wpAny_of_eq hsub ?_)
    refine wpAny_ite_false rfl ?_
    refine wpAny_bind (wpAny_mono (Q := fun _ s' => s' = s) (E := fun _ _ => False) ?_ (fun _ s' hs => ?_) fun _ _ hf => hf.elim)
    · repeat wp_step
      rfl
    subst hs
    refine wpAny_ite_false rfl ?_
    refine wpAny_ite_false rfl ?_
    refine wpAny_bind (wpAny_pure ?_)
    refine wpAny_bind (wpAny_mono (Q := fun a s'' => a = 0 ∧ s'' = s') (E := fun _ _ => False) ?_ (fun a s'' hs => ?_) fun _ _ hf => hf.elim)
    · repeat wp_step
      exact ⟨rfl, rfl⟩
    obtain ⟨rfl, rfl⟩ := hs
    refine wpAny_ite_false rfl ?_
    refine wpAny_bind (wpAny_pure ?_)
    dsimp only
    rw [if_pos ha]
    refine wpAny_bind (wp_text1 hd hr' ha' ?_)
    refine wpAny_ite_true rfl ?_
    exact wpAny_pure ⟨_, rfl, hq⟩
end Mine
end
section
set_option maxRecDepth 100000
namespace Mine
open PySem PySem.Calls PyProof.Rows
/-- the exception at e bears no context -/
def ctx2 (h : Heap) (e : Addr) : Prop := ∃ oe vs, h.get? e = some oe ∧ oe.data = .fields vs ∧ vs[2]? = some .none
section
variable {M : Model} {A : Around} {E : Value → Shared → Prop} {s : Shared}
/-- the entry of a frame in the trail of an exception, and what it leaves of the exception -/
theorem entry2 {base : Heap} {env : Env} {outer : List Env} {L e : Addr} {oe : Obj} {vs : Array Value} {head a0 : Value} {hadNext : Bool} {Q : Unit → Shared → Prop}
    (hfr : A.frames = some (env :: outer)) (hl : s.heap.FunFrames base (env :: outer)) (hf : env.frame = some L)
    (he : s.heap.get? e = some oe) (hkb : base.StaysIn s.heap) (hen : base.get? e = none) (hd : oe.data = .fields vs) (hsz : 1 < vs.size) (h0 : vs[0]? = some a0) (h2 : vs[2]? = some .none)
    (h : ∀ h', Heap.NotedW base (env :: outer) e oe.cls a0 (rawInt L) s.heap h' → ctx2 h' e → Q () { s with heap := h' }) :
    wpAny M A (do let a ← frameOf env; let pl ← entryPlaceOf L hadNext; let b ← EntryCells.newEntry head a .none (rawInt L) .none pl; setField (.ref e) 1 b) Q E s := by
  have hene : e ∉ (env :: outer).filterMap (·.frame) := fun hm => by
    obtain ⟨_, o, ho, hnf⟩ := hl.mem hm
    rw [he] at ho; cases ho; exact hnf vs hd
  refine wpAny_bind (wpAny_frameOf_fun hfr hl hf fun h₁ hs₁ => ?_)
  refine wpAny_bind (wpAny_entryPlaceOf fun pl hpl => ?_)
  unfold EntryCells.newEntry newFields
  refine wpAny_bind (wpAny_newObj_type ?_ (hpl.sizeOk5 _ _ _ _ _))
  have he₁ : h₁.get? e = some oe := (hs₁.2.1 e hene).trans he
  have kb₁ : base.StaysIn h₁ := fun b o hbo => (hs₁.2.1 b fun hm => by rw [(hl.mem hm).1] at hbo; cases hbo).trans (hkb b o hbo)
  generalize htb : ({ cls := Value.type "traceback", dict := none, data := .fields ([head, .ref L, .none, rawInt L, .none] ++ (if pl.isEmpty then List.replicate 6 Value.none else pl)).toArray } : Obj) = tb
  have hTe : h₁.objs.size ≠ e := Nat.ne_of_gt (Heap.lt_size he₁)
  have he₂ := Heap.get?_push_of_some (h := h₁) tb he₁
  refine wpAny_setField he₂ hd hsz ?_
  have hd₃ := Obj.data_mapFields hd (·.setIfInBounds 1 (Value.ref h₁.objs.size))
  have he₃ := Heap.get?_update_self (Obj.mapFields (·.setIfInBounds 1 (Value.ref h₁.objs.size))) he₂ (Obj.isFreed_of_fields hd₃)
  have hT₃ : ((h₁.push tb).update e (Obj.mapFields (·.setIfInBounds 1 (Value.ref h₁.objs.size)))).get? h₁.objs.size = some tb :=
    (Heap.get?_update_other _ _ (Ne.symm hTe)).trans (Heap.get?_push_size h₁ (by rw [← htb]; rfl))
  have keep : ∀ b o, b ≠ e → h₁.get? b = some o → ((h₁.push tb).update e (Obj.mapFields (·.setIfInBounds 1 (Value.ref h₁.objs.size)))).get? b = some o := fun b o hbe hb =>
    (Heap.get?_update_other _ _ (Ne.symm hbe)).trans (Heap.get?_push_of_some _ hb)
  have noRecord : ∀ b o, s.heap.get? b = some o → (∀ vs, o.data ≠ .fields vs) → b ≠ e := fun b o hb hnf q => by
    rw [q, he] at hb; cases hb; exact hnf vs hd
  refine h _ ⟨fun b o hbo => keep b o (fun q => by rw [q, hen] at hbo; cases hbo) (kb₁ b o hbo), hl.of_keeps fun b o hb hnf => ?_, ?_, fun b o hb hnf => ?_⟩ ⟨_, _, he₃, hd₃, ?_⟩
  · obtain ⟨sl, hs⟩ := hs₁.2.2 b o hb
    exact ⟨_, keep b _ (noRecord b o hb hnf) hs, rfl⟩
  · refine ⟨_, _, h₁.objs.size, _, _, he₃, ⟨Obj.cls_mapFields _ _, by rw [Array.getElem?_setIfInBounds_ne (by decide)]; exact h0⟩, hd₃, by simp [hsz], kb₁.fresh, hTe, hT₃, by rw [← htb], ?_⟩
    first | (simp; done) | (rcases hpl with rfl | ⟨_, _, _, _, _, _, _, rfl⟩ <;> simp)
  · obtain ⟨sl, hs⟩ := hs₁.2.2 b o hb
    exact ⟨sl, keep b _ (noRecord b o hb hnf) hs⟩
  · rw [Array.getElem?_setIfInBounds_ne (by decide)]; exact h2
/-- noteFrame for an exception that is new -/
theorem note_new2 {base : Heap} {env : Env} {outer : List Env} {L e : Addr} {oe : Obj} {vs : Array Value} {a0 : Value} {Q : Unit → Shared → Prop}
    (hfr : A.frames = some (env :: outer)) (hl : s.heap.FunFrames base (env :: outer)) (hf : env.frame = some L)
    (he : s.heap.get? e = some oe) (hkb : base.StaysIn s.heap) (hen : base.get? e = none) (hd : oe.data = .fields vs) (h1 : vs[1]? = some .none) (h0 : vs[0]? = some a0) (h2 : vs[2]? = some .none)
    (h : ∀ h', Heap.HeldW base (env :: outer) e oe.cls a0 L h' → ctx2 h' e → s.heap.UpToSlots h' → Q () { s with heap := h' }) : wpAny M A (noteFrame (.ref e) env) Q E s := by
  unfold noteFrame
  simp only [hf]
  refine wpAny_bind (wpAny_field he hd h1 ?_)
  rw [if_neg (by decide)]
  exact entry2 hfr hl hf he hkb hen hd (Array.getElem?_eq_some_iff.mp h1).1 h0 h2 fun h' ⟨k1, k2, k3, k4⟩ c => h h' ⟨k1, hen, k2, k3⟩ c k4
/-- noteFrame for an exception that flies in from a deeper frame -/
theorem note_on2 {base : Heap} {env : Env} {outer : List Env} {L e : Addr} {cls a0 : Value} {Q : Unit → Shared → Prop}
    (hfr : A.frames = some (env :: outer)) (hf : env.frame = some L) (hfl : Heap.FlyingW base (env :: outer) e cls a0 s.heap) (hc : ctx2 s.heap e)
    (h : ∀ h', Heap.HeldW base (env :: outer) e cls a0 L h' → ctx2 h' e → s.heap.UpToSlots h' → Q () { s with heap := h' }) : wpAny M A (noteFrame (.ref e) env) Q E s := by
  obtain ⟨hkb, hen, hl, oe, vs, T, oT, ts, he, ⟨rfl, h0⟩, hd, h1, hnT, hTe, hT, hdT, h3⟩ := hfl
  have h2 : vs[2]? = some .none := by
    obtain ⟨oe', vs', he', hd', h2⟩ := hc
    rw [he] at he'; cases he'
    rw [hd] at hd'; cases hd'
    exact h2
  unfold noteFrame
  simp only [hf]
  refine wpAny_bind (wpAny_field he hd h1 ?_)
  rw [if_pos (show (Value.ref T != Value.none) = true from by simp)]
  refine wpAny_bind (wpAny_field hT hdT h3 ?_)
  rw [if_neg (show ¬ ((Value.none == rawInt L) = true) from by simp [rawInt])]
  refine wpAny_bind (wpAny_setField hT hdT (Array.getElem?_eq_some_iff.mp h3).1 ?_)
  have other : ∀ b, b ≠ T → (s.heap.update T (Obj.mapFields (·.setIfInBounds 3 Value.none))).get? b = s.heap.get? b := fun b hb => Heap.get?_update_other _ _ (Ne.symm hb)
  have noRecord : ∀ b o, s.heap.get? b = some o → (∀ vs, o.data ≠ .fields vs) → b ≠ T := fun b o hb hnf q => by
    rw [q, hT] at hb; cases hb; exact hnf ts hdT
  exact entry2 hfr (hl.of_keeps fun b o hb hnf => ⟨o, (other b (noRecord b o hb hnf)).trans hb, rfl⟩) hf ((other e (Ne.symm hTe)).trans he)
    (fun b o hbo => (other b fun q => by rw [q, hnT] at hbo; cases hbo).trans (hkb b o hbo)) hen hd (Array.getElem?_eq_some_iff.mp h1).1 h0 h2
    fun h' ⟨x1, x2, x3, x4⟩ c => h h' ⟨x1, hen, x2, x3⟩ c fun b o hb hnf => x4 b o ((other b (noRecord b o hb hnf)).trans hb) hnf
/-- setFlight, with what it leaves of the exception -/
theorem flight2 {base : Heap} {l : List Env} {e : Addr} {cls a0 fl : Value} {Q : Unit → Shared → Prop}
    (hkb : base.StaysIn s.heap) (hen : base.get? e = none) (hl : s.heap.FunFrames base l) (ht : s.heap.TracedAtW base e cls a0 fl) (hc : ctx2 s.heap e)
    (h : ∀ h', Heap.FlyingW base l e cls a0 h' → ctx2 h' e → s.heap.UpToSlots h' → Q () { s with heap := h' }) :
    wpAny M A (setFlight (.ref e) none) Q E s := by
  obtain ⟨oe, vs, T, oT, ts, he, hcls, hd, h1, hnT, hTe, hT, hdT, h3⟩ := ht
  have hsz3 : 3 < ts.size := (Array.getElem?_eq_some_iff.mp h3).1
  have other : ∀ b, b ≠ T → (s.heap.update T (Obj.mapFields (·.setIfInBounds 3 ((none : Option Addr).elim Value.none fun f => rawInt f)))).get? b = s.heap.get? b :=
    fun b hb => Heap.get?_update_other _ _ (Ne.symm hb)
  have noRecord : ∀ b o, s.heap.get? b = some o → (∀ vs, o.data ≠ .fields vs) → b ≠ T := fun b o hb hnf q => by
    rw [q, hT] at hb; cases hb; exact hnf ts hdT
  unfold setFlight
  refine wpAny_bind (wpAny_field he hd h1 ?_)
  rw [if_pos (show (Value.ref T != Value.none) = true from by simp)]
  refine wpAny_setField hT hdT hsz3 (h _ ⟨fun b o hbo => (other b fun q => by rw [q, hnT] at hbo; cases hbo).trans (hkb b o hbo), hen,
    hl.of_keeps fun b o hb hnf => ⟨o, (other b (noRecord b o hb hnf)).trans hb, rfl⟩, ?_⟩ ?_ fun b o hb hnf => ⟨o.slots, (other b (noRecord b o hb hnf)).trans hb⟩)
  · exact ⟨oe, vs, T, _, _, (other e (Ne.symm hTe)).trans he, hcls, hd, h1, hnT, hTe, Heap.get?_update_self _ hT (Obj.isFreed_of_fields (Obj.data_mapFields hdT _)), Obj.data_mapFields hdT _, by simp [hsz3]⟩
  · obtain ⟨oe', vs', he', r⟩ := hc
    exact ⟨oe', vs', (other e (Ne.symm hTe)).trans he', r⟩
end
end Mine
end
section
set_option maxRecDepth 100000
namespace Mine
open PySem PySem.Calls PyProof.Rows
theorem entry_unchain : entryFor table "proto.unchain" = some Builtin.«proto.unchain» := entryFor_of_tree (by kernel_rfl)
/-- the exception that «raise .. from None» throws in a suite that handles e0 -/
def Chained (h h' : Heap) (a e0 : Addr) (X : String) (t : Value) : Prop :=
  (∀ b, b ≠ a → h'.get? b = h.get? b) ∧ ∃ ob, h'.get? a = some ob ∧ ob.cls = .type X ∧ ob.data = .fields #[t, .none, .ref e0, .none, .bool true, .none]
section
variable {prog : Program} {w : World} {A : Around} {E : Value → Shared → Prop} {s : Shared} {env : Env}
theorem raise_from {e : PySem.Expr} {k : Nat} {cpos pos : Pos} {Q : Flow → Shared → Prop} {e0 : Addr} (hh : A.handled = some (.ref e0))
    (h : wpAny (model prog w) A (eval e env) (fun v s₁ => ∃ a ob X N I t, ExcClass X N I ∧ v = .ref a ∧ a ≠ e0 ∧ s₁.heap.get? a = some ob ∧ ob.cls = .type X ∧ ob.data = .fields #[t, .none, .none, .none, .bool false, .none] ∧ ctx2 s₁.heap e0 ∧
      ∀ h', Chained s₁.heap h' a e0 X t → E (.ref a) { s₁ with heap := h' }) E s) :
    wpAny (model prog w) A (exec (.Raise (some e) (some (.Constant .none k cpos)) pos) env) Q E s := by
  show wpAny _ A (do standAt pos; raiseStmt env (some (do let v ← eval e env; standAt pos; pure v)) (some (do let v ← eval (.Constant .none k cpos) env; standAt pos; pure v))) Q E s
  refine wpAny_bind (wpAny_standAt ?_)
  unfold raiseStmt
  dsimp only
  refine wpAny_bind (wpAny_bind (wpAny_mono h (fun v s₁ h₁ => wpAny_bind (wpAny_standAt (wpAny_pure ?_))) fun _ _ x => x))
  obtain ⟨a, ob, X, N, I, t, hc, rfl, hne, ha, hcls, hd, hctx, hE⟩ := h₁
  have hT : s₁.TypeIs (.ref a) X := ⟨ob, ha, hcls⟩
  have hnt : ∀ {s' : Shared} {ob' : Obj} {vs' : Array Value} {Q' : Bool → Shared → Prop}, s'.heap.get? a = some ob' → ob'.data = .fields vs' → Q' false s' → wpAny (model prog w) A (isType (.ref a)) Q' E s' := by
    intro s' ob' vs' Q' ha' hd' hq
    simp only [isType, loadHead]
    refine wpAny_bind (wpAny_loadPart ha' ?_)
    rw [hd']; exact wpAny_pure hq
  refine wpAny_bind (wpAny_holding (wpAny_bind (Constant_none (wpAny_bind (wpAny_standAt (wpAny_pure (wpAny_bind (wpAny_pure ?_))))))))
  dsimp only
  refine wpAny_bind (wpAny_holding ?_)
  unfold excFromValue isExcClass
  refine wpAny_bind (wpAny_bind (hnt ha hd ?_))
  simp only [Bool.false_eq_true, if_false]
  refine wpAny_pure ?_
  simp only [Bool.false_eq_true, if_false]
  refine wpAny_bind (wpAny_isInstance hT hc.base ?_)
  simp only [if_true]
  refine wpAny_pure ?_
  rw [if_pos (show (Value.none == Value.none) = true from rfl)]
  refine wpAny_bind (wpAny_pure (wpAny_bind (wpAny_setField ha hd (by show 3 < 6; decide) ?_)))
  have hd1 := Obj.data_mapFields hd (·.setIfInBounds 3 Value.none)
  have ha1 := Heap.get?_update_self (Obj.mapFields (·.setIfInBounds 3 Value.none)) ha (Obj.isFreed_of_fields hd1)
  refine wpAny_bind (wpAny_setField ha1 hd1 (by show 4 < 6; decide) ?_)
  have hd2 := Obj.data_mapFields hd1 (·.setIfInBounds 4 (Value.bool true))
  have ha2 := Heap.get?_update_self (Obj.mapFields (·.setIfInBounds 4 (Value.bool true))) ha1 (Obj.isFreed_of_fields hd2)
  generalize hh2 : (s₁.heap.update a (Obj.mapFields (·.setIfInBounds 3 Value.none))).update a (Obj.mapFields (·.setIfInBounds 4 (Value.bool true))) = h2 at ha2
  have hoth : ∀ b, b ≠ a → h2.get? b = s₁.heap.get? b := fun b hb => by
    rw [← hh2, Heap.get?_update_other _ _ (Ne.symm hb), Heap.get?_update_other _ _ (Ne.symm hb)]
  have hcl2 : (Obj.mapFields (·.setIfInBounds 4 (Value.bool true)) (Obj.mapFields (·.setIfInBounds 3 Value.none) ob)).cls = .type X := by
    rw [Obj.cls_mapFields, Obj.cls_mapFields]; exact hcls
  have hT2 : Shared.TypeIs { s₁ with heap := h2 } (.ref a) X := ⟨_, ha2, hcl2⟩
  refine wpAny_bind (hnt ha2 hd2 ?_)
  rw [if_neg Bool.false_ne_true]
  unfold raisedInstance
  refine wpAny_bind (wpAny_bind (wpAny_typeOf hT2 (wpAny_bind (m := typeOf (.type X)) (wpAny_pure ?_))))
  rw [if_pos hc.metaType]
  refine wpAny_pure ?_
  unfold setFlight raiseNew
  refine wpAny_bind (wpAny_bind (wpAny_field ha2 hd2 (show _ = some Value.none from rfl) ?_))
  rw [if_neg (by decide)]
  refine wpAny_pure (wpAny_bind (wpAny_handled ?_))
  rw [hh]
  dsimp only
  rw [if_pos (show (Value.ref e0 != Value.ref a) = true from by simpa using fun q => hne q.symm)]
  obtain ⟨o0, vs0, he0, hd0, h20⟩ := hctx
  have he0' : h2.get? e0 = some o0 := (hoth e0 (Ne.symm hne)).trans he0
  refine wpAny_bind (wpAny_holding (wpAny_runValue (codeAny_builtin entry_unchain ?_)))
  show wpAny _ _ (do let context ← field (.ref e0) 2; if context == .none then ret .none else _) _ _ _
  refine wpAny_bind (wpAny_field he0' hd0 h20 ?_)
  rw [if_pos (show (Value.none == Value.none) = true from rfl)]
  refine wpAny_pure ?_
  dsimp only
  refine wpAny_bind (m := setField (.ref a) 2 (.ref e0)) (wpAny_setField ha2 hd2 (by show 2 < 6; decide) (wpAny_throw (hE _ ⟨fun b hb => ?_, Obj.mapFields (·.setIfInBounds 2 (Value.ref e0)) (Obj.mapFields (·.setIfInBounds 4 (Value.bool true)) (Obj.mapFields (·.setIfInBounds 3 Value.none) ob)), ?_, ?_, ?_⟩)))
  · rw [Heap.get?_update_other _ _ (Ne.symm hb)]; exact hoth b hb
  · exact Heap.get?_update_self (Obj.mapFields (·.setIfInBounds 2 (Value.ref e0))) ha2 (Obj.isFreed_of_fields (Obj.data_mapFields hd2 _))
  · rw [Obj.cls_mapFields]; exact hcl2
  · rw [Obj.data_mapFields hd2 (·.setIfInBounds 2 (Value.ref e0))]; rfl
/-- an exception that was made new, with its arguments -/
structure ExcAt (h h' : Heap) (e : Addr) (cls : Value) (t : Addr) (vs : List Value) : Prop where
  keeps : ∀ b o, h.get? b = some o → h'.get? b = some o
  new : h.get? e = none
  there : ∃ ob fs, h'.get? e = some ob ∧ ob.cls = cls ∧ ob.data = .fields fs ∧ fs[0]? = some (.ref t) ∧ fs[1]? = some .none
  tnew : h.get? t = none
  tup : h'.TupAt t vs
theorem raise_from_call {x : Str} {np cpos kpos pos : Pos} {e₁ : PySem.Expr} {k : Nat} {Q : Flow → Shared → Prop} {e0 : Addr} (hh : A.handled = some (.ref e0))
    (h : wpAny (model prog w) A (eval (.Name x np) env) (fun f s₁ => f = .type "ValueError" ∧ wpAny (model prog w) A (spliced (backTo cpos (starEach [e₁] env)))
      (fun vs s₂ => vs.length ≤ sizeLine ∧ ctx2 s₂.heap e0 ∧ ∀ h' e t, ExcAt s₂.heap h' e (.type "ValueError") t vs → E (.ref e) { s₂ with heap := h' }) E s₁) E s)
    (he : starEach [e₁] env = (false, eval e₁ env) :: starEach [] env := by rfl) (hplain : (backTo cpos (starEach [e₁] env)).any (·.1) = false := by rfl) :
    wpAny (model prog w) A (exec (.Raise (some (.Call (.Name x np) [e₁] [] cpos)) (some (.Constant .none k kpos)) pos) env) Q E s := by
  refine raise_from hh (wpAny_Call_ofName (wpAny_mono h (fun f s₁ h₁ => ?_) fun _ _ x => x))
  obtain ⟨rfl, h₁⟩ := h₁
  refine callWith_excType hplain ?_
  rw [he] at h₁ ⊢
  refine evalArgs_plain (wpAny_mono h₁ (fun vs s₂ h₂ => ?_) fun _ _ x => x)
  obtain ⟨hlen, hctx, hE⟩ := h₂
  refine wpAny_call_exc PySem.F.excCall_ValueError (hrest := hlen) fun h₂ e hm => ?_
  obtain ⟨t, ht, htn, htt⟩ := hm.there
  have hne : e ≠ e0 := fun q => by
    obtain ⟨o, _, ho, _⟩ := hctx
    rw [← q, hm.new] at ho; cases ho
  have hte : t ≠ e := fun q => by
    rw [q, ht] at htt
    have := congrArg Obj.data (Option.some.inj htt)
    cases this
  refine ⟨e, _, "ValueError", _, _, .ref t, excClass_ValueError, rfl, hne, ht, rfl, rfl, ?_, fun h' hc => hE h' e t ⟨fun b o hb => ?_, hm.new, ?_, htn, ?_⟩⟩
  · obtain ⟨o, vs', ho, r⟩ := hctx
    exact ⟨o, vs', hm.keeps _ _ ho, r⟩
  · rw [hc.1 b (fun q => by rw [q, hm.new] at hb; cases hb)]; exact hm.keeps b o hb
  · obtain ⟨ob, ho, hcl, hd⟩ := hc.2
    exact ⟨ob, _, ho, hcl, hd, rfl, rfl⟩
  · exact ⟨_, _, (hc.1 t hte).trans htt, rfl, rfl⟩
end
end Mine
end
section
set_option maxRecDepth 100000
namespace Mine
open PySem PySem.W PySem.Calls PyProof.Rows
section
variable {prog : Program} {w : World} {A₀ A : Around} {s : Shared} {base h₀ g₀ : Heap} {outer : List Env} {L a : Addr} {m : Str → Option Value} {cn : Str} {cs : Scope} {ccd : Value} {news : List (Addr × Obj)} {K : Frag} {p : Program} {loose : List Str} {mean : ExcName → Option Value} {mg mb : Str → Option Value}
    {R : Result → Shared → Prop} {name qual : Str} {params : Arguments} {body : List Stmt} {scope : Scope} {dV kV doc pm cdv ct oc : Value} {an od : Option Addr} {osl : Array (Option Value)} {f : Addr} {args : Args} {binds : List (Str × Value)}
/-- what stands below a callee's frame comes back to the caller -/
theorem back_P {g : Heap} {oL : Obj} {es : Array DictEntry} {ep : Nat} {v : Value} {s' : Shared} (B : Below A₀ base outer h₀) (F : Fr h₀ L s.heap m) (XB : K.In base) (TB : Top p loose mean mg mb base) (D : KtsDicts (outer.filterMap (·.frame)) h₀)
    (T0 : KtsTurn (outer.filterMap (·.frame)) g₀ h₀) (hLg : g.get? L = some oL) (hLd : oL.data = .dict es ep) (hN : ∀ h', h'.get? L = some oL → Heap.Ns h' L m)
    (hNs : ∀ (sl : Array (Option Value)) h', h'.get? L = some { oL with slots := sl } → Heap.Ns h' L m) (st : h₀.StaysIn g)
    (hl : LeaveS ((envOf cn cs L a ccd :: outer).filterMap (·.frame)) A₀ base outer K p loose mean mg mb g₀ h₀ L m g R v s') : R (.ok (.ret v)) s' := by
  have nL₀ : h₀.get? L = none := kts_self F
  have off : ∀ b o, h₀.get? b = some o → b ∉ outer.filterMap (·.frame) → b ∉ (envOf cn cs L a ccd :: outer).filterMap (·.frame) := fun b o e nm hm => by
    rcases kts_mem hm with z | z
    · rw [z, nL₀] at e; cases e
    · exact nm z
  rcases hl with ⟨L', m', news', F', N', k⟩ | ⟨g', L', m', news', T', F', N', k⟩
  · refine k ⟨hN _ (F'.keep _ _ hLg), fun b o e => F'.keep b o (st b o e), F.above⟩ fun q hq => ⟨(N' q hq).1, fun e => ?_, ?_⟩
    · have x := (N' q hq).2.2; rw [e, hLg] at x; cases x
    · exact kts_none st (N' q hq).2.2
  · obtain ⟨sl, hs⟩ := T'.up hLg
    obtain ⟨T₁, S₁⟩ := kts_turn_at (h := s'.heap) (fs := outer.filterMap (·.frame)) (g := h₀)
      (fun b hb => let ⟨_, o, ho', _⟩ := B.frames.mem hb; ⟨o, ho'⟩)
      (fun b o e nm => F'.keep b o (T'.other b o (st b o e) (off b o e nm)))
      (fun b o e _ => let ⟨sl', hs'⟩ := T'.up (st b o e); ⟨sl', F'.keep _ _ hs'⟩)
    have B₃ : Below A₀ base outer (ktsHeap s'.heap (outer.filterMap (·.frame)) h₀) := ⟨B.stack, fun b o e => T₁.other b o (B.stays b o e) (fun hm => by
      rw [(B.frames.mem hm).1] at e; cases e), B.frames.of_keeps fun b o e _ => let ⟨_, hs'⟩ := T₁.up e; ⟨_, hs', rfl⟩⟩
    refine k _ (T0.trans T₁) ⟨hNs sl _ (F'.keep _ _ hs), S₁, by rw [T₁.size]; exact F.above⟩ (fun q hq => ⟨(N' q hq).1, fun e => ?_, T₁.none_ _ ?_⟩) B₃ (XB.keeps B₃.stays) (TB.keeps B₃.stays) (D.turn T₁)
    · have x := (N' q hq).2.2; rw [e, hs] at x; cases x
    · cases e : h₀.get? q.1 with
      | none => rfl
      | some o =>
        obtain ⟨sl', hs'⟩ := T'.up (st _ _ e)
        have x := (N' q hq).2.2
        rw [hs'] at x; cases x
/-- a call of a def of the text, in wpP -/
theorem codeP_defS (B : Below A₀ base outer h₀) (F : Fr h₀ L s.heap m) (X₀ : K.In h₀) (N : News h₀ L s.heap news) (T : Top p loose mean mg mb h₀) (XB : K.In base) (TB : Top p loose mean mg mb base) (D : KtsDicts (outer.filterMap (·.frame)) h₀)
    (T0 : KtsTurn (outer.filterMap (·.frame)) g₀ h₀) (hA : A.frames = some (envOf cn cs L a ccd :: outer))
    (ho : K.lookup f = some ⟨oc, od, .func (fnOf name qual params body scope dV kV doc pm an cdv ct), osl⟩) (hcd : codeIn K cdv qual = true) (hroom : A.depth < recursionLimit)
    (hbind : BindsTo s (fnOf name qual params body scope dV kV doc pm an cdv ct) args binds) (hloc : ∀ y ∈ binds, scope.names.lookup y.1 = some .local)
    (h : ∀ g L' h₁, Fr h₀ L g m → Fr g L' h₁ (fun y => binds.reverse.lookup y) → News g L' h₁ news → Below A base (envOf cn cs L a ccd :: outer) g → K.In g → Top p loose mean mg mb g → KtsDicts ((envOf cn cs L a ccd :: outer).filterMap (·.frame)) g →
      wpP (model prog w) (A.deeper (envOf qual scope L' f cdv)) (execs body (envOf qual scope L' f cdv))
        (fun fl s' => LeaveS ((envOf cn cs L a ccd :: outer).filterMap (·.frame)) A₀ base outer K p loose mean mg mb g₀ h₀ L m g R (match fl with | .ret v => v | _ => .none) s')
        (fun e s' => wpAny (model prog w) (A.deeper (envOf qual scope L' f cdv)) (leaving (envOf qual scope L' f cdv) e) (fun _ s'' => R (.error e) s'') (fun e' s'' => R (.error e') s'') s')
        { s with heap := h₁, toks := s.toks + binds.length })
    (hck : cs.kind = .function) (hco : scope.isCoroutine = false) (hgen : scope.isGenerator = false) (hk : scope.kind = .function)
    (hcell : ∀ x ∈ scope.names, x.2 ≠ .cell) : codeP (model prog w) A (.call (.ref f) args) R s := by
  have X := X₀.keeps F.keep
  obtain ⟨oL, es, ep, hLg, hLd, hN, hNs, st, B₂⟩ := kts_enter B F N hA hck
  refine codeP_call_def (fd := fnOf name qual params body scope dV kV doc pm an cdv ct) (body := body) (binds := binds) hroom (X _ _ ho) rfl (T.nolimit.keeps F.keep) (codeRec_of X hcd) rfl hbind hcell hloc (fun h₁ hns hk₁ => ?_) hco hgen hk
  exact wpP_mono (h _ s.heap.objs.size h₁ ⟨hN _ hLg, st, F.above⟩ ⟨hns, fun b o e => hk₁ b o (of_hideAll _ e), Nat.le_of_eq (hideAll_size _ _)⟩
    (fun q hq => ⟨hk₁ _ _ (N q hq).1, Nat.ne_of_lt (Heap.lt_size (N q hq).1), hideAll_none _ (List.mem_map_of_mem hq)⟩) B₂ (X₀.keeps st) (T.keeps st) (fun b hb => by
      rcases kts_mem hb with rfl | hb
      · exact ⟨oL, es, ep, hLg, hLd⟩
      · obtain ⟨o, es', n', ho', hd'⟩ := D b hb
        exact ⟨o, es', n', st b o ho', hd'⟩)) (fun fl s' hl => back_P B F XB TB D T0 hLg hLd hN hNs st hl) fun _ _ y => y
end
end Mine
end
section
set_option maxRecDepth 100000
namespace Mine
open PySem PySem.W PySem.Calls PyProof.Rows
section
variable {prog : Program} {w : World} {A₀ A : Around} {E : Value → Shared → Prop} {s' : Shared} {base g g₀ G h B : Heap} {outer : List Env} {L a e t : Addr} {m : Str → Option Value} {name : Str} {scope : Scope} {cd : Value}
  {vs : List Value} {b₀ : Stmt} {suite : List Stmt} {pos np : Pos} {rest : List ExceptHandler} {Q : Flow → Shared → Prop} {news : List (Addr × Obj)} {KF : Frag}
  {p : Program} {loose : List Str} {mean : ExcName → Option Value} {mg mb : Str → Option Value}
/-- the ground of a frame, its own and the outer frames hidden -/
theorem hide_facts (K : Below A base outer g) (F : Fr g L h m) (N : News g L h news) (hk : scope.kind = .function) :
    base.StaysIn (hideAll h ((envOf name scope L a cd :: outer).filterMap (·.frame))) ∧
    (∀ b o, g.get? b = some o → b ∉ outer.filterMap (·.frame) → (hideAll h ((envOf name scope L a cd :: outer).filterMap (·.frame))).get? b = some o) ∧
    (∀ q ∈ news, (hideAll h ((envOf name scope L a cd :: outer).filterMap (·.frame))).get? q.1 = some q.2 ∧ g.get? q.1 = none ∧ base.get? q.1 = none) ∧
    h.FunFrames (hideAll h ((envOf name scope L a cd :: outer).filterMap (·.frame))) (envOf name scope L a cd :: outer) ∧
    (∀ b o, (hideAll h ((envOf name scope L a cd :: outer).filterMap (·.frame))).get? b = some o → h.get? b = some o) := by
  have K' := K.push (name := name) (a := a) (cd := cd) F hk
  have hin : ∀ env ∈ (envOf name scope L a cd :: outer), ∀ b, env.frame = some b → b ∈ (envOf name scope L a cd :: outer).filterMap (·.frame) := fun env he b hb => List.mem_filterMap.mpr ⟨env, he, hb⟩
  refine ⟨fun b o q => hideAll_get _ (K'.stays b o q) fun hm => ?_, fun b o q nm => hideAll_get _ (F.keep b o q) fun hm => ?_, fun q hq => ?_, funFrames_hide K'.frames hin, fun b o q => of_hideAll _ q⟩
  · rw [(K'.frames.mem hm).1] at q; cases q
  · rcases kts_mem hm with z | z
    · rw [z, kts_self F] at q; cases q
    · exact nm z
  · refine ⟨hideAll_get _ (N q hq).1 fun hm => ?_, (N q hq).2.2, fresh_of_stays K.stays (N q hq).2.2⟩
    rcases kts_mem hm with z | z
    · exact (N q hq).2.1 z
    · obtain ⟨o, ho, _⟩ := (K.frames.mem z).2
      rw [(N q hq).2.2] at ho; cases ho
theorem hidden_none (hn : h.get? e = none) (as : List Addr) : (hideAll h as).get? e = none := by
  cases q : (hideAll h as).get? e with
  | none => rfl
  | some o => rw [of_hideAll _ q] at hn; cases hn
/-- a frame is left by an exception that was made in it -/
theorem leave_exc {Q : Unit → Shared → Prop} {cls : Value} (K : Below A base outer g) (hx : ExcAt h s'.heap e cls t vs) (F : Fr g L h m) (N : News g L h news)
    (hQ : ∀ h', RaisedS base g outer e cls t vs news h' → g.UpToSlots h' → Q () { s' with heap := h' }) (hk : scope.kind = .function := by rfl) :
    wpAny (model prog w) (A.deeper (envOf name scope L a cd)) (leaving (envOf name scope L a cd) (.ref e)) Q E s' := by
  obtain ⟨st, sg, hl, hf, hb⟩ := hide_facts (name := name) (scope := scope) (a := a) (cd := cd) K F N hk
  obtain ⟨ob, fs, he, rfl, hd, h0, h1⟩ := hx.there
  refine wpAny_leaving_firstW (a0 := .ref t) (Around.frames_deeper K.stack) (hf.of_keeps fun b o hb _ => ⟨o, hx.keeps b o hb, rfl⟩) rfl he (fun b o q => hx.keeps b o (hb b o q)) (hidden_none hx.new _) hd h1 h0 fun h' ⟨k1, ⟨_, _, k2⟩, k3, k4⟩ => ?_
  exact hQ h' ⟨⟨_, st, sg, hl, ⟨k1, hidden_none hx.new _, k2, k3⟩, hidden_none hx.tnew _⟩, hx.tup.of_slots k4⟩
    (((Heap.UpToSlots.of_keeps F.keep).trans (Heap.UpToSlots.of_keeps hx.keeps)).trans k4)
/-- the same, of an exception without a context -/
theorem leave_ctx {Q : Unit → Shared → Prop} {cls : String} (K : Below A base outer g) (hx : Heap.MadeExc h s'.heap e cls vs) (F : Fr g L h m) (N : News g L h news)
    (hQ : ∀ h' t, RaisedS base g outer e (.type cls) t vs news h' → ctx2 h' e → g.UpToSlots h' → Q () { s' with heap := h' }) (hk : scope.kind = .function := by rfl) :
    wpAny (model prog w) (A.deeper (envOf name scope L a cd)) (leaving (envOf name scope L a cd) (.ref e)) Q E s' := by
  obtain ⟨st, sg, hl, hf, hb⟩ := hide_facts (name := name) (scope := scope) (a := a) (cd := cd) K F N hk
  obtain ⟨t, he, htn, htt⟩ := hx.there
  unfold leaving
  refine wpAny_bind (note_new2 (a0 := .ref t) (Around.frames_deeper K.stack) (hf.of_keeps fun b o hb _ => ⟨o, hx.keeps b o hb, rfl⟩) rfl he (fun b o q => hx.keeps b o (hb b o q)) (hidden_none hx.new _) rfl rfl rfl rfl fun h₁ hh₁ c₁ u₁ => ?_)
  obtain ⟨f1, f2, f3, f4⟩ := hh₁
  refine flight2 f1 f2 f3 f4 c₁ fun h₂ fl₂ c₂ u₂ => ?_
  obtain ⟨k1, k2, ⟨_, _, k3⟩, k4⟩ := fl₂
  have u := u₁.trans u₂
  exact hQ h₂ t ⟨⟨_, st, sg, hl, ⟨k1, k2, k3, k4⟩, hidden_none htn _⟩, Heap.TupAt.of_slots ⟨_, _, htt, rfl, rfl⟩ u⟩ c₂
    (((Heap.UpToSlots.of_keeps F.keep).trans (Heap.UpToSlots.of_keeps hx.keeps)).trans u)
/-- «except ValueError» lands an exception without a context -/
theorem catch2 {a0 : Value} (hBG : ∀ b o, G.get? b = some o → b ∉ (envOf name scope L a cd :: outer).filterMap (·.frame) → B.get? b = some o) (hl : ∀ q ∈ news, B.get? q.1 = some q.2 ∧ g.get? q.1 = none) (hLB : B.get? L = none)
    (hnote : ∀ {Q' : Unit → Shared → Prop} {E' : Value → Shared → Prop}, (∀ h', Heap.HeldW B (envOf name scope L a cd :: outer) e (.type "ValueError") a0 L h' → ctx2 h' e → s'.heap.UpToSlots h' → Q' () { s' with heap := h' }) → wpAny (model prog w) (A₀.deeper (envOf name scope L a cd)) (noteFrame (.ref e) (envOf name scope L a cd)) Q' E' s')
    (hsm : G.UpToSlots s'.heap) (F : Fr g L G m) (K : Below A₀ base outer g) (XB : KF.In base) (TB : Top p loose mean mg mb base)
    (D : KtsDicts (outer.filterMap (·.frame)) g) (T0 : KtsTurn (outer.filterMap (·.frame)) g₀ g) (ex : nsIn KF mainGlobals "ValueError" = some none)
    (k : ∀ h' g' oe, KtsTurn (outer.filterMap (·.frame)) g₀ g' → Fr g' L h' m → News g' L h' ((e, oe) :: news) → (∃ fs, oe.data = .fields fs ∧ fs[2]? = some .none) → Below A₀ base outer g' → KF.In g' → Top p loose mean mg mb g' → KtsDicts (outer.filterMap (·.frame)) g' →
      wpAny (model prog w) ((A₀.deeper (envOf name scope L a cd)).mark (some (.ref e))) (execs (b₀ :: suite) (envOf name scope L a cd)) Q E { s' with heap := h' })
    (hk : scope.kind = .function := by rfl) (hx : (envOf name scope L a cd).kindOf "ValueError" = some .globalImplicit := by rfl)
    (hE : PassesOwnAt (model prog w) ((A₀.deeper (envOf name scope L a cd)).mark (some (.ref e))) (A₀.deeper (envOf name scope L a cd)) (envOf name scope L a cd) E := by passes_own) :
    wpAny (model prog w) (A₀.deeper (envOf name scope L a cd)) (noteFrame (.ref e) (envOf name scope L a cd))
      (fun _ s₂ => wpAny (model prog w) (A₀.deeper (envOf name scope L a cd)) (setFlight (.ref e) none) (fun _ s₃ =>
        wpAny (model prog w) (A₀.deeper (envOf name scope L a cd)) (handleBy (.ref e) (envOf name scope L a cd) (.ExceptHandler (some (.Name "ValueError" np)) none (b₀ :: suite) pos :: rest)) Q E s₃) E s₂) E s' := by
  refine hnote fun h₄ hheld₄ c₄ hsm₄ => ?_
  obtain ⟨f1, f2, f3, f4⟩ := hheld₄
  refine flight2 f1 f2 f3 f4 c₄ fun h₅ hheld c₅ hsm₅' => ?_
  have hsm₅ := hsm₄.trans hsm₅'
  obtain ⟨g₅, T₅, F₅, K₅⟩ := kts_ground K F hBG hheld.1 (hsm.trans hsm₅)
  have X₅ : KF.In g₅ := XB.keeps K₅.stays
  have P₅ : TopRead p loose mg mb g₅ := topRead_of (TB.keeps K₅.stays)
  obtain ⟨ob, hob, hobc⟩ := hheld.there
  refine wpAny_handleBy_builtin (X := "ValueError") (T := "ValueError") (b := true) PySem.F.isExc_ValueError PySem.F.notTuple_ValueError (by rw [isSubtype_type]; kernel_rfl)
    (name_B F₅ X₅ P₅ ex PyProof.Rows.Boot.«ValueError» (by decide) ⟨rfl, ⟨ob, hob, hobc⟩, ?_⟩ hk hx (by decide))
  obtain ⟨d1, d2, d3, d4⟩ := hheld
  refine flight2 d1 d2 d3 d4.at c₅ fun h₆ hfl₆ c₆ hsm₆ => ?_
  obtain ⟨g₆, T₆, F₆, K₆⟩ := kts_ground K F hBG hfl₆.1 ((hsm.trans hsm₅).trans hsm₆)
  obtain ⟨oe, fs, hoe, hoed, hoe2⟩ := c₆
  have ne₆ : g₆.get? e = none := T₆.none_ _ (kts_fresh F hBG hfl₆.2.1 fun o ho mm => by
    obtain ⟨_, o', ho', hd⟩ := K.frames.mem mm
    rw [ho] at ho'
    cases ho'
    obtain ⟨sl, hs⟩ := ((hsm.trans hsm₅).trans hsm₆) _ _ (F.keep _ _ ho) hd
    rw [hoe] at hs
    cases hs
    exact hd _ hoed)
  have Nl : News g₆ L h₆ news := fun q hq => ⟨hfl₆.1 _ _ (hl q hq).1, (fun z => by have := (hl q hq).1; rw [z, hLB] at this; cases this), T₆.none_ _ (hl q hq).2⟩
  have N₆ := News.more F₆ Nl hoe (fun es n q => by rw [hoed] at q; cases q) ne₆
  exact wpAny_passesOwnAt hE (k h₆ g₆ oe (T0.trans T₆) F₆ N₆ ⟨fs, hoed, hoe2⟩ K₆ (XB.keeps K₆.stays) (TB.keeps K₆.stays) (D.turn T₆))
/-- of an exception that was made in this very frame -/
theorem catch_new (hm : Heap.NewExc G s'.heap e "ValueError") (F : Fr g L G m) (N : News g L G news) (K : Below A₀ base outer g) (XB : KF.In base) (TB : Top p loose mean mg mb base)
    (D : KtsDicts (outer.filterMap (·.frame)) g) (T0 : KtsTurn (outer.filterMap (·.frame)) g₀ g) (ex : nsIn KF mainGlobals "ValueError" = some none)
    (k : ∀ h' g' oe, KtsTurn (outer.filterMap (·.frame)) g₀ g' → Fr g' L h' m → News g' L h' ((e, oe) :: news) → (∃ fs, oe.data = .fields fs ∧ fs[2]? = some .none) → Below A₀ base outer g' → KF.In g' → Top p loose mean mg mb g' → KtsDicts (outer.filterMap (·.frame)) g' →
      wpAny (model prog w) ((A₀.deeper (envOf name scope L a cd)).mark (some (.ref e))) (execs (b₀ :: suite) (envOf name scope L a cd)) Q E { s' with heap := h' })
    (hk : scope.kind = .function := by rfl) (hx : (envOf name scope L a cd).kindOf "ValueError" = some .globalImplicit := by rfl)
    (hE : PassesOwnAt (model prog w) ((A₀.deeper (envOf name scope L a cd)).mark (some (.ref e))) (A₀.deeper (envOf name scope L a cd)) (envOf name scope L a cd) E := by passes_own) :
    wpAny (model prog w) (A₀.deeper (envOf name scope L a cd)) (noteFrame (.ref e) (envOf name scope L a cd))
      (fun _ s₂ => wpAny (model prog w) (A₀.deeper (envOf name scope L a cd)) (setFlight (.ref e) none) (fun _ s₃ =>
        wpAny (model prog w) (A₀.deeper (envOf name scope L a cd)) (handleBy (.ref e) (envOf name scope L a cd) (.ExceptHandler (some (.Name "ValueError" np)) none (b₀ :: suite) pos :: rest)) Q E s₃) E s₂) E s' := by
  obtain ⟨st, sg, hl, hf, hb⟩ := hide_facts (name := name) (scope := scope) (a := a) (cd := cd) K F N hk
  obtain ⟨ob, t, he, hcls, hd⟩ := hm.there
  exact catch2 (a0 := t) (B := hideAll G ((envOf name scope L a cd :: outer).filterMap (·.frame))) (G := G) (fun b o q nm => hideAll_get _ q nm) (fun q hq => ⟨(hl q hq).1, (hl q hq).2.1⟩) (hideAll_none _ (List.mem_filterMap.mpr ⟨_, .head _, rfl⟩))
    (fun hq => note_new2 (a0 := t) (Around.frames_deeper K.stack) (hf.of_keeps fun b o hb _ => ⟨o, hm.keeps b o hb, rfl⟩) rfl he (fun b o q => hm.keeps b o (hb b o q)) (hidden_none hm.new _) hd rfl rfl rfl (by rw [hcls]; exact hq))
    (Heap.UpToSlots.of_keeps hm.keeps) F K XB TB D T0 ex k hk hx hE
/-- of an exception that came out of a deeper frame -/
theorem catch_on (R : RaisedS base G (envOf name scope L a cd :: outer) e (.type "ValueError") t vs news s'.heap) (hc : ctx2 s'.heap e) (F : Fr g L G m) (hsm : G.UpToSlots s'.heap) (K : Below A₀ base outer g) (XB : KF.In base) (TB : Top p loose mean mg mb base)
    (D : KtsDicts (outer.filterMap (·.frame)) g) (T0 : KtsTurn (outer.filterMap (·.frame)) g₀ g) (ex : nsIn KF mainGlobals "ValueError" = some none)
    (k : ∀ h' g' oe, KtsTurn (outer.filterMap (·.frame)) g₀ g' → Fr g' L h' m → News g' L h' ((e, oe) :: news) → (∃ fs, oe.data = .fields fs ∧ fs[2]? = some .none) → Below A₀ base outer g' → KF.In g' → Top p loose mean mg mb g' → KtsDicts (outer.filterMap (·.frame)) g' →
      wpAny (model prog w) ((A₀.deeper (envOf name scope L a cd)).mark (some (.ref e))) (execs (b₀ :: suite) (envOf name scope L a cd)) Q E { s' with heap := h' })
    (hk : scope.kind = .function := by rfl) (hx : (envOf name scope L a cd).kindOf "ValueError" = some .globalImplicit := by rfl)
    (hE : PassesOwnAt (model prog w) ((A₀.deeper (envOf name scope L a cd)).mark (some (.ref e))) (A₀.deeper (envOf name scope L a cd)) (envOf name scope L a cd) E := by passes_own) :
    wpAny (model prog w) (A₀.deeper (envOf name scope L a cd)) (noteFrame (.ref e) (envOf name scope L a cd))
      (fun _ s₂ => wpAny (model prog w) (A₀.deeper (envOf name scope L a cd)) (setFlight (.ref e) none) (fun _ s₃ =>
        wpAny (model prog w) (A₀.deeper (envOf name scope L a cd)) (handleBy (.ref e) (envOf name scope L a cd) (.ExceptHandler (some (.Name "ValueError" np)) none (b₀ :: suite) pos :: rest)) Q E s₃) E s₂) E s' := by
  obtain ⟨⟨B, hB, hBG, hl, hfl, hnew⟩, htup⟩ := R
  have hL : B.get? L = none := by
    obtain ⟨_, ⟨L', _, hf, hn', _⟩, _⟩ := hfl.2.2.1
    obtain rfl : L = L' := Option.some.inj hf
    exact hn'
  exact catch2 (a0 := .ref t) (B := B) (G := G) hBG (fun q hq => ⟨(hl q hq).1, kts_none F.keep (hl q hq).2.1⟩) hL (fun hq => note_on2 (Around.frames_deeper K.stack) rfl hfl hc hq) hsm F K XB TB D T0 ex k hk hx hE
/-- the caller's ground, turned as the callee's -/
theorem turn_back {h₀ g' g7 : Heap} {cn : Str} {cs : Scope} {ccd : Value} (B : Below A₀ base outer h₀) (FG : Fr h₀ L g' m) (T : KtsTurn ((envOf cn cs L a ccd :: outer).filterMap (·.frame)) g' g7) (D : KtsDicts (outer.filterMap (·.frame)) h₀)
    (XB : KF.In base) (TB : Top p loose mean mg mb base) (T0 : KtsTurn (outer.filterMap (·.frame)) g₀ h₀) :
    ∃ h₁, KtsTurn (outer.filterMap (·.frame)) g₀ h₁ ∧ Fr h₁ L g7 m ∧ Below A₀ base outer h₁ ∧ KF.In h₁ ∧ Top p loose mean mg mb h₁ ∧ KtsDicts (outer.filterMap (·.frame)) h₁ := by
  have nL₀ : h₀.get? L = none := kts_self FG
  obtain ⟨T₁, S₁⟩ := kts_turn_at (h := g7) (fs := outer.filterMap (·.frame)) (g := h₀)
    (fun b hb => let ⟨_, o, ho', _⟩ := B.frames.mem hb; ⟨o, ho'⟩)
    (fun b o e nm => T.other b o (FG.keep b o e) (fun hm => by
      rcases kts_mem hm with z | z
      · rw [z, nL₀] at e; cases e
      · exact nm z))
    (fun b o e _ => T.up (FG.keep b o e))
  have B₃ : Below A₀ base outer (ktsHeap g7 (outer.filterMap (·.frame)) h₀) := ⟨B.stack, fun b o e => T₁.other b o (B.stays b o e) (fun hm => by
    rw [(B.frames.mem hm).1] at e; cases e), B.frames.of_keeps fun b o e _ => let ⟨_, hs'⟩ := T₁.up e; ⟨_, hs', rfl⟩⟩
  have hu : g'.UpToSlots g7 := fun b o e _ => T.up e
  exact ⟨_, T0.trans T₁, ⟨hu.ns FG.ns, S₁, by rw [T₁.size]; exact FG.above⟩, B₃, XB.keeps B₃.stays, TB.keeps B₃.stays, D.turn T₁⟩
/-- the context of the exception that is handled -/
theorem ctx_news {h₀ h : Heap} {e : Addr} {oe : Obj} (N : News h₀ L h news) (hm : (e, oe) ∈ news) (hc : ∃ fs, oe.data = .fields fs ∧ fs[2]? = some .none) : ctx2 h e :=
  let ⟨fs, hd, h2⟩ := hc; ⟨oe, fs, (N _ hm).1, hd, h2⟩
end
end Mine
end
section
set_option maxRecDepth 100000
namespace Mine
open PySem PySem.NumText PyProof.Rows PyProof Builtin Builtin.Str
theorem lst_item {x : PySem.Str} {i : Int} {c : Nat} (h0 : 0 ≤ i) (h : (lst x)[i.toNat]? = some c) : Txt.item x i = st [c] := item_meets h0 (by simpa [lst] using h)
theorem lst_mul0 (c : Nat) (n : Int) : lst (Txt.mul ⟨#[c]⟩ n) = List.replicate n.toNat c := mul_one_list c n
theorem idx_hi (l : Option Int) {j : Int} (len : Nat) (h : (len : Int) ≤ j) : strSliceIndices l (some j) 1 len = strSliceIndices l (some (len : Int)) 1 len := by
  have a : ¬ j < 0 := by omega
  have b : ¬ (len : Int) < 0 := by omega
  simp [strSliceIndices, a, b, Int.min_eq_right h]
theorem idx_lo (u : Option Int) {j : Int} (len : Nat) (h : (len : Int) ≤ j) : strSliceIndices (some j) u 1 len = strSliceIndices (some (len : Int)) u 1 len := by
  have a : ¬ j < 0 := by omega
  have b : ¬ (len : Int) < 0 := by omega
  simp [strSliceIndices, a, b, Int.min_eq_right h]
theorem lst_take (x : PySem.Str) {j : Int} (h : 0 ≤ j) : lst (Txt.slice x none (some j)) = (lst x).take j.toNat := by
  by_cases hj : j ≤ x.cps.toList.length
  · have e : Txt.slice x none (some j) = _ := StrLaws.sliceText_to ⟨h, hj⟩
    rw [e]; simp [lst]
  · have e : Txt.slice x none (some j) = Txt.slice x none (some (x.length : Int)) := by
      unfold Txt.slice
      rw [idx_hi none x.length (by show (x.cps.size : Int) ≤ j; rw [Array.length_toList] at hj; omega)]
    have e2 : Txt.slice x none (some (x.length : Int)) = _ := StrLaws.sliceText_to (x := x) (j := (x.length : Int)) ⟨by omega, by show (x.cps.size : Int) ≤ _; simp⟩
    rw [e, e2]
    show ((x.cps.toList.drop 0).take ((x.cps.size : Int) - 0).toNat).toArray.toList = (lst x).take j.toNat
    have h1 : ((x.cps.size : Int) - 0).toNat = x.cps.toList.length := by simp
    rw [h1, List.drop_zero, List.take_length]
    show x.cps.toList = _
    rw [List.take_of_length_le]
    show x.cps.toList.length ≤ _
    omega
theorem lst_drop (x : PySem.Str) {j : Int} (h : 0 ≤ j) : lst (Txt.slice x (some j) none) = (lst x).drop j.toNat := by
  by_cases hj : j ≤ x.cps.toList.length
  · have e : Txt.slice x (some j) none = _ := StrLaws.sliceText_from ⟨h, hj⟩
    rw [e]
    show (List.take ((x.cps.toList.length : Int) - j).toNat (List.drop j.toNat (lst x))) = _
    rw [List.take_of_length_le]
    rw [List.length_drop]
    show x.cps.toList.length - j.toNat ≤ _
    omega
  · have e : Txt.slice x (some j) none = Txt.slice x (some (x.length : Int)) none := by
      unfold Txt.slice
      rw [idx_lo none x.length (by show (x.cps.size : Int) ≤ j; rw [Array.length_toList] at hj; omega)]
    have e2 : Txt.slice x (some (x.length : Int)) none = _ := StrLaws.sliceText_from (x := x) (i := (x.length : Int)) ⟨by omega, by show (x.cps.size : Int) ≤ _; simp⟩
    rw [e, e2]
    have h1 : ((x.length : Int)).toNat = x.cps.toList.length := by show ((x.cps.size : Int)).toNat = _; simp
    show List.take _ (List.drop _ (lst x)) = _
    rw [h1, List.drop_of_length_le (Nat.le_refl _), List.drop_of_length_le (by show x.cps.toList.length ≤ _; omega)]
    simp
end Mine
end
section
set_option maxRecDepth 100000
namespace Mine
open PySem PySem.W PySem.NumText PyProof.Rows PyProof Builtin Builtin.Str
theorem raised_sub {base G : Heap} {l : List Env} {e : Addr} {cls : Value} {t : Addr} {vs : List Value} {n1 n2 : List (Addr × Obj)} {h : Heap} (R : RaisedS base G l e cls t vs n1 h) (k : ∀ q ∈ n2, q ∈ n1) : RaisedS base G l e cls t vs n2 h := by
  obtain ⟨⟨B, a, b, c, d⟩, f⟩ := R
  exact ⟨⟨B, a, b, fun q hq => c q (k q hq), d⟩, f⟩
theorem isascii_lst (x : PySem.Str) : Txt.isascii x = (lst x).all (· < 128) := by
  show x.cps.all (· < 128) = _
  rw [← Array.all_toList]
theorem edgy_a {x : PySem.Str} (h : Txt.isascii x = false) : edgy (lst x) = true := by
  rw [isascii_lst] at h
  unfold edgy
  rw [h]; rfl
theorem edgy_b {x : PySem.Str} (h : (x != Txt.strip x) = true) : edgy (lst x) = true := by
  unfold edgy
  rw [st_lst, h]; simp
theorem head_in (x : PySem.Str) : ([PySem.Str.ofString "+", PySem.Str.ofString "-"].any fun z => z == Txt.slice x none (some 1)) = ((lst x).head? == some 43 || (lst x).head? == some 45) := by
  have e : Txt.slice x none (some 1) = st ((lst x).take 1) := lst_inj (lst_take x (by decide))
  rw [e]
  have key : ∀ (T : List Nat) (c : Nat), (st [c] == st (T.take 1)) = (T.head? == some c) := by
    intro T c
    cases T with
    | nil =>
      rw [List.take_nil, show (st [c] == st []) = false from beq_eq_false_iff_ne.mpr fun q => by have := st_inj q; cases this]
      rfl
    | cons d T =>
      show (st [c] == st [d]) = (some d == some c)
      by_cases hcd : d = c
      · subst hcd; simp
      · rw [beq_eq_false_iff_ne.mpr fun q => hcd (by have := st_inj q; simp at this; exact this.symm), beq_eq_false_iff_ne.mpr fun q => hcd (by simpa using q)]
  show (st [43] == _ || (st [45] == _ || false)) = _
  rw [key, key, Bool.or_false]
theorem edgy_c {x : PySem.Str} (h : ([PySem.Str.ofString "+", PySem.Str.ofString "-"].any fun z => z == Txt.slice x none (some 1)) = true) : edgy (lst x) = true := by
  rw [head_in] at h
  unfold edgy
  rw [h]; simp
theorem edgy_n {x : PySem.Str} (h1 : Txt.isascii x = true) (h2 : (x != Txt.strip x) = false) (h3 : ([PySem.Str.ofString "+", PySem.Str.ofString "-"].any fun z => z == Txt.slice x none (some 1)) = false) : edgy (lst x) = false := by
  rw [isascii_lst] at h1
  rw [head_in] at h3
  unfold edgy
  rw [st_lst, h1, h2, h3]; rfl
theorem empty_app (x : PySem.Str) : PySem.Str.empty ++ x = x := lst_inj (by rw [lst_app]; rfl)
theorem rn_edge {x : PySem.Str} {k : Nat} (h : edgy (lst x) = true) : rn (lst x) k = .error (PySem.Str.empty ++ PySem.Str.ofString "not a number: " ++ reprText x) := by
  unfold rn
  rw [h, if_pos rfl, empty_app, st_lst]; rfl
theorem rn_bad {x : PySem.Str} {k : Nat} (h : edgy (lst x) = false) (hr : (if (lst x).length > 8192 then none else readC (lst x)) = none) :
    rn (lst x) k = .error (PySem.Str.empty ++ PySem.Str.ofString "not a number: " ++ reprText (Txt.slice x none (some 40))) := by
  unfold rn
  rw [h, if_neg Bool.false_ne_true, hr, empty_app, show Txt.slice x none (some 40) = st ((lst x).take 40) from lst_inj (lst_take x (by decide))]; rfl
theorem rn_ok {x : PySem.Str} {k n : Nat} (h : edgy (lst x) = false) (hr : (if (lst x).length > 8192 then none else readC (lst x)) = some n) (hn : n < 2 ^ k) : rn (lst x) k = .ok n := by
  unfold rn
  rw [h, if_neg Bool.false_ne_true, hr]
  exact if_pos hn
theorem rn_big {x : PySem.Str} {k n : Nat} (h : edgy (lst x) = false) (hr : (if (lst x).length > 8192 then none else readC (lst x)) = some n) (hn : ¬ n < 2 ^ k) :
    rn (lst x) k = .error (PySem.Str.ofString "needs more than " ++ PySem.Str.ofString (toString (k : Int)) ++ PySem.Str.ofString " bits: " ++ Txt.slice x none (some 40)) := by
  unfold rn
  rw [h, if_neg Bool.false_ne_true, hr, show Txt.slice x none (some 40) = st ((lst x).take 40) from lst_inj (lst_take x (by decide))]
  exact if_neg hn
theorem fine_ok {T : List Nat} (f : Fine T) (h : edgy T = false) : (∀ c ∈ T, okc c = true) ∧ ((based 0 T).1 = 10 → T.length ≤ 640) := by
  rcases f with f | f
  · rw [h] at f; cases f
  · exact f
theorem lower_bin {x : PySem.Str} (h : ∀ c ∈ lst x, okc c = true) : (Txt.lower (Txt.slice x none (some 2)) == PySem.Str.ofString "0b") = decide ((lst x).take 2 = [48, 98] ∨ (lst x).take 2 = [48, 66]) := by
  rw [show Txt.slice x none (some 2) = st ((lst x).take 2) from lst_inj (lst_take x (by decide))]
  exact lower_0b fun c hc => okc_lt (h c hc)
end Mine
end
section
set_option maxRecDepth 100000
namespace Mine
open PySem PySem.W PySem.NumText PyProof.Rows PyProof Builtin Builtin.Str
theorem has_abc : ∀ c, c < 128 → Txt.contains (PySem.Str.ofString "abcdefgh") (st [c]) = decide (97 ≤ c ∧ c ≤ 104) := by decide +kernel
theorem has_num : ∀ c, c < 128 → Txt.contains (PySem.Str.ofString "12345678") (st [c]) = decide (49 ≤ c ∧ c ≤ 56) := by decide +kernel
theorem has_num3 : Txt.contains (PySem.Str.ofString "12345678") (st [1635]) = false := by decide +kernel
theorem has_abc3 : Txt.contains (PySem.Str.ofString "abcdefgh") (Txt.lower (st [1635])) = false := by decide +kernel
theorem idx_num : ∀ d, d < 57 → 49 ≤ d → occurrences (PySem.Str.ofString "12345678") (st [d]) 0 (PySem.Str.ofString "12345678").length 1 = [d - 49] := by decide +kernel
theorem idx_abc : ∀ c, c < 105 → 97 ≤ c → occurrences (PySem.Str.ofString "abcdefgh") (st [c]) 0 (PySem.Str.ofString "abcdefgh").length 1 = [c - 97] := by decide +kernel
theorem lower1 {c : Nat} (h : c < 128) : Txt.lower (st [c]) = st [low1 c] := by
  rw [lower_ascii (T := [c]) (by simpa using h)]; rfl
theorem low1_lt {c : Nat} (h : c < 128) : low1 c < 128 := by unfold low1; split <;> omega
/-- the test of read_square, as the walk sees it -/
def sqT (x : PySem.Str) : Bool := decide ((x.length : Int) = 2) && Txt.contains (PySem.Str.ofString "abcdefgh") (Txt.lower (Txt.item x 0)) && Txt.contains (PySem.Str.ofString "12345678") (Txt.item x 1)
theorem small_or {c : Nat} (h : okc c = true ∨ c ∈ ([32, 43, 45, 1635] : List Nat)) : c < 128 ∨ c = 1635 := by
  rcases h with h | h
  · exact .inl (okc_lt h)
  · simp at h; omega
theorem abc_is {c : Nat} (h : c < 128 ∨ c = 1635) : Txt.contains (PySem.Str.ofString "abcdefgh") (Txt.lower (st [c])) = decide (97 ≤ low1 c ∧ low1 c ≤ 104) := by
  rcases h with h | h
  · rw [lower1 h]; exact has_abc _ (low1_lt h)
  · subst h; rw [has_abc3]; rfl
theorem num_is {c : Nat} (h : c < 128 ∨ c = 1635) : Txt.contains (PySem.Str.ofString "12345678") (st [c]) = decide (49 ≤ c ∧ c ≤ 56) := by
  rcases h with h | h
  · exact has_num _ h
  · subst h; rw [has_num3]; rfl
theorem two_of {x : PySem.Str} (h : (x.length : Int) = 2) : ∃ c d, lst x = [c, d] ∧ Txt.item x 0 = st [c] ∧ Txt.item x 1 = st [d] := by
  have hl : (lst x).length = 2 := by show x.cps.toList.length = 2; have : x.cps.size = 2 := by { have : (x.cps.size : Int) = 2 := h; omega }; rw [Array.length_toList]; exact this
  match hx : lst x, hl with
  | [c, d], _ => exact ⟨c, d, rfl, lst_item (by decide) (by rw [hx]; rfl), lst_item (by decide) (by rw [hx]; rfl)⟩
theorem sqT_eq {x : PySem.Str} (hok : ∀ c ∈ lst x, okc c = true ∨ c ∈ ([32, 43, 45, 1635] : List Nat)) : sqT x = (sqName (lst x)).isSome := by
  unfold sqT
  by_cases h2 : (x.length : Int) = 2
  · obtain ⟨c, d, hx, h0, h1⟩ := two_of h2
    rw [decide_eq_true h2, Bool.true_and, h0, h1, abc_is (small_or (hok c (by rw [hx]; simp))), num_is (small_or (hok d (by rw [hx]; simp))), hx]
    unfold sqName
    by_cases a : (97 ≤ low1 c ∧ low1 c ≤ 104) ∧ (49 ≤ d ∧ d ≤ 56)
    · simp [a.1, a.2]
    · dsimp only
      rw [if_neg a]
      by_cases b1 : 97 ≤ low1 c ∧ low1 c ≤ 104
      · have : ¬ (49 ≤ d ∧ d ≤ 56) := fun b2 => a ⟨b1, b2⟩
        rw [decide_eq_false this, Bool.and_false]; rfl
      · rw [decide_eq_false b1, Bool.false_and]; rfl
  · rw [decide_eq_false h2, Bool.false_and, Bool.false_and]
    have hl : ∀ c d, lst x ≠ [c, d] := fun c d q => h2 (by
      have := congrArg List.length q
      have h3 : (lst x).length = x.length := rfl
      rw [h3] at this
      simp at this
      omega)
    unfold sqName
    split
    · rename_i c d q; exact absurd q (hl c d)
    · rfl
theorem rs_name {x : PySem.Str} {n : Nat} (h : sqName (lst x) = some n) : rs (lst x) = .ok n := by unfold rs; rw [h]
theorem rs_ok {x : PySem.Str} {n : Nat} (h : sqName (lst x) = none) (hr : rn (lst x) 64 = .ok n) (hn : ¬ n > 63) : rs (lst x) = .ok n := by
  unfold rs; rw [h]; dsimp only; rw [hr]; exact if_neg hn
theorem rs_big {x : PySem.Str} {n : Nat} (h : sqName (lst x) = none) (hr : rn (lst x) 64 = .ok n) (hn : n > 63) : rs (lst x) = .error (PySem.Str.ofString "not a square (a1..h8 or 0..63): " ++ reprText (Txt.slice x none (some 40))) := by
  unfold rs; rw [h]; dsimp only; rw [hr, show Txt.slice x none (some 40) = st ((lst x).take 40) from lst_inj (lst_take x (by decide))]; exact if_pos hn
theorem rs_bad {x : PySem.Str} {m : PySem.Str} (h : sqName (lst x) = none) (hr : rn (lst x) 64 = .error m) : rs (lst x) = .error (PySem.Str.ofString "not a square (a1..h8 or 0..63): " ++ reprText (Txt.slice x none (some 40))) := by
  unfold rs; rw [h]; dsimp only; rw [hr, show Txt.slice x none (some 40) = st ((lst x).take 40) from lst_inj (lst_take x (by decide))]; rfl
end Mine
end
section
set_option maxRecDepth 100000
namespace Mine
open PySem PySem.W PySem.Calls PyProof.Rows
/-- what runs under the claim's caller ends as wpP says -/
theorem ends_P {prog : Program} {w : World} {t : Sem Fin} {s : Shared} {R : Result → Shared → Prop} (hreg : s.asleep)
    (h : wpP (model prog w) callerA t (fun fin s' => ∃ f, fin = .done f ∧ (R (.ok f) s' ∧ leftWithCleanup s'.gens = false)) (fun e s' => R (.error e) s' ∧ leftWithCleanup s'.gens = false) s) :
    ∃ n r s' s'', runN (denote table) prog w n s ⟨t, .builtin "claim.caller" {}, default, []⟩ = .halted (outcomeOf r) s' ∧
      schedN (denote table) prog w n (.single s ⟨t, .builtin "claim.caller" {}, default, []⟩) = .halted (outcomeOf r) s' ∧ s'.forget = s''.forget ∧ R r s'' := by
  have hw : Sem.wp (model prog w) ⟨.builtin "claim.caller" {}, none, none, [], none⟩ t
      (Sem.finPost (model prog w) ⟨.builtin "claim.caller" {}, none, none, [], none⟩ fun r s' => R r s' ∧ leftWithCleanup s'.gens = false)
      (fun e _ s' => R (.error e) s' ∧ leftWithCleanup s'.gens = false) default s := by
    refine Sem.wp_mono _ _ t (fun fin p' s' h' => ?_) (fun _ _ _ h' => h') _ s (h _ default caller_in (.inl rfl))
    obtain ⟨f, rfl, hf⟩ := h'
    exact hf
  obtain ⟨n, r, s₁, s₂, hs, hn, hfo, hR⟩ := wp_halts_full (M := model prog w) (R := R) hreg hw
  exact ⟨n, r, s₂, s₁, hn, hs, hfo, hR⟩
/-- a call under the claim's caller, from a spec in wpP -/
theorem call_P {c : ClaimW} {tree : List Value → Sem Fin} {w : World} {s : Shared} {free : Addr → Prop} {gens : Prop} {kept : Heap → Prop} (hz : s.asleep) (hgens : s.gens = #[])
    (hspec : ∀ args, c.pre args = true → WData.layableAll args = true → ∀ ord : List DictEntry → List DictEntry, (∀ l, (ord l).Perm l) →
      ∃ vs s₁, layAllW c.records (classAt s.heap) w.params ord args s = some (vs, s₁) ∧
        wpP (model c.prog w) callerA (tree vs) (fun fin s' => ∃ f, fin = .done f ∧ (c.Ends s args vs s₁ (.ok f) s' ∧ s'.os = s.os ∧ AllBare s'.gens ∧ kept s'.heap))
          (fun e s' => c.Ends s args vs s₁ (.error e) s' ∧ s'.os = s.os ∧ AllBare s'.gens ∧ kept s'.heap) s₁) :
    c.CallFrom (fun vs => ⟨tree vs, .builtin "claim.caller" {}, default, []⟩) w free gens kept s := by
  intro args hpre hlay ord hord
  refine Classical.byContradiction fun hG => ?_
  obtain ⟨vs, s₁, hlaid, hcode⟩ := hspec args hpre hlay ord hord
  obtain ⟨hal1, _, _, hal4⟩ := layAllW_rest _ _ _ hlaid
  obtain ⟨k, r, s', s'', hrun, hsched, hfo, hcase, hos, hkp⟩ := ends_P (prog := c.prog) (w := w) (t := tree vs) (s := s₁)
    (R := fun r s' => c.Ends s args vs s₁ r s' ∧ s'.os = s.os ∧ kept s'.heap) (Shared.asleep_of_life hal4 hz)
    (wpP_mono hcode (fun _ _ ⟨f, e, h1, h2, h3, h4⟩ => ⟨f, e, ⟨h1, h2, h4⟩, leftWithCleanup_false_of_bare h3⟩)
      fun _ _ ⟨h1, h2, h3, h4⟩ => ⟨⟨h1, h2, h4⟩, leftWithCleanup_false_of_bare h3⟩)
  obtain ⟨eh, _, _, eo, _⟩ := Shared.forget_eq hfo
  have hcase := hcase.congr eh
  rw [← eh] at hkp
  rw [← eo] at hos
  have hlife : s'.heap.life = s.heap.life := (runN_life _ _ _ hrun).trans hal4
  refine hG ?_
  refine ⟨vs, s₁, hlaid, k, _, s', hsched, ?_, (fun _ i x hx => by rw [hgens] at hx; simp at hx), hkp, by rw [hlife], Shared.rest_eq hos⟩
  rcases hcase with ⟨v, rfl, d1, d2, d3, d4, d5⟩ | ⟨e, ob, cls, rfl, d1, d2, d3, d4, d5⟩
  · exact .inl ⟨v, rfl, d1, d2, d3, fun b o y _ => d4 b o y, d5⟩
  · exact .inr ⟨e, ob, cls, rfl, d1, d2, d3, d4, fun b o y _ => d5 b o y⟩
/-- the walk that is asked: wpP in place of wpAny -/
abbrev WalkP (q : Program) (loose : List Str) (XP : (Str → Option Value) → Heap → Prop) (YP : World → Heap → Prop) (r : RowW) (d : DefRec) (kwd : List (Str × PySem.Expr)) : Prop :=
  ∀ (w : World) (s₀ s₁ : Shared) (mg mb : Str → Option Value), Ground q loose r.records XP w s₀ mg mb s₁.heap → YP w s₁.heap → ∀ (a : Addr) (o : Obj) (pm cd doc dV kV : Value), s₁.heap.get? a = some o →
    o.data = .func { docDef d.name d.params d.body d.scope pm cd doc with defaults := dV, kwdefaults := kV } → s₁.heap.CodeRec cd d.name → Dflts mg s₁.heap d.params kwd dV kV → mg d.name = some (.ref a) → s₁.gens = #[] →
    ∀ (args : List WData) (vals : List Value) (as : List Addr), r.claim.pre args = true → WData.layableAll args = true → ReadsAllW r.records (classAt s₀.heap) s₁.heap vals args as → WellAll w.params s₁.heap vals args → (∀ a ∈ as, (a == sysModules) = false) →
      codeP (model r.prog w) callerA (.call (.ref a) ⟨vals, []⟩) (GoodW r.claim (classAt s₀.heap) (ExcName.means s₀.heap) args s₁) s₁
/-- the law's own def is entered -/
theorem call_fullP {prog : Program} {w : World} {A : Around} {R : Result → Shared → Prop} {s : Shared} {name : Str} {params : Arguments} {body : List Stmt} {scope : Scope}
    {dV kV pm cd doc : Value} {a : Addr} {o : Obj} {args : Args} {binds : List (Str × Value)}
    (hroom : A.depth < recursionLimit) (ho : s.heap.get? a = some o) (hdata : o.data = .func { docDef name params body scope pm cd doc with defaults := dV, kwdefaults := kV }) (hlim : s.heap.NoLimit) (hcd : s.heap.CodeRec cd name)
    (hbind : BindsTo s { docDef name params body scope pm cd doc with defaults := dV, kwdefaults := kV } args binds) (hloc : ∀ x ∈ binds, scope.names.lookup x.1 = some .local)
    (h : ∀ h₁, Fr s.heap s.heap.objs.size h₁ (fun x => binds.reverse.lookup x) →
      wpP (model prog w) (A.deeper (envOf name scope s.heap.objs.size a cd)) (execs body (envOf name scope s.heap.objs.size a cd))
        (fun f s' => R (.ok (.ret (match f with | .ret v => v | _ => .none))) s')
        (fun e s' => wpAny (model prog w) (A.deeper (envOf name scope s.heap.objs.size a cd)) (leaving (envOf name scope s.heap.objs.size a cd) e)
          (fun _ s'' => R (.error e) s'') (fun e' s'' => R (.error e') s'') s')
        { s with heap := h₁, toks := s.toks + binds.length })
    (hco : scope.isCoroutine = false := by rfl) (hgen : scope.isGenerator = false := by rfl) (hk : scope.kind = .function := by rfl)
    (hcell : ∀ x ∈ scope.names, x.2 ≠ .cell := by decide) : codeP (model prog w) A (.call (.ref a) args) R s :=
  codeP_call_def hroom ho hdata hlim hcd rfl hbind hcell hloc (fun h₁ hns hkeep => h h₁ ⟨hns, hkeep, Nat.le_refl _⟩) hco hgen hk
end Mine
namespace Mine.PySem.W
open _root_.PySem _root_.PySem.W _root_.PySem.Calls PyProof.Rows
theorem holds_open {r : OpenRow} {q : Program} {loose : List Str} {Xt : Shared → Bool} {XP : (Str → Option Value) → Heap → Prop} {α : Type} {Yf : Shared → α} {Ya : World → α} {YP : World → Heap → Prop} {d : DefRec} {kwd : List (Str × Expr)} {N : Nat}
    (left : LeftO r.prog q loose Xt Yf Ya N) (hY : ∀ w s, Yf s = Ya w → YP w s.heap) (hYk : ∀ w h h', YP w h → (∀ b o, h.get? b = some o → h'.get? b = some o) → YP w h')
    (hX : ∀ s, Xt s = true → XP (s.heap.nsMap mainGlobals) s.heap) (hXk : ∀ mg h h', XP mg h → (∀ b o, h.get? b = some o → h'.get? b = some o) → XP mg h')
    (hdef : defOf q r.name = some (d, kwd)) (hp : r.prog.theDef r.name = some (d.params, d.body, d.scope)) (hk : kwWritten? d.params.kwonlyargs d.params.kw_defaults = some kwd) (hRf : ∀ s, Xt s = true → RecFacts r.records s.heap) (hwr : (!r.writes || r.records.isEmpty) = true)
    (k1 : r.wellSaid = true) (ok : (chainsOk q && opensWell r.prog && (frees r.toRowW && r.within.isEmpty)) = true) (hb : r.prog.bare) (hw : r.toRowW.promised)
    (call : WalkP q loose XP YP r.toRowW d kwd) : r.Holds := by
  refine Classical.byContradiction fun hG => ?_
  simp only [Bool.and_eq_true] at ok
  obtain ⟨⟨hch, o1⟩, k5, k6⟩ := ok
  obtain ⟨hsame, hu, ha, hap, hm⟩ := frees_parts k5
  refine hG ?_
  refine ⟨k1, hw, ⟨hb, o1, by show r.makers.map _ = []; rw [hm]; rfl⟩, hw.witness, fun w => ⟨(left.behind hX hch w).1, fun s' hs' => ?_⟩⟩
  refine Classical.byContradiction fun hG => ?_
  obtain ⟨s₀, hf, hg0, s, hT, hz, hgens, hg, G00, y⟩ := (left.behind (XP := fun mg h => XP mg h ∧ RecFacts r.records h) (fun s hs => ⟨hX s hs, hRf s hs⟩) hch w).2 s' hs'
  have G0 : Ground q loose [] XP w s (s.heap.nsMap mainGlobals) (s.heap.nsMap builtinsNs) s.heap := ⟨G00.T, G00.B, G00.D, G00.TE, G00.TD, G00.W, G00.X.1, G00.cls, G00.has, G00.apart, G00.once, G00.K⟩
  have RF := G00.X.2
  refine hG ?_
  refine ⟨s₀, hf, hg0, s, hT, fun n hn => ?_, RF.1, RF.2.1, ?_⟩
  · obtain rfl : n = r.name := by split at hn <;> simp_all
    exact pinned_of_view hg G0 hdef hp hk
  have hgens : s.gens = #[] := Array.eq_empty_of_size_eq_zero (beq_iff_eq.mp hgens)
  have G : Ground q loose r.records XP w s _ _ s.heap := RF.ground G0
  refine call_P (c := r.toRowW.claim) (tree := fun vs => do match ← nsGet mainNs r.name with
      | some f => do ret (← PySem.call f vs)
      | none => unsupported "claim.caller:no-such-global") hz hgens fun args hpre hlay ord hord => ?_
  refine Classical.byContradiction fun hG => ?_
  obtain ⟨⟨vs, s₁⟩, hlaid⟩ := Option.isSome_iff_exists.mp (layAllW_isSome (P := w.params) (ord := ord) G.has args r.args s (pre_splitW hpre).1)
  have keeps := layAllW_keeps _ _ _ hlaid
  have hal := layAllW_rest _ _ _ hlaid
  obtain ⟨as, hrd, hin, hold⟩ := reads_layAllW hord _ _ _ hlaid hlay s₁.heap (fun _ _ e => e)
  have L : Laid r.records w s s₁ args vs as := ⟨⟨ord, hord, hlaid⟩, hrd, hin, hold, keeps, hal.1.trans hgens, hal.2.2.1⟩
  have G₁ := G.keeps hXk keeps
  have hi := ident_freeW hu ha hap
  have hwi : r.claim.within = [] := List.isEmpty_iff.mp k6
  obtain ⟨a, o, pm, cd, doc, dV, kV, h1, h2, h3, h4, h5⟩ := G₁.fn hdef
  have hcall := call w s s₁ _ _ G₁ (hYk _ _ _ (hY w s y) keeps) a o pm cd doc dV kV h2 h3 h4 h5 (defOf_name hdef ▸ h1) L.gens args vs as hpre hlay L.reads L.well (L.low G.low)
  refine hG ?_
  refine ⟨vs, s₁, hlaid, wpP_bind (wpP_of (wpAny_nsGet G₁.T.g ?_))⟩
  rw [h1]
  refine wpP_bind (wpP_call (fun Γ p hc hΓ hC => ?_))
  refine wpCode_mono ?_ (hcall Γ p hc hΓ hC)
  intro res s' g
  have gG := GoodW.toG g
  have z := gG.laid (c := r.claim) hsame hwi hi L
  rcases g.1 with ⟨v, d', as', rfl, _⟩ | ⟨e, ob, cls, rfl, _⟩
  · exact wpP_pure ⟨_, rfl, z.1, z.2.1, z.2.2, fun q => ⟨namesKept_of hT hg _ keeps gG.2.1.old, noTable hwr q⟩⟩
  · exact ⟨z.1, z.2.1, z.2.2, fun q => ⟨namesKept_of hT hg _ keeps gG.2.1.old, noTable hwr q⟩⟩
end Mine.PySem.W
end
section
open PySem PySem.W PyProof.Rows
namespace Mine
def body4 : List Stmt := (((PySem.Challenge.pw_sx_zbitworks_4.main.body.eraseIdx 11).eraseIdx 8).eraseIdx 6).eraseIdx 0
def view4 : Program := { PySem.Challenge.pw_sx_zbitworks_4 with main := { PySem.Challenge.pw_sx_zbitworks_4.main with body := body4 } }
section
set_option hygiene false
local macro_rules | `(tactic| o_head $H) => `(tactic| (refine Mine.PySem.W.holds_open (q := view4) (loose := [Str.ofString "read_number"]) (Xt := fun s => xlAt view4 [] s && recOk (RowW.records (OpenRow.toRowW (OpenLaw.row PySem.Challenge.rw_sx_zbitworks_4))) s) (XP := XL view4 []) (Yf := Hook.obs $H) (Ya := Hook.val $H) (YP := Hook.says $H) (N := 1624) ?hl (Hook.of $H) (Hook.keeps $H) (fun s e => xl_of s (Bool.and_eq_true_iff.mp e).1) XL.keeps (by rfl) (by rfl) (by rfl) (fun s e => recFacts_of (Bool.and_eq_true_iff.mp e).2) (by rfl) (by first | assumption | decide +kernel) (by decide +kernel) ⟨rfl, rfl, rfl, rfl, rfl, by decide +kernel⟩ ?hw ?hc; (case hl => intro w; kernel_rfl)))
set_option maxRecDepth 100000 in
set_option maxHeartbeats 8000000 in
open_top hd4 for PySem.Challenge.rw_sx_zbitworks_4
end
theorem calm : True := by w_top off; trivial
end Mine
end
section
open PySem PySem.W PySem.Spec PySem.Calls PyProof.Rows
set_option maxRecDepth 100000
namespace Mine
abbrev Prog4 : Program := PySem.Challenge.rw_sx_zbitworks_4.row.prog
/-- what a call of the text's own def comes to: Ret says what is known behind it -/
abbrev Con4 (lv : Nat) (w : World) (f : Addr) (vs : List Value) (news : List (Addr × Obj)) (Ret : (Heap → List (Addr × Obj) → Prop) → (Value → Heap → Nat → Prop) → Prop) : Prop :=
  ∀ (p : Program) (loose : List Str) (mean : ExcName → Option Value) (mg mb : Str → Option Value) (dp un : Nat) (gd : Option (List Code)) (cn : Str) (cs : Scope) (a : Addr) (ccd : Value) (cl : List (Str × Addr)) (outer : List Env) (A₀ : Around) (base h₀ : Heap) (L : Addr) (m : Str → Option Value) (s : Shared) (Q E : Value → Shared → Prop),
    Below A₀ base outer h₀ → Fr h₀ L s.heap m → (hd4.heap_39 w.params).In h₀ → News h₀ L s.heap news → Top p loose mean mg mb h₀ → cs.kind = .function → dp + lv < recursionLimit → un + 10 * lv < cLine →
    Ret (fun h' nw => Fr h₀ L h' m ∧ News h₀ L h' nw) (fun v h' tk' => Q v { s with heap := h', toks := tk' }) →
      wpAny (model Prog4 w) (ktrTop dp un gd cn cs L a ccd cl outer) (call (.ref f) vs) Q E s
theorem use4 {lv : Nat} {w : World} {f : Addr} {vs : List Value} {news : List (Addr × Obj)} {Ret : (Heap → List (Addr × Obj) → Prop) → (Value → Heap → Nat → Prop) → Prop} (C : Con4 lv w f vs news Ret)
    {p : Program} {loose : List Str} {mean : ExcName → Option Value} {mg mb : Str → Option Value} {dp un : Nat} {gd : Option (List Code)} {cn : Str} {cs : Scope} {a : Addr} {ccd : Value} {cl : List (Str × Addr)} {outer : List Env} {A₀ : Around} {base h₀ : Heap} {L : Addr} {m : Str → Option Value} {s : Shared} {Q E : Value → Shared → Prop}
    (B : Below A₀ base outer h₀) (F : Fr h₀ L s.heap m) (X : (hd4.heap_39 w.params).In h₀) (N : News h₀ L s.heap news) (T : Top p loose mean mg mb h₀) (hk : cs.kind = .function) (hd : dp + lv < recursionLimit) (hu : un + 10 * lv < cLine)
    (h : Ret (fun h' nw => Fr h₀ L h' m ∧ News h₀ L h' nw) (fun v h' tk' => Q v { s with heap := h', toks := tk' })) :
      wpAny (model Prog4 w) (ktrTop dp un gd cn cs L a ccd cl outer) (call (.ref f) vs) Q E s := C _ _ _ _ _ _ _ _ _ _ _ _ _ _ _ _ _ _ _ _ _ _ B F X N T hk hd hu h
/-- an item of a table of the text, by an index that is not known -/
theorem item_any {prog : Program} {w : World} {A : Around} {E : Value → Shared → Prop} {s : Shared} {h₀ : Heap} {L : Addr} {m : Str → Option Value} {K : Frag} {a : Addr} {n : Nat} {value slice : PySem.Expr} {l : List Value} {dd : Option Addr} {sl : Array (Option Value)} {k : Int} {u : Tok} {Q : Value → Shared → Prop}
    (F : Fr h₀ L s.heap m) (X₀ : K.In h₀) (hl : K.lookup a = some ⟨.type "tuple", dd, .seq l.toArray n, sl⟩) (h0 : 0 ≤ k) (h1 : k < l.length) (h2 : l.length ≤ 1000) (h : ∀ v ∈ l, Q v s)
    (hs : subscripted slice false (.ref a) (.int k u) = operate [.ref a, .int k u] (getItem (.ref a) (.int k u)) := by with_unfolding_all rfl) :
    wpAny (model prog w) A (subscriptTail value slice (.ref a) (.int k u)) Q E s := by
  have hk : k.toNat < l.length := by omega
  refine topTup_K (j := k.toNat) (v := l[k.toNat]) F X₀ hl (by omega) (by omega) ?_ (List.getElem?_eq_getElem hk) (h _ (List.getElem_mem hk)) hs
  unfold seqIndex?
  simp
  omega
end Mine
end
section
open PySem PySem.W PySem.Spec PySem.Calls PyProof.Rows
set_option maxRecDepth 100000
namespace Mine
theorem pow2_n {prog : Program} {w : World} {A : Around} {E : Value → Shared → Prop} {s : Shared} {Q : Value → Shared → Prop} {k : Nat} {t u : Tok} (hk : k ≤ 1000) (h : Q (.int ((2 ^ k : Nat) : Int) s.toks) { s with toks := s.toks + 1 }) :
    wpAny (model prog w) A (binaryOp .LShift (.int 1 t) (.int (k : Int) u)) Q E s := by
  refine lshift_int_small (by omega) (by omega) (by decide) ?_
  have e : ((1 : Int) * 2 ^ ((k : Int)).toNat) = ((2 ^ k : Nat) : Int) := by
    rw [Int.toNat_natCast, Int.one_mul]; push_cast; rfl
  rw [e]; exact h
local macro_rules | `(tactic| walk_at "binaryOp LShift int int") => `(tactic| (k_here; k_dflt (refine' pow2_n ?h ?_; (case h => assumption))))
local macro_rules | `(tactic| ktr_rel) => `(tactic| ((case k1 => k_asm); (case k2 => k_asm); (case k3 => k_asm); (case k4 => k_asm); (case k5 => k_asm); (case kK => first | exact rfl | assumption); (case kd => ktr_room); (case ku => ktr_units)))
set_option maxHeartbeats 8000000 in
theorem c_mask (w : World) (news : List (Addr × Obj)) (k : Nat) (tk : Tok) (hk : k ≤ 1000) :
    Con4 1 w 21 [.int (k : Int) tk] news (fun K Q => ∀ t h' tk', K h' news → Q (.int (((2 ^ k : Nat) : Int) - 1) t) h' tk') := by
  delta Con4 Prog4; k_fill
  k_with_none
  intro p loose mean mg mb dp un gd cn cs a ccd cl outer A₀ base h₀ L m s Q E B F X N T hck hd hu hret
  refine wpAny_call ?_
  k_dflt cell_enter
  k_steps
  exact hret _ _ _ ⟨by k_asm, by k_asm⟩
end Mine
end
section
open PySem PySem.W PySem.Spec PySem.Calls PyProof.Rows Mine
local macro_rules | `(tactic| walk_at "my r1") => `(tactic| ((case k1 => k_asm); (case k2 => k_asm); (case k3 => k_asm); (case k4 => k_asm); (case k5 => k_asm)))
local macro_rules | `(tactic| walk_at "my rel") => `(tactic| (walk_at "my r1"; (case kK => first | exact rfl | assumption); (case kd => ktr_room); (case ku => ktr_units)))
local macro_rules | `(tactic| walk_at "my rel7") => `(tactic| (walk_at "my r1"; (case k6 => k_asm); (case k7 => k_asm); (case kK => first | exact rfl | assumption); (case kd => ktr_room); (case ku => ktr_units)))
local macro_rules | `(tactic| walk_at "my q3") => `(tactic| ((case q1 => with_reducible assumption); (case q2 => with_reducible assumption); (case q3 => with_reducible assumption)))
local macro_rules | `(tactic| walk_at "my end") => `(tactic| ((try dsimp only); (try k_fold)))
local macro_rules | `(tactic| walk_at "my st") => `(tactic| ((case s => with_unfolding_all rfl); (case t => intro _; with_unfolding_all rfl)))
local macro_rules | `(tactic| walk_at "my d1") => `(tactic| ((case XB => assumption); (case TB => assumption); (case D => assumption); (case T0 => exact KtsTurn.refl)))
local macro_rules | `(tactic| walk_at "my d2") => `(tactic| ((case k3 => k_asm); (case k4 => k_asm); (case k5 => k_asm); (case k6 => k_is); (case k7 => k_is); (case k8 => ktr_room); (case k9 => exact BindsTo.of_eq rfl); (case kB => exact locs rfl)))
local macro_rules | `(tactic| walk_at "my d3") => `(tactic| ((case cK => first | exact rfl | assumption); (case c2 => exact rfl); (case c3 => exact rfl); (case c4 => exact rfl); (case c5 => decide)))
local macro_rules | `(tactic| walk_at "my d0") => `(tactic| (refine wpAny_call ?_; k_dflt (refine' code_defS ?k1 ?k2 ?k3 ?k4 ?k5 ?XB ?TB ?D ?T0 ?kA ?k6 ?k7 ?k8 ?k9 ?kB ?_ ?cK ?c2 ?c3 ?c4 ?c5; (case kA => exact rfl); (case k2 => k_asm); (case k1 => k_asm); walk_at "my d1"; walk_at "my d2"; walk_at "my d3")))
local macro_rules | `(tactic| walk_at "my def") => `(tactic| (k_here; walk_at "my d0"; intro g1 L1 h1 FG1 F1 N1 B1 X1 T1 D1; (try dsimp only); (try k_lift B1); (try k_fold)))
local macro_rules | `(tactic| walk_at "my raise") => `(tactic| (k_here; (with_reducible show wpAny _ _ (exec (Stmt.Raise (some (Expr.Call (Expr.Name _ _) (_ :: _) [] _)) none _) _) _ _ _); k_dflt (refine' Raise_madeB PySem.F.excCall_ValueError PySem.F.excRaise_ValueError ?h ?_ ?e ?p; (case h => exact rfl); (case e => exact rfl); (case p => exact rfl))))
local macro_rules | `(tactic| walk_at "my mask") => `(tactic| (k_here; (with_reducible show wpAny _ _ (call (Value.ref 21) [Value.int _ _]) _ _ _); k_dflt (refine' use4 (c_mask _ _ _ _ ?q1) ?k1 ?k2 ?k3 ?k4 ?k5 ?kK ?kd ?ku ?_; (case q1 => omega); walk_at "my rel"); intro t9 h9 tk9 ⟨F9, N9⟩; walk_at "my end"))
local macro_rules | `(tactic| walk_at "my leave") => `(tactic| ((case K => assumption); (case F => assumption); (case N => k_asm); (case hk => exact rfl); k_whole))
local macro_rules | `(tactic| walk_at "my catch") => `(tactic| ((case K => assumption); walk_at "my d1"; (case ex => k_is); (case hk => exact rfl); (case hx => exact rfl); (case hE => passes_own); k_whole))
local macro_rules | `(tactic| walk_at "joinParts") => `(tactic| ((try refine' joinParts_nilE ?_); refine' joinParts_nil ?_ ?hz; (case hz => first | kt_le | size_fits)))
section
open PySem PySem.W PySem.Spec PySem.Calls PyProof.Rows
set_option maxRecDepth 100000
namespace Mine
/-- what a call of from_binary_text comes to -/
abbrev ConFB (w : World) (y : Str) (ty : Tok) (news : List (Addr × Obj)) : Prop :=
  ∀ (p : Program) (loose : List Str) (mean : ExcName → Option Value) (mg mb : Str → Option Value) (dp un : Nat) (gd : Option (List Code)) (cn : Str) (cs : Scope) (a : Addr) (ccd : Value) (outer : List Env) (A₀ : Around) (base h₀ : Heap) (L : Addr) (m : Str → Option Value) (s : Shared) (Q E : Value → Shared → Prop),
    Below A₀ base outer h₀ → Fr h₀ L s.heap m → (hd4.heap_39 w.params).In h₀ → News h₀ L s.heap news → Top p loose mean mg mb h₀ → (hd4.heap_39 w.params).In base → Top p loose mean mg mb base →
    KtsDicts (outer.filterMap (·.frame)) h₀ → cs.kind = .function → dp + 2 < recursionLimit → un + 20 < cLine →
    (∀ n t h' tk', bin? (lst y) = some n → Fr h₀ L h' m → News h₀ L h' news → Q (.int (n : Nat) t) { s with heap := h', toks := tk' }) →
    (∀ e tt vs g h' tk', bin? (lst y) = none → Fr h₀ L g m → RaisedS base g (envOf cn cs L a ccd :: outer) e (.type "ValueError") tt vs news h' → ctx2 h' e → g.UpToSlots h' → E (.ref e) { s with heap := h', toks := tk' }) →
      wpAny (model Prog4 w) (ktrTop dp un gd cn cs L a ccd [] outer) (call (.ref 42) [.str y ty]) Q E s
theorem bin_lt : ∀ (T : List Nat) (n m k : Nat), T.foldlM bin1 n = some m → n < 2 ^ k → m < 2 ^ (k + T.length)
  | [], n, m, k, h, hn => by cases h; simpa using hn
  | c :: T, n, m, k, h, hn => by
    rw [List.foldlM_cons] at h
    have key : ∀ n', n' < 2 ^ (k + 1) → T.foldlM bin1 n' = some m → m < 2 ^ (k + (c :: T).length) := fun n' hn' h' => by
      have := bin_lt T n' m (k + 1) h' hn'
      rw [List.length_cons, show k + (T.length + 1) = k + 1 + T.length by omega]; exact this
    have h2 : 2 ^ (k + 1) = 2 * 2 ^ k := by rw [Nat.pow_succ]; omega
    by_cases h48 : c = 48
    · rw [show bin1 n c = some (2 * n) from by unfold bin1; rw [if_pos h48]] at h
      exact key (2 * n) (by omega) h
    · by_cases h49 : c = 49
      · rw [show bin1 n c = some (2 * n + 1) from by unfold bin1; rw [if_neg h48, if_pos h49]] at h
        exact key (2 * n + 1) (by omega) h
      · rw [show bin1 n c = none from by unfold bin1; rw [if_neg h48, if_neg h49]] at h
        cases h
theorem ishl1 {prog : Program} {w : World} {A : Around} {E : Value → Shared → Prop} {s : Shared} {Q : Value → Shared → Prop} {n k : Nat} {t u : Tok} (hn : n < 2 ^ k) (hk : k ≤ 20000) (h : Q (.int ((2 * n : Nat) : Int) s.toks) { s with toks := s.toks + 1 }) :
    wpAny (model prog w) A (inplaceOp .LShift (.int (n : Int) t) (.int 1 u)) Q E s := by
  refine ilshift_int (by decide) ?_ ?_
  · have : Builtin.Int.intBits (n : Int) ≤ k := intBits_le_iff.mpr (by simpa using hn)
    omega
  · have e : ((n : Int) * 2 ^ (1 : Int).toNat) = ((2 * n : Nat) : Int) := by
      show (n : Int) * 2 ^ 1 = _
      omega
    rw [e]; exact h
theorem ior1 {prog : Program} {w : World} {A : Around} {E : Value → Shared → Prop} {s : Shared} {Q : Value → Shared → Prop} {n : Nat} {t u : Tok} (h : Q (.int ((2 * n + 1 : Nat) : Int) s.toks) { s with toks := s.toks + 1 }) :
    wpAny (model prog w) A (inplaceOp .BitOr (.int ((2 * n : Nat) : Int) t) (.int 1 u)) Q E s := by
  refine ior_int ?_
  have e : Builtin.bitOr ((2 * n : Nat) : Int) 1 = ((2 * n + 1 : Nat) : Int) := by
    rw [show (1 : Int) = ((1 : Nat) : Int) from rfl, orI]
    have : 2 * n ||| 1 = 2 * n + 1 := by
      rw [show 2 * n = n <<< 1 by rw [Nat.shiftLeft_eq]; omega]
      have := Nat.shiftLeft_add_eq_or_of_lt (b := 1) (i := 1) (by decide) n
      exact this.symm
    rw [this]
  rw [e]; exact h
def pre2 (l : List Int) : Option Nat := (l.map Int.toNat).foldlM bin1 0
theorem pre2_snoc (l : List Int) (n : Nat) : pre2 (l ++ [(n : Int)]) = (pre2 l).bind fun a => bin1 a n := by
  unfold pre2
  rw [List.map_append, List.foldlM_append]
  cases (l.map Int.toNat).foldlM bin1 0 with
  | none => rfl
  | some a => show ([n].foldlM bin1 a) = bin1 a n; simp
theorem codes_nat (y : Str) : (KStt.codes y).map Int.toNat = lst y := by
  unfold KStt.codes
  rw [List.map_map]
  exact (List.map_congr_left (g := _root_.id) fun c _ => Int.toNat_natCast c).trans (List.map_id _)
theorem pre2_bad {y : Str} {pre post : List Int} {n : Nat} {c : Nat} (hy : KStt.codes y = pre ++ (n : Int) :: post) (hp : pre2 pre = some c) (h1 : n ≠ 48) (h2 : n ≠ 49) : bin? (lst y) = none := by
  unfold bin?
  have hne : lst y ≠ [] := fun q => by
    have := codes_nat y
    rw [hy, q] at this
    simp at this
  rw [if_neg hne, ← codes_nat y, hy, List.map_append, List.foldlM_append]
  have : (pre.map Int.toNat).foldlM bin1 0 = some c := hp
  rw [this]
  show (((n : Int) :: post).map Int.toNat).foldlM bin1 c = none
  rw [List.map_cons, List.foldlM_cons]
  show (bin1 c n).bind _ = none
  unfold bin1
  rw [if_neg h1, if_neg h2]; rfl
theorem pre2_lt {y : Str} {pre post : List Int} {n : Nat} {c : Nat} (hy : KStt.codes y = pre ++ (n : Int) :: post) (hp : pre2 pre = some c) (hl : y.length ≤ 20000) : ∃ k, c < 2 ^ k ∧ k ≤ 20000 := by
  refine ⟨0 + (pre.map Int.toNat).length, bin_lt _ 0 c 0 hp (by decide), ?_⟩
  have := congrArg List.length hy
  rw [KStt.codes_length, List.length_append] at this
  rw [List.length_map]; omega
theorem one_ne {n k : Nat} (h : ((⟨#[n]⟩ : Str) != ⟨#[k]⟩) = true) : n ≠ k := fun q => by subst q; simp at h
theorem one_eq {n k : Nat} (h : ((⟨#[n]⟩ : Str) != ⟨#[k]⟩) = false) : n = k := by
  have : (⟨#[n]⟩ : Str) = ⟨#[k]⟩ := by simpa using h
  injection this with h1
  simpa using h1
theorem one_eq2 {n : Nat} (h : ((⟨#[n]⟩ : Str) == Str.ofString "1") = true) : n = 49 := by
  have : (⟨#[n]⟩ : Str) = ⟨#[49]⟩ := eq_of_beq h
  injection this with h1
  simpa using h1
local macro_rules | `(tactic| walk_at "exec Raise some none") => `(tactic| walk_at "my raise")
local macro_rules | `(tactic| walk_at "leaving ref") => `(tactic| (k_here; (rename Heap.MadeExc _ _ _ _ _ => xa9); k_dflt (refine' leave_ctx ?K xa9 ?F ?N ?_ ?hk; walk_at "my leave"); intro h6 t6 S6 C6 U6; (try dsimp only at S6 U6 ⊢)))
local macro_rules | `(tactic| walk_at "inplaceOp LShift int int") => `(tactic| (k_here; (rename (∃ k, _ < 2 ^ k ∧ k ≤ 20000) => lt9); k_dflt (refine' ishl1 (Exists.choose_spec lt9).1 (Exists.choose_spec lt9).2 ?_)))
local macro_rules | `(tactic| walk_at "inplaceOp BitOr int int") => `(tactic| (k_here; k_dflt (refine' ior1 ?_)))
set_option maxHeartbeats 8000000 in
theorem p_fb (w : World) (y : Str) (ty : Tok) (hl : y.length ≤ 20000) (news : List (Addr × Obj)) : ConFB w y ty news := by
  delta ConFB Prog4; k_fill
  k_with_none
  intro p loose mean mg mb dp un gd cn cs a ccd outer A₀ base h₀ L m s Q E B F X N T XB TB D hck hd hu hret hrai
  refine wpAny_call ?_
  k_dflt (refine' code_defS ?k1 ?k2 ?k3 ?k4 ?k5 ?XB ?TB ?D ?T0 ?kA ?k6 ?k7 ?k8 ?k9 ?kB ?_ ?cK ?c2 ?c3 ?c4 ?c5; (case kA => exact rfl); (case k2 => k_asm); (case k1 => k_asm); (case XB => assumption); (case TB => assumption); (case D => assumption); (case T0 => exact KtsTurn.refl); (case k3 => k_asm); (case k4 => k_asm); (case k5 => k_asm); (case k6 => k_is); (case k7 => k_is); (case k8 => ktr_room); (case k9 => exact BindsTo.of_eq rfl); (case kB => exact locs rfl); (case cK => assumption); (case c2 => exact rfl); (case c3 => exact rfl); (case c4 => exact rfl); (case c5 => decide))
  intro g' L' h' FG' F' N' B' X' T' D'
  (try dsimp only); (try k_lift B'); (try k_fold)
  repeat' (first | (k_unfold; (try dsimp only)) | ((fail_if_success (with_reducible show wpAny _ _ (exec (Stmt.For _ _ _ _ _) _) _ _ _)); first | (k_end; wrow_close) | walk1 | (dsimp only; walk1) | (leave1; (try dsimp only))) | fail "no step")
  · rename RaisedS _ _ _ _ _ _ _ _ _ => S9
    rename Heap.UpToSlots _ _ => U9
    refine hrai _ _ _ _ _ _ ?_ FG' S9 (by assumption) U9
    rename (y == Str.ofString "") = true => hy0
    rw [eq_of_beq hy0]; rfl
  · rename Fr _ _ _ _ => lF'
    with_unfolding_all refine' For_invVF lF' ?k1 ?k2 ?_
    case k1 => exact rfl
    case k2 => exact rfl
    repeat' (first | (k_unfold; (try dsimp only)) | ((fail_if_success (with_reducible show wpAny _ _ (pyIter (Value.str _ _)) _ _ _)); first | (k_end; wrow_close) | walk1 | (dsimp only; walk1) | (leave1; (try dsimp only))) | fail "no step")
    rename Fr _ _ _ _ => lF
    rename News _ _ _ _ => lN
    with_unfolding_all refine' KStt.kst_text (σ := Nat × Tok) (fun _ => news) (fun c => [(Str.ofString "n", .int ((c.1 : Nat) : Int) c.2)]) (fun _ => True) [] (fun pre c => pre2 pre = some c.1) (0, _) (by rfl) lF lN trivial ?hk (by rfl) ?turn ?done
    case hk => kst_all
    case turn =>
      rintro ⟨c', tc'⟩ pre post n' t' u' h' tk' own' hy hoff _ hP F' N'
      dsimp only [kstB] at F' N' hP hoff
      have hlt := pre2_lt hy hP hl
      clear lF lN
      try k_fold
      k_steps
      · rename RaisedS _ _ _ _ _ _ _ _ _ => S9
        rename Heap.UpToSlots _ _ => U9
        exact hrai _ _ _ _ _ _ (pre2_bad hy hP (one_ne (k := 48) (by assumption)) (one_ne (k := 49) (by assumption))) FG' (raised_sub S9 fun q hq => List.mem_append.mpr (.inl hq)) (by assumption) U9
      · have e49 : n' = 49 := one_eq (by assumption)
        refine' kst_end (c := (2 * c' + 1, ?d)) ?e1 ?e2 (fun p hp => List.mem_append.mpr (.inl hp)) (fun p hp => List.mem_append.mpr (.inr hp)) rfl trivial (List.forall_mem_cons.mpr ⟨?e3, List.forall_mem_nil _⟩) ?e4 ?e5
        case e1 => k_asm
        case e2 => k_asm
        case e3 => rfl
        case e4 => kst_same
        case e5 => rw [pre2_snoc, hP, e49]; rfl
      · have e48 : n' = 48 := one_eq (by assumption)
        rename (_ == Str.ofString "1") = true => h49
        have e49 : n' = 49 := one_eq2 h49
        omega
      · have e48 : n' = 48 := one_eq (by assumption)
        refine' kst_end (c := (2 * c', ?d2)) ?e1 ?e2 (fun p hp => List.mem_append.mpr (.inl hp)) (fun p hp => List.mem_append.mpr (.inr hp)) rfl trivial (List.forall_mem_cons.mpr ⟨?e3, List.forall_mem_nil _⟩) ?e4 ?e5
        case e1 => k_asm
        case e2 => k_asm
        case e3 => rfl
        case e4 => kst_same
        case e5 => rw [pre2_snoc, hP, e48]; rfl
    case done =>
      rintro ⟨c', tc'⟩ u' h' tk' _ hP F' N'
      dsimp only [kstB] at F' N' hP
      clear lF lN
      try k_fold
      k_steps
      refine hret _ _ _ _ ?_ (by k_asm) (by k_asm)
      unfold bin?
      rename (y == Str.ofString "") = false => hy0
      rw [if_neg (show ¬ lst y = [] from fun q => (beq_eq_false_iff_ne.mp hy0) (lst_inj q)), ← codes_nat y]
      exact hP
end Mine
end
section
open PySem PySem.W PySem.Spec PySem.Calls PyProof.Rows
set_option maxRecDepth 100000
namespace Mine
/-- how the arguments of read_number are bound -/
def BindsFor (w : World) (vs : List Value) (binds : List (Str × Value)) : Prop :=
  ∀ (fd : FuncData) (oc : Value) (od : Option Addr) (osl : Array (Option Value)), (hd4.heap_39 w.params).lookup 57 = some ⟨oc, od, .func fd, osl⟩ → ∀ s : Shared, (hd4.heap_39 w.params).In s.heap → BindsTo s fd ⟨vs, []⟩ binds
/-- what a call of read_number comes to -/
abbrev ConRN (w : World) (vs : List Value) (T : List Nat) (bits : Nat) (news : List (Addr × Obj)) : Prop :=
  ∀ (p : Program) (loose : List Str) (mean : ExcName → Option Value) (mg mb : Str → Option Value) (dp un : Nat) (gd : Option (List Code)) (cn : Str) (cs : Scope) (a : Addr) (ccd : Value) (outer : List Env) (A₀ : Around) (base h₀ g₀ : Heap) (L : Addr) (m : Str → Option Value) (s : Shared) (Q E : Value → Shared → Prop),
    Below A₀ base outer h₀ → Fr h₀ L s.heap m → (hd4.heap_39 w.params).In h₀ → News h₀ L s.heap news → Top p loose mean mg mb h₀ → (hd4.heap_39 w.params).In base → Top p loose mean mg mb base →
    KtsDicts (outer.filterMap (·.frame)) h₀ → KtsTurn (outer.filterMap (·.frame)) g₀ h₀ → cs.kind = .function → dp + 3 < recursionLimit → un + 30 < cLine →
    (∀ n t h' tk', rn T bits = .ok n → Fr h₀ L h' m → News h₀ L h' news → Q (.int (n : Nat) t) { s with heap := h', toks := tk' }) →
    (∀ msg t e tt h₁ g h' tk', rn T bits = .error msg → KtsTurn (outer.filterMap (·.frame)) g₀ h₁ → Fr h₁ L g m → Below A₀ base outer h₁ → (hd4.heap_39 w.params).In h₁ → Top p loose mean mg mb h₁ → KtsDicts (outer.filterMap (·.frame)) h₁ → RaisedS base g (envOf cn cs L a ccd :: outer) e (.type "ValueError") tt [.str msg t] news h' → g.UpToSlots h' → E (.ref e) { s with heap := h', toks := tk' }) →
      wpP (model Prog4 w) (ktrTop dp un gd cn cs L a ccd [] outer) (call (.ref 57) vs) Q E s
theorem repr_fits {x : Str} (h : ∀ c ∈ lst x, okc c = true ∨ c ∈ ([32, 43, 45, 1635] : List Nat)) (hl : x.length ≤ 20000) : (reprText x).length ≤ sizeLine := by
  rw [← st_lst x, ok_repr h, st_len]
  have : (lst x).length ≤ 20000 := hl
  simp only [List.length_cons, List.length_append, List.length_nil]
  exact Nat.le_trans (show _ ≤ 20002 by omega) (by decide)
theorem repr_len {x : Str} (h : ∀ c ∈ lst x, okc c = true ∨ c ∈ ([32, 43, 45, 1635] : List Nat)) (hl : x.length ≤ 20000) : (reprText x).length ≤ 20002 := by
  rw [← st_lst x, ok_repr h, st_len]
  have : (lst x).length ≤ 20000 := hl
  simp only [List.length_cons, List.length_append, List.length_nil]
  omega
theorem fmt_s {prog : Program} {w : World} {A : Around} {E : Value → Shared → Prop} {s : Shared} {x : Str} {t : Tok} {Q : Value → Shared → Prop} (h : ∀ t' k, Q (.str x t') { s with toks := k }) (hx : x.length ≤ sizeLine) : wpAny (model prog w) A (formatField (.str x t) Str.empty) Q E s :=
  wpAny_formatField_str (h t s.toks) (h _ _) hx
local macro_rules | `(tactic| walk_at "formatField str") => `(tactic| (refine fmt_s ?_ ?hz; (case hz => exact Nat.le_trans (by assumption) (by decide : 20002 ≤ sizeLine)); intro t8 k8))
theorem repr_len_s {x : Str} (h : ∀ c ∈ lst x, okc c = true ∨ c ∈ ([32, 43, 45, 1635] : List Nat)) (hl : x.length ≤ 20000) : (reprText (Txt.slice x none (some 40))).length ≤ 20002 :=
  repr_len (fun c hc => h c (by rw [lst_take x (by decide)] at hc; exact List.mem_of_mem_take hc)) (Nat.le_trans (Txt.slice_le _ _ _) hl)
theorem fits_2 {x : Str} (h : x.length ≤ 20002) : x.length ≤ sizeLine := Nat.le_trans h (by decide)
local macro_rules | `(tactic| walk_at "pyReprObj str") => `(tactic| (refine pyReprObj_str ?_ ?hz; (case hz => exact fits_2 (by assumption))))
local macro_rules | `(tactic| walk_at "noteFrame ref") => `(tactic| (k_here; (rename Heap.NewExc _ _ _ _ => nx9); k_dflt (refine' catch_new nx9 ?F ?N ?K ?XB ?TB ?D ?T0 ?ex ?_ ?hk ?hx ?hE; (case F => assumption); (case N => k_asm); walk_at "my catch"); clear nx9; intro h7 g7 oe7 T7 F7 N7 C7 K7 X7 P7 D7))
local macro_rules | `(tactic| walk_at "exec Raise some some") => `(tactic| (k_here; k_dflt (refine' raise_from_call ?hh ?_ ?he ?hp; (case hh => exact rfl); (case he => exact rfl); (case hp => exact rfl); k_whole)))
local macro_rules | `(tactic| walk_at "leaving ref") => `(tactic| (k_here; (rename ExcAt _ _ _ _ _ _ => xa9); k_dflt (refine' leave_exc ?K xa9 ?F ?N ?_ ?hk; walk_at "my leave"); intro h6 S6 U6; (try dsimp only at S6 U6 ⊢)))
local macro_rules | `(tactic| walk_at "exec Raise some none") => `(tactic| (k_here; (with_reducible show wpAny _ _ (exec (Stmt.Raise (some (Expr.Name _ _)) none _) _) _ _ _); k_dflt (refine' Raise_classB ?h excClass_ValueError ?s ?n ?_; (case h => exact rfl); (case s => rw [isSubtype_type]; kernel_rfl); (case n => exact name_B (by k_asm) (by k_asm) (topRead_of (by k_asm)) (by k_is) PyProof.Rows.Boot.«ValueError» (by decide) ⟨rfl, rfl⟩ rfl rfl (by decide)); k_whole); intro h5 e5 x5))
local macro_rules | `(tactic| walk_at "exec Raise some none") => `(tactic| walk_at "my raise")
theorem use_fb {w : World} {y : Str} {ty : Tok} {news : List (Addr × Obj)} (C : ConFB w y ty news)
    {p : Program} {loose : List Str} {mean : ExcName → Option Value} {mg mb : Str → Option Value} {dp un : Nat} {gd : Option (List Code)} {cn : Str} {cs : Scope} {a : Addr} {ccd : Value} {outer : List Env} {A₀ : Around} {base h₀ : Heap} {L : Addr} {m : Str → Option Value} {s : Shared} {Q E : Value → Shared → Prop}
    (B : Below A₀ base outer h₀) (F : Fr h₀ L s.heap m) (X : (hd4.heap_39 w.params).In h₀) (N : News h₀ L s.heap news) (T : Top p loose mean mg mb h₀) (XB : (hd4.heap_39 w.params).In base) (TB : Top p loose mean mg mb base) (D : KtsDicts (outer.filterMap (·.frame)) h₀) (hk : cs.kind = .function) (hd : dp + 2 < recursionLimit) (hu : un + 20 < cLine)
    (hret : ∀ n t h' tk', bin? (lst y) = some n → Fr h₀ L h' m → News h₀ L h' news → Q (.int (n : Nat) t) { s with heap := h', toks := tk' })
    (hrai : ∀ e tt vs g h' tk', bin? (lst y) = none → Fr h₀ L g m → RaisedS base g (envOf cn cs L a ccd :: outer) e (.type "ValueError") tt vs news h' → ctx2 h' e → g.UpToSlots h' → E (.ref e) { s with heap := h', toks := tk' }) :
      wpAny (model Prog4 w) (ktrTop dp un gd cn cs L a ccd [] outer) (call (.ref 42) [.str y ty]) Q E s := C _ _ _ _ _ _ _ _ _ _ _ _ _ _ _ _ _ _ _ _ _ B F X N T XB TB D hk hd hu hret hrai
theorem wpP_with_toks {α : Type} {M : Model} {A : Around} {s : Shared} {t : Sem α} {Q : α → Shared → Prop} {E : Value → Shared → Prop} {n : Nat} (hn : n ≤ s.toks)
    (h : wpP M A t (fun a s' => n ≤ s'.toks → Q a s') (fun e s' => n ≤ s'.toks → E e s') s) : wpP M A t Q E s :=
  fun Γ p hΓ hc => Sem.wp_mono M Γ t (fun _ _ _ x => x.2 x.1) (fun _ _ _ x => x.2 x.1) p s (Sem.wp_toks M Γ n t _ _ p s hn (h Γ p hΓ hc))
local macro_rules | `(tactic| walk_at "call ref") => `(tactic| walk_at "my mask")
local macro_rules | `(tactic| walk_at "noteFrame ref") => `(tactic| (k_here; (rename ctx2 _ _ => cx9); (rename RaisedS _ _ _ _ _ _ _ _ _ => rs9); (rename Heap.UpToSlots _ _ => up9); k_dflt (refine' catch_on rs9 cx9 ?F up9 ?K ?XB ?TB ?D ?T0 ?ex ?_ ?hk ?hx ?hE; (case F => assumption); walk_at "my catch"); clear cx9 rs9 up9; intro h7 g7 oe7 T7 F7 N7 C7 K7 X7 P7 D7))
theorem sub_news {h₀ h : Heap} {L : Addr} {q : Addr × Obj} {news : List (Addr × Obj)} (N : News h₀ L h (q :: news)) : News h₀ L h news := fun p hp => N p (.tail _ hp)
theorem head_not {T : List Nat} (h : ∀ c ∈ T, okc c = true) : ∀ c ∈ T.head?, c ≠ 45 ∧ c ≠ 43 := fun c hc => by
  have := h c (List.mem_of_mem_head? hc)
  refine ⟨fun q => ?_, fun q => ?_⟩ <;> (rw [q] at this; cases this)
theorem digits_at {p : Program} {loose : List Str} {mean : ExcName → Option Value} {mg mb : Str → Option Value} {g h : Heap} {L : Addr} {m : Str → Option Value} (T : Top p loose mean mg mb g) (F : Fr g L h m) : ∃ mc, h.Ns cStatics mc ∧ mc "sys.int_max_str_digits" = none :=
  let ⟨mc, hn, hm⟩ := (T.keeps F.keep).nodigits; ⟨mc, hn, hm⟩
theorem strike_len {x : Str} (hl : x.length ≤ 20000) : (Txt.replace (Txt.slice x (some 2) none) (Str.ofString "_") (Str.ofString "")).length ≤ 20000 := by
  show (Txt.replace (Txt.slice x (some 2) none) ⟨#[95]⟩ ⟨#[]⟩).cps.toList.length ≤ 20000
  rw [replace_strikes]
  exact Nat.le_trans (List.length_filter_le _ _) (Nat.le_trans (Txt.slice_le x _ _) hl)
theorem slice_1M {x : Str} {i : Int} (h : x.length ≤ 20000) : (Txt.slice x (some i) none).length ≤ 1048576 := Nat.le_trans (Txt.slice_le _ _ _) (Nat.le_trans h (by decide))
theorem strike_lst (x : Str) : lst (Txt.replace (Txt.slice x (some 2) none) (Str.ofString "_") (Str.ofString "")) = ((lst x).drop 2).filter (· != 95) := by
  show (Txt.replace (Txt.slice x (some 2) none) ⟨#[95]⟩ ⟨#[]⟩).cps.toList = _
  rw [replace_strikes]
  show (lst (Txt.slice x (some 2) none)).filter _ = _
  rw [lst_drop x (by decide)]; rfl
local macro_rules | `(tactic| walk_at "subscriptTail Name Slice str ref") => `(tactic| (k_here; (with_reducible show wpAny _ _ (subscriptTail _ (Expr.Slice (some _) none none _) _ _) _ _ _); k_dflt (refine wpAny_with_toks (n := 1) (by first | with_reducible assumption | (dsimp only; omega)) ?_; refine' slice_strN_sn ?F ?N ?_ ?s ?t ?hz; (case F => k_asm); (case N => k_asm); walk_at "my st"; (case hz => size_fits); k_whole); intro h5 t5 k5 F5 N5 tk5; replace tk5 : 1 ≤ k5 := tk5))
local macro_rules | `(tactic| walk_at "call builtin:str.replace") => `(tactic| (k_here; k_dflt (refine' SC.replaceW ?a ?b ?c ?d ?e ?f ?_; (case a => exact Nat.ne_of_gt (by assumption)); (case b => exact Nat.succ_ne_zero _); (case c => exact Nat.ne_of_lt (Nat.lt_succ_self _)); (case d => with_unfolding_all rfl); (case e => exact slice_1M (by with_reducible assumption)); (case f => exact Nat.zero_le _)); intro t4 k4))
local macro_rules | `(tactic| walk_at "call ref") => `(tactic| (k_here; (with_reducible show wpAny _ _ (call (Value.ref 42) [Value.str _ _]) _ _ _); k_dflt (refine' use_fb (p_fb _ _ _ (strike_len (by with_reducible assumption)) _) ?k1 ?k2 ?k3 ?k4 ?k5 ?k6 ?k7 ?k8 ?kK ?kd ?ku ?_ ?_; walk_at "my rel"; (case k6 => assumption); (case k7 => assumption); (case k8 => assumption)); walk_at "my end"))
set_option maxHeartbeats 8000000 in
theorem p_rn (w : World) (vs : List Value) (x : Str) (bits : Nat) (tx tb : Tok) (hbind : BindsFor w vs [(Str.ofString "text", .str x tx), (Str.ofString "bits", .int (bits : Nat) tb)]) (fine : Fine (lst x)) (hb : bits ≤ 64) (hlen : x.length ≤ 20000) (hok : ∀ c ∈ lst x, okc c = true ∨ c ∈ ([32, 43, 45, 1635] : List Nat)) (news : List (Addr × Obj)) : ConRN w vs (lst x) bits news := by
  delta ConRN Prog4; k_fill
  k_with_none
  intro p loose mean mg mb dp un gd cn cs a ccd outer A₀ base h₀ g₀ L m s Q E B F X N T XB TB D T0 hck hd hu hret hrai
  refine wpP_call ?_
  k_dflt (refine' codeP_defS ?k1 ?k2 ?k3 ?k4 ?k5 ?XB ?TB ?D ?T0 ?kA ?k6 ?k7 ?k8 ?k9 ?kB ?_ ?cK ?c2 ?c3 ?c4 ?c5; (case kA => exact rfl); (case k2 => k_asm); (case k1 => k_asm); (case XB => assumption); (case TB => assumption); (case D => assumption); (case T0 => assumption); (case k3 => k_asm); (case k4 => k_asm); (case k5 => k_asm); (case k6 => k_is); (case k7 => k_is); (case k8 => ktr_room); (case k9 => exact hbind _ _ _ _ (by k_is) _ (X.keeps F.keep)); (case kB => exact locs rfl); (case cK => assumption); (case c2 => exact rfl); (case c3 => exact rfl); (case c4 => exact rfl); (case c5 => decide))
  intro g' L' h' FG' F' N' B' X' T' D'
  (try dsimp only); (try k_lift B'); (try k_fold)
  have hrep := repr_len hok hlen
  have hrep4 := repr_len_s hok hlen
  refine wpP_execs_cons (wpP_of (wpAny_with_toks (n := 1) (Nat.le_add_left _ _) ?_))
  k_steps
  all_goals (try ((rename RaisedS _ _ _ _ _ _ _ _ _ => S9); (rename Heap.UpToSlots _ _ => U9); exact hrai _ _ _ _ _ _ _ _ (rn_edge (by first | exact edgy_a (by assumption) | exact edgy_b (by assumption) | exact edgy_c (by assumption))) T0 FG' B X T D (raised_sub S9 (fun q hq => by first | exact hq | exact List.mem_cons_of_mem _ hq)) U9))
  have he : edgy (lst x) = false := edgy_n (by assumption) (by assumption) (by assumption)
  obtain ⟨hall, hdec⟩ := fine_ok fine he
  dsimp only
  refine wpP_execs_cons (wpP_Try_except ?_)
  refine wpP_execs_cons (wpP_of (wpAny_with_toks (n := 1) (by assumption) ?_))
  k_steps
  · exact ctx_news (by k_asm) (by k_mem) (by assumption)
  · rename RaisedS _ _ _ _ _ _ _ _ _ => S9
    rename Heap.UpToSlots _ _ => U9
    rename KtsTurn _ _ _ => T9
    obtain ⟨h1', t1, f1, b1, x1, p1, d1⟩ := turn_back B FG' T9 D XB TB T0
    exact hrai _ _ _ _ _ _ _ _ (rn_bad he (if_pos (by rename 2 * 4096 < _ => l9; show 8192 < x.length; omega))) t1 f1 b1 x1 p1 d1 (raised_sub S9 (fun q hq => by first | exact hq | exact List.mem_cons_of_mem _ hq | exact List.mem_cons_of_mem _ (List.mem_cons_of_mem _ hq))) U9
  rename ¬ 2 * 4096 < _ => l9
  have hlen8 : ¬ (lst x).length > 8192 := by show ¬ x.length > 8192; omega
  dsimp only
  refine wpP_execs_cons (wpP_If (wpP_of (wpAny_with_toks (n := 1) (by assumption) ?_)))
  k_steps
  · rename (Txt.lower _ == _) = true => hlow
    have hbin : (lst x).take 2 = [48, 98] ∨ (lst x).take 2 = [48, 66] := by rw [lower_bin hall] at hlow; exact of_decide_eq_true hlow
    have hrd : readC (lst x) = bin? (lst (Txt.replace (Txt.slice x (some 2) none) (Str.ofString "_") (Str.ofString ""))) := by
      rw [strike_lst]; exact if_pos hbin
    refine wpP_of ?_
    k_steps
    · iterate 3 (all_goals (try ((try dsimp only); refine wpP_of ?_; k_steps)))
      · rename RaisedS _ _ _ _ _ _ _ _ _ => S9
        rename Heap.UpToSlots _ _ => U9
        rename ((2 ^ bits : Nat) : Int) - 1 < _ => lt9
        exact hrai _ _ _ _ _ _ _ _ ((rn_big he ((if_neg hlen8).trans (hrd.trans (by assumption))) (by omega)).trans (congrArg Except.error (by rw [empty_app]))) T0 FG' B X T D (raised_sub S9 (fun q hq => List.mem_cons_of_mem _ hq)) U9
      · rename ¬ ((2 ^ bits : Nat) : Int) - 1 < _ => lt9
        exact hret _ _ _ _ (rn_ok he ((if_neg hlen8).trans (hrd.trans (by assumption))) (by omega)) (by k_asm) (sub_news (by k_asm))
    · exact ctx_news (by k_asm) (by k_mem) (by assumption)
    · rename RaisedS _ _ _ _ _ _ _ _ _ => S9
      rename Heap.UpToSlots _ _ => U9
      rename KtsTurn _ _ _ => T9
      obtain ⟨h1', t1, f1, b1, x1, p1, d1⟩ := turn_back B FG' T9 D XB TB T0
      exact hrai _ _ _ _ _ _ _ _ (rn_bad he ((if_neg hlen8).trans (hrd.trans (by assumption)))) t1 f1 b1 x1 p1 d1 (raised_sub S9 (fun q hq => by first | exact hq | exact List.mem_cons_of_mem _ hq | exact List.mem_cons_of_mem _ (List.mem_cons_of_mem _ hq))) U9
  · rename (Txt.lower _ == _) = false => hlow
    have hnb : ¬ ((lst x).take 2 = [48, 98] ∨ (lst x).take 2 = [48, 66]) := by rw [lower_bin hall] at hlow; exact of_decide_eq_false hlow
    have hrd : readC (lst x) = int0 (lst x) := if_neg hnb
    refine wpP_execs_cons (wpP_Assign_Name (wpP_Call ?_))
    k_steps
    refine wpP_callWith_ty ?_
    k_steps
    refine wpP_int0 (fits_2 hrep) (fun c hc => okc_ink (hall c hc)) ?h2 hdec ?hd rfl ?hok ?hno
    case h2 => exact head_not hall
    case hd => exact digits_at (by k_asm) (by k_asm)
    case hok =>
      intro n hn
      k_steps
      iterate 3 (all_goals (try ((try dsimp only); refine wpP_of ?_; k_steps)))
      · rename RaisedS _ _ _ _ _ _ _ _ _ => S9
        rename Heap.UpToSlots _ _ => U9
        rename ((2 ^ bits : Nat) : Int) - 1 < _ => lt9
        exact hrai _ _ _ _ _ _ _ _ ((rn_big he ((if_neg hlen8).trans (hrd.trans (by assumption))) (by omega)).trans (congrArg Except.error (by rw [empty_app]))) T0 FG' B X T D (raised_sub S9 (fun q hq => List.mem_cons_of_mem _ hq)) U9
      · rename ¬ ((2 ^ bits : Nat) : Int) - 1 < _ => lt9
        exact hret _ _ _ _ (rn_ok he ((if_neg hlen8).trans (hrd.trans (by assumption))) (by omega)) (by k_asm) (sub_news (by k_asm))
    case hno =>
      intro hn h3 tk3 e3 vs3 m3
      have nx3 := Heap.MadeExc.newExc m3
      k_steps
      · exact ctx_news (by k_asm) (by k_mem) (by assumption)
      · rename RaisedS _ _ _ _ _ _ _ _ _ => S9
        rename Heap.UpToSlots _ _ => U9
        rename KtsTurn _ _ _ => T9
        obtain ⟨h1', t1, f1, b1, x1, p1, d1⟩ := turn_back B FG' T9 D XB TB T0
        exact hrai _ _ _ _ _ _ _ _ (rn_bad he ((if_neg hlen8).trans (hrd.trans hn))) t1 f1 b1 x1 p1 d1 (raised_sub S9 (fun q hq => by first | exact hq | exact List.mem_cons_of_mem _ hq | exact List.mem_cons_of_mem _ (List.mem_cons_of_mem _ hq))) U9
end Mine
end
section
open PySem PySem.W PySem.Spec PySem.Calls PyProof.Rows
set_option maxRecDepth 100000
namespace Mine
theorem mod_n {prog : Program} {w : World} {A : Around} {E : Value → Shared → Prop} {s : Shared} {Q : Value → Shared → Prop} {n b : Nat} {t u : Tok} (hb : 2 ≤ b) (h : Q (.int ((n % b : Nat) : Int) s.toks) { s with toks := s.toks + 1 }) :
    wpAny (model prog w) A (binaryOp .Mod (.int (n : Int) t) (.int (b : Int) u)) Q E s :=
  mod_int (by omega) (by rw [Int.fmod_eq_emod_of_nonneg _ (by omega)]; exact h)
theorem div_n {prog : Program} {w : World} {A : Around} {E : Value → Shared → Prop} {s : Shared} {Q : Value → Shared → Prop} {n b : Nat} {t u : Tok} (hb : 2 ≤ b) (hb2 : b ≤ 100) (h : Q (.int ((n / b : Nat) : Int) s.toks) { s with toks := s.toks + 1 }) :
    wpAny (model prog w) A (binaryOp .FloorDiv (.int (n : Int) t) (.int (b : Int) u)) Q E s := by
  refine floordiv_int (by omega) (by rw [Int.fdiv_eq_ediv_of_nonneg _ (by omega)]; exact h) (Or.inl ?_)
  exact PyProof.noPylong_small (by omega)
theorem item_n {prog : Program} {w : World} {A : Around} {E : Value → Shared → Prop} {s : Shared} {value slice : PySem.Expr} {x : Str} {t u : Tok} {k : Nat} {Q : Value → Shared → Prop} (hk : k < x.length) (hx : x.length ≤ 20000) (h : Q (.str (st [(lst x).getD k 0]) s.toks) { s with toks := s.toks + 1 })
    (hs : subscripted slice false (.str x t) (.int (k : Int) u) = operate [.str x t, .int (k : Int) u] (getItem (.str x t) (.int (k : Int) u)) := by with_unfolding_all rfl)
    (ht : ∀ r, letTemporaryGo value (.str x t) r = pure () := by intro _; with_unfolding_all rfl) :
    wpAny (model prog w) A (subscriptTail value slice (.str x t) (.int (k : Int) u)) Q E s := by
  refine item_str (fitsSsize_of (N := 9223372036854775808) (by omega) (by omega) (Int.le_refl _)) (by omega) (by omega) (fun _ => ?_) hs ht
  have hk' : k < (lst x).length := hk
  have e : Txt.item x (k : Int) = st [(lst x).getD k 0] := lst_item (by omega) (by rw [Int.toNat_natCast, List.getElem?_eq_getElem hk', List.getD_eq_getElem?_getD, List.getElem?_eq_getElem hk']; rfl)
  rw [e]; exact h
theorem add_st {prog : Program} {w : World} {A : Around} {E : Value → Shared → Prop} {s : Shared} {X Y : List Nat} {t u : Tok} {Q : Value → Shared → Prop} (hz : X.length + Y.length ≤ 100000) (h : ∀ t' k, Q (.str (st (X ++ Y)) t') { s with toks := k }) :
    wpAny (model prog w) A (binaryOp .Add (.str (st X) t) (.str (st Y) u)) Q E s := by
  refine SB.add (fun t' k => ?_) ?_
  · rw [st_app]; exact h t' k
  · rw [st_len, st_len]; exact Nat.le_trans hz (by decide)
theorem dg_step {S : List Nat} {b n f : Nat} {w : List Nat} (hn : 0 < n) : dg S b (f + 1) n w = dg S b f (n / b) (S.getD (n % b) 0 :: w) := by
  show (if 0 < n then _ else _) = _
  rw [if_pos hn]
theorem dg_stop {S : List Nat} {b f : Nat} {w : List Nat} : dg S b (f + 1) 0 w = dg S b f 0 w := rfl
local macro_rules | `(tactic| walk_at "binaryOp Mod int int") => `(tactic| (k_here; k_dflt (refine' mod_n ?h ?_; (case h => assumption))))
local macro_rules | `(tactic| walk_at "binaryOp FloorDiv int int") => `(tactic| (k_here; k_dflt (refine' div_n ?h ?g ?_; (case h => assumption); (case g => assumption))))
local macro_rules | `(tactic| walk_at "subscriptTail Name BinOp str int") => `(tactic| (k_here; k_dflt (refine' item_n ?h ?g ?_ ?s ?t; (case h => exact Nat.lt_of_lt_of_le (Nat.mod_lt _ (by omega)) (by assumption)); (case g => omega); walk_at "my st")))
local macro_rules | `(tactic| walk_at "binaryOp Add str str") => `(tactic| (k_here; k_dflt (refine' add_st ?h ?_; (case h => (simp only [List.length_cons, List.length_nil]; omega))); intro t9 k9))
set_option maxHeartbeats 8000000 in
theorem c_digits (w : World) (news : List (Addr × Obj)) (n b : Nat) (S : Str) (tn tS tb : Tok) (hb : 2 ≤ b) (hb2 : b ≤ 100) (hS : b ≤ S.length) (hS2 : S.length ≤ 100) (hn : n < 2 ^ 70) :
    Con4 1 w 90 [.int (n : Int) tn, .str S tS, .int (b : Int) tb] news (fun K Q => ∀ t h' tk', K h' news → Q (.str (st (dg (lst S) b 70 n [])) t) h' tk') := by
  delta Con4 Prog4; k_fill
  k_with_none
  intro p loose mean mg mb dp un gd cn cs a ccd cl outer A₀ base h₀ L m s Q E B F X N T hck hd hu hret
  refine wpAny_call ?_
  k_dflt cell_enter
  repeat' (first | (k_unfold; (try dsimp only)) | ((fail_if_success (with_reducible show wpAny _ _ (exec (Stmt.For _ _ _ _ _) _) _ _ _)); first | (k_end; wrow_close) | walk1 | (dsimp only; walk1) | (leave1; (try dsimp only))) | fail "no step")
  rename Fr _ _ _ _ => lF'
  with_unfolding_all refine' For_invVF lF' ?k1 ?k2 ?_
  case k1 => exact rfl
  case k2 => exact rfl
  repeat' (first | (k_unfold; (try dsimp only)) | ((fail_if_success (with_reducible show wpAny _ _ (pyIter (Value.ref _)) _ _ _)); first | (k_end; wrow_close) | walk1 | (dsimp only; walk1) | (leave1; (try dsimp only))) | fail "no step")
  rename Fr _ _ _ _ => lF
  rename News _ _ _ _ => lN
  rename IsRange _ _ _ _ _ _ _ _ => rg
  with_unfolding_all refine' loopR (σ := Nat × Tok × List Nat × Tok) (n := 70) (fun _ _ => news) (fun _ c => [(Str.ofString "n", .int ((c.1 : Nat) : Int) c.2.1), (Str.ofString "written", .str (st c.2.2.1) c.2.2.2)]) (fun i c => dg (lst S) b (70 - i) c.1 c.2.2.1 = dg (lst S) b 70 n [] ∧ c.1 < 2 ^ 70 ∧ c.2.2.1.length ≤ i) [] (n, _, [], _) (by rfl) rg (by decide +kernel) (by decide +kernel) lF lN ⟨rfl, hn, Nat.le_refl _⟩ ?hk ?turn ?done
  case hk => kst_all
  case turn =>
    rintro i ⟨n', t1', w', t2'⟩ t' u' h' tk' own' hi hoff ⟨hf1, hf2, hf3⟩ F' N'
    dsimp only [kstB] at F' N' hf1 hf2 hf3
    clear lF lN rg
    try k_fold
    k_steps
    · rename (0 : Int) < _ => hp
      have hp' : 0 < n' := by omega
      rw [show 70 - i = (70 - (i + 1)) + 1 by omega, dg_step hp'] at hf1
      refine' kst_end (c := (n' / b, ?d1, (lst S).getD (n' % b) 0 :: w', ?d2)) ?e1 ?e2 (fun p hp => List.mem_append.mpr (.inl hp)) (fun p hp => List.mem_append.mpr (.inr hp)) rfl ⟨hf1, ?f1, ?f2⟩ (List.forall_mem_cons.mpr ⟨?e3, List.forall_mem_cons.mpr ⟨?e5, List.forall_mem_nil _⟩⟩) ?e4 trivial
      case e1 => k_asm
      case e2 => k_asm
      case e3 => rfl
      case e5 => rfl
      case f1 => exact Nat.lt_of_le_of_lt (Nat.div_le_self _ _) hf2
      case f2 => simp only [List.length_cons]; omega
      case e4 => kst_same
    · rename ¬ (0 : Int) < _ => hp
      obtain rfl : n' = 0 := by omega
      rw [show 70 - i = (70 - (i + 1)) + 1 by omega, dg_stop] at hf1
      refine' kst_end (c := (0, ?d3, w', ?d4)) ?e1 ?e2 (fun p hp => List.mem_append.mpr (.inl hp)) (fun p hp => List.mem_append.mpr (.inr hp)) rfl ⟨hf1, ?f1, ?f2⟩ (List.forall_mem_cons.mpr ⟨?e3, List.forall_mem_cons.mpr ⟨?e5, List.forall_mem_nil _⟩⟩) ?e4 trivial
      case e1 => k_asm
      case e2 => k_asm
      case e3 => rfl
      case e5 => rfl
      case f1 => show 0 < 2 ^ 70; decide
      case f2 => exact Nat.le_succ_of_le hf3
      case e4 => kst_same
  case done =>
    rintro ⟨n', t1', w', t2'⟩ u' h' tk' ⟨hf1, hf2, hf3⟩ F' N'
    dsimp only [kstB] at F' N' hf1 hf2 hf3
    clear lF lN rg
    try k_fold
    k_steps
    have e : w' = dg (lst S) b 70 n [] := hf1
    subst e
    exact hret _ _ _ ⟨by k_asm, by k_asm⟩
end Mine
end
section
open PySem PySem.W PySem.Spec PySem.Calls PyProof.Rows
set_option maxRecDepth 100000
namespace Mine
theorem gen_toks {M : Model} {A : Around} {α : Type} {t : Sem α} {Q : α → Shared → Prop} {E : Value → Shared → Prop} {s : Shared} (h : ∀ k, wpAny M A t Q E { s with toks := k }) : wpAny M A t Q E s := h s.toks
theorem st_join {M : Model} {A : Around} {E : Value → Shared → Prop} {s : Shared} {env : Env} {st : Stmt} {rest : List Stmt} {Q : Flow → Shared → Prop} (R : (Shared → Prop) → Prop)
    (h : ∀ P : Shared → Prop, R P → wpAny M A (exec st env) (fun f s' => match f with | .next => P s' | f => Q f s') E s) (k : R fun s₂ => wpAny M A (execs rest env) Q E s₂) : wpAny M A (execs (st :: rest) env) Q E s :=
  wpAny_execs_cons (h _ k)
theorem not_l {a b : Bool} (h : a = false) : ¬ (a = true ∧ b = true) := fun q => Bool.noConfusion (q.1.symm.trans h)
theorem not_r {a b : Bool} (h : b = false) : ¬ (a = true ∧ b = true) := fun q => Bool.noConfusion (q.2.symm.trans h)
theorem ite_f {α : Type} {c : Prop} [Decidable c] {a b x : α} (h : ¬ c) (e : b = x) : (if c then a else b) = x := (if_neg h).trans e
theorem nb {a : Bool} (h : a = false) : ¬ a = true := fun q => Bool.noConfusion (q.symm.trans h)
theorem pos_of {x : Str} (h : (x == Str.ofString "") = false) : (0 : Int) < x.length := by
  have : x.length ≠ 0 := fun q => (beq_eq_false_iff_ne.mp h) (lst_inj (by rw [List.eq_nil_of_length_eq_zero (show (lst x).length = 0 from q)]; rfl))
  omega
theorem bool_q {Q : Value → Shared → Prop} {s : Shared} {a b : Bool} (h : Q (.bool a) s) (e : a = b) : Q (.bool b) s := e ▸ h
/-- what _law_formed tells, as the walk sees it -/
def fW (T e D M : Str) (b n p : Nat) : Bool :=
  if (e != Str.ofString "") = true then false
  else if (D == Str.ofString "") = true then false
  else if 8192 < (T.length : Int) then false
  else if (M != Str.ofString "") = true ∧ (Txt.item M 0 != Str.ofString "_") = true then false
  else if (b : Int) = 2 then true
  else if (b : Int) = 10 ∧ 0 < (n : Int) ∧ (Txt.item D 0 == Str.ofString "0") = true then false
  else if (M == Str.ofString "") = true then true
  else if (M == Str.ofString "__") = true ∨ (p : Int) = (D.length : Int) then false
  else if 0 < (p : Int) then true else ((b : Int) != 10)
theorem item0 {x : Str} (h : lst x ≠ []) : ∃ c R, lst x = c :: R ∧ Txt.item x 0 = st [c] := by
  cases hx : lst x with
  | nil => exact absurd hx h
  | cons c R => exact ⟨c, R, rfl, lst_item (by decide) (by rw [hx]; rfl)⟩
theorem eq_st {x : Str} {R : List Nat} : x = st R ↔ lst x = R := ⟨fun h => by rw [h], fun h => lst_inj h⟩
theorem fW_eq (T e D M : Str) (b n p : Nat) : fW T e D M b n p = (decide (lst e = []) && decide ((lst T).length ≤ 8192) && fm b (lst D) n (lst M) p) := by
  have k1 : (e != Str.ofString "") = true ↔ lst e ≠ [] := by rw [bne_iff_ne]; exact not_congr (eq_st (R := []))
  have k2 : (D == Str.ofString "") = true ↔ lst D = [] := by rw [beq_iff_eq]; exact eq_st (R := [])
  have k3 : (8192 < (T.length : Int)) ↔ ¬ (lst T).length ≤ 8192 := by show (8192 < ((lst T).length : Int)) ↔ _; omega
  have k4 : (M != Str.ofString "") = true ↔ lst M ≠ [] := by rw [bne_iff_ne]; exact not_congr (eq_st (R := []))
  have k5 : (M == Str.ofString "") = true ↔ lst M = [] := by rw [beq_iff_eq]; exact eq_st (R := [])
  have k6 : (M == Str.ofString "__") = true ↔ lst M = [95, 95] := by rw [beq_iff_eq]; exact eq_st (R := [95, 95])
  have k7 : lst M ≠ [] → ((Txt.item M 0 != Str.ofString "_") = true ↔ (lst M).head? ≠ some 95) := fun h => by
    obtain ⟨c, R, h1, h2⟩ := item0 h
    rw [h1, h2, bne_iff_ne]
    show st [c] ≠ st [95] ↔ some c ≠ some 95
    exact not_congr ⟨fun q => by have := st_inj q; simpa using this, fun q => by simp at q; rw [q]⟩
  have k8 : lst D ≠ [] → ((Txt.item D 0 == Str.ofString "0") = true ↔ (lst D).head? = some 48) := fun h => by
    obtain ⟨c, R, h1, h2⟩ := item0 h
    rw [h1, h2, beq_iff_eq]
    show st [c] = st [48] ↔ some c = some 48
    exact ⟨fun q => by have := st_inj q; simpa using this, fun q => by simp at q; rw [q]⟩
  have k9 : ((p : Int) = (D.length : Int)) ↔ p = (lst D).length := by show ((p : Int) = ((lst D).length : Int)) ↔ _; omega
  have k10 : ((b : Int) != 10) = decide (b ≠ 10) := by
    rw [Bool.eq_iff_iff, bne_iff_ne, decide_eq_true_iff]; omega
  unfold fW fm
  by_cases c1 : lst e = []
  · rw [if_neg (fun h => (k1.mp h) c1)]
    by_cases c2 : lst D = []
    · rw [if_pos (k2.mpr c2), if_pos c2, Bool.and_false]
    · rw [if_neg (fun h => c2 (k2.mp h)), if_neg c2]
      by_cases c3 : (lst T).length ≤ 8192
      · rw [if_neg (fun h => (k3.mp h) c3)]
        have e4 : ((M != Str.ofString "") = true ∧ (Txt.item M 0 != Str.ofString "_") = true) ↔ (lst M ≠ [] ∧ (lst M).head? ≠ some 95) :=
          ⟨fun h => ⟨k4.mp h.1, (k7 (k4.mp h.1)).mp h.2⟩, fun h => ⟨k4.mpr h.1, (k7 h.1).mpr h.2⟩⟩
        have e5 : ((b : Int) = 10 ∧ 0 < (n : Int) ∧ (Txt.item D 0 == Str.ofString "0") = true) ↔ (b = 10 ∧ 0 < n ∧ (lst D).head? = some 48) :=
          ⟨fun h => ⟨by omega, by omega, (k8 c2).mp h.2.2⟩, fun h => ⟨by omega, by omega, (k8 c2).mpr h.2.2⟩⟩
        have e6 : ((M == Str.ofString "__") = true ∨ (p : Int) = (D.length : Int)) ↔ (lst M = [95, 95] ∨ p = (lst D).length) := or_congr k6 k9
        have e7 : ((b : Int) = 2) ↔ b = 2 := by omega
        have e8 : (0 < (p : Int)) ↔ 0 < p := by omega
        simp only [e4, e5, e6, e7, e8, k5, k10, c1, c3, decide_true, Bool.true_and]
      · rw [if_pos (k3.mpr c3), decide_eq_false c3, Bool.and_false, Bool.false_and]
  · rw [if_pos (k1.mpr c1), decide_eq_false c1, Bool.false_and, Bool.false_and]
local macro_rules | `(tactic| walk_at "subscriptTail Name Constant str int") => `(tactic| (k_here; (with_reducible show wpAny _ _ (subscriptTail _ _ (Value.str _ _) (Value.int 0 _)) _ _ _); k_dflt (refine' item_str ?r ?a ?b ?_ ?s ?t; (case r => decide); (case a => omega); (case b => exact pos_of (by assumption)); walk_at "my st"); intro l9))
set_option maxHeartbeats 8000000 in
theorem c_formed (w : World) (news : List (Addr × Obj)) (T e D M : Str) (b n p : Nat) (t1 t2 t3 t4 t5 t6 t7 : Tok) (hT : T.length ≤ 20000) (hD : D.length ≤ 20000) (hM : M.length ≤ 2) (hp : p ≤ D.length) :
    Con4 1 w 97 [.str T t1, .str e t2, .int (b : Int) t3, .str D t4, .int (n : Int) t5, .str M t6, .int (p : Int) t7] news
      (fun K Q => ∀ h' tk', K h' news → Q (.bool (decide (lst e = []) && decide ((lst T).length ≤ 8192) && fm b (lst D) n (lst M) p)) h' tk') := by
  delta Con4 Prog4; k_fill
  k_with_none
  intro pp loose mean mg mb dp un gd cn cs a ccd cl outer A₀ base h₀ L m s Q E B F X N TT hck hd hu hret
  refine wpAny_call ?_
  k_dflt cell_enter
  refine gen_toks ?_
  intro tk1
  rename_i g1 L1 h1 FG1 F1 N1 B1 X1 T1
  dsimp only
  refine st_join (fun P => ∀ tk, (e != Str.ofString "") = false → (D == Str.ofString "") = false → ¬ 8192 < (T.length : Int) → P { s with heap := h1, toks := tk }) ?_ ?_
  · intro P hP
    k_steps
    all_goals first
     | exact hP _ (by with_reducible assumption) (by with_reducible assumption) (by with_reducible assumption)
     | exact bool_q (hret _ _ ⟨by k_asm, by k_asm⟩) ((fW_eq T e D M b n p).symm.trans (if_pos (by with_reducible assumption)))
     | exact bool_q (hret _ _ ⟨by k_asm, by k_asm⟩) ((fW_eq T e D M b n p).symm.trans (ite_f (nb (by with_reducible assumption)) (if_pos (by with_reducible assumption))))
     | exact bool_q (hret _ _ ⟨by k_asm, by k_asm⟩) ((fW_eq T e D M b n p).symm.trans (ite_f (nb (by with_reducible assumption)) (ite_f (nb (by with_reducible assumption)) (if_pos (by with_reducible assumption)))))
  intro tk a1 a2 a3
  refine st_join (fun P => ∀ tk, ¬ ((M != Str.ofString "") = true ∧ (Txt.item M 0 != Str.ofString "_") = true) → P { s with heap := h1, toks := tk }) ?_ ?_
  · intro P hP
    k_steps
    all_goals first
     | exact hP _ (not_l (by with_reducible assumption))
     | exact hP _ (not_r (by with_reducible assumption))
     | exact bool_q (hret _ _ ⟨by k_asm, by k_asm⟩) ((fW_eq T e D M b n p).symm.trans (ite_f (nb a1) (ite_f (nb a2) (ite_f a3 (if_pos ⟨(by with_reducible assumption), (by with_reducible assumption)⟩)))))
  intro tk a4
  refine st_join (fun P => ∀ tk, ((b : Nat) : Int) ≠ 2 → P { s with heap := h1, toks := tk }) ?_ ?_
  · intro P hP
    k_steps
    all_goals first
     | exact hP _ (by with_reducible assumption)
     | exact bool_q (hret _ _ ⟨by k_asm, by k_asm⟩) ((fW_eq T e D M b n p).symm.trans (ite_f (nb a1) (ite_f (nb a2) (ite_f a3 (ite_f a4 (if_pos (by with_reducible assumption)))))))
  intro tk a5
  refine st_join (fun P => ∀ tk, ¬ (((b : Nat) : Int) = 10 ∧ 0 < ((n : Nat) : Int) ∧ (Txt.item D 0 == Str.ofString "0") = true) → P { s with heap := h1, toks := tk }) ?_ ?_
  · intro P hP
    k_steps
    all_goals first
     | exact hP _ (fun q => absurd q.1 (by with_reducible assumption))
     | exact hP _ (fun q => absurd q.2.1 (by with_reducible assumption))
     | exact hP _ (fun q => Bool.noConfusion (q.2.2.symm.trans (by with_reducible assumption)))
     | exact bool_q (hret _ _ ⟨by k_asm, by k_asm⟩) ((fW_eq T e D M b n p).symm.trans (ite_f (nb a1) (ite_f (nb a2) (ite_f a3 (ite_f a4 (ite_f a5 (if_pos ⟨(by with_reducible assumption), (by with_reducible assumption), (by with_reducible assumption)⟩)))))))
  intro tk a6
  k_steps
  all_goals first
     | exact bool_q (hret _ _ ⟨by k_asm, by k_asm⟩) ((fW_eq T e D M b n p).symm.trans (ite_f (nb a1) (ite_f (nb a2) (ite_f a3 (ite_f a4 (ite_f a5 (ite_f a6 (if_pos (by with_reducible assumption)))))))))
     | exact bool_q (hret _ _ ⟨by k_asm, by k_asm⟩) ((fW_eq T e D M b n p).symm.trans (ite_f (nb a1) (ite_f (nb a2) (ite_f a3 (ite_f a4 (ite_f a5 (ite_f a6 (ite_f (nb (by with_reducible assumption)) (if_pos (.inl (by with_reducible assumption)))))))))))
     | exact bool_q (hret _ _ ⟨by k_asm, by k_asm⟩) ((fW_eq T e D M b n p).symm.trans (ite_f (nb a1) (ite_f (nb a2) (ite_f a3 (ite_f a4 (ite_f a5 (ite_f a6 (ite_f (nb (by with_reducible assumption)) (if_pos (.inr (by with_reducible assumption)))))))))))
     | exact bool_q (hret _ _ ⟨by k_asm, by k_asm⟩) ((fW_eq T e D M b n p).symm.trans (ite_f (nb a1) (ite_f (nb a2) (ite_f a3 (ite_f a4 (ite_f a5 (ite_f a6 (ite_f (nb (by with_reducible assumption)) (ite_f (fun q => q.elim (nb (by with_reducible assumption)) (by with_reducible assumption)) (if_pos (by with_reducible assumption)))))))))))
     | exact bool_q (hret _ _ ⟨by k_asm, by k_asm⟩) ((fW_eq T e D M b n p).symm.trans (ite_f (nb a1) (ite_f (nb a2) (ite_f a3 (ite_f a4 (ite_f a5 (ite_f a6 (ite_f (nb (by with_reducible assumption)) (ite_f (fun q => q.elim (nb (by with_reducible assumption)) (by with_reducible assumption)) (if_neg (by with_reducible assumption)))))))))))
end Mine
end
section
open PySem PySem.W PySem.Spec PySem.Calls PyProof.Rows
set_option maxRecDepth 100000
namespace Mine
/-- what a call of a def with a try comes to, from the law itself -/
abbrev ConW (w : World) (f : Addr) (vs : List Value) (news : List (Addr × Obj)) (Ret : ((Heap → List (Addr × Obj) → Prop) → (Value → Heap → Nat → Prop) → Prop)) : Prop :=
  ∀ (p : Program) (loose : List Str) (mean : ExcName → Option Value) (mg mb : Str → Option Value) (dp un : Nat) (gd : Option (List Code)) (cn : Str) (cs : Scope) (a : Addr) (ccd : Value) (A₀ : Around) (base h₀ : Heap) (L : Addr) (m : Str → Option Value) (s : Shared) (Q E : Value → Shared → Prop),
    Below A₀ base [] h₀ → Fr h₀ L s.heap m → (hd4.heap_39 w.params).In h₀ → News h₀ L s.heap news → Top p loose mean mg mb h₀ → (hd4.heap_39 w.params).In base → Top p loose mean mg mb base →
    cs.kind = .function → dp + 6 < recursionLimit → un + 60 < cLine →
    Ret (fun h' nw => Fr h₀ L h' m ∧ News h₀ L h' nw) (fun v h' tk' => Q v { s with heap := h', toks := tk' }) →
      wpAny (model Prog4 w) (ktrTop dp un gd cn cs L a ccd [] []) (call (.ref f) vs) Q E s
theorem use_w {w : World} {f : Addr} {vs : List Value} {news : List (Addr × Obj)} {Ret : ((Heap → List (Addr × Obj) → Prop) → (Value → Heap → Nat → Prop) → Prop)} (C : ConW w f vs news Ret)
    {p : Program} {loose : List Str} {mean : ExcName → Option Value} {mg mb : Str → Option Value} {dp un : Nat} {gd : Option (List Code)} {cn : Str} {cs : Scope} {a : Addr} {ccd : Value} {A₀ : Around} {base h₀ : Heap} {L : Addr} {m : Str → Option Value} {s : Shared} {Q E : Value → Shared → Prop}
    (B : Below A₀ base [] h₀) (F : Fr h₀ L s.heap m) (X : (hd4.heap_39 w.params).In h₀) (N : News h₀ L s.heap news) (T : Top p loose mean mg mb h₀) (XB : (hd4.heap_39 w.params).In base) (TB : Top p loose mean mg mb base) (hk : cs.kind = .function) (hd : dp + 6 < recursionLimit) (hu : un + 60 < cLine)
    (h : Ret (fun h' nw => Fr h₀ L h' m ∧ News h₀ L h' nw) (fun v h' tk' => Q v { s with heap := h', toks := tk' })) :
      wpAny (model Prog4 w) (ktrTop dp un gd cn cs L a ccd [] []) (call (.ref f) vs) Q E s := C _ _ _ _ _ _ _ _ _ _ _ _ _ _ _ _ _ _ _ _ B F X N T XB TB hk hd hu h
local macro_rules | `(tactic| walk_at "call ref") => `(tactic| walk_at "my def")
local macro_rules | `(tactic| walk_at "call ref") => `(tactic| walk_at "my mask")
local macro_rules | `(tactic| walk_at "exec Raise some none") => `(tactic| walk_at "my raise")
theorem turn_fr {fs : List Addr} {h₀ kg h : Heap} {L : Addr} {m : Str → Option Value} (T : KtsTurn fs h₀ kg) (hf : fs = []) (F : Fr kg L h m) : Fr h₀ L h m :=
  ⟨F.ns, fun b o e => F.keep b o (T.other b o e (by rw [hf]; exact List.not_mem_nil)), by rw [← T.size]; exact F.above⟩
theorem turn_nw {fs : List Addr} {h₀ kg h : Heap} {L : Addr} {news : List (Addr × Obj)} (T : KtsTurn fs h₀ kg) (hf : fs = []) (N : News kg L h news) : News h₀ L h news := fun q hq => ⟨(N q hq).1, (N q hq).2.1, by
  cases e : h₀.get? q.1 with
  | none => rfl
  | some o =>
    have x := (N q hq).2.2
    rw [T.other _ o e (by rw [hf]; exact List.not_mem_nil)] at x; cases x⟩
theorem str_q {Q : Value → Shared → Prop} {s : Shared} {a b : Str} {t : Tok} (h : Q (.str a t) s) (e : b = a) : Q (.str b t) s := e ▸ h
set_option maxHeartbeats 8000000 in
theorem p_fits (w : World) (n k : Nat) (t1 t2 : Tok) (hn : n < 2 ^ 70) (hk : k ≤ 70) (news : List (Addr × Obj)) :
    ConW w 125 [.int (n : Int) t1, .int (k : Int) t2] news (fun K Q => (n < 2 ^ k → ∀ h' tk', K h' news → Q .none h' tk') ∧
      (¬ n < 2 ^ k → ∀ t h' tk', K h' news → Q (.str (Str.ofString (toString (n : Int)) ++ Str.ofString " needs more than " ++ Str.ofString (toString (k : Int)) ++ Str.ofString " bits") t) h' tk')) := by
  delta ConW Prog4; k_fill
  k_with_none
  intro p loose mean mg mb dp un gd cn cs a ccd A₀ base h₀ L m s Q E B F X N T XB TB hck hd hu hret
  refine wpAny_call ?_
  k_dflt (refine' code_defS ?k1 ?k2 ?k3 ?k4 ?k5 ?XB ?TB ?D ?T0 ?kA ?k6 ?k7 ?k8 ?k9 ?kB ?_ ?cK ?c2 ?c3 ?c4 ?c5; (case kA => exact rfl); (case k2 => k_asm); (case k1 => k_asm); (case XB => assumption); (case TB => assumption); (case D => exact ktsDicts_nil); (case T0 => exact KtsTurn.refl); (case k3 => k_asm); (case k4 => k_asm); (case k5 => k_asm); (case k6 => k_is); (case k7 => k_is); (case k8 => ktr_room); (case k9 => exact BindsTo.of_eq rfl); (case kB => exact locs rfl); (case cK => assumption); (case c2 => exact rfl); (case c3 => exact rfl); (case c4 => exact rfl); (case c5 => decide))
  intro g' L' h' FG' F' N' B' X' T' D'
  (try dsimp only); (try k_lift B'); (try k_fold)
  k_steps
  · rename KtsTurn _ h₀ _ => kT
    rename ((2 ^ k : Nat) : Int) - 1 < _ => lt9
    exact str_q (hret.2 (by omega) _ _ _ ⟨turn_fr kT rfl (by k_asm), turn_nw kT rfl (by k_asm)⟩) (by rw [empty_app])
  · rename ¬ ((2 ^ k : Nat) : Int) - 1 < _ => lt9
    exact hret.1 (by omega) _ _ ⟨by k_asm, by k_asm⟩
end Mine
end
section
open PySem PySem.W PySem.Spec PySem.Calls PyProof.Rows
set_option maxRecDepth 100000
namespace Mine
section
variable {prog : Program} {w : World} {A : Around} {E : Value → Shared → Prop} {s : Shared} {Q : Value → Shared → Prop} {n m k : Nat} {i : Int} {t u : Tok}
theorem or_n4 (h : Q (.int ((n ||| m : Nat) : Int) s.toks) { s with toks := s.toks + 1 }) : wpAny (model prog w) A (binaryOp .BitOr (.int (n : Int) t) (.int (m : Int) u)) Q E s :=
  or_int (by rw [orI]; exact h)
theorem shl_n4 (hn : n < 2 ^ 64) (hm : m ≤ 1000) (h : Q (.int ((n <<< m : Nat) : Int) s.toks) { s with toks := s.toks + 1 }) : wpAny (model prog w) A (binaryOp .LShift (.int (n : Int) t) (.int (m : Int) u)) Q E s :=
  lshift_int_small (by omega) (by omega) (by omega) (by rw [Int.toNat_natCast, shlI]; exact h)
theorem shr_n4 (hi : 0 ≤ i) (h : Q (.int ((n >>> i.toNat : Nat) : Int) s.toks) { s with toks := s.toks + 1 }) : wpAny (model prog w) A (binaryOp .RShift (.int (n : Int) t) (.int i u)) Q E s :=
  rshift_int hi (by rw [shrI]; exact h)
theorem and_m4 (h : Q (.int ((n % 2 ^ k : Nat) : Int) s.toks) { s with toks := s.toks + 1 }) : wpAny (model prog w) A (binaryOp .BitAnd (.int (n : Int) t) (.int (((2 ^ k : Nat) : Int) - 1) u)) Q E s := by
  have e : (((2 ^ k : Nat) : Int) - 1) = ((2 ^ k - 1 : Nat) : Int) := by
    have : 1 ≤ 2 ^ k := Nat.one_le_two_pow
    omega
  rw [e]
  exact and_int (by rw [andI, and_mask]; exact h)
theorem imod_n4 (hk : 0 < k) (h : Q (.int (((i.fmod k).toNat : Nat) : Int) s.toks) { s with toks := s.toks + 1 }) : wpAny (model prog w) A (inplaceOp .Mod (.int i t) (.int (k : Int) u)) Q E s :=
  imod_int (by omega) (by rw [← Int.toNat_of_nonneg (Int.fmod_nonneg_of_pos i (b := (k : Int)) (by omega))]; exact h)
theorem imod_0 (hA : A.handled = none) (hk : k = 0) (h : ∀ h' tk e, Heap.NewExc s.heap h' e "ZeroDivisionError" → E (.ref e) { s with heap := h', toks := tk }) : wpAny (model prog w) A (inplaceOp .Mod (.int i t) (.int (k : Int) u)) Q E s :=
  imod_int_or hA (fun _ => h) (fun q => absurd (by rw [hk]; rfl) q)
end
theorem fm_lt {k : Nat} (i : Int) (hk : 0 < k) : (i.fmod k).toNat < k := by
  have : i.fmod (k : Int) < k := Int.fmod_lt_of_pos _ (by omega)
  have : 0 ≤ i.fmod (k : Int) := Int.fmod_nonneg_of_pos _ (by omega)
  omega
theorem fm_sub {k : Nat} (i : Int) (hk : 0 < k) : 0 ≤ (k : Int) - (((i.fmod k).toNat : Nat) : Int) := by have := fm_lt i hk; omega
theorem fm_sub' {k : Nat} (i : Int) (hk : 0 < k) : ((k : Int) - (((i.fmod k).toNat : Nat) : Int)).toNat = k - (i.fmod k).toNat := by have := fm_lt i hk; omega
theorem shr_sub {prog : Program} {w : World} {A : Around} {E : Value → Shared → Prop} {s : Shared} {Q : Value → Shared → Prop} {n k : Nat} {i : Int} {t u : Tok} (hk : 0 < k) (h : Q (.int ((n >>> (k - (i.fmod k).toNat) : Nat) : Int) s.toks) { s with toks := s.toks + 1 }) : wpAny (model prog w) A (binaryOp .RShift (.int (n : Int) t) (.int ((k : Int) - (((i.fmod k).toNat : Nat) : Int)) u)) Q E s :=
  rshift_int (fm_sub i hk) (by rw [fm_sub' i hk, shrI]; exact h)
theorem shr_m4 {prog : Program} {w : World} {A : Around} {E : Value → Shared → Prop} {s : Shared} {Q : Value → Shared → Prop} {n m : Nat} {t u : Tok} (h : Q (.int ((n >>> m : Nat) : Int) s.toks) { s with toks := s.toks + 1 }) : wpAny (model prog w) A (binaryOp .RShift (.int (n : Int) t) (.int (m : Int) u)) Q E s :=
  rshift_int (Int.natCast_nonneg _) (by rw [Int.toNat_natCast, shrI]; exact h)
theorem shl_sub {prog : Program} {w : World} {A : Around} {E : Value → Shared → Prop} {s : Shared} {Q : Value → Shared → Prop} {n k : Nat} {i : Int} {t u : Tok} (hn : n < 2 ^ 64) (hk : 0 < k) (hk1 : k ≤ 70) (h : Q (.int ((n <<< (k - (i.fmod k).toNat) : Nat) : Int) s.toks) { s with toks := s.toks + 1 }) : wpAny (model prog w) A (binaryOp .LShift (.int (n : Int) t) (.int ((k : Int) - (((i.fmod k).toNat : Nat) : Int)) u)) Q E s := by
  have := fm_lt i hk
  refine lshift_int_small (by omega) (by omega) (by omega) ?_
  rw [fm_sub' i hk, shlI]; exact h
local macro_rules | `(tactic| walk_at "call ref") => `(tactic| walk_at "my def")
local macro_rules | `(tactic| walk_at "call ref") => `(tactic| walk_at "my mask")
local macro_rules | `(tactic| walk_at "binaryOp BitOr int int") => `(tactic| (k_here; k_dflt (refine' or_n4 ?_)))
local macro_rules | `(tactic| walk_at "binaryOp LShift int int") => `(tactic| (k_here; k_dflt (first | (with_reducible refine' shl_n4 ?a ?b ?_; (case a => assumption); (case b => exact Nat.le_trans (Nat.le_of_lt (fm_lt _ (by assumption))) (by omega))) | (with_reducible refine' shl_sub ?a ?c ?b ?_; (case a => assumption); (case c => assumption); (case b => assumption)))))
local macro_rules | `(tactic| walk_at "binaryOp RShift int int") => `(tactic| (k_here; k_dflt (first | (with_reducible refine' shr_sub ?a ?_; (case a => assumption)) | (with_reducible refine' shr_m4 ?_))))
local macro_rules | `(tactic| walk_at "binaryOp BitAnd int int") => `(tactic| (k_here; k_dflt (refine' and_m4 ?_)))
local macro_rules | `(tactic| walk_at "inplaceOp Mod int int") => `(tactic| (k_here; k_dflt (first | (refine' imod_n4 ?a ?_; (case a => assumption)) | (refine' imod_0 ?a ?b ?_; (case a => exact rfl); (case b => assumption)))))
set_option maxHeartbeats 3000000 in
theorem p_left (w : World) (n k : Nat) (z : Int) (t1 t2 t3 : Tok) (hn : n < 2 ^ 64) (hk1 : k ≤ 70) (hk : 0 < k) (news : List (Addr × Obj)) :
    ConW w 132 [.int (n : Int) t1, .int z t2, .int (k : Int) t3] news (fun K Q => ∀ D t h' tk', K h' ((D, { cls := .type "tuple", data := .seq #[.bool true, .int ((rotN n (z.fmod k).toNat k : Nat) : Int) t] }) :: news) → (∀ q ∈ news, q.1 ≠ D) → Q (.ref D) h' tk') := by
  delta ConW Prog4; k_fill
  k_with_none
  intro p loose mean mg mb dp un gd cn cs a ccd A₀ base h₀ L m s Q E B F X N T XB TB hck hd hu hret
  refine wpAny_call ?_
  k_dflt (refine' code_defS ?k1 ?k2 ?k3 ?k4 ?k5 ?XB ?TB ?D ?T0 ?kA ?k6 ?k7 ?k8 ?k9 ?kB ?_ ?cK ?c2 ?c3 ?c4 ?c5; (case kA => exact rfl); (case k2 => k_asm); (case k1 => k_asm); (case XB => assumption); (case TB => assumption); (case D => exact ktsDicts_nil); (case T0 => exact KtsTurn.refl); (case k3 => k_asm); (case k4 => k_asm); (case k5 => k_asm); (case k6 => k_is); (case k7 => k_is); (case k8 => ktr_room); (case k9 => exact BindsTo.of_eq rfl); (case kB => exact locs rfl); (case cK => assumption); (case c2 => exact rfl); (case c3 => exact rfl); (case c4 => exact rfl); (case c5 => decide))
  intro g' L' h' FG' F' N' B' X' T' D'
  (try dsimp only); (try k_lift B'); (try k_fold)
  k_steps
  rename News h₀ _ _ _ => kN
  exact hret _ _ _ _ ⟨by k_asm, kN⟩ (fun q hq => Nat.ne_of_lt ((by assumption : ∀ p ∈ news, p.1 < _) q hq))
set_option maxHeartbeats 3000000 in
theorem p_right (w : World) (n k : Nat) (z : Int) (t1 t2 t3 : Tok) (hn : n < 2 ^ 64) (hk1 : k ≤ 70) (hk : 0 < k) (news : List (Addr × Obj)) :
    ConW w 139 [.int (n : Int) t1, .int z t2, .int (k : Int) t3] news (fun K Q => ∀ D t h' tk', K h' ((D, { cls := .type "tuple", data := .seq #[.bool true, .int (((n >>> (z.fmod k).toNat ||| n <<< (k - (z.fmod k).toNat)) % 2 ^ k : Nat) : Int) t] }) :: news) → (∀ q ∈ news, q.1 ≠ D) → Q (.ref D) h' tk') := by
  delta ConW Prog4; k_fill
  k_with_none
  intro p loose mean mg mb dp un gd cn cs a ccd A₀ base h₀ L m s Q E B F X N T XB TB hck hd hu hret
  refine wpAny_call ?_
  k_dflt (refine' code_defS ?k1 ?k2 ?k3 ?k4 ?k5 ?XB ?TB ?D ?T0 ?kA ?k6 ?k7 ?k8 ?k9 ?kB ?_ ?cK ?c2 ?c3 ?c4 ?c5; (case kA => exact rfl); (case k2 => k_asm); (case k1 => k_asm); (case XB => assumption); (case TB => assumption); (case D => exact ktsDicts_nil); (case T0 => exact KtsTurn.refl); (case k3 => k_asm); (case k4 => k_asm); (case k5 => k_asm); (case k6 => k_is); (case k7 => k_is); (case k8 => ktr_room); (case k9 => exact BindsTo.of_eq rfl); (case kB => exact locs rfl); (case cK => assumption); (case c2 => exact rfl); (case c3 => exact rfl); (case c4 => exact rfl); (case c5 => decide))
  intro g' L' h' FG' F' N' B' X' T' D'
  (try dsimp only); (try k_lift B'); (try k_fold)
  k_steps
  rename News h₀ _ _ _ => kN
  exact hret _ _ _ _ ⟨by k_asm, kN⟩ (fun q hq => Nat.ne_of_lt ((by assumption : ∀ p ∈ news, p.1 < _) q hq))
set_option maxHeartbeats 3000000 in
theorem p_left0 (w : World) (n k : Nat) (z : Int) (t1 t2 t3 : Tok) (hn : n < 2 ^ 64) (hk1 : k ≤ 70) (hk : k = 0) (news : List (Addr × Obj)) :
    ConW w 132 [.int (n : Int) t1, .int z t2, .int (k : Int) t3] news (fun K Q => ∀ D t h' tk', K h' ((D, { cls := .type "tuple", data := .seq #[.bool false, .str (Str.ofString "refused") t] }) :: news) → (∀ q ∈ news, q.1 ≠ D) → Q (.ref D) h' tk') := by
  delta ConW Prog4; k_fill
  k_with_none
  intro p loose mean mg mb dp un gd cn cs a ccd A₀ base h₀ L m s Q E B F X N T XB TB hck hd hu hret
  refine wpAny_call ?_
  k_dflt (refine' code_defS ?k1 ?k2 ?k3 ?k4 ?k5 ?XB ?TB ?D ?T0 ?kA ?k6 ?k7 ?k8 ?k9 ?kB ?_ ?cK ?c2 ?c3 ?c4 ?c5; (case kA => exact rfl); (case k2 => k_asm); (case k1 => k_asm); (case XB => assumption); (case TB => assumption); (case D => exact ktsDicts_nil); (case T0 => exact KtsTurn.refl); (case k3 => k_asm); (case k4 => k_asm); (case k5 => k_asm); (case k6 => k_is); (case k7 => k_is); (case k8 => ktr_room); (case k9 => exact BindsTo.of_eq rfl); (case kB => exact locs rfl); (case cK => assumption); (case c2 => exact rfl); (case c3 => exact rfl); (case c4 => exact rfl); (case c5 => decide))
  intro g' L' h' FG' F' N' B' X' T' D'
  (try dsimp only); (try k_lift B'); (try k_fold)
  k_steps
  rename KtsTurn _ h₀ _ => kT
  rename News _ L _ _ => kN
  exact hret _ _ _ _ ⟨turn_fr kT rfl (by k_asm), turn_nw kT rfl kN⟩ (fun q hq => Nat.ne_of_lt ((by assumption : ∀ p ∈ news, p.1 < _) q hq))
set_option maxHeartbeats 3000000 in
theorem p_right0 (w : World) (n k : Nat) (z : Int) (t1 t2 t3 : Tok) (hn : n < 2 ^ 64) (hk1 : k ≤ 70) (hk : k = 0) (news : List (Addr × Obj)) :
    ConW w 139 [.int (n : Int) t1, .int z t2, .int (k : Int) t3] news (fun K Q => ∀ D t h' tk', K h' ((D, { cls := .type "tuple", data := .seq #[.bool false, .str (Str.ofString "refused") t] }) :: news) → (∀ q ∈ news, q.1 ≠ D) → Q (.ref D) h' tk') := by
  delta ConW Prog4; k_fill
  k_with_none
  intro p loose mean mg mb dp un gd cn cs a ccd A₀ base h₀ L m s Q E B F X N T XB TB hck hd hu hret
  refine wpAny_call ?_
  k_dflt (refine' code_defS ?k1 ?k2 ?k3 ?k4 ?k5 ?XB ?TB ?D ?T0 ?kA ?k6 ?k7 ?k8 ?k9 ?kB ?_ ?cK ?c2 ?c3 ?c4 ?c5; (case kA => exact rfl); (case k2 => k_asm); (case k1 => k_asm); (case XB => assumption); (case TB => assumption); (case D => exact ktsDicts_nil); (case T0 => exact KtsTurn.refl); (case k3 => k_asm); (case k4 => k_asm); (case k5 => k_asm); (case k6 => k_is); (case k7 => k_is); (case k8 => ktr_room); (case k9 => exact BindsTo.of_eq rfl); (case kB => exact locs rfl); (case cK => assumption); (case c2 => exact rfl); (case c3 => exact rfl); (case c4 => exact rfl); (case c5 => decide))
  intro g' L' h' FG' F' N' B' X' T' D'
  (try dsimp only); (try k_lift B'); (try k_fold)
  k_steps
  rename KtsTurn _ h₀ _ => kT
  rename News _ L _ _ => kN
  exact hret _ _ _ _ ⟨turn_fr kT rfl (by k_asm), turn_nw kT rfl kN⟩ (fun q hq => Nat.ne_of_lt ((by assumption : ∀ p ∈ news, p.1 < _) q hq))
end Mine
end
section
open PySem PySem.W PySem.Spec PySem.Calls PyProof.Rows
set_option maxRecDepth 100000
namespace Mine
theorem idx01 : ∀ c, c < 50 → 48 ≤ c → Builtin.Str.occurrences (Str.ofString "01") (st [c]) 0 (Str.ofString "01").length 1 = [c - 48] := by decide +kernel
theorem idx_line4 {prog : Program} {w : World} {A : Around} {E : Value → Shared → Prop} {s : Shared} {x y : Str} {t u : Tok} {i : Nat} {Q : Value → Shared → Prop} (ho : Builtin.Str.occurrences x y 0 x.length 1 = [i]) (h : Q (.int (i : Nat) s.toks) { s with toks := s.toks + 1 }) :
    wpAny (model prog w) A (call (.builtin "str.index") [.str x t, .str y u]) Q E s := SC.index ho h
theorem tmod_n {prog : Program} {w : World} {A : Around} {E : Value → Shared → Prop} {s : Shared} {Q : Value → Shared → Prop} {i : Int} {k : Nat} {t u : Tok} (hk : 0 < k) (h : Q (.int (((i.fmod k).toNat : Nat) : Int) s.toks) { s with toks := s.toks + 1 }) :
    wpAny (model prog w) A (binaryOp .Mod (.int i t) (.int (k : Int) u)) Q E s :=
  mod_int (by omega) (by rw [← Int.toNat_of_nonneg (Int.fmod_nonneg_of_pos i (b := (k : Int)) (by omega))]; exact h)
theorem mul0 {prog : Program} {w : World} {A : Around} {E : Value → Shared → Prop} {s : Shared} {Q : Value → Shared → Prop} {i : Int} {t u : Tok} (hi : i ≤ 20000) (hi0 : -20000 ≤ i) (h : ∀ t' k, Q (.str (st (List.replicate i.toNat 48)) t') { s with toks := k }) :
    wpAny (model prog w) A (binaryOp .Mult (.str (Str.ofString "0") t) (.int i u)) Q E s := by
  refine SB.mul (mulOk_of 1 20000 (by decide) (by omega) (by omega) (by decide) (by decide)) (fun t' k => ?_)
  have e : Txt.mul (Str.ofString "0") i = st (List.replicate i.toNat 48) := lst_inj (lst_mul0 48 i)
  rw [e]; exact h t' k
theorem len_st {prog : Program} {w : World} {A : Around} {E : Value → Shared → Prop} {s : Shared} {Q : Value → Shared → Prop} {X : List Nat} {t : Tok} (hX : X.length ≤ 20000) (h : Q (.int (X.length : Nat) (s.toks + 1)) { s with toks := s.toks + 1 + 1 }) : wpAny (model prog w) A (call (.builtin "len") [.str (st X) t]) Q E s :=
  PySem.P.len_str (by rw [st_len]; omega) (by rw [st_len]; exact h)
theorem take_st {X : List Nat} {m : Nat} : Txt.slice (st X) none (some (m : Int)) = st (X.take m) := lst_inj (by rw [lst_take _ (by omega), Int.toNat_natCast])
theorem drop_st {X : List Nat} {m : Nat} : Txt.slice (st X) (some (m : Int)) none = st (X.drop m) := lst_inj (by rw [lst_drop _ (by omega), Int.toNat_natCast])
theorem slice_t {prog : Program} {w : World} {A : Around} {E : Value → Shared → Prop} {s : Shared} {Q : Value → Shared → Prop} {value slice : PySem.Expr} {h₀ : Heap} {L : Addr} {mm : Str → Option Value} {news : List (Addr × Obj)} {X : List Nat} {m : Nat} {t uj : Tok} (hX : X.length ≤ 20000) (hF : Fr h₀ L s.heap mm) (hN : News h₀ L s.heap news)
    (h : ∀ h' t' k, Fr h₀ L h' mm → News h₀ L h' news → Q (.str (st (X.take m)) t') { s with heap := h', toks := k })
    (hs : subscripted slice false (.str (st X) t) (.ref s.heap.objs.size) = operate [.ref s.heap.objs.size, .str (st X) t] (getItem (.str (st X) t) (.ref s.heap.objs.size)) := by with_unfolding_all rfl)
    (ht : ∀ r, letTemporaryGo value (.str (st X) t) r = pure () := by intro _; with_unfolding_all rfl) :
    wpAny (model prog w) A (subscriptTail value slice (.str (st X) t) (.ref s.heap.objs.size)) Q E { s with heap := s.heap.push { cls := .type "slice", data := .fields #[.none, .int (m : Int) uj, .none] } } :=
  slice_strN_ns hF hN (fun h' t' k a b => by rw [take_st]; exact h h' t' k a b) hs ht (by rw [st_len]; exact Nat.le_trans hX (by decide))
theorem slice_d {prog : Program} {w : World} {A : Around} {E : Value → Shared → Prop} {s : Shared} {Q : Value → Shared → Prop} {value slice : PySem.Expr} {h₀ : Heap} {L : Addr} {mm : Str → Option Value} {news : List (Addr × Obj)} {X : List Nat} {m : Nat} {t uj : Tok} (hX : X.length ≤ 20000) (hF : Fr h₀ L s.heap mm) (hN : News h₀ L s.heap news)
    (h : ∀ h' t' k, Fr h₀ L h' mm → News h₀ L h' news → Q (.str (st (X.drop m)) t') { s with heap := h', toks := k })
    (hs : subscripted slice false (.str (st X) t) (.ref s.heap.objs.size) = operate [.ref s.heap.objs.size, .str (st X) t] (getItem (.str (st X) t) (.ref s.heap.objs.size)) := by with_unfolding_all rfl)
    (ht : ∀ r, letTemporaryGo value (.str (st X) t) r = pure () := by intro _; with_unfolding_all rfl) :
    wpAny (model prog w) A (subscriptTail value slice (.str (st X) t) (.ref s.heap.objs.size)) Q E { s with heap := s.heap.push { cls := .type "slice", data := .fields #[.int (m : Int) uj, .none, .none] } } :=
  slice_strN_sn hF hN (fun h' t' k a b => by rw [drop_st]; exact h h' t' k a b) hs ht (by rw [st_len]; exact Nat.le_trans hX (by decide))
/-- what the loop of _law_turned has gathered -/
def due (l : List Int) : Nat := val 2 (l.map Int.toNat)
theorem due_snoc {pre : List Int} {c : Nat} (h : 48 ≤ c ∧ c < 50) : due (pre ++ [(c : Int)]) = 2 * due pre + (c - 48) := by
  unfold due
  rw [List.map_append, val_app]
  have : c = 48 ∨ c = 49 := by omega
  rcases this with rfl | rfl
  · show val 2 _ * 2 ^ 1 + 0 = _; omega
  · show val 2 _ * 2 ^ 1 + 1 = _; omega
theorem codes_nat4 (y : Str) : (KStt.codes y).map Int.toNat = lst y := by
  unfold KStt.codes
  rw [List.map_map]
  exact (List.map_congr_left (g := _root_.id) fun c _ => Int.toNat_natCast c).trans (List.map_id _)
theorem sign01 {Y : List Nat} {pre post : List Int} {c : Nat} (hY : ∀ d ∈ Y, 48 ≤ d ∧ d < 50) (hy : KStt.codes (st Y) = pre ++ (c : Int) :: post) : 48 ≤ c ∧ c < 50 := by
  refine hY c ?_
  have := codes_nat4 (st Y)
  rw [hy, List.map_append, List.map_cons] at this
  have h2 : Y = pre.map Int.toNat ++ c :: post.map Int.toNat := by rw [← lst_st Y, ← this]; simp
  rw [h2]; simp
theorem dg01 (n : Nat) : ∀ d ∈ dg [48, 49] 2 70 n [], 48 ≤ d ∧ d < 50 := dg_mem (S := [48, 49]) (b := 2) (by decide) (fun d => 48 ≤ d ∧ d < 50) (by decide) 70 n [] (fun c hc => by cases hc)
theorem dg_len70 (S : List Nat) (b n : Nat) : (dg S b 70 n []).length ≤ 70 := by have := dg_len (S := S) (b := b) 70 n []; simpa using this
local macro_rules | `(tactic| walk_at "call ref") => `(tactic| (k_here; (with_reducible show wpAny _ _ (call (Value.ref 90) _) _ _ _); k_dflt (refine' use4 (c_digits _ _ _ 2 (Str.ofString "01") _ _ _ ?q1 ?q2 ?q3 ?q4 ?q5) ?k1 ?k2 ?k3 ?k4 ?k5 ?kK ?kd ?ku ?_; (case q1 => decide); (case q2 => decide); (case q3 => decide); (case q4 => decide); (case q5 => assumption); walk_at "my rel"); intro t9 h9 tk9 ⟨F9, N9⟩; walk_at "my end"))
theorem mem_turn {X : List Nat} {r c : Nat} (hX : ∀ d ∈ X, 48 ≤ d ∧ d < 50) : ∀ d ∈ (List.replicate r 48 ++ X).drop c ++ (List.replicate r 48 ++ X).take c, 48 ≤ d ∧ d < 50 := by
  have h : ∀ d ∈ List.replicate r 48 ++ X, 48 ≤ d ∧ d < 50 := fun d hd => by
    rcases List.mem_append.mp hd with hd | hd
    · rw [List.eq_of_mem_replicate hd]; decide
    · exact hX d hd
  intro d hd
  rcases List.mem_append.mp hd with hd | hd
  · exact h d (List.mem_of_mem_drop hd)
  · exact h d (List.mem_of_mem_take hd)
theorem spell_eq (n k : Nat) : List.replicate ((k : Int) - ((dg (lst (Str.ofString "01")) 2 70 n []).length : Int)).toNat 48 ++ dg (lst (Str.ofString "01")) 2 70 n [] = spell n k := by
  unfold spell
  rw [Int.toNat_sub]; rfl
theorem due_all (Y : List Nat) : due (KStt.codes (st Y)) = val 2 Y := by unfold due; rw [codes_nat4]
theorem due_turn {n k : Nat} {z : Int} (hnk : n < 2 ^ k) (hk : 0 < k) (hk1 : k ≤ 70) :
    due (KStt.codes (st ((List.replicate ((k : Int) - ((dg (lst (Str.ofString "01")) 2 70 n []).length : Int)).toNat 48 ++ dg (lst (Str.ofString "01")) 2 70 n []).drop (z.fmod k).toNat ++ (List.replicate ((k : Int) - ((dg (lst (Str.ofString "01")) 2 70 n []).length : Int)).toNat 48 ++ dg (lst (Str.ofString "01")) 2 70 n []).take (z.fmod k).toNat))) = rotN n (z.fmod k).toNat k := by
  rw [due_all, spell_eq]
  refine turned hnk hk1 ?_
  have : z.fmod (k : Int) < k := Int.fmod_lt_of_pos _ (by omega)
  omega
local macro_rules | `(tactic| walk_at "binaryOp Add str str") => `(tactic| (k_here; k_dflt (refine' add_st ?h ?_; (case h => (simp only [List.length_append, List.length_replicate, List.length_drop, List.length_take]; omega))); intro t9 k9))
local macro_rules | `(tactic| walk_at "subscriptTail Name Slice str ref") => `(tactic| (k_here; (with_reducible show wpAny _ _ (subscriptTail _ (Expr.Slice (some _) none none _) _ _) _ _ _); k_dflt (refine' slice_d ?h ?F ?N ?_ ?s ?t; (case h => (simp only [List.length_append, List.length_replicate]; omega)); (case F => k_asm); (case N => k_asm); walk_at "my st"; k_whole); intro h5 t5 k5 F5 N5))
local macro_rules | `(tactic| walk_at "subscriptTail Name Slice str ref") => `(tactic| (k_here; (with_reducible show wpAny _ _ (subscriptTail _ (Expr.Slice none (some _) none _) _ _) _ _ _); k_dflt (refine' slice_t ?h ?F ?N ?_ ?s ?t; (case h => (simp only [List.length_append, List.length_replicate]; omega)); (case F => k_asm); (case N => k_asm); walk_at "my st"; k_whole); intro h5 t5 k5 F5 N5))
local macro_rules | `(tactic| walk_at "call builtin:str.index") => `(tactic| (k_here; k_dflt (refine' idx_line4 ?ho ?_; (case ho => assumption))))
local macro_rules | `(tactic| walk_at "call builtin:len") => `(tactic| (k_here; k_dflt (refine' len_st ?a ?_; (case a => exact Nat.le_trans (by assumption) (by decide)))))
local macro_rules | `(tactic| walk_at "binaryOp Mult str int") => `(tactic| (k_here; k_dflt (refine' mul0 ?a ?b ?_; (case a => omega); (case b => omega)); intro t9 k9))
local macro_rules | `(tactic| walk_at "binaryOp Mod int int") => `(tactic| (k_here; k_dflt (refine' tmod_n ?h ?_; (case h => assumption))))
set_option maxHeartbeats 3000000 in
theorem c_turned (w : World) (news : List (Addr × Obj)) (n k : Nat) (z : Int) (t1 t2 t3 : Tok) (hn : n < 2 ^ 70) (hnk : n < 2 ^ k) (hk : 0 < k) (hk1 : k ≤ 70) :
    Con4 2 w 146 [.int (n : Int) t1, .int z t2, .int (k : Int) t3] news (fun K Q => ∀ t h' tk', K h' news → Q (.int ((rotN n (z.fmod k).toNat k : Nat) : Int) t) h' tk') := by
  delta Con4 Prog4; k_fill
  k_with_none
  intro p loose mean mg mb dp un gd cn cs a ccd cl outer A₀ base h₀ L m s Q E B F X N T hck hd hu hret
  have hdl := dg_len70 (lst (Str.ofString "01")) 2 n
  refine wpAny_call ?_
  k_dflt cell_enter
  repeat' (first | (k_unfold; (try dsimp only)) | ((fail_if_success (with_reducible show wpAny _ _ (exec (Stmt.For _ _ _ _ _) _) _ _ _)); first | (k_end; wrow_close) | walk1 | (dsimp only; walk1) | (leave1; (try dsimp only))) | fail "no step")
  rename Fr _ _ _ _ => lF'
  with_unfolding_all refine' For_invVF lF' ?k1 ?k2 ?_
  case k1 => exact rfl
  case k2 => exact rfl
  repeat' (first | (k_unfold; (try dsimp only)) | ((fail_if_success (with_reducible show wpAny _ _ (pyIter (Value.str _ _)) _ _ _)); first | (k_end; wrow_close) | walk1 | (dsimp only; walk1) | (leave1; (try dsimp only))) | fail "no step")
  rename Fr _ _ _ _ => lF
  rename News _ _ _ _ => lN
  with_unfolding_all refine' KStt.kst_text (σ := Nat × Tok) (fun _ => news) (fun c => [(Str.ofString "due", .int ((c.1 : Nat) : Int) c.2)]) (fun _ => True) [] (fun pre c => c.1 = due pre) (0, _) (by rfl) lF lN trivial ?hk (by rfl) ?turn ?done
  case hk => kst_all
  case turn =>
    rintro ⟨c', tc'⟩ pre post n' t' u' h' tk' own' hy hoff _ hP F' N'
    dsimp only [kstB] at F' N' hP hoff
    have hs := sign01 (mem_turn (dg01 n)) hy
    have ho : Builtin.Str.occurrences (Str.ofString "01") ⟨#[n']⟩ 0 (Str.ofString "01").length 1 = [n' - 48] := idx01 n' hs.2 hs.1
    clear lF lN
    try k_fold
    k_steps
    refine' kst_end (c := (2 * c' + (n' - 48), ?d)) ?e1 ?e2 (fun p hp => List.mem_append.mpr (.inl hp)) (fun p hp => List.mem_append.mpr (.inr hp)) rfl trivial (List.forall_mem_cons.mpr ⟨?e3, List.forall_mem_nil _⟩) ?e4 ?e5
    case e1 => k_asm
    case e2 => k_asm
    case e3 => exact congrArg (fun y => some (Value.int y _)) (by push_cast; rfl)
    case e4 => kst_same
    case e5 => rw [due_snoc hs, ← hP]
  case done =>
    rintro ⟨c', tc'⟩ u' h' tk' _ hP F' N'
    dsimp only [kstB] at F' N' hP
    rw [due_turn hnk hk hk1] at hP
    subst hP
    clear lF lN
    try k_fold
    k_steps
    exact hret _ _ _ ⟨by k_asm, by k_asm⟩
end Mine
end
section
open PySem PySem.W PySem.Spec PySem.Calls PyProof.Rows
set_option maxRecDepth 100000
namespace Mine
/-- what is told of an answer -/
def toldV (r : Except Str Nat) (t : Tok) : List Value := match r with
  | .ok n => [.bool true, .int (n : Nat) t]
  | .error m => [.bool false, .str m t]
/-- what a call of a reader of the law comes to, from the law itself -/
abbrev ConL (w : World) (f : Addr) (vs : List Value) (r : Except Str Nat) (news : List (Addr × Obj)) : Prop :=
  ∀ (p : Program) (loose : List Str) (mean : ExcName → Option Value) (mg mb : Str → Option Value) (dp un : Nat) (gd : Option (List Code)) (cn : Str) (cs : Scope) (a : Addr) (ccd : Value) (A₀ : Around) (base h₀ : Heap) (L : Addr) (m : Str → Option Value) (s : Shared) (Q E : Value → Shared → Prop),
    Below A₀ base [] h₀ → Fr h₀ L s.heap m → (hd4.heap_39 w.params).In h₀ → News h₀ L s.heap news → Top p loose mean mg mb h₀ → (hd4.heap_39 w.params).In base → Top p loose mean mg mb base →
    cs.kind = .function → dp + 6 < recursionLimit → un + 60 < cLine →
    (∀ D t h' tk', Fr h₀ L h' m → News h₀ L h' ((D, { cls := .type "tuple", data := .seq (toldV r t).toArray }) :: news) → (∀ q ∈ news, q.1 ≠ D) → Q (.ref D) { s with heap := h', toks := tk' }) →
      wpP (model Prog4 w) (ktrTop dp un gd cn cs L a ccd [] []) (call (.ref f) vs) Q E s
theorem use_rn {w : World} {vs : List Value} {T : List Nat} {bits : Nat} {news : List (Addr × Obj)} (C : ConRN w vs T bits news)
    {p : Program} {loose : List Str} {mean : ExcName → Option Value} {mg mb : Str → Option Value} {dp un : Nat} {gd : Option (List Code)} {cn : Str} {cs : Scope} {a : Addr} {ccd : Value} {outer : List Env} {A₀ : Around} {base h₀ g₀ : Heap} {L : Addr} {m : Str → Option Value} {s : Shared} {Q E : Value → Shared → Prop}
    (B : Below A₀ base outer h₀) (F : Fr h₀ L s.heap m) (X : (hd4.heap_39 w.params).In h₀) (N : News h₀ L s.heap news) (T' : Top p loose mean mg mb h₀) (XB : (hd4.heap_39 w.params).In base) (TB : Top p loose mean mg mb base)
    (D : KtsDicts (outer.filterMap (·.frame)) h₀) (T0 : KtsTurn (outer.filterMap (·.frame)) g₀ h₀) (hk : cs.kind = .function) (hd : dp + 3 < recursionLimit) (hu : un + 30 < cLine)
    (hret : ∀ n t h' tk', rn T bits = .ok n → Fr h₀ L h' m → News h₀ L h' news → Q (.int (n : Nat) t) { s with heap := h', toks := tk' })
    (hrai : ∀ msg t e tt h₁ g h' tk', rn T bits = .error msg → KtsTurn (outer.filterMap (·.frame)) g₀ h₁ → Fr h₁ L g m → Below A₀ base outer h₁ → (hd4.heap_39 w.params).In h₁ → Top p loose mean mg mb h₁ → KtsDicts (outer.filterMap (·.frame)) h₁ → RaisedS base g (envOf cn cs L a ccd :: outer) e (.type "ValueError") tt [.str msg t] news h' → g.UpToSlots h' → E (.ref e) { s with heap := h', toks := tk' }) :
      wpP (model Prog4 w) (ktrTop dp un gd cn cs L a ccd [] outer) (call (.ref 57) vs) Q E s := C _ _ _ _ _ _ _ _ _ _ _ _ _ _ _ _ _ _ _ _ _ _ B F X N T' XB TB D T0 hk hd hu hret hrai
theorem binds_of {K : Frag} {f : Addr} {fd fd' : FuncData} {oc oc' : Value} {od od' : Option Addr} {osl osl' : Array (Option Value)} {s : Shared} {args : Args} {binds : List (Str × Value)} (h : K.lookup f = some ⟨oc, od, .func fd, osl⟩) (h' : K.lookup f = some ⟨oc', od', .func fd', osl'⟩) (b : BindsTo s fd' args binds) : BindsTo s fd args binds := by
  have e := congrArg Obj.data (Option.some.inj (h.symm.trans h'))
  injection e with e1
  rw [e1]; exact b
theorem binds2' (w : World) (x : Str) (bits : Nat) (tx tb : Tok) : Prog4 = Prog4 → BindsFor w [.str x tx, .int (bits : Nat) tb] [(Str.ofString "text", .str x tx), (Str.ofString "bits", .int (bits : Nat) tb)] := by
  delta BindsFor Prog4
  k_fill
  intro _ fd oc od osl hl s X
  refine binds_of hl (by k_is) ?_
  exact binds_K X rfl (by k_is) rfl rfl rfl
theorem binds2 (w : World) (x : Str) (bits : Nat) (tx tb : Tok) : BindsFor w [.str x tx, .int (bits : Nat) tb] [(Str.ofString "text", .str x tx), (Str.ofString "bits", .int (bits : Nat) tb)] := binds2' w x bits tx tb rfl
theorem wpP_callWith_K {M : Model} {A : Around} {E : Value → Shared → Prop} {s : Shared} {env : Env} {K : Frag} {pos : Pos} {f : Addr} {o : Obj} {fd : FuncData} {e : PySem.Expr} {rest : List PySem.Expr} {Q : Value → Shared → Prop} (hl : K.lookup f = some o) (hdat : o.data = .func fd)
    (h : wpAny M A (spliced (backTo pos (starEach (e :: rest) env))) (fun vs s₁ => K.In s₁.heap ∧ wpP M A (call (.ref f) vs) Q E s₁) E s)
    (hs : (backTo pos (starEach (e :: rest) env)).any (·.1) = false := by rfl) (he : starEach (e :: rest) env = (false, eval e env) :: starEach rest env := by rfl) :
    wpP M A (callWith pos (.ref f) [] (backTo pos (starEach (e :: rest) env)) []) Q E s :=
  wpP_callWith_def hdat (wpAny_mono h (fun _ _ x => ⟨x.1 _ _ hl, x.2⟩) fun _ _ x => x) hs he
set_option maxHeartbeats 8000000 in
theorem p_read (w : World) (x : Str) (bits : Nat) (tx tb : Tok) (fine : Fine (lst x)) (hb : bits ≤ 64) (hlen : x.length ≤ 20000) (hok : ∀ c ∈ lst x, okc c = true ∨ c ∈ ([32, 43, 45, 1635] : List Nat)) (news : List (Addr × Obj)) :
    ConL w 104 [.str x tx, .int (bits : Nat) tb] (rn (lst x) bits) news := by
  delta ConL Prog4; k_fill
  k_with_none
  intro p loose mean mg mb dp un gd cn cs a ccd A₀ base h₀ L m s Q E B F X N T XB TB hck hd hu hret
  refine wpP_call ?_
  k_dflt (refine' codeP_defS ?k1 ?k2 ?k3 ?k4 ?k5 ?XB ?TB ?D ?T0 ?kA ?k6 ?k7 ?k8 ?k9 ?kB ?_ ?cK ?c2 ?c3 ?c4 ?c5; (case kA => exact rfl); (case k2 => k_asm); (case k1 => k_asm); (case XB => assumption); (case TB => assumption); (case D => exact ktsDicts_nil); (case T0 => exact KtsTurn.refl); (case k3 => k_asm); (case k4 => k_asm); (case k5 => k_asm); (case k6 => k_is); (case k7 => k_is); (case k8 => ktr_room); (case k9 => exact BindsTo.of_eq rfl); (case kB => exact locs rfl); (case cK => assumption); (case c2 => exact rfl); (case c3 => exact rfl); (case c4 => exact rfl); (case c5 => decide))
  intro g' L' h' FG' F' N' B' X' T' D'
  (try dsimp only); (try k_lift B'); (try k_fold)
  refine wpP_execs_cons (wpP_Try_except ?_)
  refine wpP_execs_cons (wpP_Assign_Name (wpP_Call ?_))
  k_steps
  k_dflt (refine' wpP_callWith_K (K := hd4.heap_39 w.params) ?hl ?hd ?_ ?hs ?he; (case hl => k_is); (case hd => exact rfl); (case hs => exact rfl); (case he => exact rfl))
  k_steps

  k_dflt (refine' use_rn (p_rn _ _ _ _ _ _ (binds2 _ _ _ _ _) fine hb hlen hok _) ?k1 ?k2 ?k3 ?k4 ?k5 ?k6 ?k7 ?k8 ?k9 ?kK ?kd ?ku ?_ ?_; (case k1 => k_asm); (case k2 => k_asm); (case k3 => k_asm); (case k4 => k_asm); (case k5 => k_asm); (case k6 => assumption); (case k7 => assumption); (case k8 => assumption); (case k9 => exact KtsTurn.refl); (case kK => first | exact rfl | assumption); (case kd => ktr_room); (case ku => ktr_units))
  · intro n t h5 tk5 hr F5 N5
    rw [hr] at hret
    (try dsimp only)
    k_steps
    iterate 2 (all_goals (try ((try dsimp only); refine wpP_of ?_; k_steps)))
    exact hret _ _ _ _ (by k_asm) (by k_asm) (fun q hq => Nat.ne_of_lt ((by assumption : ∀ p ∈ news, p.1 < _) q hq))
  · intro msg t e tt h1 g1 h5 tk5 hr T5 F5 B5 X5 P5 D5 S5 U5
    rw [hr] at hret
    (try dsimp only)
    k_steps
    iterate 2 (all_goals (try ((try dsimp only); refine wpP_of ?_; k_steps)))
    rename KtsTurn _ h₀ _ => kT
    exact hret _ _ _ _ (turn_fr kT rfl (by k_asm)) (turn_nw kT rfl (by k_asm)) (fun q hq => Nat.ne_of_lt ((by assumption : ∀ p ∈ news, p.1 < _) q hq))
end Mine
end
section
open PySem PySem.W PySem.Spec PySem.Calls PyProof.Rows
set_option maxRecDepth 100000
namespace Mine
theorem binds1' (w : World) (x : Str) (tx : Tok) : ∃ tb : Tok, Prog4 = Prog4 → BindsFor w [.str x tx] [(Str.ofString "text", .str x tx), (Str.ofString "bits", .int ((64 : Nat) : Int) tb)] := by
  refine ⟨235, ?_⟩
  · delta BindsFor Prog4
    k_fill
    intro _ fd oc od osl hl s X
    refine binds_of hl (by k_is) ?_
    exact binds_K X rfl (by k_is) rfl rfl rfl
theorem binds1 (w : World) (x : Str) (tx : Tok) : ∃ tb : Tok, BindsFor w [.str x tx] [(Str.ofString "text", .str x tx), (Str.ofString "bits", .int ((64 : Nat) : Int) tb)] :=
  let ⟨tb, h⟩ := binds1' w x tx; ⟨tb, h rfl⟩
set_option maxHeartbeats 8000000 in
theorem p_readp (w : World) (x : Str) (tx : Tok) (fine : Fine (lst x)) (hlen : x.length ≤ 20000) (hok : ∀ c ∈ lst x, okc c = true ∨ c ∈ ([32, 43, 45, 1635] : List Nat)) (news : List (Addr × Obj)) :
    ConL w 111 [.str x tx] (rn (lst x) 64) news := by
  delta ConL Prog4; k_fill
  k_with_none
  intro p loose mean mg mb dp un gd cn cs a ccd A₀ base h₀ L m s Q E B F X N T XB TB hck hd hu hret
  obtain ⟨tb1, hb1⟩ := binds1 w x tx
  refine wpP_call ?_
  k_dflt (refine' codeP_defS ?k1 ?k2 ?k3 ?k4 ?k5 ?XB ?TB ?D ?T0 ?kA ?k6 ?k7 ?k8 ?k9 ?kB ?_ ?cK ?c2 ?c3 ?c4 ?c5; (case kA => exact rfl); (case k2 => k_asm); (case k1 => k_asm); (case XB => assumption); (case TB => assumption); (case D => exact ktsDicts_nil); (case T0 => exact KtsTurn.refl); (case k3 => k_asm); (case k4 => k_asm); (case k5 => k_asm); (case k6 => k_is); (case k7 => k_is); (case k8 => ktr_room); (case k9 => exact BindsTo.of_eq rfl); (case kB => exact locs rfl); (case cK => assumption); (case c2 => exact rfl); (case c3 => exact rfl); (case c4 => exact rfl); (case c5 => decide))
  intro g' L' h' FG' F' N' B' X' T' D'
  (try dsimp only); (try k_lift B'); (try k_fold)
  refine wpP_execs_cons (wpP_Try_except ?_)
  refine wpP_execs_cons (wpP_Assign_Name (wpP_Call ?_))
  k_steps
  k_dflt (refine' wpP_callWith_K (K := hd4.heap_39 w.params) ?hl ?hd ?_ ?hs ?he; (case hl => k_is); (case hd => exact rfl); (case hs => exact rfl); (case he => exact rfl))
  k_steps

  k_dflt (refine' use_rn (p_rn _ _ _ _ _ _ hb1 fine (Nat.le_refl _) hlen hok _) ?k1 ?k2 ?k3 ?k4 ?k5 ?k6 ?k7 ?k8 ?k9 ?kK ?kd ?ku ?_ ?_; (case k1 => k_asm); (case k2 => k_asm); (case k3 => k_asm); (case k4 => k_asm); (case k5 => k_asm); (case k6 => assumption); (case k7 => assumption); (case k8 => assumption); (case k9 => exact KtsTurn.refl); (case kK => first | exact rfl | assumption); (case kd => ktr_room); (case ku => ktr_units))
  · intro n t h5 tk5 hr F5 N5
    rw [hr] at hret
    (try dsimp only)
    k_steps
    iterate 2 (all_goals (try ((try dsimp only); refine wpP_of ?_; k_steps)))
    exact hret _ _ _ _ (by k_asm) (by k_asm) (fun q hq => Nat.ne_of_lt ((by assumption : ∀ p ∈ news, p.1 < _) q hq))
  · intro msg t e tt h1 g1 h5 tk5 hr T5 F5 B5 X5 P5 D5 S5 U5
    rw [hr] at hret
    (try dsimp only)
    k_steps
    iterate 2 (all_goals (try ((try dsimp only); refine wpP_of ?_; k_steps)))
    rename KtsTurn _ h₀ _ => kT
    exact hret _ _ _ _ (turn_fr kT rfl (by k_asm)) (turn_nw kT rfl (by k_asm)) (fun q hq => Nat.ne_of_lt ((by assumption : ∀ p ∈ news, p.1 < _) q hq))
end Mine
end
section
open PySem PySem.W PySem.Spec PySem.Calls PyProof.Rows
set_option maxRecDepth 100000
namespace Mine
/-- what a call of read_square comes to -/
abbrev ConRS (w : World) (x : Str) (tx : Tok) (news : List (Addr × Obj)) : Prop :=
  ∀ (p : Program) (loose : List Str) (mean : ExcName → Option Value) (mg mb : Str → Option Value) (dp un : Nat) (gd : Option (List Code)) (cn : Str) (cs : Scope) (a : Addr) (ccd : Value) (outer : List Env) (A₀ : Around) (base h₀ g₀ : Heap) (L : Addr) (m : Str → Option Value) (s : Shared) (Q E : Value → Shared → Prop),
    Below A₀ base outer h₀ → Fr h₀ L s.heap m → (hd4.heap_39 w.params).In h₀ → News h₀ L s.heap news → Top p loose mean mg mb h₀ → (hd4.heap_39 w.params).In base → Top p loose mean mg mb base →
    KtsDicts (outer.filterMap (·.frame)) h₀ → KtsTurn (outer.filterMap (·.frame)) g₀ h₀ → cs.kind = .function → dp + 5 < recursionLimit → un + 50 < cLine →
    (∀ n t h₁ h' tk', rs (lst x) = .ok n → KtsTurn (outer.filterMap (·.frame)) g₀ h₁ → Fr h₁ L h' m → News h₁ L h' news → Below A₀ base outer h₁ → (hd4.heap_39 w.params).In h₁ → Top p loose mean mg mb h₁ → KtsDicts (outer.filterMap (·.frame)) h₁ → Q (.int (n : Nat) t) { s with heap := h', toks := tk' }) →
    (∀ msg t e tt h₁ g h' tk', rs (lst x) = .error msg → KtsTurn (outer.filterMap (·.frame)) g₀ h₁ → Fr h₁ L g m → Below A₀ base outer h₁ → (hd4.heap_39 w.params).In h₁ → Top p loose mean mg mb h₁ → KtsDicts (outer.filterMap (·.frame)) h₁ → RaisedS base g (envOf cn cs L a ccd :: outer) e (.type "ValueError") tt [.str msg t] news h' → g.UpToSlots h' → E (.ref e) { s with heap := h', toks := tk' }) →
      wpP (model Prog4 w) (ktrTop dp un gd cn cs L a ccd [] outer) (call (.ref 64) [.str x tx]) Q E s
/-- the walk stops here -/
def Done (P : Bool → Shared → Prop) (b : Bool) (s : Shared) : Prop := P b s
theorem if_done {M : Model} {A : Around} {E : Value → Shared → Prop} {s : Shared} {env : Env} {test : PySem.Expr} {body orelse : List Stmt} {pos : Pos} {Q : Flow → Shared → Prop} (P : Bool → Shared → Prop)
    (h : wpAny M A (isTrue test env (eval test env)) (Done P) E s) (ht : ∀ s₂, P true s₂ → wpP M A (execs body env) Q E s₂) (hf : ∀ s₂, P false s₂ → wpP M A (execs orelse env) Q E s₂) :
    wpP M A (exec (.If test body orelse pos) env) Q E s :=
  wpP_If (wpP_of (wpAny_mono h (fun b s₂ hb => by
    cases b with
    | true => rw [if_pos rfl]; exact ht s₂ hb
    | false => rw [if_neg Bool.false_ne_true]; exact hf s₂ hb) fun _ _ x => x))
theorem pos1 {x : Str} (h : (x.length : Int) = 2) : (1 : Int) < x.length := by omega
theorem pos0 {x : Str} (h : (x.length : Int) = 2) : (0 : Int) < x.length := by omega
local macro_rules | `(tactic| walk_at "subscriptTail Name Constant str int") => `(tactic| (k_here; k_dflt (refine' item_str ?r ?a ?b ?_ ?s ?t; (case r => decide); (case a => omega); (case b => first | exact pos0 (by assumption) | exact pos1 (by assumption)); walk_at "my st"); intro l9))
theorem idx_line {prog : Program} {w : World} {A : Around} {E : Value → Shared → Prop} {s : Shared} {x y : Str} {t u : Tok} {i : Nat} {Q : Value → Shared → Prop} (ho : Builtin.Str.occurrences x y 0 x.length 1 = [i]) (h : Q (.int (i : Nat) s.toks) { s with toks := s.toks + 1 }) :
    wpAny (model prog w) A (call (.builtin "str.index") [.str x t, .str y u]) Q E s := SC.index ho h
theorem int_q {Q : Value → Shared → Prop} {s : Shared} {a b : Int} {t : Tok} (h : Q (.int a t) s) (e : a = b) : Q (.int b t) s := e ▸ h
local macro_rules | `(tactic| walk_at "call ref") => `(tactic| walk_at "my def")
local macro_rules | `(tactic| walk_at "call builtin:str.index") => `(tactic| (k_here; k_dflt (refine' idx_line ?ho ?_; (case ho => assumption))))
local macro_rules | `(tactic| walk_at "pyReprObj str") => `(tactic| (refine pyReprObj_str ?_ ?hz; (case hz => exact fits_2 (by assumption))))
local macro_rules | `(tactic| walk_at "formatField str") => `(tactic| (refine fmt_s ?_ ?hz; (case hz => exact fits_2 (by assumption)); intro t8 k8))
local macro_rules | `(tactic| walk_at "exec Raise some none") => `(tactic| walk_at "my raise")
set_option maxHeartbeats 3000000 in
theorem p_rs (w : World) (x : Str) (tx : Tok) (fine : Fine (lst x)) (hlen : x.length ≤ 20000) (hok : ∀ c ∈ lst x, okc c = true ∨ c ∈ ([32, 43, 45, 1635] : List Nat)) (news : List (Addr × Obj)) : ConRS w x tx news := by
  delta ConRS Prog4; k_fill
  k_with_none
  intro p loose mean mg mb dp un gd cn cs a ccd outer A₀ base h₀ g₀ L m s Q E B F X N T XB TB D T0 hck hd hu hret hrai
  obtain ⟨tb1, hb1⟩ := binds1 w x tx
  refine wpP_call ?_
  k_dflt (refine' codeP_defS (binds := [(Str.ofString "text", Value.str x tx)]) ?k1 ?k2 ?k3 ?k4 ?k5 ?XB ?TB ?D ?T0 ?kA ?k6 ?k7 ?k8 ?k9 ?kB ?_ ?cK ?c2 ?c3 ?c4 ?c5; (case kA => exact rfl); (case k2 => k_asm); (case k1 => k_asm); (case XB => assumption); (case TB => assumption); (case D => assumption); (case T0 => assumption); (case k3 => k_asm); (case k4 => k_asm); (case k5 => k_asm); (case k6 => k_is); (case k7 => k_is); (case k8 => ktr_room); (case k9 => exact BindsTo.of_eq rfl); (case kB => exact locs rfl); (case cK => assumption); (case c2 => exact rfl); (case c3 => exact rfl); (case c4 => exact rfl); (case c5 => decide))
  intro g' L' h' FG' F' N' B' X' T' D'
  (try dsimp only); (try k_lift B'); (try k_fold)
  have hrep4 := repr_len_s hok hlen
  refine wpP_execs_cons (if_done (fun b s₂ => b = sqT x ∧ ∃ h5 tk5, s₂ = { s with heap := h5, toks := tk5 } ∧ Fr g' L' h5 (fun y => [(Str.ofString "text", Value.str x tx)].reverse.lookup y) ∧ News g' L' h5 news) ?_ ?_ ?_)
  · k_steps
    all_goals (try (refine ⟨?_, _, _, rfl, ?F, ?N⟩; (case F => k_asm); (case N => k_asm)))
    all_goals (unfold sqT Txt.contains; simp [*])
  · rintro s₂ ⟨hb, h5, tk5, rfl, F5, N5⟩
    rw [sqT_eq hok] at hb
    have hsome := hb.symm
    obtain ⟨n, hn⟩ := Option.isSome_iff_exists.mp hsome
    have h2 : (x.length : Int) = 2 := by
      have h9 := (sqT_eq hok).trans hsome
      unfold sqT at h9
      simp only [Bool.and_eq_true, decide_eq_true_eq] at h9
      exact h9.1.1
    obtain ⟨c, d, hx, i0, i1⟩ := two_of h2
    have hcd : (97 ≤ low1 c ∧ low1 c ≤ 104) ∧ (49 ≤ d ∧ d ≤ 56) := by
      rw [hx] at hn; unfold sqName at hn; dsimp only at hn
      by_cases q : (97 ≤ low1 c ∧ low1 c ≤ 104) ∧ (49 ≤ d ∧ d ≤ 56)
      · exact q
      · rw [if_neg q] at hn; cases hn
    have hnv : n = 8 * (d - 49) + (low1 c - 97) := by
      rw [hx] at hn; unfold sqName at hn; dsimp only at hn
      rw [if_pos hcd] at hn; exact (Option.some.inj hn).symm
    have hc128 : c < 128 := by
      rcases small_or (hok c (by rw [hx]; simp)) with q | q
      · exact q
      · subst q; exact absurd hcd.1 (by decide)
    have o1 : Builtin.Str.occurrences (Str.ofString "12345678") (Txt.item x 1) 0 (Str.ofString "12345678").length 1 = [d - 49] := by rw [i1]; exact idx_num d (by omega) hcd.2.1
    have o2 : Builtin.Str.occurrences (Str.ofString "abcdefgh") (Txt.lower (Txt.item x 0)) 0 (Str.ofString "abcdefgh").length 1 = [low1 c - 97] := by rw [i0, lower1 hc128]; exact idx_abc _ (by omega) hcd.1.1
    clear F' N'
    refine wpP_of ?_
    k_steps
    exact int_q (hret n _ _ _ _ (rs_name hn) T0 (by k_asm) (by k_asm) B X T D) (by rw [hnv]; push_cast; rfl)
  · rintro s₂ ⟨hb, h5, tk5, rfl, F5, N5⟩
    rw [sqT_eq hok] at hb
    have hnone : sqName (lst x) = none := Option.isSome_eq_false_iff.mp hb.symm |> Option.isNone_iff_eq_none.mp
    clear F' N'
    refine wpP_of ?_
    k_steps
    (try dsimp only)
    refine wpP_execs_cons (wpP_Try_except ?_)
    refine wpP_execs_cons (wpP_Assign_Name (wpP_Call ?_))
    k_steps
    k_dflt (refine' wpP_callWith_K (K := hd4.heap_39 w.params) ?hl ?hd ?_ ?hs ?he; (case hl => k_is); (case hd => exact rfl); (case hs => exact rfl); (case he => exact rfl))
    k_steps
    k_dflt (refine' use_rn (p_rn _ _ _ _ _ _ hb1 fine (Nat.le_refl _) hlen hok _) ?k1 ?k2 ?k3 ?k4 ?k5 ?k6 ?k7 ?k8 ?k9 ?kK ?kd ?ku ?_ ?_; (case k1 => k_asm); (case k2 => k_asm); (case k3 => k_asm); (case k4 => k_asm); (case k5 => k_asm); (case k6 => assumption); (case k7 => assumption); (case k8 => assumption); (case k9 => exact KtsTurn.refl); (case kK => first | exact rfl | assumption); (case kd => ktr_room); (case ku => ktr_units))
    · intro n t h5 tk5 hr F5 N5
      (try dsimp only)
      k_steps
      iterate 2 (all_goals (try ((try dsimp only); refine wpP_of ?_; k_steps)))
      · rename RaisedS _ _ _ _ _ _ _ _ _ => S9
        rename Heap.UpToSlots _ _ => U9
        rename (63 : Int) < _ => l9
        exact hrai _ _ _ _ _ _ _ _ ((rs_big hnone hr (by omega)).trans (congrArg Except.error (by rw [empty_app]))) T0 FG' B X T D S9 U9
      · rename ¬ (63 : Int) < _ => l9
        exact hret n _ _ _ _ (rs_ok hnone hr (by omega)) T0 (by k_asm) (by k_asm) B X T D
    · intro msg t e tt h1 g1 h5 tk5 hr T5 F5 B5 X5 P5 D5 S5 U5
      (try dsimp only)
      k_steps
      iterate 2 (all_goals (try ((try dsimp only); refine wpP_of ?_; k_steps)))
      rename RaisedS _ _ _ _ _ _ _ _ _ => S9
      rename Heap.UpToSlots _ _ => U9
      rename KtsTurn _ g' _ => T9
      obtain ⟨h1', t1, f1, b1, x1, p1, d1⟩ := turn_back B FG' T9 D XB TB T0
      exact hrai _ _ _ _ _ _ _ _ ((rs_bad hnone hr).trans (congrArg Except.error (by rw [empty_app]))) t1 f1 b1 x1 p1 d1 S9 U9
end Mine
end
section
open PySem PySem.W PySem.Spec PySem.Calls PyProof.Rows
set_option maxRecDepth 100000
namespace Mine
theorem use_rs {w : World} {x : Str} {tx : Tok} {news : List (Addr × Obj)} (C : ConRS w x tx news)
    {p : Program} {loose : List Str} {mean : ExcName → Option Value} {mg mb : Str → Option Value} {dp un : Nat} {gd : Option (List Code)} {cn : Str} {cs : Scope} {a : Addr} {ccd : Value} {outer : List Env} {A₀ : Around} {base h₀ g₀ : Heap} {L : Addr} {m : Str → Option Value} {s : Shared} {Q E : Value → Shared → Prop}
    (B : Below A₀ base outer h₀) (F : Fr h₀ L s.heap m) (X : (hd4.heap_39 w.params).In h₀) (N : News h₀ L s.heap news) (T' : Top p loose mean mg mb h₀) (XB : (hd4.heap_39 w.params).In base) (TB : Top p loose mean mg mb base)
    (D : KtsDicts (outer.filterMap (·.frame)) h₀) (T0 : KtsTurn (outer.filterMap (·.frame)) g₀ h₀) (hk : cs.kind = .function) (hd : dp + 5 < recursionLimit) (hu : un + 50 < cLine)
    (hret : ∀ n t h₁ h' tk', rs (lst x) = .ok n → KtsTurn (outer.filterMap (·.frame)) g₀ h₁ → Fr h₁ L h' m → News h₁ L h' news → Below A₀ base outer h₁ → (hd4.heap_39 w.params).In h₁ → Top p loose mean mg mb h₁ → KtsDicts (outer.filterMap (·.frame)) h₁ → Q (.int (n : Nat) t) { s with heap := h', toks := tk' })
    (hrai : ∀ msg t e tt h₁ g h' tk', rs (lst x) = .error msg → KtsTurn (outer.filterMap (·.frame)) g₀ h₁ → Fr h₁ L g m → Below A₀ base outer h₁ → (hd4.heap_39 w.params).In h₁ → Top p loose mean mg mb h₁ → KtsDicts (outer.filterMap (·.frame)) h₁ → RaisedS base g (envOf cn cs L a ccd :: outer) e (.type "ValueError") tt [.str msg t] news h' → g.UpToSlots h' → E (.ref e) { s with heap := h', toks := tk' }) :
      wpP (model Prog4 w) (ktrTop dp un gd cn cs L a ccd [] outer) (call (.ref 64) [.str x tx]) Q E s := C _ _ _ _ _ _ _ _ _ _ _ _ _ _ _ _ _ _ _ _ _ _ B F X N T' XB TB D T0 hk hd hu hret hrai
set_option maxHeartbeats 8000000 in
theorem p_square (w : World) (x : Str) (tx : Tok) (fine : Fine (lst x)) (hlen : x.length ≤ 20000) (hok : ∀ c ∈ lst x, okc c = true ∨ c ∈ ([32, 43, 45, 1635] : List Nat)) (news : List (Addr × Obj)) :
    ConL w 118 [.str x tx] (rs (lst x)) news := by
  delta ConL Prog4; k_fill
  k_with_none
  intro p loose mean mg mb dp un gd cn cs a ccd A₀ base h₀ L m s Q E B F X N T XB TB hck hd hu hret
  refine wpP_call ?_
  k_dflt (refine' codeP_defS ?k1 ?k2 ?k3 ?k4 ?k5 ?XB ?TB ?D ?T0 ?kA ?k6 ?k7 ?k8 ?k9 ?kB ?_ ?cK ?c2 ?c3 ?c4 ?c5; (case kA => exact rfl); (case k2 => k_asm); (case k1 => k_asm); (case XB => assumption); (case TB => assumption); (case D => exact ktsDicts_nil); (case T0 => exact KtsTurn.refl); (case k3 => k_asm); (case k4 => k_asm); (case k5 => k_asm); (case k6 => k_is); (case k7 => k_is); (case k8 => ktr_room); (case k9 => exact BindsTo.of_eq rfl); (case kB => exact locs rfl); (case cK => assumption); (case c2 => exact rfl); (case c3 => exact rfl); (case c4 => exact rfl); (case c5 => decide))
  intro g' L' h' FG' F' N' B' X' T' D'
  (try dsimp only); (try k_lift B'); (try k_fold)
  refine wpP_execs_cons (wpP_Try_except ?_)
  refine wpP_execs_cons (wpP_Assign_Name (wpP_Call ?_))
  k_steps
  k_dflt (refine' wpP_callWith_K (K := hd4.heap_39 w.params) ?hl ?hd ?_ ?hs ?he; (case hl => k_is); (case hd => exact rfl); (case hs => exact rfl); (case he => exact rfl))
  k_steps

  k_dflt (refine' use_rs (p_rs _ _ _ fine hlen hok _) ?k1 ?k2 ?k3 ?k4 ?k5 ?k6 ?k7 ?k8 ?k9 ?kK ?kd ?ku ?_ ?_; (case k1 => k_asm); (case k2 => k_asm); (case k3 => k_asm); (case k4 => k_asm); (case k5 => k_asm); (case k6 => assumption); (case k7 => assumption); (case k8 => assumption); (case k9 => exact KtsTurn.refl); (case kK => first | exact rfl | assumption); (case kd => ktr_room); (case ku => ktr_units))
  · intro n t h1 h5 tk5 hr T5 F5 N5 B5 X5 P5 D5
    clear F' N'
    rw [hr] at hret
    (try dsimp only)
    k_steps
    iterate 2 (all_goals (try ((try dsimp only); refine wpP_of ?_; k_steps)))
    rename KtsTurn _ h₀ _ => kT
    exact hret _ _ _ _ (turn_fr kT rfl (by k_asm)) (turn_nw kT rfl (by k_asm)) (fun q hq => Nat.ne_of_lt ((by assumption : ∀ p ∈ news, p.1 < _) q hq))
  · intro msg t e tt h1 g1 h5 tk5 hr T5 F5 B5 X5 P5 D5 S5 U5
    rw [hr] at hret
    (try dsimp only)
    k_steps
    iterate 2 (all_goals (try ((try dsimp only); refine wpP_of ?_; k_steps)))
    rename KtsTurn _ h₀ _ => kT
    exact hret _ _ _ _ (turn_fr kT rfl (by k_asm)) (turn_nw kT rfl (by k_asm)) (fun q hq => Nat.ne_of_lt ((by assumption : ∀ p ∈ news, p.1 < _) q hq))
end Mine
end
section
open PySem PySem.W PySem.Spec PySem.Calls PyProof.Rows
set_option maxRecDepth 100000
namespace Mine
/-- a text of true signs -/
theorem sok_app (x y : Str) : PyData.strOk (x ++ y) = (PyData.strOk x && PyData.strOk y) := by
  unfold PyData.strOk
  rw [PySem.Str.cps_append, Array.all_append]
theorem sok_of (z : String) : PyData.strOk (Str.ofString z) = true := by
  unfold PyData.strOk
  rw [Str.ofString_eq_toList]
  simp only [List.all_toArray, List.all_map, List.all_eq_true, Function.comp]
  intro c _
  have : c.toNat < 0x110000 := by
    rcases c.valid with h | h
    · exact Nat.lt_trans h (by decide)
    · exact h.2
  exact decide_eq_true this
theorem sok_st {T : List Nat} (h : ∀ c ∈ T, c < 0x110000) : PyData.strOk (st T) = true := by
  unfold PyData.strOk st
  simp only [List.all_toArray, List.all_eq_true]
  exact fun c hc => decide_eq_true (h c hc)
abbrev Okt (T : List Nat) : Prop := ∀ c ∈ T, okc c = true ∨ c ∈ ([32, 43, 45, 1635] : List Nat)
theorem okt_small {T : List Nat} (h : Okt T) : ∀ c ∈ T, c < 0x110000 := fun c hc => by
  rcases small_or (h c hc) with q | q
  · omega
  · rw [q]; decide
theorem sok_q {T : List Nat} (h : Okt T) : PyData.strOk (st (39 :: (T ++ [39]))) = true := sok_st fun c hc => by
  simp only [List.mem_cons, List.mem_append, List.not_mem_nil, or_false] at hc
  rcases hc with rfl | hc | rfl
  · decide
  · exact okt_small h c hc
  · decide
theorem sok_rep {T : List Nat} (h : Okt T) : PyData.strOk (reprText (st T)) = true := by rw [ok_repr h]; exact sok_q h
theorem okt_take {T : List Nat} (h : Okt T) (k : Nat) : Okt (T.take k) := fun c hc => h c (List.mem_of_mem_take hc)
def Okr (r : Except Str Nat) : Prop := match r with | .ok _ => True | .error m => PyData.strOk m = true
theorem sok_nan : PyData.strOk nanS = true := sok_of "not a number: "
theorem sok_nsq : PyData.strOk noSq = true := sok_of "not a square (a1..h8 or 0..63): "
theorem rn_okr {T : List Nat} (h : Okt T) (k : Nat) : Okr (rn T k) := by
  unfold rn
  split
  · show PyData.strOk _ = true
    rw [sok_app, sok_rep h, sok_nan]; rfl
  · split
    · show PyData.strOk _ = true
      rw [sok_app, sok_rep (okt_take h 40), sok_nan]; rfl
    · split
      · exact True.intro
      · show PyData.strOk _ = true
        rw [sok_app, sok_app, sok_app, sok_st (okt_small (okt_take h 40)), sok_of, sok_of, sok_of]; rfl
theorem rs_okr {T : List Nat} (h : Okt T) : Okr (rs T) := by
  unfold rs
  split
  · exact True.intro
  · split
    · split
      · show PyData.strOk _ = true
        rw [sok_app, sok_rep (okt_take h 40), sok_nsq]; rfl
      · exact True.intro
    · show PyData.strOk _ = true
      rw [sok_app, sok_rep (okt_take h 40), sok_nsq]; rfl
def toldP (r : Except Str Nat) : List PyData := match r with | .ok n => [.bool true, .int (n : Nat)] | .error m => [.bool false, .str m]
theorem told_reads {h : Heap} {r : Except Str Nat} {t : Tok} : ReadsAll h (toldV r t) (toldP r) [] := by
  cases r with
  | ok n => exact ReadsAll.cons (Reads.bool _) (ReadsAll.cons (Reads.int _ _) ReadsAll.nil)
  | error m => exact ReadsAll.cons (Reads.bool _) (ReadsAll.cons (Reads.str _ _) ReadsAll.nil)
theorem told_shaped {r : Except Str Nat} (h : Okr r) : SeqAt.shaped (.tuple (toldP r)) = true := by
  cases r with
  | ok n => rfl
  | error m =>
    have h : PyData.strOk m = true := h
    simp [toldP, SeqAt.shaped, PyData.canLay0, PyData.canLayAll0, PyData.depth, PyData.depthAll, h]
theorem told_same (r : Except Str Nat) : PyData.eqv (.tuple (toldP r)) (.tuple (toldP r)) = true := by
  cases r <;> simp [toldP, PyData.eqv, PyData.eqvAll]
theorem ne_told {prog : Program} {w : World} {A : Around} {E : Value → Shared → Prop} {s : Shared} {h₀ : Heap} {L a b : Addr} {news : List (Addr × Obj)} {r : Except Str Nat} {t u : Tok} {Q : Value → Shared → Prop}
    (N : News h₀ L s.heap news) (ma : (a, ({ cls := .type "tuple", data := .seq (toldV r t).toArray } : Obj)) ∈ news) (mb : (b, ({ cls := .type "tuple", data := .seq (toldV r u).toArray } : Obj)) ∈ news) (hr : Okr r) (hu : A.units + 64 < cLine) (h : Q (.bool false) s) :
    wpAny (model prog w) A (compareOp .NotEq (.ref a) (.ref b)) Q E s :=
  ne_dataH (reads_tuple_at (N.get ma) rfl rfl told_reads) (reads_tuple_at (N.get mb) rfl rfl told_reads) (told_shaped hr) (told_shaped hr) hu (by rw [told_same]; exact h)
/-- the law's text is no square's name -/
theorem no_name {H S M F B : List Nat} {b n z p : Nat} {w : Bool} (r : Row H b S w) (h : Marks S b M) (hF : F = [] ∨ F = [32] ∨ F = [43] ∨ F = [45]) (hB : B = [] ∨ B = [32] ∨ B = [1635]) {T : List Nat} (hT : T = F ++ core H (digs S b n z) M p ++ B) : sqName T = none := by
  have key : ∀ c d, T = [c, d] → ¬ (97 ≤ low1 c ∧ low1 c ≤ 104) := by
    intro c d e
    have hc : c ∈ F ∨ (F = [] ∧ ∃ R, core H (digs S b n z) M p ++ B = c :: R) := by
      rw [e] at hT
      rcases hF with rfl | rfl | rfl | rfl
      · exact .inr ⟨rfl, _, by rw [List.nil_append] at hT; exact hT.symm⟩
      · simp at hT; exact .inl (by rw [hT.1]; simp)
      · simp at hT; exact .inl (by rw [hT.1]; simp)
      · simp at hT; exact .inl (by rw [hT.1]; simp)
    rcases hc with hc | ⟨_, R, hR⟩
    · rcases hF with rfl | rfl | rfl | rfl
      · cases hc
      all_goals (simp at hc; subst hc; decide)
    · have done : H.head? = some 48 → ¬ (97 ≤ low1 c ∧ low1 c ≤ 104) := by
        intro hh
        cases H with
        | nil => cases hh
        | cons x xs =>
          simp at hh; subst hh
          unfold core at hR
          simp at hR
          rw [← hR.1]; decide
      cases r with
      | dec =>
        have hm : c ∈ core [] (digs S10 10 n z) M p ++ B := by rw [hR]; simp
        have hd : ∀ c ∈ digs S10 10 n z, 48 ≤ c ∧ c ≤ 57 := by
          intro c hc
          rcases List.mem_append.mp hc with hc | hc
          · rw [List.eq_of_mem_replicate hc]; decide
          · exact dg_mem (by decide) (fun c => 48 ≤ c ∧ c ≤ 57) (by decide) 70 n [] (fun c hc => by cases hc) c hc
        have hM : ∀ c ∈ M, c = 95 ∨ c = 122 := by
          intro c hc
          rcases h with rfl | rfl | rfl | rfl
          · cases hc
          · simp at hc; exact .inl hc
          · simp at hc; exact .inl hc
          · simp [S10] at hc; exact .inr hc
        have hl : (48 ≤ c ∧ c ≤ 57) ∨ c = 95 ∨ c = 122 ∨ c = 32 ∨ c = 1635 := by
          unfold core at hm
          simp only [List.nil_append, List.mem_append] at hm
          rcases hm with (((hm | hm) | hm)) | hm
          · exact .inl (hd c (List.mem_of_mem_take hm))
          · rcases hM c hm with q | q
            · exact .inr (.inl q)
            · exact .inr (.inr (.inl q))
          · exact .inl (hd c (List.mem_of_mem_drop hm))
          · rcases hB with rfl | rfl | rfl
            · cases hm
            · simp at hm; exact .inr (.inr (.inr (.inl hm)))
            · simp at hm; exact .inr (.inr (.inr (.inr hm)))
        unfold low1
        split <;> omega
      | hex => exact done rfl
      | hexU => exact done rfl
      | oct => exact done rfl
      | octU => exact done rfl
      | bin => exact done rfl
      | binU => exact done rfl
  unfold sqName
  split
  · rename_i c d
    rw [if_neg fun q => key c d rfl q.1]
  · rfl
theorem rs_law {H S M F B : List Nat} {b n z p : Nat} {w : Bool} (r : Row H b S w) (h : Marks S b M) (hn : n < 2 ^ 70) (hp : p ≤ (digs S b n z).length)
    (hF : F = [] ∨ F = [32] ∨ F = [43] ∨ F = [45]) (hB : B = [] ∨ B = [32] ∨ B = [1635]) {T : List Nat} (hT : T = F ++ core H (digs S b n z) M p ++ B) {fo : Bool}
    (hfo : fo = (decide (F ++ B = []) && decide (T.length ≤ 8192) && fm b (digs S b n z) n M p)) (hok : Okt T) :
    rs T = if fo = true ∧ n < 64 then .ok n else .error (noSq ++ st (39 :: (T.take 40 ++ [39]))) := by
  have hr := rn_law (k := 64) r h hn hp hF hB hT hfo
  unfold rs
  rw [no_name r h hF hB hT, ok_repr (okt_take hok 40)]
  dsimp only
  rw [hr]
  cases fo with
  | false => simp
  | true =>
    rw [if_neg Bool.noConfusion]
    by_cases h64 : n < 2 ^ 64
    · rw [if_pos h64]
      dsimp only
      by_cases h6 : n < 64
      · rw [if_neg (by omega), if_pos ⟨rfl, h6⟩]
      · rw [if_pos (by omega), if_neg fun q => h6 q.2]
    · rw [if_neg h64]
      dsimp only
      rw [if_neg fun q => h64 (Nat.lt_trans q.2 (by decide))]
/-- the law's name of a square -/
def nmL (u : Bool) (col row : Nat) (tl : List Nat) : List Nat := (if u then 65 + col else 97 + col) :: (48 + row) :: tl
theorem nm_ok {u : Bool} {col row : Nat} {tl : List Nat} (hc : col < 9) (hr : row < 10) (ht : tl = [] ∨ tl = [49]) : ∀ c ∈ nmL u col row tl, okc c = true := by
  have h1 : ∀ c, c < 9 → okc (65 + c) = true ∧ okc (97 + c) = true := by decide
  have h2 : ∀ c, c < 10 → okc (48 + c) = true := by decide
  intro c hm
  unfold nmL at hm
  rcases List.mem_cons.mp hm with rfl | hm
  · cases u
    · exact (h1 col hc).2
    · exact (h1 col hc).1
  · rcases List.mem_cons.mp hm with rfl | hm
    · exact h2 row hr
    · rcases ht with rfl | rfl
      · cases hm
      · simp at hm; subst hm; decide
theorem nm_fine {u : Bool} {col row : Nat} {tl : List Nat} (hc : col < 9) (hr : row < 10) (ht : tl = [] ∨ tl = [49]) : Fine (nmL u col row tl) :=
  .inr ⟨nm_ok hc hr ht, fun _ => by unfold nmL; rcases ht with rfl | rfl <;> simp⟩
theorem nm_read : ∀ u : Bool, ∀ col, col < 9 → ∀ row, row < 10 → ∀ tl ∈ ([[], [49]] : List (List Nat)), (readC (nmL u col row tl)).isNone = true := by decide +kernel
theorem nm_rs {u : Bool} {col row : Nat} {tl : List Nat} (hc : col < 9) (hr : row < 10) (ht : tl = [] ∨ tl = [49]) :
    rs (nmL u col row tl) = if col < 8 ∧ (1 ≤ row ∧ row ≤ 8) ∧ tl = [] then .ok (8 * (row - 1) + col) else .error (noSq ++ st (39 :: (nmL u col row tl ++ [39]))) := by
  have ho := nm_ok (u := u) hc hr ht
  have hl : (nmL u col row tl).length ≤ 40 := by unfold nmL; rcases ht with rfl | rfl <;> simp
  have hrd := Option.isNone_iff_eq_none.mp (nm_read u col hc row hr tl (by rcases ht with rfl | rfl <;> simp))
  have hrn : rn (nmL u col row tl) 64 = .error (nanS ++ reprText (st ((nmL u col row tl).take 40))) := by
    unfold rn
    rw [edgy_core ho, if_neg Bool.false_ne_true, if_neg (by omega), hrd]
  have hlow : low1 (if u then 65 + col else 97 + col) = 97 + col := by
    unfold low1; cases u
    · rw [if_neg Bool.false_ne_true, if_neg (by omega)]
    · rw [if_pos rfl, if_pos (by omega)]; omega
  have hsq : sqName (nmL u col row tl) = if col < 8 ∧ (1 ≤ row ∧ row ≤ 8) ∧ tl = [] then some (8 * (row - 1) + col) else none := by
    unfold nmL
    rcases ht with rfl | rfl
    · unfold sqName
      dsimp only
      rw [hlow]
      by_cases q : col < 8 ∧ (1 ≤ row ∧ row ≤ 8)
      · rw [if_pos (by omega), if_pos ⟨q.1, q.2, rfl⟩]
        congr 1; omega
      · rw [if_neg (by omega), if_neg fun x => q ⟨x.1, x.2.1⟩]
    · rw [if_neg (c := _ ∧ _ ∧ _) fun x => by cases x.2.2]
      rfl
  unfold rs
  rw [hsq]
  by_cases q : col < 8 ∧ (1 ≤ row ∧ row ≤ 8) ∧ tl = []
  · rw [if_pos q, if_pos q]
  · rw [if_neg q, if_neg q]
    dsimp only
    rw [hrn]
    dsimp only
    rw [List.take_of_length_le hl, ok_repr fun c hc => .inl (ho c hc)]
/-- to the right is to the left by the other turn -/
theorem rot_all {n k : Nat} (hn : n < 2 ^ k) : rotN n k k = rotN n 0 k := by
  rw [rot_is hn (Nat.le_refl _), rot_is hn (Nat.zero_le _), Nat.sub_self, Nat.sub_zero, Nat.pow_zero, Nat.mod_one, Nat.div_one, Nat.mod_eq_of_lt hn, Nat.div_eq_of_lt hn]; omega
theorem rot_neg {n k : Nat} {z : Int} (hn : n < 2 ^ k) (hk : 0 < k) : (n >>> (z.fmod k).toNat ||| n <<< (k - (z.fmod k).toNat)) % 2 ^ k = rotN n ((-z).fmod k).toNat k := by
  have hk' : (0 : Int) < k := by omega
  have h1 := fm_lt z hk
  rw [rot_right (by omega)]
  have e1 : z.fmod k = z % k := Int.fmod_eq_emod_of_nonneg z (by omega)
  have e2 : (-z).fmod k = (-z) % k := Int.fmod_eq_emod_of_nonneg (-z) (by omega)
  have h3 := Int.emod_nonneg z (show (k : Int) ≠ 0 by omega)
  have h4 := Int.emod_lt_of_pos z hk'
  by_cases h0 : z % (k : Int) = 0
  · have hd : (-z) % (k : Int) = 0 := Int.emod_eq_zero_of_dvd (Int.dvd_neg.mpr (Int.dvd_of_emod_eq_zero h0))
    rw [e1, e2, hd, h0]
    exact rot_all hn
  · have hd : (-z) % (k : Int) = k - z % k := by
      have hz := Int.mul_ediv_add_emod z k
      have : -z = (k - z % k) + k * (-(z / k) - 1) := by
        have : (k : Int) * (-(z / k) - 1) = -((k : Int) * (z / k)) - k := by rw [Int.mul_sub, Int.mul_neg, Int.mul_one]
        omega
      rw [this, Int.add_mul_emod_self_left]
      exact Int.emod_eq_of_lt (by omega) (by omega)
    rw [e1, e2, hd]
    congr 1; omega
def okB (r : Except Str Nat) : Bool := match r with | .ok _ => true | .error _ => false
def okN (r : Except Str Nat) : Nat := match r with | .ok n => n | .error _ => 0
theorem item_told0 {prog : Program} {w : World} {A : Around} {E : Value → Shared → Prop} {s : Shared} {h₀ : Heap} {L : Addr} {news : List (Addr × Obj)} {a : Addr} {value slice : PySem.Expr} {r : Except Str Nat} {t u : Tok} {Q : Value → Shared → Prop}
    (N : News h₀ L s.heap news) (hm : (a, { cls := .type "tuple", data := .seq (toldV r t).toArray }) ∈ news) (h : Q (.bool (okB r)) s)
    (hs : subscripted slice false (.ref a) (.int 0 u) = operate [.ref a, .int 0 u] (getItem (.ref a) (.int 0 u)) := by with_unfolding_all rfl) :
    wpAny (model prog w) A (subscriptTail value slice (.ref a) (.int 0 u)) Q E s := by
  cases r with
  | ok n => exact item_tupleT (j := 0) (News.isTup N hm) (by decide) (by decide) rfl rfl h hs
  | error n => exact item_tupleT (j := 0) (News.isTup N hm) (by decide) (by decide) rfl rfl h hs
theorem item_told1 {prog : Program} {w : World} {A : Around} {E : Value → Shared → Prop} {s : Shared} {h₀ : Heap} {L : Addr} {news : List (Addr × Obj)} {a : Addr} {value slice : PySem.Expr} {r : Except Str Nat} {t u : Tok} {Q : Value → Shared → Prop}
    (N : News h₀ L s.heap news) (hm : (a, { cls := .type "tuple", data := .seq (toldV r t).toArray }) ∈ news) (hb : okB r = true) (h : Q (.int ((okN r : Nat) : Int) t) s)
    (hs : subscripted slice false (.ref a) (.int 1 u) = operate [.ref a, .int 1 u] (getItem (.ref a) (.int 1 u)) := by with_unfolding_all rfl) :
    wpAny (model prog w) A (subscriptTail value slice (.ref a) (.int 1 u)) Q E s := by
  cases r with
  | ok n => exact item_tupleT (j := 1) (News.isTup N hm) (by decide) (by decide) rfl rfl h hs
  | error n => cases hb
theorem okN_lt {T : List Nat} {k : Nat} (hk : k ≤ 64) : okN (rn T k) < 2 ^ 64 := by
  have hp : 2 ^ k ≤ 2 ^ 64 := Nat.pow_le_pow_right (by decide) hk
  unfold rn
  split
  · show (0 : Nat) < 2 ^ 64; decide
  · split
    · show (0 : Nat) < 2 ^ 64; decide
    · split
      · exact Nat.lt_of_lt_of_le (by assumption) hp
      · show (0 : Nat) < 2 ^ 64; decide
theorem if_doneP {M : Model} {A : Around} {E : Value → Shared → Prop} {s : Shared} {env : Env} {test : PySem.Expr} {body orelse : List Stmt} {pos : Pos} {Q : Flow → Shared → Prop} (P : Bool → Shared → Prop)
    (h : wpP M A (isTrue test env (eval test env)) (Done P) E s) (ht : ∀ s₂, P true s₂ → wpP M A (execs body env) Q E s₂) (hf : ∀ s₂, P false s₂ → wpP M A (execs orelse env) Q E s₂) :
    wpP M A (exec (.If test body orelse pos) env) Q E s :=
  wpP_If (wpP_mono h (fun b s₂ hb => by
    cases b with
    | true => rw [if_pos rfl]; exact ht s₂ hb
    | false => rw [if_neg Bool.false_ne_true]; exact hf s₂ hb) fun _ _ x => x)
theorem noq {x : Str} : Str.ofString "not a square (a1..h8 or 0..63): '" ++ x ++ Str.ofString "'" = noSq ++ st (39 :: (lst x ++ [39])) := lst_inj (by
  have e : lst (Str.ofString "not a square (a1..h8 or 0..63): '") = lst noSq ++ [39] := by decide +kernel
  have e2 : lst (Str.ofString "'") = [39] := rfl
  calc lst (Str.ofString "not a square (a1..h8 or 0..63): '" ++ x ++ Str.ofString "'") = lst (Str.ofString "not a square (a1..h8 or 0..63): '") ++ lst x ++ lst (Str.ofString "'") := by rw [lst_app, lst_app]
    _ = (lst noSq ++ [39]) ++ lst x ++ [39] := by rw [e, e2]
    _ = lst noSq ++ lst (st (39 :: (lst x ++ [39]))) := by rw [lst_st]; simp
    _ = lst (noSq ++ st (39 :: (lst x ++ [39]))) := (lst_app _ _).symm)
end Mine
end
section
open PySem PySem.W PySem.Spec PySem.Calls PyProof.Rows
set_option maxRecDepth 100000
namespace Mine
/-- the walk of a statement stops here -/
def DoneS (P : Shared → Prop) (f : Flow) (s : Shared) : Prop := f = .next ∧ P s
theorem st_done {M : Model} {A : Around} {E : Value → Shared → Prop} {s : Shared} {env : Env} {st : Stmt} {rest : List Stmt} {Q : Flow → Shared → Prop} (R : (Shared → Prop) → Prop)
    (h : ∀ P, R P → wpAny M A (exec st env) (DoneS P) E s) (k : R fun s₂ => wpP M A (execs rest env) Q E s₂) : wpP M A (execs (st :: rest) env) Q E s :=
  wpP_execs_cons (wpP_of (wpAny_mono (h _ k) (fun f s₂ hf => by obtain ⟨rfl, hp⟩ := hf; exact hp) fun _ _ x => x))
theorem fr_of {g h : Heap} {L : Addr} {m m' : Str → Option Value} (F : Fr g L h m) (e : m = m') : Fr g L h m' := e ▸ F
theorem fr_keep {g h : Heap} {L : Addr} {m : Str → Option Value} {x : Str} {v : Value} (F : Fr g L h m) (e : m x = some v) : Fr g L h (fun y => if y = x then some v else m y) :=
  fr_of F (funext fun y => by by_cases q : y = x; · rw [if_pos q, q, e]
                              · rw [if_neg q])
theorem news_tl {g h : Heap} {L : Addr} {p : Addr × Obj} {l : List (Addr × Obj)} (N : News g L h (p :: l)) : News g L h l := fun q hq => N q (.tail _ hq)
theorem news_sn {g h : Heap} {L : Addr} {p r : Addr × Obj} {l : List (Addr × Obj)} (N : News g L h (p :: r :: l)) : News g L h (p :: l) := fun q hq => by
  cases hq with
  | head => exact N _ (.head _)
  | tail _ hq => exact N q (.tail _ (.tail _ hq))
theorem fm_nn (z : Int) {k : Int} (hk : 0 < k) : 0 ≤ z.fmod k := Int.fmod_nonneg_of_pos _ hk
theorem fm_ltk (z : Int) {k : Int} (hk : 0 < k) : z.fmod k < k := Int.fmod_lt_of_pos _ hk
def isBits (v : Value) : Bool := match v with | .int z _ => decide (0 ≤ z ∧ z ≤ 64) | _ => false
theorem all_bits {P : Value → Prop} {l : List Value} (hl : l.all isBits = true) (h : ∀ (b : Nat) (t : Tok), b ≤ 64 → P (.int ((b : Nat) : Int) t)) : ∀ v ∈ l, P v := fun v hv => by
  have := List.all_eq_true.mp hl v hv
  unfold isBits at this
  split at this
  · rename_i z t
    have hz := of_decide_eq_true this
    have := h z.toNat t (by omega)
    rw [Int.toNat_of_nonneg hz.1] at this; exact this
  · cases this
def isIn (ls : List (List Nat)) (v : Value) : Bool := match v with | .str x _ => ls.contains (lst x) | _ => false
theorem all_strs {P : Value → Prop} {l : List Value} (ls : List (List Nat)) (hl : l.all (isIn ls) = true) (h : ∀ (x : Str) (t : Tok), lst x ∈ ls → P (.str x t)) : ∀ v ∈ l, P v := fun v hv => by
  have := List.all_eq_true.mp hl v hv
  unfold isIn at this
  split at this
  · exact h _ _ (List.contains_iff_mem.mp this)
  · cases this
theorem item_news {prog : Program} {w : World} {A : Around} {E : Value → Shared → Prop} {s : Shared} {h₀ : Heap} {L : Addr} {news : List (Addr × Obj)} {a : Addr} {n : Nat} {value slice : PySem.Expr} {l : List Value} {k : Int} {u : Tok} {Q : Value → Shared → Prop}
    (N : News h₀ L s.heap news) (hm : (a, { cls := .type "tuple", data := .seq l.toArray n }) ∈ news) (h0 : 0 ≤ k) (h1 : k < l.length) (h2 : l.length ≤ 1000) (h : ∀ v ∈ l, Q v s)
    (hs : subscripted slice false (.ref a) (.int k u) = operate [.ref a, .int k u] (getItem (.ref a) (.int k u)) := by with_unfolding_all rfl) :
    wpAny (model prog w) A (subscriptTail value slice (.ref a) (.int k u)) Q E s := by
  have hk : k.toNat < l.length := by omega
  refine item_tupleT (j := k.toNat) (News.isTup N hm) (by omega) (by omega) ?_ (List.getElem?_eq_getElem hk) (h _ (List.getElem_mem hk)) hs
  unfold seqIndex?
  simp
  omega
theorem pow2_4 {prog : Program} {w : World} {A : Around} {E : Value → Shared → Prop} {s : Shared} {Q : Value → Shared → Prop} {k : Nat} {t u : Tok} (hk : k ≤ 64) (h : Q (.int ((2 ^ k : Nat) : Int) s.toks) { s with toks := s.toks + 1 }) :
    wpAny (model prog w) A (binaryOp .LShift (.int 1 t) (.int (k : Int) u)) Q E s := pow2_n (by omega) h
theorem pow2_5 {prog : Program} {w : World} {A : Around} {E : Value → Shared → Prop} {s : Shared} {Q : Value → Shared → Prop} {k : Nat} {t u : Tok} (hk : k ≤ 64) (h : Q (.int ((2 ^ (k + 1) : Nat) : Int) s.toks) { s with toks := s.toks + 1 }) :
    wpAny (model prog w) A (binaryOp .LShift (.int 1 t) (.int ((k : Int) + 1) u)) Q E s := pow2_n (k := k + 1) (by omega) h
theorem pow_le {k : Nat} (h : k ≤ 64) : 2 ^ k ≤ 2 ^ 64 := Nat.pow_le_pow_right (by decide) h
theorem mod_p {prog : Program} {w : World} {A : Around} {E : Value → Shared → Prop} {s : Shared} {Q : Value → Shared → Prop} {i : Int} {k : Nat} {t u : Tok} (hk : 0 < k) (h : ∀ m : Nat, m < k → Q (.int (m : Int) s.toks) { s with toks := s.toks + 1 }) :
    wpAny (model prog w) A (binaryOp .Mod (.int i t) (.int (k : Int) u)) Q E s :=
  tmod_n hk (h _ (fm_lt i hk))
theorem mod_l {prog : Program} {w : World} {A : Around} {E : Value → Shared → Prop} {s : Shared} {Q : Value → Shared → Prop} {i : Int} {k : Nat} {t u : Tok} (h : ∀ m : Nat, m ≤ k → Q (.int (m : Int) s.toks) { s with toks := s.toks + 1 }) :
    wpAny (model prog w) A (binaryOp .Mod (.int i t) (.int ((k : Int) + 1) u)) Q E s :=
  mod_p (k := k + 1) (by omega) fun m hm => h m (by omega)
theorem n_leaf {g h : Heap} {L : Addr} {x : Str} {e : Int} {t : Tok} {m : Str → Option Value} (F : Fr g L h (fun y => if y = x then some (.int e t) else m y)) (h0 : 0 ≤ e) (h1 : e < 2 ^ 70) : ∃ (nn : Nat) (t5 : Tok), nn < 2 ^ 70 ∧ Fr g L h (fun y => if y = x then some (.int ((nn : Nat) : Int) t5) else m y) :=
  ⟨e.toNat, t, by omega, by rw [Int.toNat_of_nonneg h0]; exact F⟩
theorem max0 (e : Int) : 0 ≤ if e > 0 then e else 0 := by split <;> omega
theorem max70 {p : Nat} {z : Int} (hp : p ≤ 2 ^ 64) : (if (p : Int) - 3 + z.fmod 5 > 0 then (p : Int) - 3 + z.fmod 5 else 0) < 2 ^ 70 := by
  have : z.fmod 5 < 5 := fm_ltk z (by decide)
  split <;> omega
theorem dup {x : Str} {a b : Option Value} {m : Str → Option Value} : (fun y => if y = x then a else if y = x then b else m y) = (fun y => if y = x then a else m y) := by
  funext y; by_cases h : y = x <;> simp [h]
theorem lt70 {m k : Nat} (hk : k ≤ 64) (h : m < 2 ^ (k + 1)) : m < 2 ^ 70 := Nat.lt_of_lt_of_le h (Nat.pow_le_pow_right (by decide) (by omega))
theorem row_len0 {H S : List Nat} {b : Nat} {w : Bool} (r : Row H b S w) : 2 ≤ b ∧ b ≤ 16 ∧ S.length = b + 1 ∧ H.length ≤ 2 := by cases r <;> decide
theorem row_len {H S : Str} {b : Nat} {w : Bool} (r : Row (lst H) b (lst S) w) : 2 ≤ b ∧ b ≤ 100 ∧ b ≤ S.length ∧ S.length ≤ 100 ∧ b < S.length ∧ H.length ≤ 2 := by
  obtain ⟨h1, h2, h3, h4⟩ := row_len0 r
  have h3 : S.length = b + 1 := h3
  have h4 : H.length ≤ 2 := h4
  omega
theorem zlem {f : Int} {n : Nat} (h : n ≤ 70) (h0 : 0 ≤ f) (h7 : f < 7) : -100 ≤ 8185 + f - (n : Int) ∧ 8185 + f - (n : Int) ≤ 9000 := by omega
theorem z3lem {zz fl : Int} (h : zz = fl - 3) (h0 : 0 ≤ fl) (h7 : fl < 7) : -100 ≤ zz ∧ zz ≤ 9000 ∧ zz ≤ 3 := by omega
theorem tnot {b : Bool} (h : b = true) {P : Prop} (h' : b = false) : P := by rw [h] at h'; cases h'
theorem digs_len {S : List Nat} {b n : Nat} {z : Int} (hz : z ≤ 9000) : (digs S b n z.toNat).length ≤ 9100 := by
  unfold digs
  have := dg_len70 S b n
  rw [List.length_append, List.length_replicate]; omega
theorem all_marks {P : Value → Prop} {S : Str} {b : Nat} {a1 a2 a3 a4 a5 a6 : Tok} (h : ∀ (M : Str) (t : Tok), Marks (lst S) b (lst M) → P (.str M t)) :
    ∀ v ∈ [Value.str (Str.ofString "") a1, .str (Str.ofString "") a2, .str (Str.ofString "") a3, .str (Str.ofString "_") a4, .str (Str.ofString "__") a5, .str (st [(lst S).getD b 0]) a6], P v := by
  intro v hv
  simp only [List.mem_cons, List.not_mem_nil, or_false] at hv
  rcases hv with rfl | rfl | rfl | rfl | rfl | rfl
  · exact h _ _ (.inl rfl)
  · exact h _ _ (.inl rfl)
  · exact h _ _ (.inl rfl)
  · exact h _ _ (.inr (.inl rfl))
  · exact h _ _ (.inr (.inr (.inl rfl)))
  · exact h _ _ (.inr (.inr (.inr rfl)))
theorem len_in1 {x : Str} (h : lst x ∈ ([[], [32], [43], [45]] : List (List Nat))) : x.length ≤ 1 := by
  have : (lst x).length ≤ 1 := by
    simp only [List.mem_cons, List.not_mem_nil, or_false] at h
    rcases h with h | h | h | h <;> rw [h] <;> decide
  exact this
theorem len_in2 {x : Str} (h : lst x ∈ ([[], [32], [1635]] : List (List Nat))) : x.length ≤ 1 := by
  have : (lst x).length ≤ 1 := by
    simp only [List.mem_cons, List.not_mem_nil, or_false] at h
    rcases h with h | h | h <;> rw [h] <;> decide
  exact this
theorem len_mark {S M : Str} {b : Nat} (h : Marks (lst S) b (lst M)) : M.length ≤ 2 := by
  have : (lst M).length ≤ 2 := by rcases h with h | h | h | h <;> rw [h] <;> simp
  exact this
theorem text_len {X : Str} {F H D M B : List Nat} {p : Nat} (h : lst X = F ++ core H D M p ++ B) (h1 : F.length ≤ 1) (h2 : H.length ≤ 2) (h3 : D.length ≤ 9100) (h4 : M.length ≤ 2) (h5 : B.length ≤ 1) : X.length ≤ 20000 := by
  have : (lst X).length ≤ 20000 := by
    rw [h]; unfold core
    simp only [List.length_append, List.length_take, List.length_drop]
    omega
  exact this
theorem text_lst {f h m k : Str} {D : List Nat} {p : Nat} : lst (f ++ h ++ st (D.take p) ++ m ++ st (D.drop p) ++ k) = lst f ++ core (lst h) D (lst m) p ++ lst k := by
  unfold core
  simp only [lst_app, lst_st, List.append_assoc]
theorem add_gen {prog : Program} {w : World} {A : Around} {E : Value → Shared → Prop} {s : Shared} {x y : Str} {t u : Tok} {Q : Value → Shared → Prop} (hz : x.length + y.length ≤ 100000) (h : ∀ t' k, Q (.str (x ++ y) t') { s with toks := k }) :
    wpAny (model prog w) A (binaryOp .Add (.str x t) (.str y u)) Q E s := SB.add h (Nat.le_trans hz (by decide))
theorem ed_t {e : Str} {R : List Nat} (h : lst e = R) (h' : (e != Str.ofString "") = true) : R ≠ [] := fun q => by
  rw [q] at h
  exact (bne_iff_ne.mp h') (lst_inj h)
theorem ed_f {e : Str} {R : List Nat} (h : lst e = R) (h' : (e != Str.ofString "") = false) : R = [] := by
  have : e = Str.ofString "" := by simpa using h'
  rw [← h, this]; rfl
theorem in1 {T : List Nat} (h : T ∈ ([[], [32], [43], [45]] : List (List Nat))) : T = [] ∨ T = [32] ∨ T = [43] ∨ T = [45] := by simpa using h
theorem in2 {T : List Nat} (h : T ∈ ([[], [32], [1635]] : List (List Nat))) : T = [] ∨ T = [32] ∨ T = [1635] := by simpa using h
theorem msg_a {sh : Str} {R : List Nat} (h : lst sh = R) : Str.ofString "not a number: '" ++ sh ++ Str.ofString "'" = nanS ++ st (39 :: (R ++ [39])) := lst_inj (by
  have e : lst (Str.ofString "not a number: '") = lst nanS ++ [39] := by decide +kernel
  have e2 : lst (Str.ofString "'") = [39] := rfl
  calc lst (Str.ofString "not a number: '" ++ sh ++ Str.ofString "'") = lst (Str.ofString "not a number: '") ++ lst sh ++ lst (Str.ofString "'") := by rw [lst_app, lst_app]
    _ = (lst nanS ++ [39]) ++ R ++ [39] := by rw [e, e2, h]
    _ = lst nanS ++ lst (st (39 :: (R ++ [39]))) := by rw [lst_st]; simp
    _ = lst (nanS ++ st (39 :: (R ++ [39]))) := (lst_app _ _).symm)
theorem told_a {T R : List Nat} {k n : Nat} {fd : Bool} {x y : Except Str Nat} {sh : Str} {t : Tok} (hrn : rn T k = if fd = false then .error (nanS ++ st (39 :: (R ++ [39]))) else if n < 2 ^ k then x else y) (hfd : fd = false) (hs : lst sh = R) :
    toldV (rn T k) t = [.bool false, .str (Str.ofString "not a number: '" ++ sh ++ Str.ofString "'") t] := by
  rw [hrn, if_pos hfd, msg_a hs]; rfl
theorem told_b {T R : List Nat} {k n : Nat} {fd : Bool} {e : Except Str Nat} {sh : Str} {t : Tok} (hrn : rn T k = if fd = false then e else if n < 2 ^ k then .ok n else .error (Str.ofString "needs more than " ++ Str.ofString (toString (k : Int)) ++ Str.ofString " bits: " ++ st R)) (hfd : fd = true) (hn : ¬ n < 2 ^ k) (hs : lst sh = R) :
    toldV (rn T k) t = [.bool false, .str (Str.ofString "needs more than " ++ Str.ofString (toString (k : Int)) ++ Str.ofString " bits: " ++ sh) t] := by
  rw [hrn, if_neg (by rw [hfd]; exact Bool.noConfusion), if_neg hn, ← hs, st_lst]; rfl
theorem told_c {T : List Nat} {k n : Nat} {fd : Bool} {e y : Except Str Nat} {t : Tok} (hrn : rn T k = if fd = false then e else if n < 2 ^ k then .ok n else y) (hfd : fd = true) (hn : n < 2 ^ k) :
    toldV (rn T k) t = [.bool true, .int (n : Nat) t] := by
  rw [hrn, if_neg (by rw [hfd]; exact Bool.noConfusion), if_pos hn]; rfl
theorem pick {g h : Heap} {L a : Addr} {l l' : List Value} {n1 n2 : List (Addr × Obj)} (N : News g L h ((a, { cls := .type "tuple", data := .seq l.toArray }) :: n1)) (e : l' = l) (hs : ∀ q ∈ n2, q ∈ n1) : News g L h ((a, { cls := .type "tuple", data := .seq l'.toArray }) :: n2) := fun q hq => by
  subst e
  rcases List.mem_cons.mp hq with rfl | hq
  · exact N _ (.head _)
  · exact N q (.tail _ (hs q hq))
theorem nlt {p n : Nat} (h : (p : Int) ≤ (n : Int)) : ¬ n < p := by omega
theorem ylt {p n : Nat} (h : ¬ (p : Int) ≤ (n : Int)) : n < p := by omega
theorem text_ok {H S M F B : List Nat} {b n z p : Nat} {w : Bool} (r : Row H b S w) (h : Marks S b M) (hF : F = [] ∨ F = [32] ∨ F = [43] ∨ F = [45]) (hB : B = [] ∨ B = [32] ∨ B = [1635]) {T : List Nat} (hT : T = F ++ core H (digs S b n z) M p ++ B) :
    ∀ c ∈ T, okc c = true ∨ c ∈ ([32, 43, 45, 1635] : List Nat) := by
  intro c hcT
  rw [hT] at hcT
  rcases List.mem_append.mp hcT with hcT | hcT
  · rcases List.mem_append.mp hcT with hcT | hcT
    · right; rcases hF with rfl | rfl | rfl | rfl <;> simp_all
    · exact .inl (core_ok r h n z p c hcT)
  · right; rcases hB with rfl | rfl | rfl <;> simp_all
theorem z3nat {z : Int} {w : Bool} (h : w = false → z ≤ 3) : w = false → z.toNat ≤ 3 := fun q => by have := h q; omega
theorem st_doneP {M : Model} {A : Around} {E : Value → Shared → Prop} {s : Shared} {env : Env} {st : Stmt} {rest : List Stmt} {Q : Flow → Shared → Prop} (R : (Shared → Prop) → Prop)
    (h : ∀ P, R P → wpP M A (exec st env) (DoneS P) E s) (k : R fun s₂ => wpP M A (execs rest env) Q E s₂) : wpP M A (execs (st :: rest) env) Q E s :=
  wpP_execs_cons (wpP_mono (h _ k) (fun f s₂ hf => by obtain ⟨rfl, hp⟩ := hf; exact hp) fun _ _ x => x)
theorem wpP_nil {M : Model} {A : Around} {E : Value → Shared → Prop} {s : Shared} {env : Env} {Q : Flow → Shared → Prop} (h : Q .next s) : wpP M A (execs [] env) Q E s := wpP_pure h
theorem use_L {w : World} {f : Addr} {vs : List Value} {r : Except Str Nat} {news : List (Addr × Obj)} (C : ConL w f vs r news)
    {p : Program} {loose : List Str} {mean : ExcName → Option Value} {mg mb : Str → Option Value} {dp un : Nat} {gd : Option (List Code)} {cn : Str} {cs : Scope} {a : Addr} {ccd : Value} {A₀ : Around} {base h₀ : Heap} {L : Addr} {m : Str → Option Value} {s : Shared} {Q E : Value → Shared → Prop}
    (B : Below A₀ base [] h₀) (F : Fr h₀ L s.heap m) (X : (hd4.heap_39 w.params).In h₀) (N : News h₀ L s.heap news) (T : Top p loose mean mg mb h₀) (XB : (hd4.heap_39 w.params).In base) (TB : Top p loose mean mg mb base) (hk : cs.kind = .function) (hd : dp + 6 < recursionLimit) (hu : un + 60 < cLine)
    (h : ∀ D t h' tk', Fr h₀ L h' m → News h₀ L h' ((D, { cls := .type "tuple", data := .seq (toldV r t).toArray }) :: news) → (∀ q ∈ news, q.1 ≠ D) → Q (.ref D) { s with heap := h', toks := tk' }) :
      wpP (model Prog4 w) (ktrTop dp un gd cn cs L a ccd [] []) (call (.ref f) vs) Q E s := C _ _ _ _ _ _ _ _ _ _ _ _ _ _ _ _ _ _ _ _ B F X N T XB TB hk hd hu h
theorem if_offC {M : Model} {A : Around} {E : Value → Shared → Prop} {s : Shared} {env : Env} {test : PySem.Expr} {body orelse : List Stmt} {pos : Pos} {Q : Flow → Shared → Prop} (R : (Shared → Prop) → Prop)
    (h : ∀ P : Shared → Prop, R P → wpP M A (isTrue test env (eval test env)) (Done fun c s => c = false ∧ P s) E s) (k : R fun s₂ => wpP M A (execs orelse env) Q E s₂) : wpP M A (exec (.If test body orelse pos) env) Q E s :=
  if_doneP (fun c s => c = false ∧ wpP M A (execs orelse env) Q E s) (h _ k) (fun _ h => by cases h.1) (fun _ h => h.2)
theorem if_decC {M : Model} {A : Around} {E : Value → Shared → Prop} {s : Shared} {env : Env} {test : PySem.Expr} {body orelse : List Stmt} {pos : Pos} {Q : Flow → Shared → Prop} (b : Bool) (R : (Shared → Prop) → Prop)
    (h : ∀ P : Shared → Prop, R P → wpAny M A (isTrue test env (eval test env)) (Done fun c s => c = b ∧ P s) E s) (kt : b = true → R fun s₂ => wpP M A (execs body env) Q E s₂) (kf : b = false → R fun s₂ => wpP M A (execs orelse env) Q E s₂) :
    wpP M A (exec (.If test body orelse pos) env) Q E s := by
  cases b with
  | true => exact if_done (fun c s => c = true ∧ wpP M A (execs body env) Q E s) (h _ (kt rfl)) (fun _ h => h.2) (fun _ h => by cases h.1)
  | false => exact if_done (fun c s => c = false ∧ wpP M A (execs orelse env) Q E s) (h _ (kf rfl)) (fun _ h => by cases h.1) (fun _ h => h.2)
theorem dec64 (b : Nat) : (((b : Nat) : Int) == 64) = decide (b = 64) := by by_cases h : b = 64 <;> simp [h] <;> omega
theorem w_leaf {g h : Heap} {L : Addr} {x : Str} {z : Int} {t : Tok} {m : Str → Option Value} (F : Fr g L h (fun y => if y = x then some (.int (z.fmod 5) t) else m y)) : ∃ (nn : Nat) (t5 : Tok), nn < 2 ^ 64 ∧ Fr g L h (fun y => if y = x then some (.int ((nn : Nat) : Int) t5) else m y) :=
  ⟨(z.fmod 5).toNat, t, by have := fm_ltk z (k := 5) (by decide); omega, by rw [Int.toNat_of_nonneg (fm_nn z (by decide))]; exact F⟩
theorem lt64 {n : Nat} (h : (n : Int) < 64) : n < 64 := by omega
theorem nlt64 {n : Nat} (h : n < 64) : (n : Int) < 64 := by omega
theorem told_e {T : List Nat} {n : Nat} {fd : Bool} {m : Str} {t : Tok} (hr : rs T = if fd = true ∧ n < 64 then .ok n else .error m) (hfd : fd = true) (hn : n < 64) : toldV (rs T) t = [.bool true, .int (n : Nat) t] := by
  rw [hr, if_pos ⟨hfd, hn⟩]; rfl
theorem told_d {X : Str} {n : Nat} {fd : Bool} {t : Tok} (hr : rs (lst X) = if fd = true ∧ n < 64 then .ok n else .error (noSq ++ st (39 :: ((lst X).take 40 ++ [39])))) (hfd : ¬ (fd = true ∧ n < 64)) :
    toldV (rs (lst X)) t = [.bool false, .str (Str.ofString "not a square (a1..h8 or 0..63): '" ++ Txt.slice X none (some 40) ++ Str.ofString "'") t] := by
  rw [hr, if_neg hfd, noq, lst_take X (by decide)]; rfl
theorem k_leaf {g h : Heap} {L : Addr} {x : Str} {z k : Int} {t : Tok} {m : Str → Option Value} (F : Fr g L h (fun y => if y = x then some (.int (z.fmod k) t) else m y)) (hk : 0 < k) : ∃ (nn : Nat) (t5 : Tok), (nn : Int) < k ∧ Fr g L h (fun y => if y = x then some (.int ((nn : Nat) : Int) t5) else m y) :=
  ⟨(z.fmod k).toNat, t, by have := fm_ltk z hk; have := fm_nn z hk; omega, by rw [Int.toNat_of_nonneg (fm_nn z hk)]; exact F⟩
theorem len_in3 {x : Str} (h : lst x ∈ ([[], [49]] : List (List Nat))) : x.length ≤ 1 := by
  have : (lst x).length ≤ 1 := by
    simp only [List.mem_cons, List.not_mem_nil, or_false] at h
    rcases h with h | h <;> rw [h] <;> decide
  exact this
theorem in3 {T : List Nat} (h : T ∈ ([[], [49]] : List (List Nat))) : T = [] ∨ T = [49] := by simpa using h
theorem item_l0 : ∀ c : Nat, c < 9 → Txt.item (Str.ofString "abcdefghi") ((c : Nat) : Int) = st [97 + c] := by decide +kernel
theorem item_l1 : ∀ c : Nat, c < 9 → Txt.item (Str.ofString "ABCDEFGHI") ((c : Nat) : Int) = st [65 + c] := by decide +kernel
theorem item_d : ∀ c : Nat, c < 10 → Txt.item (Str.ofString "0123456789") ((c : Nat) : Int) = st [48 + c] := by decide +kernel
theorem nm_lst0 {co ro : Nat} {tl : Str} (hc : co < 9) (hr : ro < 10) : lst (Txt.item (Str.ofString "abcdefghi") ((co : Nat) : Int) ++ Txt.item (Str.ofString "0123456789") ((ro : Nat) : Int) ++ tl) = nmL false co ro (lst tl) := by
  rw [item_l0 co hc, item_d ro hr, lst_app, lst_app, lst_st, lst_st]; rfl
theorem nm_lst1 {co ro : Nat} {tl : Str} (hc : co < 9) (hr : ro < 10) : lst (Txt.item (Str.ofString "ABCDEFGHI") ((co : Nat) : Int) ++ Txt.item (Str.ofString "0123456789") ((ro : Nat) : Int) ++ tl) = nmL true co ro (lst tl) := by
  rw [item_l1 co hc, item_d ro hr, lst_app, lst_app, lst_st, lst_st]; rfl
theorem nm_len {nm tl : Str} {u : Bool} {co ro : Nat} (h : lst nm = nmL u co ro (lst tl)) (ht : tl.length ≤ 1) : nm.length ≤ 20000 := by
  have : (lst nm).length ≤ 20000 := by
    rw [h]; unfold nmL
    have : (lst tl).length ≤ 1 := ht
    simp only [List.length_cons]; omega
  exact this
theorem tl_t {x : Str} (h : (x == Str.ofString "") = true) : lst x = [] := by
  have : x = Str.ofString "" := by simpa using h
  rw [this]; rfl
theorem tl_f {x : Str} (h : (x == Str.ofString "") = false) {P : Prop} (h' : lst x = []) : P := by
  have e : x = Str.ofString "" := lst_inj h'
  rw [e, beq_self_eq_true] at h; cases h
theorem told_f {nm tl : Str} {co ro : Nat} {m : Str} {t : Tok} (hr : rs (lst nm) = if co < 8 ∧ (1 ≤ ro ∧ ro ≤ 8) ∧ lst tl = [] then .ok (8 * (ro - 1) + co) else .error m) (h1 : ((co : Nat) : Int) < 8) (h2 : 1 ≤ ((ro : Nat) : Int)) (h3 : ((ro : Nat) : Int) ≤ 8) (h4 : (tl == Str.ofString "") = true) :
    toldV (rs (lst nm)) t = [.bool true, .int (8 * (((ro : Nat) : Int) - 1) + ((co : Nat) : Int)) t] := by
  rw [hr, if_pos ⟨by omega, ⟨by omega, by omega⟩, tl_t h4⟩]
  have e : (8 * (((ro : Nat) : Int) - 1) + ((co : Nat) : Int)) = ((8 * (ro - 1) + co : Nat) : Int) := by omega
  rw [e]; rfl
theorem told_g {nm tl : Str} {co ro : Nat} {t : Tok} (hr : rs (lst nm) = if co < 8 ∧ (1 ≤ ro ∧ ro ≤ 8) ∧ lst tl = [] then .ok (8 * (ro - 1) + co) else .error (noSq ++ st (39 :: (lst nm ++ [39])))) (hn : ¬ (co < 8 ∧ (1 ≤ ro ∧ ro ≤ 8) ∧ lst tl = [])) :
    toldV (rs (lst nm)) t = [.bool false, .str (Str.ofString "not a square (a1..h8 or 0..63): '" ++ nm ++ Str.ofString "'") t] := by
  rw [hr, if_neg hn, noq]; rfl
theorem wi_leaf {g h : Heap} {L : Addr} {x : Str} {e : Int} {t : Tok} {m : Str → Option Value} (F : Fr g L h (fun y => if y = x then some (.int e t) else m y)) (h0 : 0 ≤ e) (h1 : e ≤ 66) : ∃ (nn : Nat) (t5 : Tok), nn ≤ 66 ∧ Fr g L h (fun y => if y = x then some (.int ((nn : Nat) : Int) t5) else m y) :=
  ⟨e.toNat, t, by omega, by rw [Int.toNat_of_nonneg h0]; exact F⟩
theorem max66 {b : Nat} {z : Int} (hp : b ≤ 64) : (if (b : Int) - 1 + z.fmod 3 > 0 then (b : Int) - 1 + z.fmod 3 else 0) ≤ 66 := by
  have : z.fmod 3 < 3 := fm_ltk z (by decide)
  split <;> omega
theorem pow2_6 {prog : Program} {w : World} {A : Around} {E : Value → Shared → Prop} {s : Shared} {Q : Value → Shared → Prop} {k : Nat} {t u : Tok} (hk : k ≤ 66) (h : Q (.int ((2 ^ k : Nat) : Int) s.toks) { s with toks := s.toks + 1 }) :
    wpAny (model prog w) A (binaryOp .LShift (.int 1 t) (.int (k : Int) u)) Q E s := pow2_n (by omega) h
theorem ne_strS {prog : Program} {w : World} {A : Around} {E : Value → Shared → Prop} {s : Shared} {Q : Value → Shared → Prop} {x : Str} {t u : Tok} (h : Q (.bool false) s) : wpAny (model prog w) A (compareOp .NotEq (.str x t) (.str x u)) Q E s :=
  ne_str (by rw [bne_self_eq_false]; exact h)
theorem p_fits_a (w : World) (n k : Nat) (t1 t2 : Tok) (hn : n < 2 ^ 70) (hk : k ≤ 70) (hf : n < 2 ^ k) (news : List (Addr × Obj)) :
    ConW w 125 [.int (n : Int) t1, .int (k : Int) t2] news (fun K Q => ∀ h' tk', K h' news → Q .none h' tk') :=
  fun p loose mean mg mb dp un gd cn cs a ccd A₀ base h₀ L m s Q E B F X N T XB TB hck hd hu hret => p_fits w n k t1 t2 hn hk news p loose mean mg mb dp un gd cn cs a ccd A₀ base h₀ L m s Q E B F X N T XB TB hck hd hu ⟨fun _ => hret, fun h => absurd hf h⟩
theorem p_fits_b (w : World) (n k : Nat) (t1 t2 : Tok) (hn : n < 2 ^ 70) (hk : k ≤ 70) (hf : ¬ n < 2 ^ k) (news : List (Addr × Obj)) :
    ConW w 125 [.int (n : Int) t1, .int (k : Int) t2] news (fun K Q => ∀ t h' tk', K h' news → Q (.str (Str.ofString (toString (n : Int)) ++ Str.ofString " needs more than " ++ Str.ofString (toString (k : Int)) ++ Str.ofString " bits") t) h' tk') :=
  fun p loose mean mg mb dp un gd cn cs a ccd A₀ base h₀ L m s Q E B F X N T XB TB hck hd hu hret => p_fits w n k t1 t2 hn hk news p loose mean mg mb dp un gd cn cs a ccd A₀ base h₀ L m s Q E B F X N T XB TB hck hd hu ⟨fun h => absurd h hf, fun _ => hret⟩
/-- what a turn comes to -/
def rr (n k : Nat) (z : Int) : Except Str Nat := if k = 0 then .error (Str.ofString "refused") else .ok (rotN n (z.fmod k).toNat k)
theorem rr_okr (n k : Nat) (z : Int) : Okr (rr n k z) := by
  unfold rr
  split
  · exact sok_of "refused"
  · exact True.intro
theorem rr0 {n k : Nat} {z : Int} {t : Tok} (hk : k = 0) : toldV (rr n k z) t = [.bool false, .str (Str.ofString "refused") t] := by
  unfold rr; rw [if_pos hk]; rfl
theorem rr_left {n k : Nat} {z : Int} {t : Tok} (hk : 0 < k) : toldV (rr n k z) t = [.bool true, .int ((rotN n (z.fmod k).toNat k : Nat) : Int) t] := by
  unfold rr; rw [if_neg (by omega)]; rfl
theorem rr_right {n k : Nat} {z : Int} {t : Tok} (hn : n < 2 ^ k) (hk : 0 < k) : toldV (rr n k (-z)) t = [.bool true, .int (((n >>> (z.fmod k).toNat ||| n <<< (k - (z.fmod k).toNat)) % 2 ^ k : Nat) : Int) t] := by
  rw [rot_neg hn hk]; exact rr_left hk
theorem row_leaf {P : Shared → Prop} {s : Shared} (h : P s) : DoneS P .next s := ⟨rfl, h⟩
local macro_rules | `(tactic| walk_at "call ref") => `(tactic| (k_here; (with_reducible show wpAny _ _ (call (Value.ref 90) [Value.int _ _, Value.str _ _, Value.int _ _]) _ _ _); k_dflt (refine' use4 (c_digits _ _ _ _ _ _ _ _ ?q1 ?q2 ?q3 ?q4 ?q5) ?k1 ?k2 ?k3 ?k4 ?k5 ?kK ?kd ?ku ?_; (case q1 => with_reducible assumption); (case q2 => with_reducible assumption); (case q3 => with_reducible assumption); (case q4 => with_reducible assumption); (case q5 => with_reducible assumption); (case k1 => k_asm); (case k2 => k_asm); (case k3 => k_asm); (case k4 => k_asm); (case k5 => k_asm); (case kK => first | exact rfl | assumption); (case kd => ktr_room); (case ku => ktr_units)); intro t9 h9 tk9 ⟨F9, N9⟩; (try dsimp only); (try k_fold)))
local macro_rules | `(tactic| walk_at "call ref") => `(tactic| (k_here; (with_reducible show wpAny _ _ (call (Value.ref 97) _) _ _ _); k_dflt (refine' use4 (c_formed _ _ _ _ _ _ _ _ _ _ _ _ _ _ _ _ ?q1 ?q2 ?q3 ?q4) ?k1 ?k2 ?k3 ?k4 ?k5 ?kK ?kd ?ku ?_; (case q1 => with_reducible assumption); (case q2 => with_reducible assumption); (case q3 => with_reducible assumption); (case q4 => with_reducible assumption); (case k1 => k_asm); (case k2 => k_asm); (case k3 => k_asm); (case k4 => k_asm); (case k5 => k_asm); (case kK => first | exact rfl | assumption); (case kd => ktr_room); (case ku => ktr_units)); intro h9 tk9 ⟨F9, N9⟩; (try dsimp only); (try k_fold)))
local macro_rules | `(tactic| walk_at "call builtin:len") => `(tactic| (k_here; (with_reducible show wpAny _ _ (call (Value.builtin "len") [Value.str (st _) _]) _ _ _); k_dflt (refine' len_st ?a ?_; (case a => omega))))
local macro_rules | `(tactic| walk_at "call ref") => `(tactic| (k_here; (with_reducible show wpAny _ _ (call (Value.ref 125) _) _ _ _); k_dflt (first | (refine' use_w (p_fits_a _ _ _ _ _ ?q1 ?q2 ?q3 _) ?k1 ?k2 ?k3 ?k4 ?k5 ?k6 ?k7 ?kK ?kd ?ku ?_; (case q1 => with_reducible assumption); (case q2 => with_reducible assumption); (case q3 => with_reducible assumption); (case k1 => k_asm); (case k2 => k_asm); (case k3 => k_asm); (case k4 => k_asm); (case k5 => k_asm); (case k6 => k_asm); (case k7 => k_asm); (case kK => first | exact rfl | assumption); (case kd => ktr_room); (case ku => ktr_units); intro h9 tk9 ⟨F9, N9⟩) | (refine' use_w (p_fits_b _ _ _ _ _ ?q1 ?q2 ?q3 _) ?k1 ?k2 ?k3 ?k4 ?k5 ?k6 ?k7 ?kK ?kd ?ku ?_; (case q1 => with_reducible assumption); (case q2 => with_reducible assumption); (case q3 => with_reducible assumption); (case k1 => k_asm); (case k2 => k_asm); (case k3 => k_asm); (case k4 => k_asm); (case k5 => k_asm); (case k6 => k_asm); (case k7 => k_asm); (case kK => first | exact rfl | assumption); (case kd => ktr_room); (case ku => ktr_units); intro t9 h9 tk9 ⟨F9, N9⟩)); (try dsimp only); (try k_fold)))
local macro_rules | `(tactic| walk_at "call ref") => `(tactic| (k_here; (with_reducible show wpAny _ _ (call (Value.ref 132) _) _ _ _); k_dflt (first | (refine' use_w (p_left _ _ _ _ _ _ _ ?q1 ?q2 ?q3 _) ?k1 ?k2 ?k3 ?k4 ?k5 ?k6 ?k7 ?kK ?kd ?ku ?_; (case q1 => with_reducible assumption); (case q2 => with_reducible assumption); (case q3 => with_reducible assumption); (case k1 => k_asm); (case k2 => k_asm); (case k3 => k_asm); (case k4 => k_asm); (case k5 => k_asm); (case k6 => k_asm); (case k7 => k_asm); (case kK => first | exact rfl | assumption); (case kd => ktr_room); (case ku => ktr_units); intro D9 t9 h9 tk9 ⟨F9, N9⟩ hne9) | (refine' use_w (p_left0 _ _ _ _ _ _ _ ?q1 ?q2 ?q3 _) ?k1 ?k2 ?k3 ?k4 ?k5 ?k6 ?k7 ?kK ?kd ?ku ?_; (case q1 => with_reducible assumption); (case q2 => with_reducible assumption); (case q3 => with_reducible assumption); (case k1 => k_asm); (case k2 => k_asm); (case k3 => k_asm); (case k4 => k_asm); (case k5 => k_asm); (case k6 => k_asm); (case k7 => k_asm); (case kK => first | exact rfl | assumption); (case kd => ktr_room); (case ku => ktr_units); intro D9 t9 h9 tk9 ⟨F9, N9⟩ hne9)); (try dsimp only); (try k_fold)))
local macro_rules | `(tactic| walk_at "call ref") => `(tactic| (k_here; (with_reducible show wpAny _ _ (call (Value.ref 139) _) _ _ _); k_dflt (first | (refine' use_w (p_right _ _ _ _ _ _ _ ?q1 ?q2 ?q3 _) ?k1 ?k2 ?k3 ?k4 ?k5 ?k6 ?k7 ?kK ?kd ?ku ?_; (case q1 => with_reducible assumption); (case q2 => with_reducible assumption); (case q3 => with_reducible assumption); (case k1 => k_asm); (case k2 => k_asm); (case k3 => k_asm); (case k4 => k_asm); (case k5 => k_asm); (case k6 => k_asm); (case k7 => k_asm); (case kK => first | exact rfl | assumption); (case kd => ktr_room); (case ku => ktr_units); intro D9 t9 h9 tk9 ⟨F9, N9⟩ hne9) | (refine' use_w (p_right0 _ _ _ _ _ _ _ ?q1 ?q2 ?q3 _) ?k1 ?k2 ?k3 ?k4 ?k5 ?k6 ?k7 ?kK ?kd ?ku ?_; (case q1 => with_reducible assumption); (case q2 => with_reducible assumption); (case q3 => with_reducible assumption); (case k1 => k_asm); (case k2 => k_asm); (case k3 => k_asm); (case k4 => k_asm); (case k5 => k_asm); (case k6 => k_asm); (case k7 => k_asm); (case kK => first | exact rfl | assumption); (case kd => ktr_room); (case ku => ktr_units); intro D9 t9 h9 tk9 ⟨F9, N9⟩ hne9)); (try dsimp only); (try k_fold)))
local macro_rules | `(tactic| walk_at "compareOp NotEq str str") => `(tactic| (k_here; k_dflt (with_reducible refine' ne_strS ?_)))
local macro_rules | `(tactic| walk_at "call ref") => `(tactic| (k_here; (with_reducible show wpAny _ _ (call (Value.ref 146) _) _ _ _); k_dflt (refine' use4 (c_turned _ _ _ _ _ _ _ _ ?q1 ?q2 ?q3 ?q4) ?k1 ?k2 ?k3 ?k4 ?k5 ?kK ?kd ?ku ?_; (case q1 => with_reducible assumption); (case q2 => with_reducible assumption); (case q3 => omega); (case q4 => with_reducible assumption); (case k1 => k_asm); (case k2 => k_asm); (case k3 => k_asm); (case k4 => k_asm); (case k5 => k_asm); (case kK => first | exact rfl | assumption); (case kd => ktr_room); (case ku => ktr_units)); intro t9 h9 tk9 ⟨F9, N9⟩; (try dsimp only); (try k_fold)))
local macro_rules | `(tactic| walk_at "compareOp NotEq ref ref") => `(tactic| (k_here; k_dflt (refine' ne_told ?N ?a ?b ?r ?u ?_; (case N => k_asm); (case a => k_mem); (case b => k_mem); (case r => with_reducible assumption); (case u => ke_room))))
local macro_rules | `(tactic| walk_at "subscriptTail Name Constant ref int") => `(tactic| (k_here; k_dflt ((first | (with_reducible refine' item_told0 ?N ?m ?_ ?s) | (with_reducible refine' item_told1 ?N ?m ?b ?_ ?s)); (case N => k_asm); (case m => k_mem); (try (case b => with_reducible assumption)); (case s => with_unfolding_all rfl))))
local macro_rules | `(tactic| walk_at "binaryOp Mult str int") => `(tactic| (k_here; k_dflt (refine' mul0 ?a ?b ?_; (case a => omega); (case b => omega)); intro t9 k9))
local macro_rules | `(tactic| walk_at "binaryOp Add str str") => `(tactic| (k_here; k_dflt (refine' add_gen ?h ?_; (case h => ((try simp only [PySem.Str.length_append, st_len, List.length_take, List.length_drop]); omega))); intro t9 k9))
local macro_rules | `(tactic| walk_at "binaryOp Add str str") => `(tactic| (k_here; (with_reducible show wpAny _ _ (binaryOp _ (Value.str (st _) _) (Value.str (st _) _)) _ _ _); k_dflt (refine' add_st ?h ?_; (case h => (simp only [List.length_replicate]; omega))); intro t9 k9))
local macro_rules | `(tactic| walk_at "subscriptTail Subscript Name str int") => `(tactic| (k_here; k_dflt (refine' item_n ?h ?g ?_ ?s ?t; (case h => exact Nat.lt_of_lt_of_le (by with_reducible assumption) (by decide)); (case g => decide); (case s => with_unfolding_all rfl); (case t => intro _; with_unfolding_all rfl))))
local macro_rules | `(tactic| walk_at "subscriptTail Constant Name str int") => `(tactic| (k_here; k_dflt (refine' item_n ?h ?g ?_ ?s ?t; (case h => exact Nat.lt_of_lt_of_le (by with_reducible assumption) (by decide)); (case g => decide); (case s => with_unfolding_all rfl); (case t => intro _; with_unfolding_all rfl))))
local macro_rules | `(tactic| walk_at "subscriptTail Name Name str int") => `(tactic| (k_here; k_dflt (refine' item_n ?h ?g ?_ ?s ?t; (case h => with_reducible assumption); (case g => omega); (case s => with_unfolding_all rfl); (case t => intro _; with_unfolding_all rfl))))
local macro_rules | `(tactic| walk_at "subscriptTail Name BinOp ref int") => `(tactic| (k_here; (with_reducible show wpAny _ _ (subscriptTail _ _ (Value.ref _) (Value.int (Int.fmod _ 6) _)) _ _ _); k_dflt (refine' item_news ?N ?m ?a ?b ?c ?_ ?s; (case N => k_asm); (case m => k_mem); (case a => exact fm_nn _ (by decide)); (case b => exact fm_ltk _ (by decide)); (case c => decide); (case s => with_unfolding_all rfl)); refine' all_marks ?_; intro b9 t9 hb9))
local macro_rules | `(tactic| walk_at "subscriptTail Name Slice str ref") => `(tactic| (k_here; (with_reducible show wpAny _ _ (subscriptTail _ (Expr.Slice (some _) none none _) _ _) _ _ _); k_dflt (with_reducible refine' slice_d ?h ?F ?N ?_ ?hs ?ht; (case h => omega); (case F => k_asm); (case N => k_asm); (case hs => with_unfolding_all rfl); (case ht => intro _; with_unfolding_all rfl); k_whole); intro h5 t5 k5 F5 N5))
local macro_rules | `(tactic| walk_at "subscriptTail Name Slice str ref") => `(tactic| (k_here; (with_reducible show wpAny _ _ (subscriptTail _ (Expr.Slice none (some _) none _) _ _) _ _ _); k_dflt (refine' slice_t ?h ?F ?N ?_ ?hs ?ht; (case h => omega); (case F => k_asm); (case N => k_asm); (case hs => with_unfolding_all rfl); (case ht => intro _; with_unfolding_all rfl); k_whole); intro h5 t5 k5 F5 N5))
local macro_rules | `(tactic| walk_at "binaryOp LShift int int") => `(tactic| (k_here; k_dflt (first | (with_reducible refine' pow2_4 ?h ?_; (case h => assumption)) | (with_reducible refine' pow2_5 ?h ?_; (case h => assumption)) | (with_reducible refine' pow2_6 ?h ?_; (case h => assumption)))))
local macro_rules | `(tactic| walk_at "binaryOp Mod int int") => `(tactic| (k_here; k_dflt (first | (with_reducible refine' mod_p ?h ?_; (case h => exact Nat.two_pow_pos _)) | (with_reducible refine' mod_l ?_)); intro m9 hm9))
local macro_rules | `(tactic| walk_at "subscriptTail Name BinOp ref int") => `(tactic| (k_here; (with_reducible show wpAny _ _ (subscriptTail _ _ (Value.ref 81) (Value.int _ _)) _ _ _); k_dflt (refine' item_any ?F ?X ?l ?a ?b ?c ?_ ?s; (case F => k_asm); (case X => k_asm); (case l => k_is); (case a => exact fm_nn _ (by decide)); (case b => exact fm_ltk _ (by decide)); (case c => decide); (case s => with_unfolding_all rfl)); refine' all_bits ?h ?_; (case h => decide); intro b9 t9 hb9))
local macro_rules | `(tactic| walk_at "subscriptTail Name BinOp ref int") => `(tactic| (k_here; (with_reducible show wpAny _ _ (subscriptTail _ _ (Value.ref 82) (Value.int _ _)) _ _ _); k_dflt (refine' item_any ?F ?X ?l ?a ?b ?c ?_ ?s; (case F => k_asm); (case X => k_asm); (case l => k_is); (case a => exact fm_nn _ (by decide)); (case b => exact fm_ltk _ (by decide)); (case c => decide); (case s => with_unfolding_all rfl)); refine' all_strs [[], [32], [43], [45]] ?h ?_; (case h => decide +kernel); intro b9 t9 hb9))
local macro_rules | `(tactic| walk_at "subscriptTail Name BinOp ref int") => `(tactic| (k_here; (with_reducible show wpAny _ _ (subscriptTail _ _ (Value.ref 83) (Value.int _ _)) _ _ _); k_dflt (refine' item_any ?F ?X ?l ?a ?b ?c ?_ ?s; (case F => k_asm); (case X => k_asm); (case l => k_is); (case a => exact fm_nn _ (by decide)); (case b => exact fm_ltk _ (by decide)); (case c => decide); (case s => with_unfolding_all rfl)); refine' all_strs [[], [32], [1635]] ?h ?_; (case h => decide +kernel); intro b9 t9 hb9))
local macro_rules | `(tactic| walk_at "subscriptTail Name BinOp ref int") => `(tactic| (k_here; (with_reducible show wpAny _ _ (subscriptTail _ _ (Value.ref 80) (Value.int _ _)) _ _ _); k_dflt (refine' item_any ?F ?X ?l ?a ?b ?c ?_ ?s; (case F => k_asm); (case X => k_asm); (case l => k_is); (case a => exact fm_nn _ (by decide)); (case b => exact fm_ltk _ (by decide)); (case c => decide); (case s => with_unfolding_all rfl)); intro v9 hv9; (simp only [List.mem_cons, List.not_mem_nil, or_false] at hv9); rcases hv9 with q9 | q9 | q9 | q9 | q9 | q9 | q9 | q9 <;> subst q9))
set_option maxHeartbeats 4000000 in
theorem t4 : PySem.Challenge.rw_sx_zbitworks_4.Holds := hd4 (by
  k_with_none
  w_strict (
    k_fill
    intro w s₀ s₁ mg mb G Y fa o pm cd doc dV kV ho hd hcd hD hmg hg args vals as hpre hlay hrd hwl hlo
    have KX := kIn_of Y
    have X := (Ground.X G).1
    have V := (Ground.X G).2
    refine Ground.open G ?_
    intro T B D TE TW
    try (refine guard_noD D (by decide +kernel) ?_; clear D)
    obtain ⟨_, _, M⟩ := bmod_of_top T
    have TA := at_of_top T
    try (obtain ⟨_, _, he, B0⟩ := based_of_top T rfl hmg ho hd; have he' : cd = _ := he; subst he'; clear he)
    clear hmg
    wrow_args hpre hlay hrd hwl hlo
    have K0 := below_caller (Top.heap T)
    have he := Dflts.none hD rfl
    subst he
    refine call_fullP (by decide) ho hd (Top.nolimit T) hcd (BindsTo.of_eq rfl) (locs rfl) fun h₁ F => ?_
    w_binds F
    have N0 := (News.nil : News _ _ _ []).at F
    clear hd TA
    k_drop
    rename IntsAre _ _ => hI
    rename Heap.IsList _ _ _ => hLs
    refine wpP_execs_cons (wpP_of ?_)
    k_steps
    rename_i zs hs1 hl0 hL1 hr1 hl2 as4 as3 l vs asx ra w1 r0 hrW hc1 hc2 a17
    dsimp only
    refine st_done (fun P => ∀ h5 tk5 H b S wd t1 t2 t3, Fr s₁.heap s₁.heap.objs.size h5 (fun y => if y = Str.ofString "wide" then some (.bool wd) else if y = Str.ofString "signs" then some (.str S t3) else if y = Str.ofString "base" then some (.int ((b : Nat) : Int) t2) else if y = Str.ofString "head" then some (.str H t1) else List.lookup y [(Str.ofString "script", Value.ref l)].reverse) → News s₁.heap s₁.heap.objs.size h5 [] → Row (lst H) b (lst S) wd → P { s₁ with heap := h5, toks := tk5 }) ?_ ?_
    · intro QQ hQ1
      k_steps
      all_goals
        first
              | exact ⟨rfl, hQ1 _ _ (Str.ofString "") 10 (Str.ofString "0123456789z") false _ _ _ (fr_of (by k_asm) rfl) (by k_asm) (Row.dec)⟩
              | exact ⟨rfl, hQ1 _ _ (Str.ofString "0x") 16 (Str.ofString "0123456789abcdefg") true _ _ _ (fr_of (by k_asm) rfl) (by k_asm) (Row.hex)⟩
              | exact ⟨rfl, hQ1 _ _ (Str.ofString "0X") 16 (Str.ofString "0123456789ABCDEFG") true _ _ _ (fr_of (by k_asm) rfl) (by k_asm) (Row.hexU)⟩
              | exact ⟨rfl, hQ1 _ _ (Str.ofString "0o") 8 (Str.ofString "012345678") true _ _ _ (fr_of (by k_asm) rfl) (by k_asm) (Row.oct)⟩
              | exact ⟨rfl, hQ1 _ _ (Str.ofString "0O") 8 (Str.ofString "012345678") true _ _ _ (fr_of (by k_asm) rfl) (by k_asm) (Row.octU)⟩
              | exact ⟨rfl, hQ1 _ _ (Str.ofString "0b") 2 (Str.ofString "012") false _ _ _ (fr_of (by k_asm) rfl) (by k_asm) (Row.bin)⟩
              | exact ⟨rfl, hQ1 _ _ (Str.ofString "0B") 2 (Str.ofString "012") false _ _ _ (fr_of (by k_asm) rfl) (by k_asm) (Row.binU)⟩
    clear F N0
    intro h5 tk5 H b S wd t1 t2 t3 F N0 hrow
    obtain ⟨hr2, hr3, hr4, hr5, hr6, hr7⟩ := row_len hrow
    refine st_done (fun P => ∀ h5 tk5 bt t4, Fr s₁.heap s₁.heap.objs.size h5 (fun y => if y = Str.ofString "bits" then some (.int ((bt : Nat) : Int) t4) else if y = Str.ofString "wide" then some (.bool wd) else if y = Str.ofString "signs" then some (.str S t3) else if y = Str.ofString "base" then some (.int ((b : Nat) : Int) t2) else if y = Str.ofString "head" then some (.str H t1) else List.lookup y [(Str.ofString "script", Value.ref l)].reverse) → News s₁.heap s₁.heap.objs.size h5 [] → bt ≤ 64 → P { s₁ with heap := h5, toks := tk5 }) ?_ ?_
    · intro QQ hQ2
      k_steps
      exact ⟨rfl, hQ2 _ _ _ _ (fr_of (by k_asm) rfl) (by k_asm) (by assumption)⟩
    clear F N0
    intro h5 tk5 bt t4 F N0 hbt
    refine st_done (fun P => ∀ h5 tk5 nn t5, Fr s₁.heap s₁.heap.objs.size h5 (fun y => if y = Str.ofString "n" then some (.int ((nn : Nat) : Int) t5) else if y = Str.ofString "bits" then some (.int ((bt : Nat) : Int) t4) else if y = Str.ofString "wide" then some (.bool wd) else if y = Str.ofString "signs" then some (.str S t3) else if y = Str.ofString "base" then some (.int ((b : Nat) : Int) t2) else if y = Str.ofString "head" then some (.str H t1) else List.lookup y [(Str.ofString "script", Value.ref l)].reverse) → News s₁.heap s₁.heap.objs.size h5 [] → nn < 2 ^ 70 → P { s₁ with heap := h5, toks := tk5 }) ?_ ?_
    · intro QQ hQ3
      have hp9 := pow_le hbt
      k_steps
      rename Fr _ _ _ _ => F9
      obtain ⟨nn, t5, h8, h9⟩ := n_leaf F9 (max0 _) (max70 hp9)
      exact ⟨rfl, hQ3 _ _ nn t5 h9 (by k_asm) h8⟩
    clear F N0
    intro h5 tk5 nn t5 F N0 hnn
    refine st_done (fun P => ∀ h5 tk5 nn t5, Fr s₁.heap s₁.heap.objs.size h5 (fun y => if y = Str.ofString "n" then some (.int ((nn : Nat) : Int) t5) else if y = Str.ofString "bits" then some (.int ((bt : Nat) : Int) t4) else if y = Str.ofString "wide" then some (.bool wd) else if y = Str.ofString "signs" then some (.str S t3) else if y = Str.ofString "base" then some (.int ((b : Nat) : Int) t2) else if y = Str.ofString "head" then some (.str H t1) else List.lookup y [(Str.ofString "script", Value.ref l)].reverse) → News s₁.heap s₁.heap.objs.size h5 [] → nn < 2 ^ 70 → P { s₁ with heap := h5, toks := tk5 }) ?_ ?_
    · intro QQ hQ4
      k_steps
      · exact ⟨rfl, hQ4 _ _ _ _ (fr_of (by k_asm) dup) (by k_asm) (lt70 hbt (by with_reducible assumption))⟩
      · exact ⟨rfl, hQ4 _ _ nn t5 (by k_asm) (by k_asm) hnn⟩
    clear F N0 hnn nn t5
    intro h5 tk5 nn4 t54 F N0 hnn4
    refine st_done (fun P => ∀ h5 tk5 t6, Fr s₁.heap s₁.heap.objs.size h5 (fun y => if y = Str.ofString "written" then some (.str (st (dg (lst S) b 70 nn4 [])) t6) else if y = Str.ofString "n" then some (.int ((nn4 : Nat) : Int) t54) else if y = Str.ofString "bits" then some (.int ((bt : Nat) : Int) t4) else if y = Str.ofString "wide" then some (.bool wd) else if y = Str.ofString "signs" then some (.str S t3) else if y = Str.ofString "base" then some (.int ((b : Nat) : Int) t2) else if y = Str.ofString "head" then some (.str H t1) else List.lookup y [(Str.ofString "script", Value.ref l)].reverse) → News s₁.heap s₁.heap.objs.size h5 [] → P { s₁ with heap := h5, toks := tk5 }) ?_ ?_
    · intro QQ hQ5
      k_steps
      exact ⟨rfl, hQ5 _ _ _ (by k_asm) (by k_asm)⟩
    clear F N0
    intro h5 tk5 t6 F N0 
    have hwl := dg_len70 (lst S) b nn4
    refine st_done (fun P => ∀ h5 tk5 fl t7, Fr s₁.heap s₁.heap.objs.size h5 (fun y => if y = Str.ofString "fill" then some (.int fl t7) else if y = Str.ofString "written" then some (.str (st (dg (lst S) b 70 nn4 [])) t6) else if y = Str.ofString "n" then some (.int ((nn4 : Nat) : Int) t54) else if y = Str.ofString "bits" then some (.int ((bt : Nat) : Int) t4) else if y = Str.ofString "wide" then some (.bool wd) else if y = Str.ofString "signs" then some (.str S t3) else if y = Str.ofString "base" then some (.int ((b : Nat) : Int) t2) else if y = Str.ofString "head" then some (.str H t1) else List.lookup y [(Str.ofString "script", Value.ref l)].reverse) → News s₁.heap s₁.heap.objs.size h5 [] → 0 ≤ fl → fl < 7 → P { s₁ with heap := h5, toks := tk5 }) ?_ ?_
    · intro QQ hQ6
      k_steps
      rename Fr _ _ _ _ => F9
      refine ⟨rfl, hQ6 _ _ _ _ F9 (by k_asm) (?_) (?_)⟩
      · exact fm_nn _ (by decide)
      · exact fm_ltk _ (by decide)
    clear F N0
    intro h5 tk5 fl t7 F N0 hf0 hf7
    refine st_done (fun P => ∀ h5 tk5 zz t8, Fr s₁.heap s₁.heap.objs.size h5 (fun y => if y = Str.ofString "zeros" then some (.int zz t8) else if y = Str.ofString "fill" then some (.int fl t7) else if y = Str.ofString "written" then some (.str (st (dg (lst S) b 70 nn4 [])) t6) else if y = Str.ofString "n" then some (.int ((nn4 : Nat) : Int) t54) else if y = Str.ofString "bits" then some (.int ((bt : Nat) : Int) t4) else if y = Str.ofString "wide" then some (.bool wd) else if y = Str.ofString "signs" then some (.str S t3) else if y = Str.ofString "base" then some (.int ((b : Nat) : Int) t2) else if y = Str.ofString "head" then some (.str H t1) else List.lookup y [(Str.ofString "script", Value.ref l)].reverse) → News s₁.heap s₁.heap.objs.size h5 [] → zz = fl - 3 → P { s₁ with heap := h5, toks := tk5 }) ?_ ?_
    · intro QQ hQ7
      k_steps
      rename Fr _ _ _ _ => F9
      exact ⟨rfl, hQ7 _ _ _ _ F9 (by k_asm) rfl⟩
    clear F N0
    intro h5 tk5 zz t8 F N0 hz3
    refine st_done (fun P => ∀ h5 tk5 zz t8, Fr s₁.heap s₁.heap.objs.size h5 (fun y => if y = Str.ofString "zeros" then some (.int zz t8) else if y = Str.ofString "fill" then some (.int fl t7) else if y = Str.ofString "written" then some (.str (st (dg (lst S) b 70 nn4 [])) t6) else if y = Str.ofString "n" then some (.int ((nn4 : Nat) : Int) t54) else if y = Str.ofString "bits" then some (.int ((bt : Nat) : Int) t4) else if y = Str.ofString "wide" then some (.bool wd) else if y = Str.ofString "signs" then some (.str S t3) else if y = Str.ofString "base" then some (.int ((b : Nat) : Int) t2) else if y = Str.ofString "head" then some (.str H t1) else List.lookup y [(Str.ofString "script", Value.ref l)].reverse) → News s₁.heap s₁.heap.objs.size h5 [] → -100 ≤ zz → zz ≤ 9000 → (wd = false → zz ≤ 3) → P { s₁ with heap := h5, toks := tk5 }) ?_ ?_
    · intro QQ hQ8
      k_steps
      · rename Fr _ _ _ _ => F9
        exact ⟨rfl, hQ8 _ _ _ _ (fr_of F9 dup) (by k_asm) ((zlem hwl hf0 hf7).1) ((zlem hwl hf0 hf7).2) (fun h => tnot (by assumption) h)⟩
      all_goals exact ⟨rfl, hQ8 _ _ zz t8 F N0 ((z3lem hz3 hf0 hf7).1) ((z3lem hz3 hf0 hf7).2.1) (fun _ => (z3lem hz3 hf0 hf7).2.2)⟩
    clear F N0 hz3 zz t8
    intro h5 tk5 zz8 t88 F N0 hz1 hz2 hzw
    refine st_done (fun P => ∀ h5 tk5 t9, Fr s₁.heap s₁.heap.objs.size h5 (fun y => if y = Str.ofString "digits" then some (.str (st (digs (lst S) b nn4 zz8.toNat)) t9) else if y = Str.ofString "zeros" then some (.int zz8 t88) else if y = Str.ofString "fill" then some (.int fl t7) else if y = Str.ofString "written" then some (.str (st (dg (lst S) b 70 nn4 [])) t6) else if y = Str.ofString "n" then some (.int ((nn4 : Nat) : Int) t54) else if y = Str.ofString "bits" then some (.int ((bt : Nat) : Int) t4) else if y = Str.ofString "wide" then some (.bool wd) else if y = Str.ofString "signs" then some (.str S t3) else if y = Str.ofString "base" then some (.int ((b : Nat) : Int) t2) else if y = Str.ofString "head" then some (.str H t1) else List.lookup y [(Str.ofString "script", Value.ref l)].reverse) → News s₁.heap s₁.heap.objs.size h5 [] → P { s₁ with heap := h5, toks := tk5 }) ?_ ?_
    · intro QQ hQ9
      k_steps
      rename Fr _ _ _ _ => F9
      exact ⟨rfl, hQ9 _ _ _ F9 (by k_asm)⟩
    clear F N0
    intro h5 tk5 t9 F N0 
    have hdl : (digs (lst S) b nn4 zz8.toNat).length ≤ 9100 := digs_len hz2
    refine st_done (fun P => ∀ h5 tk5 mD a1 a2 a3 a4 a5 a6, Fr s₁.heap s₁.heap.objs.size h5 (fun y => if y = Str.ofString "marks" then some (.ref mD) else if y = Str.ofString "digits" then some (.str (st (digs (lst S) b nn4 zz8.toNat)) t9) else if y = Str.ofString "zeros" then some (.int zz8 t88) else if y = Str.ofString "fill" then some (.int fl t7) else if y = Str.ofString "written" then some (.str (st (dg (lst S) b 70 nn4 [])) t6) else if y = Str.ofString "n" then some (.int ((nn4 : Nat) : Int) t54) else if y = Str.ofString "bits" then some (.int ((bt : Nat) : Int) t4) else if y = Str.ofString "wide" then some (.bool wd) else if y = Str.ofString "signs" then some (.str S t3) else if y = Str.ofString "base" then some (.int ((b : Nat) : Int) t2) else if y = Str.ofString "head" then some (.str H t1) else List.lookup y [(Str.ofString "script", Value.ref l)].reverse) → News s₁.heap s₁.heap.objs.size h5 [(mD, { cls := .type "tuple", data := .seq #[.str (Str.ofString "") a1, .str (Str.ofString "") a2, .str (Str.ofString "") a3, .str (Str.ofString "_") a4, .str (Str.ofString "__") a5, .str (st [(lst S).getD b 0]) a6] })] → P { s₁ with heap := h5, toks := tk5 }) ?_ ?_
    · intro QQ hQ10
      k_steps
      rename Fr _ _ _ _ => F9
      rename News _ _ _ _ => N9
      exact ⟨rfl, hQ10 _ _ _ _ _ _ _ _ _ F9 N9⟩
    clear F N0
    intro h5 tk5 mD a1 a2 a3 a4 a5 a6 F N0 
    refine st_done (fun P => ∀ h5 tk5 M t10, Fr s₁.heap s₁.heap.objs.size h5 (fun y => if y = Str.ofString "mark" then some (.str M t10) else if y = Str.ofString "marks" then some (.ref mD) else if y = Str.ofString "digits" then some (.str (st (digs (lst S) b nn4 zz8.toNat)) t9) else if y = Str.ofString "zeros" then some (.int zz8 t88) else if y = Str.ofString "fill" then some (.int fl t7) else if y = Str.ofString "written" then some (.str (st (dg (lst S) b 70 nn4 [])) t6) else if y = Str.ofString "n" then some (.int ((nn4 : Nat) : Int) t54) else if y = Str.ofString "bits" then some (.int ((bt : Nat) : Int) t4) else if y = Str.ofString "wide" then some (.bool wd) else if y = Str.ofString "signs" then some (.str S t3) else if y = Str.ofString "base" then some (.int ((b : Nat) : Int) t2) else if y = Str.ofString "head" then some (.str H t1) else List.lookup y [(Str.ofString "script", Value.ref l)].reverse) → News s₁.heap s₁.heap.objs.size h5 [(mD, { cls := .type "tuple", data := .seq #[.str (Str.ofString "") a1, .str (Str.ofString "") a2, .str (Str.ofString "") a3, .str (Str.ofString "_") a4, .str (Str.ofString "__") a5, .str (st [(lst S).getD b 0]) a6] })] → Marks (lst S) b (lst M) → P { s₁ with heap := h5, toks := tk5 }) ?_ ?_
    · intro QQ hQ11
      k_steps
      all_goals
        rename Fr _ _ _ _ => F9
        first
          | exact ⟨rfl, hQ11 _ _ _ _ F9 (by k_asm) (Or.inl rfl)⟩
          | exact ⟨rfl, hQ11 _ _ _ _ F9 (by k_asm) (Or.inr (Or.inl rfl))⟩
          | exact ⟨rfl, hQ11 _ _ _ _ F9 (by k_asm) (Or.inr (Or.inr (Or.inl rfl)))⟩
          | exact ⟨rfl, hQ11 _ _ _ _ F9 (by k_asm) (Or.inr (Or.inr (Or.inr rfl)))⟩
    clear F N0
    intro h5 tk5 M t10 F N0 hM
    replace N0 := news_tl N0
    refine st_done (fun P => ∀ h5 tk5 pl t11, Fr s₁.heap s₁.heap.objs.size h5 (fun y => if y = Str.ofString "place" then some (.int ((pl : Nat) : Int) t11) else if y = Str.ofString "mark" then some (.str M t10) else if y = Str.ofString "marks" then some (.ref mD) else if y = Str.ofString "digits" then some (.str (st (digs (lst S) b nn4 zz8.toNat)) t9) else if y = Str.ofString "zeros" then some (.int zz8 t88) else if y = Str.ofString "fill" then some (.int fl t7) else if y = Str.ofString "written" then some (.str (st (dg (lst S) b 70 nn4 [])) t6) else if y = Str.ofString "n" then some (.int ((nn4 : Nat) : Int) t54) else if y = Str.ofString "bits" then some (.int ((bt : Nat) : Int) t4) else if y = Str.ofString "wide" then some (.bool wd) else if y = Str.ofString "signs" then some (.str S t3) else if y = Str.ofString "base" then some (.int ((b : Nat) : Int) t2) else if y = Str.ofString "head" then some (.str H t1) else List.lookup y [(Str.ofString "script", Value.ref l)].reverse) → News s₁.heap s₁.heap.objs.size h5 [] → pl ≤ (digs (lst S) b nn4 zz8.toNat).length → P { s₁ with heap := h5, toks := tk5 }) ?_ ?_
    · intro QQ hQ12
      k_steps
      rename Fr _ _ _ _ => F9
      exact ⟨rfl, hQ12 _ _ _ _ F9 (by k_asm) (by with_reducible assumption)⟩
    clear F N0
    intro h5 tk5 pl t11 F N0 hpl
    refine st_done (fun P => ∀ h5 tk5 fo t12, Fr s₁.heap s₁.heap.objs.size h5 (fun y => if y = Str.ofString "front" then some (.str fo t12) else if y = Str.ofString "place" then some (.int ((pl : Nat) : Int) t11) else if y = Str.ofString "mark" then some (.str M t10) else if y = Str.ofString "marks" then some (.ref mD) else if y = Str.ofString "digits" then some (.str (st (digs (lst S) b nn4 zz8.toNat)) t9) else if y = Str.ofString "zeros" then some (.int zz8 t88) else if y = Str.ofString "fill" then some (.int fl t7) else if y = Str.ofString "written" then some (.str (st (dg (lst S) b 70 nn4 [])) t6) else if y = Str.ofString "n" then some (.int ((nn4 : Nat) : Int) t54) else if y = Str.ofString "bits" then some (.int ((bt : Nat) : Int) t4) else if y = Str.ofString "wide" then some (.bool wd) else if y = Str.ofString "signs" then some (.str S t3) else if y = Str.ofString "base" then some (.int ((b : Nat) : Int) t2) else if y = Str.ofString "head" then some (.str H t1) else List.lookup y [(Str.ofString "script", Value.ref l)].reverse) → News s₁.heap s₁.heap.objs.size h5 [] → lst fo ∈ ([[], [32], [43], [45]] : List (List Nat)) → P { s₁ with heap := h5, toks := tk5 }) ?_ ?_
    · intro QQ hQ13
      k_steps
      rename Fr _ _ _ _ => F9
      exact ⟨rfl, hQ13 _ _ _ _ F9 (by k_asm) (by with_reducible assumption)⟩
    clear F N0
    intro h5 tk5 fo t12 F N0 hfo
    refine st_done (fun P => ∀ h5 tk5 ba t13, Fr s₁.heap s₁.heap.objs.size h5 (fun y => if y = Str.ofString "back" then some (.str ba t13) else if y = Str.ofString "front" then some (.str fo t12) else if y = Str.ofString "place" then some (.int ((pl : Nat) : Int) t11) else if y = Str.ofString "mark" then some (.str M t10) else if y = Str.ofString "marks" then some (.ref mD) else if y = Str.ofString "digits" then some (.str (st (digs (lst S) b nn4 zz8.toNat)) t9) else if y = Str.ofString "zeros" then some (.int zz8 t88) else if y = Str.ofString "fill" then some (.int fl t7) else if y = Str.ofString "written" then some (.str (st (dg (lst S) b 70 nn4 [])) t6) else if y = Str.ofString "n" then some (.int ((nn4 : Nat) : Int) t54) else if y = Str.ofString "bits" then some (.int ((bt : Nat) : Int) t4) else if y = Str.ofString "wide" then some (.bool wd) else if y = Str.ofString "signs" then some (.str S t3) else if y = Str.ofString "base" then some (.int ((b : Nat) : Int) t2) else if y = Str.ofString "head" then some (.str H t1) else List.lookup y [(Str.ofString "script", Value.ref l)].reverse) → News s₁.heap s₁.heap.objs.size h5 [] → lst ba ∈ ([[], [32], [1635]] : List (List Nat)) → P { s₁ with heap := h5, toks := tk5 }) ?_ ?_
    · intro QQ hQ14
      k_steps
      rename Fr _ _ _ _ => F9
      exact ⟨rfl, hQ14 _ _ _ _ F9 (by k_asm) (by with_reducible assumption)⟩
    clear F N0
    intro h5 tk5 ba t13 F N0 hba
    have hfl := len_in1 hfo
    have hbl := len_in2 hba
    have hml := len_mark hM
    refine st_done (fun P => ∀ h5 tk5 X t14, Fr s₁.heap s₁.heap.objs.size h5 (fun y => if y = Str.ofString "text" then some (.str X t14) else if y = Str.ofString "back" then some (.str ba t13) else if y = Str.ofString "front" then some (.str fo t12) else if y = Str.ofString "place" then some (.int ((pl : Nat) : Int) t11) else if y = Str.ofString "mark" then some (.str M t10) else if y = Str.ofString "marks" then some (.ref mD) else if y = Str.ofString "digits" then some (.str (st (digs (lst S) b nn4 zz8.toNat)) t9) else if y = Str.ofString "zeros" then some (.int zz8 t88) else if y = Str.ofString "fill" then some (.int fl t7) else if y = Str.ofString "written" then some (.str (st (dg (lst S) b 70 nn4 [])) t6) else if y = Str.ofString "n" then some (.int ((nn4 : Nat) : Int) t54) else if y = Str.ofString "bits" then some (.int ((bt : Nat) : Int) t4) else if y = Str.ofString "wide" then some (.bool wd) else if y = Str.ofString "signs" then some (.str S t3) else if y = Str.ofString "base" then some (.int ((b : Nat) : Int) t2) else if y = Str.ofString "head" then some (.str H t1) else List.lookup y [(Str.ofString "script", Value.ref l)].reverse) → News s₁.heap s₁.heap.objs.size h5 [] → lst X = lst fo ++ core (lst H) (digs (lst S) b nn4 zz8.toNat) (lst M) pl ++ lst ba → P { s₁ with heap := h5, toks := tk5 }) ?_ ?_
    · intro QQ hQ15
      k_steps
      rename Fr _ _ _ _ => F9
      exact ⟨rfl, hQ15 _ _ _ _ F9 (by k_asm) text_lst⟩
    clear F N0
    intro h5 tk5 X t14 F N0 hX
    have hXl := text_len hX hfl hr7 hdl hml hbl
    have hDl : (st (digs (lst S) b nn4 zz8.toNat)).length ≤ 20000 := by rw [st_len]; omega
    have hpD : pl ≤ (st (digs (lst S) b nn4 zz8.toNat)).length := by rw [st_len]; exact hpl
    refine st_done (fun P => ∀ h5 tk5 ed t15, Fr s₁.heap s₁.heap.objs.size h5 (fun y => if y = Str.ofString "edges" then some (.str ed t15) else if y = Str.ofString "text" then some (.str X t14) else if y = Str.ofString "back" then some (.str ba t13) else if y = Str.ofString "front" then some (.str fo t12) else if y = Str.ofString "place" then some (.int ((pl : Nat) : Int) t11) else if y = Str.ofString "mark" then some (.str M t10) else if y = Str.ofString "marks" then some (.ref mD) else if y = Str.ofString "digits" then some (.str (st (digs (lst S) b nn4 zz8.toNat)) t9) else if y = Str.ofString "zeros" then some (.int zz8 t88) else if y = Str.ofString "fill" then some (.int fl t7) else if y = Str.ofString "written" then some (.str (st (dg (lst S) b 70 nn4 [])) t6) else if y = Str.ofString "n" then some (.int ((nn4 : Nat) : Int) t54) else if y = Str.ofString "bits" then some (.int ((bt : Nat) : Int) t4) else if y = Str.ofString "wide" then some (.bool wd) else if y = Str.ofString "signs" then some (.str S t3) else if y = Str.ofString "base" then some (.int ((b : Nat) : Int) t2) else if y = Str.ofString "head" then some (.str H t1) else List.lookup y [(Str.ofString "script", Value.ref l)].reverse) → News s₁.heap s₁.heap.objs.size h5 [] → lst ed = lst fo ++ lst ba → P { s₁ with heap := h5, toks := tk5 }) ?_ ?_
    · intro QQ hQ16
      k_steps
      rename Fr _ _ _ _ => F9
      exact ⟨rfl, hQ16 _ _ _ _ F9 (by k_asm) (lst_app _ _)⟩
    clear F N0
    intro h5 tk5 ed t15 F N0 hed
    refine st_done (fun P => ∀ h5 tk5 fd, Fr s₁.heap s₁.heap.objs.size h5 (fun y => if y = Str.ofString "formed" then some (.bool fd) else if y = Str.ofString "edges" then some (.str ed t15) else if y = Str.ofString "text" then some (.str X t14) else if y = Str.ofString "back" then some (.str ba t13) else if y = Str.ofString "front" then some (.str fo t12) else if y = Str.ofString "place" then some (.int ((pl : Nat) : Int) t11) else if y = Str.ofString "mark" then some (.str M t10) else if y = Str.ofString "marks" then some (.ref mD) else if y = Str.ofString "digits" then some (.str (st (digs (lst S) b nn4 zz8.toNat)) t9) else if y = Str.ofString "zeros" then some (.int zz8 t88) else if y = Str.ofString "fill" then some (.int fl t7) else if y = Str.ofString "written" then some (.str (st (dg (lst S) b 70 nn4 [])) t6) else if y = Str.ofString "n" then some (.int ((nn4 : Nat) : Int) t54) else if y = Str.ofString "bits" then some (.int ((bt : Nat) : Int) t4) else if y = Str.ofString "wide" then some (.bool wd) else if y = Str.ofString "signs" then some (.str S t3) else if y = Str.ofString "base" then some (.int ((b : Nat) : Int) t2) else if y = Str.ofString "head" then some (.str H t1) else List.lookup y [(Str.ofString "script", Value.ref l)].reverse) → News s₁.heap s₁.heap.objs.size h5 [] → fd = (decide (lst fo ++ lst ba = []) && decide ((lst X).length ≤ 8192) && fm b (digs (lst S) b nn4 zz8.toNat) nn4 (lst M) pl) → P { s₁ with heap := h5, toks := tk5 }) ?_ ?_
    · intro QQ hQ17
      k_steps
      rename Fr _ _ _ _ => F9
      exact ⟨rfl, hQ17 _ _ _ F9 (by k_asm) (by rw [hed])⟩
    clear F N0
    intro h5 tk5 fd F N0 hfd
    obtain ⟨mK1, F⟩ : ∃ mK1 : Str → Option Value, Fr s₁.heap s₁.heap.objs.size h5 (fun y => if y = Str.ofString "formed" then some (.bool fd) else if y = Str.ofString "edges" then some (.str ed t15) else if y = Str.ofString "text" then some (.str X t14) else if y = Str.ofString "n" then some (.int ((nn4 : Nat) : Int) t54) else if y = Str.ofString "bits" then some (.int ((bt : Nat) : Int) t4) else if y = Str.ofString "script" then some (Value.ref l) else mK1 y) := ⟨_, fr_keep (x := Str.ofString "formed") (fr_keep (x := Str.ofString "edges") (fr_keep (x := Str.ofString "text") (fr_keep (x := Str.ofString "n") (fr_keep (x := Str.ofString "bits") (fr_keep (x := Str.ofString "script") F rfl) rfl) rfl) rfl) rfl) rfl⟩
    refine st_done (fun P => ∀ h5 tk5 sh t16, Fr s₁.heap s₁.heap.objs.size h5 (fun y => if y = Str.ofString "shown" then some (.str sh t16) else if y = Str.ofString "formed" then some (.bool fd) else if y = Str.ofString "edges" then some (.str ed t15) else if y = Str.ofString "text" then some (.str X t14) else if y = Str.ofString "n" then some (.int ((nn4 : Nat) : Int) t54) else if y = Str.ofString "bits" then some (.int ((bt : Nat) : Int) t4) else if y = Str.ofString "script" then some (Value.ref l) else mK1 y) → News s₁.heap s₁.heap.objs.size h5 [] → lst sh = (lst X).take 40 → sh.length ≤ 20000 → P { s₁ with heap := h5, toks := tk5 }) ?_ ?_
    · intro QQ hQ18
      k_steps
      rename Fr _ _ _ _ => F9
      exact ⟨rfl, hQ18 _ _ _ _ F9 (by k_asm) (lst_take X (by decide)) (Nat.le_trans (Txt.slice_le _ _ _) hXl)⟩
    clear F N0
    intro h5 tk5 sh t16 F N0 hsh hshl
    refine st_done (fun P => ∀ h5 tk5 sh t16, Fr s₁.heap s₁.heap.objs.size h5 (fun y => if y = Str.ofString "shown" then some (.str sh t16) else if y = Str.ofString "formed" then some (.bool fd) else if y = Str.ofString "edges" then some (.str ed t15) else if y = Str.ofString "text" then some (.str X t14) else if y = Str.ofString "n" then some (.int ((nn4 : Nat) : Int) t54) else if y = Str.ofString "bits" then some (.int ((bt : Nat) : Int) t4) else if y = Str.ofString "script" then some (Value.ref l) else mK1 y) → News s₁.heap s₁.heap.objs.size h5 [] → lst sh = (if lst fo ++ lst ba = [] then (lst X).take 40 else lst X) → sh.length ≤ 20000 → P { s₁ with heap := h5, toks := tk5 }) ?_ ?_
    · intro QQ hQ19
      k_steps
      · rename Fr _ _ _ _ => F9
        exact ⟨rfl, hQ19 _ _ _ _ (fr_of F9 dup) (by k_asm) ((if_neg (ed_t hed (by assumption))).symm) hXl⟩
      · exact ⟨rfl, hQ19 _ _ sh t16 F N0 (by rw [if_pos (ed_f hed (by assumption))]; exact hsh) hshl⟩
    clear F N0 hsh hshl sh t16
    intro h5 tk5 sh9 t169 F N0 hsh9 hshl9
    refine st_done (fun P => ∀ h5 tk5 oD to, Fr s₁.heap s₁.heap.objs.size h5 (fun y => if y = Str.ofString "told" then some (.ref oD) else if y = Str.ofString "shown" then some (.str sh9 t169) else if y = Str.ofString "formed" then some (.bool fd) else if y = Str.ofString "edges" then some (.str ed t15) else if y = Str.ofString "text" then some (.str X t14) else if y = Str.ofString "n" then some (.int ((nn4 : Nat) : Int) t54) else if y = Str.ofString "bits" then some (.int ((bt : Nat) : Int) t4) else if y = Str.ofString "script" then some (Value.ref l) else mK1 y) → News s₁.heap s₁.heap.objs.size h5 [(oD, { cls := .type "tuple", data := .seq #[.bool true, .int ((nn4 : Nat) : Int) to] })] → P { s₁ with heap := h5, toks := tk5 }) ?_ ?_
    · intro QQ hQ20
      k_steps
      rename Fr _ _ _ _ => F9
      rename News _ _ _ _ => N9
      exact ⟨rfl, hQ20 _ _ _ _ F9 N9⟩
    clear F N0
    intro h5 tk5 oD to F N0 
    have hrn := rn_law (k := bt) hrow hM hnn4 hpl (in1 hfo) (in2 hba) hX hfd
    have hed1 : fd = true → lst fo ++ lst ba = [] := fun h => by rw [hfd] at h; simp only [Bool.and_eq_true, decide_eq_true_eq] at h; exact h.1.1
    refine st_done (fun P => ∀ h5 tk5 tD tt, Fr s₁.heap s₁.heap.objs.size h5 (fun y => if y = Str.ofString "told" then some (.ref tD) else if y = Str.ofString "shown" then some (.str sh9 t169) else if y = Str.ofString "formed" then some (.bool fd) else if y = Str.ofString "edges" then some (.str ed t15) else if y = Str.ofString "text" then some (.str X t14) else if y = Str.ofString "n" then some (.int ((nn4 : Nat) : Int) t54) else if y = Str.ofString "bits" then some (.int ((bt : Nat) : Int) t4) else if y = Str.ofString "script" then some (Value.ref l) else mK1 y) → News s₁.heap s₁.heap.objs.size h5 [(tD, { cls := .type "tuple", data := .seq (toldV (rn (lst X) bt) tt).toArray })] → P { s₁ with heap := h5, toks := tk5 }) ?_ ?_
    · intro QQ hQ21
      k_steps
      · rename Fr _ _ _ _ => F9
        rename News _ _ _ _ => N9
        exact ⟨rfl, hQ21 _ _ _ _ (fr_of F9 dup) (pick N9 (told_b hrn (by assumption) (nlt (by assumption)) (hsh9.trans (if_pos (hed1 (by assumption))))) (fun q hq => .tail _ hq))⟩
      · exact ⟨rfl, hQ21 _ _ oD to F (pick N0 (told_c hrn (by assumption) (ylt (by assumption))) (fun q hq => hq))⟩
      · rename Fr _ _ _ _ => F9
        rename News _ _ _ _ => N9
        exact ⟨rfl, hQ21 _ _ _ _ (fr_of F9 dup) (pick N9 (told_a hrn (by assumption) hsh9) (fun q hq => .tail _ hq))⟩
    clear F N0 oD to
    intro h5 tk5 tD tt F N0 
    have fine := fine_law hrow hM (z3nat hzw) (in1 hfo) (in2 hba) hX
    have hok := text_ok hrow hM (in1 hfo) (in2 hba) hX
    obtain ⟨mK2, F⟩ : ∃ mK2 : Str → Option Value, Fr s₁.heap s₁.heap.objs.size h5 (fun y => if y = Str.ofString "told" then some (.ref tD) else if y = Str.ofString "formed" then some (.bool fd) else if y = Str.ofString "text" then some (.str X t14) else if y = Str.ofString "n" then some (.int ((nn4 : Nat) : Int) t54) else if y = Str.ofString "bits" then some (.int ((bt : Nat) : Int) t4) else if y = Str.ofString "script" then some (Value.ref l) else mK2 y) := ⟨_, fr_keep (x := Str.ofString "told") (fr_keep (x := Str.ofString "formed") (fr_keep (x := Str.ofString "text") (fr_keep (x := Str.ofString "n") (fr_keep (x := Str.ofString "bits") (fr_keep (x := Str.ofString "script") F rfl) rfl) rfl) rfl) rfl) rfl⟩
    refine st_doneP (fun P => ∀ h5 tk5 gD gt, Fr s₁.heap s₁.heap.objs.size h5 (fun y => if y = Str.ofString "got" then some (.ref gD) else if y = Str.ofString "told" then some (.ref tD) else if y = Str.ofString "formed" then some (.bool fd) else if y = Str.ofString "text" then some (.str X t14) else if y = Str.ofString "n" then some (.int ((nn4 : Nat) : Int) t54) else if y = Str.ofString "bits" then some (.int ((bt : Nat) : Int) t4) else if y = Str.ofString "script" then some (Value.ref l) else mK2 y) → News s₁.heap s₁.heap.objs.size h5 [(gD, { cls := .type "tuple", data := .seq (toldV (rn (lst X) bt) gt).toArray }), (tD, { cls := .type "tuple", data := .seq (toldV (rn (lst X) bt) tt).toArray })] → P { s₁ with heap := h5, toks := tk5 }) ?_ ?_
    · intro QQ hQ22
      refine if_decC (decide (bt = 64)) (fun P => ∀ h5 tk5, Fr s₁.heap s₁.heap.objs.size h5 (fun y => if y = Str.ofString "told" then some (.ref tD) else if y = Str.ofString "formed" then some (.bool fd) else if y = Str.ofString "text" then some (.str X t14) else if y = Str.ofString "n" then some (.int ((nn4 : Nat) : Int) t54) else if y = Str.ofString "bits" then some (.int ((bt : Nat) : Int) t4) else if y = Str.ofString "script" then some (Value.ref l) else mK2 y) → News s₁.heap s₁.heap.objs.size h5 [(tD, { cls := .type "tuple", data := .seq (toldV (rn (lst X) bt) tt).toArray })] → P { s₁ with heap := h5, toks := tk5 }) ?_ ?_ ?_
      · intro QI hQI
        k_steps
        exact ⟨dec64 bt, hQI _ _ F N0⟩
      · clear F N0
        intro hb h5 tk5 F N0
        refine wpP_execs_cons (wpP_Assign_Name (wpP_Call ?_))
        k_steps
        k_dflt (refine' wpP_callWith_K (K := hd4.heap_39 w.params) ?hl ?hd ?_ ?hs ?he; (case hl => k_is); (case hd => exact rfl); (case hs => exact rfl); (case he => exact rfl))
        k_steps
        k_dflt (refine' use_L (p_readp _ _ _ fine hXl hok _) ?k1 ?k2 ?k3 ?k4 ?k5 ?k6 ?k7 ?kK ?kd ?ku ?_; (case k1 => k_asm); (case k2 => k_asm); (case k3 => k_asm); (case k4 => k_asm); (case k5 => k_asm); (case k6 => k_asm); (case k7 => k_asm); (case kK => first | exact rfl | assumption); (case kd => ktr_room); (case ku => ktr_units))
        intro D9 t9 h9 tk9 F9 N9 hne9
        (try dsimp only)
        have hb := of_decide_eq_true hb
        subst hb
        k_steps
        refine wpP_nil ?_
        rename Fr _ _ _ _ => F8
        exact ⟨rfl, hQ22 _ _ _ _ F8 (by k_asm)⟩
      · clear F N0
        intro _ h5 tk5 F N0
        refine wpP_execs_cons (wpP_Assign_Name (wpP_Call ?_))
        k_steps
        k_dflt (refine' wpP_callWith_K (K := hd4.heap_39 w.params) ?hl ?hd ?_ ?hs ?he; (case hl => k_is); (case hd => exact rfl); (case hs => exact rfl); (case he => exact rfl))
        k_steps
        k_dflt (refine' use_L (p_read _ _ _ _ _ fine hbt hXl hok _) ?k1 ?k2 ?k3 ?k4 ?k5 ?k6 ?k7 ?kK ?kd ?ku ?_; (case k1 => k_asm); (case k2 => k_asm); (case k3 => k_asm); (case k4 => k_asm); (case k5 => k_asm); (case k6 => k_asm); (case k7 => k_asm); (case kK => first | exact rfl | assumption); (case kd => ktr_room); (case ku => ktr_units))
        intro D9 t9 h9 tk9 F9 N9 hne9
        (try dsimp only)
        k_steps
        refine wpP_nil ?_
        rename Fr _ _ _ _ => F8
        exact ⟨rfl, hQ22 _ _ _ _ F8 (by k_asm)⟩
    clear F N0
    intro h5 tk5 gD gt F N0 
    have hrk := rn_okr hok bt
    refine st_done (fun P => ∀ h5 tk5, Fr s₁.heap s₁.heap.objs.size h5 (fun y => if y = Str.ofString "got" then some (.ref gD) else if y = Str.ofString "told" then some (.ref tD) else if y = Str.ofString "formed" then some (.bool fd) else if y = Str.ofString "text" then some (.str X t14) else if y = Str.ofString "n" then some (.int ((nn4 : Nat) : Int) t54) else if y = Str.ofString "bits" then some (.int ((bt : Nat) : Int) t4) else if y = Str.ofString "script" then some (Value.ref l) else mK2 y) → News s₁.heap s₁.heap.objs.size h5 [(gD, { cls := .type "tuple", data := .seq (toldV (rn (lst X) bt) gt).toArray }), (tD, { cls := .type "tuple", data := .seq (toldV (rn (lst X) bt) tt).toArray })] → P { s₁ with heap := h5, toks := tk5 }) ?_ ?_
    · intro QQ hQ23
      k_steps
      exact ⟨rfl, hQ23 _ _ F N0⟩
    clear F N0
    intro h5 tk5 F N0 
    refine st_done (fun P => ∀ h5 tk5 wo two, Fr s₁.heap s₁.heap.objs.size h5 (fun y => if y = Str.ofString "word" then some (.int ((wo : Nat) : Int) two) else if y = Str.ofString "got" then some (.ref gD) else if y = Str.ofString "told" then some (.ref tD) else if y = Str.ofString "formed" then some (.bool fd) else if y = Str.ofString "text" then some (.str X t14) else if y = Str.ofString "n" then some (.int ((nn4 : Nat) : Int) t54) else if y = Str.ofString "bits" then some (.int ((bt : Nat) : Int) t4) else if y = Str.ofString "script" then some (Value.ref l) else mK2 y) → News s₁.heap s₁.heap.objs.size h5 [(gD, { cls := .type "tuple", data := .seq (toldV (rn (lst X) bt) gt).toArray }), (tD, { cls := .type "tuple", data := .seq (toldV (rn (lst X) bt) tt).toArray })] → wo < 2 ^ 64 → P { s₁ with heap := h5, toks := tk5 }) ?_ ?_
    · intro QQ hQ24
      k_steps
      rename Fr _ _ _ _ => F9
      obtain ⟨wo, two, h8, h9⟩ := w_leaf F9
      exact ⟨rfl, hQ24 _ _ wo two h9 (by k_asm) h8⟩
    clear F N0
    intro h5 tk5 wo two F N0 hwo
    refine st_done (fun P => ∀ h5 tk5 wo two, Fr s₁.heap s₁.heap.objs.size h5 (fun y => if y = Str.ofString "word" then some (.int ((wo : Nat) : Int) two) else if y = Str.ofString "got" then some (.ref gD) else if y = Str.ofString "told" then some (.ref tD) else if y = Str.ofString "formed" then some (.bool fd) else if y = Str.ofString "text" then some (.str X t14) else if y = Str.ofString "n" then some (.int ((nn4 : Nat) : Int) t54) else if y = Str.ofString "bits" then some (.int ((bt : Nat) : Int) t4) else if y = Str.ofString "script" then some (Value.ref l) else mK2 y) → News s₁.heap s₁.heap.objs.size h5 [(gD, { cls := .type "tuple", data := .seq (toldV (rn (lst X) bt) gt).toArray }), (tD, { cls := .type "tuple", data := .seq (toldV (rn (lst X) bt) tt).toArray })] → wo < 2 ^ 64 → P { s₁ with heap := h5, toks := tk5 }) ?_ ?_
    · intro QQ hQ25
      k_steps
      · rename Fr _ _ _ _ => F9
        exact ⟨rfl, hQ25 _ _ _ _ (fr_of F9 dup) (by k_asm) (okN_lt hbt)⟩
      · exact ⟨rfl, hQ25 _ _ wo two F N0 hwo⟩
    clear F N0 hwo wo two
    intro h5 tk5 wo2 two2 F N0 hwo2
    replace N0 := news_tl N0
    have hs40 : (Txt.slice X none (some 40)).length ≤ 20000 := Nat.le_trans (Txt.slice_le _ _ _) hXl
    refine st_done (fun P => ∀ h5 tk5 wD wt, Fr s₁.heap s₁.heap.objs.size h5 (fun y => if y = Str.ofString "want" then some (.ref wD) else if y = Str.ofString "word" then some (.int ((wo2 : Nat) : Int) two2) else if y = Str.ofString "got" then some (.ref gD) else if y = Str.ofString "told" then some (.ref tD) else if y = Str.ofString "formed" then some (.bool fd) else if y = Str.ofString "text" then some (.str X t14) else if y = Str.ofString "n" then some (.int ((nn4 : Nat) : Int) t54) else if y = Str.ofString "bits" then some (.int ((bt : Nat) : Int) t4) else if y = Str.ofString "script" then some (Value.ref l) else mK2 y) → News s₁.heap s₁.heap.objs.size h5 [(wD, { cls := .type "tuple", data := .seq #[.bool false, .str (Str.ofString "not a square (a1..h8 or 0..63): '" ++ Txt.slice X none (some 40) ++ Str.ofString "'") wt] }), (tD, { cls := .type "tuple", data := .seq (toldV (rn (lst X) bt) tt).toArray })] → P { s₁ with heap := h5, toks := tk5 }) ?_ ?_
    · intro QQ hQ26
      k_steps
      rename Fr _ _ _ _ => F9
      rename News _ _ _ _ => N9
      exact ⟨rfl, hQ26 _ _ _ _ F9 N9⟩
    clear F N0
    intro h5 tk5 wD wt F N0 
    have hrs := rs_law hrow hM hnn4 hpl (in1 hfo) (in2 hba) hX hfd hok
    refine st_done (fun P => ∀ h5 tk5 qD qt, Fr s₁.heap s₁.heap.objs.size h5 (fun y => if y = Str.ofString "want" then some (.ref qD) else if y = Str.ofString "word" then some (.int ((wo2 : Nat) : Int) two2) else if y = Str.ofString "got" then some (.ref gD) else if y = Str.ofString "told" then some (.ref tD) else if y = Str.ofString "formed" then some (.bool fd) else if y = Str.ofString "text" then some (.str X t14) else if y = Str.ofString "n" then some (.int ((nn4 : Nat) : Int) t54) else if y = Str.ofString "bits" then some (.int ((bt : Nat) : Int) t4) else if y = Str.ofString "script" then some (Value.ref l) else mK2 y) → News s₁.heap s₁.heap.objs.size h5 [(qD, { cls := .type "tuple", data := .seq (toldV (rs (lst X)) qt).toArray }), (tD, { cls := .type "tuple", data := .seq (toldV (rn (lst X) bt) tt).toArray })] → P { s₁ with heap := h5, toks := tk5 }) ?_ ?_
    · intro QQ hQ27
      k_steps
      · rename Fr _ _ _ _ => F9
        rename News _ _ _ _ => N9
        exact ⟨rfl, hQ27 _ _ _ _ (fr_of F9 dup) (pick N9 (told_e hrs (by assumption) (lt64 (by assumption))) (fun q hq => .tail _ hq))⟩
      · exact ⟨rfl, hQ27 _ _ wD wt F (pick N0 (told_d hrs (fun q => (by assumption : ¬ ((nn4 : Nat) : Int) < 64) (nlt64 q.2))) (fun q hq => hq))⟩
      · exact ⟨rfl, hQ27 _ _ wD wt F (pick N0 (told_d hrs (fun q => tnot q.1 (by assumption))) (fun q hq => hq))⟩
    clear F N0 wD wt
    intro h5 tk5 qD qt F N0 
    have hrk2 := rs_okr hok
    refine st_doneP (fun P => ∀ h5 tk5, Fr s₁.heap s₁.heap.objs.size h5 (fun y => if y = Str.ofString "want" then some (.ref qD) else if y = Str.ofString "word" then some (.int ((wo2 : Nat) : Int) two2) else if y = Str.ofString "got" then some (.ref gD) else if y = Str.ofString "told" then some (.ref tD) else if y = Str.ofString "formed" then some (.bool fd) else if y = Str.ofString "text" then some (.str X t14) else if y = Str.ofString "n" then some (.int ((nn4 : Nat) : Int) t54) else if y = Str.ofString "bits" then some (.int ((bt : Nat) : Int) t4) else if y = Str.ofString "script" then some (Value.ref l) else mK2 y) → News s₁.heap s₁.heap.objs.size h5 [(qD, { cls := .type "tuple", data := .seq (toldV (rs (lst X)) qt).toArray }), (tD, { cls := .type "tuple", data := .seq (toldV (rn (lst X) bt) tt).toArray })] → P { s₁ with heap := h5, toks := tk5 }) ?_ ?_
    · intro QQ hQ28
      refine if_offC (fun P => ∀ h5 tk5, Fr s₁.heap s₁.heap.objs.size h5 (fun y => if y = Str.ofString "want" then some (.ref qD) else if y = Str.ofString "word" then some (.int ((wo2 : Nat) : Int) two2) else if y = Str.ofString "got" then some (.ref gD) else if y = Str.ofString "told" then some (.ref tD) else if y = Str.ofString "formed" then some (.bool fd) else if y = Str.ofString "text" then some (.str X t14) else if y = Str.ofString "n" then some (.int ((nn4 : Nat) : Int) t54) else if y = Str.ofString "bits" then some (.int ((bt : Nat) : Int) t4) else if y = Str.ofString "script" then some (Value.ref l) else mK2 y) → News s₁.heap s₁.heap.objs.size h5 [(qD, { cls := .type "tuple", data := .seq (toldV (rs (lst X)) qt).toArray }), (tD, { cls := .type "tuple", data := .seq (toldV (rn (lst X) bt) tt).toArray })] → P { s₁ with heap := h5, toks := tk5 }) ?_ ?_
      · intro QI hQI
        refine wpP_isTrue_Compare1 (wpP_Call ?_)
        k_steps
        k_dflt (refine' wpP_callWith_K (K := hd4.heap_39 w.params) ?hl ?hd ?_ ?hs ?he; (case hl => k_is); (case hd => exact rfl); (case hs => exact rfl); (case he => exact rfl))
        k_steps
        k_dflt (refine' use_L (p_square _ _ _ fine hXl hok _) ?k1 ?k2 ?k3 ?k4 ?k5 ?k6 ?k7 ?kK ?kd ?ku ?_; (case k1 => k_asm); (case k2 => k_asm); (case k3 => k_asm); (case k4 => k_asm); (case k5 => k_asm); (case k6 => k_asm); (case k7 => k_asm); (case kK => first | exact rfl | assumption); (case kd => ktr_room); (case ku => ktr_units))
        clear F N0
        intro D9 t9 h9 tk9 F9 N9 hne9
        (try dsimp only)
        k_steps
        rename News _ _ _ _ => N8
        exact ⟨rfl, hQI _ _ F9 (fun q hq => N8 q (.tail _ hq))⟩
      · clear F N0
        intro h5 tk5 F N0
        exact wpP_nil ⟨rfl, hQ28 _ _ F N0⟩
    clear F N0
    intro h5 tk5 F N0 
    replace N0 := news_tl N0
    obtain ⟨mK3, F⟩ : ∃ mK3 : Str → Option Value, Fr s₁.heap s₁.heap.objs.size h5 (fun y => if y = Str.ofString "told" then some (.ref tD) else if y = Str.ofString "word" then some (.int ((wo2 : Nat) : Int) two2) else if y = Str.ofString "text" then some (.str X t14) else if y = Str.ofString "bits" then some (.int ((bt : Nat) : Int) t4) else if y = Str.ofString "script" then some (Value.ref l) else mK3 y) := ⟨_, fr_keep (x := Str.ofString "told") (fr_keep (x := Str.ofString "word") (fr_keep (x := Str.ofString "text") (fr_keep (x := Str.ofString "bits") (fr_keep (x := Str.ofString "script") F rfl) rfl) rfl) rfl) rfl⟩
    refine st_done (fun P => ∀ h5 tk5 co tco, Fr s₁.heap s₁.heap.objs.size h5 (fun y => if y = Str.ofString "col" then some (.int ((co : Nat) : Int) tco) else if y = Str.ofString "told" then some (.ref tD) else if y = Str.ofString "word" then some (.int ((wo2 : Nat) : Int) two2) else if y = Str.ofString "text" then some (.str X t14) else if y = Str.ofString "bits" then some (.int ((bt : Nat) : Int) t4) else if y = Str.ofString "script" then some (Value.ref l) else mK3 y) → News s₁.heap s₁.heap.objs.size h5 [(tD, { cls := .type "tuple", data := .seq (toldV (rn (lst X) bt) tt).toArray })] → co < 9 → P { s₁ with heap := h5, toks := tk5 }) ?_ ?_
    · intro QQ hQ29
      k_steps
      rename Fr _ _ _ _ => F9
      obtain ⟨co, tco, h8, h9⟩ := k_leaf F9 (by decide)
      exact ⟨rfl, hQ29 _ _ co tco h9 (by k_asm) (Int.ofNat_lt.mp h8)⟩
    clear F N0
    intro h5 tk5 co tco F N0 hco
    refine st_done (fun P => ∀ h5 tk5 ro tro, Fr s₁.heap s₁.heap.objs.size h5 (fun y => if y = Str.ofString "row" then some (.int ((ro : Nat) : Int) tro) else if y = Str.ofString "col" then some (.int ((co : Nat) : Int) tco) else if y = Str.ofString "told" then some (.ref tD) else if y = Str.ofString "word" then some (.int ((wo2 : Nat) : Int) two2) else if y = Str.ofString "text" then some (.str X t14) else if y = Str.ofString "bits" then some (.int ((bt : Nat) : Int) t4) else if y = Str.ofString "script" then some (Value.ref l) else mK3 y) → News s₁.heap s₁.heap.objs.size h5 [(tD, { cls := .type "tuple", data := .seq (toldV (rn (lst X) bt) tt).toArray })] → ro < 10 → P { s₁ with heap := h5, toks := tk5 }) ?_ ?_
    · intro QQ hQ30
      k_steps
      rename Fr _ _ _ _ => F9
      obtain ⟨co, tco, h8, h9⟩ := k_leaf F9 (by decide)
      exact ⟨rfl, hQ30 _ _ co tco h9 (by k_asm) (Int.ofNat_lt.mp h8)⟩
    clear F N0
    intro h5 tk5 ro tro F N0 hro
    refine st_done (fun P => ∀ h5 tk5 tl ttl, Fr s₁.heap s₁.heap.objs.size h5 (fun y => if y = Str.ofString "tail" then some (.str tl ttl) else if y = Str.ofString "row" then some (.int ((ro : Nat) : Int) tro) else if y = Str.ofString "col" then some (.int ((co : Nat) : Int) tco) else if y = Str.ofString "told" then some (.ref tD) else if y = Str.ofString "word" then some (.int ((wo2 : Nat) : Int) two2) else if y = Str.ofString "text" then some (.str X t14) else if y = Str.ofString "bits" then some (.int ((bt : Nat) : Int) t4) else if y = Str.ofString "script" then some (Value.ref l) else mK3 y) → News s₁.heap s₁.heap.objs.size h5 [(tD, { cls := .type "tuple", data := .seq (toldV (rn (lst X) bt) tt).toArray })] → lst tl ∈ ([[], [49]] : List (List Nat)) → P { s₁ with heap := h5, toks := tk5 }) ?_ ?_
    · intro QQ hQ31
      k_steps
      all_goals
        rename Fr _ _ _ _ => F9
        rename News _ _ _ _ => N9
        exact ⟨rfl, hQ31 _ _ _ _ F9 (fun q hq => N9 q (.tail _ hq)) (by decide)⟩
    clear F N0
    intro h5 tk5 tl ttl F N0 htl
    have htll := len_in3 htl
    refine st_done (fun P => ∀ h5 tk5 nm u9 tnm, lst nm = nmL u9 co ro (lst tl) → Fr s₁.heap s₁.heap.objs.size h5 (fun y => if y = Str.ofString "name" then some (.str nm tnm) else if y = Str.ofString "tail" then some (.str tl ttl) else if y = Str.ofString "row" then some (.int ((ro : Nat) : Int) tro) else if y = Str.ofString "col" then some (.int ((co : Nat) : Int) tco) else if y = Str.ofString "told" then some (.ref tD) else if y = Str.ofString "word" then some (.int ((wo2 : Nat) : Int) two2) else if y = Str.ofString "text" then some (.str X t14) else if y = Str.ofString "bits" then some (.int ((bt : Nat) : Int) t4) else if y = Str.ofString "script" then some (Value.ref l) else mK3 y) → News s₁.heap s₁.heap.objs.size h5 [(tD, { cls := .type "tuple", data := .seq (toldV (rn (lst X) bt) tt).toArray })] → P { s₁ with heap := h5, toks := tk5 }) ?_ ?_
    · intro QQ hQ32
      k_steps
      all_goals
        rename Fr _ _ _ _ => F9
        rename News _ _ _ _ => N9
        first
          | exact ⟨rfl, hQ32 _ _ _ _ _ (nm_lst0 hco hro) F9 (fun q hq => N9 q (.tail _ hq))⟩
          | exact ⟨rfl, hQ32 _ _ _ _ _ (nm_lst1 hco hro) F9 (fun q hq => N9 q (.tail _ hq))⟩
    clear F N0
    intro h5 tk5 nm u9 tnm hnm F N0
    have hrs2 : rs (lst nm) = _ := hnm ▸ nm_rs (u := u9) hco hro (in3 htl)
    have hnl : nm.length ≤ 20000 := nm_len hnm htll
    have hfn : Fine (lst nm) := hnm ▸ nm_fine (u := u9) hco hro (in3 htl)
    have hkn : Okt (lst nm) := hnm ▸ fun c hc => .inl (nm_ok (u := u9) hco hro (in3 htl) c hc)
    refine st_done (fun P => ∀ h5 tk5 vD vt, Fr s₁.heap s₁.heap.objs.size h5 (fun y => if y = Str.ofString "want" then some (.ref vD) else if y = Str.ofString "name" then some (.str nm tnm) else if y = Str.ofString "tail" then some (.str tl ttl) else if y = Str.ofString "row" then some (.int ((ro : Nat) : Int) tro) else if y = Str.ofString "col" then some (.int ((co : Nat) : Int) tco) else if y = Str.ofString "told" then some (.ref tD) else if y = Str.ofString "word" then some (.int ((wo2 : Nat) : Int) two2) else if y = Str.ofString "text" then some (.str X t14) else if y = Str.ofString "bits" then some (.int ((bt : Nat) : Int) t4) else if y = Str.ofString "script" then some (Value.ref l) else mK3 y) → News s₁.heap s₁.heap.objs.size h5 [(vD, { cls := .type "tuple", data := .seq #[.bool false, .str (Str.ofString "not a square (a1..h8 or 0..63): '" ++ nm ++ Str.ofString "'") vt] }), (tD, { cls := .type "tuple", data := .seq (toldV (rn (lst X) bt) tt).toArray })] → P { s₁ with heap := h5, toks := tk5 }) ?_ ?_
    · intro QQ hQ33
      k_steps
      rename Fr _ _ _ _ => F9
      rename News _ _ _ _ => N9
      exact ⟨rfl, hQ33 _ _ _ _ F9 N9⟩
    clear F N0
    intro h5 tk5 vD vt F N0 
    refine st_done (fun P => ∀ h5 tk5 xD xt, Fr s₁.heap s₁.heap.objs.size h5 (fun y => if y = Str.ofString "want" then some (.ref xD) else if y = Str.ofString "name" then some (.str nm tnm) else if y = Str.ofString "tail" then some (.str tl ttl) else if y = Str.ofString "row" then some (.int ((ro : Nat) : Int) tro) else if y = Str.ofString "col" then some (.int ((co : Nat) : Int) tco) else if y = Str.ofString "told" then some (.ref tD) else if y = Str.ofString "word" then some (.int ((wo2 : Nat) : Int) two2) else if y = Str.ofString "text" then some (.str X t14) else if y = Str.ofString "bits" then some (.int ((bt : Nat) : Int) t4) else if y = Str.ofString "script" then some (Value.ref l) else mK3 y) → News s₁.heap s₁.heap.objs.size h5 [(xD, { cls := .type "tuple", data := .seq (toldV (rs (lst nm)) xt).toArray }), (tD, { cls := .type "tuple", data := .seq (toldV (rn (lst X) bt) tt).toArray })] → P { s₁ with heap := h5, toks := tk5 }) ?_ ?_
    · intro QQ hQ34
      k_steps
      all_goals first
        | (rename Fr _ _ _ _ => F9
           rename News _ _ _ _ => N9
           exact ⟨rfl, hQ34 _ _ _ _ (fr_of F9 dup) (pick N9 (told_f hrs2 (by assumption) (by assumption) (by assumption) (by assumption)) (fun q hq => .tail _ hq))⟩)
        | exact ⟨rfl, hQ34 _ _ vD vt F (pick N0 (told_g hrs2 (fun q => (by assumption : ¬ ((co : Nat) : Int) < 8) (Int.ofNat_lt.mpr q.1))) (fun q hq => hq))⟩
        | exact ⟨rfl, hQ34 _ _ vD vt F (pick N0 (told_g hrs2 (fun q => (by assumption : ¬ 1 ≤ ((ro : Nat) : Int)) (Int.ofNat_le.mpr q.2.1.1))) (fun q hq => hq))⟩
        | exact ⟨rfl, hQ34 _ _ vD vt F (pick N0 (told_g hrs2 (fun q => (by assumption : ¬ ((ro : Nat) : Int) ≤ 8) (Int.ofNat_le.mpr q.2.1.2))) (fun q hq => hq))⟩
        | exact ⟨rfl, hQ34 _ _ vD vt F (pick N0 (told_g hrs2 (fun q => tl_f (by assumption) q.2.2)) (fun q hq => hq))⟩
    clear F N0 vD vt
    intro h5 tk5 xD xt F N0 
    have hrk3 := rs_okr hkn
    refine st_doneP (fun P => ∀ h5 tk5, Fr s₁.heap s₁.heap.objs.size h5 (fun y => if y = Str.ofString "want" then some (.ref xD) else if y = Str.ofString "name" then some (.str nm tnm) else if y = Str.ofString "tail" then some (.str tl ttl) else if y = Str.ofString "row" then some (.int ((ro : Nat) : Int) tro) else if y = Str.ofString "col" then some (.int ((co : Nat) : Int) tco) else if y = Str.ofString "told" then some (.ref tD) else if y = Str.ofString "word" then some (.int ((wo2 : Nat) : Int) two2) else if y = Str.ofString "text" then some (.str X t14) else if y = Str.ofString "bits" then some (.int ((bt : Nat) : Int) t4) else if y = Str.ofString "script" then some (Value.ref l) else mK3 y) → News s₁.heap s₁.heap.objs.size h5 [(xD, { cls := .type "tuple", data := .seq (toldV (rs (lst nm)) xt).toArray }), (tD, { cls := .type "tuple", data := .seq (toldV (rn (lst X) bt) tt).toArray })] → P { s₁ with heap := h5, toks := tk5 }) ?_ ?_
    · intro QQ hQ35
      refine if_offC (fun P => ∀ h5 tk5, Fr s₁.heap s₁.heap.objs.size h5 (fun y => if y = Str.ofString "want" then some (.ref xD) else if y = Str.ofString "name" then some (.str nm tnm) else if y = Str.ofString "tail" then some (.str tl ttl) else if y = Str.ofString "row" then some (.int ((ro : Nat) : Int) tro) else if y = Str.ofString "col" then some (.int ((co : Nat) : Int) tco) else if y = Str.ofString "told" then some (.ref tD) else if y = Str.ofString "word" then some (.int ((wo2 : Nat) : Int) two2) else if y = Str.ofString "text" then some (.str X t14) else if y = Str.ofString "bits" then some (.int ((bt : Nat) : Int) t4) else if y = Str.ofString "script" then some (Value.ref l) else mK3 y) → News s₁.heap s₁.heap.objs.size h5 [(xD, { cls := .type "tuple", data := .seq (toldV (rs (lst nm)) xt).toArray }), (tD, { cls := .type "tuple", data := .seq (toldV (rn (lst X) bt) tt).toArray })] → P { s₁ with heap := h5, toks := tk5 }) ?_ ?_
      · intro QI hQI
        refine wpP_isTrue_Compare1 (wpP_Call ?_)
        k_steps
        k_dflt (refine' wpP_callWith_K (K := hd4.heap_39 w.params) ?hl ?hd ?_ ?hs ?he; (case hl => k_is); (case hd => exact rfl); (case hs => exact rfl); (case he => exact rfl))
        k_steps
        k_dflt (refine' use_L (p_square _ _ _ hfn hnl hkn _) ?k1 ?k2 ?k3 ?k4 ?k5 ?k6 ?k7 ?kK ?kd ?ku ?_; (case k1 => k_asm); (case k2 => k_asm); (case k3 => k_asm); (case k4 => k_asm); (case k5 => k_asm); (case k6 => k_asm); (case k7 => k_asm); (case kK => first | exact rfl | assumption); (case kd => ktr_room); (case ku => ktr_units))
        clear F N0
        intro D9 t9 h9 tk9 F9 N9 hne9
        (try dsimp only)
        k_steps
        rename News _ _ _ _ => N8
        exact ⟨rfl, hQI _ _ F9 (fun q hq => N8 q (.tail _ hq))⟩
      · clear F N0
        intro h5 tk5 F N0
        exact wpP_nil ⟨rfl, hQ35 _ _ F N0⟩
    clear F N0
    intro h5 tk5 F N0 
    replace N0 := news_tl N0
    obtain ⟨mK4, F⟩ : ∃ mK4 : Str → Option Value, Fr s₁.heap s₁.heap.objs.size h5 (fun y => if y = Str.ofString "told" then some (.ref tD) else if y = Str.ofString "word" then some (.int ((wo2 : Nat) : Int) two2) else if y = Str.ofString "text" then some (.str X t14) else if y = Str.ofString "bits" then some (.int ((bt : Nat) : Int) t4) else if y = Str.ofString "script" then some (Value.ref l) else mK4 y) := ⟨_, fr_keep (x := Str.ofString "told") (fr_keep (x := Str.ofString "word") (fr_keep (x := Str.ofString "text") (fr_keep (x := Str.ofString "bits") (fr_keep (x := Str.ofString "script") F rfl) rfl) rfl) rfl) rfl⟩
    refine st_done (fun P => ∀ h5 tk5 wi twi, Fr s₁.heap s₁.heap.objs.size h5 (fun y => if y = Str.ofString "width" then some (.int ((wi : Nat) : Int) twi) else if y = Str.ofString "told" then some (.ref tD) else if y = Str.ofString "word" then some (.int ((wo2 : Nat) : Int) two2) else if y = Str.ofString "text" then some (.str X t14) else if y = Str.ofString "bits" then some (.int ((bt : Nat) : Int) t4) else if y = Str.ofString "script" then some (Value.ref l) else mK4 y) → News s₁.heap s₁.heap.objs.size h5 [(tD, { cls := .type "tuple", data := .seq (toldV (rn (lst X) bt) tt).toArray })] → wi ≤ 66 → P { s₁ with heap := h5, toks := tk5 }) ?_ ?_
    · intro QQ hQ36
      k_steps
      rename Fr _ _ _ _ => F9
      obtain ⟨wi, twi, h8, h9⟩ := wi_leaf F9 (max0 _) (max66 hbt)
      exact ⟨rfl, hQ36 _ _ wi twi h9 (by k_asm) h8⟩
    clear F N0
    intro h5 tk5 wi twi F N0 hwi
    have hwi70 : wi ≤ 70 := by omega
    have hwo70 : wo2 < 2 ^ 70 := by omega
    by_cases hfit : wo2 < 2 ^ wi
    · refine st_done (fun P => ∀ h5 tk5, Fr s₁.heap s₁.heap.objs.size h5 (fun y => if y = Str.ofString "want" then some (.none) else if y = Str.ofString "width" then some (.int ((wi : Nat) : Int) twi) else if y = Str.ofString "told" then some (.ref tD) else if y = Str.ofString "word" then some (.int ((wo2 : Nat) : Int) two2) else if y = Str.ofString "text" then some (.str X t14) else if y = Str.ofString "bits" then some (.int ((bt : Nat) : Int) t4) else if y = Str.ofString "script" then some (Value.ref l) else mK4 y) → News s₁.heap s₁.heap.objs.size h5 [(tD, { cls := .type "tuple", data := .seq (toldV (rn (lst X) bt) tt).toArray })] → P { s₁ with heap := h5, toks := tk5 }) ?_ ?_
      · intro QQ hQ37
        k_steps
        rename Fr _ _ _ _ => F9
        exact ⟨rfl, hQ37 _ _ F9 (by k_asm)⟩
      clear F N0
      intro h5 tk5 F N0 
      refine st_done (fun P => ∀ h5 tk5, Fr s₁.heap s₁.heap.objs.size h5 (fun y => if y = Str.ofString "want" then some (.none) else if y = Str.ofString "width" then some (.int ((wi : Nat) : Int) twi) else if y = Str.ofString "told" then some (.ref tD) else if y = Str.ofString "word" then some (.int ((wo2 : Nat) : Int) two2) else if y = Str.ofString "text" then some (.str X t14) else if y = Str.ofString "bits" then some (.int ((bt : Nat) : Int) t4) else if y = Str.ofString "script" then some (Value.ref l) else mK4 y) → News s₁.heap s₁.heap.objs.size h5 [(tD, { cls := .type "tuple", data := .seq (toldV (rn (lst X) bt) tt).toArray })] → P { s₁ with heap := h5, toks := tk5 }) ?_ ?_
      · intro QQ hQ38
        k_steps
        all_goals first
          | exact ⟨rfl, hQ38 _ _ F N0⟩
          | exact absurd hfit (nlt (by assumption))
      clear F N0
      intro h5 tk5 F N0 
      refine st_done (fun P => ∀ h5 tk5, Fr s₁.heap s₁.heap.objs.size h5 (fun y => if y = Str.ofString "got" then some (.none) else if y = Str.ofString "want" then some (.none) else if y = Str.ofString "width" then some (.int ((wi : Nat) : Int) twi) else if y = Str.ofString "told" then some (.ref tD) else if y = Str.ofString "word" then some (.int ((wo2 : Nat) : Int) two2) else if y = Str.ofString "text" then some (.str X t14) else if y = Str.ofString "bits" then some (.int ((bt : Nat) : Int) t4) else if y = Str.ofString "script" then some (Value.ref l) else mK4 y) → News s₁.heap s₁.heap.objs.size h5 [(tD, { cls := .type "tuple", data := .seq (toldV (rn (lst X) bt) tt).toArray })] → P { s₁ with heap := h5, toks := tk5 }) ?_ ?_
      · intro QQ hQ39
        k_steps
        rename Fr _ _ _ _ => F9
        exact ⟨rfl, hQ39 _ _ F9 (by k_asm)⟩
      clear F N0
      intro h5 tk5 F N0 
      refine st_done (fun P => ∀ h5 tk5, Fr s₁.heap s₁.heap.objs.size h5 (fun y => if y = Str.ofString "got" then some (.none) else if y = Str.ofString "want" then some (.none) else if y = Str.ofString "width" then some (.int ((wi : Nat) : Int) twi) else if y = Str.ofString "told" then some (.ref tD) else if y = Str.ofString "word" then some (.int ((wo2 : Nat) : Int) two2) else if y = Str.ofString "text" then some (.str X t14) else if y = Str.ofString "bits" then some (.int ((bt : Nat) : Int) t4) else if y = Str.ofString "script" then some (Value.ref l) else mK4 y) → News s₁.heap s₁.heap.objs.size h5 [(tD, { cls := .type "tuple", data := .seq (toldV (rn (lst X) bt) tt).toArray })] → P { s₁ with heap := h5, toks := tk5 }) ?_ ?_
      · intro QQ hQ40
        k_steps
        exact ⟨rfl, hQ40 _ _ F N0⟩
      clear F N0
      intro h5 tk5 F N0 
      refine st_doneP (fun P => ∀ h5 tk5 tu ttu lD lt jD jt, Fr s₁.heap s₁.heap.objs.size h5 (fun y => if y = Str.ofString "want" then some (.ref jD) else if y = Str.ofString "got" then some (.ref lD) else if y = Str.ofString "turn" then some (.int tu ttu) else if y = Str.ofString "got" then some (.none) else if y = Str.ofString "want" then some (.none) else if y = Str.ofString "width" then some (.int ((wi : Nat) : Int) twi) else if y = Str.ofString "told" then some (.ref tD) else if y = Str.ofString "word" then some (.int ((wo2 : Nat) : Int) two2) else if y = Str.ofString "text" then some (.str X t14) else if y = Str.ofString "bits" then some (.int ((bt : Nat) : Int) t4) else if y = Str.ofString "script" then some (Value.ref l) else mK4 y) → News s₁.heap s₁.heap.objs.size h5 [(jD, { cls := .type "tuple", data := .seq (toldV (rr wo2 wi tu) jt).toArray }), (lD, { cls := .type "tuple", data := .seq (toldV (rr wo2 wi tu) lt).toArray }), (tD, { cls := .type "tuple", data := .seq (toldV (rn (lst X) bt) tt).toArray })] → P { s₁ with heap := h5, toks := tk5 }) ?_ ?_
      · intro QQ hQ45
        refine if_decC true (fun P => ∀ h5 tk5, Fr s₁.heap s₁.heap.objs.size h5 (fun y => if y = Str.ofString "got" then some (.none) else if y = Str.ofString "want" then some (.none) else if y = Str.ofString "width" then some (.int ((wi : Nat) : Int) twi) else if y = Str.ofString "told" then some (.ref tD) else if y = Str.ofString "word" then some (.int ((wo2 : Nat) : Int) two2) else if y = Str.ofString "text" then some (.str X t14) else if y = Str.ofString "bits" then some (.int ((bt : Nat) : Int) t4) else if y = Str.ofString "script" then some (Value.ref l) else mK4 y) → News s₁.heap s₁.heap.objs.size h5 [(tD, { cls := .type "tuple", data := .seq (toldV (rn (lst X) bt) tt).toArray })] → P { s₁ with heap := h5, toks := tk5 }) ?_ ?_ ?_
        · intro QI hQI
          k_steps
          exact ⟨rfl, hQI _ _ F N0⟩
        · clear F N0
          intro _ h5 tk5 F N0
          refine st_done (fun P => ∀ h5 tk5 tu ttu lD lt, Fr s₁.heap s₁.heap.objs.size h5 (fun y => if y = Str.ofString "got" then some (.ref lD) else if y = Str.ofString "turn" then some (.int tu ttu) else if y = Str.ofString "got" then some (.none) else if y = Str.ofString "want" then some (.none) else if y = Str.ofString "width" then some (.int ((wi : Nat) : Int) twi) else if y = Str.ofString "told" then some (.ref tD) else if y = Str.ofString "word" then some (.int ((wo2 : Nat) : Int) two2) else if y = Str.ofString "text" then some (.str X t14) else if y = Str.ofString "bits" then some (.int ((bt : Nat) : Int) t4) else if y = Str.ofString "script" then some (Value.ref l) else mK4 y) → News s₁.heap s₁.heap.objs.size h5 [(lD, { cls := .type "tuple", data := .seq (toldV (rr wo2 wi tu) lt).toArray }), (tD, { cls := .type "tuple", data := .seq (toldV (rn (lst X) bt) tt).toArray })] → P { s₁ with heap := h5, toks := tk5 }) ?_ ?_
          · intro QQ hQ41
            rcases Nat.eq_zero_or_pos wi with hw | hw
            · k_steps
              all_goals
                rename Fr _ _ _ _ => F9
                rename News _ _ _ _ => N9
                exact ⟨rfl, hQ41 _ _ _ _ _ _ F9 (pick N9 (rr0 hw) (fun q hq => hq))⟩
            · k_steps
              · rename Fr _ _ _ _ => F9
                rename News _ _ _ _ => N9
                exact ⟨rfl, hQ41 _ _ _ _ _ _ F9 (pick N9 (rr_right hfit hw) (fun q hq => hq))⟩
              · rename Fr _ _ _ _ => F9
                rename News _ _ _ _ => N9
                exact ⟨rfl, hQ41 _ _ _ _ _ _ F9 (pick N9 (rr_left hw) (fun q hq => hq))⟩
          clear F N0
          intro h5 tk5 tu ttu lD lt F N0 
          have hrk4 := rr_okr wo2 wi tu
          refine st_done (fun P => ∀ h5 tk5 kD kt, Fr s₁.heap s₁.heap.objs.size h5 (fun y => if y = Str.ofString "want" then some (.ref kD) else if y = Str.ofString "got" then some (.ref lD) else if y = Str.ofString "turn" then some (.int tu ttu) else if y = Str.ofString "got" then some (.none) else if y = Str.ofString "want" then some (.none) else if y = Str.ofString "width" then some (.int ((wi : Nat) : Int) twi) else if y = Str.ofString "told" then some (.ref tD) else if y = Str.ofString "word" then some (.int ((wo2 : Nat) : Int) two2) else if y = Str.ofString "text" then some (.str X t14) else if y = Str.ofString "bits" then some (.int ((bt : Nat) : Int) t4) else if y = Str.ofString "script" then some (Value.ref l) else mK4 y) → News s₁.heap s₁.heap.objs.size h5 [(kD, { cls := .type "tuple", data := .seq #[.bool false, .str (Str.ofString "refused") kt] }), (lD, { cls := .type "tuple", data := .seq (toldV (rr wo2 wi tu) lt).toArray }), (tD, { cls := .type "tuple", data := .seq (toldV (rn (lst X) bt) tt).toArray })] → P { s₁ with heap := h5, toks := tk5 }) ?_ ?_
          · intro QQ hQ42
            k_steps
            rename Fr _ _ _ _ => F9
            rename News _ _ _ _ => N9
            exact ⟨rfl, hQ42 _ _ _ _ F9 N9⟩
          clear F N0
          intro h5 tk5 kD kt F N0 
          refine st_done (fun P => ∀ h5 tk5 jD jt, Fr s₁.heap s₁.heap.objs.size h5 (fun y => if y = Str.ofString "want" then some (.ref jD) else if y = Str.ofString "got" then some (.ref lD) else if y = Str.ofString "turn" then some (.int tu ttu) else if y = Str.ofString "got" then some (.none) else if y = Str.ofString "want" then some (.none) else if y = Str.ofString "width" then some (.int ((wi : Nat) : Int) twi) else if y = Str.ofString "told" then some (.ref tD) else if y = Str.ofString "word" then some (.int ((wo2 : Nat) : Int) two2) else if y = Str.ofString "text" then some (.str X t14) else if y = Str.ofString "bits" then some (.int ((bt : Nat) : Int) t4) else if y = Str.ofString "script" then some (Value.ref l) else mK4 y) → News s₁.heap s₁.heap.objs.size h5 [(jD, { cls := .type "tuple", data := .seq (toldV (rr wo2 wi tu) jt).toArray }), (lD, { cls := .type "tuple", data := .seq (toldV (rr wo2 wi tu) lt).toArray }), (tD, { cls := .type "tuple", data := .seq (toldV (rn (lst X) bt) tt).toArray })] → P { s₁ with heap := h5, toks := tk5 }) ?_ ?_
          · intro QQ hQ43
            k_steps
            · rename Fr _ _ _ _ => F9
              rename News _ _ _ _ => N9
              exact ⟨rfl, hQ43 _ _ _ _ (fr_of F9 dup) (pick N9 (rr_left (by omega)) (fun q hq => .tail _ hq))⟩
            · exact ⟨rfl, hQ43 _ _ kD kt F (pick N0 (rr0 (by omega)) (fun q hq => hq))⟩
          clear F N0 kD kt
          intro h5 tk5 jD jt F N0 
          refine st_done (fun P => ∀ h5 tk5, Fr s₁.heap s₁.heap.objs.size h5 (fun y => if y = Str.ofString "want" then some (.ref jD) else if y = Str.ofString "got" then some (.ref lD) else if y = Str.ofString "turn" then some (.int tu ttu) else if y = Str.ofString "got" then some (.none) else if y = Str.ofString "want" then some (.none) else if y = Str.ofString "width" then some (.int ((wi : Nat) : Int) twi) else if y = Str.ofString "told" then some (.ref tD) else if y = Str.ofString "word" then some (.int ((wo2 : Nat) : Int) two2) else if y = Str.ofString "text" then some (.str X t14) else if y = Str.ofString "bits" then some (.int ((bt : Nat) : Int) t4) else if y = Str.ofString "script" then some (Value.ref l) else mK4 y) → News s₁.heap s₁.heap.objs.size h5 [(jD, { cls := .type "tuple", data := .seq (toldV (rr wo2 wi tu) jt).toArray }), (lD, { cls := .type "tuple", data := .seq (toldV (rr wo2 wi tu) lt).toArray }), (tD, { cls := .type "tuple", data := .seq (toldV (rn (lst X) bt) tt).toArray })] → P { s₁ with heap := h5, toks := tk5 }) ?_ ?_
          · intro QQ hQ44
            k_steps
            exact ⟨rfl, hQ44 _ _ F N0⟩
          clear F N0
          intro h5 tk5 F N0 
          exact wpP_nil ⟨rfl, hQ45 _ _ tu ttu lD lt jD jt F N0⟩
        · intro hb; cases hb
      clear F N0
      intro h5 tk5 tu ttu lD lt jD jt F N0 
      refine st_doneP (fun P => ∀ h5 tk5, Fr s₁.heap s₁.heap.objs.size h5 (fun y => if y = Str.ofString "want" then some (.ref jD) else if y = Str.ofString "got" then some (.ref lD) else if y = Str.ofString "turn" then some (.int tu ttu) else if y = Str.ofString "got" then some (.none) else if y = Str.ofString "want" then some (.none) else if y = Str.ofString "width" then some (.int ((wi : Nat) : Int) twi) else if y = Str.ofString "told" then some (.ref tD) else if y = Str.ofString "word" then some (.int ((wo2 : Nat) : Int) two2) else if y = Str.ofString "text" then some (.str X t14) else if y = Str.ofString "bits" then some (.int ((bt : Nat) : Int) t4) else if y = Str.ofString "script" then some (Value.ref l) else mK4 y) → News s₁.heap s₁.heap.objs.size h5 [(jD, { cls := .type "tuple", data := .seq (toldV (rr wo2 wi tu) jt).toArray }), (lD, { cls := .type "tuple", data := .seq (toldV (rr wo2 wi tu) lt).toArray }), (tD, { cls := .type "tuple", data := .seq (toldV (rn (lst X) bt) tt).toArray })] → P { s₁ with heap := h5, toks := tk5 }) ?_ ?_
      · intro QQ hQ46
        refine if_offC (fun P => ∀ h5 tk5, Fr s₁.heap s₁.heap.objs.size h5 (fun y => if y = Str.ofString "want" then some (.ref jD) else if y = Str.ofString "got" then some (.ref lD) else if y = Str.ofString "turn" then some (.int tu ttu) else if y = Str.ofString "got" then some (.none) else if y = Str.ofString "want" then some (.none) else if y = Str.ofString "width" then some (.int ((wi : Nat) : Int) twi) else if y = Str.ofString "told" then some (.ref tD) else if y = Str.ofString "word" then some (.int ((wo2 : Nat) : Int) two2) else if y = Str.ofString "text" then some (.str X t14) else if y = Str.ofString "bits" then some (.int ((bt : Nat) : Int) t4) else if y = Str.ofString "script" then some (Value.ref l) else mK4 y) → News s₁.heap s₁.heap.objs.size h5 [(jD, { cls := .type "tuple", data := .seq (toldV (rr wo2 wi tu) jt).toArray }), (lD, { cls := .type "tuple", data := .seq (toldV (rr wo2 wi tu) lt).toArray }), (tD, { cls := .type "tuple", data := .seq (toldV (rn (lst X) bt) tt).toArray })] → P { s₁ with heap := h5, toks := tk5 }) ?_ ?_
        · intro QI hQI
          refine wpP_isTrue_Compare1 (wpP_Call ?_)
          k_steps
          k_dflt (refine' wpP_callWith_K (K := hd4.heap_39 w.params) ?hl ?hd ?_ ?hs ?he; (case hl => k_is); (case hd => exact rfl); (case hs => exact rfl); (case he => exact rfl))
          k_steps
          k_dflt (refine' use_L (p_read _ _ _ _ _ fine hbt hXl hok _) ?k1 ?k2 ?k3 ?k4 ?k5 ?k6 ?k7 ?kK ?kd ?ku ?_; (case k1 => k_asm); (case k2 => k_asm); (case k3 => k_asm); (case k4 => k_asm); (case k5 => k_asm); (case k6 => k_asm); (case k7 => k_asm); (case kK => first | exact rfl | assumption); (case kd => ktr_room); (case ku => ktr_units))
          clear F N0
          intro D9 t9 h9 tk9 F9 N9 hne9
          (try dsimp only)
          k_steps
          rename News _ _ _ _ => N8
          exact ⟨rfl, hQI _ _ F9 (fun q hq => N8 q (.tail _ hq))⟩
        · clear F N0
          intro h5 tk5 F N0
          exact wpP_nil ⟨rfl, hQ46 _ _ F N0⟩
      clear F N0
      intro h5 tk5 F N0 
      refine wpP_of ?_
      k_steps
    · refine st_done (fun P => ∀ h5 tk5, Fr s₁.heap s₁.heap.objs.size h5 (fun y => if y = Str.ofString "want" then some (.none) else if y = Str.ofString "width" then some (.int ((wi : Nat) : Int) twi) else if y = Str.ofString "told" then some (.ref tD) else if y = Str.ofString "word" then some (.int ((wo2 : Nat) : Int) two2) else if y = Str.ofString "text" then some (.str X t14) else if y = Str.ofString "bits" then some (.int ((bt : Nat) : Int) t4) else if y = Str.ofString "script" then some (Value.ref l) else mK4 y) → News s₁.heap s₁.heap.objs.size h5 [(tD, { cls := .type "tuple", data := .seq (toldV (rn (lst X) bt) tt).toArray })] → P { s₁ with heap := h5, toks := tk5 }) ?_ ?_
      · intro QQ hQ47
        k_steps
        rename Fr _ _ _ _ => F9
        exact ⟨rfl, hQ47 _ _ F9 (by k_asm)⟩
      clear F N0
      intro h5 tk5 F N0 
      have hl1 : (Str.ofString (toString ((wo2 : Nat) : Int))).length ≤ 30 := toString_length_le (Int.natCast_nonneg _) (by decide) (by omega)
      have hl2 : (Str.ofString (toString ((wi : Nat) : Int))).length ≤ 30 := toString_length_le (Int.natCast_nonneg _) (by decide) (by omega)
      have hl3 : (Str.ofString " needs more than ").length ≤ 20 := by decide
      have hl4 : (Str.ofString " bits").length ≤ 20 := by decide
      refine st_done (fun P => ∀ h5 tk5 tms, Fr s₁.heap s₁.heap.objs.size h5 (fun y => if y = Str.ofString "want" then some (.str (Str.ofString (toString ((wo2 : Nat) : Int)) ++ Str.ofString " needs more than " ++ Str.ofString (toString ((wi : Nat) : Int)) ++ Str.ofString " bits") tms) else if y = Str.ofString "width" then some (.int ((wi : Nat) : Int) twi) else if y = Str.ofString "told" then some (.ref tD) else if y = Str.ofString "word" then some (.int ((wo2 : Nat) : Int) two2) else if y = Str.ofString "text" then some (.str X t14) else if y = Str.ofString "bits" then some (.int ((bt : Nat) : Int) t4) else if y = Str.ofString "script" then some (Value.ref l) else mK4 y) → News s₁.heap s₁.heap.objs.size h5 [(tD, { cls := .type "tuple", data := .seq (toldV (rn (lst X) bt) tt).toArray })] → P { s₁ with heap := h5, toks := tk5 }) ?_ ?_
      · intro QQ hQ48
        k_steps
        all_goals first
          | (rename Fr _ _ _ _ => F9
             exact ⟨rfl, hQ48 _ _ _ (fr_of F9 dup) (by k_asm)⟩)
          | exact absurd (ylt (by assumption)) hfit
      clear F N0
      intro h5 tk5 tms F N0 
      refine st_done (fun P => ∀ h5 tk5 tgs, Fr s₁.heap s₁.heap.objs.size h5 (fun y => if y = Str.ofString "got" then some (.str (Str.ofString (toString ((wo2 : Nat) : Int)) ++ Str.ofString " needs more than " ++ Str.ofString (toString ((wi : Nat) : Int)) ++ Str.ofString " bits") tgs) else if y = Str.ofString "want" then some (.str (Str.ofString (toString ((wo2 : Nat) : Int)) ++ Str.ofString " needs more than " ++ Str.ofString (toString ((wi : Nat) : Int)) ++ Str.ofString " bits") tms) else if y = Str.ofString "width" then some (.int ((wi : Nat) : Int) twi) else if y = Str.ofString "told" then some (.ref tD) else if y = Str.ofString "word" then some (.int ((wo2 : Nat) : Int) two2) else if y = Str.ofString "text" then some (.str X t14) else if y = Str.ofString "bits" then some (.int ((bt : Nat) : Int) t4) else if y = Str.ofString "script" then some (Value.ref l) else mK4 y) → News s₁.heap s₁.heap.objs.size h5 [(tD, { cls := .type "tuple", data := .seq (toldV (rn (lst X) bt) tt).toArray })] → P { s₁ with heap := h5, toks := tk5 }) ?_ ?_
      · intro QQ hQ49
        k_steps
        rename Fr _ _ _ _ => F9
        exact ⟨rfl, hQ49 _ _ _ F9 (by k_asm)⟩
      clear F N0
      intro h5 tk5 tgs F N0 
      refine st_done (fun P => ∀ h5 tk5, Fr s₁.heap s₁.heap.objs.size h5 (fun y => if y = Str.ofString "got" then some (.str (Str.ofString (toString ((wo2 : Nat) : Int)) ++ Str.ofString " needs more than " ++ Str.ofString (toString ((wi : Nat) : Int)) ++ Str.ofString " bits") tgs) else if y = Str.ofString "want" then some (.str (Str.ofString (toString ((wo2 : Nat) : Int)) ++ Str.ofString " needs more than " ++ Str.ofString (toString ((wi : Nat) : Int)) ++ Str.ofString " bits") tms) else if y = Str.ofString "width" then some (.int ((wi : Nat) : Int) twi) else if y = Str.ofString "told" then some (.ref tD) else if y = Str.ofString "word" then some (.int ((wo2 : Nat) : Int) two2) else if y = Str.ofString "text" then some (.str X t14) else if y = Str.ofString "bits" then some (.int ((bt : Nat) : Int) t4) else if y = Str.ofString "script" then some (Value.ref l) else mK4 y) → News s₁.heap s₁.heap.objs.size h5 [(tD, { cls := .type "tuple", data := .seq (toldV (rn (lst X) bt) tt).toArray })] → P { s₁ with heap := h5, toks := tk5 }) ?_ ?_
      · intro QQ hQ50
        k_steps
        exact ⟨rfl, hQ50 _ _ F N0⟩
      clear F N0
      intro h5 tk5 F N0 
      refine st_done (fun P => ∀ h5 tk5, Fr s₁.heap s₁.heap.objs.size h5 (fun y => if y = Str.ofString "got" then some (.str (Str.ofString (toString ((wo2 : Nat) : Int)) ++ Str.ofString " needs more than " ++ Str.ofString (toString ((wi : Nat) : Int)) ++ Str.ofString " bits") tgs) else if y = Str.ofString "want" then some (.str (Str.ofString (toString ((wo2 : Nat) : Int)) ++ Str.ofString " needs more than " ++ Str.ofString (toString ((wi : Nat) : Int)) ++ Str.ofString " bits") tms) else if y = Str.ofString "width" then some (.int ((wi : Nat) : Int) twi) else if y = Str.ofString "told" then some (.ref tD) else if y = Str.ofString "word" then some (.int ((wo2 : Nat) : Int) two2) else if y = Str.ofString "text" then some (.str X t14) else if y = Str.ofString "bits" then some (.int ((bt : Nat) : Int) t4) else if y = Str.ofString "script" then some (Value.ref l) else mK4 y) → News s₁.heap s₁.heap.objs.size h5 [(tD, { cls := .type "tuple", data := .seq (toldV (rn (lst X) bt) tt).toArray })] → P { s₁ with heap := h5, toks := tk5 }) ?_ ?_
      · intro QQ hQ51
        k_steps
        exact ⟨rfl, hQ51 _ _ F N0⟩
      clear F N0
      intro h5 tk5 F N0 
      refine st_doneP (fun P => ∀ h5 tk5, Fr s₁.heap s₁.heap.objs.size h5 (fun y => if y = Str.ofString "got" then some (.str (Str.ofString (toString ((wo2 : Nat) : Int)) ++ Str.ofString " needs more than " ++ Str.ofString (toString ((wi : Nat) : Int)) ++ Str.ofString " bits") tgs) else if y = Str.ofString "want" then some (.str (Str.ofString (toString ((wo2 : Nat) : Int)) ++ Str.ofString " needs more than " ++ Str.ofString (toString ((wi : Nat) : Int)) ++ Str.ofString " bits") tms) else if y = Str.ofString "width" then some (.int ((wi : Nat) : Int) twi) else if y = Str.ofString "told" then some (.ref tD) else if y = Str.ofString "word" then some (.int ((wo2 : Nat) : Int) two2) else if y = Str.ofString "text" then some (.str X t14) else if y = Str.ofString "bits" then some (.int ((bt : Nat) : Int) t4) else if y = Str.ofString "script" then some (Value.ref l) else mK4 y) → News s₁.heap s₁.heap.objs.size h5 [(tD, { cls := .type "tuple", data := .seq (toldV (rn (lst X) bt) tt).toArray })] → P { s₁ with heap := h5, toks := tk5 }) ?_ ?_
      · intro QQ hQ52
        refine if_offC (fun P => ∀ h5 tk5, Fr s₁.heap s₁.heap.objs.size h5 (fun y => if y = Str.ofString "got" then some (.str (Str.ofString (toString ((wo2 : Nat) : Int)) ++ Str.ofString " needs more than " ++ Str.ofString (toString ((wi : Nat) : Int)) ++ Str.ofString " bits") tgs) else if y = Str.ofString "want" then some (.str (Str.ofString (toString ((wo2 : Nat) : Int)) ++ Str.ofString " needs more than " ++ Str.ofString (toString ((wi : Nat) : Int)) ++ Str.ofString " bits") tms) else if y = Str.ofString "width" then some (.int ((wi : Nat) : Int) twi) else if y = Str.ofString "told" then some (.ref tD) else if y = Str.ofString "word" then some (.int ((wo2 : Nat) : Int) two2) else if y = Str.ofString "text" then some (.str X t14) else if y = Str.ofString "bits" then some (.int ((bt : Nat) : Int) t4) else if y = Str.ofString "script" then some (Value.ref l) else mK4 y) → News s₁.heap s₁.heap.objs.size h5 [(tD, { cls := .type "tuple", data := .seq (toldV (rn (lst X) bt) tt).toArray })] → P { s₁ with heap := h5, toks := tk5 }) ?_ ?_
        · intro QI hQI
          refine wpP_isTrue_Compare1 (wpP_Call ?_)
          k_steps
          k_dflt (refine' wpP_callWith_K (K := hd4.heap_39 w.params) ?hl ?hd ?_ ?hs ?he; (case hl => k_is); (case hd => exact rfl); (case hs => exact rfl); (case he => exact rfl))
          k_steps
          k_dflt (refine' use_L (p_read _ _ _ _ _ fine hbt hXl hok _) ?k1 ?k2 ?k3 ?k4 ?k5 ?k6 ?k7 ?kK ?kd ?ku ?_; (case k1 => k_asm); (case k2 => k_asm); (case k3 => k_asm); (case k4 => k_asm); (case k5 => k_asm); (case k6 => k_asm); (case k7 => k_asm); (case kK => first | exact rfl | assumption); (case kd => ktr_room); (case ku => ktr_units))
          clear F N0
          intro D9 t9 h9 tk9 F9 N9 hne9
          (try dsimp only)
          k_steps
          rename News _ _ _ _ => N8
          exact ⟨rfl, hQI _ _ F9 (fun q hq => N8 q (.tail _ hq))⟩
        · clear F N0
          intro h5 tk5 F N0
          exact wpP_nil ⟨rfl, hQ52 _ _ F N0⟩
      clear F N0
      intro h5 tk5 F N0 
      refine wpP_of ?_
      k_steps))
end Mine
end
end
set_option maxRecDepth 100000 in
set_option maxHeartbeats 8000000 in
theorem PySem.Challenge.cw_sx_zbitworks_4_holds : PySem.Challenge.rw_sx_zbitworks_4.Holds :=
  Mine.t4
