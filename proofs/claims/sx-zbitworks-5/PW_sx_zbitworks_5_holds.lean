import PyProof.Rows.All
import Wide.All
import OpenK.AllK
import Wide.FinOn
import PyProof.Rows.BitMore
import PySem.Challenge.RW_sx_zbitworks_5
set_option Elab.async false
section
namespace Mine
set_option maxRecDepth 100000
/-- an additive function -/
def Lin (f : Nat → Nat) : Prop := ∀ x y, f (x ^^^ y) = f x ^^^ f y
theorem Lin.zero {f : Nat → Nat} (hf : Lin f) : f 0 = 0 := by
  have h := hf 0 0
  simp at h
  exact h
theorem lin_ext {w : Nat} {f g : Nat → Nat} (hf : Lin f) (hg : Lin g) (hb : ∀ i, i < w → f (2 ^ i) = g (2 ^ i)) : ∀ v, v ≤ w → ∀ x, x < 2 ^ v → f x = g x
  | 0, _, x, hx => by
    have : x = 0 := by simpa using hx
    subst this
    rw [hf.zero, hg.zero]
  | v + 1, hv, x, hx => by
    by_cases h : x < 2 ^ v
    · exact lin_ext hf hg hb v (by omega) x h
    · have hr : x - 2 ^ v < 2 ^ v := by rw [Nat.pow_succ] at hx; omega
      have e : x = (x - 2 ^ v) ^^^ 2 ^ v := by
        refine Nat.eq_of_testBit_eq fun i => ?_
        have hx' : x = 2 ^ v + (x - 2 ^ v) := by omega
        rw [Nat.testBit_xor, Nat.testBit_two_pow]
        generalize hy : x - 2 ^ v = y at *
        subst hx'
        by_cases hi : v = i
        · subst hi
          rw [Nat.testBit_two_pow_add_eq]
          simp
        · by_cases hlt : i < v
          · rw [Nat.testBit_two_pow_add_gt hlt]; simp [hi]
          · have h1 : 2 ^ v + y < 2 ^ i := Nat.lt_of_lt_of_le hx (Nat.pow_le_pow_right (by decide) (by omega))
            have h2 : y < 2 ^ i := by omega
            rw [Nat.testBit_lt_two_pow h1, Nat.testBit_lt_two_pow h2]; simp [hi]
      rw [e, hf _ _, hg _ _, hb v (by omega), lin_ext hf hg hb v (by omega) _ hr]
theorem lin_is {w : Nat} {f g : Nat → Nat} (hf : Lin f) (hg : Lin g) (hb : (List.range w).all (fun i => Nat.beq (f (2 ^ i)) (g (2 ^ i))) = true) {x : Nat} (hx : x < 2 ^ w) : f x = g x :=
  lin_ext hf hg (fun i hi => by
    have := List.all_eq_true.mp hb i (List.mem_range.mpr hi)
    exact Nat.eq_of_beq_eq_true this) w (Nat.le_refl _) x hx
theorem lin_id : Lin fun x => x := fun _ _ => rfl
theorem lin_zero : Lin fun _ => 0 := fun _ _ => (Nat.xor_self 0).symm
theorem lin_comp {f g : Nat → Nat} (hf : Lin f) (hg : Lin g) : Lin fun x => f (g x) := fun x y => by show f (g (x ^^^ y)) = _; rw [hg, hf]
theorem xor4 (a b c d : Nat) : (a ^^^ b) ^^^ (c ^^^ d) = (a ^^^ c) ^^^ (b ^^^ d) := by
  simp only [Nat.xor_assoc]
  congr 1
  rw [← Nat.xor_assoc, ← Nat.xor_assoc, Nat.xor_comm b]
theorem lin_xor {f g : Nat → Nat} (hf : Lin f) (hg : Lin g) : Lin fun x => f x ^^^ g x := fun x y => by
  show f (x ^^^ y) ^^^ g (x ^^^ y) = _
  rw [hf, hg]
  exact xor4 _ _ _ _
theorem lin_shl (k : Nat) : Lin fun x => x <<< k := fun _ _ => Nat.shiftLeft_xor_distrib
theorem lin_shr (k : Nat) : Lin fun x => x >>> k := fun _ _ => Nat.shiftRight_xor_distrib
theorem lin_mod (k : Nat) : Lin fun x => x % 2 ^ k := fun _ _ => Nat.xor_mod_two_pow
theorem lin_fold {α : Type} (φ : α → Nat → Nat) (h : ∀ d, Lin (φ d)) : ∀ (ds : List α) (i : Nat → Nat), Lin i → Lin fun y => ds.foldl (fun x d => x ^^^ φ d y) (i y)
  | [], _, hi => hi
  | d :: r, i, hi => lin_fold φ h r (fun y => i y ^^^ φ d y) (lin_xor hi (h d))
/-- a linear function goes into a sum -/
theorem fold_into {α : Type} {f : Nat → Nat} (hf : Lin f) (φ : α → Nat) : ∀ (ds : List α) (i : Nat), f (ds.foldl (fun x d => x ^^^ φ d) i) = ds.foldl (fun x d => x ^^^ f (φ d)) (f i)
  | [], _ => rfl
  | d :: r, i => by rw [List.foldl_cons, List.foldl_cons, fold_into hf φ r, hf]

/-- shifted up, within 32 bits -/
def shl (d x : Nat) : Nat := (x <<< d) % 2 ^ 32
theorem lin_shl32 (d : Nat) : Lin (shl d) := lin_comp (f := fun x => x % 2 ^ 32) (g := fun x => x <<< d) (lin_mod 32) (lin_shl d)
theorem shl_shl (a b x : Nat) : shl a (shl b x) = shl (a + b) x := by
  refine Nat.eq_of_testBit_eq fun i => ?_
  simp only [shl, Nat.testBit_mod_two_pow, Nat.testBit_shiftLeft]
  by_cases h1 : i < 32 <;> by_cases h2 : a ≤ i <;> by_cases h3 : a + b ≤ i <;> simp [h1, h2, h3] <;> try omega
  · simp [show i - a < 32 by omega, show b ≤ i - a by omega, Nat.sub_sub]
theorem shl_lt (d x : Nat) : shl d x < 2 ^ 32 := Nat.mod_lt _ (by decide)
theorem shl_out {d : Nat} (x : Nat) (h : 32 ≤ d) : shl d x = 0 := by
  refine Nat.eq_of_testBit_eq fun i => ?_
  simp only [shl, Nat.testBit_mod_two_pow, Nat.testBit_shiftLeft, Nat.zero_testBit]
  by_cases h1 : i < 32 <;> simp [h1]
  omega
theorem shr_out {d x : Nat} (hx : x < 2 ^ 32) (h : 32 ≤ d) : x >>> d = 0 := by
  rw [Nat.shiftRight_eq_div_pow]
  exact Nat.div_eq_of_lt (Nat.lt_of_lt_of_le hx (Nat.pow_le_pow_right (by decide) h))

def upN (k x : Nat) : Nat := x ^^^ shl k x
def dnN (k x : Nat) : Nat := x ^^^ x >>> k
def stepN (x : Nat) : Nat := upN 5 (dnN 17 (upN 13 x))
theorem lin_up (k : Nat) : Lin (upN k) := lin_xor lin_id (lin_shl32 k)
theorem lin_dn (k : Nat) : Lin (dnN k) := lin_xor lin_id (lin_shr k)
theorem lin_step : Lin stepN := lin_comp (f := upN 5) (g := fun x => dnN 17 (upN 13 x)) (lin_up 5) (lin_comp (lin_dn 17) (lin_up 13))
theorem up_lt {k x : Nat} (hx : x < 2 ^ 32) : upN k x < 2 ^ 32 := Nat.xor_lt_two_pow hx (shl_lt _ _)
theorem dn_lt {k x : Nat} (hx : x < 2 ^ 32) : dnN k x < 2 ^ 32 := Nat.xor_lt_two_pow hx (Nat.lt_of_le_of_lt (by rw [Nat.shiftRight_eq_div_pow]; exact Nat.div_le_self _ _) hx)
theorem step_lt {x : Nat} (hx : x < 2 ^ 32) : stepN x < 2 ^ 32 := up_lt (dn_lt (up_lt hx))
/-- how often the solvers turn -/
def turns (k : Nat) : Nat := (31 / k)
def undoLN (k y : Nat) : Nat := (List.range (turns k)).foldl (fun x i => x ^^^ shl (k + i * k) y) y
def undoRN (k y : Nat) : Nat := (List.range (turns k)).foldl (fun x i => x ^^^ y >>> (k + i * k)) y
theorem lin_undoL (k : Nat) : Lin (undoLN k) := lin_fold (fun i y => shl (k + i * k) y) (fun i => lin_shl32 (k + i * k)) _ _ lin_id
theorem lin_undoR (k : Nat) : Lin (undoRN k) := lin_fold (fun i y => y >>> (k + i * k)) (fun i => lin_shr (k + i * k)) _ _ lin_id
theorem undoL_sum (k x : Nat) : ∀ m, (List.range m).foldl (fun a i => a ^^^ shl (k + i * k) (upN k x)) (upN k x) = x ^^^ shl (k + m * k) x
  | 0 => by simp [upN]
  | m + 1 => by
    rw [List.range_succ, List.foldl_append, undoL_sum k x m, List.foldl_cons, List.foldl_nil, upN, lin_shl32, shl_shl, Nat.xor_assoc, ← Nat.xor_assoc (shl (k + m * k) x), Nat.xor_self, Nat.zero_xor]
    congr 2
    rw [Nat.add_mul, Nat.one_mul, Nat.add_assoc]
theorem undoR_sum (k x : Nat) : ∀ m, (List.range m).foldl (fun a i => a ^^^ dnN k x >>> (k + i * k)) (dnN k x) = x ^^^ x >>> (k + m * k)
  | 0 => by simp [dnN]
  | m + 1 => by
    rw [List.range_succ, List.foldl_append, undoR_sum k x m, List.foldl_cons, List.foldl_nil, dnN, Nat.shiftRight_xor_distrib, ← Nat.shiftRight_add, Nat.xor_assoc, ← Nat.xor_assoc (x >>> (k + m * k)), Nat.xor_self, Nat.zero_xor]
    congr 2
    rw [Nat.add_mul, Nat.one_mul]; omega
theorem turns_out {k : Nat} (h1 : 1 ≤ k) : 32 ≤ k + turns k * k := by
  have h := Nat.div_add_mod 31 k
  have h2 := Nat.mod_lt 31 (show 0 < k by omega)
  rw [Nat.mul_comm] at h
  unfold turns
  omega
theorem N2 {k x : Nat} (h1 : 1 ≤ k) : undoLN k (upN k x) = x := by
  rw [undoLN, undoL_sum, shl_out _ (turns_out h1), Nat.xor_zero]
theorem N3 {k x : Nat} (h1 : 1 ≤ k) (hx : x < 2 ^ 32) : undoRN k (dnN k x) = x := by
  rw [undoRN, undoR_sum, shr_out hx (turns_out h1), Nat.xor_zero]
def backN (y : Nat) : Nat := undoLN 13 (undoRN 17 (undoLN 5 y))
theorem N1 {x : Nat} (hx : x < 2 ^ 32) : backN (stepN x) = x := by
  rw [backN, stepN, N2 (by decide), N3 (by decide) (up_lt hx), N2 (by decide)]
def fromGrayN (g : Nat) : Nat := (List.range 64).foldl (fun n i => n ^^^ g >>> i) 0
theorem lin_fromGray : Lin fromGrayN := lin_fold (fun i y => y >>> i) (fun i => lin_shr i) _ (fun _ => 0) lin_zero
def toGrayN (g : Nat) : Nat := g ^^^ g >>> 1
theorem gray_sum (g : Nat) : ∀ m, toGrayN ((List.range m).foldl (fun n i => n ^^^ g >>> i) 0) = g ^^^ g >>> m
  | 0 => by simp [toGrayN]
  | m + 1 => by
    have ih := gray_sum g m
    rw [List.range_succ, List.foldl_append, List.foldl_cons, List.foldl_nil]
    unfold toGrayN at *
    rw [Nat.shiftRight_xor_distrib, xor4, ih, ← Nat.shiftRight_add, Nat.xor_assoc, ← Nat.xor_assoc (g >>> m), Nat.xor_self, Nat.zero_xor]
theorem N10 {b : Nat} (hx : b < 2 ^ 64) : toGrayN (fromGrayN b) = b := by
  rw [fromGrayN, gray_sum, Nat.shiftRight_eq_div_pow, Nat.div_eq_of_lt hx, Nat.xor_zero]
def parityN (n : Nat) : Nat := dnN 1 (dnN 2 (dnN 4 (dnN 8 (dnN 16 (dnN 32 n))))) % 2 ^ 1
theorem lin_parity : Lin parityN :=
  lin_comp (f := fun x => x % 2 ^ 1) (g := fun n => dnN 1 (dnN 2 (dnN 4 (dnN 8 (dnN 16 (dnN 32 n)))))) (lin_mod 1) (lin_comp (lin_dn 1) (lin_comp (lin_dn 2) (lin_comp (lin_dn 4) (lin_comp (lin_dn 8) (lin_comp (lin_dn 16) (lin_dn 32))))))
/-- reversed bits, w of them: bit by bit -/
def revN : Nat → Nat → Nat
  | 0, _ => 0
  | w + 1, n => (n % 2 ^ 1) <<< w ^^^ revN w (n >>> 1)
theorem lin_rev : ∀ w, Lin (revN w)
  | 0 => fun _ _ => (Nat.xor_self 0).symm
  | w + 1 => lin_xor (lin_comp (lin_shl w) (lin_mod 1)) (lin_comp (lin_rev w) (lin_shr 1))
theorem testBit_rev : ∀ (w n i : Nat), (revN w n).testBit i = (decide (i < w) && n.testBit (w - 1 - i))
  | 0, n, i => by simp [revN]
  | w + 1, n, i => by
    rw [revN, Nat.testBit_xor, testBit_rev w, Nat.testBit_shiftLeft, Nat.testBit_mod_two_pow, Nat.testBit_shiftRight]
    by_cases h : i = w
    · subst h; simp
    · by_cases h2 : i < w
      · simp [h2, show i < w + 1 by omega, show ¬ w ≤ i by omega, show 1 + (w - 1 - i) = w - i by omega]
      · simp [h2, show ¬ i < w + 1 by omega, show w ≤ i by omega, show ¬ (i - w < 1) by omega]
theorem rev_lt (w n : Nat) : revN w n < 2 ^ w := by
  refine Nat.lt_pow_two_of_testBit _ fun i hi => ?_
  rw [testBit_rev]; simp [show ¬ i < w by omega]
theorem rev_rev {n : Nat} (hn : n < 2 ^ 32) : revN 32 (revN 32 n) = n := by
  refine Nat.eq_of_testBit_eq fun i => ?_
  rw [testBit_rev, testBit_rev]
  by_cases h : i < 32
  · simp [h, show 31 - i < 32 by omega, show 31 - (31 - i) = i by omega]
  · rw [Nat.testBit_lt_two_pow (x := n) (i := i) (Nat.lt_of_lt_of_le hn (Nat.pow_le_pow_right (by decide) (by omega)))]; simp [h]
theorem rev_shl {n : Nat} (hn : n < 2 ^ 32) (d : Nat) : revN 32 (shl d (revN 32 n)) = n >>> d := by
  refine Nat.eq_of_testBit_eq fun i => ?_
  rw [testBit_rev, shl, Nat.testBit_mod_two_pow, Nat.testBit_shiftLeft, testBit_rev, Nat.testBit_shiftRight]
  by_cases h : i < 32
  · by_cases h2 : d ≤ 31 - i
    · simp [h, h2, show 31 - i < 32 by omega, show 31 - i - d < 32 by omega, show 31 - (31 - i - d) = d + i by omega]
    · rw [Nat.testBit_lt_two_pow (i := d + i) (Nat.lt_of_lt_of_le hn (Nat.pow_le_pow_right (by decide) (by omega)))]; simp [h2]
  · rw [Nat.testBit_lt_two_pow (i := d + i) (Nat.lt_of_lt_of_le hn (Nat.pow_le_pow_right (by decide) (by omega)))]; simp [h]
theorem N4 {k y : Nat} (hy : y < 2 ^ 32) : revN 32 (undoLN k (revN 32 y)) = undoRN k y := by
  rw [undoLN, fold_into (lin_rev 32), rev_rev hy, undoRN]
  simp only [rev_shl hy]
theorem N6 {b : Nat} (hx : b < 2 ^ 32) : undoRN 1 b = fromGrayN b := by
  have h : ∀ m, 32 ≤ m → (List.range m).foldl (fun n i => n ^^^ b >>> i) 0 = (List.range 32).foldl (fun n i => n ^^^ b >>> i) 0 := by
    intro m
    induction m with
    | zero => intro h; omega
    | succ m ih =>
      intro h
      by_cases e : m + 1 = 32
      · rw [e]
      · rw [List.range_succ, List.foldl_append, ih (by omega), List.foldl_cons, List.foldl_nil, shr_out hx (by omega), Nat.xor_zero]
  rw [fromGrayN, h 64 (by decide), undoRN]
  show (List.range 31).foldl _ _ = _
  rw [show List.range 32 = 0 :: (List.range 31).map (· + 1) from by decide, List.foldl_cons, List.foldl_map]
  simp [Nat.add_comm]
theorem N7 {b : Nat} (hx : b < 2 ^ 32) : undoLN 1 b = revN 32 (fromGrayN (revN 32 b)) := by
  have h1 : undoLN 1 b < 2 ^ 32 := by
    have : ∀ m, (List.range m).foldl (fun x i => x ^^^ shl (1 + i * 1) b) b < 2 ^ 32 := by
      intro m
      induction m with
      | zero => exact hx
      | succ m ih => rw [List.range_succ, List.foldl_append, List.foldl_cons, List.foldl_nil]; exact Nat.xor_lt_two_pow ih (shl_lt _ _)
    exact this _
  have h2 := N4 (k := 1) (rev_lt 32 b)
  rw [rev_rev hx] at h2
  rw [← N6 (rev_lt 32 b), ← h2, rev_rev h1]
theorem N8 {b : Nat} (hx : b < 2 ^ 32) : undoLN 1 b >>> 31 = fromGrayN b % 2 ^ 1 := lin_is (lin_comp (lin_shr 31) (lin_undoL 1)) (lin_comp (lin_mod 1) lin_fromGray) (by decide +kernel) hx
theorem N9 {b : Nat} (hx : b < 2 ^ 64) : parityN b = fromGrayN b % 2 ^ 1 := lin_is lin_parity (lin_comp (lin_mod 1) lin_fromGray) (by decide +kernel) hx
end Mine
end
section
set_option maxRecDepth 100000
namespace Mine
open PySem PyProof.Rows
/-- the number of the first w bits -/
def ofBits (f : Nat → Bool) : Nat → Nat
  | 0 => 0
  | w + 1 => ofBits f w ^^^ (f w).toNat <<< w
theorem testBit_bool (b : Bool) (i : Nat) : b.toNat.testBit i = (decide (i = 0) && b) := by
  cases b <;> cases i <;> simp [Nat.testBit_succ]
theorem testBit_ofBits (f : Nat → Bool) : ∀ w i, (ofBits f w).testBit i = (decide (i < w) && f i)
  | 0, i => by simp [ofBits]
  | w + 1, i => by
    rw [ofBits, Nat.testBit_xor, testBit_ofBits f w i, Nat.testBit_shiftLeft, testBit_bool]
    by_cases h : i = w
    · subst h; simp
    · by_cases h2 : i < w
      · simp [h2, show i < w + 1 by omega, show ¬ w ≤ i by omega]
      · simp [h2, show ¬ i < w + 1 by omega, show w ≤ i by omega, show ¬ (i - w = 0) by omega]
theorem ofBits_lt (f : Nat → Bool) (w : Nat) : ofBits f w < 2 ^ w := by
  refine Nat.lt_pow_two_of_testBit _ fun i hi => ?_
  rw [testBit_ofBits]; simp [show ¬ i < w by omega]
theorem xor_add : ∀ n m : Nat, (n ^^^ m) + 2 * (n &&& m) = n + m := by
  intro n
  induction n using Nat.strongRecOn with
  | _ n ih =>
    intro m
    by_cases h : n = 0
    · subst h; simp
    · have h1 := ih (n / 2) (by omega) (m / 2)
      have e1 : (n ^^^ m) / 2 = n / 2 ^^^ m / 2 := Nat.xor_div_two
      have e2 : (n &&& m) / 2 = n / 2 &&& m / 2 := Nat.and_div_two
      have e3 := @Nat.xor_mod_two_eq_one n m
      have e4 := @Nat.and_mod_two_eq_one n m
      rw [← e1, ← e2] at h1
      omega
theorem xorI (n m : Nat) : Builtin.bitXor (n : Int) (m : Int) = ((n ^^^ m : Nat) : Int) := by
  have h := xor_add n m
  unfold Builtin.bitXor
  rw [bitOr_and, bitAnd_pp (by omega) (by omega)]
  simp only [Int.toNat_natCast]
  omega
theorem andI (n m : Nat) : Builtin.bitAnd (n : Int) (m : Int) = ((n &&& m : Nat) : Int) := by
  rw [bitAnd_pp (by omega) (by omega)]; simp only [Int.toNat_natCast]
theorem orI (n m : Nat) : Builtin.bitOr (n : Int) (m : Int) = ((n ||| m : Nat) : Int) := by
  rw [bitOr_and, andI]
  have h := xor_add n m
  have h2 : n ||| m = (n ^^^ m) + (n &&& m) := by
    have h3 := xor_add (n ^^^ m) (n &&& m)
    have e1 : (n ^^^ m) &&& (n &&& m) = 0 := by
      refine Nat.eq_of_testBit_eq fun i => ?_
      simp only [Nat.testBit_and, Nat.testBit_xor, Nat.zero_testBit]
      cases n.testBit i <;> cases m.testBit i <;> rfl
    have e2 : (n ^^^ m) ^^^ (n &&& m) = n ||| m := by
      refine Nat.eq_of_testBit_eq fun i => ?_
      simp only [Nat.testBit_and, Nat.testBit_xor, Nat.testBit_or]
      cases n.testBit i <;> cases m.testBit i <;> rfl
    rw [e1, e2] at h3
    omega
  omega
theorem powI (k : Nat) : ((2 : Int) ^ k) = ((2 ^ k : Nat) : Int) := by
  induction k with
  | zero => rfl
  | succ k ih => rw [Int.pow_succ, ih, Nat.pow_succ]; simp
theorem shlI (n k : Nat) : (n : Int) * 2 ^ k = ((n <<< k : Nat) : Int) := by
  rw [powI, Nat.shiftLeft_eq]; simp
theorem shrI (n k : Nat) : (n : Int).fdiv (2 ^ k) = ((n >>> k : Nat) : Int) := by
  rw [powI, Nat.shiftRight_eq_div_pow, Int.fdiv_eq_ediv_of_nonneg _ (Int.natCast_nonneg _)]; simp
theorem modI (n m : Nat) : (n : Int).fmod (m : Int) = ((n % m : Nat) : Int) := by
  rw [Int.fmod_eq_emod_of_nonneg _ (by omega)]; simp
theorem maskI (k : Nat) : (2 : Int) ^ k - 1 = ((2 ^ k - 1 : Nat) : Int) := by
  have := Nat.two_pow_pos k
  rw [powI]; omega
theorem and_mask (n k : Nat) : n &&& (2 ^ k - 1) = n % 2 ^ k := Nat.and_two_pow_sub_one_eq_mod n k
/-- a list of bits, as ints -/
def bl (f : Nat → Bool) : List Int := (List.range 32).map fun i => ((f i).toNat : Int)
theorem bl_len (f : Nat → Bool) : (bl f).length = 32 := by simp [bl]
theorem bl_get (f : Nat → Bool) {i : Nat} (h : i < 32) : (bl f)[i]? = some ((f i).toNat : Int) := by simp [bl, h]
theorem bitI (n i : Nat) : ((n : Int).fdiv (2 ^ i)).fmod 2 = ((n.testBit i).toNat : Int) := by
  rw [shrI, show (2 : Int) = ((2 : Nat) : Int) from rfl, modI, Nat.testBit_eq_decide_div_mod_eq, Nat.shiftRight_eq_div_pow]
  by_cases h : n / 2 ^ i % 2 = 1
  · simp [h]
  · have : n / 2 ^ i % 2 = 0 := by omega
    simp [this]
theorem add2 (a b : Bool) : ((a.toNat : Int) + (b.toNat : Int)).fmod 2 = ((a ^^ b).toNat : Int) := by cases a <;> cases b <;> rfl
def upB (k : Nat) (f : Nat → Bool) (i : Nat) : Bool := if i < k then f i else f i ^^ f (i - k)
def dnB (k : Nat) (f : Nat → Bool) (i : Nat) : Bool := if 31 < i + k then f i else f i ^^ f (i + k)
theorem up_bits (k n : Nat) (h : n < 2 ^ 32) : ofBits (upB k n.testBit) 32 = upN k n := by
  refine Nat.eq_of_testBit_eq fun i => ?_
  rw [testBit_ofBits, upN, shl, Nat.testBit_xor, Nat.testBit_mod_two_pow, Nat.testBit_shiftLeft, upB]
  by_cases h1 : i < 32
  · by_cases h2 : i < k
    · simp [h1, h2, show ¬ k ≤ i by omega]
    · simp [h1, h2, show k ≤ i by omega]
  · rw [Nat.testBit_lt_two_pow (x := n) (i := i) (Nat.lt_of_lt_of_le h (Nat.pow_le_pow_right (by decide) (by omega)))]; simp [h1]
theorem dn_bits (k n : Nat) (h : n < 2 ^ 32) : ofBits (dnB k n.testBit) 32 = dnN k n := by
  refine Nat.eq_of_testBit_eq fun i => ?_
  rw [testBit_ofBits, dnN, Nat.testBit_xor, Nat.testBit_shiftRight, dnB]
  by_cases h1 : i < 32
  · by_cases h2 : 31 < i + k
    · rw [Nat.testBit_lt_two_pow (x := n) (i := k + i) (Nat.lt_of_lt_of_le h (Nat.pow_le_pow_right (by decide) (by omega)))]; simp [h1, h2]
    · rw [Nat.add_comm k i]; simp [h1, h2]
  · rw [Nat.testBit_lt_two_pow (x := n) (i := i) (Nat.lt_of_lt_of_le h (Nat.pow_le_pow_right (by decide) (by omega))),
      Nat.testBit_lt_two_pow (x := n) (i := k + i) (Nat.lt_of_lt_of_le h (Nat.pow_le_pow_right (by decide) (by omega)))]; simp [h1]
/-- only the first 32 count -/
theorem ofBits_congr {f g : Nat → Bool} : ∀ {w : Nat}, (∀ i, i < w → f i = g i) → ofBits f w = ofBits g w
  | 0, _ => rfl
  | w + 1, h => by rw [ofBits, ofBits, ofBits_congr fun i hi => h i (by omega), h w (by omega)]
theorem ofBits_self {n : Nat} (h : n < 2 ^ 32) : ofBits n.testBit 32 = n := by
  refine Nat.eq_of_testBit_eq fun i => ?_
  rw [testBit_ofBits]
  by_cases h1 : i < 32
  · simp [h1]
  · rw [Nat.testBit_lt_two_pow (x := n) (i := i) (Nat.lt_of_lt_of_le h (Nat.pow_le_pow_right (by decide) (by omega)))]; simp
theorem step_bits (n : Nat) (h : n < 2 ^ 32) : ofBits (upB 5 (dnB 17 (upB 13 n.testBit))) 32 = stepN n := by
  have e1 : ofBits (dnB 17 (upB 13 n.testBit)) 32 = dnN 17 (upN 13 n) := by
    rw [← dn_bits 17 _ (up_lt h), ← up_bits 13 n h]
    refine ofBits_congr fun i hi => ?_
    unfold dnB
    rw [testBit_ofBits, testBit_ofBits]
    by_cases h2 : 31 < i + 17 <;> simp [h2, hi]
    intro h3; omega
  rw [stepN, ← up_bits 5 _ (dn_lt (up_lt h)), ← e1]
  refine ofBits_congr fun i hi => ?_
  unfold upB
  rw [testBit_ofBits, testBit_ofBits]
  by_cases h2 : i < 5 <;> simp [h2, hi]
  intro h3; omega
/-- the number of a list, from above -/
theorem horner (f : Nat → Bool) (w : Nat) : ∀ m, m ≤ w → (List.range m).foldl (fun (t : Int) i => 2 * t + ((f (w - 1 - i)).toNat : Int)) 0 = ((ofBits (fun i => f (w - m + i)) m : Nat) : Int)
  | 0, _ => rfl
  | m + 1, h => by
    rw [List.range_succ, List.foldl_append, horner f w m (by omega), List.foldl_cons, List.foldl_nil]
    have e : ofBits (fun i => f (w - (m + 1) + i)) (m + 1) = 2 * ofBits (fun i => f (w - m + i)) m + (f (w - 1 - m)).toNat := by
      have hx : 2 * ofBits (fun i => f (w - m + i)) m + (f (w - 1 - m)).toNat = (ofBits (fun i => f (w - m + i)) m) <<< 1 ^^^ (f (w - 1 - m)).toNat := by
        have h3 := xor_add ((ofBits (fun i => f (w - m + i)) m) <<< 1) (f (w - 1 - m)).toNat
        have h4 : (ofBits (fun i => f (w - m + i)) m) <<< 1 &&& (f (w - 1 - m)).toNat = 0 := by
          refine Nat.eq_of_testBit_eq fun i => ?_
          rw [Nat.testBit_and, Nat.testBit_shiftLeft, testBit_bool]
          cases i <;> simp
        rw [h4, Nat.shiftLeft_eq] at h3
        rw [Nat.shiftLeft_eq]
        omega
      rw [hx]
      refine Nat.eq_of_testBit_eq fun i => ?_
      rw [Nat.testBit_xor, Nat.testBit_shiftLeft, testBit_ofBits, testBit_ofBits, testBit_bool]
      cases i with
      | zero => simp [show w - (m + 1) = w - 1 - m by omega]
      | succ i =>
        by_cases h5 : i < m
        · simp [h5, show w - (m + 1) + (i + 1) = w - m + i by omega]
        · simp [h5]
    rw [e]
    push_cast
    rfl
end Mine
end
section
set_option maxRecDepth 100000
namespace Mine
open PySem PyProof.Rows
theorem and_low {y z : Nat} (hy : y < 2 ^ 32) : y &&& z = y &&& z % 2 ^ 32 := by
  refine Nat.eq_of_testBit_eq fun i => ?_
  rw [Nat.testBit_and, Nat.testBit_and, Nat.testBit_mod_two_pow]
  by_cases h : i < 32
  · simp [h]
  · rw [Nat.testBit_lt_two_pow (x := y) (i := i) (Nat.lt_of_lt_of_le hy (Nat.pow_le_pow_right (by decide) (by omega)))]; simp
theorem and_not {a b : Nat} (ha : a < 2 ^ 32) (hb : b < 2 ^ 32) : (a &&& b) + (b &&& (2 ^ 32 - 1 - a)) = b := by
  have h := xor_add (a &&& b) (b &&& (2 ^ 32 - 1 - a))
  have e0 : 2 ^ 32 - 1 - a = 2 ^ 32 - (a + 1) := by omega
  have e1 : (a &&& b) &&& (b &&& (2 ^ 32 - 1 - a)) = 0 := by
    refine Nat.eq_of_testBit_eq fun i => ?_
    rw [e0]
    simp only [Nat.testBit_and, Nat.testBit_two_pow_sub_succ ha, Nat.zero_testBit]
    cases a.testBit i <;> cases b.testBit i <;> simp
  have e2 : (a &&& b) ^^^ (b &&& (2 ^ 32 - 1 - a)) = b := by
    refine Nat.eq_of_testBit_eq fun i => ?_
    rw [e0]
    simp only [Nat.testBit_and, Nat.testBit_xor, Nat.testBit_two_pow_sub_succ ha]
    by_cases hi : i < 32
    · cases a.testBit i <;> cases b.testBit i <;> simp [hi]
    · rw [Nat.testBit_lt_two_pow (x := b) (i := i) (Nat.lt_of_lt_of_le hb (Nat.pow_le_pow_right (by decide) (by omega)))]; simp
  rw [e1, e2] at h
  omega
theorem bitAnd_hi (H : Int) {a b : Nat} (ha : a < 2 ^ 32) (hb : b < 2 ^ 32) : Builtin.bitAnd (4294967296 * H + a) (b : Int) = ((a &&& b : Nat) : Int) := by
  by_cases hx : 0 ≤ 4294967296 * H + (a : Int)
  · rw [bitAnd_pp hx (by omega), Int.toNat_natCast, Nat.and_comm, and_low hb, Nat.and_comm b]
    congr 2
    omega
  · rw [bitAnd_np hx (by omega), Int.toNat_natCast, and_low hb]
    have e : (Builtin.bitNot (4294967296 * H + (a : Int))).toNat % 2 ^ 32 = 2 ^ 32 - 1 - a := by
      unfold Builtin.bitNot
      omega
    rw [e]
    have := and_not ha hb
    omega
theorem bitXor_hi (H : Int) {a b : Nat} (ha : a < 2 ^ 32) (hb : b < 2 ^ 32) : Builtin.bitXor (4294967296 * H + a) (b : Int) = 4294967296 * H + ((a ^^^ b : Nat) : Int) := by
  unfold Builtin.bitXor
  rw [bitOr_and, bitAnd_hi H ha hb]
  have := xor_add a b
  omega
theorem bitAnd_mask32 (z : Int) : Builtin.bitAnd z 4294967295 = z % 4294967296 := by
  have h1 : z = 4294967296 * (z / 4294967296) + ((z % 4294967296).toNat : Int) := by omega
  have h2 : (z % 4294967296).toNat < 2 ^ 32 := by omega
  conv => lhs; rw [h1]
  rw [show (4294967295 : Int) = ((4294967295 : Nat) : Int) from rfl, bitAnd_hi _ h2 (by decide), show (4294967295 : Nat) = 2 ^ 32 - 1 from rfl, and_mask, Nat.mod_eq_of_lt h2]
  omega
/-- one turn of the left solver, upon an int of any size -/
theorem turnL (H : Int) {x l : Nat} (d : Nat) (hx : x < 2 ^ 32) :
    Builtin.bitXor (4294967296 * H + x) (Builtin.bitAnd ((4294967296 * H + l) * 2 ^ d) 4294967295) = 4294967296 * H + ((x ^^^ shl d l : Nat) : Int) := by
  have e : Builtin.bitAnd ((4294967296 * H + l) * 2 ^ d) 4294967295 = ((shl d l : Nat) : Int) := by
    rw [bitAnd_mask32, Int.add_mul, shlI, Int.mul_assoc, Int.mul_add_emod_self_left, shl]
    simp
  rw [e, bitXor_hi H hx (shl_lt _ _)]
end Mine
end
section
set_option maxRecDepth 100000
namespace Mine
open PySem PyProof.Rows
theorem fg_zero : fromGrayN 0 = 0 := lin_fromGray.zero
theorem fg_step {g : Nat} (hg : g < 2 ^ 64) : fromGrayN g = g ^^^ fromGrayN (g >>> 1) := by
  have e : fromGrayN (g >>> 1) = (List.range 64).foldl (fun n i => n ^^^ g >>> (i + 1)) 0 := by
    unfold fromGrayN
    congr 1
    funext n i
    rw [← Nat.shiftRight_add, Nat.add_comm 1 i]
  have h : ∀ m, (List.range (m + 1)).foldl (fun n i => n ^^^ g >>> i) 0 = g ^^^ (List.range m).foldl (fun n i => n ^^^ g >>> (i + 1)) 0 := by
    intro m
    induction m with
    | zero => simp
    | succ m ih => rw [List.range_succ, List.foldl_append, ih, List.range_succ, List.foldl_append, List.foldl_cons, List.foldl_nil, List.foldl_cons, List.foldl_nil, Nat.xor_assoc]
  have h63 := h 63
  have hz : g >>> (63 + 1) = 0 := by rw [Nat.shiftRight_eq_div_pow]; exact Nat.div_eq_of_lt hg
  rw [e, List.range_succ (n := 63), List.foldl_append, List.foldl_cons, List.foldl_nil, hz, Nat.xor_zero]
  exact h63
theorem fg_lt {g : Nat} (w : Nat) (hg : g < 2 ^ w) : fromGrayN g < 2 ^ w := by
  have : ∀ m, (List.range m).foldl (fun n i => n ^^^ g >>> i) 0 < 2 ^ w := by
    intro m
    induction m with
    | zero => exact Nat.two_pow_pos w
    | succ m ih =>
      rw [List.range_succ, List.foldl_append, List.foldl_cons, List.foldl_nil]
      exact Nat.xor_lt_two_pow ih (Nat.lt_of_le_of_lt (by rw [Nat.shiftRight_eq_div_pow]; exact Nat.div_le_self _ _) hg)
  exact this 64
theorem xor_mod2 (a b : Nat) : (a ^^^ b) % 2 = (a + b) % 2 := by
  have := @Nat.xor_mod_two_eq_one a b
  omega
/-- one turn of the running parity -/
theorem run_step {n i : Nat} (hn : n < 2 ^ 64) (hi : i < 64) :
    ((fromGrayN n >>> (64 - i)) % 2 + n >>> (63 - i)) % 2 = (fromGrayN n >>> (63 - i)) % 2 ∧
    2 * (fromGrayN n >>> (64 - i)) + (fromGrayN n >>> (63 - i)) % 2 = fromGrayN n >>> (63 - i) := by
  have e : fromGrayN n >>> (64 - i) = (fromGrayN n >>> (63 - i)) / 2 := by
    rw [show 64 - i = 63 - i + 1 by omega, Nat.shiftRight_succ]
  have h := N10 hn
  have h2 : n >>> (63 - i) = fromGrayN n >>> (63 - i) ^^^ fromGrayN n >>> (64 - i) := by
    conv => lhs; rw [← h]
    rw [toGrayN, Nat.shiftRight_xor_distrib, ← Nat.shiftRight_add, show 1 + (63 - i) = 64 - i by omega]
  have h3 := xor_mod2 (fromGrayN n >>> (63 - i)) (fromGrayN n >>> (64 - i))
  rw [← h2] at h3
  constructor <;> omega
theorem run_start {n : Nat} (hn : n < 2 ^ 64) : fromGrayN n >>> 64 = 0 := by
  rw [Nat.shiftRight_eq_div_pow]; exact Nat.div_eq_of_lt (fg_lt 64 hn)
/-- one turn of the reversal -/
theorem rev_step (n i : Nat) : (revN i n) <<< 1 ||| (n >>> i) % 2 ^ 1 = revN (i + 1) n := by
  refine Nat.eq_of_testBit_eq fun j => ?_
  rw [Nat.testBit_or, Nat.testBit_shiftLeft, testBit_rev, testBit_rev, Nat.testBit_mod_two_pow, Nat.testBit_shiftRight]
  cases j with
  | zero => simp
  | succ j =>
    by_cases h : j < i
    · simp [h, show i - 1 - j = i - (j + 1) by omega]
    · simp [h]
theorem rev_bits (f : Nat → Bool) : revN 32 (ofBits f 32) = ofBits (fun i => f (31 - i)) 32 := by
  refine Nat.eq_of_testBit_eq fun i => ?_
  rw [testBit_rev, testBit_ofBits, testBit_ofBits]
  by_cases h : i < 32 <;> simp [h]
  intro h2; omega
theorem undoR_lt {k y : Nat} (hy : y < 2 ^ 32) : undoRN k y < 2 ^ 32 := by
  have : ∀ m, (List.range m).foldl (fun x i => x ^^^ y >>> (k + i * k)) y < 2 ^ 32 := by
    intro m
    induction m with
    | zero => exact hy
    | succ m ih =>
      rw [List.range_succ, List.foldl_append, List.foldl_cons, List.foldl_nil]
      exact Nat.xor_lt_two_pow ih (Nat.lt_of_le_of_lt (by rw [Nat.shiftRight_eq_div_pow]; exact Nat.div_le_self _ _) hy)
  exact this _
theorem undoL_lt {k y : Nat} (hy : y < 2 ^ 32) : undoLN k y < 2 ^ 32 := by
  have : ∀ m, (List.range m).foldl (fun x i => x ^^^ shl (k + i * k) y) y < 2 ^ 32 := by
    intro m
    induction m with
    | zero => exact hy
    | succ m ih =>
      rw [List.range_succ, List.foldl_append, List.foldl_cons, List.foldl_nil]
      exact Nat.xor_lt_two_pow ih (shl_lt _ _)
  exact this _
end Mine
end
section
open PySem PySem.W PyProof.Rows
namespace Mine
set_option maxRecDepth 100000 in
set_option maxHeartbeats 8000000 in
open_top hd5 for PySem.Challenge.rw_sx_zbitworks_5
end Mine
end
theorem Mine.calm : True := by
  w_top off
  trivial
section
open PySem PySem.W PySem.Spec PySem.Calls PyProof.Rows
set_option maxRecDepth 100000
namespace Mine
abbrev Prog5 : Program := PySem.Challenge.rw_sx_zbitworks_5.row.prog
/-- what a call of the text's own def comes to: Ret says what is known behind it -/
abbrev Con5 (lv : Nat) (w : World) (f : Addr) (vs : List Value) (news : List (Addr × Obj)) (Ret : (Heap → List (Addr × Obj) → Prop) → (Value → Heap → Nat → Prop) → Prop) : Prop :=
  ∀ (p : Program) (loose : List Str) (mean : ExcName → Option Value) (mg mb : Str → Option Value) (dp un : Nat) (gd : Option (List Code)) (cn : Str) (cs : Scope) (a : Addr) (ccd : Value) (cl : List (Str × Addr)) (outer : List Env) (A₀ : Around) (base h₀ : Heap) (L : Addr) (m : Str → Option Value) (s : Shared) (Q E : Value → Shared → Prop),
    Below A₀ base outer h₀ → Fr h₀ L s.heap m → (hd5.heap_39 w.params).In h₀ → News h₀ L s.heap news → Top p loose mean mg mb h₀ → cs.kind = .function → dp + lv < recursionLimit → un + 10 * lv < cLine →
    Ret (fun h' nw => Fr h₀ L h' m ∧ News h₀ L h' nw) (fun v h' tk' => Q v { s with heap := h', toks := tk' }) →
      wpAny (model Prog5 w) (ktrTop dp un gd cn cs L a ccd cl outer) (call (.ref f) vs) Q E s
theorem use5 {lv : Nat} {w : World} {f : Addr} {vs : List Value} {news : List (Addr × Obj)} {Ret : (Heap → List (Addr × Obj) → Prop) → (Value → Heap → Nat → Prop) → Prop} (C : Con5 lv w f vs news Ret)
    {p : Program} {loose : List Str} {mean : ExcName → Option Value} {mg mb : Str → Option Value} {dp un : Nat} {gd : Option (List Code)} {cn : Str} {cs : Scope} {a : Addr} {ccd : Value} {cl : List (Str × Addr)} {outer : List Env} {A₀ : Around} {base h₀ : Heap} {L : Addr} {m : Str → Option Value} {s : Shared} {Q E : Value → Shared → Prop}
    (B : Below A₀ base outer h₀) (F : Fr h₀ L s.heap m) (X : (hd5.heap_39 w.params).In h₀) (N : News h₀ L s.heap news) (T : Top p loose mean mg mb h₀) (hk : cs.kind = .function) (hd : dp + lv < recursionLimit) (hu : un + 10 * lv < cLine)
    (h : Ret (fun h' nw => Fr h₀ L h' m ∧ News h₀ L h' nw) (fun v h' tk' => Q v { s with heap := h', toks := tk' })) :
      wpAny (model Prog5 w) (ktrTop dp un gd cn cs L a ccd cl outer) (call (.ref f) vs) Q E s := C _ _ _ _ _ _ _ _ _ _ _ _ _ _ _ _ _ _ _ _ _ _ B F X N T hk hd hu h

section
variable {prog : Program} {w : World} {A : Around} {E : Value → Shared → Prop} {s : Shared} {Q : Value → Shared → Prop} {n m : Nat} {i : Int} {t u : Tok}
theorem xor_n (h : Q (.int ((n ^^^ m : Nat) : Int) s.toks) { s with toks := s.toks + 1 }) : wpAny (model prog w) A (binaryOp .BitXor (.int (n : Int) t) (.int (m : Int) u)) Q E s :=
  xor_int (by rw [xorI]; exact h)
theorem ixor_n (h : Q (.int ((n ^^^ m : Nat) : Int) s.toks) { s with toks := s.toks + 1 }) : wpAny (model prog w) A (inplaceOp .BitXor (.int (n : Int) t) (.int (m : Int) u)) Q E s :=
  ixor_int (by rw [xorI]; exact h)
theorem or_n (h : Q (.int ((n ||| m : Nat) : Int) s.toks) { s with toks := s.toks + 1 }) : wpAny (model prog w) A (binaryOp .BitOr (.int (n : Int) t) (.int (m : Int) u)) Q E s :=
  or_int (by rw [orI]; exact h)
theorem shl_n (hi : 0 ≤ i) (hi2 : i ≤ 1000) (hn : n < 2 ^ 64) (h : Q (.int ((n <<< i.toNat : Nat) : Int) s.toks) { s with toks := s.toks + 1 }) : wpAny (model prog w) A (binaryOp .LShift (.int (n : Int) t) (.int i u)) Q E s :=
  lshift_int_small hi (by omega) (by omega) (by rw [shlI]; exact h)
theorem shr_n (hi : 0 ≤ i) (h : Q (.int ((n >>> i.toNat : Nat) : Int) s.toks) { s with toks := s.toks + 1 }) : wpAny (model prog w) A (binaryOp .RShift (.int (n : Int) t) (.int i u)) Q E s :=
  rshift_int hi (by rw [shrI]; exact h)
theorem ishr_n (hi : 0 ≤ i) (h : Q (.int ((n >>> i.toNat : Nat) : Int) s.toks) { s with toks := s.toks + 1 }) : wpAny (model prog w) A (inplaceOp .RShift (.int (n : Int) t) (.int i u)) Q E s :=
  irshift_int hi (by rw [shrI]; exact h)
theorem and_n32 (h : Q (.int ((n % 2 ^ 32 : Nat) : Int) s.toks) { s with toks := s.toks + 1 }) : wpAny (model prog w) A (binaryOp .BitAnd (.int (n : Int) t) (.int 4294967295 u)) Q E s :=
  and_int (by rw [show (4294967295 : Int) = ((4294967295 : Nat) : Int) from rfl, andI, show (4294967295 : Nat) = 2 ^ 32 - 1 from rfl, and_mask]; exact h)
theorem and_n1 (h : Q (.int ((n % 2 ^ 1 : Nat) : Int) s.toks) { s with toks := s.toks + 1 }) : wpAny (model prog w) A (binaryOp .BitAnd (.int (n : Int) t) (.int 1 u)) Q E s :=
  and_int (by rw [show (1 : Int) = ((1 : Nat) : Int) from rfl, andI, show (1 : Nat) = 2 ^ 1 - 1 from rfl, and_mask]; exact h)
end
theorem b_xor {a b w : Nat} (ha : a < 2 ^ w) (hb : b < 2 ^ w) : a ^^^ b < 2 ^ w := Nat.xor_lt_two_pow ha hb
theorem b_shr {a k w : Nat} (ha : a < 2 ^ w) : a >>> k < 2 ^ w := Nat.lt_of_le_of_lt (by rw [Nat.shiftRight_eq_div_pow]; exact Nat.div_le_self _ _) ha
theorem b_mod {a : Nat} : a % 2 ^ 32 < 2 ^ 64 := Nat.lt_of_lt_of_le (Nat.mod_lt _ (by decide)) (by decide)
theorem b_up {a : Nat} (h : a < 2 ^ 32) : a < 2 ^ 64 := Nat.lt_of_lt_of_le h (by decide)
end Mine
end
section
open PySem PySem.W PySem.Spec PySem.Calls PyProof.Rows
set_option maxRecDepth 100000
namespace Mine
local macro_rules | `(tactic| walk_at "no such key") => `(tactic| skip)
local macro_rules | `(tactic| walk_at "no such key") => `(tactic| skip)
local macro_rules | `(tactic| walk_at "no such key") => `(tactic| skip)
local macro_rules | `(tactic| walk_at "no such key") => `(tactic| skip)
local macro_rules | `(tactic| walk_at "no such key") => `(tactic| skip)
local macro_rules | `(tactic| walk_at "no such key") => `(tactic| skip)
local macro_rules | `(tactic| walk_at "no such key") => `(tactic| skip)
local macro_rules | `(tactic| walk_at "no such key") => `(tactic| skip)
local macro_rules | `(tactic| walk_at "no such key") => `(tactic| skip)
local macro_rules | `(tactic| walk_at "no such key") => `(tactic| skip)
local macro_rules | `(tactic| walk_at "no such key") => `(tactic| skip)
local macro_rules | `(tactic| walk_at "no such key") => `(tactic| skip)
local macro_rules | `(tactic| walk_at "no such key") => `(tactic| skip)
local macro_rules | `(tactic| walk_at "no such key") => `(tactic| skip)
local macro_rules | `(tactic| walk_at "no such key") => `(tactic| skip)
local macro_rules | `(tactic| walk_at "no such key") => `(tactic| skip)
local macro_rules | `(tactic| walk_at "no such key") => `(tactic| skip)
local macro_rules | `(tactic| walk_at "no such key") => `(tactic| skip)
local macro_rules | `(tactic| walk_at "no such key") => `(tactic| skip)
local macro_rules | `(tactic| walk_at "no such key") => `(tactic| skip)
local macro_rules | `(tactic| walk_at "no such key") => `(tactic| skip)
local macro_rules | `(tactic| walk_at "no such key") => `(tactic| skip)
local macro_rules | `(tactic| walk_at "no such key") => `(tactic| skip)
local macro_rules | `(tactic| walk_at "no such key") => `(tactic| skip)
local macro_rules | `(tactic| walk_at "no such key") => `(tactic| skip)
local macro_rules | `(tactic| walk_at "no such key") => `(tactic| skip)
local macro_rules | `(tactic| walk_at "no such key") => `(tactic| skip)
local macro_rules | `(tactic| walk_at "no such key") => `(tactic| skip)
local macro_rules | `(tactic| walk_at "no such key") => `(tactic| skip)
local macro_rules | `(tactic| walk_at "no such key") => `(tactic| skip)
local macro_rules | `(tactic| walk_at "no such key") => `(tactic| skip)
local macro_rules | `(tactic| walk_at "no such key") => `(tactic| skip)
local macro_rules | `(tactic| walk_at "no such key") => `(tactic| skip)
local macro_rules | `(tactic| walk_at "no such key") => `(tactic| skip)
local macro_rules | `(tactic| walk_at "no such key") => `(tactic| skip)
local macro_rules | `(tactic| walk_at "no such key") => `(tactic| skip)
local macro_rules | `(tactic| walk_at "no such key") => `(tactic| skip)
local macro_rules | `(tactic| walk_at "no such key") => `(tactic| skip)
local macro_rules | `(tactic| walk_at "no such key") => `(tactic| skip)
local macro_rules | `(tactic| walk_at "no such key") => `(tactic| skip)
local macro_rules | `(tactic| walk_at "no such key") => `(tactic| skip)
local macro_rules | `(tactic| walk_at "no such key") => `(tactic| skip)
local macro_rules | `(tactic| walk_at "no such key") => `(tactic| skip)
local macro_rules | `(tactic| walk_at "no such key") => `(tactic| skip)
local macro_rules | `(tactic| walk_at "no such key") => `(tactic| skip)
local macro_rules | `(tactic| walk_at "no such key") => `(tactic| skip)
local macro_rules | `(tactic| walk_at "no such key") => `(tactic| skip)
local macro_rules | `(tactic| walk_at "no such key") => `(tactic| skip)
local macro_rules | `(tactic| walk_at "no such key") => `(tactic| skip)
local macro_rules | `(tactic| walk_at "no such key") => `(tactic| skip)
local macro_rules | `(tactic| walk_at "no such key") => `(tactic| skip)
local macro_rules | `(tactic| walk_at "no such key") => `(tactic| skip)
local macro_rules | `(tactic| walk_at "no such key") => `(tactic| skip)
local macro_rules | `(tactic| walk_at "no such key") => `(tactic| skip)
local macro_rules | `(tactic| walk_at "no such key") => `(tactic| skip)
local macro_rules | `(tactic| walk_at "no such key") => `(tactic| skip)
local macro_rules | `(tactic| walk_at "no such key") => `(tactic| skip)
local macro_rules | `(tactic| walk_at "no such key") => `(tactic| skip)
local macro_rules | `(tactic| walk_at "no such key") => `(tactic| skip)
local macro_rules | `(tactic| walk_at "no such key") => `(tactic| skip)
-- own lines of the walk: ints that are casts stay casts
local macro_rules | `(tactic| walk_at "binaryOp BitXor int int") => `(tactic| ((with_reducible refine xor_n ?_)))
local macro_rules | `(tactic| walk_at "inplaceOp BitXor int int") => `(tactic| ((with_reducible refine ixor_n ?_)))
local macro_rules | `(tactic| walk_at "binaryOp BitOr int int") => `(tactic| ((with_reducible refine or_n ?_)))
local macro_rules | `(tactic| walk_at "binaryOp LShift int int") => `(tactic| ((with_reducible refine shl_n ?k1 ?k2 ?k3 ?_); (case k1 => decide); (case k2 => decide); (case k3 => (repeat' (first | assumption | exact b_mod | exact b_up (by assumption) | with_reducible refine b_xor ?_ ?_ | with_reducible refine b_shr ?_)))))
local macro_rules | `(tactic| walk_at "binaryOp RShift int int") => `(tactic| ((with_reducible refine shr_n ?k1 ?_); (case k1 => decide)))
local macro_rules | `(tactic| walk_at "inplaceOp RShift int int") => `(tactic| ((with_reducible refine ishr_n ?k1 ?_); (case k1 => decide)))
local macro_rules | `(tactic| walk_at "binaryOp BitAnd int int") => `(tactic| first | (with_reducible refine and_n32 ?_) | (with_reducible refine and_n1 ?_))
-- the premises of a contract's use
local macro_rules | `(tactic| ktr_rel) => `(tactic| ((case k1 => k_asm); (case k2 => k_asm); (case k3 => k_asm); (case k4 => k_asm); (case k5 => k_asm); (case kK => first | exact rfl | assumption); (case kd => ktr_room); (case ku => ktr_units)))
set_option maxHeartbeats 8000000 in
theorem c_mask32 (w : World) (news : List (Addr × Obj)) (tk : Tok) :
    Con5 1 w 21 [.int 32 tk] news (fun K Q => ∀ t h' tk', K h' news → Q (.int 4294967295 t) h' tk') := by
  delta Con5 Prog5; k_fill
  k_with_none
  intro p loose mean mg mb dp un gd cn cs a ccd cl outer A₀ base h₀ L m s Q E B F X N T hk hd hu hret
  refine wpAny_call ?_
  k_dflt cell_enter
  k_steps
  exact hret _ _ _ ⟨by k_asm, by k_asm⟩
set_option maxHeartbeats 8000000 in
theorem c_to_gray (w : World) (news : List (Addr × Obj)) (n : Nat) (tk : Tok) :
    Con5 1 w 42 [.int (n : Int) tk] news (fun K Q => ∀ t h' tk', K h' news → Q (.int ((toGrayN n : Nat) : Int) t) h' tk') := by
  delta Con5 Prog5; k_fill
  k_with_none
  intro p loose mean mg mb dp un gd cn cs a ccd cl outer A₀ base h₀ L m s Q E B F X N T hk hd hu hret
  refine wpAny_call ?_
  k_dflt cell_enter
  k_steps
  exact hret _ _ _ ⟨by k_asm, by k_asm⟩
set_option maxHeartbeats 8000000 in
theorem c_parity (w : World) (news : List (Addr × Obj)) (n : Nat) (tk : Tok) :
    Con5 1 w 28 [.int (n : Int) tk] news (fun K Q => ∀ t h' tk', K h' news → Q (.int ((parityN n : Nat) : Int) t) h' tk') := by
  delta Con5 Prog5; k_fill
  k_with_none
  intro p loose mean mg mb dp un gd cn cs a ccd cl outer A₀ base h₀ L m s Q E B F X N T hk hd hu hret
  refine wpAny_call ?_
  k_dflt cell_enter
  k_steps
  exact hret _ _ _ ⟨by k_asm, by k_asm⟩
local macro_rules | `(tactic| walk_at "call ref") => `(tactic| (k_here; (with_reducible show wpAny _ _ (call (Value.ref 21) [Value.int 32 _]) _ _ _); k_dflt (refine' use5 (c_mask32 _ _ _) ?k1 ?k2 ?k3 ?k4 ?k5 ?kK ?kd ?ku ?_; ktr_rel; intro t9 h9 tk9 ⟨F9, N9⟩; (try dsimp only); (try k_fold))))
set_option maxHeartbeats 8000000 in
theorem c_xorshift (w : World) (news : List (Addr × Obj)) (n : Nat) (tk : Tok) (hn : n < 2 ^ 32) :
    Con5 2 w 56 [.int (n : Int) tk] news (fun K Q => ∀ t h' tk', K h' news → Q (.int ((stepN n : Nat) : Int) t) h' tk') := by
  delta Con5 Prog5; k_fill
  k_with_none
  intro p loose mean mg mb dp un gd cn cs a ccd cl outer A₀ base h₀ L m s Q E B F X N T hk hd hu hret
  refine wpAny_call ?_
  k_dflt cell_enter
  k_steps
  exact hret _ _ _ ⟨by k_asm, by k_asm⟩
end Mine
end
section
open PySem PySem.W PySem.Spec PySem.Calls PyProof.Rows PyProof.V
set_option maxRecDepth 100000
namespace Mine
/-- what holds ahead of turn i: the ledger, some names of the frame, some facts, by letters c -/
abbrev At {σ : Type} (Led : Nat → σ → List (Addr × Obj)) (ps : Nat → σ → List (Str × Value)) (Facts : Nat → σ → Prop) (x : Str) (stored : List Str) (m₀ : Str → Option Value) (i : Nat) : (Str → Option Value) → List (Addr × Obj) → Prop :=
  KstS (Led i) (ps i) (Facts i) x stored m₀ (fun _ _ => True) []
section
variable {prog : Program} {w : World} {A : Around} {E : Value → Shared → Prop} {s : Shared} {env : Env} {h₀ : Heap} {x : Str} {body : List Stmt} {Q : Flow → Shared → Prop}
/-- a loop over a range of any step, by what holds ahead of each turn -/
theorem loopR {σ : Type} {r : Addr} {a₀ b₀ c₀ : Int} {t₀ u₀ v₀ : Tok} {n : Nat} {m₀ : Str → Option Value} (Led : Nat → σ → List (Addr × Obj)) (ps : Nat → σ → List (Str × Value)) (Facts : Nat → σ → Prop) (stored : List Str) (c : σ)
    (hh : A.handled = none) (hr : IsRange s.heap r a₀ b₀ c₀ t₀ u₀ v₀) (hsmall : Builtin.Range.small a₀ b₀ c₀ = true) (hn : Builtin.Range.rangeSize a₀ b₀ c₀ = (n : Int)) (F : Fr h₀ env.locals s.heap m₀) (N : News h₀ env.locals s.heap (Led 0 c)) (hf : Facts 0 c) (hk : ∀ p ∈ ps 0 c, m₀ p.1 = some p.2)
    (turn : ∀ (i : Nat) (c' : σ) t (u : Str → Option Value) h tk own, i < n → OwnOff own ((Led 0 c).map (·.1)) → Facts i c' →
      Fr h₀ env.locals h (fun y => if y = x then some (.int (a₀ + (i : Int) * c₀) t) else kstB (fun z => if stored.contains z then u z else m₀ z) (ps i c') y) → News h₀ env.locals h (Led i c' ++ own) →
      wpAny (model prog w) A (execs body env) (InvPostN h₀ env.locals (At Led ps Facts x stored m₀ (i + 1)) own ((Led 0 c).map (·.1)) { s with heap := h, toks := tk } Q) E { s with heap := h, toks := tk })
    (done : ∀ (c' : σ) (u : Str → Option Value) h tk, Facts n c' → Fr h₀ env.locals h (fun y => if y = x then u y else kstB (fun z => if stored.contains z then u z else m₀ z) (ps n c') y) → News h₀ env.locals h (Led n c') → Q .next { s with heap := h, toks := tk }) :
    wpAny (model prog w) A (pyIter (.ref r)) (fun it s₂ => LoopAtV prog w A h₀ env x body Q E it s₂) E s := by
  refine wpAny_pyIter_range hr hsmall ?_
  have W : Walks prog w A s.heap.objs.size [s.heap.objs.size] [s.heap.objs.size] n (fun i v => i < n ∧ ∃ t, v = .int (a₀ + i * c₀) t)
      (fun i h => IsRangeIter h s.heap.objs.size (a₀ + (i : Nat) * c₀) ((n : Int) - (i : Nat)) c₀) := (Walks.range hh _ a₀ c₀ n).bound
  refine loop_invN (fun i m nx => At Led ps Facts x stored m₀ i m nx) W ?_ ?_ ?_ ?_ (by show IsRangeIter _ _ _ _ _; rw [hn]; simpa using Heap.get?_push_size _ rfl) (F.push _) (fun p hp => ⟨Heap.get?_push_of_some _ (N p hp).1, (N p hp).2⟩) ⟨c, rfl, hf, hk, fun _ _ _ _ => rfl, trivial⟩ ?_ ?_
  · intro hm
    exact absurd F.ns.lt ((List.mem_singleton.mp hm) ▸ Nat.lt_irrefl _)
  · intro b hb
    rw [List.mem_singleton.mp hb]
    exact next_is_new F
  · intro p hp hI
    exact absurd (Heap.lt_size (N p hp).1) ((List.mem_singleton.mp hI) ▸ Nat.lt_irrefl _)
  · intro p hp hI
    exact absurd (Heap.lt_size (N p hp).1) ((List.mem_singleton.mp hI) ▸ Nat.lt_irrefl _)
  · rintro i v m₁ nx h tk own hi ⟨_, t, rfl⟩ _ hoff ⟨c', rfl, hf', h1, h2, _⟩ F₁ N₁
    exact turn i c' t m₁ h tk own hi hoff hf' (kst_fr h1 h2 F₁) N₁
  · rintro m₁ nx h tk ⟨c', rfl, hf', h1, h2, _⟩ F₁ N₁
    exact done c' m₁ h tk hf' (kst_frOut h1 h2 F₁) N₁
end
end Mine
end
section
open PySem PySem.W PySem.Spec PySem.Calls PyProof.Rows
set_option maxRecDepth 100000
namespace Mine
-- own lines of the walk: ints that are casts stay casts
local macro_rules | `(tactic| walk_at "binaryOp BitXor int int") => `(tactic| ((with_reducible refine xor_n ?_)))
local macro_rules | `(tactic| walk_at "inplaceOp BitXor int int") => `(tactic| ((with_reducible refine ixor_n ?_)))
local macro_rules | `(tactic| walk_at "binaryOp BitOr int int") => `(tactic| ((with_reducible refine or_n ?_)))
local macro_rules | `(tactic| walk_at "binaryOp LShift int int") => `(tactic| ((with_reducible refine shl_n ?k1 ?k2 ?k3 ?_); (case k1 => decide); (case k2 => decide); (case k3 => (repeat' (first | assumption | exact b_mod | exact b_up (by assumption) | with_reducible refine b_xor ?_ ?_ | with_reducible refine b_shr ?_)))))
local macro_rules | `(tactic| walk_at "binaryOp RShift int int") => `(tactic| ((with_reducible refine shr_n ?k1 ?_); (case k1 => first | decide | omega)))
local macro_rules | `(tactic| walk_at "inplaceOp RShift int int") => `(tactic| ((with_reducible refine ishr_n ?k1 ?_); (case k1 => first | decide | omega)))
local macro_rules | `(tactic| walk_at "binaryOp BitAnd int int") => `(tactic| first | (with_reducible refine and_n32 ?_) | (with_reducible refine and_n1 ?_))
-- the premises of a contract's use
local macro_rules | `(tactic| ktr_rel) => `(tactic| ((case k1 => k_asm); (case k2 => k_asm); (case k3 => k_asm); (case k4 => k_asm); (case k5 => k_asm); (case kK => first | exact rfl | assumption); (case kd => ktr_room); (case ku => ktr_units)))
def undoRi (k n i : Nat) : Nat := (List.range i).foldl (fun x j => x ^^^ n >>> (k + j * k)) n
theorem undoRi_succ (k n i : Nat) : undoRi k n (i + 1) = undoRi k n i ^^^ n >>> (k + i * k) := by
  unfold undoRi; rw [List.range_succ, List.foldl_append, List.foldl_cons, List.foldl_nil]
theorem toNat_turn (k i : Nat) : ((k : Int) + (i : Int) * (k : Int)).toNat = k + i * k := by
  have : (k : Int) + (i : Int) * (k : Int) = ((k + i * k : Nat) : Int) := by push_cast; rfl
  rw [this]; rfl
theorem turn_nonneg (k i : Nat) : 0 ≤ (k : Int) + (i : Int) * (k : Int) := by
  have : (k : Int) + (i : Int) * (k : Int) = ((k + i * k : Nat) : Int) := by push_cast; rfl
  rw [this]; omega
theorem size_turns {k : Nat} (h1 : 1 ≤ k) (h2 : k ≤ 31) : Builtin.Range.rangeSize (k : Int) 32 (k : Int) = (turns k : Nat) := by
  have h : ∀ k, k < 32 → 1 ≤ k → Builtin.Range.rangeSize ((k : Nat) : Int) 32 ((k : Nat) : Int) = ((turns k : Nat) : Int) := by decide +kernel
  exact h k (by omega) h1
theorem small_turns {k : Nat} (h1 : 1 ≤ k) (h2 : k ≤ 31) : Builtin.Range.small (k : Int) 32 (k : Int) = true := by
  have h : ∀ k, k < 32 → 1 ≤ k → Builtin.Range.small ((k : Nat) : Int) 32 ((k : Nat) : Int) = true := by decide +kernel
  exact h k (by omega) h1
local macro_rules | `(tactic| walk_at "binaryOp RShift int int") => `(tactic| ((with_reducible refine shr_n ?k1 ?_); (case k1 => exact turn_nonneg _ _)))
set_option maxHeartbeats 8000000 in
theorem c_undo_right (w : World) (news : List (Addr × Obj)) (n : Nat) (k : Nat) (tk tk2 : Tok) (h1 : 1 ≤ k) (h2 : k ≤ 31) :
    Con5 1 w 70 [.int (n : Int) tk, .int (k : Int) tk2] news (fun K Q => ∀ t h' tk', K h' news → Q (.int ((undoRN k n : Nat) : Int) t) h' tk') := by
  delta Con5 Prog5; k_fill
  k_with_none
  intro p loose mean mg mb dp un gd cn cs a ccd cl outer A₀ base h₀ L m s Q E B F X N T hk hd hu hret
  refine wpAny_call ?_
  k_dflt cell_enter
  k_steps
  rename Fr _ _ _ _ => lF
  rename News _ _ _ _ => lN
  rename IsRange _ _ _ _ _ _ _ _ => rg
  with_unfolding_all refine' loopR (σ := Tok) (n := turns k) (fun _ _ => news) (fun i t => [(Str.ofString "x", .int ((undoRi k n i : Nat) : Int) t)]) (fun _ _ => True) [] _ (by rfl) rg (small_turns h1 h2) (size_turns h1 h2) lF lN trivial ?hk ?turn ?done
  case hk => kst_all
  case turn =>
    intro i c' t' u' h' tk' own' hi hoff _ F' N'
    dsimp only [kstB] at F'
    clear lF lN rg
    try k_fold
    k_steps
    refine' kst_end (c := ?c) ?e1 ?e2 (fun p hp => List.mem_append.mpr (.inl hp)) (fun p hp => List.mem_append.mpr (.inr hp)) rfl trivial (List.forall_mem_cons.mpr ⟨?e3, List.forall_mem_nil _⟩) ?e4 trivial
    case e1 => k_asm
    case e2 => k_asm
    case e3 =>
      show _ = some (Value.int ((undoRi k n (i + 1) : Nat) : Int) _)
      rw [undoRi_succ, ← toNat_turn]
      rfl
    case e4 => kst_same
  case done =>
    intro c' u' h' tk' _ F' N'
    dsimp only [kstB] at F'
    clear lF lN rg
    try k_fold
    k_steps
    exact hret _ _ _ ⟨by k_asm, by k_asm⟩
end Mine
end
section
open PySem PySem.W PySem.Spec PySem.Calls PyProof.Rows
set_option maxRecDepth 100000
namespace Mine
local macro_rules | `(tactic| walk_at "no such key") => `(tactic| skip)
local macro_rules | `(tactic| walk_at "no such key") => `(tactic| skip)
local macro_rules | `(tactic| walk_at "no such key") => `(tactic| skip)
local macro_rules | `(tactic| walk_at "no such key") => `(tactic| skip)
local macro_rules | `(tactic| walk_at "no such key") => `(tactic| skip)
local macro_rules | `(tactic| walk_at "no such key") => `(tactic| skip)
local macro_rules | `(tactic| walk_at "no such key") => `(tactic| skip)
local macro_rules | `(tactic| walk_at "no such key") => `(tactic| skip)
local macro_rules | `(tactic| walk_at "no such key") => `(tactic| skip)
local macro_rules | `(tactic| walk_at "no such key") => `(tactic| skip)
local macro_rules | `(tactic| walk_at "no such key") => `(tactic| skip)
local macro_rules | `(tactic| walk_at "no such key") => `(tactic| skip)
local macro_rules | `(tactic| walk_at "no such key") => `(tactic| skip)
local macro_rules | `(tactic| walk_at "no such key") => `(tactic| skip)
local macro_rules | `(tactic| walk_at "no such key") => `(tactic| skip)
local macro_rules | `(tactic| walk_at "no such key") => `(tactic| skip)
local macro_rules | `(tactic| walk_at "no such key") => `(tactic| skip)
local macro_rules | `(tactic| walk_at "no such key") => `(tactic| skip)
local macro_rules | `(tactic| walk_at "no such key") => `(tactic| skip)
local macro_rules | `(tactic| walk_at "no such key") => `(tactic| skip)
local macro_rules | `(tactic| walk_at "no such key") => `(tactic| skip)
local macro_rules | `(tactic| walk_at "no such key") => `(tactic| skip)
local macro_rules | `(tactic| walk_at "no such key") => `(tactic| skip)
local macro_rules | `(tactic| walk_at "no such key") => `(tactic| skip)
local macro_rules | `(tactic| walk_at "no such key") => `(tactic| skip)
local macro_rules | `(tactic| walk_at "no such key") => `(tactic| skip)
local macro_rules | `(tactic| walk_at "no such key") => `(tactic| skip)
local macro_rules | `(tactic| walk_at "no such key") => `(tactic| skip)
local macro_rules | `(tactic| walk_at "no such key") => `(tactic| skip)
local macro_rules | `(tactic| walk_at "no such key") => `(tactic| skip)
local macro_rules | `(tactic| walk_at "no such key") => `(tactic| skip)
local macro_rules | `(tactic| walk_at "no such key") => `(tactic| skip)
local macro_rules | `(tactic| walk_at "no such key") => `(tactic| skip)
local macro_rules | `(tactic| walk_at "no such key") => `(tactic| skip)
local macro_rules | `(tactic| walk_at "no such key") => `(tactic| skip)
local macro_rules | `(tactic| walk_at "no such key") => `(tactic| skip)
local macro_rules | `(tactic| walk_at "no such key") => `(tactic| skip)
local macro_rules | `(tactic| walk_at "no such key") => `(tactic| skip)
local macro_rules | `(tactic| walk_at "no such key") => `(tactic| skip)
local macro_rules | `(tactic| walk_at "no such key") => `(tactic| skip)
local macro_rules | `(tactic| walk_at "no such key") => `(tactic| skip)
local macro_rules | `(tactic| walk_at "no such key") => `(tactic| skip)
local macro_rules | `(tactic| walk_at "no such key") => `(tactic| skip)
local macro_rules | `(tactic| walk_at "no such key") => `(tactic| skip)
local macro_rules | `(tactic| walk_at "no such key") => `(tactic| skip)
local macro_rules | `(tactic| walk_at "no such key") => `(tactic| skip)
local macro_rules | `(tactic| walk_at "no such key") => `(tactic| skip)
local macro_rules | `(tactic| walk_at "no such key") => `(tactic| skip)
local macro_rules | `(tactic| walk_at "no such key") => `(tactic| skip)
local macro_rules | `(tactic| walk_at "no such key") => `(tactic| skip)
local macro_rules | `(tactic| walk_at "no such key") => `(tactic| skip)
local macro_rules | `(tactic| walk_at "no such key") => `(tactic| skip)
local macro_rules | `(tactic| walk_at "no such key") => `(tactic| skip)
local macro_rules | `(tactic| walk_at "no such key") => `(tactic| skip)
local macro_rules | `(tactic| walk_at "no such key") => `(tactic| skip)
local macro_rules | `(tactic| walk_at "no such key") => `(tactic| skip)
local macro_rules | `(tactic| walk_at "no such key") => `(tactic| skip)
local macro_rules | `(tactic| walk_at "no such key") => `(tactic| skip)
local macro_rules | `(tactic| walk_at "no such key") => `(tactic| skip)
local macro_rules | `(tactic| walk_at "no such key") => `(tactic| skip)
-- own lines of the walk: ints that are casts stay casts
local macro_rules | `(tactic| walk_at "binaryOp BitXor int int") => `(tactic| ((with_reducible refine xor_n ?_)))
local macro_rules | `(tactic| walk_at "inplaceOp BitXor int int") => `(tactic| ((with_reducible refine ixor_n ?_)))
local macro_rules | `(tactic| walk_at "binaryOp BitOr int int") => `(tactic| ((with_reducible refine or_n ?_)))
local macro_rules | `(tactic| walk_at "binaryOp LShift int int") => `(tactic| ((with_reducible refine shl_n ?k1 ?k2 ?k3 ?_); (case k1 => decide); (case k2 => decide); (case k3 => (repeat' (first | assumption | exact b_mod | exact b_up (by assumption) | with_reducible refine b_xor ?_ ?_ | with_reducible refine b_shr ?_)))))
local macro_rules | `(tactic| walk_at "binaryOp RShift int int") => `(tactic| ((with_reducible refine shr_n ?k1 ?_); (case k1 => first | decide | omega)))
local macro_rules | `(tactic| walk_at "inplaceOp RShift int int") => `(tactic| ((with_reducible refine ishr_n ?k1 ?_); (case k1 => first | decide | omega)))
local macro_rules | `(tactic| walk_at "binaryOp BitAnd int int") => `(tactic| first | (with_reducible refine and_n32 ?_) | (with_reducible refine and_n1 ?_))
-- the premises of a contract's use
local macro_rules | `(tactic| ktr_rel) => `(tactic| ((case k1 => k_asm); (case k2 => k_asm); (case k3 => k_asm); (case k4 => k_asm); (case k5 => k_asm); (case kK => first | exact rfl | assumption); (case kd => ktr_room); (case ku => ktr_units)))
local macro_rules | `(tactic| walk_at "call ref") => `(tactic| (k_here; (with_reducible show wpAny _ _ (call (Value.ref 21) [Value.int 32 _]) _ _ _); k_dflt (refine' use5 (c_mask32 _ _ _) ?k1 ?k2 ?k3 ?k4 ?k5 ?kK ?kd ?ku ?_; ktr_rel; intro t9 h9 tk9 ⟨F9, N9⟩; (try dsimp only); (try k_fold))))
def undoLi (k n i : Nat) : Nat := (List.range i).foldl (fun x j => x ^^^ shl (k + j * k) n) n
theorem undoLi_succ (k n i : Nat) : undoLi k n (i + 1) = undoLi k n i ^^^ shl (k + i * k) n := by
  unfold undoLi; rw [List.range_succ, List.foldl_append, List.foldl_cons, List.foldl_nil]
theorem undoLi_lt {k n : Nat} (hn : n < 2 ^ 32) : ∀ i, undoLi k n i < 2 ^ 32
  | 0 => hn
  | i + 1 => by rw [undoLi_succ]; exact Nat.xor_lt_two_pow (undoLi_lt hn i) (shl_lt _ _)
theorem turn_le {k i : Nat} (h2 : k ≤ 31) (hi : i < turns k) : k + i * k ≤ 1000 := by
  have h3 : turns k ≤ 31 := Nat.div_le_self _ _
  have h4 : i * k ≤ 31 * 31 := Nat.mul_le_mul (by omega) h2
  omega
theorem fits_l {y : Int} {k i : Nat} (hb : Builtin.Int.intBits y ≤ 1100000) (h2 : k ≤ 31) (hi : i < turns k) : (Builtin.Int.intBits y : Int) + ((k : Int) + (i : Int) * (k : Int)) ≤ 2 ^ 27 := by
  have h := turn_le h2 hi
  have e : (k : Int) + (i : Int) * (k : Int) = ((k + i * k : Nat) : Int) := by push_cast; rfl
  rw [e]
  have e2 : (2 : Int) ^ 27 = 134217728 := by decide
  rw [e2]
  omega
local macro_rules | `(tactic| walk_at "binaryOp LShift int int") => `(tactic| ((with_reducible refine lshift_int ?k1 ?k2 ?_); (case k1 => exact turn_nonneg _ _); (case k2 => exact fits_l (by assumption) (by assumption) (by assumption))))
local macro_rules | `(tactic| walk_at "binaryOp BitAnd int int") => `(tactic| (with_reducible refine and_int ?_))
local macro_rules | `(tactic| walk_at "inplaceOp BitXor int int") => `(tactic| (with_reducible refine ixor_int ?_))
set_option maxHeartbeats 8000000 in
theorem c_undo_left (w : World) (news : List (Addr × Obj)) (y H : Int) (l : Nat) (k : Nat) (tk tk2 : Tok) (hy : y = 4294967296 * H + (l : Int)) (hl : l < 2 ^ 32) (hb : Builtin.Int.intBits y ≤ 1100000) (h1 : 1 ≤ k) (h2 : k ≤ 31) :
    Con5 2 w 63 [.int y tk, .int (k : Int) tk2] news (fun K Q => ∀ t h' tk', K h' news → Q (.int (4294967296 * H + ((undoLN k l : Nat) : Int)) t) h' tk') := by
  delta Con5 Prog5; k_fill
  k_with_none
  intro p loose mean mg mb dp un gd cn cs a ccd cl outer A₀ base h₀ L m s Q E B F X N T hk hd hu hret
  refine wpAny_call ?_
  k_dflt cell_enter
  k_steps
  rename Fr _ _ _ _ => lF
  rename News _ _ _ _ => lN
  rename IsRange _ _ _ _ _ _ _ _ => rg
  with_unfolding_all refine' loopR (σ := Tok) (n := turns k) (fun _ _ => news) (fun i t => [(Str.ofString "x", .int (4294967296 * H + ((undoLi k l i : Nat) : Int)) t)]) (fun _ _ => True) [] _ (by rfl) rg (small_turns h1 h2) (size_turns h1 h2) lF lN trivial ?hk ?turn ?done
  case hk => subst hy; kst_all
  case turn =>
    intro i c' t' u' h' tk' own' hi hoff _ F' N'
    dsimp only [kstB] at F'
    clear lF lN rg
    try k_fold
    k_steps
    refine' kst_end (c := ?c) ?e1 ?e2 (fun p hp => List.mem_append.mpr (.inl hp)) (fun p hp => List.mem_append.mpr (.inr hp)) rfl trivial (List.forall_mem_cons.mpr ⟨?e3, List.forall_mem_nil _⟩) ?e4 trivial
    case e1 => k_asm
    case e2 => k_asm
    case e3 =>
      show _ = some (Value.int (4294967296 * H + ((undoLi k l (i + 1) : Nat) : Int)) _)
      rw [undoLi_succ, ← turnL H (l := l) (k + i * k) (undoLi_lt hl i), ← hy, ← toNat_turn]
      rfl
    case e4 => kst_same
  case done =>
    intro c' u' h' tk' _ F' N'
    dsimp only [kstB] at F'
    clear lF lN rg
    try k_fold
    k_steps
    exact hret _ _ _ ⟨by k_asm, by k_asm⟩
end Mine
end
section
open PySem PySem.W PySem.Spec PySem.Calls PyProof.Rows
set_option maxRecDepth 100000
namespace Mine
-- own lines of the walk: ints that are casts stay casts
local macro_rules | `(tactic| walk_at "binaryOp BitXor int int") => `(tactic| ((with_reducible refine xor_n ?_)))
local macro_rules | `(tactic| walk_at "inplaceOp BitXor int int") => `(tactic| ((with_reducible refine ixor_n ?_)))
local macro_rules | `(tactic| walk_at "binaryOp BitOr int int") => `(tactic| ((with_reducible refine or_n ?_)))
local macro_rules | `(tactic| walk_at "binaryOp LShift int int") => `(tactic| ((with_reducible refine shl_n ?k1 ?k2 ?k3 ?_); (case k1 => decide); (case k2 => decide); (case k3 => (repeat' (first | assumption | exact b_mod | exact b_up (by assumption) | with_reducible refine b_xor ?_ ?_ | with_reducible refine b_shr ?_)))))
local macro_rules | `(tactic| walk_at "binaryOp RShift int int") => `(tactic| ((with_reducible refine shr_n ?k1 ?_); (case k1 => first | decide | omega)))
local macro_rules | `(tactic| walk_at "inplaceOp RShift int int") => `(tactic| ((with_reducible refine ishr_n ?k1 ?_); (case k1 => first | decide | omega)))
local macro_rules | `(tactic| walk_at "binaryOp BitAnd int int") => `(tactic| first | (with_reducible refine and_n32 ?_) | (with_reducible refine and_n1 ?_))
-- the premises of a contract's use
local macro_rules | `(tactic| ktr_rel) => `(tactic| ((case k1 => k_asm); (case k2 => k_asm); (case k3 => k_asm); (case k4 => k_asm); (case k5 => k_asm); (case kK => first | exact rfl | assumption); (case kd => ktr_room); (case ku => ktr_units)))
local macro_rules | `(tactic| walk_at "call ref") => `(tactic| (k_here; (with_reducible show wpAny _ _ (call (Value.ref 21) [Value.int 32 _]) _ _ _); k_dflt (refine' use5 (c_mask32 _ _ _) ?k1 ?k2 ?k3 ?k4 ?k5 ?kK ?kd ?ku ?_; ktr_rel; intro t9 h9 tk9 ⟨F9, N9⟩; (try dsimp only); (try k_fold))))
-- the walk up to the next loop
local macro_rules | `(tactic| ktr_unf) => `(tactic| repeat' (first | (k_unfold; (try dsimp only)) | ((fail_if_success (with_reducible show wpAny _ _ (pyIter (Value.ref _)) _ _ _)); (fail_if_success (with_reducible show wpAny _ _ (exec (Stmt.While _ _ _ _) _) _ _ _)); first | (k_end; wrow_close) | walk1 | (dsimp only; walk1) | (leave1; (try dsimp only))) | fail "no step"))
theorem b_rev {i n : Nat} (hi : i < 32) : revN i n < 2 ^ 64 := Nat.lt_of_lt_of_le (rev_lt i n) (Nat.pow_le_pow_right (by decide) (by omega))
theorem small32 : Builtin.Range.small 0 32 1 = true := by decide +kernel
theorem size32 : Builtin.Range.rangeSize 0 32 1 = ((32 : Nat) : Int) := by decide +kernel
theorem small64 : Builtin.Range.small 0 64 1 = true := by decide +kernel
theorem size64 : Builtin.Range.rangeSize 0 64 1 = ((64 : Nat) : Int) := by decide +kernel
theorem shr_one (n i : Nat) : n >>> i >>> (1 : Int).toNat = n >>> (i + 1) := rfl
local macro_rules | `(tactic| walk_at "binaryOp LShift int int") => `(tactic| ((with_reducible refine shl_n ?k1 ?k2 ?k3 ?_); (case k1 => decide); (case k2 => decide); (case k3 => exact b_rev (by assumption))))
set_option maxHeartbeats 8000000 in
theorem c_reversed (w : World) (news : List (Addr × Obj)) (n : Nat) (tk tk2 : Tok) :
    Con5 1 w 35 [.int (n : Int) tk, .int 32 tk2] news (fun K Q => ∀ t h' tk', K h' news → Q (.int ((revN 32 n : Nat) : Int) t) h' tk') := by
  delta Con5 Prog5; k_fill
  k_with_none
  intro p loose mean mg mb dp un gd cn cs a ccd cl outer A₀ base h₀ L m s Q E B F X N T hk hd hu hret
  refine wpAny_call ?_
  k_dflt cell_enter
  ktr_unf
  rename Fr _ _ _ _ => lF
  rename News _ _ _ _ => lN
  rename IsRange _ _ _ _ _ _ _ _ => rg
  with_unfolding_all refine' loopR (σ := Tok × Tok) (n := 32) (fun _ _ => news) (fun i t => [(Str.ofString "result", .int ((revN i n : Nat) : Int) t.1), (Str.ofString "n", .int ((n >>> i : Nat) : Int) t.2)]) (fun _ _ => True) [] (_, _) (by rfl) rg small32 size32 lF lN trivial ?hk ?turn ?done
  case hk => kst_all
  case turn =>
    intro i c' t' u' h' tk' own' hi hoff _ F' N'
    dsimp only [kstB] at F'
    clear lF lN rg
    try k_fold
    k_steps
    refine' kst_end (c := (?c, ?d)) ?e1 ?e2 (fun p hp => List.mem_append.mpr (.inl hp)) (fun p hp => List.mem_append.mpr (.inr hp)) rfl trivial (List.forall_mem_cons.mpr ⟨?e3, List.forall_mem_cons.mpr ⟨?e5, List.forall_mem_nil _⟩⟩) ?e4 trivial
    case e1 => k_asm
    case e2 => k_asm
    case e3 =>
      show _ = some (Value.int ((revN (i + 1) n : Nat) : Int) _)
      rw [← rev_step]
      rfl
    case e5 => rfl
    case e4 => kst_same
  case done =>
    intro c' u' h' tk' _ F' N'
    dsimp only [kstB] at F'
    clear lF lN rg
    try k_fold
    k_steps
    exact hret _ _ _ ⟨by k_asm, by k_asm⟩
set_option maxHeartbeats 8000000 in
theorem c_from_gray (w : World) (news : List (Addr × Obj)) (n : Nat) (tk : Tok) (hn : n < 2 ^ 64) :
    Con5 1 w 49 [.int (n : Int) tk] news (fun K Q => ∀ t h' tk', K h' news → Q (.int ((fromGrayN n : Nat) : Int) t) h' tk') := by
  delta Con5 Prog5; k_fill
  k_with_none
  intro p loose mean mg mb dp un gd cn cs a ccd cl outer A₀ base h₀ L m s Q E B F X N T hk hd hu hret
  refine wpAny_call ?_
  k_dflt cell_enter
  ktr_unf
  rename Fr _ _ _ _ => lF
  rename News _ _ _ _ => lN
  with_unfolding_all refine' ksw_while (σ := (Nat × Tok) × (Nat × Tok)) (fun _ => news) (fun c => [(Str.ofString "n", .int ((c.1.1 : Nat) : Int) c.1.2), (Str.ofString "g", .int ((c.2.1 : Nat) : Int) c.2.2)]) (fun _ => True) [] (fun c => c.1.1 ^^^ fromGrayN c.2.1 = fromGrayN n ∧ c.2.1 < 2 ^ 64) (fun c => c.2.1) ((0, _), (n, _)) lF lN trivial ?hk ?hp ?turn
  case hk => kst_all
  case hp => exact ⟨Nat.zero_xor _, hn⟩
  case turn =>
    rintro ⟨⟨n', t1'⟩, ⟨g', t2'⟩⟩ u' h' tk' _ ⟨hp1, hp2⟩ F' N'
    dsimp only [kstB] at F' hp1 hp2
    clear lF lN
    try k_fold
    k_steps
    · rename ((0 : Int) < _) => hg
      have hg' : 0 < g' := by omega
      refine' ksw_end (c' := ((?c, ?d), (?c2, ?d2))) ?e1 ?e2 (fun p hp => hp) trivial (List.forall_mem_cons.mpr ⟨?e3, List.forall_mem_cons.mpr ⟨?e5, List.forall_mem_nil _⟩⟩) ?e4 ?e6 ?e7
      case e1 => k_asm
      case e2 => k_asm
      case e3 => rfl
      case e5 => rfl
      case e4 =>
        intro z h2 h3
        simp only [List.forall_mem_cons, List.not_mem_nil, false_implies, implies_true, and_true, ne_eq] at h2
        simp [h2]
      case e6 =>
        have e := fg_step hp2
        refine ⟨?_, ?_⟩
        · show (n' ^^^ g') ^^^ fromGrayN (g' >>> 1) = fromGrayN n
          rw [Nat.xor_assoc, ← e, hp1]
        · exact b_shr hp2
      case e7 =>
        show g' >>> 1 < g'
        rw [Nat.shiftRight_eq_div_pow]
        omega
    · rename (¬ (0 : Int) < _) => hg
      have hg' : g' = 0 := by omega
      subst hg'
      rw [fg_zero, Nat.xor_zero] at hp1
      rw [hp1]
      exact hret _ _ _ ⟨by k_asm, by k_asm⟩
end Mine
end
section
open PySem PySem.W PySem.Spec PySem.Calls PyProof.Rows
set_option maxRecDepth 100000
namespace Mine
local macro_rules | `(tactic| walk_at "no such key") => `(tactic| skip)
local macro_rules | `(tactic| walk_at "no such key") => `(tactic| skip)
local macro_rules | `(tactic| walk_at "no such key") => `(tactic| skip)
local macro_rules | `(tactic| walk_at "no such key") => `(tactic| skip)
local macro_rules | `(tactic| walk_at "no such key") => `(tactic| skip)
local macro_rules | `(tactic| walk_at "no such key") => `(tactic| skip)
local macro_rules | `(tactic| walk_at "no such key") => `(tactic| skip)
local macro_rules | `(tactic| walk_at "no such key") => `(tactic| skip)
local macro_rules | `(tactic| walk_at "no such key") => `(tactic| skip)
local macro_rules | `(tactic| walk_at "no such key") => `(tactic| skip)
local macro_rules | `(tactic| walk_at "no such key") => `(tactic| skip)
local macro_rules | `(tactic| walk_at "no such key") => `(tactic| skip)
local macro_rules | `(tactic| walk_at "no such key") => `(tactic| skip)
local macro_rules | `(tactic| walk_at "no such key") => `(tactic| skip)
local macro_rules | `(tactic| walk_at "no such key") => `(tactic| skip)
local macro_rules | `(tactic| walk_at "no such key") => `(tactic| skip)
local macro_rules | `(tactic| walk_at "no such key") => `(tactic| skip)
local macro_rules | `(tactic| walk_at "no such key") => `(tactic| skip)
local macro_rules | `(tactic| walk_at "no such key") => `(tactic| skip)
local macro_rules | `(tactic| walk_at "no such key") => `(tactic| skip)
local macro_rules | `(tactic| walk_at "no such key") => `(tactic| skip)
local macro_rules | `(tactic| walk_at "no such key") => `(tactic| skip)
local macro_rules | `(tactic| walk_at "no such key") => `(tactic| skip)
local macro_rules | `(tactic| walk_at "no such key") => `(tactic| skip)
local macro_rules | `(tactic| walk_at "no such key") => `(tactic| skip)
local macro_rules | `(tactic| walk_at "no such key") => `(tactic| skip)
local macro_rules | `(tactic| walk_at "no such key") => `(tactic| skip)
local macro_rules | `(tactic| walk_at "no such key") => `(tactic| skip)
local macro_rules | `(tactic| walk_at "no such key") => `(tactic| skip)
local macro_rules | `(tactic| walk_at "no such key") => `(tactic| skip)
local macro_rules | `(tactic| walk_at "no such key") => `(tactic| skip)
local macro_rules | `(tactic| walk_at "no such key") => `(tactic| skip)
local macro_rules | `(tactic| walk_at "no such key") => `(tactic| skip)
local macro_rules | `(tactic| walk_at "no such key") => `(tactic| skip)
local macro_rules | `(tactic| walk_at "no such key") => `(tactic| skip)
local macro_rules | `(tactic| walk_at "no such key") => `(tactic| skip)
local macro_rules | `(tactic| walk_at "no such key") => `(tactic| skip)
local macro_rules | `(tactic| walk_at "no such key") => `(tactic| skip)
local macro_rules | `(tactic| walk_at "no such key") => `(tactic| skip)
local macro_rules | `(tactic| walk_at "no such key") => `(tactic| skip)
local macro_rules | `(tactic| walk_at "no such key") => `(tactic| skip)
local macro_rules | `(tactic| walk_at "no such key") => `(tactic| skip)
local macro_rules | `(tactic| walk_at "no such key") => `(tactic| skip)
local macro_rules | `(tactic| walk_at "no such key") => `(tactic| skip)
local macro_rules | `(tactic| walk_at "no such key") => `(tactic| skip)
local macro_rules | `(tactic| walk_at "no such key") => `(tactic| skip)
local macro_rules | `(tactic| walk_at "no such key") => `(tactic| skip)
local macro_rules | `(tactic| walk_at "no such key") => `(tactic| skip)
local macro_rules | `(tactic| walk_at "no such key") => `(tactic| skip)
local macro_rules | `(tactic| walk_at "no such key") => `(tactic| skip)
local macro_rules | `(tactic| walk_at "no such key") => `(tactic| skip)
local macro_rules | `(tactic| walk_at "no such key") => `(tactic| skip)
local macro_rules | `(tactic| walk_at "no such key") => `(tactic| skip)
local macro_rules | `(tactic| walk_at "no such key") => `(tactic| skip)
local macro_rules | `(tactic| walk_at "no such key") => `(tactic| skip)
local macro_rules | `(tactic| walk_at "no such key") => `(tactic| skip)
local macro_rules | `(tactic| walk_at "no such key") => `(tactic| skip)
local macro_rules | `(tactic| walk_at "no such key") => `(tactic| skip)
local macro_rules | `(tactic| walk_at "no such key") => `(tactic| skip)
local macro_rules | `(tactic| walk_at "no such key") => `(tactic| skip)
-- own lines of the walk: ints that are casts stay casts
local macro_rules | `(tactic| walk_at "binaryOp BitXor int int") => `(tactic| ((with_reducible refine xor_n ?_)))
local macro_rules | `(tactic| walk_at "inplaceOp BitXor int int") => `(tactic| ((with_reducible refine ixor_n ?_)))
local macro_rules | `(tactic| walk_at "binaryOp BitOr int int") => `(tactic| ((with_reducible refine or_n ?_)))
local macro_rules | `(tactic| walk_at "binaryOp LShift int int") => `(tactic| ((with_reducible refine shl_n ?k1 ?k2 ?k3 ?_); (case k1 => decide); (case k2 => decide); (case k3 => (repeat' (first | assumption | exact b_mod | exact b_up (by assumption) | with_reducible refine b_xor ?_ ?_ | with_reducible refine b_shr ?_)))))
local macro_rules | `(tactic| walk_at "binaryOp RShift int int") => `(tactic| ((with_reducible refine shr_n ?k1 ?_); (case k1 => first | decide | omega)))
local macro_rules | `(tactic| walk_at "inplaceOp RShift int int") => `(tactic| ((with_reducible refine ishr_n ?k1 ?_); (case k1 => first | decide | omega)))
local macro_rules | `(tactic| walk_at "binaryOp BitAnd int int") => `(tactic| first | (with_reducible refine and_n32 ?_) | (with_reducible refine and_n1 ?_))
-- the premises of a contract's use
local macro_rules | `(tactic| ktr_rel) => `(tactic| ((case k1 => k_asm); (case k2 => k_asm); (case k3 => k_asm); (case k4 => k_asm); (case k5 => k_asm); (case kK => first | exact rfl | assumption); (case kd => ktr_room); (case ku => ktr_units)))
local macro_rules | `(tactic| walk_at "call ref") => `(tactic| (k_here; (with_reducible show wpAny _ _ (call (Value.ref 21) [Value.int 32 _]) _ _ _); k_dflt (refine' use5 (c_mask32 _ _ _) ?k1 ?k2 ?k3 ?k4 ?k5 ?kK ?kd ?ku ?_; ktr_rel; intro t9 h9 tk9 ⟨F9, N9⟩; (try dsimp only); (try k_fold))))
-- the walk up to the next loop
local macro_rules | `(tactic| ktr_unf) => `(tactic| repeat' (first | (k_unfold; (try dsimp only)) | ((fail_if_success (with_reducible show wpAny _ _ (pyIter (Value.ref _)) _ _ _)); (fail_if_success (with_reducible show wpAny _ _ (exec (Stmt.While _ _ _ _) _) _ _ _)); first | (k_end; wrow_close) | walk1 | (dsimp only; walk1) | (leave1; (try dsimp only))) | fail "no step"))
theorem bits_small {n : Nat} (hn : n < 2 ^ 32) : Builtin.Int.intBits (n : Int) ≤ 1100000 :=
  Nat.le_trans (intBits_le_iff.mpr (show (n : Int).natAbs < 2 ^ 64 by omega)) (by decide)
theorem cw_undo_left (w : World) (news : List (Addr × Obj)) (y H : Int) (l : Nat) (k : Int) (tk tk2 : Tok) (hy : y = 4294967296 * H + (l : Int)) (hl : l < 2 ^ 32) (hb : Builtin.Int.intBits y ≤ 1100000) (h1 : 1 ≤ k) (h2 : k ≤ 31) :
    Con5 2 w 63 [.int y tk, .int k tk2] news (fun K Q => ∀ t h' tk', K h' news → Q (.int (4294967296 * H + ((undoLN k.toNat l : Nat) : Int)) t) h' tk') := by
  obtain ⟨m, rfl⟩ := Int.eq_ofNat_of_zero_le (show 0 ≤ k by omega)
  exact c_undo_left w news y H l m tk tk2 hy hl hb (by omega) (by omega)
theorem cn_undo_left (w : World) (news : List (Addr × Obj)) (n : Nat) (k : Int) (tk tk2 : Tok) (hn : n < 2 ^ 32) (h1 : 1 ≤ k) (h2 : k ≤ 31) :
    Con5 2 w 63 [.int (n : Int) tk, .int k tk2] news (fun K Q => ∀ t h' tk', K h' news → Q (.int ((undoLN k.toNat n : Nat) : Int) t) h' tk') := by
  have h := cw_undo_left w news (n : Int) 0 n k tk tk2 (by omega) hn (bits_small hn) h1 h2
  simp only [Int.mul_zero, Int.zero_add] at h
  exact h
theorem cn_undo_right (w : World) (news : List (Addr × Obj)) (n : Nat) (k : Int) (tk tk2 : Tok) (h1 : 1 ≤ k) (h2 : k ≤ 31) :
    Con5 1 w 70 [.int (n : Int) tk, .int k tk2] news (fun K Q => ∀ t h' tk', K h' news → Q (.int ((undoRN k.toNat n : Nat) : Int) t) h' tk') := by
  obtain ⟨m, rfl⟩ := Int.eq_ofNat_of_zero_le (show 0 ≤ k by omega)
  exact c_undo_right w news n m tk tk2 (by omega) (by omega)
local macro_rules | `(tactic| walk_at "call ref") => `(tactic| (k_here; (with_reducible show wpAny _ _ (call (Value.ref 63) [Value.int (Nat.cast _) _, Value.int _ _]) _ _ _); k_dflt (refine' use5 (cn_undo_left _ _ _ _ _ _ ?q1 ?q2 ?q3) ?k1 ?k2 ?k3 ?k4 ?k5 ?kK ?kd ?ku ?_; ktr_rel; (case q1 => first | assumption | exact undoR_lt (by first | assumption | exact undoL_lt (by assumption))); (case q2 => decide); (case q3 => decide); intro t9 h9 tk9 ⟨F9, N9⟩; (try dsimp only); (try k_fold))))
local macro_rules | `(tactic| walk_at "call ref") => `(tactic| (k_here; (with_reducible show wpAny _ _ (call (Value.ref 70) [Value.int (Nat.cast _) _, Value.int _ _]) _ _ _); k_dflt (refine' use5 (cn_undo_right _ _ _ _ _ _ ?q2 ?q3) ?k1 ?k2 ?k3 ?k4 ?k5 ?kK ?kd ?ku ?_; ktr_rel; (case q2 => decide); (case q3 => decide); intro t9 h9 tk9 ⟨F9, N9⟩; (try dsimp only); (try k_fold))))
set_option maxHeartbeats 8000000 in
theorem c_back (w : World) (news : List (Addr × Obj)) (n : Nat) (tk : Tok) (hn : n < 2 ^ 32) :
    Con5 3 w 77 [.int (n : Int) tk] news (fun K Q => ∀ t h' tk', K h' news → Q (.int ((backN n : Nat) : Int) t) h' tk') := by
  delta Con5 Prog5; k_fill
  k_with_none
  intro p loose mean mg mb dp un gd cn cs a ccd cl outer A₀ base h₀ L m s Q E B F X N T hk hd hu hret
  refine wpAny_call ?_
  k_dflt cell_enter
  k_steps
  exact hret _ _ _ ⟨by k_asm, by k_asm⟩
theorem st_ret {P : Tok → Heap → Nat → Prop} {Q : Value → Heap → Nat → Prop} (hret : ∀ (m : Nat), m < 2 ^ 32 → ∀ t h' tk', P t h' tk' → Q (.int (m : Int) t) h' tk') {x : Int} {t : Tok} {h' : Heap} {tk' : Nat} (h0 : 0 ≤ x) (h1 : x < 4294967296) (hp : P t h' tk') : Q (.int x t) h' tk' := by
  obtain ⟨m, rfl⟩ := Int.eq_ofNat_of_zero_le h0
  exact hret m (by omega) t h' tk' hp
theorem pow_small (n : Int) : 0 ≤ (2 : Int) ^ (n.fmod 32).toNat ∧ (2 : Int) ^ (n.fmod 32).toNat < 4294967296 := by
  have h1 : 0 ≤ n.fmod 32 := Int.fmod_nonneg_of_pos _ (by decide)
  have h2 : n.fmod 32 < 32 := Int.fmod_lt_of_pos _ (by decide)
  rw [powI]
  have h3 : (n.fmod 32).toNat ≤ 31 := by omega
  have h4 : 2 ^ (n.fmod 32).toNat ≤ 2 ^ 31 := Nat.pow_le_pow_right (by decide) h3
  have e : (2 : Nat) ^ 31 = 2147483648 := by decide
  have h5 : (0 : Int) ≤ ((2 ^ (n.fmod 32).toNat : Nat) : Int) := Int.natCast_nonneg _
  exact ⟨h5, by rw [e] at h4; exact Int.lt_of_le_of_lt (Int.ofNat_le.mpr h4) (by decide)⟩
set_option maxHeartbeats 8000000 in
theorem c_state (w : World) (news : List (Addr × Obj)) (kind n : Int) (tk tk2 : Tok) :
    Con5 1 w 84 [.int kind tk, .int n tk2] news (fun K Q => ∀ (m : Nat), m < 2 ^ 32 → ∀ (t : Tok) h' tk', K h' news → Q (.int (m : Int) t) h' tk') := by
  delta Con5 Prog5; k_fill
  k_with_none
  intro p loose mean mg mb dp un gd cn cs a ccd cl outer A₀ base h₀ L m s Q E B F X N T hk hd hu hret
  refine wpAny_call ?_
  k_dflt cell_enter
  k_steps
  · exact st_ret (Q := fun v h' tk' => Q v { s with heap := h', toks := tk' }) hret (Int.fmod_nonneg_of_pos _ (by decide)) (Int.fmod_lt_of_pos _ (by decide)) ⟨by k_asm, by k_asm⟩
  · exact st_ret (Q := fun v h' tk' => Q v { s with heap := h', toks := tk' }) hret (pow_small n).1 (pow_small n).2 ⟨by k_asm, by k_asm⟩
  · have e1 : 0 ≤ n.fmod 8 := Int.fmod_nonneg_of_pos _ (by decide)
    have e2 : n.fmod 8 < 8 := Int.fmod_lt_of_pos _ (by decide)
    exact st_ret (Q := fun v h' tk' => Q v { s with heap := h', toks := tk' }) hret (by omega) (by omega) ⟨by k_asm, by k_asm⟩
  · exact st_ret (Q := fun v h' tk' => Q v { s with heap := h', toks := tk' }) hret (Int.fmod_nonneg_of_pos _ (by decide)) (Int.fmod_lt_of_pos _ (by decide)) ⟨by k_asm, by k_asm⟩
set_option maxHeartbeats 8000000 in
theorem c_turn (w : World) (news : List (Addr × Obj)) (at' cell : Int) (tk tk2 : Tok) (h1 : 0 ≤ at') (h2 : at' ≤ 3) :
    Con5 1 w 131 [.int at' tk, .int cell tk2] news (fun K Q => ∀ (to : Int), 0 ≤ to → to ≤ 3 → (to = at' + 1 ∨ to = at' - 1) → ∀ (t : Tok) h' tk', K h' news → Q (.int to t) h' tk') := by
  delta Con5 Prog5; k_fill
  k_with_none
  intro p loose mean mg mb dp un gd cn cs a ccd cl outer A₀ base h₀ L m s Q E B F X N T hk hd hu hret
  refine wpAny_call ?_
  k_dflt cell_enter
  k_steps
  all_goals exact hret _ (by omega) (by omega) (by omega) _ _ _ ⟨by k_asm, by k_asm⟩
theorem run_a {G n i : Nat} (hi : i < 64) (h : ((G >>> (64 - i)) % 2 + n >>> (63 - i)) % 2 = (G >>> (63 - i)) % 2) :
    ((((G >>> (64 - i)) % 2 : Nat) : Int) + ((n >>> (63 - (0 + (i : Int) * 1)).toNat : Nat) : Int)).fmod 2 = (((G >>> (64 - (i + 1))) % 2 : Nat) : Int) := by
  have e : (63 - (0 + (i : Int) * 1)).toNat = 63 - i := by omega
  rw [e, show (2 : Int) = ((2 : Nat) : Int) from rfl, ← Int.natCast_add, modI, h, show 64 - (i + 1) = 63 - i by omega]
theorem run_b {G n i : Nat} (hi : i < 64) (h : ((G >>> (64 - i)) % 2 + n >>> (63 - i)) % 2 = (G >>> (63 - i)) % 2) (h2 : 2 * (G >>> (64 - i)) + (G >>> (63 - i)) % 2 = G >>> (63 - i)) :
    2 * ((G >>> (64 - i) : Nat) : Int) + ((((G >>> (64 - i)) % 2 : Nat) : Int) + ((n >>> (63 - (0 + (i : Int) * 1)).toNat : Nat) : Int)).fmod 2 = ((G >>> (64 - (i + 1)) : Nat) : Int) := by
  rw [run_a hi h, show 64 - (i + 1) = 63 - i by omega, ← h2]
  push_cast
  omega
local macro_rules | `(tactic| walk_at "binaryOp RShift int int") => `(tactic| ((with_reducible refine shr_n ?k1 ?_); (case k1 => omega)))
set_option maxHeartbeats 8000000 in
theorem c_running (w : World) (news : List (Addr × Obj)) (n : Nat) (tk : Tok) (hn : n < 2 ^ 64) :
    Con5 1 w 124 [.int (n : Int) tk] news (fun K Q => ∀ t h' tk', K h' news → Q (.int ((fromGrayN n : Nat) : Int) t) h' tk') := by
  delta Con5 Prog5; k_fill
  k_with_none
  intro p loose mean mg mb dp un gd cn cs a ccd cl outer A₀ base h₀ L m s Q E B F X N T hk hd hu hret
  refine wpAny_call ?_
  k_dflt cell_enter
  ktr_unf
  rename Fr _ _ _ _ => lF
  rename News _ _ _ _ => lN
  rename IsRange _ _ _ _ _ _ _ _ => rg
  with_unfolding_all refine' loopR (σ := Tok × Tok) (n := 64) (fun _ _ => news) (fun i t => [(Str.ofString "total", .int ((fromGrayN n >>> (64 - i) : Nat) : Int) t.1), (Str.ofString "odd", .int (((fromGrayN n >>> (64 - i)) % 2 : Nat) : Int) t.2)]) (fun _ _ => True) [] (_, _) (by rfl) rg small64 size64 lF lN trivial ?hk ?turn ?done
  case hk =>
    have e : fromGrayN n >>> (64 - 0) = 0 := run_start hn
    dsimp only
    rw [e]
    kst_all
  case turn =>
    intro i c' t' u' h' tk' own' hi hoff _ F' N'
    dsimp only [kstB] at F'
    clear lF lN rg
    try k_fold
    k_steps
    refine' kst_end (c := (?c, ?d)) ?e1 ?e2 (fun p hp => List.mem_append.mpr (.inl hp)) (fun p hp => List.mem_append.mpr (.inr hp)) rfl trivial (List.forall_mem_cons.mpr ⟨?e3, List.forall_mem_cons.mpr ⟨?e5, List.forall_mem_nil _⟩⟩) ?e4 trivial
    case e1 => k_asm
    case e2 => k_asm
    case e3 =>
      show _ = some (Value.int ((fromGrayN n >>> (64 - (i + 1)) : Nat) : Int) _)
      rw [← run_b hi (run_step hn hi).1 (run_step hn hi).2]
      rfl
    case e5 =>
      show _ = some (Value.int (((fromGrayN n >>> (64 - (i + 1))) % 2 : Nat) : Int) _)
      rw [← run_a hi (run_step hn hi).1]
      rfl
    case e4 => kst_same
  case done =>
    intro c' u' h' tk' _ F' N'
    dsimp only [kstB] at F'
    clear lF lN rg
    try k_fold
    k_steps
    exact hret _ _ _ ⟨by k_asm, by k_asm⟩
end Mine
end
section
open PySem PySem.W PySem.Spec PySem.Calls PyProof.Rows
set_option maxRecDepth 100000
namespace Mine
-- own lines of the walk: ints that are casts stay casts
local macro_rules | `(tactic| walk_at "binaryOp BitXor int int") => `(tactic| ((with_reducible refine xor_n ?_)))
local macro_rules | `(tactic| walk_at "inplaceOp BitXor int int") => `(tactic| ((with_reducible refine ixor_n ?_)))
local macro_rules | `(tactic| walk_at "binaryOp BitOr int int") => `(tactic| ((with_reducible refine or_n ?_)))
local macro_rules | `(tactic| walk_at "binaryOp LShift int int") => `(tactic| ((with_reducible refine shl_n ?k1 ?k2 ?k3 ?_); (case k1 => decide); (case k2 => decide); (case k3 => (repeat' (first | assumption | exact b_mod | exact b_up (by assumption) | with_reducible refine b_xor ?_ ?_ | with_reducible refine b_shr ?_)))))
local macro_rules | `(tactic| walk_at "binaryOp RShift int int") => `(tactic| ((with_reducible refine shr_n ?k1 ?_); (case k1 => first | decide | omega)))
local macro_rules | `(tactic| walk_at "inplaceOp RShift int int") => `(tactic| ((with_reducible refine ishr_n ?k1 ?_); (case k1 => first | decide | omega)))
local macro_rules | `(tactic| walk_at "binaryOp BitAnd int int") => `(tactic| first | (with_reducible refine and_n32 ?_) | (with_reducible refine and_n1 ?_))
-- the premises of a contract's use
local macro_rules | `(tactic| ktr_rel) => `(tactic| ((case k1 => k_asm); (case k2 => k_asm); (case k3 => k_asm); (case k4 => k_asm); (case k5 => k_asm); (case kK => first | exact rfl | assumption); (case kd => ktr_room); (case ku => ktr_units)))
local macro_rules | `(tactic| walk_at "call ref") => `(tactic| (k_here; (with_reducible show wpAny _ _ (call (Value.ref 21) [Value.int 32 _]) _ _ _); k_dflt (refine' use5 (c_mask32 _ _ _) ?k1 ?k2 ?k3 ?k4 ?k5 ?kK ?kd ?ku ?_; ktr_rel; intro t9 h9 tk9 ⟨F9, N9⟩; (try dsimp only); (try k_fold))))
-- the walk up to the next loop
local macro_rules | `(tactic| ktr_unf) => `(tactic| repeat' (first | (k_unfold; (try dsimp only)) | ((fail_if_success (with_reducible show wpAny _ _ (pyIter (Value.ref _)) _ _ _)); (fail_if_success (with_reducible show wpAny _ _ (exec (Stmt.While _ _ _ _) _) _ _ _)); first | (k_end; wrow_close) | walk1 | (dsimp only; walk1) | (leave1; (try dsimp only))) | fail "no step"))
theorem item_bit {prog : Program} {w : World} {A : Around} {E : Value → Shared → Prop} {s : Shared} {value slice : PySem.Expr} {h₀ : Heap} {L : Addr} {news : List (Addr × Obj)} {l : Addr} {vs : List Value} {nn : Nat} {k : Int} {u : Tok} {f : Nat → Bool} {Q : Value → Shared → Prop}
    (N : News h₀ L s.heap news) (hl : (l, listOf vs.toArray nn) ∈ news) (hi : IntsAre vs (bl f)) (h0 : 0 ≤ k) (h1 : k < 32) (h : ∀ t, Q (.int ((f k.toNat).toNat : Int) t) s)
    (hs : subscripted slice false (.ref l) (.int k u) = operate [.ref l, .int k u] (getItem (.ref l) (.int k u)) := by with_unfolding_all rfl) :
    wpAny (model prog w) A (subscriptTail value slice (.ref l) (.int k u)) Q E s := by
  have hls : s.heap.IsList l vs.toArray := ⟨_, (N _ hl).1, rfl, nn, rfl⟩
  obtain ⟨t, hx⟩ := hi.get k.toNat _ (bl_get f (i := k.toNat) (by omega))
  exact tail_any hls.typeIs slot_list_getitem.lookup (wpAny_getItem_list hls h0 (by omega) (by simpa using hx) (h t)) hs
local macro_rules | `(tactic| walk_at "subscriptTail") => `(tactic| (k_here; (with_reducible show wpAny _ _ (subscriptTail _ _ (Value.ref _) (Value.int _ _)) _ _ _); k_dflt (refine' item_bit ?n ?m ?i ?a ?b ?_ ?d; (case n => k_asm); (case m => first | assumption | exact List.mem_append.mpr (.inl (by assumption))); (case i => assumption); (case a => omega); (case b => omega); (case d => with_unfolding_all rfl)); intro t9))
theorem num_step (f : Nat → Bool) {i : Nat} (hi : i < 32) : 2 * ((ofBits (fun j => f (32 - i + j)) i : Nat) : Int) + ((f (31 - (0 + (i : Int) * 1)).toNat).toNat : Int) = ((ofBits (fun j => f (32 - (i + 1) + j)) (i + 1) : Nat) : Int) := by
  have e : (31 - (0 + (i : Int) * 1)).toNat = 32 - 1 - i := by omega
  rw [e, ← horner f 32 i (by omega), ← horner f 32 (i + 1) (by omega), List.range_succ, List.foldl_append, List.foldl_cons, List.foldl_nil]
theorem num_end (f : Nat → Bool) : ofBits (fun j => f (32 - 32 + j)) 32 = ofBits f 32 := ofBits_congr fun i _ => by simp
set_option maxHeartbeats 8000000 in
theorem c_number (w : World) (news : List (Addr × Obj)) (l : Addr) (vs : List Value) (nn : Nat) (f : Nat → Bool) (hl : (l, listOf vs.toArray nn) ∈ news) (hi : IntsAre vs (bl f)) :
    Con5 1 w 96 [.ref l] news (fun K Q => ∀ t h' tk', K h' news → Q (.int ((ofBits f 32 : Nat) : Int) t) h' tk') := by
  delta Con5 Prog5; k_fill
  k_with_none
  intro p loose mean mg mb dp un gd cn cs a ccd cl outer A₀ base h₀ L m s Q E B F X N T hk hd hu hret
  refine wpAny_call ?_
  k_dflt cell_enter
  ktr_unf
  rename Fr _ _ _ _ => lF
  rename News _ _ _ _ => lN
  rename IsRange _ _ _ _ _ _ _ _ => rg
  with_unfolding_all refine' loopR (σ := Tok) (n := 32) (fun _ _ => news) (fun i t => [(Str.ofString "total", .int ((ofBits (fun j => f (32 - i + j)) i : Nat) : Int) t)]) (fun _ _ => True) [] _ (by rfl) rg small32 size32 lF lN trivial ?hk ?turn ?done
  case hk => kst_all
  case turn =>
    intro i c' t' u' h' tk' own' hi' hoff _ F' N'
    dsimp only [kstB] at F'
    clear lF lN rg
    try k_fold
    k_steps
    refine' kst_end (c := ?c) ?e1 ?e2 (fun p hp => List.mem_append.mpr (.inl hp)) (fun p hp => List.mem_append.mpr (.inr hp)) rfl trivial (List.forall_mem_cons.mpr ⟨?e3, List.forall_mem_nil _⟩) ?e4 trivial
    case e1 => k_asm
    case e2 => k_asm
    case e3 =>
      show _ = some (Value.int ((ofBits (fun j => f (32 - (i + 1) + j)) (i + 1) : Nat) : Int) _)
      rw [← num_step f hi']
      rfl
    case e4 => kst_same
  case done =>
    intro c' u' h' tk' _ F' N'
    dsimp only [kstB] at F'
    clear lF lN rg
    try k_fold
    k_steps
    rw [num_end]
    exact hret _ _ _ ⟨by k_asm, by k_asm⟩
end Mine
end
section
open PySem PySem.W PySem.Spec PySem.Calls PyProof.Rows
set_option maxRecDepth 100000
namespace Mine
local macro_rules | `(tactic| walk_at "no such key") => `(tactic| skip)
local macro_rules | `(tactic| walk_at "no such key") => `(tactic| skip)
local macro_rules | `(tactic| walk_at "no such key") => `(tactic| skip)
local macro_rules | `(tactic| walk_at "no such key") => `(tactic| skip)
local macro_rules | `(tactic| walk_at "no such key") => `(tactic| skip)
local macro_rules | `(tactic| walk_at "no such key") => `(tactic| skip)
local macro_rules | `(tactic| walk_at "no such key") => `(tactic| skip)
local macro_rules | `(tactic| walk_at "no such key") => `(tactic| skip)
local macro_rules | `(tactic| walk_at "no such key") => `(tactic| skip)
local macro_rules | `(tactic| walk_at "no such key") => `(tactic| skip)
local macro_rules | `(tactic| walk_at "no such key") => `(tactic| skip)
local macro_rules | `(tactic| walk_at "no such key") => `(tactic| skip)
local macro_rules | `(tactic| walk_at "no such key") => `(tactic| skip)
local macro_rules | `(tactic| walk_at "no such key") => `(tactic| skip)
local macro_rules | `(tactic| walk_at "no such key") => `(tactic| skip)
local macro_rules | `(tactic| walk_at "no such key") => `(tactic| skip)
local macro_rules | `(tactic| walk_at "no such key") => `(tactic| skip)
local macro_rules | `(tactic| walk_at "no such key") => `(tactic| skip)
local macro_rules | `(tactic| walk_at "no such key") => `(tactic| skip)
local macro_rules | `(tactic| walk_at "no such key") => `(tactic| skip)
local macro_rules | `(tactic| walk_at "no such key") => `(tactic| skip)
local macro_rules | `(tactic| walk_at "no such key") => `(tactic| skip)
local macro_rules | `(tactic| walk_at "no such key") => `(tactic| skip)
local macro_rules | `(tactic| walk_at "no such key") => `(tactic| skip)
local macro_rules | `(tactic| walk_at "no such key") => `(tactic| skip)
local macro_rules | `(tactic| walk_at "no such key") => `(tactic| skip)
local macro_rules | `(tactic| walk_at "no such key") => `(tactic| skip)
local macro_rules | `(tactic| walk_at "no such key") => `(tactic| skip)
local macro_rules | `(tactic| walk_at "no such key") => `(tactic| skip)
local macro_rules | `(tactic| walk_at "no such key") => `(tactic| skip)
local macro_rules | `(tactic| walk_at "no such key") => `(tactic| skip)
local macro_rules | `(tactic| walk_at "no such key") => `(tactic| skip)
local macro_rules | `(tactic| walk_at "no such key") => `(tactic| skip)
local macro_rules | `(tactic| walk_at "no such key") => `(tactic| skip)
local macro_rules | `(tactic| walk_at "no such key") => `(tactic| skip)
local macro_rules | `(tactic| walk_at "no such key") => `(tactic| skip)
local macro_rules | `(tactic| walk_at "no such key") => `(tactic| skip)
local macro_rules | `(tactic| walk_at "no such key") => `(tactic| skip)
local macro_rules | `(tactic| walk_at "no such key") => `(tactic| skip)
local macro_rules | `(tactic| walk_at "no such key") => `(tactic| skip)
local macro_rules | `(tactic| walk_at "no such key") => `(tactic| skip)
local macro_rules | `(tactic| walk_at "no such key") => `(tactic| skip)
local macro_rules | `(tactic| walk_at "no such key") => `(tactic| skip)
local macro_rules | `(tactic| walk_at "no such key") => `(tactic| skip)
local macro_rules | `(tactic| walk_at "no such key") => `(tactic| skip)
local macro_rules | `(tactic| walk_at "no such key") => `(tactic| skip)
local macro_rules | `(tactic| walk_at "no such key") => `(tactic| skip)
local macro_rules | `(tactic| walk_at "no such key") => `(tactic| skip)
local macro_rules | `(tactic| walk_at "no such key") => `(tactic| skip)
local macro_rules | `(tactic| walk_at "no such key") => `(tactic| skip)
local macro_rules | `(tactic| walk_at "no such key") => `(tactic| skip)
local macro_rules | `(tactic| walk_at "no such key") => `(tactic| skip)
local macro_rules | `(tactic| walk_at "no such key") => `(tactic| skip)
local macro_rules | `(tactic| walk_at "no such key") => `(tactic| skip)
local macro_rules | `(tactic| walk_at "no such key") => `(tactic| skip)
local macro_rules | `(tactic| walk_at "no such key") => `(tactic| skip)
local macro_rules | `(tactic| walk_at "no such key") => `(tactic| skip)
local macro_rules | `(tactic| walk_at "no such key") => `(tactic| skip)
local macro_rules | `(tactic| walk_at "no such key") => `(tactic| skip)
local macro_rules | `(tactic| walk_at "no such key") => `(tactic| skip)
-- own lines of the walk: ints that are casts stay casts
local macro_rules | `(tactic| walk_at "binaryOp BitXor int int") => `(tactic| ((with_reducible refine xor_n ?_)))
local macro_rules | `(tactic| walk_at "inplaceOp BitXor int int") => `(tactic| ((with_reducible refine ixor_n ?_)))
local macro_rules | `(tactic| walk_at "binaryOp BitOr int int") => `(tactic| ((with_reducible refine or_n ?_)))
local macro_rules | `(tactic| walk_at "binaryOp LShift int int") => `(tactic| ((with_reducible refine shl_n ?k1 ?k2 ?k3 ?_); (case k1 => decide); (case k2 => decide); (case k3 => (repeat' (first | assumption | exact b_mod | exact b_up (by assumption) | with_reducible refine b_xor ?_ ?_ | with_reducible refine b_shr ?_)))))
local macro_rules | `(tactic| walk_at "binaryOp RShift int int") => `(tactic| ((with_reducible refine shr_n ?k1 ?_); (case k1 => first | decide | omega)))
local macro_rules | `(tactic| walk_at "inplaceOp RShift int int") => `(tactic| ((with_reducible refine ishr_n ?k1 ?_); (case k1 => first | decide | omega)))
local macro_rules | `(tactic| walk_at "binaryOp BitAnd int int") => `(tactic| first | (with_reducible refine and_n32 ?_) | (with_reducible refine and_n1 ?_))
-- the premises of a contract's use
local macro_rules | `(tactic| ktr_rel) => `(tactic| ((case k1 => k_asm); (case k2 => k_asm); (case k3 => k_asm); (case k4 => k_asm); (case k5 => k_asm); (case kK => first | exact rfl | assumption); (case kd => ktr_room); (case ku => ktr_units)))
local macro_rules | `(tactic| walk_at "call ref") => `(tactic| (k_here; (with_reducible show wpAny _ _ (call (Value.ref 21) [Value.int 32 _]) _ _ _); k_dflt (refine' use5 (c_mask32 _ _ _) ?k1 ?k2 ?k3 ?k4 ?k5 ?kK ?kd ?ku ?_; ktr_rel; intro t9 h9 tk9 ⟨F9, N9⟩; (try dsimp only); (try k_fold))))
-- the walk up to the next loop
local macro_rules | `(tactic| ktr_unf) => `(tactic| repeat' (first | (k_unfold; (try dsimp only)) | ((fail_if_success (with_reducible show wpAny _ _ (pyIter (Value.ref _)) _ _ _)); (fail_if_success (with_reducible show wpAny _ _ (exec (Stmt.While _ _ _ _) _) _ _ _)); first | (k_end; wrow_close) | walk1 | (dsimp only; walk1) | (leave1; (try dsimp only))) | fail "no step"))
local macro_rules | `(tactic| walk_at "subscriptTail") => `(tactic| (k_here; (with_reducible show wpAny _ _ (subscriptTail _ _ (Value.ref _) (Value.int _ _)) _ _ _); k_dflt (refine' item_bit ?n ?m ?i ?a ?b ?_ ?d; (case n => k_asm); (case m => first | assumption | exact List.Mem.tail _ (List.mem_append.mpr (.inl (by assumption)))); (case i => assumption); (case a => omega); (case b => omega); (case d => with_unfolding_all rfl)); intro t9))
/-- the first i of the bits -/
def bli (f : Nat → Bool) (i : Nat) : List Int := (List.range i).map fun j => ((f j).toNat : Int)
theorem bli_succ (f : Nat → Bool) (i : Nat) : bli f (i + 1) = bli f i ++ [((f i).toNat : Int)] := by simp [bli, List.range_succ]
theorem ne_all {D : Addr} {news own : List (Addr × Obj)} {as : List Addr} (h1 : ∀ p ∈ news, p.1 < D) (h2 : OwnOff own (D :: as)) : ∀ p ∈ news ++ own, p.1 ≠ D := by
  intro p hp
  rcases List.mem_append.mp hp with h | h
  · exact Nat.ne_of_lt (h1 p h)
  · exact h2 p h D (List.mem_cons_self ..)
theorem ints_snoc {ws : List Value} {ns : List Int} (h : IntsAre ws ns) (v : Int) (t : Tok) : IntsAre (ws ++ [.int v t]) (ns ++ [v]) := by
  induction h with
  | nil => exact .cons v t .nil
  | cons n t' _ ih => exact .cons n t' ih
theorem size_app {ws : List Value} {g : Nat → Bool} {i : Nat} (h : IntsAre ws (bli g i)) (hi : i < 32) : ws.toArray.size ≤ sizeLine := by
  have h1 := h.length
  rw [List.size_toArray, h1, sizeLine_eq]
  simp [bli]
  omega
local macro_rules | `(tactic| walk_at "call builtin:list.append") => `(tactic| (k_here; (with_reducible show wpAny _ _ (call (Value.builtin _) [Value.ref _, _]) _ _ _); k_dflt (refine' append_K ?k1 ?k2 (Upd.head ?k3) ?_ ?z; (case k1 => k_asm); (case k2 => k_asm); (case k3 => assumption); (case z => exact size_app (by assumption) (by assumption))); intro h' F' N'; (try k_sweep)))
theorem led_in {D : Addr} {ws : List Value} {x : Value} {n : Nat} {news own : List (Addr × Obj)} : ∀ p ∈ (D, listOf (ws ++ [x]).toArray n) :: news, p ∈ (D, listOf (ws.toArray.push x) n) :: (news ++ own) := by
  intro p hp
  rw [List.push_toArray]
  rcases List.mem_cons.mp hp with h | h
  · rw [h]; exact List.mem_cons_self ..
  · exact List.mem_cons_of_mem _ (List.mem_append.mpr (.inl h))
theorem own_in {q : Addr × Obj} {news own : List (Addr × Obj)} : ∀ p ∈ own, p ∈ q :: (news ++ own) := fun p hp => List.mem_cons_of_mem _ (List.mem_append.mpr (.inr hp))
theorem bli_up1 {f : Nat → Bool} {k i : Nat} (h : 0 + (i : Int) * 1 < (k : Int)) : bli (upB k f) (i + 1) = bli (upB k f) i ++ [((f (0 + (i : Int) * 1).toNat).toNat : Int)] := by
  rw [bli_succ, show (0 + (i : Int) * 1).toNat = i by omega]
  have : i < k := by omega
  simp [upB, this]
theorem bli_up2 {f : Nat → Bool} {k i : Nat} (h : ¬ 0 + (i : Int) * 1 < (k : Int)) : bli (upB k f) (i + 1) = bli (upB k f) i ++ [(((f (0 + (i : Int) * 1).toNat).toNat : Int) + ((f (0 + (i : Int) * 1 - (k : Int)).toNat).toNat : Int)).fmod 2] := by
  rw [bli_succ, add2, show (0 + (i : Int) * 1).toNat = i by omega, show (0 + (i : Int) * 1 - (k : Int)).toNat = i - k by omega]
  have : ¬ i < k := by omega
  simp [upB, this]
theorem bli_dn1 {f : Nat → Bool} {k i : Nat} (h : 31 < 0 + (i : Int) * 1 + (k : Int)) : bli (dnB k f) (i + 1) = bli (dnB k f) i ++ [((f (0 + (i : Int) * 1).toNat).toNat : Int)] := by
  rw [bli_succ, show (0 + (i : Int) * 1).toNat = i by omega]
  have : 31 < i + k := by omega
  simp [dnB, this]
theorem bli_dn2 {f : Nat → Bool} {k i : Nat} (h : ¬ 31 < 0 + (i : Int) * 1 + (k : Int)) : bli (dnB k f) (i + 1) = bli (dnB k f) i ++ [(((f (0 + (i : Int) * 1).toNat).toNat : Int) + ((f (0 + (i : Int) * 1 + (k : Int)).toNat).toNat : Int)).fmod 2] := by
  rw [bli_succ, add2, show (0 + (i : Int) * 1).toNat = i by omega, show (0 + (i : Int) * 1 + (k : Int)).toNat = i + k by omega]
  have : ¬ 31 < i + k := by omega
  simp [dnB, this]
set_option maxHeartbeats 8000000 in
theorem c_up (w : World) (news : List (Addr × Obj)) (l : Addr) (vs : List Value) (nn : Nat) (f : Nat → Bool) (k : Nat) (tk : Tok) (hl : (l, listOf vs.toArray nn) ∈ news) (hi : IntsAre vs (bl f)) (h1 : 1 ≤ k) (h2 : k ≤ 31) :
    Con5 1 w 103 [.ref l, .int (k : Int) tk] news (fun K Q => ∀ D ws c h' tk', K h' ((D, listOf ws.toArray c) :: news) → IntsAre ws (bl (upB k f)) → (∀ p ∈ news, p.1 < D) → Q (.ref D) h' tk') := by
  delta Con5 Prog5; k_fill
  k_with_none
  intro p loose mean mg mb dp un gd cn cs a ccd cl outer A₀ base h₀ L m s Q E B F X N T hk hd hu hret
  refine wpAny_call ?_
  k_dflt cell_enter
  ktr_unf
  rename Fr _ _ _ _ => lF
  rename News _ _ _ _ => lN
  rename IsRange _ _ _ _ _ _ _ _ => rg
  rename (∀ p ∈ news, p.1 < _) => l1
  with_unfolding_all refine' loopR (σ := List Value × Nat) (n := 32) (fun _ c => (_, listOf c.1.toArray c.2) :: news) (fun _ _ => []) (fun i c => IntsAre c.1 (bli (upB k f) i)) [] ([], 0) (by rfl) rg small32 size32 lF lN IntsAre.nil ?hk ?turn ?done
  case hk => exact List.forall_mem_nil _
  case turn =>
    rintro i ⟨ws, wn⟩ t' u' h' tk' own' hi' hoff hws F' N'
    dsimp only [kstB] at F' N' hws hoff
    simp only [List.cons_append, List.map_cons] at N' hoff
    have hne := ne_all l1 hoff
    clear lF lN rg
    try k_fold
    k_steps
    · refine' kst_end (c := (_, _)) ?e1 ?e2 led_in own_in rfl ?e3 (List.forall_mem_nil _) ?e4 trivial
      case e1 => k_asm
      case e2 => k_asm
      case e3 =>
        dsimp only
        rw [bli_up1 (by assumption)]
        exact ints_snoc hws _ _
      case e4 => kst_same
    · refine' kst_end (c := (_, _)) ?e1 ?e2 led_in own_in rfl ?e3 (List.forall_mem_nil _) ?e4 trivial
      case e1 => k_asm
      case e2 => k_asm
      case e3 =>
        dsimp only
        rw [bli_up2 (by assumption)]
        exact ints_snoc hws _ _
      case e4 => kst_same
  case done =>
    rintro ⟨ws, wn⟩ u' h' tk' hws F' N'
    dsimp only [kstB] at F' N' hws
    clear lF lN rg
    try k_fold
    k_steps
    exact hret _ _ _ _ _ ⟨by k_asm, by k_asm⟩ hws l1
end Mine
end
section
open PySem PySem.W PySem.Spec PySem.Calls PyProof.Rows
set_option maxRecDepth 100000
namespace Mine
-- own lines of the walk: ints that are casts stay casts
local macro_rules | `(tactic| walk_at "binaryOp BitXor int int") => `(tactic| ((with_reducible refine xor_n ?_)))
local macro_rules | `(tactic| walk_at "inplaceOp BitXor int int") => `(tactic| ((with_reducible refine ixor_n ?_)))
local macro_rules | `(tactic| walk_at "binaryOp BitOr int int") => `(tactic| ((with_reducible refine or_n ?_)))
local macro_rules | `(tactic| walk_at "binaryOp LShift int int") => `(tactic| ((with_reducible refine shl_n ?k1 ?k2 ?k3 ?_); (case k1 => decide); (case k2 => decide); (case k3 => (repeat' (first | assumption | exact b_mod | exact b_up (by assumption) | with_reducible refine b_xor ?_ ?_ | with_reducible refine b_shr ?_)))))
local macro_rules | `(tactic| walk_at "binaryOp RShift int int") => `(tactic| ((with_reducible refine shr_n ?k1 ?_); (case k1 => first | decide | omega)))
local macro_rules | `(tactic| walk_at "inplaceOp RShift int int") => `(tactic| ((with_reducible refine ishr_n ?k1 ?_); (case k1 => first | decide | omega)))
local macro_rules | `(tactic| walk_at "binaryOp BitAnd int int") => `(tactic| first | (with_reducible refine and_n32 ?_) | (with_reducible refine and_n1 ?_))
-- the premises of a contract's use
local macro_rules | `(tactic| ktr_rel) => `(tactic| ((case k1 => k_asm); (case k2 => k_asm); (case k3 => k_asm); (case k4 => k_asm); (case k5 => k_asm); (case kK => first | exact rfl | assumption); (case kd => ktr_room); (case ku => ktr_units)))
local macro_rules | `(tactic| walk_at "call ref") => `(tactic| (k_here; (with_reducible show wpAny _ _ (call (Value.ref 21) [Value.int 32 _]) _ _ _); k_dflt (refine' use5 (c_mask32 _ _ _) ?k1 ?k2 ?k3 ?k4 ?k5 ?kK ?kd ?ku ?_; ktr_rel; intro t9 h9 tk9 ⟨F9, N9⟩; (try dsimp only); (try k_fold))))
-- the walk up to the next loop
local macro_rules | `(tactic| ktr_unf) => `(tactic| repeat' (first | (k_unfold; (try dsimp only)) | ((fail_if_success (with_reducible show wpAny _ _ (pyIter (Value.ref _)) _ _ _)); (fail_if_success (with_reducible show wpAny _ _ (exec (Stmt.While _ _ _ _) _) _ _ _)); first | (k_end; wrow_close) | walk1 | (dsimp only; walk1) | (leave1; (try dsimp only))) | fail "no step"))
local macro_rules | `(tactic| walk_at "subscriptTail") => `(tactic| (k_here; (with_reducible show wpAny _ _ (subscriptTail _ _ (Value.ref _) (Value.int _ _)) _ _ _); k_dflt (refine' item_bit ?n ?m ?i ?a ?b ?_ ?d; (case n => k_asm); (case m => first | assumption | exact List.Mem.tail _ (List.mem_append.mpr (.inl (by assumption)))); (case i => assumption); (case a => omega); (case b => omega); (case d => with_unfolding_all rfl)); intro t9))
local macro_rules | `(tactic| walk_at "call builtin:list.append") => `(tactic| (k_here; (with_reducible show wpAny _ _ (call (Value.builtin _) [Value.ref _, _]) _ _ _); k_dflt (refine' append_K ?k1 ?k2 (Upd.head ?k3) ?_ ?z; (case k1 => k_asm); (case k2 => k_asm); (case k3 => assumption); (case z => exact size_app (by assumption) (by assumption))); intro h' F' N'; (try k_sweep)))
set_option maxHeartbeats 8000000 in
theorem c_down (w : World) (news : List (Addr × Obj)) (l : Addr) (vs : List Value) (nn : Nat) (f : Nat → Bool) (k : Nat) (tk : Tok) (hl : (l, listOf vs.toArray nn) ∈ news) (hi : IntsAre vs (bl f)) (h1 : 1 ≤ k) (h2 : k ≤ 31) :
    Con5 1 w 110 [.ref l, .int (k : Int) tk] news (fun K Q => ∀ D ws c h' tk', K h' ((D, listOf ws.toArray c) :: news) → IntsAre ws (bl (dnB k f)) → (∀ p ∈ news, p.1 < D) → Q (.ref D) h' tk') := by
  delta Con5 Prog5; k_fill
  k_with_none
  intro p loose mean mg mb dp un gd cn cs a ccd cl outer A₀ base h₀ L m s Q E B F X N T hk hd hu hret
  refine wpAny_call ?_
  k_dflt cell_enter
  ktr_unf
  rename Fr _ _ _ _ => lF
  rename News _ _ _ _ => lN
  rename IsRange _ _ _ _ _ _ _ _ => rg
  rename (∀ p ∈ news, p.1 < _) => l1
  with_unfolding_all refine' loopR (σ := List Value × Nat) (n := 32) (fun _ c => (_, listOf c.1.toArray c.2) :: news) (fun _ _ => []) (fun i c => IntsAre c.1 (bli (dnB k f) i)) [] ([], 0) (by rfl) rg small32 size32 lF lN IntsAre.nil ?hk ?turn ?done
  case hk => exact List.forall_mem_nil _
  case turn =>
    rintro i ⟨ws, wn⟩ t' u' h' tk' own' hi' hoff hws F' N'
    dsimp only [kstB] at F' N' hws hoff
    simp only [List.cons_append, List.map_cons] at N' hoff
    have hne := ne_all l1 hoff
    clear lF lN rg
    try k_fold
    k_steps
    · refine' kst_end (c := (_, _)) ?e1 ?e2 led_in own_in rfl ?e3 (List.forall_mem_nil _) ?e4 trivial
      case e1 => k_asm
      case e2 => k_asm
      case e3 =>
        dsimp only
        rw [bli_dn1 (by assumption)]
        exact ints_snoc hws _ _
      case e4 => kst_same
    · refine' kst_end (c := (_, _)) ?e1 ?e2 led_in own_in rfl ?e3 (List.forall_mem_nil _) ?e4 trivial
      case e1 => k_asm
      case e2 => k_asm
      case e3 =>
        dsimp only
        rw [bli_dn2 (by assumption)]
        exact ints_snoc hws _ _
      case e4 => kst_same
  case done =>
    rintro ⟨ws, wn⟩ u' h' tk' hws F' N'
    dsimp only [kstB] at F' N' hws
    clear lF lN rg
    try k_fold
    k_steps
    exact hret _ _ _ _ _ ⟨by k_asm, by k_asm⟩ hws l1

theorem bits_are (n : Nat) : (rangeKs 0 (32 - 0 : Int).toNat).map (fun k' => ((n >>> k'.toNat : Nat) : Int).fmod 2) = bl n.testBit := by
  unfold rangeKs bl
  rw [List.map_map]
  refine List.map_congr_left fun i _ => ?_
  show ((n >>> (0 + (i : Int)).toNat : Nat) : Int).fmod 2 = _
  rw [show (0 + (i : Int)).toNat = i by omega, ← shrI]
  exact bitI n i
set_option maxHeartbeats 8000000 in
theorem c_bits (w : World) (news : List (Addr × Obj)) (n : Nat) (tk : Tok) :
    Con5 1 w 89 [.int (n : Int) tk] news (fun K Q => ∀ D ws c h' tk', K h' ((D, listOf ws.toArray c) :: news) → IntsAre ws (bl n.testBit) → LCg.Off1 D news → Q (.ref D) h' tk') := by
  delta Con5 Prog5; k_fill
  k_with_none
  intro p loose mean mg mb dp un gd cn cs a ccd cl outer A₀ base h₀ L m s Q E B F X N T hk hd hu hret
  refine wpAny_call ?_
  k_dflt (refine' code_defC ?k1 ?k2 ?k3 ?k4 ?k5 ?kA ?kF ?kK ?k6 ?k7 ?k8 ?k9 ?kB ?kD ?_ ?c2 ?c3 ?c4; (case kA => exact rfl); (case kF => exact rfl); (case kK => assumption); (case k1 => k_asm); (case k2 => k_asm); (case k3 => k_asm); (case k4 => k_asm); (case k5 => k_asm); (case k6 => k_is); (case k7 => k_is); (case k8 => ktr_room); (case k9 => exact BindsTo.of_eq rfl); (case kB => exact rfl); (case kD => decide +kernel); (case c2 => exact rfl); (case c3 => exact rfl); (case c4 => exact rfl); k_whole; intro g' L' h' tk' cells' FG' F' N' Y' B' X' T' l1; k_cells Y'; (try simp only [List.cons_append, List.nil_append] at N'); (try dsimp only); (try k_lift B'); (try k_fold))
  k_steps
  rename IntsAre _ _ => hI8
  rw [bits_are] at hI8
  rename Fr h₀ L _ m => hF8
  rename News h₀ L _ _ => hN8
  exact hret _ _ _ _ _ ⟨hF8, fun p hp => hN8 p (by
    rcases List.mem_cons.mp hp with h | h
    · rw [h]; with_unfolding_all exact List.Mem.head _
    · exact List.mem_cons_of_mem _ (List.mem_cons_of_mem _ h))⟩ hI8 (And.right (by assumption))
end Mine
end
section
open PySem PySem.W PySem.Spec PySem.Calls PyProof.Rows
set_option maxRecDepth 100000
namespace Mine
local macro_rules | `(tactic| walk_at "no such key") => `(tactic| skip)
local macro_rules | `(tactic| walk_at "no such key") => `(tactic| skip)
local macro_rules | `(tactic| walk_at "no such key") => `(tactic| skip)
local macro_rules | `(tactic| walk_at "no such key") => `(tactic| skip)
local macro_rules | `(tactic| walk_at "no such key") => `(tactic| skip)
local macro_rules | `(tactic| walk_at "no such key") => `(tactic| skip)
local macro_rules | `(tactic| walk_at "no such key") => `(tactic| skip)
local macro_rules | `(tactic| walk_at "no such key") => `(tactic| skip)
local macro_rules | `(tactic| walk_at "no such key") => `(tactic| skip)
local macro_rules | `(tactic| walk_at "no such key") => `(tactic| skip)
local macro_rules | `(tactic| walk_at "no such key") => `(tactic| skip)
local macro_rules | `(tactic| walk_at "no such key") => `(tactic| skip)
local macro_rules | `(tactic| walk_at "no such key") => `(tactic| skip)
local macro_rules | `(tactic| walk_at "no such key") => `(tactic| skip)
local macro_rules | `(tactic| walk_at "no such key") => `(tactic| skip)
local macro_rules | `(tactic| walk_at "no such key") => `(tactic| skip)
local macro_rules | `(tactic| walk_at "no such key") => `(tactic| skip)
local macro_rules | `(tactic| walk_at "no such key") => `(tactic| skip)
local macro_rules | `(tactic| walk_at "no such key") => `(tactic| skip)
local macro_rules | `(tactic| walk_at "no such key") => `(tactic| skip)
local macro_rules | `(tactic| walk_at "no such key") => `(tactic| skip)
local macro_rules | `(tactic| walk_at "no such key") => `(tactic| skip)
local macro_rules | `(tactic| walk_at "no such key") => `(tactic| skip)
local macro_rules | `(tactic| walk_at "no such key") => `(tactic| skip)
local macro_rules | `(tactic| walk_at "no such key") => `(tactic| skip)
local macro_rules | `(tactic| walk_at "no such key") => `(tactic| skip)
local macro_rules | `(tactic| walk_at "no such key") => `(tactic| skip)
local macro_rules | `(tactic| walk_at "no such key") => `(tactic| skip)
local macro_rules | `(tactic| walk_at "no such key") => `(tactic| skip)
local macro_rules | `(tactic| walk_at "no such key") => `(tactic| skip)
local macro_rules | `(tactic| walk_at "no such key") => `(tactic| skip)
local macro_rules | `(tactic| walk_at "no such key") => `(tactic| skip)
local macro_rules | `(tactic| walk_at "no such key") => `(tactic| skip)
local macro_rules | `(tactic| walk_at "no such key") => `(tactic| skip)
local macro_rules | `(tactic| walk_at "no such key") => `(tactic| skip)
local macro_rules | `(tactic| walk_at "no such key") => `(tactic| skip)
local macro_rules | `(tactic| walk_at "no such key") => `(tactic| skip)
local macro_rules | `(tactic| walk_at "no such key") => `(tactic| skip)
local macro_rules | `(tactic| walk_at "no such key") => `(tactic| skip)
local macro_rules | `(tactic| walk_at "no such key") => `(tactic| skip)
local macro_rules | `(tactic| walk_at "no such key") => `(tactic| skip)
local macro_rules | `(tactic| walk_at "no such key") => `(tactic| skip)
local macro_rules | `(tactic| walk_at "no such key") => `(tactic| skip)
local macro_rules | `(tactic| walk_at "no such key") => `(tactic| skip)
local macro_rules | `(tactic| walk_at "no such key") => `(tactic| skip)
local macro_rules | `(tactic| walk_at "no such key") => `(tactic| skip)
local macro_rules | `(tactic| walk_at "no such key") => `(tactic| skip)
local macro_rules | `(tactic| walk_at "no such key") => `(tactic| skip)
local macro_rules | `(tactic| walk_at "no such key") => `(tactic| skip)
local macro_rules | `(tactic| walk_at "no such key") => `(tactic| skip)
local macro_rules | `(tactic| walk_at "no such key") => `(tactic| skip)
local macro_rules | `(tactic| walk_at "no such key") => `(tactic| skip)
local macro_rules | `(tactic| walk_at "no such key") => `(tactic| skip)
local macro_rules | `(tactic| walk_at "no such key") => `(tactic| skip)
local macro_rules | `(tactic| walk_at "no such key") => `(tactic| skip)
local macro_rules | `(tactic| walk_at "no such key") => `(tactic| skip)
local macro_rules | `(tactic| walk_at "no such key") => `(tactic| skip)
local macro_rules | `(tactic| walk_at "no such key") => `(tactic| skip)
local macro_rules | `(tactic| walk_at "no such key") => `(tactic| skip)
local macro_rules | `(tactic| walk_at "no such key") => `(tactic| skip)
-- own lines of the walk: ints that are casts stay casts
local macro_rules | `(tactic| walk_at "binaryOp BitXor int int") => `(tactic| ((with_reducible refine xor_n ?_)))
local macro_rules | `(tactic| walk_at "inplaceOp BitXor int int") => `(tactic| ((with_reducible refine ixor_n ?_)))
local macro_rules | `(tactic| walk_at "binaryOp BitOr int int") => `(tactic| ((with_reducible refine or_n ?_)))
local macro_rules | `(tactic| walk_at "binaryOp LShift int int") => `(tactic| ((with_reducible refine shl_n ?k1 ?k2 ?k3 ?_); (case k1 => decide); (case k2 => decide); (case k3 => (repeat' (first | assumption | exact b_mod | exact b_up (by assumption) | with_reducible refine b_xor ?_ ?_ | with_reducible refine b_shr ?_)))))
local macro_rules | `(tactic| walk_at "binaryOp RShift int int") => `(tactic| ((with_reducible refine shr_n ?k1 ?_); (case k1 => first | decide | omega)))
local macro_rules | `(tactic| walk_at "inplaceOp RShift int int") => `(tactic| ((with_reducible refine ishr_n ?k1 ?_); (case k1 => first | decide | omega)))
local macro_rules | `(tactic| walk_at "binaryOp BitAnd int int") => `(tactic| first | (with_reducible refine and_n32 ?_) | (with_reducible refine and_n1 ?_))
-- the premises of a contract's use
local macro_rules | `(tactic| ktr_rel) => `(tactic| ((case k1 => k_asm); (case k2 => k_asm); (case k3 => k_asm); (case k4 => k_asm); (case k5 => k_asm); (case kK => first | exact rfl | assumption); (case kd => ktr_room); (case ku => ktr_units)))
local macro_rules | `(tactic| walk_at "call ref") => `(tactic| (k_here; (with_reducible show wpAny _ _ (call (Value.ref 21) [Value.int 32 _]) _ _ _); k_dflt (refine' use5 (c_mask32 _ _ _) ?k1 ?k2 ?k3 ?k4 ?k5 ?kK ?kd ?ku ?_; ktr_rel; intro t9 h9 tk9 ⟨F9, N9⟩; (try dsimp only); (try k_fold))))
-- the walk up to the next loop
local macro_rules | `(tactic| ktr_unf) => `(tactic| repeat' (first | (k_unfold; (try dsimp only)) | ((fail_if_success (with_reducible show wpAny _ _ (pyIter (Value.ref _)) _ _ _)); (fail_if_success (with_reducible show wpAny _ _ (exec (Stmt.While _ _ _ _) _) _ _ _)); first | (k_end; wrow_close) | walk1 | (dsimp only; walk1) | (leave1; (try dsimp only))) | fail "no step"))
theorem cw_up (w : World) (news : List (Addr × Obj)) (l : Addr) (vs : List Value) (nn : Nat) (f : Nat → Bool) (k : Int) (tk : Tok) (hl : (l, listOf vs.toArray nn) ∈ news) (hi : IntsAre vs (bl f)) (h1 : 1 ≤ k) (h2 : k ≤ 31) :
    Con5 1 w 103 [.ref l, .int k tk] news (fun K Q => ∀ D ws c h' tk', K h' ((D, listOf ws.toArray c) :: news) → IntsAre ws (bl (upB k.toNat f)) → (∀ p ∈ news, p.1 < D) → Q (.ref D) h' tk') := by
  obtain ⟨m, rfl⟩ := Int.eq_ofNat_of_zero_le (show 0 ≤ k by omega)
  exact c_up w news l vs nn f m tk hl hi (by omega) (by omega)
theorem cw_down (w : World) (news : List (Addr × Obj)) (l : Addr) (vs : List Value) (nn : Nat) (f : Nat → Bool) (k : Int) (tk : Tok) (hl : (l, listOf vs.toArray nn) ∈ news) (hi : IntsAre vs (bl f)) (h1 : 1 ≤ k) (h2 : k ≤ 31) :
    Con5 1 w 110 [.ref l, .int k tk] news (fun K Q => ∀ D ws c h' tk', K h' ((D, listOf ws.toArray c) :: news) → IntsAre ws (bl (dnB k.toNat f)) → (∀ p ∈ news, p.1 < D) → Q (.ref D) h' tk') := by
  obtain ⟨m, rfl⟩ := Int.eq_ofNat_of_zero_le (show 0 ≤ k by omega)
  exact c_down w news l vs nn f m tk hl hi (by omega) (by omega)
local macro_rules | `(tactic| walk_at "call ref") => `(tactic| (k_here; (with_reducible show wpAny _ _ (call (Value.ref 89) [Value.int (Nat.cast _) _]) _ _ _); k_dflt (refine' use5 (c_bits _ _ _ _) ?k1 ?k2 ?k3 ?k4 ?k5 ?kK ?kd ?ku ?_; ktr_rel; intro D9 ws9 c9 h9 tk9 ⟨F9, N9⟩ hI9 ho9; (try dsimp only); (try k_fold))))
local macro_rules | `(tactic| walk_at "call ref") => `(tactic| (k_here; (with_reducible show wpAny _ _ (call (Value.ref 103) [Value.ref _, Value.int _ _]) _ _ _); k_dflt (refine' use5 (cw_up _ _ _ _ _ _ _ _ ?m ?i ?q1 ?q2) ?k1 ?k2 ?k3 ?k4 ?k5 ?kK ?kd ?ku ?_; ktr_rel; (case m => k_mem); (case i => assumption); (case q1 => first | decide | omega); (case q2 => first | decide | omega); intro D9 ws9 c9 h9 tk9 ⟨F9, N9⟩ hI9 hl9; (try dsimp only); (try k_fold))))
local macro_rules | `(tactic| walk_at "call ref") => `(tactic| (k_here; (with_reducible show wpAny _ _ (call (Value.ref 110) [Value.ref _, Value.int _ _]) _ _ _); k_dflt (refine' use5 (cw_down _ _ _ _ _ _ _ _ ?m ?i ?q1 ?q2) ?k1 ?k2 ?k3 ?k4 ?k5 ?kK ?kd ?ku ?_; ktr_rel; (case m => k_mem); (case i => assumption); (case q1 => first | decide | omega); (case q2 => first | decide | omega); intro D9 ws9 c9 h9 tk9 ⟨F9, N9⟩ hI9 hl9; (try dsimp only); (try k_fold))))
local macro_rules | `(tactic| walk_at "call ref") => `(tactic| (k_here; (with_reducible show wpAny _ _ (call (Value.ref 96) [Value.ref _]) _ _ _); k_dflt (refine' use5 (c_number _ _ _ _ _ _ ?m ?i) ?k1 ?k2 ?k3 ?k4 ?k5 ?kK ?kd ?ku ?_; ktr_rel; (case m => k_mem); (case i => assumption); intro t9 h9 tk9 ⟨F9, N9⟩; (try dsimp only); (try k_fold))))
set_option maxHeartbeats 8000000 in
theorem c_step (w : World) (news : List (Addr × Obj)) (n : Nat) (tk : Tok) (hn : n < 2 ^ 32) :
    Con5 2 w 117 [.int (n : Int) tk] news (fun K Q => ∀ t h' tk', K h' news → Q (.int ((stepN n : Nat) : Int) t) h' tk') := by
  delta Con5 Prog5; k_fill
  k_with_none
  intro p loose mean mg mb dp un gd cn cs a ccd cl outer A₀ base h₀ L m s Q E B F X N T hk hd hu hret
  refine wpAny_call ?_
  k_dflt cell_enter
  k_steps
  rename Fr h₀ L _ m => hF8
  rename News h₀ L _ _ => hN8
  have e := step_bits n hn
  show Q (Value.int ((ofBits (upB 5 (dnB 17 (upB 13 n.testBit))) 32 : Nat) : Int) _) _
  rw [e]
  exact hret _ _ _ ⟨hF8, fun p hp => hN8 p (List.mem_cons_of_mem _ (List.mem_cons_of_mem _ (List.mem_cons_of_mem _ (List.mem_cons_of_mem _ hp))))⟩
end Mine
end
section
open PySem PySem.W PySem.Spec PySem.Calls PyProof.Rows PyProof.V
set_option maxRecDepth 100000
namespace Mine
abbrev tupO (its : Array Value) (n : Nat) : Obj := { cls := .type "tuple", data := .seq its n }
section
variable {prog : Program} {w : World} {A : Around} {E : Value → Shared → Prop} {s : Shared} {env : Env} {h₀ : Heap} {x : Str} {body : List Stmt} {Q : Flow → Shared → Prop}
/-- a loop over a tuple of the ledger, by what holds ahead of each turn -/
theorem loopT {σ : Type} {l : Addr} {vs : List Value} {nn : Nat} {m₀ : Str → Option Value} (Led : Nat → σ → List (Addr × Obj)) (ps : Nat → σ → List (Str × Value)) (Facts : Nat → σ → Prop) (stored : List Str) (c : σ)
    (hh : A.handled = none) (hl : ∀ i c', (l, tupO vs.toArray nn) ∈ Led i c') (F : Fr h₀ env.locals s.heap m₀) (N : News h₀ env.locals s.heap (Led 0 c)) (hf : Facts 0 c) (hk : ∀ p ∈ ps 0 c, m₀ p.1 = some p.2)
    (turn : ∀ (i : Nat) (c' : σ) v (u : Str → Option Value) h tk own, vs[i]? = some v → OwnOff own ((Led 0 c).map (·.1)) → Facts i c' →
      Fr h₀ env.locals h (fun y => if y = x then some v else kstB (fun z => if stored.contains z then u z else m₀ z) (ps i c') y) → News h₀ env.locals h (Led i c' ++ own) →
      wpAny (model prog w) A (execs body env) (InvPostN h₀ env.locals (At Led ps Facts x stored m₀ (i + 1)) own ((Led 0 c).map (·.1)) { s with heap := h, toks := tk } Q) E { s with heap := h, toks := tk })
    (done : ∀ (c' : σ) (u : Str → Option Value) h tk, Facts vs.length c' → Fr h₀ env.locals h (fun y => if y = x then u y else kstB (fun z => if stored.contains z then u z else m₀ z) (ps vs.length c') y) → News h₀ env.locals h (Led vs.length c') → Q .next { s with heap := h, toks := tk }) :
    wpAny (model prog w) A (pyIter (.ref l)) (fun it s₂ => LoopAtV prog w A h₀ env x body Q E it s₂) E s := by
  have hol : s.heap.get? l = some (tupO vs.toArray nn) := (N _ (hl 0 c)).1
  have hls : s.heap.IsTuple l vs.toArray := ⟨_, hol, rfl, nn, rfl⟩
  have hne : l ≠ s.heap.objs.size := Nat.ne_of_lt (Heap.lt_size hol)
  refine wpAny_pyIter_tuple hls ?_
  have W := Walks.tuple (prog := prog) (w := w) hh s.heap.objs.size l hne vs.toArray
  rw [List.size_toArray] at W
  refine ⟨_, _, _, vs.length, _, _, m₀, Led 0 c, (fun i m nx => nx.map (·.1) = (Led 0 c).map (·.1) ∧ At Led ps Facts x stored m₀ i m nx), rfl, W, ?_, ?_, ?_, ⟨⟨_, Heap.get?_push_size _ rfl, rfl, rfl⟩, hls.at fun o e => Heap.get?_push_of_some _ e⟩, F.push _, (fun p hp => ⟨Heap.get?_push_of_some _ (N p hp).1, (N p hp).2⟩), ⟨rfl, c, rfl, hf, hk, fun _ _ _ _ => rfl, trivial⟩, ?_, ?_⟩
  · intro hm
    rcases List.mem_cons.mp hm with e | hm
    · exact absurd F.ns.lt (e ▸ Nat.lt_irrefl _)
    · exact (N _ (hl 0 c)).2.1 ((List.mem_singleton.mp hm).symm)
  · intro b hb
    rw [List.mem_singleton.mp hb]
    exact next_is_new F
  · intro p hp hI
    exact absurd (Heap.lt_size (N p hp).1) ((List.mem_singleton.mp hI) ▸ Nat.lt_irrefl _)
  · rintro i v m₁ nx s₁ own ⟨hh', tk', rfl⟩ hin hP ⟨hadr, c', rfl, hf', h1, h2, _⟩ hoff hown hget hfp _ F₁ N₁
    have hsep : OwnOff (own.filter fun p => decide (p.1 = s.heap.objs.size)) ((Led 0 c).map (·.1)) := by
      intro p hp b hb e
      obtain ⟨q, hq, rfl⟩ := List.mem_map.mp hb
      have h1 : p.1 = s.heap.objs.size := by simpa using (List.mem_filter.mp hp).2
      exact absurd (Heap.lt_size (N q hq).1) (by rw [← e, h1]; exact Nat.lt_irrefl _)
    have hP' : vs[i]? = some v := by simpa using hP
    have N₂ : News h₀ env.locals hh' (Led i c' ++ own.filter fun p => decide (p.1 = s.heap.objs.size)) := fun p hp => N₁ p ((List.mem_append.mp hp).elim (fun h => List.mem_append.mpr (.inr h)) fun h => List.mem_append.mpr (.inl ((List.mem_filter.mp h).1)))
    have hlo : hh'.get? l = some (tupO vs.toArray nn) := (N₁ _ (List.mem_append.mpr (.inr (hl i c')))).1
    refine wpAny_mono (turn i c' v m₁ hh' tk' _ hP' hsep hf' (kst_fr h1 h2 F₁) N₂) (fun f s₂ p => ?_) fun _ _ e => e
    have fin : InvEndN h₀ env.locals (At Led ps Facts x stored m₀ (i + 1)) (own.filter fun p => decide (p.1 = s.heap.objs.size)) ((Led 0 c).map (·.1)) { s with heap := hh', toks := tk' } s₂ →
        LoopStepU h₀ env.locals [s.heap.objs.size] own (fun m nx => nx.map (·.1) = (Led 0 c).map (·.1) ∧ At Led ps Facts x stored m₀ (i + 1) m nx) { s with heap := hh', toks := tk' } .next s₂ := by
      rintro ⟨h', tk, m', news', nx, e, F', N', hn, ho, ha, hm⟩
      have hmem : (l, tupO vs.toArray nn) ∈ nx := by
        obtain ⟨c'', hnx, _⟩ := hm
        rw [hnx]; exact hl (i + 1) c''
      refine ⟨rfl, h', tk, m', nx, e, F', fun p hp => ?_, fun p hp => ?_, ha, hm⟩
      · rcases List.mem_append.mp hp with h | h
        · by_cases hI : p.1 = s.heap.objs.size
          · exact N' p (ho p (List.mem_filter.mpr ⟨h, by simpa using hI⟩))
          · have h1 : p.1 = l := by
              rcases List.mem_cons.mp (hown p h) with h2 | h2
              · exact absurd h2 hI
              · exact List.mem_singleton.mp h2
            have h2 : hh'.get? p.1 = some p.2 := hget p h
            rw [h1, hlo] at h2
            have h3 : p = (l, tupO vs.toArray nn) := Prod.ext h1 (Option.some.inj h2).symm
            rw [h3]
            exact N' _ (hn _ hmem)
        · exact N' p (hn p h)
      · have h1 : p.1 ∈ nx.map (·.1) := List.mem_map.mpr ⟨p, hp, rfl⟩
        rw [ha] at h1
        obtain ⟨q, hq, e⟩ := List.mem_map.mp h1
        intro hI
        exact absurd (Heap.lt_size (N q hq).1) (by rw [e, List.mem_singleton.mp hI]; exact Nat.lt_irrefl _)
    cases f with
    | ret v => exact .ret p
    | brk => exact .brk p
    | next => exact .next (fin p)
    | cont => exact .cont (fin p)
  · rintro h' tk m' news' F' N' _ ⟨_, c', rfl, hf', h1, h2, _⟩
    exact done c' m' h' tk hf' (kst_frOut h1 h2 F') N'
end
end Mine
end
section
open PySem PySem.W PySem.Spec PySem.Calls PyProof.Rows
set_option maxRecDepth 100000
namespace Mine
-- own lines of the walk: ints that are casts stay casts
local macro_rules | `(tactic| walk_at "binaryOp BitXor int int") => `(tactic| ((with_reducible refine xor_n ?_)))
local macro_rules | `(tactic| walk_at "inplaceOp BitXor int int") => `(tactic| ((with_reducible refine ixor_n ?_)))
local macro_rules | `(tactic| walk_at "binaryOp BitOr int int") => `(tactic| ((with_reducible refine or_n ?_)))
local macro_rules | `(tactic| walk_at "binaryOp LShift int int") => `(tactic| ((with_reducible refine shl_n ?k1 ?k2 ?k3 ?_); (case k1 => decide); (case k2 => decide); (case k3 => (repeat' (first | assumption | exact b_mod | exact b_up (by assumption) | with_reducible refine b_xor ?_ ?_ | with_reducible refine b_shr ?_)))))
local macro_rules | `(tactic| walk_at "binaryOp RShift int int") => `(tactic| ((with_reducible refine shr_n ?k1 ?_); (case k1 => first | decide | omega)))
local macro_rules | `(tactic| walk_at "inplaceOp RShift int int") => `(tactic| ((with_reducible refine ishr_n ?k1 ?_); (case k1 => first | decide | omega)))
local macro_rules | `(tactic| walk_at "binaryOp BitAnd int int") => `(tactic| first | (with_reducible refine and_n32 ?_) | (with_reducible refine and_n1 ?_))
-- the premises of a contract's use
local macro_rules | `(tactic| ktr_rel) => `(tactic| ((case k1 => k_asm); (case k2 => k_asm); (case k3 => k_asm); (case k4 => k_asm); (case k5 => k_asm); (case kK => first | exact rfl | assumption); (case kd => ktr_room); (case ku => ktr_units)))
local macro_rules | `(tactic| walk_at "call ref") => `(tactic| (k_here; (with_reducible show wpAny _ _ (call (Value.ref 21) [Value.int 32 _]) _ _ _); k_dflt (refine' use5 (c_mask32 _ _ _) ?k1 ?k2 ?k3 ?k4 ?k5 ?kK ?kd ?ku ?_; ktr_rel; intro t9 h9 tk9 ⟨F9, N9⟩; (try dsimp only); (try k_fold))))
theorem cw_running (w : World) (news : List (Addr × Obj)) (x : Int) (n : Nat) (tk : Tok) (hx : x = (n : Int)) (hn : n < 2 ^ 64) :
    Con5 1 w 124 [.int x tk] news (fun K Q => ∀ t h' tk', K h' news → Q (.int ((fromGrayN n : Nat) : Int) t) h' tk') := by subst hx; exact c_running w news n tk hn
theorem cw_from_gray (w : World) (news : List (Addr × Obj)) (x : Int) (n : Nat) (tk : Tok) (hx : x = (n : Int)) (hn : n < 2 ^ 64) :
    Con5 1 w 49 [.int x tk] news (fun K Q => ∀ t h' tk', K h' news → Q (.int ((fromGrayN n : Nat) : Int) t) h' tk') := by subst hx; exact c_from_gray w news n tk hn
theorem cw_parity (w : World) (news : List (Addr × Obj)) (x : Int) (n : Nat) (tk : Tok) (hx : x = (n : Int)) :
    Con5 1 w 28 [.int x tk] news (fun K Q => ∀ t h' tk', K h' news → Q (.int ((parityN n : Nat) : Int) t) h' tk') := by subst hx; exact c_parity w news n tk
theorem rev_ints {ys : List Value} {f : Nat → Bool} (h : IntsAre ys ((rangeKs 0 (32 - 0 : Int).toNat).map (fun k' => ((f (31 - k').toNat).toNat : Int)))) : IntsAre ys (bl fun i => f (31 - i)) := by
  have e : (rangeKs 0 (32 - 0 : Int).toNat).map (fun k' => ((f (31 - k').toNat).toNat : Int)) = bl fun i => f (31 - i) := by
    unfold rangeKs bl
    rw [List.map_map]
    refine List.map_congr_left fun i hi => ?_
    show ((f (31 - (0 + (i : Int))).toNat).toNat : Int) = _
    rw [show (31 - (0 + (i : Int))).toNat = 31 - i by omega]
  rw [← e]; exact h
-- the bounds of the numbers that the law hands on
theorem wide_lt {a b : Nat} (ha : a < 2 ^ 32) (hb : b < 2 ^ 32) : a * 4294967296 + b < 2 ^ 64 := by omega
theorem wide_is (a b : Nat) : (a : Int) * 4294967296 + (b : Int) = ((a * 4294967296 + b : Nat) : Int) := by omega
local macro_rules | `(tactic| ktr_unf) => `(tactic| (with_reducible first | assumption | exact ofBits_lt _ 32 | exact step_lt (by assumption) | exact step_lt (step_lt (by assumption)) | exact Nat.xor_lt_two_pow (by assumption) (by assumption) | exact step_lt (Nat.xor_lt_two_pow (by assumption) (by assumption)) | exact rev_lt 32 _ | exact undoL_lt (rev_lt 32 _)))
local macro_rules | `(tactic| walk_at "call ref") => `(tactic| (k_here; (with_reducible show wpAny _ _ (call (Value.ref 84) [Value.int _ _, Value.int _ _]) _ _ _); k_dflt (refine' use5 (c_state _ _ _ _ _ _) ?k1 ?k2 ?k3 ?k4 ?k5 ?kK ?kd ?ku ?_; ktr_rel; intro m9 hm9 t9 h9 tk9 ⟨F9, N9⟩; (try dsimp only); (try k_fold))))
local macro_rules | `(tactic| walk_at "call ref") => `(tactic| (k_here; (with_reducible show wpAny _ _ (call (Value.ref 117) [Value.int (Nat.cast _) _]) _ _ _); k_dflt (refine' use5 (c_step _ _ _ _ ?q1) ?k1 ?k2 ?k3 ?k4 ?k5 ?kK ?kd ?ku ?_; ktr_rel; (case q1 => ktr_unf); intro t9 h9 tk9 ⟨F9, N9⟩; (try dsimp only); (try k_fold))))
local macro_rules | `(tactic| walk_at "call ref") => `(tactic| (k_here; (with_reducible show wpAny _ _ (call (Value.ref 56) [Value.int (Nat.cast _) _]) _ _ _); k_dflt (refine' use5 (c_xorshift _ _ _ _ ?q1) ?k1 ?k2 ?k3 ?k4 ?k5 ?kK ?kd ?ku ?_; ktr_rel; (case q1 => ktr_unf); intro t9 h9 tk9 ⟨F9, N9⟩; (try dsimp only); (try k_fold))))
local macro_rules | `(tactic| walk_at "call ref") => `(tactic| (k_here; (with_reducible show wpAny _ _ (call (Value.ref 77) [Value.int (Nat.cast _) _]) _ _ _); k_dflt (refine' use5 (c_back _ _ _ _ ?q1) ?k1 ?k2 ?k3 ?k4 ?k5 ?kK ?kd ?ku ?_; ktr_rel; (case q1 => ktr_unf); intro t9 h9 tk9 ⟨F9, N9⟩; (try dsimp only); (try k_fold))))
local macro_rules | `(tactic| walk_at "call ref") => `(tactic| (k_here; (with_reducible show wpAny _ _ (call (Value.ref 131) [Value.int _ _, Value.int _ _]) _ _ _); k_dflt (refine' use5 (c_turn _ _ _ _ _ _ ?q1 ?q2) ?k1 ?k2 ?k3 ?k4 ?k5 ?kK ?kd ?ku ?_; ktr_rel; (case q1 => omega); (case q2 => omega); intro to9 ha9 hb9 hc9 t9 h9 tk9 ⟨F9, N9⟩; (try dsimp only); (try k_fold))))
local macro_rules | `(tactic| walk_at "call ref") => `(tactic| (k_here; (with_reducible show wpAny _ _ (call (Value.ref 35) [Value.int (Nat.cast _) _, Value.int 32 _]) _ _ _); k_dflt (refine' use5 (c_reversed _ _ _ _ _) ?k1 ?k2 ?k3 ?k4 ?k5 ?kK ?kd ?ku ?_; ktr_rel; intro t9 h9 tk9 ⟨F9, N9⟩; (try dsimp only); (try k_fold))))
local macro_rules | `(tactic| walk_at "call ref") => `(tactic| (k_here; (with_reducible show wpAny _ _ (call (Value.ref 42) [Value.int (Nat.cast _) _]) _ _ _); k_dflt (refine' use5 (c_to_gray _ _ _ _) ?k1 ?k2 ?k3 ?k4 ?k5 ?kK ?kd ?ku ?_; ktr_rel; intro t9 h9 tk9 ⟨F9, N9⟩; (try dsimp only); (try k_fold))))
local macro_rules | `(tactic| walk_at "call ref") => `(tactic| (k_here; (with_reducible show wpAny _ _ (call (Value.ref 124) [Value.int _ _]) _ _ _); k_dflt (refine' use5 (cw_running _ _ _ _ _ ?q1 ?q2) ?k1 ?k2 ?k3 ?k4 ?k5 ?kK ?kd ?ku ?_; ktr_rel; (case q1 => first | exact rfl | exact wide_is _ _); (case q2 => first | exact b_up (by assumption) | exact wide_lt (by assumption) (by assumption)); intro t9 h9 tk9 ⟨F9, N9⟩; (try dsimp only); (try k_fold))))
local macro_rules | `(tactic| walk_at "call ref") => `(tactic| (k_here; (with_reducible show wpAny _ _ (call (Value.ref 49) [Value.int _ _]) _ _ _); k_dflt (refine' use5 (cw_from_gray _ _ _ _ _ ?q1 ?q2) ?k1 ?k2 ?k3 ?k4 ?k5 ?kK ?kd ?ku ?_; ktr_rel; (case q1 => first | exact rfl | exact wide_is _ _); (case q2 => first | exact b_up (by assumption) | exact b_up (rev_lt 32 _) | exact wide_lt (by assumption) (by assumption)); intro t9 h9 tk9 ⟨F9, N9⟩; (try dsimp only); (try k_fold))))
local macro_rules | `(tactic| walk_at "call ref") => `(tactic| (k_here; (with_reducible show wpAny _ _ (call (Value.ref 28) [Value.int _ _]) _ _ _); k_dflt (refine' use5 (cw_parity _ _ _ _ _ ?q1) ?k1 ?k2 ?k3 ?k4 ?k5 ?kK ?kd ?ku ?_; ktr_rel; (case q1 => first | exact rfl | exact wide_is _ _); intro t9 h9 tk9 ⟨F9, N9⟩; (try dsimp only); (try k_fold))))
theorem cw_bits (w : World) (news : List (Addr × Obj)) (x : Int) (n : Nat) (tk : Tok) (hx : x = (n : Int)) :
    Con5 1 w 89 [.int x tk] news (fun K Q => ∀ D ws c h' tk', K h' ((D, listOf ws.toArray c) :: news) → IntsAre ws (bl n.testBit) → LCg.Off1 D news → Q (.ref D) h' tk') := by subst hx; exact c_bits w news n tk
theorem low_is (x : Int) : x.fmod 4294967296 = (((x.fmod 4294967296).toNat : Nat) : Int) := (Int.toNat_of_nonneg (Int.fmod_nonneg_of_pos _ (by decide))).symm
theorem k_lo (x : Int) : 1 ≤ 1 + x.fmod 31 := by have : 0 ≤ x.fmod 31 := Int.fmod_nonneg_of_pos _ (by decide); omega
theorem k_hi (x : Int) : 1 + x.fmod 31 ≤ 31 := by have : x.fmod 31 < 31 := Int.fmod_lt_of_pos _ (by decide); omega
theorem c_laid (w : World) (news : List (Addr × Obj)) (raw : Int) (l : Nat) (k : Int) (tk tk2 : Tok) (hr : Builtin.Int.intBits raw ≤ 1048576) (hl : l < 2 ^ 32) (h1 : 1 ≤ k) (h2 : k ≤ 31) :
    Con5 2 w 63 [.int (raw - raw.fmod 4294967296 + (l : Int)) tk, .int k tk2] news (fun K Q => ∀ t h' tk', K h' news → Q (.int (4294967296 * raw.fdiv 4294967296 + ((undoLN k.toNat l : Nat) : Int)) t) h' tk') := by
  refine cw_undo_left w news _ (raw.fdiv 4294967296) l k tk tk2 ?_ hl ?_ h1 h2
  · have := Int.mul_fdiv_add_fmod raw 4294967296
    omega
  · exact Nat.le_trans (intBits_add_le (intBits_sub_le hr (intBits_fmod_le hr (n := 64) (by decide +kernel))) (n := 64) (intBits_le_iff.mpr (show (l : Int).natAbs < 2 ^ 64 by omega))) (by decide)
local macro_rules | `(tactic| walk_at "call ref") => `(tactic| (k_here; (with_reducible show wpAny _ _ (call (Value.ref 63) [Value.int (_ - _ + _) _, Value.int _ _]) _ _ _); k_dflt (refine' use5 (c_laid _ _ _ _ _ _ _ ?q0 ?q1 ?q2 ?q3) ?k1 ?k2 ?k3 ?k4 ?k5 ?kK ?kd ?ku ?_; ktr_rel; (case q0 => bits_by_make); (case q1 => ktr_unf); (case q2 => exact k_lo _); (case q3 => exact k_hi _); intro t9 h9 tk9 ⟨F9, N9⟩; (try dsimp only); (try k_fold))))
local macro_rules | `(tactic| walk_at "call ref") => `(tactic| (k_here; (with_reducible show wpAny _ _ (call (Value.ref 89) [Value.int _ _]) _ _ _); k_dflt (refine' use5 (cw_bits _ _ _ _ _ ?q1) ?k1 ?k2 ?k3 ?k4 ?k5 ?kK ?kd ?ku ?_; ktr_rel; (case q1 => first | exact rfl | exact low_is _); intro D9 ws9 c9 h9 tk9 ⟨F9, N9⟩ hI9 ho9; (simp only [LCg.Off1, and_true] at ho9); (try dsimp only); (try k_fold))))
local macro_rules | `(tactic| walk_at "call ref") => `(tactic| (k_here; (with_reducible show wpAny _ _ (call (Value.ref 103) [Value.ref _, Value.int _ _]) _ _ _); k_dflt (refine' use5 (cw_up _ _ _ _ _ _ _ _ ?m ?i ?q1 ?q2) ?k1 ?k2 ?k3 ?k4 ?k5 ?kK ?kd ?ku ?_; ktr_rel; (case m => k_mem); (case i => assumption); (case q1 => first | decide | exact k_lo _); (case q2 => first | decide | exact k_hi _); intro D9 ws9 c9 h9 tk9 ⟨F9, N9⟩ hI9 hl9; (k_lt hl9); (try dsimp only); (try k_fold))))
local macro_rules | `(tactic| walk_at "call ref") => `(tactic| (k_here; (with_reducible show wpAny _ _ (call (Value.ref 110) [Value.ref _, Value.int _ _]) _ _ _); k_dflt (refine' use5 (cw_down _ _ _ _ _ _ _ _ ?m ?i ?q1 ?q2) ?k1 ?k2 ?k3 ?k4 ?k5 ?kK ?kd ?ku ?_; ktr_rel; (case m => k_mem); (case i => assumption); (case q1 => first | decide | exact k_lo _); (case q2 => first | decide | exact k_hi _); intro D9 ws9 c9 h9 tk9 ⟨F9, N9⟩ hI9 hl9; (k_lt hl9); (try dsimp only); (try k_fold))))
local macro_rules | `(tactic| walk_at "call ref") => `(tactic| (k_here; (with_reducible show wpAny _ _ (call (Value.ref 96) [Value.ref _]) _ _ _); k_dflt (refine' use5 (c_number _ _ _ _ _ _ ?m ?i) ?k1 ?k2 ?k3 ?k4 ?k5 ?kK ?kd ?ku ?_; ktr_rel; (case m => k_mem); (case i => first | assumption | exact rev_ints (by assumption)); intro t9 h9 tk9 ⟨F9, N9⟩; (try dsimp only); (try k_fold))))
local macro_rules | `(tactic| walk_at "call ref") => `(tactic| (k_here; (with_reducible show wpAny _ _ (call (Value.ref 70) [Value.int (Nat.cast _) _, Value.int _ _]) _ _ _); k_dflt (refine' use5 (cn_undo_right _ _ _ _ _ _ ?q2 ?q3) ?k1 ?k2 ?k3 ?k4 ?k5 ?kK ?kd ?ku ?_; ktr_rel; (case q2 => first | decide | exact k_lo _); (case q3 => first | decide | exact k_hi _); intro t9 h9 tk9 ⟨F9, N9⟩; (try dsimp only); (try k_fold))))
local macro_rules | `(tactic| walk_at "call ref") => `(tactic| (k_here; (with_reducible show wpAny _ _ (call (Value.ref 63) [Value.int (Nat.cast _) _, Value.int _ _]) _ _ _); k_dflt (refine' use5 (cn_undo_left _ _ _ _ _ _ ?q1 ?q2 ?q3) ?k1 ?k2 ?k3 ?k4 ?k5 ?kK ?kd ?ku ?_; ktr_rel; (case q1 => ktr_unf); (case q2 => first | decide | exact k_lo _); (case q3 => first | decide | exact k_hi _); intro t9 h9 tk9 ⟨F9, N9⟩; (try dsimp only); (try k_fold))))
/-- the orbit -/
def orbN (a : Nat) : Nat → Nat
  | 0 => a
  | i + 1 => stepN (orbN a i)
theorem orb_lt {a : Nat} (ha : a < 2 ^ 32) : ∀ i, orbN a i < 2 ^ 32
  | 0 => ha
  | i + 1 => step_lt (orb_lt ha i)
theorem orb_back {a : Nat} (ha : a < 2 ^ 32) (i : Nat) : backN (orbN a (i + 1)) = orbN a i := N1 (orb_lt ha i)
theorem orb_up {a at' : Nat} {to : Int} (hc : to = (at' : Int) + 1 ∨ to = (at' : Int) - 1) (h : (at' : Int) < to) : ((stepN (orbN a at') : Nat) : Int) = ((orbN a to.toNat : Nat) : Int) := by
  have : to.toNat = at' + 1 := by omega
  rw [this]; rfl
theorem orb_dn {a at' : Nat} {to : Int} (ha : a < 2 ^ 32) (hc : to = (at' : Int) + 1 ∨ to = (at' : Int) - 1) (h : ¬ (at' : Int) < to) (h0 : 0 ≤ to) : ((backN (orbN a at') : Nat) : Int) = ((orbN a to.toNat : Nat) : Int) := by
  have : at' = to.toNat + 1 := by omega
  rw [this, orb_back ha]
theorem orb_dnS {a at' : Nat} {to : Int} {t : Tok} (ha : a < 2 ^ 32) (hc : to = (at' : Int) + 1 ∨ to = (at' : Int) - 1) (h : ¬ (at' : Int) < to) (h0 : 0 ≤ to) : some (Value.int ((backN (orbN a at') : Nat) : Int) t) = some (Value.int ((orbN a to.toNat : Nat) : Int) t) := by
  rw [orb_dn ha hc h h0]
theorem e1 (a b : Nat) : ((stepN (a ^^^ b) : Nat) : Int) = ((stepN a ^^^ stepN b : Nat) : Int) := by rw [lin_step]
theorem e3 {a b : Nat} (ha : a < 2 ^ 32) (hb : b < 2 ^ 32) : ((backN (stepN (a ^^^ b)) : Nat) : Int) = ((a ^^^ b : Nat) : Int) := by rw [N1 (Nat.xor_lt_two_pow ha hb)]
theorem kN (x : Int) : 1 ≤ (1 + x.fmod 31).toNat := by have := k_lo x; omega
theorem e4 (raw x : Int) : 4294967296 * raw.fdiv 4294967296 + ((undoLN (1 + x.fmod 31).toNat (ofBits (upB (1 + x.fmod 31).toNat (raw.fmod 4294967296).toNat.testBit) 32) : Nat) : Int) = raw := by
  have h1 := low_is raw
  have h2 : raw.fmod 4294967296 < 4294967296 := Int.fmod_lt_of_pos _ (by decide)
  rw [up_bits _ _ (by omega), N2 (kN x), ← h1]
  exact Int.mul_fdiv_add_fmod raw 4294967296
theorem e5 {b : Nat} (x : Int) (hb : b < 2 ^ 32) : ((undoRN (1 + x.fmod 31).toNat (ofBits (dnB (1 + x.fmod 31).toNat b.testBit) 32) : Nat) : Int) = (b : Int) := by
  rw [dn_bits _ _ hb, N3 (kN x) hb]
theorem e6 (f : Nat → Bool) : ((revN 32 (ofBits f 32) : Nat) : Int) = ((ofBits (fun i => f (31 - i)) 32 : Nat) : Int) := by rw [rev_bits]
theorem e7 {b : Nat} (x : Int) (hb : b < 2 ^ 32) : ((revN 32 (undoLN (1 + x.fmod 31).toNat (revN 32 (ofBits (dnB (1 + x.fmod 31).toNat b.testBit) 32))) : Nat) : Int) = (b : Int) := by
  rw [N4 (ofBits_lt _ 32)]; exact e5 x hb
theorem e9 {b : Nat} (hb : b < 2 ^ 32) : ((undoRN (1 : Int).toNat b : Nat) : Int) = ((fromGrayN b : Nat) : Int) := by rw [show (1 : Int).toNat = 1 from rfl, N6 hb]
theorem e10 {b : Nat} (hb : b < 2 ^ 32) : ((undoLN (1 : Int).toNat b : Nat) : Int) = ((revN 32 (fromGrayN (revN 32 b)) : Nat) : Int) := by rw [show (1 : Int).toNat = 1 from rfl, N7 hb]
theorem e11 {b : Nat} (hb : b < 2 ^ 32) : ((undoLN (1 : Int).toNat b >>> (31 : Int).toNat : Nat) : Int) = ((fromGrayN b : Nat) : Int).fmod 2 := by
  rw [show (1 : Int).toNat = 1 from rfl, show (31 : Int).toNat = 31 from rfl, N8 hb, show (2 : Int) = ((2 : Nat) : Int) from rfl, modI]
theorem e12 {b : Nat} (hb : b < 2 ^ 64) : ((parityN b : Nat) : Int) = ((fromGrayN b : Nat) : Int).fmod 2 := by
  rw [N9 hb, show (2 : Int) = ((2 : Nat) : Int) from rfl, modI]
theorem e14 {a b : Nat} (ha : a < 2 ^ 32) (hb : b < 2 ^ 32) : ((toGrayN (fromGrayN (a * 4294967296 + b)) : Nat) : Int) = (a : Int) * 4294967296 + (b : Int) := by rw [N10 (wide_lt ha hb), wide_is]
theorem ne_same {prog : Program} {w : World} {A : Around} {E : Value → Shared → Prop} {s : Shared} {Q : Value → Shared → Prop} {x y : Int} {t u : Tok} (e : x = y) (h : Q (.bool false) s) : wpAny (model prog w) A (compareOp .NotEq (.int x t) (.int y u)) Q E s :=
  ne_int (by subst e; simpa using h)
theorem idx_lo {k : Int} (h : k < 0 + ((32 - 0 : Int).toNat : Int)) : 0 ≤ 31 - k := by omega
theorem idx_hi {k : Int} (h : 0 ≤ k) : 31 - k < 32 := by omega
theorem ints_get {vs : List Value} {zs : List Int} (h : IntsAre vs zs) : ∀ {i : Nat} {v : Value}, vs[i]? = some v → ∃ z t, v = .int z t := by
  induction h with
  | nil => intro i v hv; simp at hv
  | cons n t _ ih =>
    intro i v hv
    cases i with
    | zero => simp at hv; exact ⟨n, t, hv.symm⟩
    | succ i => simp at hv; exact ih hv
theorem item_orb {prog : Program} {w : World} {A : Around} {E : Value → Shared → Prop} {s : Shared} {value slice : PySem.Expr} {h₀ : Heap} {L : Addr} {news : List (Addr × Obj)} {l : Addr} {vs : List Value} {nn : Nat} {k : Int} {u : Tok} {a : Nat} {Q : Value → Shared → Prop}
    (N : News h₀ L s.heap news) (hl : (l, listOf vs.toArray nn) ∈ news) (hi : IntsAre vs [(a : Int), ((stepN a : Nat) : Int), ((stepN (stepN a) : Nat) : Int), ((stepN (stepN (stepN a)) : Nat) : Int)]) (h0 : 0 ≤ k) (h1 : k ≤ 3) (h : ∀ t, Q (.int ((orbN a k.toNat : Nat) : Int) t) s)
    (hs : subscripted slice false (.ref l) (.int k u) = operate [.ref l, .int k u] (getItem (.ref l) (.int k u)) := by with_unfolding_all rfl) :
    wpAny (model prog w) A (subscriptTail value slice (.ref l) (.int k u)) Q E s := by
  have hls : s.heap.IsList l vs.toArray := ⟨_, (N _ hl).1, rfl, nn, rfl⟩
  have hg : [(a : Int), ((stepN a : Nat) : Int), ((stepN (stepN a) : Nat) : Int), ((stepN (stepN (stepN a)) : Nat) : Int)][k.toNat]? = some ((orbN a k.toNat : Nat) : Int) := by
    have : k.toNat = 0 ∨ k.toNat = 1 ∨ k.toNat = 2 ∨ k.toNat = 3 := by omega
    rcases this with e | e | e | e <;> rw [e] <;> rfl
  obtain ⟨t, hx⟩ := hi.get k.toNat _ hg
  exact tail_any hls.typeIs slot_list_getitem.lookup (wpAny_getItem_list hls h0 (by omega) (by simpa using hx) (h t)) hs
local macro_rules | `(tactic| walk_at "subscriptTail Name Name ref int") => `(tactic| (k_here; (with_reducible show wpAny _ _ (subscriptTail _ _ (Value.ref _) (Value.int _ _)) _ _ _); k_dflt (refine' item_orb ?n ?m ?i ?a ?b ?_ ?d; (case n => k_asm); (case m => k_mem); (case i => exact (.cons _ _ (.cons _ _ (.cons _ _ (.cons _ _ .nil))))); (case a => omega); (case b => omega); (case d => with_unfolding_all rfl)); intro t9))
local macro_rules | `(tactic| ktr_unf) => `(tactic| with_reducible exact orb_lt (by assumption) _)
local macro_rules | `(tactic| walk_at "compareOp NotEq int int") => `(tactic| (k_here; (with_reducible show wpAny _ _ (compareOp CmpOp.NotEq (Value.int _ _) (Value.int _ _)) _ _ _); k_dflt (refine' ne_same ?e ?_; (case e => with_reducible first | exact rfl | exact e1 _ _ | exact e3 (by assumption) (by assumption) | exact e4 _ _ | exact e5 _ (by assumption) | exact e6 _ | exact e7 _ (by assumption) | exact e9 (by assumption) | exact e10 (by assumption) | exact e11 (by assumption) | exact e12 (b_up (by assumption)) | exact e12 (wide_lt (by assumption) (by assumption)) | exact e14 (by assumption) (by assumption) | exact orb_up (by assumption) (by assumption) | exact orb_dn (by assumption) (by assumption) (by assumption) (by assumption)); (try dsimp only))))
local macro_rules | `(tactic| walk_at "subscriptTail Name BinOp ref int") => `(tactic| (k_here; (with_reducible show wpAny _ _ (subscriptTail _ _ (Value.ref _) (Value.int _ _)) _ _ _); k_dflt (refine' item_bit ?n ?m ?i ?a ?b ?_ ?d; (case n => k_asm); (case m => k_mem); (case i => with_reducible assumption); (case a => exact idx_lo (by with_reducible assumption)); (case b => exact idx_hi (by with_reducible assumption)); (case d => with_unfolding_all rfl)); intro t9))
local macro_rules | `(tactic| walk_at "eval Call") => `(tactic| (k_here; (with_reducible show wpAny _ _ (eval (Expr.Call (Expr.Name _ _) _ [] _) _) _ _ _); k_dflt (refine Call_ ?_)))
local macro_rules | `(tactic| walk_at "exec For Name Tuple cons nil") => `(tactic| (k_here; (rename Fr _ _ _ _ => lF'); (with_unfolding_all refine' For_invVF lF' ?k1 ?k2 ?_; (case k1 => exact rfl); (case k2 => exact rfl); k_whole)))
set_option maxHeartbeats 40000000 in
set_option maxRecDepth 100000 in
theorem law5 : PySem.Challenge.rw_sx_zbitworks_5.Holds := hd5 (by
  k_with_none
  w_strict (
    k_go0
    (all_goals try k_fold)
    repeat' (first | (k_unfold; (try dsimp only)) | ((fail_if_success (with_reducible show wpAny _ _ (pyIter (Value.ref _)) _ _ _)); first | (k_end; wrow_close) | walk1 | (dsimp only; walk1) | (leave1; (try dsimp only))) | fail "no step")
    rename Fr _ _ _ _ => lF
    rename News _ _ _ _ => lN
    with_unfolding_all refine' loopT (σ := Nat × Tok × Tok) (fun _ _ => _) (fun _ c => [(Str.ofString "x", .int ((orbN _ c.1 : Nat) : Int) c.2.1), (Str.ofString "at", .int (c.1 : Int) c.2.2)]) (fun _ c => c.1 ≤ 3) [Str.ofString "to"] (0, _, _) (by rfl) ?hl lF lN ?hf ?hk ?turn ?done
    case hk => kst_all
    case hl => intro _ _; k_mem
    case hf => exact Nat.zero_le 3
    case turn =>
      rintro i ⟨at', t1', t2'⟩ v' u' h' tk' own' hv' hoff hat F' N'
      dsimp only [kstB] at F' N' hat hoff
      simp only [List.cons_append, List.nil_append, List.map_cons, List.map_nil] at N' hoff
      obtain ⟨z', tz', rfl⟩ := ints_get (by repeat constructor) hv'
      clear lF lN
      try k_fold
      k_steps
      · rename Int => to'
        refine' kst_end (c := (to'.toNat, ?d1, ?d2)) ?f1 ?f2 ?f0 ?f5 rfl ?f3 (List.forall_mem_cons.mpr ⟨?g1, List.forall_mem_cons.mpr ⟨?g2, List.forall_mem_nil _⟩⟩) ?f4 trivial
        case f1 => k_asm
        case f2 => k_asm
        case f0 => with_unfolding_all exact fun p hp => List.mem_append_left _ hp
        case f5 => exact fun p hp => List.mem_cons_of_mem _ (List.mem_cons_of_mem _ (List.mem_cons_of_mem _ hp))
        case g1 => exact congrArg (fun z => some (Value.int z _)) (orb_up (by assumption) (by assumption))
        case g2 => exact congrArg (fun z => some (Value.int z _)) (Int.toNat_of_nonneg (by assumption)).symm
        case f3 => dsimp only; omega
        case f4 => kst_same
      · rename Int => to'
        refine' kst_end (c := (to'.toNat, ?d3, ?d4)) ?f1 ?f2 ?f0 ?f5 rfl ?f3 (List.forall_mem_cons.mpr ⟨?g1, List.forall_mem_cons.mpr ⟨?g2, List.forall_mem_nil _⟩⟩) ?f4 trivial
        case f1 => k_asm
        case f2 => k_asm
        case f0 => with_unfolding_all exact fun p hp => List.mem_append_left _ hp
        case f5 => exact fun p hp => List.mem_cons_of_mem _ (List.mem_cons_of_mem _ (List.mem_cons_of_mem _ hp))
        case g1 => with_unfolding_all refine orb_dnS ?_ ?_ ?_ ?_ <;> assumption
        case g2 => exact congrArg (fun z => some (Value.int z _)) (Int.toNat_of_nonneg (by assumption)).symm
        case f3 => dsimp only; omega
        case f4 => kst_same
    case done =>
      rintro ⟨at', t1', t2'⟩ u' h' tk' hat F' N'
      dsimp only [kstB] at F' N' hat
      clear lF lN
      try k_fold
      k_steps))
end Mine
end
set_option maxRecDepth 100000 in
set_option maxHeartbeats 8000000 in
theorem PySem.Challenge.cw_sx_zbitworks_5_holds : PySem.Challenge.rw_sx_zbitworks_5.Holds :=
  Mine.law5
