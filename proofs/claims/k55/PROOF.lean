import PyProof.Rows.All
import Wide.All
import OpenK.AllK
import Wide.FinOn
import KE.KStateDown
import KE.GoesEnum
import HandS.ForMost
import KE.SortKeyHeap
import HandS.Sort
import HandS.SortKw
import HandS.TupMul
import HandS.TupAny
import HandS.Rev
import HandS.RevRange
import HandS.Conv
import HandS.Deep
import PySem.Challenge.RW_rootcourt_k55_whole_no_part_splits
import HandS.Defaults
import HandS.Head0
import HandS.Head1
import HandS.Head2
import HandS.HeadEnd
import HandS.HeadHook1
import HandS.HeadHook2
set_option Elab.async false
set_option linter.all false
set_option maxRecDepth 100000
set_option maxHeartbeats 0
/-! M1: sums over 0 .. n-1, the ring P of whole polynomials. -/
namespace RC
/-- the sum of f 0 .. f (n - 1) -/
def sm : Nat → (Nat → Int) → Int
  | 0, _ => 0
  | n + 1, f => sm n f + f n
theorem sm_congr {f g : Nat → Int} : ∀ {n : Nat}, (∀ i, i < n → f i = g i) → sm n f = sm n g
  | 0, _ => rfl
  | n + 1, h => by
    show sm n f + f n = sm n g + g n
    rw [sm_congr (n := n) fun i hi => h i (by omega), h n (by omega)]
theorem sm_zero {f : Nat → Int} {n : Nat} (h : ∀ i, i < n → f i = 0) : sm n f = 0 := by
  induction n with
  | zero => rfl
  | succ n ih =>
    show sm n f + f n = 0
    rw [ih fun i hi => h i (by omega), h n (by omega)]; rfl
theorem sm_add (f g : Nat → Int) (n : Nat) : sm n (fun i => f i + g i) = sm n f + sm n g := by
  induction n with
  | zero => rfl
  | succ n ih =>
    show sm n (fun i => f i + g i) + (f n + g n) = (sm n f + f n) + (sm n g + g n)
    rw [ih]; omega
theorem sm_neg (f : Nat → Int) (n : Nat) : sm n (fun i => - f i) = - sm n f := by
  induction n with
  | zero => rfl
  | succ n ih =>
    show sm n (fun i => - f i) + (- f n) = - (sm n f + f n)
    rw [ih]; omega
theorem sm_sub (f g : Nat → Int) (n : Nat) : sm n (fun i => f i - g i) = sm n f - sm n g := by
  induction n with
  | zero => rfl
  | succ n ih =>
    show sm n (fun i => f i - g i) + (f n - g n) = (sm n f + f n) - (sm n g + g n)
    rw [ih]; omega
theorem sm_mul (a : Int) (f : Nat → Int) (n : Nat) : sm n (fun i => a * f i) = a * sm n f := by
  induction n with
  | zero => exact (Int.mul_zero a).symm
  | succ n ih =>
    show sm n (fun i => a * f i) + a * f n = a * (sm n f + f n)
    rw [ih, Int.mul_add]
theorem sm_mulr (a : Int) (f : Nat → Int) (n : Nat) : sm n (fun i => f i * a) = sm n f * a := by
  rw [Int.mul_comm, ← sm_mul]; exact sm_congr fun i _ => Int.mul_comm _ _
theorem sm_front (f : Nat → Int) (n : Nat) : sm (n + 1) f = f 0 + sm n (fun i => f (i + 1)) := by
  induction n with
  | zero => show (0 : Int) + f 0 = f 0 + 0; omega
  | succ n ih =>
    show sm (n + 1) f + f (n + 1) = f 0 + (sm n (fun i => f (i + 1)) + f (n + 1))
    rw [ih]; omega
theorem sm_rev (f : Nat → Int) (n : Nat) : sm n f = sm n (fun i => f (n - 1 - i)) := by
  induction n with
  | zero => rfl
  | succ n ih =>
    rw [sm_front (fun i => f (n + 1 - 1 - i)) n]
    show sm n f + f n = f (n + 1 - 1 - 0) + _
    rw [ih, show n + 1 - 1 - 0 = n by omega, Int.add_comm]
    congr 1
    exact sm_congr fun i hi => by rw [show n + 1 - 1 - (i + 1) = n - 1 - i by omega]
theorem sm_swap (f : Nat → Nat → Int) (n m : Nat) : sm n (fun i => sm m (fun j => f i j)) = sm m (fun j => sm n (fun i => f i j)) := by
  induction n with
  | zero => exact (sm_zero fun _ _ => rfl).symm
  | succ n ih =>
    show sm n (fun i => sm m (fun j => f i j)) + sm m (fun j => f n j) = sm m (fun j => sm n (fun i => f i j) + f n j)
    rw [ih, ← sm_add]
/-- more noughts at the end -/
theorem sm_more {f : Nat → Int} {n m : Nat} (h : n ≤ m) (z : ∀ i, n ≤ i → i < m → f i = 0) : sm m f = sm n f := by
  induction m with
  | zero => rw [show n = 0 by omega]
  | succ m ih =>
    by_cases e : n = m + 1
    · rw [e]
    · show sm m f + f m = sm n f
      rw [ih (by omega) fun i h1 h2 => z i h1 (by omega), z m (by omega) (by omega)]; omega
theorem sm_split (f : Nat → Int) (n m : Nat) : sm (n + m) f = sm n f + sm m (fun i => f (n + i)) := by
  induction m with
  | zero => show sm n f = sm n f + 0; omega
  | succ m ih =>
    show sm (n + m) f + f (n + m) = sm n f + (sm m (fun i => f (n + i)) + f (n + m))
    rw [ih]; omega
/-- only one is not nought -/
theorem sm_one {f : Nat → Int} {n k : Nat} (hk : k < n) (z : ∀ i, i < n → i ≠ k → f i = 0) : sm n f = f k := by
  induction n with
  | zero => omega
  | succ n ih =>
    show sm n f + f n = f k
    by_cases e : k = n
    · rw [e, sm_zero fun i hi => z i (by omega) (by omega)]; omega
    · rw [ih (by omega) fun i hi he => z i (by omega) he, z n (by omega) (by omega)]; omega
/-- a triangle, by rows or by diagonals -/
theorem sm_tri (F : Nat → Nat → Int) (n : Nat) : sm (n + 1) (fun i => sm (i + 1) (fun j => F i j)) = sm (n + 1) (fun j => sm (n - j + 1) (fun l => F (j + l) j)) := by
  induction n with
  | zero => rfl
  | succ n ih =>
    show sm (n + 1) (fun i => sm (i + 1) (fun j => F i j)) + sm (n + 2) (fun j => F (n + 1) j) = sm (n + 1) (fun j => sm (n + 1 - j + 1) (fun l => F (j + l) j)) + sm (n + 1 - (n + 1) + 1) (fun l => F (n + 1 + l) (n + 1))
    have e : sm (n + 1) (fun j => sm (n + 1 - j + 1) (fun l => F (j + l) j)) = sm (n + 1) (fun j => sm (n - j + 1) (fun l => F (j + l) j) + F (n + 1) j) := by
      refine sm_congr fun j hj => ?_
      rw [show n + 1 - j + 1 = (n - j + 1) + 1 by omega]
      show sm (n - j + 1) (fun l => F (j + l) j) + F (j + (n - j + 1)) j = _
      rw [show j + (n - j + 1) = n + 1 by omega]
    rw [e, sm_add, ih, show n + 1 - (n + 1) + 1 = 1 by omega]
    show _ + (sm (n + 1) (fun j => F (n + 1) j) + F (n + 1) (n + 1)) = _ + (0 + F (n + 1 + 0) (n + 1))
    rw [Nat.add_zero]
    have q : sm (n + 1) (F (n + 1)) = sm (n + 1) (fun j => F (n + 1) j) := rfl
    omega
theorem sm_nonneg {f : Nat → Int} {n : Nat} (h : ∀ i, i < n → 0 ≤ f i) : 0 ≤ sm n f := by
  induction n with
  | zero => exact Int.le_refl _
  | succ n ih =>
    show 0 ≤ sm n f + f n
    have := ih fun i hi => h i (by omega)
    have := h n (by omega)
    omega
theorem sm_le {f g : Nat → Int} {n : Nat} (h : ∀ i, i < n → f i ≤ g i) : sm n f ≤ sm n g := by
  induction n with
  | zero => exact Int.le_refl _
  | succ n ih =>
    show sm n f + f n ≤ sm n g + g n
    have := ih fun i hi => h i (by omega)
    have := h n (by omega)
    omega
theorem sm_const (a : Int) (n : Nat) : sm n (fun _ => a) = n * a := by
  induction n with
  | zero => exact (Int.zero_mul a).symm
  | succ n ih =>
    show sm n (fun _ => a) + a = _
    rw [ih, Int.natCast_add, Int.add_mul]; simp
theorem sm_ge_one {f : Nat → Int} {n k : Nat} (hk : k < n) (h : ∀ i, i < n → 0 ≤ f i) : f k ≤ sm n f := by
  induction n with
  | zero => omega
  | succ n ih =>
    show f k ≤ sm n f + f n
    have h1 := h n (by omega)
    by_cases e : k = n
    · have := sm_nonneg (f := f) (n := n) fun i hi => h i (by omega)
      rw [e]; omega
    · have := ih (by omega) fun i hi => h i (by omega)
      omega
theorem sm_abs (f : Nat → Int) (n : Nat) : (sm n f).natAbs ≤ (sm n (fun i => ((f i).natAbs : Int))).natAbs := by
  induction n with
  | zero => exact Nat.le_refl _
  | succ n ih =>
    show (sm n f + f n).natAbs ≤ (sm n (fun i => ((f i).natAbs : Int)) + ((f n).natAbs : Int)).natAbs
    have := sm_nonneg (f := fun i => ((f i).natAbs : Int)) (n := n) fun i _ => by omega
    omega

/-- polynomials with whole weights: the weight of each power, nought from some power on -/
structure P where
  c : Nat → Int
  fin : ∃ n, ∀ k, n ≤ k → c k = 0
namespace P
@[ext] theorem ext {a b : P} (h : ∀ k, a.c k = b.c k) : a = b := by
  obtain ⟨f, hf⟩ := a
  obtain ⟨g, hg⟩ := b
  have e : f = g := funext h
  subst e; rfl
/-- a number as a polynomial -/
def K (a : Int) : P := ⟨fun k => if k = 0 then a else 0, 1, fun k h => if_neg (by omega)⟩
/-- the unknown -/
def X : P := ⟨fun k => if k = 1 then 1 else 0, 2, fun k h => if_neg (by omega)⟩
def add (a b : P) : P := ⟨fun k => a.c k + b.c k, by
  obtain ⟨n, hn⟩ := a.fin
  obtain ⟨m, hm⟩ := b.fin
  exact ⟨n + m, fun k h => by rw [hn k (by omega), hm k (by omega)]; rfl⟩⟩
def neg (a : P) : P := ⟨fun k => - a.c k, by
  obtain ⟨n, hn⟩ := a.fin
  exact ⟨n, fun k h => by rw [hn k h]; rfl⟩⟩
def sub (a b : P) : P := ⟨fun k => a.c k - b.c k, by
  obtain ⟨n, hn⟩ := a.fin
  obtain ⟨m, hm⟩ := b.fin
  exact ⟨n + m, fun k h => by rw [hn k (by omega), hm k (by omega)]; rfl⟩⟩
def mul (a b : P) : P := ⟨fun k => sm (k + 1) (fun i => a.c i * b.c (k - i)), by
  obtain ⟨n, hn⟩ := a.fin
  obtain ⟨m, hm⟩ := b.fin
  refine ⟨n + m, fun k h => sm_zero fun i hi => ?_⟩
  by_cases hin : n ≤ i
  · rw [hn i hin, Int.zero_mul]
  · rw [hm (k - i) (by omega), Int.mul_zero]⟩
instance : Add P := ⟨add⟩
instance : Neg P := ⟨neg⟩
instance : Sub P := ⟨sub⟩
instance : Mul P := ⟨mul⟩
instance : NatCast P := ⟨fun n => K n⟩
instance : IntCast P := ⟨fun n => K n⟩
instance (n : Nat) : OfNat P n := ⟨K n⟩
instance : SMul Nat P := ⟨fun n a => K n * a⟩
instance : SMul Int P := ⟨fun n a => K n * a⟩
def npow (a : P) : Nat → P
  | 0 => 1
  | n + 1 => npow a n * a
instance : HPow P Nat P := ⟨npow⟩
theorem c_add (a b : P) (k : Nat) : (a + b).c k = a.c k + b.c k := rfl
theorem c_sub (a b : P) (k : Nat) : (a - b).c k = a.c k - b.c k := rfl
theorem c_neg (a : P) (k : Nat) : (- a).c k = - a.c k := rfl
theorem c_mul (a b : P) (k : Nat) : (a * b).c k = sm (k + 1) (fun i => a.c i * b.c (k - i)) := rfl
theorem c_K (a : Int) (k : Nat) : (K a).c k = if k = 0 then a else 0 := rfl
theorem c_K0 (a : Int) : (K a).c 0 = a := rfl
theorem c_0 (k : Nat) : (0 : P).c k = 0 := by show (if k = 0 then ((0 : Nat) : Int) else 0) = 0; split <;> rfl
theorem c_1 (k : Nat) : (1 : P).c k = if k = 0 then 1 else 0 := rfl
theorem c_X (k : Nat) : X.c k = if k = 1 then 1 else 0 := rfl
theorem mul_comm (a b : P) : a * b = b * a := by
  refine ext fun k => ?_
  rw [c_mul, c_mul, sm_rev]
  exact sm_congr fun i hi => by rw [show k + 1 - 1 - i = k - i by omega, show k - (k - i) = i by omega, Int.mul_comm]
theorem mul_assoc (a b d : P) : a * b * d = a * (b * d) := by
  refine ext fun k => ?_
  rw [c_mul, c_mul]
  have e1 : sm (k + 1) (fun i => (a * b).c i * d.c (k - i)) = sm (k + 1) (fun i => sm (i + 1) (fun j => a.c j * b.c (i - j) * d.c (k - i))) :=
    sm_congr fun i _ => by rw [c_mul, ← sm_mulr]
  have e2 : sm (k + 1) (fun i => a.c i * (b * d).c (k - i)) = sm (k + 1) (fun j => sm (k - j + 1) (fun l => a.c j * b.c (j + l - j) * d.c (k - (j + l)))) :=
    sm_congr fun j _ => by
      rw [c_mul, ← sm_mul]
      exact sm_congr fun l _ => by rw [show j + l - j = l by omega, show k - (j + l) = k - j - l by omega, Int.mul_assoc]
  rw [e1, e2]
  exact sm_tri (fun i j => a.c j * b.c (i - j) * d.c (k - i)) k
theorem left_distrib (a b d : P) : a * (b + d) = a * b + a * d := by
  refine ext fun k => ?_
  rw [c_add, c_mul, c_mul, c_mul, ← sm_add]
  exact sm_congr fun i _ => by rw [c_add, Int.mul_add]
theorem K_mul (a : Int) (b : P) (k : Nat) : (K a * b).c k = a * b.c k := by
  rw [c_mul, sm_front, sm_zero fun i _ => ?_]
  · show a * b.c k + 0 = _; omega
  · show (if i + 1 = 0 then a else 0) * _ = 0
    rw [if_neg (by omega), Int.zero_mul]
theorem mul_one (a : P) : a * 1 = a := by
  rw [mul_comm]
  refine ext fun k => ?_
  show (K 1 * a).c k = _
  rw [K_mul, Int.one_mul]
theorem zero_mul (a : P) : 0 * a = 0 := by
  refine ext fun k => ?_
  show (K 0 * a).c k = _
  rw [K_mul, Int.zero_mul, c_0]
instance : Lean.Grind.CommRing P where
  add_zero := fun a => ext fun k => by rw [c_add, c_0]; omega
  add_comm := fun a b => ext fun k => by rw [c_add, c_add]; omega
  add_assoc := fun a b d => ext fun k => by rw [c_add, c_add, c_add, c_add]; omega
  mul_assoc := mul_assoc
  mul_one := mul_one
  left_distrib := left_distrib
  zero_mul := zero_mul
  pow_zero := fun _ => rfl
  pow_succ := fun _ _ => rfl
  ofNat_succ := fun n => ext fun k => by
    show (if k = 0 then ((n + 1 : Nat) : Int) else 0) = (if k = 0 then (n : Int) else 0) + (if k = 0 then 1 else 0)
    split <;> omega
  ofNat_eq_natCast := fun _ => rfl
  nsmul_eq_natCast_mul := fun _ _ => rfl
  neg_add_cancel := fun a => ext fun k => by rw [c_add, c_neg, c_0]; omega
  sub_eq_add_neg := fun a b => ext fun k => by rw [c_add, c_neg, c_sub]; omega
  neg_zsmul := fun i a => ext fun k => by
    show (K (-i) * a).c k = - (K i * a).c k
    rw [K_mul, K_mul, Int.neg_mul]
  zsmul_natCast_eq_nsmul := fun _ _ => rfl
  intCast_ofNat := fun _ => rfl
  intCast_neg := fun i => ext fun k => by
    show (if k = 0 then -i else 0) = - (if k = 0 then i else 0)
    split <;> omega
  mul_comm := mul_comm
example (a b c : P) (h : a * b = 1 + c) : a * b * c = c + c * c := by grind
theorem K_add (a b : Int) : K (a + b) = K a + K b := ext fun k => by rw [c_add, c_K, c_K, c_K]; split <;> omega
theorem K_sub (a b : Int) : K (a - b) = K a - K b := ext fun k => by rw [c_sub, c_K, c_K, c_K]; split <;> omega
theorem K_neg (a : Int) : K (- a) = - K a := ext fun k => by rw [c_neg, c_K, c_K]; split <;> omega
theorem K_mulK (a b : Int) : K (a * b) = K a * K b := ext fun k => by rw [K_mul, c_K, c_K]; split <;> simp
theorem K_zero : K 0 = 0 := rfl
theorem K_one : K 1 = 1 := rfl
theorem K_inj {a b : Int} (h : K a = K b) : a = b := congrArg (fun p => p.c 0) h
theorem K_ne {a : Int} (h : a ≠ 0) : K a ≠ 0 := fun e => h (K_inj e)
end P
end RC
/-! M2: lengths, leading weights, divisibility, congruences. -/
namespace RC
namespace P
/-- nought from the n-th power on -/
def Z (a : P) (n : Nat) : Prop := ∀ k, n ≤ k → a.c k = 0
theorem Z.mono {a : P} {n m : Nat} (h : Z a n) (l : n ≤ m) : Z a m := fun k hk => h k (by omega)
theorem Z.zero (n : Nat) : Z 0 n := fun k _ => c_0 k
theorem Z.K (a : Int) : Z (K a) 1 := fun k h => if_neg (by omega)
theorem Z.one : Z 1 1 := Z.K 1
theorem Z.add {a b : P} {n : Nat} (h : Z a n) (g : Z b n) : Z (a + b) n := fun k hk => by rw [c_add, h k hk, g k hk]; rfl
theorem Z.sub {a b : P} {n : Nat} (h : Z a n) (g : Z b n) : Z (a - b) n := fun k hk => by rw [c_sub, h k hk, g k hk]; rfl
theorem Z.neg {a : P} {n : Nat} (h : Z a n) : Z (- a) n := fun k hk => by rw [c_neg, h k hk]; rfl
theorem Z.kmul {a : P} {n : Nat} (x : Int) (h : Z a n) : Z (P.K x * a) n := fun k hk => by rw [K_mul, h k hk, Int.mul_zero]
theorem Z.nil {a : P} (h : Z a 0) : a = 0 := ext fun k => by rw [h k (by omega), c_0]
theorem mul_top {a b : P} {m n : Nat} (h : Z a (m + 1)) (g : Z b (n + 1)) : (a * b).c (m + n) = a.c m * b.c n := by
  rw [c_mul, sm_one (k := m) (by omega) fun i hi he => ?_, show m + n - m = n by omega]
  by_cases hl : i < m
  · rw [g (m + n - i) (by omega), Int.mul_zero]
  · rw [h i (by omega), Int.zero_mul]
theorem Z.mul {a b : P} {m n : Nat} (h : Z a (m + 1)) (g : Z b (n + 1)) : Z (a * b) (m + n + 1) := fun k hk => by
  rw [c_mul]
  refine sm_zero fun i hi => ?_
  by_cases hl : i < m + 1
  · rw [g (k - i) (by omega), Int.mul_zero]
  · rw [h i (by omega), Int.zero_mul]
theorem ex_len (a : P) : ∃ n, Z a n ∧ ∀ m, Z a m → n ≤ m := by
  obtain ⟨n, hn⟩ := a.fin
  induction n with
  | zero => exact ⟨0, hn, fun _ _ => Nat.zero_le _⟩
  | succ n ih =>
    by_cases h : a.c n = 0
    · refine ih fun k hk => ?_
      by_cases e : k = n
      · rw [e, h]
      · exact hn k (by omega)
    · exact ⟨n + 1, hn, fun m hm => by
        by_cases e : m ≤ n
        · exact absurd (hm n e) h
        · omega⟩
/-- the number of weights -/
noncomputable def len (a : P) : Nat := Classical.choose (ex_len a)
theorem len_Z (a : P) : Z a (len a) := (Classical.choose_spec (ex_len a)).1
theorem len_min {a : P} {n : Nat} (h : Z a n) : len a ≤ n := (Classical.choose_spec (ex_len a)).2 n h
theorem len_iff {a : P} {n : Nat} : len a ≤ n ↔ Z a n := ⟨fun h => (len_Z a).mono h, len_min⟩
theorem len_is {a : P} {n : Nat} (h : Z a (n + 1)) (e : a.c n ≠ 0) : len a = n + 1 := by
  have h1 := len_min h
  by_cases g : len a ≤ n
  · exact absurd (len_Z a n g) e
  · omega
theorem len_0 : len 0 = 0 := Nat.le_zero.mp (len_min (Z.zero 0))
theorem len_eq_0 {a : P} : len a = 0 ↔ a = 0 := ⟨fun h => Z.nil (len_iff.mp (Nat.le_of_eq h)), fun h => by rw [h, len_0]⟩
theorem len_pos {a : P} : 0 < len a ↔ a ≠ 0 := ⟨fun h e => by rw [e, len_0] at h; omega, fun h => by
  by_cases e : len a = 0
  · exact absurd (len_eq_0.mp e) h
  · omega⟩
/-- the last weight -/
noncomputable def lc (a : P) : Int := a.c (len a - 1)
theorem lc_0 : lc 0 = 0 := c_0 _
theorem lc_ne {a : P} (h : a ≠ 0) : lc a ≠ 0 := fun e => by
  have h1 := len_pos.mpr h
  have h2 : Z a (len a - 1) := fun k hk => by
    by_cases q : k = len a - 1
    · rw [q]; exact e
    · exact len_Z a k (by omega)
  have := len_min h2
  omega
theorem lc_is {a : P} {n : Nat} (h : Z a (n + 1)) (e : a.c n ≠ 0) : lc a = a.c n := by
  unfold lc; rw [len_is h e]; rfl
theorem len_K {a : Int} (h : a ≠ 0) : len (K a) = 1 := len_is (n := 0) (Z.K a) h
theorem lc_K (a : Int) : lc (K a) = a := by
  by_cases h : a = 0
  · rw [h]; exact lc_0
  · exact lc_is (n := 0) (Z.K a) h
theorem len_1 : len 1 = 1 := len_K (a := 1) (by decide)
theorem lc_1 : lc 1 = 1 := lc_K 1
theorem len_le_K (a : Int) : len (K a) ≤ 1 := len_min (Z.K a)
theorem eq_K {a : P} (h : len a ≤ 1) : a = K (a.c 0) := ext fun k => by
  rw [c_K]
  split
  · rename_i e; rw [e]
  · exact len_iff.mp h k (by omega)
theorem lc_c {a : P} (h : len a ≤ 1) : lc a = a.c 0 := by unfold lc; rw [show len a - 1 = 0 by omega]
theorem len_Z1 (a : P) : Z a (len a - 1 + 1) := (len_Z a).mono (by omega)
theorem len_mul {a b : P} (ha : a ≠ 0) (hb : b ≠ 0) : len (a * b) + 1 = len a + len b ∧ lc (a * b) = lc a * lc b := by
  have t := mul_top (len_Z1 a) (len_Z1 b)
  have z := Z.mul (len_Z1 a) (len_Z1 b)
  have ne : (a * b).c (len a - 1 + (len b - 1)) ≠ 0 := by
    rw [t]
    exact Int.mul_ne_zero (lc_ne ha) (lc_ne hb)
  have l1 := len_pos.mpr ha
  have l2 := len_pos.mpr hb
  exact ⟨by rw [len_is z ne]; omega, by rw [lc_is z ne, t]; rfl⟩
theorem mul_ne {a b : P} (ha : a ≠ 0) (hb : b ≠ 0) : a * b ≠ 0 := fun e => by
  have h := (len_mul ha hb).1
  have l1 := len_pos.mpr ha
  have l2 := len_pos.mpr hb
  rw [e, len_0] at h
  omega
theorem lc_mul (a b : P) : lc (a * b) = lc a * lc b := by
  by_cases ha : a = 0
  · rw [ha, show (0 : P) * b = 0 by grind, lc_0, Int.zero_mul]
  · by_cases hb : b = 0
    · rw [hb, show a * (0 : P) = 0 by grind, lc_0, Int.mul_zero]
    · exact (len_mul ha hb).2
theorem cancel {a b d : P} (ha : a ≠ 0) (h : a * b = a * d) : b = d := by
  by_cases e : b - d = 0
  · grind
  · exact absurd (show a * (b - d) = 0 by grind) (mul_ne ha e)
theorem ne_of_mul {a b : P} (h : a * b ≠ 0) : a ≠ 0 ∧ b ≠ 0 := ⟨fun e => h (by rw [e]; grind), fun e => h (by rw [e]; grind)⟩
theorem len_kmul {x : Int} (hx : x ≠ 0) (a : P) : len (K x * a) = len a := by
  by_cases h : a = 0
  · rw [h, show K x * (0 : P) = 0 by grind]
  · have := (len_mul (K_ne hx) h).1
    rw [len_K hx] at this
    omega
theorem len_neg (a : P) : len (- a) = len a := by
  have e : - a = K (-1) * a := ext fun k => by rw [K_mul, c_neg]; omega
  rw [e, len_kmul (by decide)]
/-! ### divisibility -/
instance : Dvd P := ⟨fun a b => ∃ d, b = a * d⟩
theorem dvd_mk {a b : P} (d : P) (h : b = a * d) : a ∣ b := ⟨d, h⟩
theorem dvd_refl (a : P) : a ∣ a := ⟨1, by grind⟩
theorem dvd_trans {a b d : P} (h : a ∣ b) (g : b ∣ d) : a ∣ d := by
  obtain ⟨x, rfl⟩ := h
  obtain ⟨y, rfl⟩ := g
  exact ⟨x * y, by grind⟩
theorem dvd_mul_right (a b : P) : a ∣ a * b := ⟨b, rfl⟩
theorem dvd_mul_left (a b : P) : a ∣ b * a := ⟨b, by grind⟩
theorem dvd_add {a b d : P} (h : a ∣ b) (g : a ∣ d) : a ∣ b + d := by
  obtain ⟨x, rfl⟩ := h
  obtain ⟨y, rfl⟩ := g
  exact ⟨x + y, by grind⟩
theorem dvd_sub {a b d : P} (h : a ∣ b) (g : a ∣ d) : a ∣ b - d := by
  obtain ⟨x, rfl⟩ := h
  obtain ⟨y, rfl⟩ := g
  exact ⟨x - y, by grind⟩
theorem dvd_mul {a b : P} (h : a ∣ b) (d : P) : a ∣ d * b := by
  obtain ⟨x, rfl⟩ := h
  exact ⟨d * x, by grind⟩
theorem dvd_mul' {a b : P} (h : a ∣ b) (d : P) : a ∣ b * d := by
  obtain ⟨x, rfl⟩ := h
  exact ⟨d * x, by grind⟩
theorem dvd_zero (a : P) : a ∣ 0 := ⟨0, by grind⟩
theorem dvd_len {a b : P} (h : a ∣ b) (hb : b ≠ 0) : len a ≤ len b := by
  obtain ⟨x, rfl⟩ := h
  obtain ⟨h1, h2⟩ := ne_of_mul hb
  have := (len_mul h1 h2).1
  have := len_pos.mpr h2
  omega
theorem Kdvd {m : Int} {a : P} : K m ∣ a ↔ ∀ k, m ∣ a.c k := by
  constructor
  · rintro ⟨d, rfl⟩ k
    exact ⟨d.c k, K_mul _ _ _⟩
  · intro h
    refine ⟨⟨fun k => a.c k / m, ?_⟩, ext fun k => ?_⟩
    · obtain ⟨n, hn⟩ := a.fin
      exact ⟨n, fun k hk => by rw [hn k hk]; exact Int.zero_ediv m⟩
    · rw [K_mul]
      exact (Int.mul_ediv_cancel' (h k)).symm
/-! ### congruences -/
/-- alike by the number m -/
def Cg (m : Int) (a b : P) : Prop := K m ∣ a - b
theorem Cg.refl (m : Int) (a : P) : Cg m a a := ⟨0, by grind⟩
theorem Cg.of_eq {m : Int} {a b : P} (h : a = b) : Cg m a b := h ▸ Cg.refl m a
theorem Cg.symm {m : Int} {a b : P} (h : Cg m a b) : Cg m b a := by
  obtain ⟨x, h⟩ := h
  exact ⟨-x, by grind⟩
theorem Cg.trans {m : Int} {a b d : P} (h : Cg m a b) (g : Cg m b d) : Cg m a d := by
  obtain ⟨x, h⟩ := h
  obtain ⟨y, g⟩ := g
  exact ⟨x + y, by grind⟩
theorem Cg.add {m : Int} {a b a' b' : P} (h : Cg m a b) (g : Cg m a' b') : Cg m (a + a') (b + b') := by
  obtain ⟨x, h⟩ := h
  obtain ⟨y, g⟩ := g
  exact ⟨x + y, by grind⟩
theorem Cg.sub {m : Int} {a b a' b' : P} (h : Cg m a b) (g : Cg m a' b') : Cg m (a - a') (b - b') := by
  obtain ⟨x, h⟩ := h
  obtain ⟨y, g⟩ := g
  exact ⟨x - y, by grind⟩
theorem Cg.mul {m : Int} {a b a' b' : P} (h : Cg m a b) (g : Cg m a' b') : Cg m (a * a') (b * b') := by
  obtain ⟨x, h⟩ := h
  obtain ⟨y, g⟩ := g
  exact ⟨a * y + x * b', by grind⟩
theorem Cg.mull {m : Int} {a b : P} (d : P) (h : Cg m a b) : Cg m (d * a) (d * b) := (Cg.refl m d).mul h
theorem Cg.mulr {m : Int} {a b : P} (d : P) (h : Cg m a b) : Cg m (a * d) (b * d) := h.mul (Cg.refl m d)
theorem Cg.neg {m : Int} {a b : P} (h : Cg m a b) : Cg m (- a) (- b) := by
  obtain ⟨x, h⟩ := h
  exact ⟨-x, by grind⟩
theorem Cg.pow {m : Int} {a b : P} (h : Cg m a b) : ∀ n : Nat, Cg m (a ^ n) (b ^ n)
  | 0 => Cg.refl m _
  | n + 1 => (Cg.pow h n).mul h
theorem Cg.iff {m : Int} {a b : P} : Cg m a b ↔ ∀ k, m ∣ a.c k - b.c k := Kdvd
theorem Cg.of_mod {m : Int} {a b : P} (h : ∀ k, a.c k = b.c k % m) : Cg m a b := Cg.iff.mpr fun k => by
  rw [h k]
  have := Int.mul_ediv_add_emod (b.c k) m
  exact ⟨- (b.c k / m), by rw [Int.mul_neg]; omega⟩
theorem Cg.dvd {m n : Int} {a b : P} (h : Cg m a b) (d : n ∣ m) : Cg n a b := Cg.iff.mpr fun k => Int.dvd_trans d (Cg.iff.mp h k)
theorem Cg.zero {m : Int} {a : P} : Cg m a 0 ↔ K m ∣ a := by
  constructor
  · rintro ⟨x, h⟩; exact ⟨x, by grind⟩
  · rintro ⟨x, h⟩; exact ⟨x, by grind⟩
theorem Cg.K {m a b : Int} (h : m ∣ a - b) : Cg m (K a) (K b) := by
  obtain ⟨x, h⟩ := h
  exact ⟨P.K x, by rw [← K_sub, h, K_mulK]⟩
theorem Cg.kmul {m : Int} (a : P) : Cg m (P.K m * a) 0 := ⟨a, by grind⟩
/-- equal where the weights lie between -/
theorem Cg.eq {m : Int} {a b : P} (h : Cg m a b) (ha : ∀ k, 0 ≤ a.c k ∧ a.c k < m) (hb : ∀ k, 0 ≤ b.c k ∧ b.c k < m) : a = b := ext fun k => by
  obtain ⟨x, hx⟩ := Cg.iff.mp h k
  obtain ⟨h1, h2⟩ := ha k
  obtain ⟨h3, h4⟩ := hb k
  have hx0 : x = 0 := by
    by_cases g : 0 < x
    · have : m * 1 ≤ m * x := Int.mul_le_mul_of_nonneg_left (by omega) (by omega)
      omega
    · by_cases g' : x < 0
      · have : m * x ≤ m * (-1) := Int.mul_le_mul_of_nonneg_left (by omega) (by omega)
        omega
      · omega
  rw [hx0, Int.mul_zero] at hx
  omega
/-- a cut: the weights below the n-th power -/
def cut (a : P) (n : Nat) : P := ⟨fun k => if k < n then a.c k else 0, n, fun k h => if_neg (by omega)⟩
theorem c_cut (a : P) (n k : Nat) : (cut a n).c k = if k < n then a.c k else 0 := rfl
theorem cut_Z (a : P) (n : Nat) : Z (cut a n) n := fun k h => if_neg (by omega)
/-- remainders of the weights -/
def red (m : Int) (a : P) : P := ⟨fun k => a.c k % m, by
  obtain ⟨n, hn⟩ := a.fin
  exact ⟨n, fun k hk => by rw [hn k hk]; exact Int.zero_emod m⟩⟩
theorem c_red (m : Int) (a : P) (k : Nat) : (red m a).c k = a.c k % m := rfl
theorem red_Cg (m : Int) (a : P) : Cg m (red m a) a := Cg.of_mod fun _ => rfl
theorem red_Z {m : Int} {a : P} {n : Nat} (h : Z a n) : Z (red m a) n := fun k hk => by rw [c_red, h k hk]; exact Int.zero_emod m
/-- reduced: the weights from 0 on and below m -/
def Rd (m : Int) (a : P) : Prop := ∀ k, 0 ≤ a.c k ∧ a.c k < m
theorem red_Rd {m : Int} (hm : 0 < m) (a : P) : Rd m (red m a) := fun k => ⟨Int.emod_nonneg _ (by omega), Int.emod_lt_of_pos _ hm⟩
theorem Rd.eq {m : Int} {a b : P} (ha : Rd m a) (hb : Rd m b) (h : Cg m a b) : a = b := h.eq ha hb
theorem Rd.red {m : Int} {a : P} (h : Rd m a) : P.red m a = a := ext fun k => by rw [c_red]; exact Int.emod_eq_of_lt (h k).1 (h k).2
theorem red_eq {m : Int} {a b : P} (hm : 0 < m) (h : Cg m a b) : red m a = red m b := (red_Rd hm a).eq (red_Rd hm b) (((red_Cg m a).trans h).trans (red_Cg m b).symm)
theorem Rd.zero {m : Int} (hm : 0 < m) : Rd m 0 := fun k => by rw [c_0]; omega
theorem Rd.one {m : Int} (hm : 1 < m) : Rd m 1 := fun k => by rw [c_1]; split <;> omega
/-! ### powers of the unknown -/
/-- a number times a power of the unknown -/
def mon (a : Int) (n : Nat) : P := ⟨fun k => if k = n then a else 0, n + 1, fun k h => if_neg (by omega)⟩
theorem c_mon (a : Int) (n k : Nat) : (mon a n).c k = if k = n then a else 0 := rfl
theorem mon_Z (a : Int) (n : Nat) : Z (mon a n) (n + 1) := fun k h => if_neg (by omega)
theorem mon_mul (a : Int) (n : Nat) (b : P) (k : Nat) : (mon a n * b).c k = if n ≤ k then a * b.c (k - n) else 0 := by
  rw [c_mul]
  split
  · rename_i h
    rw [sm_one (k := n) (by omega) fun i _ he => by rw [c_mon, if_neg he, Int.zero_mul], c_mon, if_pos rfl]
  · rename_i h
    exact sm_zero fun i hi => by rw [c_mon, if_neg (by omega), Int.zero_mul]
theorem mon_0 (a : Int) : mon a 0 = K a := ext fun k => rfl
theorem mon_1 : mon 1 1 = X := ext fun k => rfl
theorem mon_mon (a b : Int) (n m : Nat) : mon a n * mon b m = mon (a * b) (n + m) := ext fun k => by
  rw [mon_mul, c_mon, c_mon]
  by_cases h : k = n + m
  · rw [if_pos (by omega), if_pos (by omega), if_pos h]
  · rw [if_neg h]
    split
    · rw [if_neg (by omega), Int.mul_zero]
    · rfl
theorem X_pow (n : Nat) : X ^ n = mon 1 n := by
  induction n with
  | zero => rfl
  | succ n ih =>
    show X ^ n * X = _
    rw [ih, ← mon_1, mon_mon]; rfl
end P
end RC
/-! M3: whole numbers that are prime; division; primitive polynomials, Gauss; irreducible ones. -/
namespace RC
/-! ### whole numbers -/
/-- a prime: above 1, and where it divides a product it divides a factor -/
def Pr (t : Int) : Prop := 1 < t ∧ ∀ a b : Int, t ∣ a * b → t ∣ a ∨ t ∣ b
theorem bez (m n : Nat) : ∃ x y : Int, (m : Int) * x + n * y = (Nat.gcd m n : Nat) := by
  induction m, n using Nat.gcd.induction with
  | H0 n => exact ⟨0, 1, by rw [Nat.gcd_zero_left]; omega⟩
  | H1 m n hm ih =>
    obtain ⟨x, y, h⟩ := ih
    refine ⟨y - (n / m : Nat) * x, x, ?_⟩
    rw [Nat.gcd_rec m n, ← h]
    have e : (n : Int) = m * (n / m : Nat) + (n % m : Nat) := by
      rw [← Int.natCast_mul, ← Int.natCast_add, Nat.div_add_mod]
    generalize ((n / m : Nat) : Int) = q at *
    generalize ((n % m : Nat) : Int) = r at *
    rw [e]; grind
theorem bezI (a b : Int) : ∃ x y : Int, a * x + b * y = (Int.gcd a b : Nat) := by
  obtain ⟨x, y, h⟩ := bez a.natAbs b.natAbs
  refine ⟨(if 0 ≤ a then x else -x), (if 0 ≤ b then y else -y), ?_⟩
  show _ = ((Nat.gcd a.natAbs b.natAbs : Nat) : Int)
  rw [← h]
  congr 1
  · split
    · rw [Int.natAbs_of_nonneg (by assumption)]
    · rw [show ((a.natAbs : Nat) : Int) = -a by omega]; grind
  · split
    · rw [Int.natAbs_of_nonneg (by assumption)]
    · rw [show ((b.natAbs : Nat) : Int) = -b by omega]; grind
/-- what no lesser number divides is a prime -/
theorem Pr.mk {t : Int} (h1 : 1 < t) (h : ∀ d : Int, 1 < d → d < t → ¬ d ∣ t) : Pr t := by
  refine ⟨h1, fun a b hab => ?_⟩
  by_cases ha : t ∣ a
  · exact .inl ha
  · right
    obtain ⟨x, y, e⟩ := bezI t a
    have d1 : ((Int.gcd t a : Nat) : Int) ∣ t := Int.gcd_dvd_left ..
    have d2 : ((Int.gcd t a : Nat) : Int) ∣ a := Int.gcd_dvd_right ..
    have hle : ((Int.gcd t a : Nat) : Int) ≤ t := Int.le_of_dvd (by omega) d1
    have g1 : ((Int.gcd t a : Nat) : Int) = 1 := by
      by_cases q : 1 < ((Int.gcd t a : Nat) : Int)
      · by_cases q2 : ((Int.gcd t a : Nat) : Int) < t
        · exact absurd d1 (h _ q q2)
        · exact absurd (show t ∣ a by rw [← show ((Int.gcd t a : Nat) : Int) = t by omega]; exact d2) ha
      · have : ((Int.gcd t a : Nat) : Int) ≠ 0 := fun z => by
          rw [z] at d1
          have := Int.zero_dvd.mp d1
          omega
        omega
    rw [g1] at e
    obtain ⟨z, hz⟩ := hab
    exact ⟨b * x + z * y, by
      have : b = (t * x + a * y) * b := by rw [e]; grind
      grind⟩
theorem Pr.inv {t a : Int} (h : Pr t) (ha : ¬ t ∣ a) : ∃ u, t ∣ a * u - 1 := by
  obtain ⟨x, y, e⟩ := bezI t a
  have d1 : ((Int.gcd t a : Nat) : Int) ∣ t := Int.gcd_dvd_left ..
  have d2 : ((Int.gcd t a : Nat) : Int) ∣ a := Int.gcd_dvd_right ..
  have g1 : ((Int.gcd t a : Nat) : Int) = 1 := by
    obtain ⟨z, hz⟩ := id d1
    have p := h.2 ((Int.gcd t a : Nat) : Int) z (by rw [← hz]; exact Int.dvd_refl t)
    have h1 := h.1
    rcases p with p | p
    · exact absurd (Int.dvd_trans p d2) ha
    · have hz0 : 0 < z := by
        by_cases q : 0 < z
        · exact q
        · have : ((Int.gcd t a : Nat) : Int) * z ≤ ((Int.gcd t a : Nat) : Int) * 0 := Int.mul_le_mul_of_nonneg_left (by omega) (by omega)
          omega
      have hl := Int.le_of_dvd hz0 p
      have : ((Int.gcd t a : Nat) : Int) ≤ 1 := by
        by_cases q : ((Int.gcd t a : Nat) : Int) ≤ 1
        · exact q
        · have : 2 * z ≤ ((Int.gcd t a : Nat) : Int) * z := Int.mul_le_mul_of_nonneg_right (by omega) (by omega)
          omega
      have : ((Int.gcd t a : Nat) : Int) ≠ 0 := fun q => by rw [q] at hz; omega
      omega
  rw [g1] at e
  exact ⟨y, -x, by rw [← e]; grind⟩
theorem Pr.one {t : Int} (h : Pr t) : ¬ t ∣ 1 := fun d => by
  have := Int.le_of_dvd (by decide) d
  have := h.1
  omega
/-- each number but 0, 1, -1 has a prime that divides it -/
theorem Pr.ex {d : Int} (h0 : d ≠ 0) (h1 : d.natAbs ≠ 1) : ∃ p, Pr p ∧ p ∣ d := by
  have main : ∀ n : Nat, ∀ m : Int, m.toNat ≤ n → 1 < m → ∃ p, Pr p ∧ p ∣ m := by
    intro n
    induction n with
    | zero => intro m hm h; omega
    | succ n ih =>
      intro m hm h
      by_cases c : ∃ d : Int, 1 < d ∧ d < m ∧ d ∣ m
      · obtain ⟨d, a1, a2, a3⟩ := c
        obtain ⟨p, hp, hd⟩ := ih d (by omega) a1
        exact ⟨p, hp, Int.dvd_trans hd a3⟩
      · exact ⟨m, Pr.mk h fun d a1 a2 a3 => c ⟨d, a1, a2, a3⟩, Int.dvd_refl m⟩
  obtain ⟨p, hp, hd⟩ := main _ (d.natAbs : Int) (Nat.le_refl _) (by omega)
  exact ⟨p, hp, Int.dvd_natAbs.mp hd⟩
theorem Pr.pow {t a : Int} (h : Pr t) (ha : ¬ t ∣ a) : ∀ n : Nat, ¬ t ∣ a ^ n
  | 0 => by rw [Int.pow_zero]; exact h.one
  | n + 1 => fun d => by
    rw [Int.pow_succ] at d
    rcases h.2 _ _ d with d | d
    · exact Pr.pow h ha n d
    · exact ha d
/-- what has an inverse by t has one by each power -/
theorem inv_pow {t a : Int} (h : ∃ u, t ∣ a * u - 1) : ∀ e : Nat, ∃ u, t ^ e ∣ a * u - 1
  | 0 => ⟨0, ⟨-1, by rw [Int.pow_zero]; omega⟩⟩
  | e + 1 => by
    obtain ⟨u, x, hx⟩ := h
    obtain ⟨v, y, hy⟩ := inv_pow ⟨u, x, hx⟩ e
    refine ⟨u + v - a * u * v, - x * y, ?_⟩
    rw [Int.pow_succ]
    have e1 : a * u = 1 + t * x := by omega
    have e2 : a * v = 1 + t ^ e * y := by omega
    have : a * (u + v - a * u * v) - 1 = - ((a * u - 1) * (a * v - 1)) := by grind
    rw [this, hx, hy]; grind
namespace P
/-! ### division -/
/-- by what has 1 as its n-th weight, the last -/
theorem mdiv {b : P} {n : Nat} (hb : Z b (n + 1)) (h1 : b.c n = 1) (a : P) : ∃ q r, a = b * q + r ∧ Z r n ∧ ∀ m, Z a (n + m) → Z q m := by
  have main : ∀ l : Nat, ∀ a : P, Z a (n + l) → ∃ q r, a = b * q + r ∧ Z r n ∧ Z q l := by
    intro l
    induction l with
    | zero => exact fun a ha => ⟨0, a, by grind, ha, Z.zero 0⟩
    | succ l ih =>
      intro a ha
      have hz : Z (a - b * mon (a.c (n + l)) l) (n + l) := fun k hk => by
        rw [c_sub, mul_comm, mon_mul]
        by_cases e : k = n + l
        · rw [if_pos (by omega), show k - l = n by omega, h1, e]; omega
        · rw [ha k (by omega), if_pos (by omega), hb (k - l) (by omega)]; omega
      obtain ⟨q, r, e, hr, hq⟩ := ih _ hz
      refine ⟨q + mon (a.c (n + l)) l, r, by grind, hr, fun k hk => ?_⟩
      rw [c_add, hq k (by omega), c_mon, if_neg (by omega)]; rfl
  obtain ⟨N, hN⟩ := a.fin
  obtain ⟨q, r, e, hr, hq⟩ := main N a (fun k hk => hN k (by omega))
  refine ⟨q, r, e, hr, fun m hm => ?_⟩
  obtain ⟨q', r', e', hr', hq'⟩ := main m a hm
  have : q - q' = 0 := by
    by_cases z : q - q' = 0
    · exact z
    · have hbn : b ≠ 0 := fun y => by rw [y, c_0] at h1; omega
      have hl := (len_mul hbn z).1
      have hlb := len_is hb (by omega)
      have : len (b * (q - q')) ≤ n := len_min (by
        have : b * (q - q') = r' - r := by grind
        rw [this]
        exact hr'.sub hr)
      have := len_pos.mpr z
      omega
  have : q = q' := by grind
  rw [this]; exact hq'
/-- over fractions: a number times the one -/
theorem pdiv {b : P} (hb : b ≠ 0) (a : P) : ∃ (x : Int) (q r : P), x ≠ 0 ∧ K x * a = b * q + r ∧ len r < len b := by
  have lb := len_pos.mpr hb
  have main : ∀ l : Nat, ∀ a : P, len a ≤ l → ∃ (x : Int) (q r : P), x ≠ 0 ∧ K x * a = b * q + r ∧ len r < len b := by
    intro l
    induction l with
    | zero => exact fun a ha => ⟨1, 0, a, by decide, by rw [K_one]; grind, by omega⟩
    | succ l ih =>
      intro a ha
      by_cases h : len a < len b
      · exact ⟨1, 0, a, by decide, by rw [K_one]; grind, h⟩
      · have hz : Z (K (lc b) * a - b * mon (lc a) (len a - len b)) l := fun k hk => by
          rw [c_sub, K_mul, mul_comm, mon_mul]
          by_cases e : k = len a - 1
          · rw [if_pos (by omega), show k - (len a - len b) = len b - 1 by omega, e]
            show lc b * lc a - lc a * lc b = 0
            rw [Int.mul_comm]; omega
          · rw [len_Z a k (by omega), if_pos (by omega), len_Z b _ (by omega)]; omega
        obtain ⟨x, q, r, hx, e, hr⟩ := ih _ (len_min hz)
        refine ⟨x * lc b, K x * mon (lc a) (len a - len b) + q, r, Int.mul_ne_zero hx (lc_ne hb), ?_, hr⟩
        rw [K_mulK]
        have : K x * (K (lc b) * a - b * mon (lc a) (len a - len b)) = b * q + r := e
        grind
  exact main _ a (Nat.le_refl _)
/-- the greatest common part over fractions, with its paper -/
theorem qbez (b : P) : ∀ a : P, ∃ (g u v : P) (x y : Int), x ≠ 0 ∧ y ≠ 0 ∧ u * a + v * b = g ∧ g ∣ K x * a ∧ g ∣ K y * b := by
  have main : ∀ l : Nat, ∀ b : P, len b ≤ l → ∀ a : P, ∃ (g u v : P) (x y : Int), x ≠ 0 ∧ y ≠ 0 ∧ u * a + v * b = g ∧ g ∣ K x * a ∧ g ∣ K y * b := by
    intro l
    induction l with
    | zero =>
      intro b hb a
      have : b = 0 := len_eq_0.mp (by omega)
      subst this
      exact ⟨a, 1, 0, 1, 1, by decide, by decide, by grind, ⟨1, by rw [K_one]; grind⟩, ⟨0, by grind⟩⟩
    | succ l ih =>
      intro b hb a
      by_cases h : b = 0
      · subst h
        exact ⟨a, 1, 0, 1, 1, by decide, by decide, by grind, ⟨1, by rw [K_one]; grind⟩, ⟨0, by grind⟩⟩
      · obtain ⟨z, q, r, hz, e, hr⟩ := pdiv h a
        obtain ⟨g, u, v, x, y, hx, hy, e2, ⟨d1, h1⟩, ⟨d2, h2⟩⟩ := ih r (by omega) b
        refine ⟨g, v * K z, u - v * q, x * y * z, x, Int.mul_ne_zero (Int.mul_ne_zero hx hy) hz, hx, by grind, ⟨K y * d1 * q + K x * d2, ?_⟩, ⟨d1, h1⟩⟩
        rw [K_mulK, K_mulK]
        have : K x * K y * K z * a = K x * K y * (b * q + r) := by rw [← e]; grind
        rw [this]
        have : K x * K y * (b * q + r) = K y * (K x * b) * q + K x * (K y * r) := by grind
        rw [this, h1, h2]; grind
  exact main _ b (Nat.le_refl _)
/-! ### primitive -/
def Prim (f : P) : Prop := ∀ d : Int, K d ∣ f → d.natAbs = 1
theorem Prim.ne {f : P} (h : Prim f) : f ≠ 0 := fun e => by
  have := h 0 (by rw [e]; exact dvd_zero _)
  simp at this
theorem gauss {p : Int} (hp : Pr p) {f g : P} (h : K p ∣ f * g) : K p ∣ f ∨ K p ∣ g := by
  by_cases hf : K p ∣ f
  · exact .inl hf
  · right
    -- the first weight of f that p doesn't divide
    have ex : ∀ n : Nat, (∃ i, i < n ∧ ¬ p ∣ f.c i) → ∃ i, ¬ p ∣ f.c i ∧ ∀ j, j < i → p ∣ f.c j := by
      intro n
      induction n with
      | zero => rintro ⟨i, hi, _⟩; omega
      | succ n ih =>
        rintro ⟨i, hi, h⟩
        by_cases c : ∃ i, i < n ∧ ¬ p ∣ f.c i
        · exact ih c
        · have e : i = n := by
            by_cases q : i < n
            · exact absurd ⟨i, q, h⟩ c
            · omega
          refine ⟨n, e ▸ h, fun j hj => ?_⟩
          by_cases q : p ∣ f.c j
          · exact q
          · exact absurd ⟨j, hj, q⟩ c
    obtain ⟨i, hi, hlt⟩ : ∃ i, ¬ p ∣ f.c i ∧ ∀ j, j < i → p ∣ f.c j := by
      by_cases c : ∃ i, ¬ p ∣ f.c i
      · obtain ⟨i, hi⟩ := c
        exact ex (i + 1) ⟨i, by omega, hi⟩
      · exact absurd (Kdvd.mpr fun k => by
          by_cases q : p ∣ f.c k
          · exact q
          · exact absurd ⟨k, q⟩ c) hf
    rw [Kdvd] at h ⊢
    intro k
    induction k using Nat.strongRecOn with
    | _ k ih =>
      have hk := h (i + k)
      rw [c_mul] at hk
      have hs : p ∣ f.c i * g.c k := by
        have e : sm (i + k + 1) (fun j => f.c j * g.c (i + k - j)) = sm i (fun j => f.c j * g.c (i + k - j)) + (f.c i * g.c k + sm k (fun j => f.c (i + (j + 1)) * g.c (i + k - (i + (j + 1))))) := by
          rw [show i + k + 1 = i + (k + 1) by omega, sm_split, sm_front]
          rw [show i + 0 = i by omega, show i + k - i = k by omega]
        rw [e] at hk
        have d1 : ∀ (n : Nat) (F : Nat → Int), (∀ j, j < n → p ∣ F j) → p ∣ sm n F := by
          intro n F
          induction n with
          | zero => intro _; exact Int.dvd_zero p
          | succ n ih => intro hF; exact Int.dvd_add (ih fun j hj => hF j (by omega)) (hF n (by omega))
        have e1 := d1 i (fun j => f.c j * g.c (i + k - j)) fun j hj => Int.dvd_trans (hlt j hj) (Int.dvd_mul_right ..)
        have e2 := d1 k (fun j => f.c (i + (j + 1)) * g.c (i + k - (i + (j + 1)))) fun j hj => Int.dvd_trans (ih (i + k - (i + (j + 1))) (by omega)) (Int.dvd_mul_left ..)
        obtain ⟨x, hx⟩ := hk
        obtain ⟨y, hy⟩ := e1
        obtain ⟨z, hz⟩ := e2
        exact ⟨x - y - z, by rw [Int.mul_sub, Int.mul_sub, ← hx, ← hy, ← hz]; omega⟩
      rcases hp.2 _ _ hs with z | z
      · exact absurd z hi
      · exact z
theorem Prim.mul {f g : P} (hf : Prim f) (hg : Prim g) : Prim (f * g) := fun d hd => by
  by_cases h0 : d = 0
  · subst h0
    obtain ⟨x, hx⟩ := hd
    exact absurd (show f * g = 0 by rw [hx, K_zero]; grind) (mul_ne hf.ne hg.ne)
  · by_cases h1 : d.natAbs = 1
    · exact h1
    · obtain ⟨p, hp, hpd⟩ := Pr.ex h0 h1
      have h2 : K p ∣ f * g := dvd_trans (by obtain ⟨z, rfl⟩ := hpd; exact ⟨K z, K_mulK _ _⟩) hd
      have h3 := hp.1
      rcases gauss hp h2 with z | z
      · have := hf p z; omega
      · have := hg p z; omega
theorem Prim.of_dvd {f g : P} (hf : Prim f) (h : g ∣ f) : Prim g := fun d hd => hf d (dvd_trans hd h)
/-- what a primitive one divides a number of times, it divides -/
theorem Prim.gl {f : P} (hf : Prim f) : ∀ {x : Int} {g : P}, x ≠ 0 → f ∣ K x * g → f ∣ g := by
  have main : ∀ n : Nat, ∀ (x : Int) (g : P), x.natAbs ≤ n → x ≠ 0 → f ∣ K x * g → f ∣ g := by
    intro n
    induction n with
    | zero => intro x g hn h0; omega
    | succ n ih =>
      intro x g hn h0 h
      by_cases h1 : x.natAbs = 1
      · obtain ⟨d, hd⟩ := h
        rcases (show x = 1 ∨ x = -1 by omega) with e | e
        · subst e; exact ⟨d, by rw [← hd, K_one]; grind⟩
        · subst e; exact ⟨-d, by
            have : K (-1) = -1 := by rw [K_neg, K_one]
            rw [this] at hd; grind⟩
      · obtain ⟨p, hp, y, rfl⟩ := Pr.ex h0 h1
        obtain ⟨d, hd⟩ := h
        have h3 := hp.1
        have hpd : K p ∣ f * d := ⟨K y * g, by rw [← hd, K_mulK]; grind⟩
        rcases gauss hp hpd with z | z
        · have := hf p z; omega
        · obtain ⟨d', rfl⟩ := z
          have hp0 : K p ≠ 0 := K_ne (by omega)
          have e2 : K y * g = f * d' := cancel hp0 (by rw [K_mulK] at hd; grind)
          have hy0 : y ≠ 0 := fun e => h0 (by rw [e, Int.mul_zero])
          refine ih y g ?_ hy0 ⟨d', e2⟩
          have : (p * y).natAbs = p.natAbs * y.natAbs := Int.natAbs_mul ..
          have : 2 * y.natAbs ≤ p.natAbs * y.natAbs := Nat.mul_le_mul_right _ (by omega)
          omega
  exact fun {x g} h0 h => main _ x g (Nat.le_refl _) h0 h
theorem Prim.K {a : Int} (h : Prim (P.K a)) : a = 1 ∨ a = -1 := by
  have := h a ⟨1, by grind⟩
  omega
/-- each polynomial but nought is a number times a primitive one -/
theorem ex_prim {f : P} (hf : f ≠ 0) : ∃ (x : Int) (g : P), x ≠ 0 ∧ f = K x * g ∧ Prim g := by
  have main : ∀ n : Nat, ∀ f : P, f ≠ 0 → (lc f).natAbs ≤ n → ∃ (x : Int) (g : P), x ≠ 0 ∧ f = K x * g ∧ Prim g := by
    intro n
    induction n with
    | zero => intro f hf h; exact absurd (show lc f = 0 by omega) (lc_ne hf)
    | succ n ih =>
      intro f hf h
      by_cases c : Prim f
      · exact ⟨1, f, by decide, by rw [K_one]; grind, c⟩
      · have : ∃ d : Int, P.K d ∣ f ∧ d.natAbs ≠ 1 := by
          apply Classical.byContradiction
          intro z
          exact c fun d hd => Classical.byContradiction fun y => z ⟨d, hd, y⟩
        obtain ⟨d, ⟨g, rfl⟩, hd⟩ := this
        have hg : g ≠ 0 := (ne_of_mul hf).2
        have hd0 : d ≠ 0 := fun e => (ne_of_mul hf).1 (by rw [e, K_zero])
        have e : (lc (P.K d * g)).natAbs = d.natAbs * (lc g).natAbs := by rw [lc_mul, lc_K, Int.natAbs_mul]
        have : 2 * (lc g).natAbs ≤ d.natAbs * (lc g).natAbs := Nat.mul_le_mul_right _ (by omega)
        have : (lc g).natAbs ≠ 0 := fun z => lc_ne hg (by omega)
        obtain ⟨x, g', hx, e', hp⟩ := ih g hg (by omega)
        exact ⟨d * x, g', Int.mul_ne_zero hd0 hx, by rw [e', K_mulK]; grind, hp⟩
  exact main _ f hf (Nat.le_refl _)
/-- plain: primitive, the last weight above 0 -/
def Pl (f : P) : Prop := Prim f ∧ 0 < lc f
theorem Pl.ne {f : P} (h : Pl f) : f ≠ 0 := h.1.ne
theorem Pl.mul {f g : P} (hf : Pl f) (hg : Pl g) : Pl (f * g) := ⟨hf.1.mul hg.1, by rw [lc_mul]; exact Int.mul_pos hf.2 hg.2⟩
theorem ex_pl {f : P} (hf : f ≠ 0) : ∃ (x : Int) (g : P), x ≠ 0 ∧ f = K x * g ∧ Pl g := by
  obtain ⟨x, g, hx, e, hp⟩ := ex_prim hf
  by_cases h : 0 < lc g
  · exact ⟨x, g, hx, e, hp, h⟩
  · have hl := lc_ne hp.ne
    have en : - g = P.K (-1) * g := by rw [K_neg, K_one]; grind
    refine ⟨-x, -g, by omega, by rw [K_neg]; grind, fun d hd => hp d ?_, ?_⟩
    · obtain ⟨y, hy⟩ := hd
      exact ⟨-y, by grind⟩
    · rw [en, lc_mul, lc_K]; omega
/-- of two plain ones of which each is a number of times the other: equal -/
theorem Pl.eq {f g : P} (hf : Pl f) (hg : Pl g) {x y : Int} (hx : x ≠ 0) (hy : y ≠ 0) (h : K x * f = K y * g) : f = g := by
  have d1 : f ∣ g := hf.1.gl hy ⟨K x, by rw [← h]; grind⟩
  obtain ⟨d, rfl⟩ := d1
  have hd := (ne_of_mul hg.ne).2
  have e : K x = K y * d := cancel hf.ne (by grind)
  have hl : len d = 1 := by
    have := len_kmul hy d
    rw [← e, len_K hx] at this
    omega
  have ed : d = K (d.c 0) := eq_K (by omega)
  have hpd : Prim d := hg.1.of_dvd (dvd_mul_left d f)
  rw [ed] at hpd
  rcases hpd.K with z | z
  · rw [ed, z, K_one]; grind
  · have hl2 := hg.2
    rw [ed, z, lc_mul, lc_K] at hl2
    have := hf.2
    omega
theorem Pl.dvd_eq {f g : P} (hf : Pl f) (hg : Pl g) (h : f ∣ g) (hl : len g ≤ len f) : f = g := by
  obtain ⟨d, rfl⟩ := h
  have hd := (ne_of_mul hg.ne).2
  have e := (len_mul hf.ne hd).1
  have := len_pos.mpr hd
  have ed : d = K (d.c 0) := eq_K (by omega)
  have h0 : d.c 0 ≠ 0 := fun z => hd (by rw [ed, z, K_zero])
  refine hf.eq hg (x := d.c 0) (y := 1) h0 (by decide) ?_
  rw [K_one, ← ed]; grind
/-! ### irreducible -/
def Irr (f : P) : Prop := Pl f ∧ 2 ≤ len f ∧ ∀ a b, f = a * b → len a ≤ 1 ∨ len b ≤ 1
/-- what a polynomial that splits no more divides -/
theorem Irr.prime {f : P} (h : Irr f) {a b : P} (hd : f ∣ a * b) : f ∣ a ∨ f ∣ b := by
  obtain ⟨hp, hl, hi⟩ := h
  obtain ⟨g, u, v, x, y, hx, hy, e, h1, h2⟩ := qbez a f
  have hfn := hp.ne
  have hg : g ≠ 0 := fun z => by
    obtain ⟨d, hd⟩ := h1
    exact mul_ne (K_ne hx) hfn (by rw [hd, z]; grind)
  obtain ⟨z, g0, hz, eg, hg0⟩ := ex_pl hg
  have d1 : g0 ∣ f := hg0.1.gl hx (dvd_trans ⟨K z, by rw [eg]; grind⟩ h1)
  have d2 : g0 ∣ a := hg0.1.gl hy (dvd_trans ⟨K z, by rw [eg]; grind⟩ h2)
  obtain ⟨k, ek⟩ := d1
  rcases hi g0 k ek with c | c
  · right
    obtain ⟨d, hd⟩ := hd
    have e0 : g0 = K (g0.c 0) := eq_K c
    have hne : g0.c 0 ≠ 0 := fun q => hg0.ne (by rw [e0, q, K_zero])
    refine hp.1.gl (x := z * g0.c 0) (Int.mul_ne_zero hz hne) ⟨u * b + v * d, ?_⟩
    rw [K_mulK, ← e0, ← eg, ← e]
    grind
  · left
    have e0 : k = K (k.c 0) := eq_K c
    have hpk : Prim k := hp.1.of_dvd ⟨g0, by rw [ek]; grind⟩
    rw [e0] at hpk
    have fd : f ∣ g0 := by
      rcases hpk.K with q | q
      · exact ⟨1, by rw [ek, e0, q, K_one]; grind⟩
      · exact ⟨-1, by rw [ek, e0, q, K_neg, K_one]; grind⟩
    exact dvd_trans fd d2
theorem Irr.eq {f g : P} (hf : Irr f) (hg : Irr g) (h : f ∣ g) : f = g := by
  obtain ⟨d, e⟩ := id h
  rcases hg.2.2 f d e with z | z
  · have := hf.2.1; omega
  · refine hf.1.dvd_eq hg.1 h ?_
    have hd : d ≠ 0 := (ne_of_mul (e ▸ hg.1.ne)).2
    have := (len_mul hf.1.ne hd).1
    rw [← e] at this
    omega
/-- each polynomial of degree 1 or more has one that splits no more dividing it -/
theorem Irr.ex {f : P} (hf : Prim f) (hl : 2 ≤ len f) : ∃ q, Irr q ∧ q ∣ f := by
  have main : ∀ n : Nat, ∀ f : P, Prim f → 2 ≤ len f → len f ≤ n → ∃ q, Irr q ∧ q ∣ f := by
    intro n
    induction n with
    | zero => intro f _ h1 h2; omega
    | succ n ih =>
      intro f hf hl hn
      by_cases c : ∃ a b, f = a * b ∧ 2 ≤ len a ∧ 2 ≤ len b
      · obtain ⟨a, b, e, h1, h2⟩ := c
        have hab : a * b ≠ 0 := e ▸ hf.ne
        have := (len_mul (ne_of_mul hab).1 (ne_of_mul hab).2).1
        rw [← e] at this
        obtain ⟨q, hq, hd⟩ := ih a (hf.of_dvd ⟨b, e⟩) h1 (by omega)
        exact ⟨q, hq, dvd_trans hd ⟨b, e⟩⟩
      · obtain ⟨x, g, hx, e, hg⟩ := ex_pl hf.ne
        have hlg : len g = len f := by rw [e, len_kmul hx]
        refine ⟨g, ⟨hg, by omega, fun a b hab => ?_⟩, ⟨K x, by rw [e]; grind⟩⟩
        apply Classical.byContradiction
        intro z
        refine c ⟨K x * a, b, by rw [e, hab]; grind, ?_, ?_⟩
        · rw [len_kmul hx]; omega
        · omega
  exact main _ f hf hl (Nat.le_refl _)
end P
end RC
/-! M4: by a prime; parts by a power of a prime and whole parts. -/
namespace RC
namespace P
/-- by the number t the two have nothing in common but numbers -/
def Cop (t : Int) (a b : P) : Prop := ∃ u v, Cg t (u * a + v * b) 1
theorem Cop.symm {t : Int} {a b : P} (h : Cop t a b) : Cop t b a := by
  obtain ⟨u, v, h⟩ := h
  exact ⟨v, u, by rw [show v * b + u * a = u * a + v * b by grind]; exact h⟩
theorem Cop.pow {t : Int} {a b : P} (h : Cop t a b) : ∀ e : Nat, Cop (t ^ e) a b
  | 0 => ⟨0, 0, by rw [Int.pow_zero]; exact Kdvd.mpr fun k => Int.one_dvd ..⟩
  | e + 1 => by
    obtain ⟨u, v, x, hx⟩ := h
    obtain ⟨u', v', y, hy⟩ := Cop.pow ⟨u, v, x, hx⟩ e
    refine ⟨u + u' - (u * a + v * b) * u', v + v' - (u * a + v * b) * v', - (x * y), ?_⟩
    rw [Int.pow_succ, K_mulK]
    have : (u + u' - (u * a + v * b) * u') * a + (v + v' - (u * a + v * b) * v') * b - 1 = - ((u * a + v * b - 1) * (u' * a + v' * b - 1)) := by grind
    rw [this, hx, hy]; grind
/-- the one divides the other by the number t -/
def Dv (t : Int) (a b : P) : Prop := ∃ k, Cg t b (a * k)
theorem Dv.refl (t : Int) (a : P) : Dv t a a := ⟨1, Cg.of_eq (by grind)⟩
theorem Dv.trans {t : Int} {a b d : P} (h : Dv t a b) (g : Dv t b d) : Dv t a d := by
  obtain ⟨x, h⟩ := h
  obtain ⟨y, g⟩ := g
  exact ⟨x * y, g.trans ((h.mulr y).trans (Cg.of_eq (by grind)))⟩
theorem Dv.cg {t : Int} {a b b' : P} (h : Dv t a b) (e : Cg t b b') : Dv t a b' := by
  obtain ⟨x, h⟩ := h
  exact ⟨x, e.symm.trans h⟩
theorem Dv.of_dvd {t : Int} {a b : P} (h : a ∣ b) : Dv t a b := by
  obtain ⟨x, rfl⟩ := h
  exact ⟨x, Cg.refl _ _⟩
theorem Dv.add {t : Int} {a b d : P} (h : Dv t a b) (g : Dv t a d) : Dv t a (b + d) := by
  obtain ⟨x, h⟩ := h
  obtain ⟨y, g⟩ := g
  exact ⟨x + y, (h.add g).trans (Cg.of_eq (by grind))⟩
theorem Dv.sub {t : Int} {a b d : P} (h : Dv t a b) (g : Dv t a d) : Dv t a (b - d) := by
  obtain ⟨x, h⟩ := h
  obtain ⟨y, g⟩ := g
  exact ⟨x - y, (h.sub g).trans (Cg.of_eq (by grind))⟩
theorem Dv.mul {t : Int} {a b : P} (h : Dv t a b) (d : P) : Dv t a (d * b) := by
  obtain ⟨x, h⟩ := h
  exact ⟨d * x, (h.mull d).trans (Cg.of_eq (by grind))⟩
theorem Dv.zero {t : Int} {a b : P} (h : Cg t b 0) : Dv t a b := ⟨0, h.trans (Cg.of_eq (by grind))⟩
/-- the last weight 1 -/
def Mon (g : P) : Prop := lc g = 1
theorem Mon.ne {g : P} (h : Mon g) : g ≠ 0 := fun e => by
  have q : lc g = 1 := h
  rw [e, lc_0] at q; omega
theorem Mon.len {g : P} (h : Mon g) : 0 < P.len g := len_pos.mpr h.ne
theorem Mon.mul {g k : P} (h : Mon g) (h' : Mon k) : Mon (g * k) := by
  show lc (g * k) = 1
  rw [lc_mul, show lc g = 1 from h, show lc k = 1 from h']; rfl
theorem Mon.one : Mon 1 := lc_1
theorem mon_div {g : P} (h : Mon g) (a : P) : ∃ q r, a = g * q + r ∧ len r < len g := by
  have hl := h.len
  obtain ⟨q, r, e, hr, _⟩ := mdiv (n := len g - 1) (len_Z1 g) h a
  exact ⟨q, r, e, by have := len_min hr; omega⟩
/-- what a monic one divides by M, and is shorter, is nought by M -/
theorem mon_short {M : Int} (hM : 0 < M) {g r s : P} (hg : Mon g) (hr : len r < len g) (h : Cg M r (g * s)) : Cg M s 0 ∧ Cg M r 0 := by
  have h1 : Cg M s (red M s) := (red_Cg M s).symm
  have h2 : Cg M r (g * red M s) := h.trans (h1.mull g)
  by_cases z : red M s = 0
  · rw [z] at h1 h2
    exact ⟨h1, h2.trans (Cg.of_eq (by grind))⟩
  · exfalso
    have hl := hg.len
    have hs := len_pos.mpr z
    have t := mul_top (len_Z1 g) (len_Z1 (red M s))
    have hc := Cg.iff.mp h2 (len g - 1 + (len (red M s) - 1))
    rw [t, len_Z r _ (by omega)] at hc
    have e1 : g.c (len g - 1) = 1 := hg
    rw [e1] at hc
    have hb := red_Rd hM s (len (red M s) - 1)
    have hne : (red M s).c (len (red M s) - 1) ≠ 0 := lc_ne z
    have : M ∣ (red M s).c (len (red M s) - 1) := by
      have := Int.dvd_neg.mpr hc
      rw [show - (0 - 1 * (red M s).c (len (red M s) - 1)) = (red M s).c (len (red M s) - 1) by omega] at this
      exact this
    have := Int.le_of_dvd (by omega) this
    omega
theorem mon_cancel {M : Int} (hM : 0 < M) {g a b : P} (hg : Mon g) (h : Cg M (g * a) (g * b)) : Cg M a b := by
  have := (mon_short hM (r := 0) (s := a - b) hg (by rw [len_0]; exact hg.len) (by
    obtain ⟨x, hx⟩ := h
    exact ⟨-x, by grind⟩)).1
  obtain ⟨x, hx⟩ := this
  exact ⟨x, by grind⟩
/-- splits by t no more -/
def IrT (t : Int) (g : P) : Prop := Mon g ∧ 2 ≤ len g ∧ ∀ a b, Cg t g (a * b) → (∃ x : Int, Cg t a (K x)) ∨ (∃ x : Int, Cg t b (K x))
section
variable {t : Int} (hp : Pr t)
include hp
theorem kinv {x : Int} (h : ¬ t ∣ x) : ∃ y : Int, Cg t (K x * K y) 1 := by
  obtain ⟨u, hu⟩ := hp.inv h
  exact ⟨u, by rw [← K_mulK, ← K_one]; exact Cg.K hu⟩
/-- a monic one that is a number of times it by t -/
theorem ex_mon {b : P} {n : Nat} (hb : Z b n) (h0 : ¬ Cg t b 0) : ∃ (b' : P) (x y : Int), Mon b' ∧ len b' ≤ n ∧ Cg t b' (K x * b) ∧ Cg t b (K y * b') ∧ Rd t b' := by
  have ht := hp.1
  have hr : red t b ≠ 0 := fun e => h0 (((red_Cg t b).symm).trans (Cg.of_eq e))
  have hlr := len_pos.mpr hr
  have hbd := red_Rd (by omega : 0 < t) b (len (red t b) - 1)
  have hln : (red t b).c (len (red t b) - 1) ≠ 0 := lc_ne hr
  have hnd : ¬ t ∣ (red t b).c (len (red t b) - 1) := fun d => by
    have := Int.le_of_dvd (by omega) d
    omega
  obtain ⟨u, hu⟩ := hp.inv hnd
  have top : (red t (K u * red t b)).c (len (red t b) - 1) = 1 := by
    rw [c_red, K_mul]
    obtain ⟨z, hz⟩ := hu
    rw [show u * (red t b).c (len (red t b) - 1) = 1 + t * z by rw [Int.mul_comm]; omega, Int.add_mul_emod_self_left]
    exact Int.emod_eq_of_lt (by decide) (by omega)
  have zz : Z (red t (K u * red t b)) (len (red t b) - 1 + 1) := red_Z ((len_Z1 _).kmul u)
  have c1 : Cg t (red t (K u * red t b)) (K u * b) := (red_Cg t _).trans ((red_Cg t b).mull _)
  refine ⟨red t (K u * red t b), u, (red t b).c (len (red t b) - 1), ?_, ?_, c1, ?_, red_Rd (by omega) _⟩
  · show lc _ = 1
    rw [lc_is zz (by omega), top]
  · rw [len_is zz (by omega)]
    have := len_min (red_Z (m := t) hb)
    omega
  · have e1 : Cg t (K ((red t b).c (len (red t b) - 1)) * (K u * b)) b := by
      have q : Cg t (K ((red t b).c (len (red t b) - 1)) * K u) 1 := by rw [← K_mulK, ← K_one]; exact Cg.K hu
      exact (Cg.of_eq (by grind)).trans ((q.mulr b).trans (Cg.of_eq (by grind)))
    exact (e1.symm).trans ((c1.mull _).symm)
theorem tbez : ∀ (n : Nat) (b : P), Z b n → ∀ a : P, ∃ d u v, Cg t (u * a + v * b) d ∧ Dv t d a ∧ Dv t d b := by
  intro n
  induction n using Nat.strongRecOn with
  | _ n ih =>
    intro b hb a
    by_cases h0 : Cg t b 0
    · exact ⟨a, 1, 0, Cg.of_eq (by grind), Dv.refl t a, Dv.zero h0⟩
    · obtain ⟨b', x, y, hm, hl, c1, c2, _⟩ := ex_mon hp hb h0
      obtain ⟨q, r, e, hr⟩ := mon_div hm a
      obtain ⟨d, u, v, e1, h1, h2⟩ := ih (len b' - 1) (by have := hm.len; omega) r ((len_Z r).mono (by omega)) b'
      refine ⟨d, v, (u - v * q) * K x, ?_, ?_, ?_⟩
      · refine Cg.trans ?_ e1
        have : Cg t ((u - v * q) * (K x * b)) ((u - v * q) * b') := c1.symm.mull _
        have e3 : v * a + (u - v * q) * K x * b = v * a + (u - v * q) * (K x * b) := by grind
        rw [e3]
        refine ((Cg.refl t (v * a)).add this).trans (Cg.of_eq ?_)
        rw [e]; grind
      · rw [e]
        refine Dv.add ?_ h2
        have := h1.mul q
        rw [show q * b' = b' * q by grind] at this
        exact this
      · exact (h1.mul (K y)).cg c2.symm
theorem IrT.or {g : P} (hg : IrT t g) (a : P) : Dv t g a ∨ Cop t g a := by
  have ht := hp.1
  obtain ⟨N, hN⟩ := a.fin
  obtain ⟨d, u, v, e, ⟨k, h1⟩, h2⟩ := tbez hp N a hN g
  have g0 : ¬ Cg t g 0 := fun z => by
    have := Cg.iff.mp z (len g - 1)
    rw [show g.c (len g - 1) = 1 from hg.1, c_0] at this
    exact hp.one this
  rcases hg.2.2 d k h1 with ⟨x, hx⟩ | ⟨x, hx⟩
  · right
    have nx : ¬ t ∣ x := fun z => g0 (h1.trans ((hx.mulr k).trans (by
      obtain ⟨w, rfl⟩ := z
      exact ⟨K w * k, by rw [K_mulK]; grind⟩)))
    obtain ⟨y, hy⟩ := kinv hp nx
    refine ⟨K y * u, K y * v, ?_⟩
    have : K y * u * g + K y * v * a = K y * (u * g + v * a) := by grind
    rw [this]
    exact (e.mull _).trans ((hx.mull _).trans ((Cg.of_eq (by grind)).trans hy))
  · left
    have nx : ¬ t ∣ x := fun z => g0 (h1.trans ((hx.mull d).trans (by
      obtain ⟨w, rfl⟩ := z
      exact ⟨K w * d, by rw [K_mulK]; grind⟩)))
    obtain ⟨y, hy⟩ := kinv hp nx
    refine Dv.trans ⟨K y, ?_⟩ h2
    have : Cg t (g * K y) (d * (K x * K y)) := ((h1.trans (hx.mull d)).mulr _).trans (Cg.of_eq (by grind))
    exact ((this.trans (hy.mull d)).trans (Cg.of_eq (by grind))).symm
theorem IrT.prime {g : P} (hg : IrT t g) {a b : P} (h : Dv t g (a * b)) : Dv t g a ∨ Dv t g b := by
  rcases hg.or hp a with z | ⟨u, v, e⟩
  · exact .inl z
  · right
    have h1 : Dv t g (u * g * b + v * (a * b)) := Dv.add ⟨u * b, Cg.of_eq (by grind)⟩ (h.mul v)
    refine h1.cg ?_
    have : u * g * b + v * (a * b) = (u * g + v * a) * b := by grind
    rw [this]
    exact (e.mulr b).trans (Cg.of_eq (by grind))
end
/-- a part divides one of both: it can be taken out -/
theorem take_out {t : Int} (hp : Pr t) {e : Nat} (he : 1 ≤ e) {G R g h : P} {u : Int} (hG : Mon G) (hlg : ¬ t ∣ lc g) (hE : Cg (t ^ e) (K u * (G * R)) (g * h)) (hc : Cop t g h) (hd : Dv t G g) :
    ∃ q, Cg (t ^ e) g (G * q) ∧ lc q = lc g ∧ Cg (t ^ e) (K u * R) (q * h) ∧ Cop t q h := by
  have ht := hp.1
  have hM : 0 < t ^ e := Int.pow_pos (by omega)
  have htM : t ∣ t ^ e := by
    obtain ⟨e', rfl⟩ : ∃ e', e = e' + 1 := ⟨e - 1, by omega⟩
    exact ⟨t ^ e', by rw [Int.pow_succ, Int.mul_comm]⟩
  obtain ⟨k, hk⟩ := hd
  have c1 : Cop t G h := by
    obtain ⟨x, y, hxy⟩ := hc
    refine ⟨x * k, y, ?_⟩
    have z : Cg t (x * (G * k)) (x * g) := hk.symm.mull x
    exact (Cg.of_eq (by grind)).trans ((z.add (Cg.refl t (y * h))).trans hxy)
  obtain ⟨x, y, hxy⟩ := c1.pow e
  -- G divides g by t ^ e
  have d1 : Cg (t ^ e) g (G * (x * g + y * K u * R)) := by
    have a1 : Cg (t ^ e) ((x * G + y * h) * g) g := (hxy.mulr g).trans (Cg.of_eq (by grind))
    have a2 : Cg (t ^ e) (y * (g * h)) (y * (K u * (G * R))) := (hE.mull y).symm
    refine a1.symm.trans ?_
    have e1 : (x * G + y * h) * g = x * G * g + y * (g * h) := by grind
    rw [e1]
    refine ((Cg.refl _ (x * G * g)).add a2).trans (Cg.of_eq (by grind))
  obtain ⟨q, r, eg, hr⟩ := mon_div hG g
  have d2 : Cg (t ^ e) r (G * (x * g + y * K u * R - q)) := by
    have : r = g - G * q := by grind
    rw [this]
    exact (d1.sub (Cg.refl _ (G * q))).trans (Cg.of_eq (by grind))
  have r0 : Cg (t ^ e) r 0 := (mon_short hM hG hr d2).2
  have d3 : Cg (t ^ e) g (G * q) := by
    have := (Cg.refl (t ^ e) (G * q)).add r0
    rw [← eg] at this
    exact this.trans (Cg.of_eq (by grind))
  have q0 : q ≠ 0 := fun z => by
    rw [z] at d3
    have := Cg.iff.mp (d3.dvd htM) (len g - 1)
    rw [show G * (0 : P) = 0 by grind, c_0] at this
    exact hlg (by rw [Int.sub_zero] at this; exact this)
  have lGq := (len_mul hG.ne q0).1
  have hql := len_pos.mpr q0
  have lq : lc q = lc g := by
    have z : Z g (len (G * q) - 1 + 1) := by
      rw [eg]
      exact ((len_Z (G * q)).mono (by omega)).add ((len_Z r).mono (by omega))
    have top : g.c (len (G * q) - 1) = lc q := by
      have : (G * q + r).c (len (G * q) - 1) = lc q := by
        rw [c_add, len_Z r _ (by omega)]
        have : (G * q).c (len (G * q) - 1) = lc (G * q) := rfl
        rw [this, lc_mul, show lc G = 1 from hG]; omega
      rw [← eg] at this; exact this
    rw [lc_is z (by rw [top]; exact lc_ne q0), top]
  refine ⟨q, d3, lq, ?_, ?_⟩
  · refine mon_cancel hM hG ?_
    have a1 : Cg (t ^ e) (g * h) (G * q * h) := d3.mulr h
    exact (Cg.of_eq (by grind)).trans (hE.trans (a1.trans (Cg.of_eq (by grind))))
  · obtain ⟨a, b, hab⟩ := hc
    refine ⟨a * G, b, ?_⟩
    have : Cg t (a * (G * q)) (a * g) := ((d3.dvd htM).symm).mull a
    refine Cg.trans (Cg.trans (Cg.of_eq (by grind)) (this.add (Cg.refl t (b * h)))) hab
/-- the product of a list -/
def prod : List P → P
  | [] => 1
  | g :: gs => g * prod gs
/-- those of a list that are chosen by their places -/
def sel {α : Type} : (Nat → Bool) → List α → List α
  | _, [] => []
  | f, x :: xs => if f 0 then x :: sel (fun k => f (k + 1)) xs else sel (fun k => f (k + 1)) xs
/-- THE LAW OF PARTS: where both sides share nothing by t, each is a number times the product of some of the parts, by t ^ e -/
theorem recomb {t : Int} (hp : Pr t) {e : Nat} (he : 1 ≤ e) : ∀ (Gs : List P), (∀ G ∈ Gs, IrT t G) → ∀ (u : Int) (g h : P), ¬ t ∣ lc g → ¬ t ∣ lc h →
    Cg (t ^ e) (K u * prod Gs) (g * h) → Cop t g h → ∃ f : Nat → Bool, Cg (t ^ e) g (K (lc g) * prod (sel f Gs)) ∧ Cg (t ^ e) h (K (lc h) * prod (sel (fun k => !f k) Gs)) := by
  have ht := hp.1
  have htM : t ∣ t ^ e := by
    obtain ⟨e', rfl⟩ : ∃ e', e = e' + 1 := ⟨e - 1, by omega⟩
    exact ⟨t ^ e', by rw [Int.pow_succ, Int.mul_comm]⟩
  intro Gs
  induction Gs with
  | nil =>
    intro _ u g h hg hh hE _
    have g0 : g ≠ 0 := fun z => hg (by rw [z, lc_0]; exact Int.dvd_zero t)
    have h0 : h ≠ 0 := fun z => hh (by rw [z, lc_0]; exact Int.dvd_zero t)
    have l1 := len_pos.mpr g0
    have l2 := len_pos.mpr h0
    have top := mul_top (len_Z1 g) (len_Z1 h)
    have hc := Cg.iff.mp (hE.dvd htM) (len g - 1 + (len h - 1))
    have key : len g = 1 ∧ len h = 1 := by
      by_cases z : len g - 1 + (len h - 1) = 0
      · omega
      · exfalso
        rw [top, show K u * prod [] = K u by show K u * 1 = K u; grind, c_K, if_neg z] at hc
        have d : t ∣ lc g * lc h := by
          have := Int.dvd_neg.mpr hc
          rw [show - (0 - g.c (len g - 1) * h.c (len h - 1)) = lc g * lc h by unfold lc; omega] at this
          exact this
        rcases hp.2 _ _ d with z | z
        · exact hg z
        · exact hh z
    refine ⟨fun _ => true, Cg.of_eq ?_, Cg.of_eq ?_⟩
    · show g = K (lc g) * 1
      rw [lc_c (by omega), show K (g.c 0) * (1 : P) = K (g.c 0) by grind]; exact eq_K (by omega)
    · show h = K (lc h) * 1
      rw [lc_c (by omega), show K (h.c 0) * (1 : P) = K (h.c 0) by grind]; exact eq_K (by omega)
  | cons G Gs ih =>
    intro hGs u g h hg hh hE hc
    have hG := hGs G List.mem_cons_self
    have hrest : ∀ G ∈ Gs, IrT t G := fun G' hG' => hGs G' (List.mem_cons_of_mem _ hG')
    have dv : Dv t G (g * h) := ⟨K u * prod Gs, (hE.dvd htM).symm.trans (Cg.of_eq (by show K u * (G * prod Gs) = _; grind))⟩
    rcases hG.prime hp dv with d | d
    · obtain ⟨q, e1, lq, e2, c2⟩ := take_out hp he hG.1 hg hE hc d
      obtain ⟨f, f1, f2⟩ := ih hrest u q h (by rw [lq]; exact hg) hh e2 c2
      refine ⟨fun k => match k with | 0 => true | k + 1 => f k, ?_, ?_⟩
      · show Cg (t ^ e) g (K (lc g) * (G * prod (sel f Gs)))
        rw [← lq]
        exact e1.trans ((f1.mull G).trans (Cg.of_eq (by grind)))
      · exact f2
    · have hE' : Cg (t ^ e) (K u * (G * prod Gs)) (h * g) := hE.trans (Cg.of_eq (by grind))
      obtain ⟨q, e1, lq, e2, c2⟩ := take_out hp he hG.1 hh hE' hc.symm d
      obtain ⟨f, f1, f2⟩ := ih hrest u g q hg (by rw [lq]; exact hh) (e2.trans (Cg.of_eq (by grind))) c2.symm
      refine ⟨fun k => match k with | 0 => false | k + 1 => f k, ?_, ?_⟩
      · exact f1
      · show Cg (t ^ e) h (K (lc h) * (G * prod (sel (fun k => !f k) Gs)))
        rw [← lq]
        exact e1.trans ((f2.mull G).trans (Cg.of_eq (by grind)))
end P
end RC
/-! M5: the derivative; the search for whole parts among the parts by a power of a prime. -/
namespace RC
namespace P
/-- the derivative -/
def D (a : P) : P := ⟨fun k => ((k : Int) + 1) * a.c (k + 1), by
  obtain ⟨n, hn⟩ := a.fin
  exact ⟨n, fun k hk => by rw [hn (k + 1) (by omega), Int.mul_zero]⟩⟩
theorem c_D (a : P) (k : Nat) : (D a).c k = ((k : Int) + 1) * a.c (k + 1) := rfl
theorem D_add (a b : P) : D (a + b) = D a + D b := ext fun k => by rw [c_add, c_D, c_D, c_D, c_add, Int.mul_add]
theorem D_K (x : Int) : D (K x) = 0 := ext fun k => by rw [c_D, c_K, if_neg (by omega), c_0, Int.mul_zero]
theorem D_mul (a b : P) : D (a * b) = D a * b + a * D b := ext fun k => by
  rw [c_add, c_D, c_mul, c_mul, c_mul, ← sm_mul]
  have e1 : sm (k + 1 + 1) (fun i => ((k : Int) + 1) * (a.c i * b.c (k + 1 - i))) = sm (k + 1 + 1) (fun i => (i : Int) * a.c i * b.c (k + 1 - i) + ((k + 1 - i : Nat) : Int) * (a.c i * b.c (k + 1 - i))) := by
    refine sm_congr fun i hi => ?_
    have : ((k + 1 - i : Nat) : Int) = (k : Int) + 1 - i := by omega
    rw [this]; grind
  rw [e1, sm_add]
  congr 1
  · rw [sm_front]
    have : ((0 : Nat) : Int) * a.c 0 * b.c (k + 1 - 0) = 0 := by rw [show ((0 : Nat) : Int) = 0 from rfl, Int.zero_mul, Int.zero_mul]
    rw [this, Int.zero_add]
    refine sm_congr fun i hi => ?_
    rw [c_D, show k + 1 - (i + 1) = k - i by omega]; simp
  · show sm (k + 1) (fun i => ((k + 1 - i : Nat) : Int) * (a.c i * b.c (k + 1 - i))) + ((k + 1 - (k + 1) : Nat) : Int) * _ = _
    rw [Nat.sub_self]
    have : ∀ x : Int, sm (k + 1) (fun i => ((k + 1 - i : Nat) : Int) * (a.c i * b.c (k + 1 - i))) + ((0 : Nat) : Int) * x = sm (k + 1) (fun i => ((k + 1 - i : Nat) : Int) * (a.c i * b.c (k + 1 - i))) := fun x => by
      rw [show ((0 : Nat) : Int) = 0 from rfl, Int.zero_mul, Int.add_zero]
    rw [this]
    refine sm_congr fun i hi => ?_
    rw [c_D, show k + 1 - i = k - i + 1 by omega]
    have : ((k - i + 1 : Nat) : Int) = ((k - i : Nat) : Int) + 1 := by omega
    rw [this]; grind
theorem D_Z {a : P} {n : Nat} (h : Z a (n + 1)) : Z (D a) n := fun k hk => by rw [c_D, h (k + 1) (by omega), Int.mul_zero]
theorem D_len {a : P} (h : 2 ≤ len a) : len (D a) + 1 = len a ∧ D a ≠ 0 := by
  have e : (D a).c (len a - 2) ≠ 0 := by
    rw [c_D, show len a - 2 + 1 = len a - 1 by omega]
    refine Int.mul_ne_zero (by omega) (lc_ne fun z => ?_)
    rw [z, len_0] at h; omega
  have l := len_is (n := len a - 2) (D_Z ((len_Z a).mono (by omega))) e
  refine ⟨by omega, fun z => ?_⟩
  rw [z, len_0] at l; omega
/-- free by t: any two factors share nothing by t -/
def FrT (t : Int) (f : P) : Prop := ∀ g h, f = g * h → Cop t g h
theorem FrT.of {t : Int} {f : P} (h : Cop t f (D f)) : FrT t f := fun a b e => by
  obtain ⟨u, v, c⟩ := h
  refine ⟨u * b + v * D b, v * D a, ?_⟩
  rw [e, D_mul] at c
  exact Cg.trans (Cg.of_eq (by grind)) c
theorem FrT.part {t : Int} {f g h : P} (hf : FrT t f) (e : f = g * h) : FrT t g := fun a b e' => by
  obtain ⟨u, v, c⟩ := hf a (b * h) (by rw [e, e']; grind)
  exact ⟨u, v * h, (Cg.of_eq (by grind)).trans c⟩
theorem prod_append (xs ys : List P) : prod (xs ++ ys) = prod xs * prod ys := by
  induction xs with
  | nil => show prod ys = 1 * prod ys; grind
  | cons x xs ih => show x * prod (xs ++ ys) = x * prod xs * prod ys; rw [ih]; grind
theorem sel_prod : ∀ (Gs : List P) (f : Nat → Bool), prod Gs = prod (sel f Gs) * prod (sel (fun k => !f k) Gs)
  | [], f => by show (1 : P) = 1 * 1; grind
  | G :: Gs, f => by
    have ih := sel_prod Gs (fun k => f (k + 1))
    show G * prod Gs = prod (if f 0 then G :: sel (fun k => f (k + 1)) Gs else sel (fun k => f (k + 1)) Gs) * prod (if !f 0 then G :: sel (fun k => !f (k + 1)) Gs else sel (fun k => !f (k + 1)) Gs)
    cases f 0
    · show G * prod Gs = prod (sel (fun k => f (k + 1)) Gs) * (G * prod (sel (fun k => !f (k + 1)) Gs))
      rw [ih]; grind
    · show G * prod Gs = (G * prod (sel (fun k => f (k + 1)) Gs)) * prod (sel (fun k => !f (k + 1)) Gs)
      rw [ih]; grind
theorem sel_mem {α : Type} : ∀ (Gs : List α) (f : Nat → Bool) (x : α), x ∈ sel f Gs → x ∈ Gs
  | [], _, _, h => h
  | G :: Gs, f, x, h => by
    have h' : x ∈ (if f 0 then G :: sel (fun k => f (k + 1)) Gs else sel (fun k => f (k + 1)) Gs) := h
    split at h'
    · rcases List.mem_cons.mp h' with e | h'
      · rw [e]; exact List.mem_cons_self
      · exact List.mem_cons_of_mem _ (sel_mem Gs _ x h')
    · exact List.mem_cons_of_mem _ (sel_mem Gs _ x h')
theorem sel_len {α : Type} : ∀ (Gs : List α) (f : Nat → Bool), (sel f Gs).length + (sel (fun k => !f k) Gs).length = Gs.length
  | [], _ => rfl
  | G :: Gs, f => by
    have ih := sel_len Gs (fun k => f (k + 1))
    show (if f 0 then G :: sel (fun k => f (k + 1)) Gs else sel (fun k => f (k + 1)) Gs).length + (if !f 0 then G :: sel (fun k => !f (k + 1)) Gs else sel (fun k => !f (k + 1)) Gs).length = Gs.length + 1
    cases f 0
    · show (sel (fun k => f (k + 1)) Gs).length + ((sel (fun k => !f (k + 1)) Gs).length + 1) = _
      omega
    · show (sel (fun k => f (k + 1)) Gs).length + 1 + (sel (fun k => !f (k + 1)) Gs).length = _
      omega
theorem sel_sel {α : Type} : ∀ (Gs : List α) (f g : Nat → Bool), ∃ f', sel f' Gs = sel g (sel f Gs)
  | [], _, _ => ⟨fun _ => false, rfl⟩
  | G :: Gs, f, g => by
    by_cases h : f 0 = true
    · obtain ⟨f', e⟩ := sel_sel Gs (fun k => f (k + 1)) (fun k => g (k + 1))
      refine ⟨fun k => match k with | 0 => g 0 | k + 1 => f' k, ?_⟩
      have e2 : sel f (G :: Gs) = G :: sel (fun k => f (k + 1)) Gs := by show (if f 0 then _ else _) = _; rw [if_pos h]
      rw [e2]
      show (if g 0 then G :: sel f' Gs else sel f' Gs) = (if g 0 then G :: sel (fun k => g (k + 1)) (sel (fun k => f (k + 1)) Gs) else sel (fun k => g (k + 1)) (sel (fun k => f (k + 1)) Gs))
      rw [e]
    · obtain ⟨f', e⟩ := sel_sel Gs (fun k => f (k + 1)) g
      refine ⟨fun k => match k with | 0 => false | k + 1 => f' k, ?_⟩
      have e2 : sel f (G :: Gs) = sel (fun k => f (k + 1)) Gs := by show (if f 0 then _ else _) = _; rw [if_neg h]
      rw [e2]
      exact e
theorem prod_mon : ∀ {Gs : List P}, (∀ G ∈ Gs, Mon G) → Mon (prod Gs)
  | [], _ => Mon.one
  | _ :: _, h => (h _ List.mem_cons_self).mul (prod_mon fun G hG => h G (List.mem_cons_of_mem _ hG))
theorem prod_len : ∀ {Gs : List P}, (∀ G ∈ Gs, Mon G ∧ 2 ≤ len G) → Gs.length + 1 ≤ len (prod Gs)
  | [], _ => by show 1 ≤ len 1; rw [len_1]; exact Nat.le_refl _
  | G :: Gs, h => by
    have ih := prod_len (Gs := Gs) fun G hG => h G (List.mem_cons_of_mem _ hG)
    obtain ⟨m, l⟩ := h G List.mem_cons_self
    have := (len_mul m.ne (prod_mon (Gs := Gs) fun G hG => (h G (List.mem_cons_of_mem _ hG)).1).ne).1
    show Gs.length + 1 + 1 ≤ len (G * prod Gs)
    omega
/-- what stands between two turns of the search -/
structure LInv (t : Int) (M : Int) (one : P) (Gs : List P) : Prop where
  pl : Pl one
  ln : 2 ≤ len one
  ir : ∀ G ∈ Gs, IrT t G
  ne : Gs ≠ []
  eq : Cg M (K (lc one) * prod Gs) one
  nt : ¬ t ∣ lc one
  fr : FrT t one
  bd : ∀ g h, one = g * h → ∀ k, 2 * (lc h * g.c k).natAbs < M.natAbs
/-- a polynomial by M with its weights about nought -/
def Mid (M : Int) (a p : P) : Prop := Cg M p a ∧ ∀ k, - M < 2 * p.c k ∧ 2 * p.c k ≤ M
theorem Mid.eq {M : Int} {a p q : P} (h : Mid M a p) (g : Mid M a q) : p = q := ext fun k => by
  obtain ⟨x, hx⟩ := Cg.iff.mp (h.1.trans g.1.symm) k
  have h1 := h.2 k
  have h2 := g.2 k
  have hx0 : x = 0 := by
    by_cases z : 0 < x
    · have : M * 1 ≤ M * x := Int.mul_le_mul_of_nonneg_left (by omega) (by omega)
      omega
    · by_cases z' : x < 0
      · have : M * x ≤ M * (-1) := Int.mul_le_mul_of_nonneg_left (by omega) (by omega)
        omega
      · omega
  rw [hx0, Int.mul_zero] at hx
  omega
/-- the plain one of a polynomial -/
def PlOf (p c : P) : Prop := (p = 0 ∧ c = 0) ∨ (Pl c ∧ ∃ x : Int, x ≠ 0 ∧ p = K x * c)
/-- what a choice of parts tells -/
def Cand (M : Int) (one : P) (S : List P) (c : P) : Prop := ∃ p, Mid M (K (lc one) * prod S) p ∧ PlOf p c
section
variable {t : Int} (hp : Pr t) {e : Nat} (he : 1 ≤ e)
include hp he
theorem htM : t ∣ t ^ e := by
  obtain ⟨e', rfl⟩ : ∃ e', e = e' + 1 := ⟨e - 1, by omega⟩
  exact ⟨t ^ e', by rw [Int.pow_succ, Int.mul_comm]⟩
theorem kcancel {x : Int} (hx : ¬ t ∣ x) {a b : P} (h : Cg (t ^ e) (K x * a) (K x * b)) : Cg (t ^ e) a b := by
  obtain ⟨u, hu⟩ := inv_pow (hp.inv hx) e
  have c : Cg (t ^ e) (K u * K x) 1 := by rw [← K_mulK, ← K_one, Int.mul_comm]; exact Cg.K hu
  have h1 : Cg (t ^ e) (K u * K x * a) (K u * K x * b) := (Cg.of_eq (by grind)).trans ((h.mull (K u)).trans (Cg.of_eq (by grind)))
  exact (((c.mulr a).trans (Cg.of_eq (by grind))).symm.trans h1).trans ((c.mulr b).trans (Cg.of_eq (by grind)))
/-- the length of what is a number times a monic one by M -/
theorem len_of {x : Int} (hx : ¬ t ∣ x) {a g : P} (hg : Mon g) (h : Cg (t ^ e) a (K x * g)) : len g ≤ len a := by
  by_cases z : len g ≤ len a
  · exact z
  · exfalso
    have := Cg.iff.mp (h.dvd (htM hp he)) (len g - 1)
    rw [len_Z a _ (by omega), K_mul, show g.c (len g - 1) = 1 from hg] at this
    have := Int.dvd_neg.mpr this
    rw [show - (0 - x * 1) = x by omega] at this
    exact hx this
theorem cand_of {one : P} {Gs : List P} (L : LInv t (t ^ e) one Gs) {S : List P} {g h : P} (eq : one = g * h) (hg : Pl g) (hS : Cg (t ^ e) g (K (lc g) * prod S)) {c : P} (hc : Cand (t ^ e) one S c) : c = g := by
  have ht := hp.1
  have hM : 0 < t ^ e := Int.pow_pos (by omega)
  have h0 : h ≠ 0 := (ne_of_mul (eq ▸ L.pl.ne)).2
  have m : Mid (t ^ e) (K (lc one) * prod S) (K (lc h) * g) := by
    refine ⟨?_, fun k => ?_⟩
    · rw [eq, lc_mul, K_mulK]
      exact (hS.mull (K (lc h))).trans (Cg.of_eq (by grind))
    · rw [K_mul]
      have := L.bd g h eq k
      omega
  obtain ⟨p, mp, pc⟩ := hc
  have ep := mp.eq m
  have hl0 : lc h ≠ 0 := lc_ne h0
  rcases pc with ⟨z, _⟩ | ⟨hc, x, hx, z⟩
  · exact absurd (ep.symm.trans z) (mul_ne (K_ne hl0) hg.ne)
  · exact hc.eq hg hx hl0 (z.symm.trans ep)
theorem pl_split {one a b : P} (hp1 : Pl one) (h : one = a * b) : ∃ g k, one = g * k ∧ Pl g ∧ Pl k ∧ len g = len a ∧ len k = len b := by
  have hpa : Prim a := hp1.1.of_dvd ⟨b, h⟩
  have hpb : Prim b := hp1.1.of_dvd ⟨a, by rw [h]; grind⟩
  have hl := hp1.2
  rw [h, lc_mul] at hl
  have la := lc_ne hpa.ne
  have lb := lc_ne hpb.ne
  have neg : ∀ q : P, - q = K (-1) * q := fun q => by rw [K_neg, K_one]; grind
  by_cases c : 0 < lc a
  · refine ⟨a, b, h, ⟨hpa, c⟩, ⟨hpb, ?_⟩, rfl, rfl⟩
    by_cases z : 0 < lc b
    · exact z
    · have : lc a * lc b ≤ lc a * 0 := Int.mul_le_mul_of_nonneg_left (by omega) (by omega)
      omega
  · have : lc b < 0 := by
      by_cases z : 0 ≤ lc b
      · have : lc a * lc b ≤ 0 * lc b := Int.mul_le_mul_of_nonneg_right (by omega) (by omega)
        omega
      · omega
    refine ⟨-a, -b, by rw [h]; grind, ⟨fun d hd => hpa d ?_, by rw [neg, lc_mul, lc_K]; omega⟩, ⟨fun d hd => hpb d ?_, by rw [neg, lc_mul, lc_K]; omega⟩, len_neg a, len_neg b⟩
    · obtain ⟨y, hy⟩ := hd; exact ⟨-y, by grind⟩
    · obtain ⟨y, hy⟩ := hd; exact ⟨-y, by grind⟩
/-- a split tells a choice -/
theorem choice_of {one g k q : P} {Gs : List P} (hir : ∀ G ∈ Gs, IrT t G) (heq : Cg (t ^ e) (K (lc q) * prod Gs) q) (hnt : ¬ t ∣ lc q) (hfr : FrT t q) (h : q = g * k) (lg : 2 ≤ len g) (lk : 2 ≤ len k) :
    ∃ f : Nat → Bool, Cg (t ^ e) g (K (lc g) * prod (sel f Gs)) ∧ sel f Gs ≠ [] ∧ sel (fun i => !f i) Gs ≠ [] := by
  have hn : ¬ t ∣ lc g * lc k := by rw [← lc_mul, ← h]; exact hnt
  have hg : ¬ t ∣ lc g := fun z => hn (Int.dvd_trans z (Int.dvd_mul_right ..))
  have hk : ¬ t ∣ lc k := fun z => hn (Int.dvd_trans z (Int.dvd_mul_left ..))
  have hM : 0 < t ^ e := Int.pow_pos (by have := hp.1; omega)
  obtain ⟨f, f1, f2⟩ := recomb hp he Gs hir (lc q) g k hg hk (h ▸ heq) (hfr g k h)
  have aux : ∀ (a : P), ¬ t ∣ lc a → 2 ≤ len a → Cg (t ^ e) a (K (lc a) * prod []) → False := fun a ha hl hc => by
    have := Cg.iff.mp (hc.dvd (htM hp he)) (len a - 1)
    rw [show prod [] = (1 : P) from rfl, K_mul, c_1, if_neg (by omega), Int.mul_zero, Int.sub_zero] at this
    exact ha this
  refine ⟨f, f1, fun z => ?_, fun z => ?_⟩
  · rw [z] at f1; exact aux g hg lg f1
  · rw [z] at f2; exact aux k hk lk f2
/-- where no choice tells a part: it splits no more -/
theorem LInv.none {one : P} {Gs : List P} (L : LInv t (t ^ e) one Gs) (h : ∀ f : Nat → Bool, sel f Gs ≠ [] → sel (fun i => !f i) Gs ≠ [] → ∀ c, Cand (t ^ e) one (sel f Gs) c → ¬ c ∣ one)
    (hex : ∀ S, ∃ c, Cand (t ^ e) one S c) : Irr one := by
  refine ⟨L.pl, L.ln, fun a b hab => Classical.byContradiction fun z => ?_⟩
  obtain ⟨g, k, e1, pg, pk, lg, lk⟩ := pl_split hp he L.pl hab
  obtain ⟨f, f1, f2, f3⟩ := choice_of (one := one) hp he L.ir L.eq L.nt L.fr e1 (by omega) (by omega)
  obtain ⟨c, hc⟩ := hex (sel f Gs)
  have := cand_of hp he L e1 pg f1 hc
  exact h f f2 f3 c hc ⟨k, by rw [this, e1]⟩
theorem LInv.some {one : P} {Gs : List P} (L : LInv t (t ^ e) one Gs) {f : Nat → Bool} (hS : sel f Gs ≠ []) (hS' : sel (fun i => !f i) Gs ≠ []) {c h : P} (hc : Cand (t ^ e) one (sel f Gs) c) (eq : one = c * h)
    (hmin : ∀ f' : Nat → Bool, sel f' Gs ≠ [] → (sel f' Gs).length < (sel f Gs).length → ∀ c, Cand (t ^ e) one (sel f' Gs) c → ¬ c ∣ one) (hex : ∀ S, ∃ c, Cand (t ^ e) one S c) :
    Irr c ∧ LInv t (t ^ e) h (sel (fun i => !f i) Gs) := by
  have ht := hp.1
  have hM : 0 < t ^ e := Int.pow_pos (by omega)
  obtain ⟨p, mp, pc⟩ := hc
  have hmon : ∀ g : Nat → Bool, ∀ G ∈ sel g Gs, Mon G ∧ 2 ≤ len G := fun g G hG => let z := L.ir G (sel_mem Gs g G hG); ⟨z.1, z.2.1⟩
  have mS : Mon (prod (sel f Gs)) := prod_mon fun G hG => (hmon f G hG).1
  have mS' : Mon (prod (sel (fun i => !f i) Gs)) := prod_mon fun G hG => (hmon _ G hG).1
  have one0 := L.pl.ne
  have hlone := L.pl.2
  have hb1 := L.bd 1 one (by grind) 0
  rw [c_1, if_pos rfl, Int.mul_one] at hb1
  -- the last weight of p
  have lS := mS.len
  have ptop : p.c (len (prod (sel f Gs)) - 1) = lc one := by
    obtain ⟨x, hx⟩ := Cg.iff.mp mp.1 (len (prod (sel f Gs)) - 1)
    have h1 : (prod (sel f Gs)).c (len (prod (sel f Gs)) - 1) = 1 := mS
    rw [K_mul, h1] at hx
    have h2 := mp.2 (len (prod (sel f Gs)) - 1)
    have hx0 : x = 0 := by
      by_cases z : 0 < x
      · have : t ^ e * 1 ≤ t ^ e * x := Int.mul_le_mul_of_nonneg_left (by omega) (by omega)
        omega
      · by_cases z' : x < 0
        · have : t ^ e * x ≤ t ^ e * (-1) := Int.mul_le_mul_of_nonneg_left (by omega) (by omega)
          omega
        · omega
    rw [hx0, Int.mul_zero] at hx
    omega
  have pZ : Z p (len (prod (sel f Gs)) - 1 + 1) := fun k hk => by
    obtain ⟨x, hx⟩ := Cg.iff.mp mp.1 k
    rw [K_mul, len_Z (prod (sel f Gs)) k (by omega), Int.mul_zero, Int.sub_zero] at hx
    have h2 := mp.2 k
    have hx0 : x = 0 := by
      by_cases z : 0 < x
      · have : t ^ e * 1 ≤ t ^ e * x := Int.mul_le_mul_of_nonneg_left (by omega) (by omega)
        omega
      · by_cases z' : x < 0
        · have : t ^ e * x ≤ t ^ e * (-1) := Int.mul_le_mul_of_nonneg_left (by omega) (by omega)
          omega
        · omega
    rw [hx, hx0, Int.mul_zero]
  have plc : lc p = lc one := by rw [lc_is pZ (by omega), ptop]
  have plen := len_is pZ (by omega : p.c (len (prod (sel f Gs)) - 1) ≠ 0)
  have hpne : p ≠ 0 := fun z => by rw [z, lc_0] at plc; omega
  rcases pc with ⟨z, _⟩ | ⟨hcp, x, hx, epx⟩
  · exact absurd z hpne
  · have hlc := hcp.2
    have xl : x = lc h := by
      have e1 : x * lc c = lc c * lc h := by
        have q : lc p = x * lc c := by rw [epx, lc_mul, lc_K]
        rw [← q, plc, eq, lc_mul]
      have : lc c * (x - lc h) = 0 := by grind
      rcases Int.mul_eq_zero.mp this with z | z <;> omega
    have h0 : h ≠ 0 := (ne_of_mul (eq ▸ one0)).2
    have lh : 0 < lc h := by
      rw [eq, lc_mul] at hlone
      by_cases z : 0 < lc h
      · exact z
      · have : lc c * lc h ≤ lc c * 0 := Int.mul_le_mul_of_nonneg_left (by omega) (by omega)
        omega
    have hpl : Pl h := ⟨L.pl.1.of_dvd ⟨c, by rw [eq]; grind⟩, lh⟩
    have hnt : ¬ t ∣ lc c * lc h := by rw [← lc_mul, ← eq]; exact L.nt
    have nc : ¬ t ∣ lc c := fun z => hnt (Int.dvd_trans z (Int.dvd_mul_right ..))
    have nh : ¬ t ∣ lc h := fun z => hnt (Int.dvd_trans z (Int.dvd_mul_left ..))
    -- c by the parts chosen
    have hcS : Cg (t ^ e) c (K (lc c) * prod (sel f Gs)) := by
      refine kcancel hp he nh ?_
      rw [← xl, ← epx]
      refine mp.1.trans (Cg.of_eq ?_)
      rw [eq, lc_mul, K_mulK, xl]; grind
    have hhS : Cg (t ^ e) h (K (lc h) * prod (sel (fun i => !f i) Gs)) := by
      have e1 : Cg (t ^ e) (K (lc one) * (prod (sel f Gs) * prod (sel (fun i => !f i) Gs))) (c * h) := by
        rw [← sel_prod, ← eq]; exact L.eq
      have e2 : Cg (t ^ e) (c * h) (K (lc c) * prod (sel f Gs) * h) := hcS.mulr h
      have e3 := e1.trans e2
      rw [eq, lc_mul, K_mulK] at e3
      have e4 : Cg (t ^ e) (K (lc c) * (prod (sel f Gs) * (K (lc h) * prod (sel (fun i => !f i) Gs)))) (K (lc c) * (prod (sel f Gs) * h)) :=
        (Cg.of_eq (by grind)).trans (e3.trans (Cg.of_eq (by grind)))
      exact (mon_cancel hM mS (kcancel hp he nc e4)).symm
    have lnc : 2 ≤ len c := by
      have a := len_of hp he nc mS hcS
      have b := prod_len (hmon f)
      have : (sel f Gs).length ≠ 0 := fun z => hS (List.length_eq_zero_iff.mp z)
      omega
    have lnh : 2 ≤ len h := by
      have a := len_of hp he nh mS' hhS
      have b := prod_len (hmon fun i => !f i)
      have : (sel (fun i => !f i) Gs).length ≠ 0 := fun z => hS' (List.length_eq_zero_iff.mp z)
      omega
    refine ⟨⟨hcp, lnc, fun a b hab => Classical.byContradiction fun z => ?_⟩, ⟨hpl, lnh, fun G hG => L.ir G (sel_mem Gs _ G hG), hS', hhS.symm, nh, L.fr.part (h := c) (by rw [eq]; grind), fun g k hgk i => ?_⟩⟩
    · obtain ⟨g, k, e1, pg, pk, lg, lk⟩ := pl_split hp he hcp hab
      obtain ⟨f1, g1, g2, g3⟩ := choice_of (one := one) hp he (fun G hG => L.ir G (sel_mem Gs f G hG)) hcS.symm nc (L.fr.part eq) e1 (by omega) (by omega)
      obtain ⟨f', hf'⟩ := sel_sel Gs f f1
      obtain ⟨c', hc'⟩ := hex (sel f' Gs)
      have e2 : one = g * (k * h) := by rw [eq, e1]; grind
      have e3 := cand_of hp he L e2 pg (by rw [hf']; exact g1) hc'
      refine hmin f' (by rw [hf']; exact g2) ?_ c' hc' ⟨k * h, by rw [e3, e2]⟩
      rw [hf']
      have l1 := sel_len (sel f Gs) f1
      have : (sel (fun i => !f1 i) (sel f Gs)).length ≠ 0 := fun z => g3 (List.length_eq_zero_iff.mp z)
      omega
    · have := L.bd g (k * c) (by rw [eq, hgk]; grind) i
      rw [lc_mul] at this
      have e5 : (lc k * lc c * g.c i).natAbs = (lc c).natAbs * (lc k * g.c i).natAbs := by
        rw [← Int.natAbs_mul]; congr 1; grind
      rw [e5] at this
      have : 1 * (lc k * g.c i).natAbs ≤ (lc c).natAbs * (lc k * g.c i).natAbs := Nat.mul_le_mul_right _ (by omega)
      omega
end
end P
end RC
/-! M6: a bound for the weights of what divides a polynomial: the sum of the squares of the weights, the l-th l! times. -/
namespace RC
def fc : Nat → Nat
  | 0 => 1
  | n + 1 => (n + 1) * fc n
theorem fc_pos : ∀ n, 0 < fc n
  | 0 => by decide
  | n + 1 => Nat.mul_pos (by omega) (fc_pos n)
def ch : Nat → Nat → Nat
  | _, 0 => 1
  | 0, _ + 1 => 0
  | n + 1, k + 1 => ch n k + ch n (k + 1)
theorem ch_0 (n : Nat) : ch n 0 = 1 := by cases n <;> rfl
theorem ch_lt : ∀ {n k : Nat}, n < k → ch n k = 0
  | 0, k + 1, _ => rfl
  | n + 1, k + 1, h => by
    show ch n k + ch n (k + 1) = 0
    rw [ch_lt (n := n) (k := k) (by omega), ch_lt (n := n) (k := k + 1) (by omega)]
theorem ch_self : ∀ n, ch n n = 1
  | 0 => rfl
  | n + 1 => by
    show ch n n + ch n (n + 1) = 1
    rw [ch_self n, ch_lt (by omega)]
theorem ch_fc : ∀ (k j : Nat), ch (k + j) k * fc k * fc j = fc (k + j)
  | 0, j => by rw [ch_0, show 0 + j = j by omega]; simp [fc]
  | k + 1, 0 => by rw [show k + 1 + 0 = k + 1 by omega, ch_self]; simp [fc]
  | k + 1, j + 1 => by
    have h1 := ch_fc k (j + 1)
    have h2 := ch_fc (k + 1) j
    rw [show k + 1 + (j + 1) = (k + j + 1) + 1 by omega]
    rw [show k + (j + 1) = k + j + 1 by omega] at h1
    rw [show k + 1 + j = k + j + 1 by omega] at h2
    show (ch (k + j + 1) k + ch (k + j + 1) (k + 1)) * ((k + 1) * fc k) * ((j + 1) * fc j) = (k + j + 1 + 1) * fc (k + j + 1)
    have f1 : fc (k + 1) = (k + 1) * fc k := rfl
    have f2 : fc (j + 1) = (j + 1) * fc j := rfl
    rw [f2] at h1
    rw [f1] at h2
    generalize fc (k + j + 1) = F at *
    generalize ch (k + j + 1) k = A at *
    generalize ch (k + j + 1) (k + 1) = B at *
    have : (A + B) * ((k + 1) * fc k) * ((j + 1) * fc j) = (k + 1) * (A * fc k * ((j + 1) * fc j)) + (j + 1) * (B * ((k + 1) * fc k) * fc j) := by grind
    rw [this, h1, h2]; grind
/-- Vandermonde -/
theorem vand (i : Nat) : ∀ (j J : Nat), sm (J + 1) (fun w => ((ch j w * ch i (J - w) : Nat) : Int)) = (ch (i + j) J : Nat)
  | 0, J => by
    rw [sm_front, sm_zero fun w _ => ?_]
    · show ((ch 0 0 * ch i (J - 0) : Nat) : Int) + 0 = _
      rw [ch_0]; simp
    · show ((ch 0 (w + 1) * _ : Nat) : Int) = 0
      rw [ch_lt (by omega)]; simp
  | j + 1, 0 => by
    show (0 : Int) + ((ch (j + 1) 0 * ch i (0 - 0) : Nat) : Int) = _
    rw [ch_0, ch_0, ch_0]; rfl
  | j + 1, J + 1 => by
    have h1 := vand i j J
    have h2 := vand i j (J + 1)
    rw [sm_front] at h2 ⊢
    have e : sm (J + 1) (fun w => ((ch (j + 1) (w + 1) * ch i (J + 1 - (w + 1)) : Nat) : Int)) = sm (J + 1) (fun w => ((ch j w * ch i (J - w) : Nat) : Int)) + sm (J + 1) (fun w => ((ch j (w + 1) * ch i (J + 1 - (w + 1)) : Nat) : Int)) := by
      rw [← sm_add]
      refine sm_congr fun w _ => ?_
      show (((ch j w + ch j (w + 1)) * ch i (J + 1 - (w + 1)) : Nat) : Int) = _
      rw [show J + 1 - (w + 1) = J - w by omega, Nat.add_mul, Int.natCast_add]
    rw [e, h1]
    rw [ch_0] at h2 ⊢
    have : ch (i + (j + 1)) (J + 1) = ch (i + j) J + ch (i + j) (J + 1) := rfl
    rw [this]
    omega
/-- sums over four -/
def s4 (N : Nat) (F : Nat → Nat → Nat → Nat → Int) : Int := sm N fun i => sm N fun j => sm N fun k => sm N fun l => F i j k l
theorem s4_congr {N : Nat} {F G : Nat → Nat → Nat → Nat → Int} (h : ∀ i j k l, i < N → j < N → k < N → l < N → F i j k l = G i j k l) : s4 N F = s4 N G :=
  sm_congr fun i hi => sm_congr fun j hj => sm_congr fun k hk => sm_congr fun l hl => h i j k l hi hj hk hl
theorem s4_swap (M N : Nat) (F : Nat → Nat → Nat → Nat → Nat → Int) : sm M (fun w => s4 N (F w)) = s4 N (fun i j k l => sm M (fun w => F w i j k l)) := by
  unfold s4
  rw [sm_swap]
  refine sm_congr fun i _ => ?_
  rw [sm_swap]
  refine sm_congr fun j _ => ?_
  rw [sm_swap]
  refine sm_congr fun k _ => ?_
  rw [sm_swap]
theorem s4_mul (x : Int) (N : Nat) (F : Nat → Nat → Nat → Nat → Int) : x * s4 N F = s4 N (fun i j k l => x * F i j k l) := by
  unfold s4
  rw [← sm_mul]
  refine sm_congr fun i _ => ?_
  rw [← sm_mul]
  refine sm_congr fun j _ => ?_
  rw [← sm_mul]
  refine sm_congr fun k _ => ?_
  rw [← sm_mul]
theorem s4_24 (N : Nat) (F : Nat → Nat → Nat → Nat → Int) : s4 N F = s4 N (fun i j k l => F i l k j) := by
  unfold s4
  refine sm_congr fun i _ => ?_
  -- sum over j, k, l of F i j k l
  have e1 : sm N (fun j => sm N (fun k => sm N (fun l => F i j k l))) = sm N (fun k => sm N (fun j => sm N (fun l => F i j k l))) := sm_swap _ _ _
  have e2 : sm N (fun j => sm N (fun k => sm N (fun l => F i l k j))) = sm N (fun k => sm N (fun j => sm N (fun l => F i l k j))) := sm_swap _ _ _
  rw [e1, e2]
  refine sm_congr fun k _ => ?_
  exact sm_swap _ _ _
theorem sq2 (N : Nat) (x : Nat → Nat → Int) : sm N (fun i => sm N (fun j => x i j)) * sm N (fun i => sm N (fun j => x i j)) = s4 N (fun i j k l => x i j * x k l) := by
  unfold s4
  rw [← sm_mulr]
  refine sm_congr fun i _ => ?_
  rw [← sm_mulr]
  refine sm_congr fun j _ => ?_
  rw [← sm_mul]
  refine sm_congr fun k _ => ?_
  rw [← sm_mul]
def eJ (i j l : Nat) : Int := if i + j = l then 1 else 0
def dJ (i j w p : Nat) : Int := if p ≤ i ∧ w ≤ j ∧ i - p = j - w then ((ch j w * ch i p * fc (i - p) : Nat) : Int) else 0
/-- the two kernels are one -/
theorem kernel {N i j k l : Nat} (hi : i < N) (hj : j < N) (hk : k < N) (hl : l < N) :
    sm (2 * N) (fun z => (fc z : Int) * (eJ i j z * eJ k l z)) = sm N (fun w => sm N (fun p => ((fc w * fc p : Nat) : Int) * (dJ i l w p * dJ k j w p))) := by
  by_cases h : i + j = k + l
  · have e1 : sm (2 * N) (fun z => (fc z : Int) * (eJ i j z * eJ k l z)) = (fc (i + j) : Int) := by
      rw [sm_one (k := i + j) (by omega) fun z _ hz => ?_]
      · unfold eJ
        rw [if_pos rfl, if_pos (by omega)]; omega
      · unfold eJ
        rw [if_neg (by omega)]; simp
    rw [e1]
    have e2 : sm N (fun w => sm N (fun p => ((fc w * fc p : Nat) : Int) * (dJ i l w p * dJ k j w p))) = sm N (fun w => if w ≤ l then ((fc k * fc l : Nat) : Int) * ((ch j w * ch i (l - w) : Nat) : Int) else 0) := by
      refine sm_congr fun w hw => ?_
      by_cases c : w ≤ l ∧ w ≤ j ∧ l - w ≤ i
      · obtain ⟨c1, c2, c3⟩ := c
        rw [if_pos c1, sm_one (k := i - (l - w)) (by omega) fun p _ hp => ?_]
        · unfold dJ
          rw [if_pos (by omega), if_pos (by omega)]
          rw [← Int.natCast_mul, ← Int.natCast_mul, ← Int.natCast_mul]
          congr 1
          -- the numbers
          obtain ⟨u, rfl⟩ : ∃ u, l = w + u := ⟨l - w, by omega⟩
          obtain ⟨p, rfl⟩ : ∃ p, i = u + p := ⟨i - u, by omega⟩
          obtain ⟨v, rfl⟩ : ∃ v, j = w + v := ⟨j - w, by omega⟩
          obtain rfl : k = v + p := by omega
          rw [show w + u - w = u by omega, show u + p - u = p by omega, show u + p - p = u by omega, show v + p - p = v by omega]
          have a1 := ch_fc w u
          have a2 := ch_fc u p
          have a3 := ch_fc p v
          have a4 := ch_fc p u
          rw [show p + v = v + p by omega] at a3
          rw [show p + u = u + p by omega] at a4
          generalize ch (w + u) w = A at *
          generalize ch (u + p) u = B at *
          generalize ch (v + p) p = C' at *
          generalize ch (w + v) w = E at *
          generalize ch (u + p) p = G at *
          generalize fc (w + u) = F1 at *
          generalize fc (v + p) = F2 at *
          generalize fc (u + p) = F3 at *
          have hu := fc_pos u
          have hpp := fc_pos p
          have hBG : B = G := by
            have : B * (fc u * fc p) = G * (fc u * fc p) := by rw [← Nat.mul_assoc, a2, ← a4]; grind
            exact Nat.eq_of_mul_eq_mul_right (Nat.mul_pos hu hpp) this
          have : fc w * fc p * (A * G * fc u * (E * C' * fc v)) = (A * fc w * fc u) * (C' * fc p * fc v) * E * G := by grind
          rw [this, a1, a3, hBG]; grind
        · unfold dJ
          by_cases c4 : p ≤ i ∧ w ≤ l ∧ i - p = l - w
          · omega
          · rw [if_neg c4]; simp
      · have z1 : ∀ p, p < N → ((fc w * fc p : Nat) : Int) * (dJ i l w p * dJ k j w p) = 0 := fun p _ => by
          unfold dJ
          by_cases c1 : p ≤ i ∧ w ≤ l ∧ i - p = l - w
          · rw [if_neg (c := p ≤ k ∧ w ≤ j ∧ k - p = j - w) (by omega)]; simp
          · rw [if_neg c1]; simp
        rw [sm_zero z1]
        split
        · rename_i c1
          by_cases c2 : w ≤ j
          · rw [ch_lt (n := i) (by omega)]; simp
          · rw [ch_lt (n := j) (by omega)]; simp
        · rfl
    rw [e2]
    have e3 : sm N (fun w => if w ≤ l then ((fc k * fc l : Nat) : Int) * ((ch j w * ch i (l - w) : Nat) : Int) else 0) = sm (l + 1) (fun w => ((fc k * fc l : Nat) : Int) * ((ch j w * ch i (l - w) : Nat) : Int)) := by
      rw [sm_more (n := l + 1) (m := N) (by omega) fun w h1 _ => if_neg (by omega)]
      exact sm_congr fun w hw => if_pos (by omega)
    rw [e3, sm_mul, vand]
    have a := ch_fc l k
    rw [h, show k + l = l + k by omega, ← a, ← Int.natCast_mul]
    congr 1
    grind
  · rw [sm_zero fun z _ => ?_, sm_zero fun w _ => sm_zero fun p _ => ?_]
    · unfold dJ
      by_cases c1 : p ≤ i ∧ w ≤ l ∧ i - p = l - w
      · rw [if_neg (c := p ≤ k ∧ w ≤ j ∧ k - p = j - w) (by omega)]; simp
      · rw [if_neg c1]; simp
    · unfold eJ
      by_cases c : i + j = z
      · rw [if_neg (c := k + l = z) (by omega)]; simp
      · rw [if_neg c]; simp
namespace P
theorem conv {a b : P} {N : Nat} (ha : Z a N) (hb : Z b N) (l : Nat) : (a * b).c l = sm N (fun i => sm N (fun j => eJ i j l * (a.c i * b.c j))) := by
  rw [c_mul]
  have e : ∀ i, sm N (fun j => eJ i j l * (a.c i * b.c j)) = if i ≤ l then a.c i * b.c (l - i) else 0 := fun i => by
    by_cases c : i ≤ l
    · rw [if_pos c]
      by_cases c2 : l - i < N
      · rw [sm_one (k := l - i) c2 fun j _ hj => by unfold eJ; rw [if_neg (by omega), Int.zero_mul]]
        unfold eJ
        rw [if_pos (by omega), Int.one_mul]
      · rw [hb (l - i) (by omega), Int.mul_zero]
        refine sm_zero fun j hj => ?_
        unfold eJ
        rw [if_neg (by omega), Int.zero_mul]
    · rw [if_neg c]
      refine sm_zero fun j hj => ?_
      unfold eJ
      rw [if_neg (by omega), Int.zero_mul]
  rw [sm_congr (n := N) fun i _ => e i]
  by_cases c : l + 1 ≤ N
  · rw [sm_more c fun i h1 _ => if_neg (by omega)]
    exact sm_congr fun i hi => (if_pos (by omega)).symm
  · rw [sm_more (n := N) (m := l + 1) (by omega) fun i h1 _ => by rw [ha i h1, Int.zero_mul]]
    exact sm_congr fun i hi => (if_pos (by omega)).symm
/-- the sum of squares -/
theorem sos {a b : P} {N : Nat} (ha : Z a N) (hb : Z b N) :
    sm (2 * N) (fun l => (fc l : Int) * ((a * b).c l * (a * b).c l)) =
      sm N (fun w => sm N (fun p => ((fc w * fc p : Nat) : Int) * (sm N (fun i => sm N (fun j => dJ i j w p * (a.c i * b.c j))) * sm N (fun i => sm N (fun j => dJ i j w p * (a.c i * b.c j)))))) := by
  have e1 : sm (2 * N) (fun l => (fc l : Int) * ((a * b).c l * (a * b).c l)) = s4 N (fun i j k l => sm (2 * N) (fun z => (fc z : Int) * (eJ i j z * eJ k l z)) * (a.c i * b.c j * (a.c k * b.c l))) := by
    rw [sm_congr (g := fun z => s4 N (fun i j k l => (fc z : Int) * ((eJ i j z * (a.c i * b.c j)) * (eJ k l z * (a.c k * b.c l))))) fun z _ => ?_, s4_swap]
    · refine s4_congr fun i j k l _ _ _ _ => ?_
      rw [← sm_mulr]
      exact sm_congr fun z _ => by grind
    · rw [conv ha hb, sq2, s4_mul]
  have e2 : sm N (fun w => sm N (fun p => ((fc w * fc p : Nat) : Int) * (sm N (fun i => sm N (fun j => dJ i j w p * (a.c i * b.c j))) * sm N (fun i => sm N (fun j => dJ i j w p * (a.c i * b.c j)))))) =
      s4 N (fun i j k l => sm N (fun w => sm N (fun p => ((fc w * fc p : Nat) : Int) * (dJ i j w p * dJ k l w p))) * (a.c i * b.c j * (a.c k * b.c l))) := by
    rw [sm_congr (g := fun w => s4 N (fun i j k l => sm N (fun p => ((fc w * fc p : Nat) : Int) * ((dJ i j w p * (a.c i * b.c j)) * (dJ k l w p * (a.c k * b.c l)))))) fun w _ => ?_, s4_swap]
    · refine s4_congr fun i j k l _ _ _ _ => ?_
      rw [← sm_mulr]
      refine sm_congr fun w _ => ?_
      rw [← sm_mulr]
      exact sm_congr fun p _ => by grind
    · rw [← s4_swap]
      refine sm_congr fun p _ => ?_
      rw [sq2, s4_mul]
  rw [e1, e2, s4_24 N (fun i j k l => sm N (fun w => sm N (fun p => ((fc w * fc p : Nat) : Int) * (dJ i j w p * dJ k l w p))) * (a.c i * b.c j * (a.c k * b.c l)))]
  refine s4_congr fun i j k l hi hj hk hl => ?_
  rw [kernel hi hj hk hl]
  grind
theorem sq_nn (x : Int) : 0 ≤ x * x := by
  rcases Int.le_total 0 x with h | h
  · exact Int.mul_nonneg h h
  · have := Int.mul_nonneg (show 0 ≤ -x by omega) (show 0 ≤ -x by omega)
    rw [Int.neg_mul_neg] at this; exact this
theorem part_sq {a b : P} {N k i : Nat} (ha : Z a N) (hb : Z b (k + 1)) (hk : k < N) (hi : i < N) :
    ((fc k * fc i : Nat) : Int) * ((b.c k * a.c i) * (b.c k * a.c i)) ≤ sm (2 * N) (fun l => (fc l : Int) * ((a * b).c l * (a * b).c l)) := by
  rw [sos ha (hb.mono (by omega))]
  have nn : ∀ w p, 0 ≤ ((fc w * fc p : Nat) : Int) * (sm N (fun i => sm N (fun j => dJ i j w p * (a.c i * b.c j))) * sm N (fun i => sm N (fun j => dJ i j w p * (a.c i * b.c j)))) := fun w p =>
    Int.mul_nonneg (by omega) (sq_nn _)
  refine Int.le_trans ?_ (sm_ge_one (k := k) hk fun w _ => sm_nonneg fun p _ => nn w p)
  refine Int.le_trans ?_ (sm_ge_one (k := i) hi fun p _ => nn k p)
  have e : sm N (fun i' => sm N (fun j => dJ i' j k i * (a.c i' * b.c j))) = b.c k * a.c i := by
    rw [sm_one (k := i) hi fun i' h1 h2 => ?_, sm_one (k := k) hk fun j h1 h2 => ?_]
    · unfold dJ
      rw [if_pos ⟨Nat.le_refl _, Nat.le_refl _, by omega⟩, ch_self, ch_self, Nat.sub_self]
      show ((1 * 1 * 1 : Nat) : Int) * _ = _
      rw [show ((1 * 1 * 1 : Nat) : Int) = 1 from rfl, Int.one_mul, Int.mul_comm]
    · unfold dJ
      by_cases c : i ≤ i ∧ k ≤ j ∧ i - i = j - k
      · omega
      · rw [if_neg c, Int.zero_mul]
    · refine sm_zero fun j hj => ?_
      unfold dJ
      by_cases c : i ≤ i' ∧ k ≤ j ∧ i' - i = j - k
      · rw [hb j (by omega), Int.mul_zero, Int.mul_zero]
      · rw [if_neg c, Int.zero_mul]
  rw [e]
  exact Int.le_refl _
/-- THE BOUND: of degree at most 8, the weights of a part, times the last one of the other part -/
theorem part_bd {f g h : P} {A : Int} (hA : ∀ k, (f.c k).natAbs ≤ A.natAbs) (e : f = g * h) (hf : f ≠ 0) (h9 : len f ≤ 9) (k : Nat) :
    (lc h * g.c k).natAbs ≤ len f * 2 ^ (len f - 1) * A.natAbs := by
  obtain ⟨g0, h0⟩ := ne_of_mul (e ▸ hf)
  have ll := (len_mul g0 h0).1
  have l1 := len_pos.mpr g0
  have l2 := len_pos.mpr h0
  rw [← e] at ll
  by_cases hk : len g ≤ k
  · rw [len_Z g k hk, Int.mul_zero]; exact Nat.zero_le _
  · have b := part_sq (a := g) (b := h) (N := len f) (k := len h - 1) (i := k) ((len_Z g).mono (by omega)) (len_Z1 h) (by omega) (by omega)
    rw [← e] at b
    have b2 : sm (2 * len f) (fun l => (fc l : Int) * (f.c l * f.c l)) = sm (len f) (fun l => (fc l : Int) * (f.c l * f.c l)) :=
      sm_more (by omega) fun l h1 _ => by rw [len_Z f l h1]; simp
    have b3 : sm (len f) (fun l => (fc l : Int) * (f.c l * f.c l)) ≤ sm (len f) (fun l => (fc l : Int) * (A.natAbs * A.natAbs : Nat)) := sm_le fun l _ => by
      refine Int.mul_le_mul_of_nonneg_left ?_ (by omega)
      have := hA l
      have e2 : f.c l * f.c l = ((f.c l).natAbs * (f.c l).natAbs : Nat) := by rw [Int.natCast_mul]; exact (Int.natAbs_mul_self' _).symm
      rw [e2]
      exact Int.ofNat_le.mpr (Nat.mul_le_mul this this)
    rw [sm_mulr] at b3
    have b4 : sm (len f) (fun l => (fc l : Int)) ≤ ((len f * 2 ^ (len f - 1)) * (len f * 2 ^ (len f - 1)) : Nat) := by
      have all : ∀ n : Nat, n ≤ 9 → 0 < n → sm n (fun l => (fc l : Int)) ≤ ((n * 2 ^ (n - 1)) * (n * 2 ^ (n - 1)) : Nat) := by decide
      exact all (len f) h9 (by omega)
    have e3 : h.c (len h - 1) = lc h := rfl
    rw [e3] at b
    have c1 : ((fc (len h - 1) * fc k : Nat) : Int) * ((lc h * g.c k) * (lc h * g.c k)) ≤ ((len f * 2 ^ (len f - 1)) * (len f * 2 ^ (len f - 1)) : Nat) * ((A.natAbs * A.natAbs : Nat) : Int) := by
      refine Int.le_trans b (Int.le_trans (Int.le_of_eq b2) (Int.le_trans b3 ?_))
      exact Int.mul_le_mul_of_nonneg_right b4 (by omega)
    have p1 : 1 ≤ ((fc (len h - 1) * fc k : Nat) : Int) := by
      have := Nat.mul_pos (fc_pos (len h - 1)) (fc_pos k)
      omega
    have c2 : (lc h * g.c k) * (lc h * g.c k) ≤ ((fc (len h - 1) * fc k : Nat) : Int) * ((lc h * g.c k) * (lc h * g.c k)) := by
      have := Int.mul_le_mul_of_nonneg_right p1 (sq_nn (lc h * g.c k))
      rw [Int.one_mul] at this
      exact this
    have c3 := Int.le_trans c2 c1
    have e4 : (lc h * g.c k) * (lc h * g.c k) = ((lc h * g.c k).natAbs * (lc h * g.c k).natAbs : Nat) := by rw [Int.natCast_mul]; exact (Int.natAbs_mul_self' _).symm
    rw [e4, ← Int.natCast_mul] at c3
    have c4 := Int.ofNat_le.mp c3
    generalize (lc h * g.c k).natAbs = x at *
    generalize len f * 2 ^ (len f - 1) = y at *
    generalize A.natAbs = z at *
    by_cases q : x ≤ y * z
    · exact q
    · have : (y * z + 1) * (y * z + 1) ≤ x * x := Nat.mul_le_mul (by omega) (by omega)
      have e5 : y * y * (z * z) = y * z * (y * z) := by grind
      rw [e5] at c4
      have : (y * z + 1) * (y * z + 1) = y * z * (y * z) + 2 * (y * z) + 1 := by grind
      omega
end P
end RC
/-! M7: sums of polynomials, a polynomial put into another one, powers by a prime. -/
namespace RC
namespace P
def sp : Nat → (Nat → P) → P
  | 0, _ => 0
  | n + 1, f => sp n f + f n
theorem sp_congr {f g : Nat → P} : ∀ {n : Nat}, (∀ i, i < n → f i = g i) → sp n f = sp n g
  | 0, _ => rfl
  | n + 1, h => by
    show sp n f + f n = sp n g + g n
    rw [sp_congr (n := n) fun i hi => h i (by omega), h n (by omega)]
theorem sp_cg {m : Int} {f g : Nat → P} : ∀ {n : Nat}, (∀ i, i < n → Cg m (f i) (g i)) → Cg m (sp n f) (sp n g)
  | 0, _ => Cg.refl _ _
  | n + 1, h => (sp_cg (n := n) fun i hi => h i (by omega)).add (h n (by omega))
theorem sp_add (f g : Nat → P) : ∀ n, sp n (fun i => f i + g i) = sp n f + sp n g
  | 0 => by show (0 : P) = 0 + 0; grind
  | n + 1 => by
    show sp n (fun i => f i + g i) + (f n + g n) = (sp n f + f n) + (sp n g + g n)
    rw [sp_add f g n]; grind
theorem sp_mul (a : P) (f : Nat → P) : ∀ n, sp n (fun i => a * f i) = a * sp n f
  | 0 => by show (0 : P) = a * 0; grind
  | n + 1 => by
    show sp n (fun i => a * f i) + a * f n = a * (sp n f + f n)
    rw [sp_mul a f n]; grind
theorem sp_front (f : Nat → P) : ∀ n, sp (n + 1) f = f 0 + sp n (fun i => f (i + 1))
  | 0 => by show (0 : P) + f 0 = f 0 + 0; grind
  | n + 1 => by
    show sp (n + 1) f + f (n + 1) = f 0 + (sp n (fun i => f (i + 1)) + f (n + 1))
    rw [sp_front f n]; grind
theorem sp_more {f : Nat → P} {n m : Nat} (h : n ≤ m) (z : ∀ i, n ≤ i → i < m → f i = 0) : sp m f = sp n f := by
  induction m with
  | zero => rw [show n = 0 by omega]
  | succ m ih =>
    by_cases e : n = m + 1
    · rw [e]
    · show sp m f + f m = sp n f
      rw [ih (by omega) fun i h1 h2 => z i h1 (by omega), z m (by omega) (by omega)]; grind
theorem c_sp (f : Nat → P) (k : Nat) : ∀ n, (sp n f).c k = sm n (fun i => (f i).c k)
  | 0 => c_0 k
  | n + 1 => by
    show (sp n f + f n).c k = sm n (fun i => (f i).c k) + (f n).c k
    rw [c_add, c_sp f k n]
theorem pow_zero' (a : P) : a ^ 0 = 1 := rfl
theorem pow_succ' (a : P) (n : Nat) : a ^ (n + 1) = a ^ n * a := rfl
theorem pow_add' (a : P) (n m : Nat) : a ^ (n + m) = a ^ n * a ^ m := by
  induction m with
  | zero => rw [pow_zero', show n + 0 = n by omega]; grind
  | succ m ih => rw [show n + (m + 1) = n + m + 1 by omega, pow_succ', pow_succ', ih]; grind
theorem mul_pow' (a b : P) (n : Nat) : (a * b) ^ n = a ^ n * b ^ n := by
  induction n with
  | zero => rw [pow_zero', pow_zero', pow_zero']; grind
  | succ n ih => rw [pow_succ', pow_succ', pow_succ', ih]; grind
theorem pow_mul' (a : P) (n m : Nat) : a ^ (n * m) = (a ^ n) ^ m := by
  induction m with
  | zero => rfl
  | succ m ih => rw [Nat.mul_succ, pow_add', ih, pow_succ']
theorem K_pow (a : Int) (n : Nat) : K a ^ n = K (a ^ n) := by
  induction n with
  | zero => rw [pow_zero', Int.pow_zero, K_one]
  | succ n ih => rw [pow_succ', ih, Int.pow_succ, K_mulK]
/-! ### putting v in the unknown's place -/
noncomputable def ev (v f : P) : P := sp (len f) (fun j => K (f.c j) * v ^ j)
theorem ev_N (v : P) {f : P} {n : Nat} (h : Z f n) : ev v f = sp n (fun j => K (f.c j) * v ^ j) :=
  (sp_more (len_min h) fun i h1 _ => by rw [len_Z f i h1, K_zero]; grind).symm
theorem ev_add (v f g : P) : ev v (f + g) = ev v f + ev v g := by
  have hf := (len_Z f).mono (show len f ≤ len f + len g by omega)
  have hg := (len_Z g).mono (show len g ≤ len f + len g by omega)
  rw [ev_N v (hf.add hg), ev_N v hf, ev_N v hg, ← sp_add]
  exact sp_congr fun j _ => by rw [c_add, K_add]; grind
theorem ev_K (v : P) (a : Int) : ev v (K a) = K a := by
  rw [ev_N v (Z.K a)]
  show (0 : P) + K ((K a).c 0) * v ^ 0 = K a
  rw [pow_zero', c_K0]; grind
theorem ev_kmul (v : P) (a : Int) (f : P) : ev v (K a * f) = K a * ev v f := by
  rw [ev_N v ((len_Z f).kmul a), ev, ← sp_mul]
  exact sp_congr fun j _ => by rw [K_mul, K_mulK]; grind
theorem X_mul (f : P) (k : Nat) : (X * f).c (k + 1) = f.c k := by rw [← mon_1, mon_mul, if_pos (by omega)]; simp
theorem X_mul0 (f : P) : (X * f).c 0 = 0 := by rw [← mon_1, mon_mul, if_neg (by omega)]
theorem ev_Xmul (v f : P) : ev v (X * f) = v * ev v f := by
  have hz : Z (X * f) (len f + 1) := fun k hk => by
    obtain ⟨j, rfl⟩ : ∃ j, k = j + 1 := ⟨k - 1, by omega⟩
    rw [X_mul, len_Z f j (by omega)]
  rw [ev_N v hz, sp_front, X_mul0, K_zero, ev, ← sp_mul]
  have : (0 : P) * v ^ 0 + sp (len f) (fun i => K ((X * f).c (i + 1)) * v ^ (i + 1)) = sp (len f) (fun i => K ((X * f).c (i + 1)) * v ^ (i + 1)) := by grind
  rw [this]
  exact sp_congr fun j _ => by rw [X_mul, pow_succ']; grind
/-- the weights but the first, one lower -/
def tl (f : P) : P := ⟨fun k => f.c (k + 1), by
  obtain ⟨n, hn⟩ := f.fin
  exact ⟨n, fun k hk => hn (k + 1) (by omega)⟩⟩
theorem tl_eq (f : P) : f = K (f.c 0) + X * tl f := ext fun k => by
  rw [c_add, c_K]
  cases k with
  | zero => rw [X_mul0, if_pos rfl]; omega
  | succ k => rw [X_mul, if_neg (by omega)]; show f.c (k + 1) = 0 + f.c (k + 1); omega
theorem tl_Z {f : P} {n : Nat} (h : Z f (n + 1)) : Z (tl f) n := fun k hk => h (k + 1) (by omega)
theorem ev_mul (v : P) : ∀ (n : Nat) (f : P), Z f n → ∀ g : P, ev v (f * g) = ev v f * ev v g := by
  intro n
  induction n with
  | zero =>
    intro f hf g
    rw [Z.nil hf]
    have : (0 : P) * g = K 0 := by rw [K_zero]; grind
    rw [this, ev_K, show (0 : P) = K 0 from rfl, ev_K, K_zero]; grind
  | succ n ih =>
    intro f hf g
    have e := tl_eq f
    have h1 := ih (tl f) (tl_Z hf) g
    have e2 : f * g = K (f.c 0) * g + X * (tl f * g) := by
      have : f * g = (K (f.c 0) + X * tl f) * g := by rw [← e]
      rw [this]; grind
    have e3 : ev v f = K (f.c 0) + v * ev v (tl f) := by
      have : ev v f = ev v (K (f.c 0) + X * tl f) := by rw [← e]
      rw [this, ev_add, ev_K, ev_Xmul]
    rw [e2, ev_add, ev_kmul, ev_Xmul, h1, e3]; grind
theorem ev_mul' (v f g : P) : ev v (f * g) = ev v f * ev v g := ev_mul v _ f (len_Z f) g
theorem ev_X (v : P) : ev v X = v := by
  have : X = X * K 1 := by rw [K_one]; grind
  rw [this, ev_Xmul, ev_K, K_one]; grind
theorem ev_pow (v f : P) (n : Nat) : ev v (f ^ n) = ev v f ^ n := by
  induction n with
  | zero => rw [pow_zero', pow_zero']; exact ev_K v 1
  | succ n ih => rw [pow_succ', pow_succ', ev_mul', ih]
theorem ev_sub (v f g : P) : ev v (f - g) = ev v f - ev v g := by
  have : f - g = f + K (-1) * g := by rw [K_neg, K_one]; grind
  rw [this, ev_add, ev_kmul, K_neg, K_one]; grind
theorem ev_cg {m : Int} (v : P) {f g : P} (h : Cg m f g) : Cg m (ev v f) (ev v g) := by
  obtain ⟨x, hx⟩ := h
  exact ⟨ev v x, by rw [← ev_sub, hx, ev_kmul]⟩
theorem X_Z : Z X 2 := fun k hk => by rw [c_X, if_neg (by omega)]
/-! ### powers by a prime -/
theorem binom (a b : P) : ∀ n : Nat, (a + b) ^ n = sp (n + 1) (fun i => K (ch n i) * (a ^ i * b ^ (n - i)))
  | 0 => by
    show (1 : P) = 0 + K (ch 0 0) * (a ^ 0 * b ^ 0)
    rw [ch_0, pow_zero', pow_zero', show K ((1 : Nat) : Int) = 1 from rfl]; grind
  | n + 1 => by
    have e1 : a * sp (n + 1) (fun i => K (ch n i) * (a ^ i * b ^ (n - i))) = sp (n + 1) (fun i => K (ch n i) * (a ^ (i + 1) * b ^ (n - i))) := by
      rw [← sp_mul]
      exact sp_congr fun i _ => by rw [pow_succ']; grind
    have e2 : b * sp (n + 1) (fun i => K (ch n i) * (a ^ i * b ^ (n - i))) = sp (n + 2) (fun i => K (ch n i) * (a ^ i * b ^ (n + 1 - i))) := by
      rw [← sp_mul]
      have z : K (ch n (n + 1)) * (a ^ (n + 1) * b ^ (n + 1 - (n + 1))) = 0 := by rw [ch_lt (by omega), show K ((0 : Nat) : Int) = 0 from rfl]; grind
      show _ = sp (n + 1) _ + K (ch n (n + 1)) * (a ^ (n + 1) * b ^ (n + 1 - (n + 1)))
      rw [z]
      have q : ∀ y : P, y + 0 = y := by intro y; grind
      rw [q]
      exact sp_congr fun i hi => by rw [show n + 1 - i = n - i + 1 by omega, pow_succ']; grind
    rw [pow_succ', binom a b n]
    have e3 : sp (n + 1) (fun i => K (ch n i) * (a ^ i * b ^ (n - i))) * (a + b) = a * sp (n + 1) (fun i => K (ch n i) * (a ^ i * b ^ (n - i))) + b * sp (n + 1) (fun i => K (ch n i) * (a ^ i * b ^ (n - i))) := by grind
    rw [e3, e1, e2, sp_front (n := n + 1), sp_front (n := n + 1)]
    have e4 : sp (n + 1) (fun i => K (ch (n + 1) (i + 1)) * (a ^ (i + 1) * b ^ (n + 1 - (i + 1)))) = sp (n + 1) (fun i => K (ch n i) * (a ^ (i + 1) * b ^ (n - i))) + sp (n + 1) (fun i => K (ch n (i + 1)) * (a ^ (i + 1) * b ^ (n + 1 - (i + 1)))) := by
      rw [← sp_add]
      refine sp_congr fun i _ => ?_
      have : ((ch (n + 1) (i + 1) : Nat) : Int) = (ch n i : Nat) + (ch n (i + 1) : Nat) := by
        show ((ch n i + ch n (i + 1) : Nat) : Int) = _
        omega
      rw [this, K_add, show n + 1 - (i + 1) = n - i by omega]; grind
    rw [e4, ch_0, ch_0]; grind
theorem pr_fc {t : Int} (hp : Pr t) : ∀ n : Nat, (n : Int) < t → ¬ t ∣ (fc n : Int)
  | 0, _ => hp.one
  | n + 1, h => fun d => by
    have : ((fc (n + 1) : Nat) : Int) = ((n + 1 : Nat) : Int) * (fc n : Nat) := by
      show (((n + 1) * fc n : Nat) : Int) = _
      rw [Int.natCast_mul]
    rw [this] at d
    rcases hp.2 _ _ d with d | d
    · have := Int.le_of_dvd (by omega) d
      omega
    · exact pr_fc hp n (by omega) d
theorem pr_ch {t : Nat} (hp : Pr (t : Int)) {i : Nat} (h0 : 0 < i) (h1 : i < t) : (t : Int) ∣ (ch t i : Int) := by
  have e := ch_fc i (t - i)
  rw [show i + (t - i) = t by omega] at e
  have d : (t : Int) ∣ ((ch t i * fc i * fc (t - i) : Nat) : Int) := by
    rw [e]
    obtain ⟨s, rfl⟩ : ∃ s, t = s + 1 := ⟨t - 1, by omega⟩
    exact ⟨(fc s : Nat), by
      show (((s + 1) * fc s : Nat) : Int) = _
      rw [Int.natCast_mul]⟩
  rw [Int.natCast_mul, Int.natCast_mul] at d
  rcases hp.2 _ _ d with d | d
  · rcases hp.2 _ _ d with d | d
    · exact d
    · exact absurd d (pr_fc hp i (by omega))
  · exact absurd d (pr_fc hp (t - i) (by omega))
section
variable {t : Nat} (hp : Pr (t : Int))
include hp
theorem frosh (a b : P) : Cg t ((a + b) ^ t) (a ^ t + b ^ t) := by
  have h1 := hp.1
  rw [binom]
  obtain ⟨s, rfl⟩ : ∃ s, t = s + 1 := ⟨t - 1, by omega⟩
  rw [sp_front]
  show Cg _ (_ + (sp s _ + K (ch (s + 1) (s + 1)) * (a ^ (s + 1) * b ^ (s + 1 - (s + 1))))) _
  have z : Cg ((s + 1 : Nat) : Int) (sp s (fun i => K (ch (s + 1) (i + 1)) * (a ^ (i + 1) * b ^ (s + 1 - (i + 1))))) 0 := by
    have z0 : ∀ n, sp n (fun _ => (0 : P)) = 0 := by
      intro n
      induction n with
      | zero => rfl
      | succ n ih => show sp n (fun _ => (0 : P)) + 0 = 0; rw [ih]; grind
    rw [← z0 s]
    refine sp_cg fun i hi => ?_
    obtain ⟨x, hx⟩ := pr_ch hp (i := i + 1) (by omega) (by omega)
    rw [hx, K_mulK]
    exact ⟨K x * (a ^ (i + 1) * b ^ (s + 1 - (i + 1))), by grind⟩
  have c := (Cg.refl ((s + 1 : Nat) : Int) (K (ch (s + 1) 0) * (a ^ 0 * b ^ (s + 1 - 0)))).add (z.add (Cg.refl ((s + 1 : Nat) : Int) (K (ch (s + 1) (s + 1)) * (a ^ (s + 1) * b ^ (s + 1 - (s + 1))))))
  refine c.trans (Cg.of_eq ?_)
  rw [ch_0, ch_self, Nat.sub_self, Nat.sub_zero, pow_zero', pow_zero', show K ((1 : Nat) : Int) = 1 from rfl]; grind
/-- Fermat -/
theorem fermat (a : Int) : (t : Int) ∣ a ^ t - a := by
  have nat : ∀ n : Nat, (t : Int) ∣ (n : Int) ^ t - n := by
    intro n
    induction n with
    | zero =>
      have := hp.1
      rw [show ((0 : Nat) : Int) = 0 from rfl, Int.zero_pow (by omega)]
      exact Int.dvd_zero _
    | succ n ih =>
      have h := Cg.iff.mp (frosh hp (K n) (K 1)) 0
      rw [← K_add, K_pow, K_pow, K_pow, c_add, c_K0, c_K0, c_K0, Int.one_pow] at h
      have e : ((n + 1 : Nat) : Int) ^ t - ((n + 1 : Nat) : Int) = (((n : Int) + 1) ^ t - ((n : Int) ^ t + 1)) + ((n : Int) ^ t - n) := by
        rw [show ((n + 1 : Nat) : Int) = (n : Int) + 1 by omega]; omega
      rw [e]
      exact Int.dvd_add h ih
  rcases Int.le_total 0 a with h | h
  · have := nat a.toNat
    rw [Int.toNat_of_nonneg h] at this; exact this
  · have h1 := nat (-a).toNat
    rw [Int.toNat_of_nonneg (by omega)] at h1
    -- (a + -a)^t = a^t + (-a)^t by t
    have h2 := Cg.iff.mp (frosh hp (K a) (K (-a))) 0
    have hp1 := hp.1
    rw [← K_add, K_pow, K_pow, K_pow, c_add, c_K0, c_K0, c_K0, show a + -a = 0 by omega, Int.zero_pow (by omega)] at h2
    obtain ⟨x, hx⟩ := h1
    obtain ⟨y, hy⟩ := h2
    exact ⟨-x - y, by rw [Int.mul_sub, Int.mul_neg, ← hx, ← hy]; omega⟩
/-- the weights pushed apart -/
def up (t : Nat) (f : P) : P := ⟨fun k => if k % t = 0 then f.c (k / t) else 0, by
  obtain ⟨n, hn⟩ := f.fin
  refine ⟨n * t + t + 1, fun k hk => ?_⟩
  split
  · rename_i h2
    by_cases h : t = 0
    · subst h
      rw [Nat.mod_zero] at h2
      omega
    · refine hn _ ?_
      exact (Nat.le_div_iff_mul_le (by omega)).mpr (by omega)
  · rfl⟩
omit hp in
theorem up_pow (ht : 0 < t) (f : P) : up t f = ev (X ^ t) f := by
  refine ext fun k => ?_
  rw [ev, c_sp]
  show (if k % t = 0 then f.c (k / t) else 0) = _
  have e : ∀ j, (K (f.c j) * (X ^ t) ^ j).c k = if k = t * j then f.c j else 0 := fun j => by
    rw [K_mul, ← pow_mul', X_pow, c_mon]
    split <;> simp
  rw [sm_congr fun j _ => e j]
  split
  · rename_i h
    have hk : k = t * (k / t) := by
      have := Nat.div_add_mod k t
      omega
    by_cases c : k / t < len f
    · rw [sm_one (k := k / t) c fun j _ hj => if_neg fun q => hj (by rw [q, Nat.mul_div_cancel_left _ ht])]
      rw [if_pos hk]
    · rw [len_Z f _ (by omega)]
      refine (sm_zero fun j hj => if_neg fun q => ?_).symm
      rw [q, Nat.mul_div_cancel_left _ ht] at c
      omega
  · rename_i h
    refine (sm_zero fun j hj => if_neg fun q => ?_).symm
    rw [q, Nat.mul_mod_right] at h
    exact h rfl
/-- the t-th power by t -/
theorem frob : ∀ (n : Nat) (f : P), Z f n → Cg t (f ^ t) (ev (X ^ t) f) := by
  have hp1 := hp.1
  intro n
  induction n with
  | zero =>
    intro f hf
    rw [Z.nil hf, show (0 : P) = K 0 from rfl, ev_K, K_pow, Int.zero_pow (by omega)]
    exact Cg.refl _ _
  | succ n ih =>
    intro f hf
    have e := tl_eq f
    have h1 := ih (tl f) (tl_Z hf)
    have e3 : ev (X ^ t) f = K (f.c 0) + X ^ t * ev (X ^ t) (tl f) := by
      have : ev (X ^ t) f = ev (X ^ t) (K (f.c 0) + X * tl f) := by rw [← e]
      rw [this, ev_add, ev_K, ev_Xmul]
    have c1 : Cg t ((K (f.c 0) + X * tl f) ^ t) (K (f.c 0) ^ t + (X * tl f) ^ t) := frosh hp _ _
    rw [← e] at c1
    rw [e3]
    refine c1.trans (Cg.add ?_ ?_)
    · rw [K_pow]; exact Cg.K (fermat hp _)
    · rw [mul_pow']; exact h1.mull _
theorem frob' (f : P) : Cg t (f ^ t) (ev (X ^ t) f) := frob hp _ f (len_Z f)
/-! ### the t roots -/
omit hp in
theorem root_div (F : P) (a : Int) {n : Nat} (h : Z F (n + 1)) : ∃ G, F = (X - K a) * G + ev (K a) F ∧ Z G n := by
  have z : Z (X - K a) 2 := X_Z.sub ((Z.K a).mono (by omega))
  have one : (X - K a).c 1 = 1 := by rw [c_sub, c_X, c_K, if_pos rfl, if_neg (by omega)]; rfl
  obtain ⟨q, r, e, hr, hq⟩ := mdiv (n := 1) z one F
  have er : r = K (r.c 0) := eq_K (len_min hr)
  have e2 : ev (K a) F = r := by
    have e4 : ev (K a) F = ev (K a) ((X - K a) * q + r) := by rw [← e]
    rw [e4, ev_add, ev_mul', ev_sub, ev_X, ev_K]
    have : ev (K a) r = r := by rw [er, ev_K]
    rw [this]; grind
  exact ⟨q, by rw [e2]; exact e, hq n (fun k hk => h k (by omega))⟩
theorem roots : ∀ (n : Nat), (n : Int) ≤ t → ∀ F : P, Z F n → (∀ j : Nat, j < n → Cg t (ev (K j) F) 0) → Cg t F 0 := by
  intro n
  induction n with
  | zero => intro _ F hF _; rw [Z.nil hF]; exact Cg.refl _ _
  | succ n ih =>
    intro hn F hF hr
    obtain ⟨G, e, hG⟩ := root_div F n hF
    have hG0 : Cg t G 0 := by
      refine ih (by omega) G hG fun j hj => ?_
      have h1 := hr j (by omega)
      have e1 : ev (K j) F = (K j - K n) * ev (K j) G + ev (K n) F := by
        have q : ev (K j) F = ev (K j) ((X - K n) * G + ev (K n) F) := by rw [← e]
        have ec : ev (K n) F = K ((ev (K n) F).c 0) := by
          refine eq_K (len_min fun k hk => ?_)
          rw [ev, c_sp]
          refine sm_zero fun i _ => ?_
          rw [K_mul, K_pow, c_K, if_neg (by omega), Int.mul_zero]
        rw [q, ev_add, ev_mul', ev_sub, ev_X, ev_K]
        congr 1
        rw [ec, ev_K]
      have h2 : Cg t ((K j - K n) * ev (K j) G) 0 := by
        have : (K j - K n) * ev (K j) G = ev (K j) F - ev (K n) F := by rw [e1]; grind
        rw [this]
        exact (h1.sub (hr n (by omega))).trans (Cg.of_eq (by grind))
      rw [← K_sub] at h2
      rw [Cg.zero, Kdvd] at h2 ⊢
      intro k
      have h3 := h2 k
      rw [K_mul] at h3
      rcases hp.2 _ _ h3 with z | z
      · exfalso
        have := Int.le_of_dvd (show (0 : Int) < n - j by omega) (by
          have := Int.dvd_neg.mpr z
          rw [show -((j : Int) - n) = n - j by omega] at this
          exact this)
        omega
      · exact z
    have h2 := hr n (by omega)
    rw [e]
    exact ((hG0.mull _).add h2).trans (Cg.of_eq (by grind))
/-- the product of v, v - 1, .., v - (n - 1) -/
def fall (v : P) : Nat → P
  | 0 => 1
  | n + 1 => fall v n * (v - K n)
omit hp in
theorem ev_fall (v y : P) : ∀ n, ev y (fall v n) = fall (ev y v) n
  | 0 => ev_K y 1
  | n + 1 => by
    show ev y (fall v n * (v - K n)) = fall (ev y v) n * (ev y v - K n)
    rw [ev_mul', ev_fall v y n, ev_sub, ev_K]
omit hp in
theorem fall_0 (j : Nat) : ∀ n, j < n → fall (K j) n = 0
  | n + 1, h => by
    show fall (K j) n * (K j - K n) = 0
    by_cases e : j = n
    · rw [e]; grind
    · rw [fall_0 j n (by omega)]; grind
omit hp in
theorem fall_X : ∀ n, Z (fall X n) (n + 1) ∧ (fall X n).c n = 1
  | 0 => ⟨Z.one, c_1 0⟩
  | n + 1 => by
    obtain ⟨h1, h2⟩ := fall_X n
    have z : Z (X - K n) (1 + 1) := X_Z.sub ((Z.K n).mono (by omega))
    refine ⟨Z.mul h1 z, ?_⟩
    show (fall X n * (X - K n)).c (n + 1) = 1
    rw [mul_top h1 z, h2, c_sub, c_X, c_K, if_pos rfl, if_neg (by omega)]; rfl
/-- v to the t less v is the product of all v - k -/
theorem fall_pow (v : P) : Cg t (fall v t) (v ^ t - v) := by
  have hp1 := hp.1
  have key : Cg t (fall X t - (X ^ t - X)) 0 := by
    refine roots hp t (Int.le_refl _) _ (fun k hk => ?_) fun j hj => ?_
    · obtain ⟨h1, h2⟩ := fall_X t
      rw [c_sub, c_sub, X_pow, c_mon, c_X, if_neg (c := k = 1) (by omega)]
      by_cases e : k = t
      · rw [if_pos e, e, h2]; rfl
      · rw [if_neg e, h1 k (by omega)]; rfl
    · rw [ev_sub, ev_sub, ev_pow, ev_X, ev_fall, ev_X, fall_0 j t hj, K_pow, ← K_sub]
      obtain ⟨x, hx⟩ := fermat hp (j : Int)
      rw [hx]
      exact ⟨- K x, by rw [K_mulK]; grind⟩
  have h := ev_cg v key
  rw [ev_sub, ev_sub, ev_pow, ev_X, ev_fall, ev_X, show ev v 0 = 0 from ev_K v 0] at h
  obtain ⟨x, hx⟩ := h
  exact ⟨x, by grind⟩
end
end P
end RC
/-! M8: parts by a prime (Berlekamp). -/
namespace RC
namespace P
theorem D_cg {t : Int} {a b : P} (h : Cg t a b) : Cg t (D a) (D b) := Cg.iff.mpr fun k => by
  rw [c_D, c_D, ← Int.mul_sub]
  exact Int.dvd_trans (Cg.iff.mp h (k + 1)) (Int.dvd_mul_left ..)
/-- free by t: any two factors by t share nothing by t -/
def FrM (t : Int) (f : P) : Prop := ∀ g h, Cg t f (g * h) → Cop t g h
theorem FrM.of {t : Int} {f : P} (h : Cop t f (D f)) : FrM t f := fun a b e => by
  obtain ⟨u, v, c⟩ := h
  refine ⟨u * b + v * D b, v * D a, ?_⟩
  have e2 := D_cg e
  rw [D_mul] at e2
  have := ((e.mull u).add (e2.mull v)).symm.trans c
  exact Cg.trans (Cg.of_eq (by grind)) this
theorem FrM.frT {t : Int} {f : P} (h : FrM t f) : FrT t f := fun g k e => h g k (Cg.of_eq e)
theorem FrM.part {t : Int} {f g h : P} (hf : FrM t f) (e : Cg t f (g * h)) : FrM t g := fun a b e' => by
  obtain ⟨u, v, c⟩ := hf a (b * h) (e.trans ((e'.mulr h).trans (Cg.of_eq (by grind))))
  exact ⟨u, v * h, (Cg.of_eq (by grind)).trans c⟩
theorem FrM.cg {t : Int} {f g : P} (hf : FrM t f) (e : Cg t f g) : FrM t g := fun a b e' => hf a b (e.trans e')
theorem Cop.mulr {t : Int} {a b d : P} (h : Cop t a b) (g : Cop t a d) : Cop t a (b * d) := by
  obtain ⟨u, v, x, hx⟩ := h
  obtain ⟨u', v', y, hy⟩ := g
  -- (u a + v b)(u' a + v' d) = 1
  refine ⟨u * (u' * a + v' * d) + v * b * u', v * v', x * (u' * a + v' * d) + y, ?_⟩
  have e1 : u * a + v * b = 1 + K t * x := by grind
  have e2 : u' * a + v' * d = 1 + K t * y := by grind
  grind
theorem Cop.dv {t : Int} {a a' b : P} (h : Cop t a b) (d : Dv t a' a) : Cop t a' b := by
  obtain ⟨u, v, c⟩ := h
  obtain ⟨k, hk⟩ := d
  refine ⟨u * k, v, Cg.trans ?_ c⟩
  have := (hk.mull u).symm.add (Cg.refl t (v * b))
  exact (Cg.of_eq (by grind)).trans this
theorem Cop.cgr {t : Int} {a b b' : P} (h : Cop t a b) (e : Cg t b b') : Cop t a b' := by
  obtain ⟨u, v, c⟩ := h
  exact ⟨u, v, ((Cg.refl t (u * a)).add (e.symm.mull v)).trans c⟩
theorem Cop.one (t : Int) (b : P) : Cop t 1 b := ⟨1, 0, Cg.of_eq (by grind)⟩
theorem Cop.dv_one {t : Int} {a b : P} (h : Cop t a b) (d : Dv t a b) : Dv t a 1 := by
  obtain ⟨u, v, c⟩ := h
  exact (Dv.add ⟨u, Cg.of_eq (by grind)⟩ (d.mul v) : Dv t a (u * a + v * b)).cg c
theorem mon_one {t : Int} (ht : 1 < t) {a : P} (ha : Mon a) (d : Dv t a 1) : len a = 1 := by
  have hl := ha.len
  by_cases h : len a = 1
  · exact h
  · exfalso
    obtain ⟨k, hk⟩ := d
    have := (mon_short (by omega) ha (by rw [len_1]; omega) hk).2
    have := Cg.iff.mp this 0
    rw [c_1, if_pos rfl, c_0] at this
    have := Int.le_of_dvd (by decide) this
    omega
theorem mon_len1 {a : P} (ha : Mon a) (h : len a = 1) : a = 1 := by
  rw [eq_K (a := a) (by omega)]
  have : lc a = 1 := ha
  rw [lc_c (by omega)] at this
  rw [this]; rfl
/-- the step of a split: what is left shares nothing with v - k -/
theorem sep {t : Int} {left piece left' z : P} (hf : FrM t left) (h1 : Cg t left (piece * left')) (h2 : ∃ u v, Cg t (u * left + v * z) piece) : Cop t left' z := by
  obtain ⟨al, be, c⟩ := hf piece left' h1
  obtain ⟨u, v, e⟩ := h2
  refine ⟨al * u * piece + be, al * v, ?_⟩
  -- al (u left + v z) + be left' = 1
  have a1 : Cg t (al * (u * (piece * left') + v * z) + be * left') (al * piece + be * left') := by
    refine Cg.add (Cg.mull al ?_) (Cg.refl _ _)
    exact ((h1.symm.mull u).add (Cg.refl _ _)).trans e
  exact (Cg.of_eq (by grind)).trans (a1.trans c)
theorem cop_fall {t : Int} {a v : P} : ∀ n : Nat, (∀ j : Nat, j < n → Cop t a (v - K j)) → Cop t a (fall v n)
  | 0, _ => (Cop.one t a).symm
  | n + 1, h => (cop_fall n fun j hj => h j (by omega)).mulr (h n (by omega))
/-- behind a split nothing is left -/
theorem split_end {t : Nat} (hp : Pr (t : Int)) {part left v : P} (hm : Mon left) (hd : Dv t left part) (hv : Dv t part (v ^ t - v)) (hc : ∀ j : Nat, j < t → Cop t left (v - K j)) : left = 1 := by
  refine mon_len1 hm (mon_one hp.1 hm ?_)
  refine (cop_fall t hc).dv_one ?_
  exact (hd.trans hv).cg (fall_pow hp v).symm
/-- what divides a number that isn't nought is a number -/
theorem dv_K {t : Int} (hp : Pr t) {a : P} {j : Int} (hj : ¬ t ∣ j) (d : Dv t a (K j)) : ∃ x : Int, Cg t a (K x) := by
  by_cases h0 : Cg t a 0
  · exact ⟨0, h0⟩
  · obtain ⟨a', x, y, hm, _, _, c2, _⟩ := ex_mon hp (len_Z a) h0
    have d1 : Dv t a' a := ⟨K y, c2.trans (Cg.of_eq (by grind))⟩
    obtain ⟨k, hk⟩ := kinv hp hj
    have d2 : Dv t a' 1 := ((d1.trans d).mul (K k)).cg ((Cg.of_eq (by grind)).trans hk)
    have := mon_len1 hm (mon_one hp.1 hm d2)
    rw [this] at c2
    exact ⟨y, c2.trans (Cg.of_eq (by grind))⟩
theorem Dv.neg {t : Int} {a b : P} (h : Dv t a b) : Dv t a (- b) := by
  have := h.mul (-1)
  exact this.cg (Cg.of_eq (by grind))
theorem Dv.pow_sub {t : Int} {w a b : P} (h : Dv t w (a - b)) : ∀ n : Nat, Dv t w (a ^ n - b ^ n)
  | 0 => Dv.zero (Cg.of_eq (by rw [pow_zero', pow_zero']; grind))
  | n + 1 => by
    have ih := Dv.pow_sub h n
    have e : a ^ (n + 1) - b ^ (n + 1) = a * (a ^ n - b ^ n) + b ^ n * (a - b) := by rw [pow_succ', pow_succ']; grind
    rw [e]
    exact (ih.mul a).add (h.mul _)
/-- what is 0 by the one factor and 1 by the other -/
theorem idem {t : Int} {w a c : P} (hw : Mon w) (hf : FrM t w) (e : Cg t w (a * c)) (m : Nat) : ∃ V, len V < len w ∧ Dv t w (V ^ (m + 1) - V) ∧ Dv t a V ∧ Dv t c (V - 1) := by
  obtain ⟨al, be, h⟩ := hf a c e
  obtain ⟨q, V, eV, hV⟩ := mon_div hw (al * a)
  have dVE : Dv t w (V - al * a) := ⟨-q, Cg.of_eq (by rw [eV]; grind)⟩
  have da : Dv t a w := ⟨c, e⟩
  have dc : Dv t c w := ⟨a, e.trans (Cg.of_eq (by grind))⟩
  have sq : Dv t w (al * a * (al * a) - al * a) := by
    refine ⟨- (al * be), ?_⟩
    have h1 : Cg t (al * a * (al * a + be * c)) (al * a * 1) := h.mull _
    have h2 : Cg t (w * (al * be)) (a * c * (al * be)) := e.mulr _
    obtain ⟨x, hx⟩ := h1
    obtain ⟨y, hy⟩ := h2
    exact ⟨x + y, by grind⟩
  have pw : ∀ n : Nat, Dv t w ((al * a) ^ (n + 1) - al * a) := by
    intro n
    induction n with
    | zero => exact Dv.zero (Cg.of_eq (by rw [pow_succ', pow_zero']; grind))
    | succ n ih =>
      have q := (ih.mul (al * a)).add sq
      refine q.cg (Cg.of_eq ?_)
      rw [pow_succ' _ (n + 1)]; grind
  refine ⟨V, hV, ?_, ?_, ?_⟩
  · have q := ((dVE.pow_sub (m + 1)).add (pw m)).sub dVE
    exact q.cg (Cg.of_eq (by grind))
  · have q := (da.trans dVE).add (⟨al, Cg.of_eq (by grind)⟩ : Dv t a (al * a))
    exact q.cg (Cg.of_eq (by grind))
  · have q := (dc.trans dVE).sub (⟨be, Cg.of_eq (by grind)⟩ : Dv t c (be * c))
    have h2 : Cg t (al * a - 1) (- (be * c)) := by
      obtain ⟨x, hx⟩ := h
      exact ⟨x, by grind⟩
    have r : Dv t c (al * a - 1) := (Dv.neg (⟨be, Cg.of_eq (by grind)⟩ : Dv t c (be * c))).cg h2.symm
    exact ((dc.trans dVE).add r).cg (Cg.of_eq (by grind))
/-! ### what comes of some -/
def Span (t : Int) : List P → P → Prop
  | [], V => Cg t V 0
  | S :: Ss, V => ∃ c : Int, Span t Ss (V - K c * S)
theorem Span.cg {t : Int} : ∀ {Ss : List P} {V W : P}, Span t Ss V → Cg t V W → Span t Ss W
  | [], _, _, h, e => e.symm.trans h
  | S :: Ss, V, W, ⟨c, h⟩, e => ⟨c, h.cg (e.sub (Cg.refl _ _))⟩
theorem Span.zero {t : Int} : ∀ (Ss : List P), Span t Ss 0
  | [] => Cg.refl _ _
  | S :: Ss => ⟨0, by
    have := Span.zero (t := t) Ss
    exact this.cg (Cg.of_eq (by rw [K_zero]; grind))⟩
theorem Span.add {t : Int} : ∀ {Ss : List P} {V W : P}, Span t Ss V → Span t Ss W → Span t Ss (V + W)
  | [], _, _, h, g => (Cg.add h g).trans (Cg.of_eq (by grind))
  | S :: Ss, V, W, ⟨c, h⟩, ⟨d, g⟩ => ⟨c + d, (h.add g).cg (Cg.of_eq (by rw [K_add]; grind))⟩
theorem Span.smul {t : Int} (x : Int) : ∀ {Ss : List P} {V : P}, Span t Ss V → Span t Ss (K x * V)
  | [], _, h => (Cg.mull (K x) h).trans (Cg.of_eq (by grind))
  | S :: Ss, V, ⟨c, h⟩ => ⟨x * c, (h.smul x).cg (Cg.of_eq (by rw [K_mulK]; grind))⟩
theorem Span.cons {t : Int} {S : P} {Ss : List P} {V : P} (h : Span t Ss V) : Span t (S :: Ss) V := ⟨0, h.cg (Cg.of_eq (by rw [K_zero]; grind))⟩
theorem Span.mem {t : Int} : ∀ {Ss : List P} {S : P}, S ∈ Ss → Span t Ss S
  | T :: Ss, S, h => by
    rcases List.mem_cons.mp h with e | h
    · subst e
      exact ⟨1, (Span.zero Ss).cg (Cg.of_eq (by rw [K_one]; grind))⟩
    · exact (Span.mem h).cons
/-- what is so of some (closed under sums) is so of what comes of them -/
theorem Span.ind {t : Int} {G : P → Prop} (hc : ∀ a b, Cg t a b → G a → G b) (h0 : G 0) (ha : ∀ a b (x : Int), G a → G b → G (a + K x * b)) : ∀ {Ss : List P} {V : P}, (∀ S ∈ Ss, G S) → Span t Ss V → G V
  | [], V, _, h => hc 0 V h.symm h0
  | S :: Ss, V, hS, ⟨c, h⟩ => by
    have := Span.ind hc h0 ha (fun T hT => hS T (List.mem_cons_of_mem _ hT)) h
    have := ha _ _ c this (hS S List.mem_cons_self)
    rw [show V - K c * S + K c * S = V by grind] at this
    exact this
/-- one is taken out of the others -/
theorem Span.elim {t : Int} {α : Type} {S S' : α → P} {p : P} : ∀ {l : List α} {V : P}, (∀ x ∈ l, ∃ d : Int, Cg t (S' x) (S x - K d * p)) → Span t (l.map S) V → ∃ c : Int, Span t (l.map S') (V - K c * p)
  | [], V, _, h => ⟨0, Cg.trans (Cg.of_eq (by rw [K_zero]; grind)) h⟩
  | x :: l, V, hd, ⟨c, h⟩ => by
    obtain ⟨d, e⟩ := hd x List.mem_cons_self
    obtain ⟨c', h'⟩ := Span.elim (fun y hy => hd y (List.mem_cons_of_mem _ hy)) h
    refine ⟨c' + c * d, c, h'.cg ?_⟩
    have := (Cg.refl t (V - K (c' + c * d) * p)).sub (e.mull (K c))
    refine Cg.trans (Cg.of_eq ?_) this.symm
    rw [K_add, K_mulK]; grind
theorem Span.mid {t : Int} {S : P} : ∀ {pre post : List P} {V : P}, Span t (pre ++ S :: post) V → ∃ c : Int, Span t (pre ++ post) (V - K c * S)
  | [], _, _, h => h
  | T :: pre, post, V, ⟨c, h⟩ => by
    obtain ⟨c', h'⟩ := Span.mid h
    exact ⟨c', c, h'.cg (Cg.of_eq (by grind))⟩
def lin : List Int → List P → P
  | c :: cs, V :: Vs => K c * V + lin cs Vs
  | _, _ => 0
theorem lin_zero : ∀ (Vs : List P), lin (Vs.map fun _ => 0) Vs = 0
  | [] => rfl
  | V :: Vs => by
    show K 0 * V + lin (Vs.map fun _ => 0) Vs = 0
    rw [lin_zero Vs, K_zero]; grind
theorem lin_map (d : P → Int) (W : P) : ∀ (cs : List Int) (Vs : List P), ∃ z : Int, lin cs (Vs.map fun V => V - K (d V) * W) = lin cs Vs + K z * W
  | c :: cs, V :: Vs => by
    obtain ⟨z, e⟩ := lin_map d W cs Vs
    refine ⟨z - c * d V, ?_⟩
    show K c * (V - K (d V) * W) + lin cs (Vs.map fun V => V - K (d V) * W) = K c * V + lin cs Vs + _
    rw [e, K_sub, K_mulK]; grind
  | [], Vs => ⟨0, by cases Vs <;> (show (0 : P) = 0 + K 0 * W; rw [K_zero]; grind)⟩
  | _ :: _, [] => ⟨0, by show (0 : P) = 0 + K 0 * W; rw [K_zero]; grind⟩
theorem lin_append : ∀ (cs ds : List Int) (Vs Ws : List P), cs.length = Vs.length → lin (cs ++ ds) (Vs ++ Ws) = lin cs Vs + lin ds Ws
  | [], ds, [], Ws, _ => by show lin ds Ws = 0 + lin ds Ws; grind
  | c :: cs, ds, V :: Vs, Ws, h => by
    show K c * V + lin (cs ++ ds) (Vs ++ Ws) = K c * V + lin cs Vs + lin ds Ws
    rw [lin_append cs ds Vs Ws (Nat.succ.inj h)]; grind
/-- more than there are to come of lean on each other -/
theorem dep {t : Int} (hp : Pr t) : ∀ (Ss Vs : List P), (∀ V ∈ Vs, Span t Ss V) → Ss.length < Vs.length → ∃ cs : List Int, cs.length = Vs.length ∧ (∃ c ∈ cs, ¬ t ∣ c) ∧ Cg t (lin cs Vs) 0 := by
  intro Ss
  induction Ss with
  | nil =>
    intro Vs hV hl
    match Vs, hV, hl with
    | V :: Vs, hV, _ =>
      refine ⟨1 :: Vs.map fun _ => 0, by simp, ⟨1, List.mem_cons_self, hp.one⟩, ?_⟩
      show Cg t (K 1 * V + lin (Vs.map fun _ => 0) Vs) 0
      rw [lin_zero, K_one]
      have : Cg t V 0 := hV V List.mem_cons_self
      exact (Cg.of_eq (by grind)).trans this
  | cons S Ss ih =>
    intro Vs hV hl
    by_cases all : ∀ V ∈ Vs, Span t Ss V
    · exact ih Vs all (by have : (S :: Ss).length = Ss.length + 1 := rfl; omega)
    · obtain ⟨V0, hm, hn⟩ : ∃ V0, V0 ∈ Vs ∧ ¬ Span t Ss V0 := Classical.byContradiction fun z => all fun V hV => Classical.byContradiction fun y => z ⟨V, hV, y⟩
      obtain ⟨pre, post, rfl⟩ := List.append_of_mem hm
      obtain ⟨c0, h0⟩ := hV V0 hm
      have nc : ¬ t ∣ c0 := fun ⟨x, hx⟩ => hn (h0.cg ⟨- (K x * S), by rw [hx, K_mulK]; grind⟩)
      obtain ⟨y, hy⟩ := kinv hp nc
      have ex : ∀ V, ∃ d : Int, V ∈ pre ++ V0 :: post → Span t Ss (V - K d * V0) := fun V => by
        by_cases m : V ∈ pre ++ V0 :: post
        · obtain ⟨c, h⟩ := hV V m
          refine ⟨c * y, fun _ => ?_⟩
          have := h.add (h0.smul (-(c * y)))
          refine this.cg ?_
          obtain ⟨x, hx⟩ := hy
          refine ⟨K c * x * S, ?_⟩
          rw [K_neg, K_mulK]; grind
        · exact ⟨0, fun z => absurd z m⟩
      obtain ⟨d, hd⟩ := Classical.axiomOfChoice ex
      obtain ⟨cs, l1, ⟨c, mc, hc⟩, e⟩ := ih ((pre ++ post).map fun V => V - K (d V) * V0) (fun W hW => by
        obtain ⟨V, mV, rfl⟩ := List.mem_map.mp hW
        refine hd V ?_
        rcases List.mem_append.mp mV with q | q
        · exact List.mem_append.mpr (.inl q)
        · exact List.mem_append.mpr (.inr (List.mem_cons_of_mem _ q))) (by
          rw [List.length_map, List.length_append]
          rw [List.length_append] at hl
          have a1 : (S :: Ss).length = Ss.length + 1 := rfl
          have a2 : (V0 :: post).length = post.length + 1 := rfl
          omega)
      obtain ⟨z, ez⟩ := lin_map d V0 cs (pre ++ post)
      rw [List.length_map, List.length_append] at l1
      have lt : (cs.take pre.length).length = pre.length := by rw [List.length_take]; omega
      refine ⟨cs.take pre.length ++ z :: cs.drop pre.length, ?_, ⟨c, ?_, hc⟩, ?_⟩
      · rw [List.length_append, List.length_append, List.length_cons, List.length_cons, lt, List.length_drop]; omega
      · rw [← List.take_append_drop pre.length cs] at mc
        rcases List.mem_append.mp mc with q | q
        · exact List.mem_append.mpr (.inl q)
        · exact List.mem_append.mpr (.inr (List.mem_cons_of_mem _ q))
      · rw [lin_append _ _ _ _ lt]
        have e2 : lin cs (pre ++ post) = lin (cs.take pre.length) pre + lin (cs.drop pre.length) post := by
          rw [← lin_append _ _ _ _ lt, List.take_append_drop]
        rw [ez, e2] at e
        refine Cg.trans (Cg.of_eq ?_) e
        show lin (cs.take pre.length) pre + (K z * V0 + lin (cs.drop pre.length) post) = _
        grind
theorem mem_prod {t : Int} : ∀ {L : List P} {p : P}, p ∈ L → ∃ c, prod L = p * c
  | q :: L, p, h => by
    rcases List.mem_cons.mp h with e | h
    · subst e; exact ⟨prod L, rfl⟩
    · obtain ⟨c, e⟩ := mem_prod (t := t) h
      exact ⟨q * c, by show q * prod L = _; rw [e]; grind⟩
/-- for each place of a list what is 1 by the one there and 0 by the others -/
theorem idems {t : Int} {w : P} (hw : Mon w) (hf : FrM t w) (m : Nat) (L : List P) (e : Cg t w (prod L)) (i : Nat) (q : P) (hq : L[i]? = some q) :
    ∃ V, len V < len w ∧ Dv t w (V ^ (m + 1) - V) ∧ Dv t q (V - 1) ∧ ∀ (j : Nat) (r : P), j ≠ i → L[j]? = some r → Dv t r V := by
  have sp : ∀ (L : List P) (i : Nat) (q : P), L[i]? = some q → ∃ c, prod L = c * q ∧ ∀ (j : Nat) (r : P), j ≠ i → L[j]? = some r → r ∣ c := by
    intro L
    induction L with
    | nil => intro i q h; simp at h
    | cons p L ih =>
      intro i q h
      cases i with
      | zero =>
        have : p = q := by simpa using h
        subst this
        refine ⟨prod L, by show p * prod L = _; grind, fun j r hj hr => ?_⟩
        cases j with
        | zero => exact absurd rfl hj
        | succ j =>
          have hm : r ∈ L := List.mem_of_getElem? (by simpa using hr)
          obtain ⟨c, e⟩ := mem_prod (t := t) hm
          exact ⟨c, e⟩
      | succ i =>
        obtain ⟨c, e, h2⟩ := ih i q (by simpa using h)
        refine ⟨p * c, by show p * prod L = _; rw [e]; grind, fun j r hj hr => ?_⟩
        cases j with
        | zero =>
          have : p = r := by simpa using hr
          subst this
          exact ⟨c, rfl⟩
        | succ j => exact dvd_mul (h2 j r (by omega) (by simpa using hr)) p
  obtain ⟨c, ec, h2⟩ := sp L i q hq
  obtain ⟨V, h3, h4, h5, h6⟩ := idem hw hf (a := c) (c := q) (by rw [← ec]; exact e) m
  exact ⟨V, h3, h4, h6, fun j r hj hr => (Dv.of_dvd (h2 j r hj hr)).trans h5⟩
theorem lin_at {t : Int} {q : P} (i : Nat) : ∀ (cs : List Int) (Vs : List P) (i : Nat), cs.length = Vs.length → (∀ (j : Nat) (V : P), j ≠ i → Vs[j]? = some V → Dv t q V) →
    ∀ (V : P) (c : Int), Vs[i]? = some V → cs[i]? = some c → Dv t q (V - 1) → Dv t q (lin cs Vs - K c) := by
  have zero : ∀ (cs : List Int) (Vs : List P), (∀ V ∈ Vs, Dv t q V) → Dv t q (lin cs Vs) := by
    intro cs
    induction cs with
    | nil => intro Vs _; cases Vs <;> exact Dv.zero (Cg.refl _ _)
    | cons c cs ih =>
      intro Vs h
      cases Vs with
      | nil => exact Dv.zero (Cg.refl _ _)
      | cons V Vs => exact ((h V List.mem_cons_self).mul (K c)).add (ih Vs fun W hW => h W (List.mem_cons_of_mem _ hW))
  intro cs
  induction cs with
  | nil => intro Vs i _ _ V c _ hc; simp at hc
  | cons d cs ih =>
    intro Vs i hl h V c hV hc h1
    cases Vs with
    | nil => simp at hV
    | cons W Vs =>
      cases i with
      | zero =>
        have e1 : W = V := by simpa using hV
        have e2 : d = c := by simpa using hc
        subst e1 e2
        have r := zero cs Vs fun U hU => by
          obtain ⟨j, hj⟩ := List.getElem?_of_mem hU
          exact h (j + 1) U (by omega) (by simpa using hj)
        have := (h1.mul (K d)).add r
        refine this.cg (Cg.of_eq ?_)
        show _ = K d * W + lin cs Vs - K d
        grind
      | succ i =>
        have r := ih Vs i (Nat.succ.inj hl) (fun j U hj hU => h (j + 1) U (by omega) (by simpa using hU)) V c (by simpa using hV) (by simpa using hc) h1
        have z := h 0 W (by omega) rfl
        have := (z.mul (K d)).add r
        refine this.cg (Cg.of_eq ?_)
        show _ = K d * W + lin cs Vs - K c
        grind
/-- BERLEKAMP: the parts are such that split no more -/
theorem berl {t : Nat} (hp : Pr (t : Int)) {w : P} (hw : Mon w) (hf : FrM t w) {Ss : List P} (hspan : ∀ V, len V < len w → Dv t w (V ^ t - V) → Span t Ss V)
    {parts : List P} (hmon : ∀ p ∈ parts, Mon p ∧ 2 ≤ len p) (hprod : Cg t w (prod parts)) (hend : (∀ S ∈ Ss, ∀ p ∈ parts, ∃ j : Int, Dv t p (S - K j)) ∨ Ss.length ≤ parts.length) :
    ∀ p ∈ parts, IrT t p := by
  have hp1 := hp.1
  obtain ⟨m, hm⟩ : ∃ m, t = m + 1 := ⟨t - 1, by omega⟩
  intro p hpm
  refine ⟨(hmon p hpm).1, (hmon p hpm).2, fun a b hab => ?_⟩
  rcases hend with hA | hB
  · obtain ⟨c, ec⟩ := mem_prod (t := t) hpm
    have e : Cg t w (a * (b * c)) := by
      rw [ec] at hprod
      exact hprod.trans ((hab.mulr c).trans (Cg.of_eq (by grind)))
    obtain ⟨V, h1, h2, h3, h4⟩ := idem hw hf e m
    rw [← hm] at h2
    have hs := hspan V h1 h2
    obtain ⟨j, hj⟩ : ∃ j : Int, Dv t p (V - K j) := by
      refine Span.ind (t := t) (G := fun V => ∃ j : Int, Dv t p (V - K j)) ?_ ⟨0, Dv.zero (Cg.of_eq (by rw [K_zero]; grind))⟩ ?_ (fun S hS => hA S hS p hpm) hs
      · rintro x y hxy ⟨j, hj⟩
        exact ⟨j, hj.cg (hxy.sub (Cg.refl _ _))⟩
      · rintro x y z ⟨j, hj⟩ ⟨k, hk⟩
        exact ⟨j + z * k, (hj.add (hk.mul (K z))).cg (Cg.of_eq (by rw [K_add, K_mulK]; grind))⟩
    have da : Dv t a p := ⟨b, hab⟩
    have db : Dv t b p := ⟨a, hab.trans (Cg.of_eq (by grind))⟩
    by_cases htj : (t : Int) ∣ j
    · right
      have d1 : Dv t b (V - 1) := (Dv.of_dvd (dvd_mul_right b c)).trans h4
      have d2 := (db.trans hj).sub d1
      have hn : ¬ (t : Int) ∣ 1 - j := fun z => hp.one (by have := Int.dvd_add z htj; rw [show 1 - j + j = 1 by omega] at this; exact this)
      exact dv_K hp hn (d2.cg (Cg.of_eq (by rw [K_sub, K_one]; grind)))
    · left
      have d2 := h3.sub (da.trans hj)
      exact dv_K hp htj (d2.cg (Cg.of_eq (by grind)))
  · apply Classical.byContradiction
    intro hno
    have na : ¬ ∃ x : Int, Cg t a (K x) := fun z => hno (.inl z)
    have nb : ¬ ∃ x : Int, Cg t b (K x) := fun z => hno (.inr z)
    obtain ⟨pre, post, rfl⟩ := List.append_of_mem hpm
    have eL : Cg t w (prod (pre ++ a :: b :: post)) := by
      rw [prod_append] at hprod ⊢
      refine hprod.trans (Cg.mull _ ?_)
      show Cg t (p * prod post) (a * (b * prod post))
      exact (hab.mulr _).trans (Cg.of_eq (by grind))
    have nK : ∀ q ∈ pre ++ a :: b :: post, ¬ ∃ x : Int, Cg t q (K x) := fun q hq => by
      have mono : ∀ q ∈ pre ++ p :: post, ¬ ∃ x : Int, Cg t q (K x) := fun q hq ⟨x, hx⟩ => by
        obtain ⟨h1, h2⟩ := hmon q hq
        have := Cg.iff.mp hx (len q - 1)
        rw [show q.c (len q - 1) = 1 from h1, c_K, if_neg (by omega), Int.sub_zero] at this
        exact hp.one this
      rcases List.mem_append.mp hq with z | z
      · exact mono q (List.mem_append.mpr (.inl z))
      · rcases List.mem_cons.mp z with z | z
        · rw [z]; exact na
        · rcases List.mem_cons.mp z with z | z
          · rw [z]; exact nb
          · exact mono q (List.mem_append.mpr (.inr (List.mem_cons_of_mem _ z)))
    have hlen : (pre ++ a :: b :: post).length = (pre ++ p :: post).length + 1 := by simp only [List.length_append, List.length_cons]; omega
    generalize pre ++ a :: b :: post = L at *
    have ex : ∀ i : Nat, ∃ V, ∀ q, L[i]? = some q → len V < len w ∧ Dv t w (V ^ t - V) ∧ Dv t q (V - 1) ∧ ∀ (j : Nat) (r : P), j ≠ i → L[j]? = some r → Dv t r V := fun i => by
      cases h : L[i]? with
      | none => exact ⟨0, fun q z => by cases z⟩
      | some q =>
        obtain ⟨V, r⟩ := idems hw hf m L eL i q h
        rw [← hm] at r
        exact ⟨V, fun q' z => by cases z; exact r⟩
    obtain ⟨V, hV⟩ := Classical.axiomOfChoice ex
    have getV : ∀ (j : Nat), j < L.length → ((List.range L.length).map V)[j]? = some (V j) := fun j hj => by
      rw [List.getElem?_map, List.getElem?_range hj]; rfl
    obtain ⟨cs, l1, ⟨c, mc, hc⟩, e⟩ := dep hp Ss ((List.range L.length).map V) (fun W hW => by
      obtain ⟨i, hi, rfl⟩ := List.mem_map.mp hW
      have hi' := List.mem_range.mp hi
      obtain ⟨h1, h2, _⟩ := hV i _ (List.getElem?_eq_getElem hi')
      exact hspan _ h1 h2) (by rw [List.length_map, List.length_range]; omega)
    rw [List.length_map, List.length_range] at l1
    obtain ⟨i, hi⟩ := List.getElem?_of_mem mc
    have hil : i < L.length := by
      have := (List.getElem?_eq_some_iff.mp hi).1
      omega
    have hq := List.getElem?_eq_getElem hil
    obtain ⟨_, _, h3, _⟩ := hV i _ hq
    have := lin_at (t := (t : Int)) (q := L[i]) i cs ((List.range L.length).map V) i (by rw [List.length_map, List.length_range]; exact l1) (fun j W hj hW => by
      by_cases c : j < L.length
      · rw [getV j c] at hW
        cases hW
        exact (hV j _ (List.getElem?_eq_getElem c)).2.2.2 i _ (by omega) hq
      · rw [List.getElem?_eq_none (by rw [List.length_map, List.length_range]; omega)] at hW
        cases hW) (V i) c (getV i hil) hi h3
    have d : Dv t L[i] (K c) := by
      have z := (Dv.zero e : Dv t L[i] (lin cs ((List.range L.length).map V))).sub this
      exact z.cg (Cg.of_eq (by grind))
    exact nK _ (List.getElem_mem hil) (dv_K hp hc d)
end P
end RC
/-! M9: the rows of the t-th powers and the sums of them that come to nought; the lifting of parts. -/
namespace RC
namespace P
/-- the rows, each as often as V says -/
def Lam (n : Nat) (R : Nat → P) (V : P) : P := sp n (fun k => K (V.c k) * R k)
section
variable {n : Nat} {R : Nat → P}
theorem Lam_lin (a b : P) (x : Int) : Lam n R (a + K x * b) = Lam n R a + K x * Lam n R b := by
  unfold Lam
  rw [← sp_mul, ← sp_add]
  exact sp_congr fun k _ => by rw [c_add, K_mul, K_add, K_mulK]; grind
theorem Lam_sub (a b : P) (x : Int) : Lam n R (a - K x * b) = Lam n R a - K x * Lam n R b := by
  have := Lam_lin (n := n) (R := R) a b (-x)
  rw [K_neg, show a + -K x * b = a - K x * b by grind] at this
  rw [this]; grind
theorem Lam_cg {t : Int} {a b : P} (h : Cg t a b) : Cg t (Lam n R a) (Lam n R b) := sp_cg fun k _ => (Cg.K (Cg.iff.mp h k)).mulr _
theorem Lam_0 : Lam n R 0 = 0 := by
  unfold Lam
  have : ∀ m, sp m (fun k => K ((0 : P).c k) * R k) = 0 := by
    intro m
    induction m with
    | zero => rfl
    | succ m ih =>
      show sp m (fun k => K ((0 : P).c k) * R k) + K ((0 : P).c m) * R m = 0
      rw [ih, c_0, K_zero]; grind
  exact this n
theorem Lam_Z (hR : ∀ k, k < n → Z (R k) n) (V : P) : Z (Lam n R V) n := fun k hk => by
  unfold Lam
  rw [c_sp]
  exact sm_zero fun i hi => by rw [K_mul, hR i hi k hk, Int.mul_zero]
end
theorem sp_one {f : Nat → P} {n k : Nat} (hk : k < n) (z : ∀ i, i < n → i ≠ k → f i = 0) : sp n f = f k := ext fun j => by
  rw [c_sp, sm_one hk fun i hi he => by rw [z i hi he, c_0]]
theorem sp_mon {V : P} {n : Nat} (h : Z V n) : V = sp n (fun k => K (V.c k) * mon 1 k) := ext fun j => by
  rw [c_sp]
  have e : ∀ i, (K (V.c i) * mon 1 i).c j = if j = i then V.c i else 0 := fun i => by
    rw [K_mul, c_mon]; split <;> simp
  rw [sm_congr fun i _ => e i]
  by_cases c : j < n
  · rw [sm_one (k := j) c fun i _ hi => if_neg (Ne.symm hi), if_pos rfl]
  · rw [h j (by omega), sm_zero fun i hi => if_neg (by omega)]
/-- what stands between two turns of the search for sums that come to nought: pairs of a row and of how often each first row is in it -/
structure NS (t : Int) (n : Nat) (R : Nat → P) (a : Nat) (l : List (P × P)) : Prop where
  rel : ∀ x ∈ l, Cg t x.1 (Lam n R x.2)
  zero : ∀ x ∈ l, ∀ k, k < a → t ∣ x.1.c k
  span : ∀ V, Z V n → (∀ k, k < a → t ∣ (Lam n R V).c k) → Span t (l.map Prod.snd) V
theorem NS.start {t : Int} {n : Nat} {R : Nat → P} : NS t n R 0 ((List.range n).map fun k => (R k, mon 1 k)) where
  rel := fun x hx => by
    obtain ⟨k, hk, rfl⟩ := List.mem_map.mp hx
    have hk := List.mem_range.mp hk
    refine Cg.of_eq ?_
    unfold Lam
    rw [sp_one (k := k) hk fun i _ hi => by rw [c_mon, if_neg hi, K_zero]; grind, c_mon, if_pos rfl, K_one]; grind
  zero := fun _ _ _ h => by omega
  span := fun V hV _ => by
    rw [List.map_map]
    have all : ∀ m, m ≤ n → Span t ((List.range n).map (Prod.snd ∘ fun k => (R k, mon 1 k))) (sp m (fun k => K (V.c k) * mon 1 k)) := by
      intro m
      induction m with
      | zero => intro _; exact Span.zero _
      | succ m ih =>
        intro hm
        refine (ih (by omega)).add (Span.smul _ (Span.mem ?_))
        exact List.mem_map.mpr ⟨m, List.mem_range.mpr (by omega), rfl⟩
    have := all n (Nat.le_refl _)
    rw [← sp_mon hV] at this
    exact this
theorem NS.none {t : Int} {n : Nat} {R : Nat → P} {a : Nat} {l : List (P × P)} (h : NS t n R a l) (z : ∀ x ∈ l, t ∣ x.1.c a) : NS t n R (a + 1) l where
  rel := h.rel
  zero := fun x hx k hk => by
    by_cases e : k = a
    · rw [e]; exact z x hx
    · exact h.zero x hx k (by omega)
  span := fun V hV hk => h.span V hV fun k q => hk k (by omega)
theorem NS.some {t : Int} (hp : Pr t) {n : Nat} {R : Nat → P} {a : Nat} {pre post : List (P × P)} {p : P × P} (h : NS t n R a (pre ++ p :: post)) (hne : ¬ t ∣ p.1.c a) {g : P × P → P × P}
    (hg : ∀ x ∈ pre ++ post, ∃ d : Int, Cg t (g x).1 (x.1 - K d * p.1) ∧ Cg t (g x).2 (x.2 - K d * p.2) ∧ t ∣ (g x).1.c a) : NS t n R (a + 1) ((pre ++ post).map g) := by
  have sub : ∀ x, x ∈ pre ++ post → x ∈ pre ++ p :: post := fun x hx => by
    rcases List.mem_append.mp hx with z | z
    · exact List.mem_append.mpr (.inl z)
    · exact List.mem_append.mpr (.inr (List.mem_cons_of_mem _ z))
  have hpm : p ∈ pre ++ p :: post := List.mem_append.mpr (.inr List.mem_cons_self)
  have rel : ∀ x ∈ (pre ++ post).map g, Cg t x.1 (Lam n R x.2) := fun y hy => by
    obtain ⟨x, hx, rfl⟩ := List.mem_map.mp hy
    obtain ⟨d, h1, h2, _⟩ := hg x hx
    have e := Lam_cg (n := n) (R := R) h2
    rw [Lam_sub] at e
    exact (h1.trans ((h.rel x (sub x hx)).sub ((h.rel p hpm).mull _))).trans e.symm
  have zero : ∀ x ∈ (pre ++ post).map g, ∀ k, k < a + 1 → t ∣ x.1.c k := fun y hy k hk => by
    obtain ⟨x, hx, rfl⟩ := List.mem_map.mp hy
    obtain ⟨d, h1, h2, h3⟩ := hg x hx
    by_cases e : k = a
    · rw [e]; exact h3
    · have c := Cg.iff.mp h1 k
      rw [c_sub, K_mul] at c
      have z1 := h.zero x (sub x hx) k (by omega)
      have z2 := Int.dvd_trans (h.zero p hpm k (by omega)) (Int.dvd_mul_left d (p.1.c k))
      have := Int.dvd_add c (Int.dvd_sub z1 z2)
      rw [show (g x).1.c k - (x.1.c k - d * p.1.c k) + (x.1.c k - d * p.1.c k) = (g x).1.c k by omega] at this
      exact this
  refine ⟨rel, zero, fun V hV hk => ?_⟩
  have s1 := h.span V hV fun k q => hk k (by omega)
  rw [List.map_append, List.map_cons] at s1
  obtain ⟨c1, s2⟩ := s1.mid
  rw [← List.map_append] at s2
  obtain ⟨c2, s3⟩ := Span.elim (S' := fun x => (g x).2) (p := p.2) (fun x hx => by
    obtain ⟨d, _, h2, _⟩ := hg x hx
    exact ⟨d, h2⟩) s2
  have em : (pre ++ post).map (fun x => (g x).2) = ((pre ++ post).map g).map Prod.snd := by rw [List.map_map]; rfl
  rw [em] at s3
  -- the weight of p is nought
  have hW : t ∣ (Lam n R (V - K c1 * p.2 - K c2 * p.2)).c a := by
    refine Span.ind (t := t) (G := fun W => t ∣ (Lam n R W).c a) (fun x y hxy hx => ?_) ?_ (fun x y z hx hy => ?_) (fun S hS => ?_) s3
    · have := Cg.iff.mp (Lam_cg (n := n) (R := R) hxy.symm) a
      have := Int.dvd_add this hx
      rw [Int.sub_add_cancel] at this
      exact this
    · rw [Lam_0, c_0]; exact Int.dvd_zero t
    · rw [Lam_lin, c_add, K_mul]
      exact Int.dvd_add hx (Int.dvd_trans hy (Int.dvd_mul_left ..))
    · obtain ⟨x, hx, rfl⟩ := List.mem_map.mp hS
      have := Int.dvd_sub (zero x hx a (by omega)) (Cg.iff.mp (rel x hx) a)
      rw [show x.1.c a - (x.1.c a - (Lam n R x.2).c a) = (Lam n R x.2).c a by omega] at this
      exact this
  have hV' := hk a (by omega)
  have e1 : V - K c1 * p.2 - K c2 * p.2 = V - K (c1 + c2) * p.2 := by rw [K_add]; grind
  rw [e1] at hW s3
  rw [Lam_sub, c_sub, K_mul] at hW
  have hcp : t ∣ (c1 + c2) * (Lam n R p.2).c a := by
    have := Int.dvd_sub hV' hW
    rw [show (Lam n R V).c a - ((Lam n R V).c a - (c1 + c2) * (Lam n R p.2).c a) = (c1 + c2) * (Lam n R p.2).c a by omega] at this
    exact this
  have hpa : ¬ t ∣ (Lam n R p.2).c a := fun z => hne (by
    have := Int.dvd_add (Cg.iff.mp (h.rel p hpm) a) z
    rw [Int.sub_add_cancel] at this
    exact this)
  rcases hp.2 _ _ hcp with ⟨x, hx⟩ | z
  · refine s3.cg ⟨- (K x * p.2), ?_⟩
    rw [hx, K_mulK]; grind
  · exact absurd z hpa
/-- the rows of powers: what comes of the sums -/
theorem pow_rows {t : Nat} (hp : Pr (t : Int)) {w : P} {n : Nat} {R : Nat → P} (hw : Mon w) (hn : len w = n + 1) (hR : ∀ k, k < n → Z (R k) n ∧ Dv t w (R k - (X ^ (t * k) - X ^ k))) {V : P} (hV : Z V n) :
    Dv t w (Lam n R V - (V ^ t - V)) := by
  have e1 : Dv t w (Lam n R V - (ev (X ^ t) V - V)) := by
    have e2 : ev (X ^ t) V = sp n (fun k => K (V.c k) * X ^ (t * k)) := by
      rw [ev_N _ hV]
      exact sp_congr fun k _ => by rw [← pow_mul']
    have e3 : V = sp n (fun k => K (V.c k) * X ^ k) := by
      have := sp_mon hV
      refine this.trans (sp_congr fun k _ => by rw [X_pow])
    have e4 : Lam n R V - (ev (X ^ t) V - V) = sp n (fun k => K (V.c k) * (R k - (X ^ (t * k) - X ^ k))) := by
      have : ∀ m, sp m (fun k => K (V.c k) * (R k - (X ^ (t * k) - X ^ k))) = sp m (fun k => K (V.c k) * R k) - (sp m (fun k => K (V.c k) * X ^ (t * k)) - sp m (fun k => K (V.c k) * X ^ k)) := by
        intro m
        induction m with
        | zero => show (0 : P) = 0 - (0 - 0); grind
        | succ m ih =>
          show sp m (fun k => K (V.c k) * (R k - (X ^ (t * k) - X ^ k))) + K (V.c m) * (R m - (X ^ (t * m) - X ^ m)) = (sp m (fun k => K (V.c k) * R k) + K (V.c m) * R m) - ((sp m (fun k => K (V.c k) * X ^ (t * k)) + K (V.c m) * X ^ (t * m)) - (sp m (fun k => K (V.c k) * X ^ k) + K (V.c m) * X ^ m))
          rw [ih]; grind
      rw [this n, ← e2, ← e3]; rfl
    rw [e4]
    have : ∀ m, m ≤ n → Dv t w (sp m (fun k => K (V.c k) * (R k - (X ^ (t * k) - X ^ k)))) := by
      intro m
      induction m with
      | zero => intro _; exact Dv.zero (Cg.refl _ _)
      | succ m ih =>
        intro hm
        exact (ih (by omega)).add ((hR m (by omega)).2.mul _)
    exact this n (Nat.le_refl _)
  exact e1.cg ((Cg.refl _ _).sub ((frob' hp V).symm.sub (Cg.refl _ _)))
theorem null_of {t : Nat} (hp : Pr (t : Int)) {w : P} {n : Nat} {R : Nat → P} (hw : Mon w) (hn : len w = n + 1) (hR : ∀ k, k < n → Z (R k) n ∧ Dv t w (R k - (X ^ (t * k) - X ^ k))) {V : P} (hV : Z V n) :
    Cg t (Lam n R V) 0 ↔ Dv t w (V ^ t - V) := by
  have d := pow_rows hp hw hn hR hV
  have hp1 := hp.1
  constructor
  · intro h
    exact ((Dv.zero h).sub d).cg (Cg.of_eq (by grind))
  · intro h
    have z := d.add h
    rw [show Lam n R V - (V ^ t - V) + (V ^ t - V) = Lam n R V by grind] at z
    obtain ⟨k, hk⟩ := z
    have lz := len_min (Lam_Z (fun k hk => (hR k hk).1) V)
    exact (mon_short (by omega) hw (by omega) hk).2
/-! ### lifting -/
/-- the sum over all of the second times all other firsts -/
def dsum : List (P × P) → P
  | [] => 0
  | x :: l => x.2 * prod (l.map Prod.fst) + x.1 * dsum l
theorem dsum_prod (m : Int) : ∀ l : List (P × P), Cg (m * m) (prod (l.map fun x => x.1 + K m * x.2)) (prod (l.map Prod.fst) + K m * dsum l)
  | [] => Cg.of_eq (by show (1 : P) = 1 + K m * 0; grind)
  | x :: l => by
    have ih := dsum_prod m l
    show Cg (m * m) ((x.1 + K m * x.2) * prod (l.map fun x => x.1 + K m * x.2)) (x.1 * prod (l.map Prod.fst) + K m * (x.2 * prod (l.map Prod.fst) + x.1 * dsum l))
    refine (ih.mull _).trans ⟨x.2 * dsum l, ?_⟩
    rw [K_mulK]; grind
theorem dsum_mid : ∀ (pre : List (P × P)) (x : P × P) (post : List (P × P)), ∃ s, dsum (pre ++ x :: post) = x.2 * prod ((pre ++ post).map Prod.fst) + x.1 * s
  | [], x, post => ⟨dsum post, rfl⟩
  | y :: pre, x, post => by
    obtain ⟨s, e⟩ := dsum_mid pre x post
    refine ⟨y.2 * prod ((pre ++ post).map Prod.fst) + y.1 * s, ?_⟩
    show y.2 * prod ((pre ++ x :: post).map Prod.fst) + y.1 * dsum (pre ++ x :: post) = x.2 * (y.1 * prod ((pre ++ post).map Prod.fst)) + _
    rw [e]
    have : prod ((pre ++ x :: post).map Prod.fst) = x.1 * prod ((pre ++ post).map Prod.fst) := by
      rw [List.map_append, List.map_cons, prod_append, List.map_append, prod_append]
      show prod (pre.map Prod.fst) * (x.1 * prod (post.map Prod.fst)) = _
      grind
    rw [this]; grind
theorem dsum_len : ∀ (l : List (P × P)), (∀ x ∈ l, Mon x.1 ∧ len x.2 < len x.1) → len (dsum l) < len (prod (l.map Prod.fst))
  | [], _ => by show len 0 < len 1; rw [len_0, len_1]; omega
  | x :: l, h => by
    have ih := dsum_len l fun y hy => h y (List.mem_cons_of_mem _ hy)
    obtain ⟨hm, hl⟩ := h x List.mem_cons_self
    have mp : Mon (prod (l.map Prod.fst)) := prod_mon fun G hG => by
      obtain ⟨y, hy, rfl⟩ := List.mem_map.mp hG
      exact (h y (List.mem_cons_of_mem _ hy)).1
    have e := (len_mul hm.ne mp.ne).1
    have l1 := hm.len
    have l2 := mp.len
    show len (x.2 * prod (l.map Prod.fst) + x.1 * dsum l) < len (x.1 * prod (l.map Prod.fst))
    have z1 : Z (x.2 * prod (l.map Prod.fst)) (len x.1 + len (prod (l.map Prod.fst)) - 2) := by
      by_cases c : x.2 = 0
      · rw [c, show (0 : P) * prod (l.map Prod.fst) = 0 by grind]; exact Z.zero _
      · have := (len_mul c mp.ne).1
        exact len_iff.mp (by omega)
    have z2 : Z (x.1 * dsum l) (len x.1 + len (prod (l.map Prod.fst)) - 2) := by
      by_cases c : dsum l = 0
      · rw [c, show x.1 * (0 : P) = 0 by grind]; exact Z.zero _
      · have := (len_mul hm.ne c).1
        exact len_iff.mp (by omega)
    have := len_min (z1.add z2)
    omega
theorem dv_prod {t : Int} {E : P} : ∀ (L : List P), FrM t (prod L) → (∀ p ∈ L, Dv t p E) → Dv t (prod L) E
  | [], _, _ => ⟨E, Cg.of_eq (by show E = 1 * E; grind)⟩
  | p :: L, hf, h => by
    have c : Cop t p (prod L) := hf p (prod L) (Cg.refl _ _)
    have hL := dv_prod L (hf.part (h := p) (Cg.of_eq (by show p * prod L = _; grind))) fun q hq => h q (List.mem_cons_of_mem _ hq)
    obtain ⟨k, hk⟩ := h p List.mem_cons_self
    obtain ⟨k', hk'⟩ := hL
    obtain ⟨u, v, e⟩ := c
    refine ⟨u * k' + v * k, ?_⟩
    -- E = u p E + v prod L E
    have a1 : Cg t ((u * p + v * prod L) * E) E := (e.mulr E).trans (Cg.of_eq (by grind))
    have a2 : Cg t (u * p * E + v * prod L * E) (u * p * (prod L * k') + v * prod L * (p * k)) := (hk'.mull _).add (hk.mull _)
    refine a1.symm.trans ((Cg.of_eq (by grind)).trans (a2.trans (Cg.of_eq ?_)))
    show _ = p * prod L * (u * k' + v * k)
    grind
/-- ONE TURN OF THE LIFTING -/
theorem lift_step {t : Int} (hp : Pr t) {m : Int} (hm : t ∣ m) {goal turn : P} {l : List (P × P)} (hmon : ∀ x ∈ l, Mon x.1 ∧ len x.2 < len x.1) (hfr : FrM t (prod (l.map Prod.fst)))
    (hkey : ∀ pre x post, l = pre ++ x :: post → Dv t x.1 (x.2 * prod ((pre ++ post).map Prod.fst) - turn)) (hlen : len turn < len (prod (l.map Prod.fst)))
    (hgoal : ∃ T, Cg (m * t) (goal - prod (l.map Prod.fst)) (K m * T) ∧ Cg t T turn) : Cg (m * t) goal (prod (l.map fun x => x.1 + K m * x.2)) := by
  have ht := hp.1
  have d1 : Cg (m * t) (prod (l.map fun x => x.1 + K m * x.2)) (prod (l.map Prod.fst) + K m * dsum l) := by
    obtain ⟨s, hs⟩ := hm
    exact (dsum_prod m l).dvd ⟨s, by
      have : m * m = m * (t * s) := by rw [← hs]
      rw [this, Int.mul_assoc]⟩
  have dv : Dv t (prod (l.map Prod.fst)) (dsum l - turn) := by
    refine dv_prod _ hfr fun p hpm => ?_
    obtain ⟨x, hx, rfl⟩ := List.mem_map.mp hpm
    obtain ⟨pre, post, e⟩ := List.append_of_mem hx
    obtain ⟨s, es⟩ := dsum_mid pre x post
    have := (hkey pre x post e).add (⟨s, Cg.refl _ _⟩ : Dv t x.1 (x.1 * s))
    refine this.cg (Cg.of_eq ?_)
    rw [e, es]; grind
  have hM : Mon (prod (l.map Prod.fst)) := prod_mon fun G hG => by
    obtain ⟨x, hx, rfl⟩ := List.mem_map.mp hG
    exact (hmon x hx).1
  have c0 : Cg t (dsum l) turn := by
    obtain ⟨k, hk⟩ := dv
    have ll : len (dsum l - turn) < len (prod (l.map Prod.fst)) := by
      have a := dsum_len l hmon
      have := len_min (((len_Z (dsum l)).mono (show len (dsum l) ≤ len (prod (l.map Prod.fst)) - 1 by omega)).sub ((len_Z turn).mono (show len turn ≤ len (prod (l.map Prod.fst)) - 1 by omega)))
      omega
    obtain ⟨x, hx⟩ := (mon_short (by omega) hM ll hk).2
    exact ⟨x, by grind⟩
  obtain ⟨T, h1, h2⟩ := hgoal
  have c1 : Cg (m * t) (K m * T) (K m * dsum l) := by
    obtain ⟨x, hx⟩ := h2.trans c0.symm
    exact ⟨x, by rw [K_mulK]; grind⟩
  have c2 := (h1.trans c1).add (Cg.refl (m * t) (prod (l.map Prod.fst)))
  refine Cg.trans (Cg.of_eq (by grind)) (c2.trans ((Cg.of_eq (by grind)).trans d1.symm))
end P
end RC
/-! M10: the layers (each root once); what a greatest common part is. -/
namespace RC
namespace P
/-- g is the plain greatest common part of a and b, not both nought -/
def IsG (a b g : P) : Prop := Pl g ∧ g ∣ a ∧ g ∣ b ∧ ∃ (u v : P) (x : Int), x ≠ 0 ∧ u * a + v * b = K x * g
/-- free over fractions -/
def SqF (f : P) : Prop := ∃ (u v : P) (x : Int), x ≠ 0 ∧ u * f + v * D f = K x
theorem SqF.part {f g h : P} (hf : SqF f) (e : f = g * h) : SqF g := by
  obtain ⟨u, v, x, hx, c⟩ := hf
  refine ⟨u * h + v * D h, v * h, x, hx, ?_⟩
  rw [e, D_mul] at c
  rw [← c]; grind
theorem Irr.not_dvd_K {q : P} (hq : Irr q) {x : Int} (hx : x ≠ 0) : ¬ q ∣ K x := fun h => by
  have := dvd_len h (K_ne hx)
  rw [len_K hx] at this
  have := hq.2.1
  omega
theorem Irr.not_dvd_D {q : P} (hq : Irr q) {x : Int} (hx : x ≠ 0) : ¬ q ∣ K x * D q := fun h => by
  have d := D_len hq.2.1
  have := dvd_len h (mul_ne (K_ne hx) d.2)
  rw [len_kmul hx] at this
  omega
/-- how often one that splits no more is in -/
theorem mult {q : P} (hq : Irr q) : ∀ {f : P}, f ≠ 0 → ∃ (m : Nat) (s : P), f = q ^ m * s ∧ ¬ q ∣ s := by
  have main : ∀ n : Nat, ∀ f : P, f ≠ 0 → len f ≤ n → ∃ (m : Nat) (s : P), f = q ^ m * s ∧ ¬ q ∣ s := by
    intro n
    induction n with
    | zero => intro f hf hl; exact absurd (len_eq_0.mp (by omega)) hf
    | succ n ih =>
      intro f hf hl
      by_cases c : q ∣ f
      · obtain ⟨g, rfl⟩ := c
        obtain ⟨q0, g0⟩ := ne_of_mul hf
        have := (len_mul q0 g0).1
        have := hq.2.1
        obtain ⟨m, s, e, hs⟩ := ih g g0 (by omega)
        exact ⟨m + 1, s, by rw [pow_succ', e]; grind, hs⟩
      · exact ⟨0, f, by rw [pow_zero']; grind, c⟩
  exact fun {f} hf => main _ f hf (Nat.le_refl _)
/-- q times the derivative of q^m s -/
theorem D_pow (q s : P) : ∀ m : Nat, q * D (q ^ m * s) = q ^ m * (K m * D q * s + q * D s)
  | 0 => by rw [pow_zero', show (1 : P) * s = s by grind, show ((0 : Nat) : Int) = 0 from rfl, K_zero]; grind
  | m + 1 => by
    have e : q ^ (m + 1) * s = q * (q ^ m * s) := by rw [pow_succ']; grind
    have ih := D_pow q s m
    rw [e, D_mul]
    have e2 : q * (D q * (q ^ m * s) + q * D (q ^ m * s)) = q * (D q * (q ^ m * s)) + q * (q * D (q ^ m * s)) := by grind
    rw [e2, ih, pow_succ', show ((m + 1 : Nat) : Int) = (m : Int) + 1 by omega, K_add, K_one]; grind
/-- the first facts of the layers: W = c w, c turn = c' w -/
structure Lay (W c w turn : P) : Prop where
  hW : W ≠ 0
  e : W = c * w
  tr : c * turn = D c * w
theorem Lay.irr {W c w turn : P} (h : Lay W c w turn) {q : P} (hq : Irr q) (hd : q ∣ W) : q ∣ w := by
  obtain ⟨c0, w0⟩ := ne_of_mul (h.e ▸ h.hW)
  rw [h.e] at hd
  rcases hq.prime hd with hc | hw
  · obtain ⟨m, s, ec, hs⟩ := mult hq c0
    have hm : m ≠ 0 := fun z => hs (by rw [ec, z, pow_zero'] at hc; rw [show (1 : P) * s = s by grind] at hc; exact hc)
    have e1 : q * (c * turn) = q * D c * w := by rw [h.tr]; grind
    rw [ec, D_pow] at e1
    have qm : q ^ m ≠ 0 := by
      have hq0 := hq.1.ne
      have : ∀ n : Nat, q ^ n ≠ 0 := fun n => by
        induction n with
        | zero => rw [pow_zero']; exact K_ne (a := 1) (by decide)
        | succ n ih => rw [pow_succ']; exact mul_ne ih hq0
      exact this m
    have e2 : q * s * turn = (K m * D q * s + q * D s) * w := cancel qm (by
      have : q ^ m * (q * s * turn) = q * (q ^ m * s * turn) := by grind
      rw [this, e1]; grind)
    have hdv : q ∣ (K m * D q * s + q * D s) * w := ⟨s * turn, by rw [← e2]; grind⟩
    rcases hq.prime hdv with z | z
    · exfalso
      have z2 : q ∣ K m * D q * s := by
        have := dvd_sub z (dvd_mul_right q (D s))
        rw [show K m * D q * s + q * D s - q * D s = K m * D q * s by grind] at this
        exact this
      rcases hq.prime z2 with y | y
      · exact hq.not_dvd_D (x := m) (by omega) y
      · exact hs y
    · exact z
  · exact hw
/-- w is free -/
theorem Lay.sqf {W c w turn : P} (h : Lay W c w turn) (hg : ∃ (u v : P) (x : Int), x ≠ 0 ∧ u * W + v * D W = K x * c) : SqF w := by
  obtain ⟨c0, w0⟩ := ne_of_mul (h.e ▸ h.hW)
  obtain ⟨g, u, v, x, y, hx, hy, e, h1, h2⟩ := qbez (D w) w
  have g0 : g ≠ 0 := fun z => by
    obtain ⟨d, hd⟩ := h1
    exact mul_ne (K_ne hx) w0 (by rw [hd, z]; grind)
  by_cases c1 : len g ≤ 1
  · have eg := eq_K c1
    refine ⟨u, v, g.c 0, fun z => g0 (by rw [eg, z, K_zero]), by rw [e, ← eg]⟩
  · exfalso
    obtain ⟨z, g1, hz, eg, hpg⟩ := ex_pl g0
    have lg : len g1 = len g := by rw [eg, len_kmul hz]
    obtain ⟨q, hq, hqg⟩ := Irr.ex hpg.1 (by omega)
    have gd : q ∣ g := dvd_trans hqg ⟨K z, by rw [eg]; grind⟩
    have qw : q ∣ w := hq.1.1.gl hx (dvd_trans gd h1)
    have qD : q ∣ D w := hq.1.1.gl hy (dvd_trans gd h2)
    -- q divides turn
    obtain ⟨b, hb⟩ := id qw
    have qb : q ∣ b := by
      rw [hb, D_mul] at qD
      have : q ∣ D q * b := by
        have := dvd_sub qD (dvd_mul_right q (D b))
        rw [show D q * b + q * D b - q * D b = D q * b by grind] at this
        exact this
      rcases hq.prime this with y | y
      · exact absurd (by rw [K_one]; exact dvd_mul y 1) (hq.not_dvd_D (x := 1) (by decide))
      · exact y
    obtain ⟨m, s, ec, hs⟩ := mult hq c0
    have qm : q ^ m ≠ 0 := (ne_of_mul (ec ▸ c0)).1
    have e1 : q * (c * turn) = q * D c * w := by rw [h.tr]; grind
    rw [ec, D_pow, hb] at e1
    have e2 : s * turn = (K m * D q * s + q * D s) * b := cancel (mul_ne qm hq.1.ne) (by
      have : q ^ m * q * (s * turn) = q * (q ^ m * s * turn) := by grind
      rw [this, e1]; grind)
    have qt : q ∣ turn := by
      have : q ∣ s * turn := by rw [e2]; exact dvd_mul qb _
      rcases hq.prime this with y | y
      · exact absurd y hs
      · exact y
    obtain ⟨u', v', x', hx', e'⟩ := hg
    -- u' W + v' DW = x' c: cancel c
    have eD : D W = c * (turn + D w) := by rw [h.e, D_mul, show c * (turn + D w) = c * turn + c * D w by grind, h.tr]
    rw [eD, h.e] at e'
    have e3 : u' * w + v' * (turn + D w) = K x' := cancel c0 (by
      rw [show c * (u' * w + v' * (turn + D w)) = u' * (c * w) + v' * (c * (turn + D w)) by grind, e']; grind)
    refine hq.not_dvd_K hx' ?_
    rw [← e3]
    exact dvd_add (dvd_mul qw _) (dvd_mul (dvd_add qt qD) _)
/-- ONE TURN OF THE LAYERS -/
theorem lay_step {c rest turn g : P} (hc : c ≠ 0) (hpr : Pl rest) (tr : c * turn = D c * rest) (hg : IsG rest turn g) :
    ∃ rest2 t', rest = g * rest2 ∧ turn = g * t' ∧ Pl rest2 ∧ ∃ c2, c = rest2 * c2 ∧ c2 ≠ 0 ∧ c2 * (t' - D rest2) = D c2 * rest2 := by
  obtain ⟨hgp, ⟨rest2, e1⟩, ⟨t', e2⟩, u, v, x, hx, e3⟩ := hg
  have hg0 := hgp.ne
  have hr2 : Prim rest2 := hpr.1.of_dvd ⟨g, by rw [e1]; grind⟩
  have hl := hpr.2
  rw [e1, lc_mul] at hl
  have lg := hgp.2
  have hpr2 : Pl rest2 := ⟨hr2, by
    by_cases z : 0 < lc rest2
    · exact z
    · have : lc g * lc rest2 ≤ lc g * 0 := Int.mul_le_mul_of_nonneg_left (by omega) (by omega)
      omega⟩
  have e4 : c * t' = D c * rest2 := cancel hg0 (by
    rw [e1, e2] at tr
    rw [show g * (c * t') = c * (g * t') by grind, tr]; grind)
  have e5 : u * rest2 + v * t' = K x := cancel hg0 (by
    rw [e1, e2] at e3
    rw [show g * (u * rest2 + v * t') = u * (g * rest2) + v * (g * t') by grind, e3]; grind)
  have d : rest2 ∣ c := hr2.gl hx ⟨u * c + v * D c, by
    rw [← e5]
    rw [show (u * rest2 + v * t') * c = u * rest2 * c + v * (c * t') by grind, e4]; grind⟩
  obtain ⟨c2, ec⟩ := d
  refine ⟨rest2, t', e1, e2, hpr2, c2, ec, (ne_of_mul (ec ▸ hc)).2, ?_⟩
  have e6 : c2 * t' = D rest2 * c2 + rest2 * D c2 := cancel hpr2.ne (by
    rw [ec, D_mul] at e4
    rw [show rest2 * (c2 * t') = rest2 * c2 * t' by grind, e4]; grind)
  rw [show c2 * (t' - D rest2) = c2 * t' - c2 * D rest2 by grind, e6]; grind
theorem lay_start {W c : P} (hW : Pl W) (hg : IsG W (D W) c) : ∃ w d, W = c * w ∧ D W = c * d ∧ Pl w ∧ Lay W c w (d - D w) := by
  obtain ⟨hcp, ⟨w, e1⟩, ⟨d, e2⟩, u, v, x, hx, e3⟩ := hg
  have hl := hW.2
  rw [e1, lc_mul] at hl
  have lg := hcp.2
  refine ⟨w, d, e1, e2, ⟨hW.1.of_dvd ⟨c, by rw [e1]; grind⟩, ?_⟩, hW.ne, e1, ?_⟩
  · by_cases z : 0 < lc w
    · exact z
    · have : lc c * lc w ≤ lc c * 0 := Int.mul_le_mul_of_nonneg_left (by omega) (by omega)
      omega
  · have e4 : D W = D c * w + c * D w := by rw [e1, D_mul]
    rw [show c * (d - D w) = c * d - c * D w by grind, ← e2, e4]; grind
/-- of what is nought the greatest common part is the plain one -/
theorem isG_left {a : P} (h : Pl a) : IsG a 0 a := ⟨h, dvd_refl a, dvd_zero a, 1, 0, 1, by decide, by rw [K_one]; grind⟩
theorem isG_one {a b g g' : P} (h : IsG a b g) (h' : IsG a b g') : g = g' := by
  have aux : ∀ {g g' : P}, IsG a b g → IsG a b g' → g ∣ g' := fun {g g'} h h' => by
    obtain ⟨p, d1, d2, _⟩ := h
    obtain ⟨p', _, _, u, v, x, hx, e⟩ := h'
    exact p.1.gl hx (by rw [← e]; exact dvd_add (dvd_mul d1 u) (dvd_mul d2 v))
  have d := aux h h'
  exact h.1.dvd_eq h'.1 d (dvd_len (aux h' h) h.1.ne)
end P
end RC
/-! M11: a prime by which a polynomial stays free is found. -/
namespace RC
namespace P
/-- each weight below 2 ^ b in size -/
def Bt (b : Nat) (f : P) : Prop := ∀ k, (f.c k).natAbs < 2 ^ b
theorem Bt.mono {a b : Nat} {f : P} (h : Bt a f) (l : a ≤ b) : Bt b f := fun k => Nat.lt_of_lt_of_le (h k) (Nat.pow_le_pow_right (by decide) l)
theorem Bt.lc {b : Nat} {f : P} (h : Bt b f) : (lc f).natAbs < 2 ^ b := h _
theorem pdivB {b : P} (hb : b ≠ 0) {be : Nat} (hB : Bt be b) : ∀ (s : Nat) (a : P) (al : Nat), len a < len b + s → Bt al a →
    ∃ (x : Int) (q r : P), x ≠ 0 ∧ K x * a = b * q + r ∧ len r < len b ∧ Bt (al + s * (be + 1)) r := by
  intro s
  have lb := len_pos.mpr hb
  induction s with
  | zero => exact fun a al hl ha => ⟨1, 0, a, by decide, by rw [K_one]; grind, by omega, by rw [Nat.zero_mul]; exact ha⟩
  | succ s ih =>
    intro a al hl ha
    by_cases h : len a < len b
    · exact ⟨1, 0, a, by decide, by rw [K_one]; grind, h, ha.mono (by omega)⟩
    · have hz : Z (K (P.lc b) * a - b * mon (P.lc a) (len a - len b)) (len a - 1) := fun k hk => by
        rw [c_sub, K_mul, mul_comm, mon_mul]
        by_cases e : k = len a - 1
        · rw [if_pos (by omega), show k - (len a - len b) = len b - 1 by omega, e]
          show P.lc b * P.lc a - P.lc a * P.lc b = 0
          rw [Int.mul_comm]; omega
        · rw [len_Z a k (by omega), if_pos (by omega), len_Z b _ (by omega)]; omega
      have hB2 : Bt (al + (be + 1)) (K (P.lc b) * a - b * mon (P.lc a) (len a - len b)) := fun k => by
        rw [c_sub, K_mul, mul_comm, mon_mul]
        have p1 : (P.lc b * a.c k).natAbs < 2 ^ (al + be) := by
          rw [Int.natAbs_mul, Nat.pow_add, Nat.mul_comm]
          exact Nat.mul_lt_mul'' (ha k) hB.lc
        have p2 : (if len a - len b ≤ k then P.lc a * b.c (k - (len a - len b)) else 0).natAbs < 2 ^ (al + be) := by
          split
          · rw [Int.natAbs_mul, Nat.pow_add]
            exact Nat.mul_lt_mul'' ha.lc (hB _)
          · exact Nat.pow_pos (by decide)
        have e : 2 ^ (al + (be + 1)) = 2 * 2 ^ (al + be) := by rw [← Nat.add_assoc, Nat.pow_succ, Nat.mul_comm]
        omega
      have hl2 := len_min hz
      obtain ⟨x, q, r, hx, e, hr, hB3⟩ := ih _ _ (by omega) hB2
      refine ⟨x * P.lc b, K x * mon (P.lc a) (len a - len b) + q, r, Int.mul_ne_zero hx (lc_ne hb), ?_, hr, hB3.mono ?_⟩
      · rw [K_mulK]
        have : K x * (K (P.lc b) * a - b * mon (P.lc a) (len a - len b)) = b * q + r := e
        grind
      · rw [Nat.succ_mul]; omega
def bitsAt (d : Nat) : Nat := [48923, 20264, 8393, 3476, 1439, 596, 245, 104, 35, 32].getD d 0
theorem bits_step : ∀ m : Nat, m ≤ 9 → ∀ k : Nat, k < m → 1 ≤ k → bitsAt m + (m - k + 1) * (bitsAt (m - 1) + 1) ≤ bitsAt (k - 1) ∧ bitsAt (m - 1) ≤ bitsAt k ∧ bitsAt k ≤ 20264 := by decide
theorem bits_low : ∀ m : Nat, m ≤ 9 → 1 ≤ m → 32 ≤ bitsAt m ∧ 35 ≤ bitsAt (m - 1) ∧ bitsAt m ≤ 20264 := by decide
set_option exponentiation.threshold 100000 in
theorem resB : ∀ (n : Nat) (a b : P), len b ≤ n → len b < len a → len a ≤ 9 → Bt (bitsAt (len a)) a → Bt (bitsAt (len a - 1)) b → (∃ (u v : P) (x : Int), x ≠ 0 ∧ u * a + v * b = K x) →
    ∃ (u v : P) (x : Int), x ≠ 0 ∧ u * a + v * b = K x ∧ x.natAbs < 2 ^ 20264 := by
  intro n
  induction n with
  | zero =>
    intro a b hb hl h9 ha _ ⟨u, v, x, hx, e⟩
    have b0 : b = 0 := len_eq_0.mp (by omega)
    have e2 : u * a = K x := by rw [← e, b0]; grind
    have l1 : len a ≤ 1 := by
      have := dvd_len (a := a) (b := K x) ⟨u, by rw [← e2]; grind⟩ (K_ne hx)
      rw [len_K hx] at this; exact this
    have ea := eq_K l1
    have : len a = 1 := by omega
    refine ⟨1, 0, a.c 0, fun z => ?_, ?_, ?_⟩
    · rw [z, K_zero] at ea
      rw [ea, len_0] at hl; omega
    · rw [← ea]; grind
    · have := ha 0
      rw [‹len a = 1›] at this
      exact this
  | succ n ih =>
    intro a b hb hl h9 ha hBb ⟨u, v, x, hx, e⟩
    by_cases c0 : len b = 0
    · exact ih a b (by omega) hl h9 ha hBb ⟨u, v, x, hx, e⟩
    · have b0 : b ≠ 0 := fun z => c0 (by rw [z, len_0])
      have st := bits_step (len a) h9 (len b) hl (by omega)
      by_cases c1 : len b = 1
      · have eb := eq_K (a := b) (by omega)
        refine ⟨0, 1, b.c 0, fun z => b0 (by rw [eb, z, K_zero]), by rw [← eb]; grind, ?_⟩
        exact Nat.lt_of_lt_of_le (hBb 0) (Nat.pow_le_pow_right (by decide) (Nat.le_trans st.2.1 st.2.2))
      · obtain ⟨y, q, r, hy, e1, hr, hBr⟩ := pdivB b0 hBb (len a - len b + 1) a _ (by omega) ha
        obtain ⟨u', v', x', hx', e', hb'⟩ := ih b r (by omega) hr (by omega) (hBb.mono st.2.1) (hBr.mono st.1) ⟨u * q + K y * v, u, y * x, Int.mul_ne_zero hy hx, by
          rw [K_mulK, ← e]
          have : r = K y * a - b * q := by rw [e1]; grind
          rw [this]; grind⟩
        refine ⟨v' * K y, u' - v' * q, x', hx', ?_, hb'⟩
        rw [← e']
        have : r = K y * a - b * q := by rw [e1]; grind
        rw [this]; grind
theorem sqf_res {f : P} (hf : SqF f) (h2 : 2 ≤ len f) (h9 : len f ≤ 9) (hB : Bt 32 f) : ∃ (u v : P) (x : Int), x ≠ 0 ∧ u * f + v * D f = K x ∧ x.natAbs < 2 ^ 20264 := by
  have b := bits_low (len f) h9 (by omega)
  have d := D_len h2
  have hD : Bt 35 (D f) := fun k => by
    rw [c_D, Int.natAbs_mul]
    by_cases c : k + 1 < len f
    · have h1 : ((k : Int) + 1).natAbs < 2 ^ 3 + 1 := by omega
      have h3 := hB (k + 1)
      have : ((k : Int) + 1).natAbs * (f.c (k + 1)).natAbs ≤ 2 ^ 3 * (2 ^ 32 - 1) := Nat.mul_le_mul (by omega) (by omega)
      omega
    · rw [len_Z f (k + 1) (by omega)]; simp
  exact resB _ f (D f) (Nat.le_refl _) (by omega) h9 (hB.mono b.1) (hD.mono b.2.1) hf
end P
/-! ### primes -/
def chk : List Nat → Nat → Bool
  | [], _ => true
  | p :: ps, q => match q % p with
    | 0 => false
    | _ + 1 => chk ps q
def lowP : List Nat := [2, 3, 5, 7, 11, 13, 17, 19, 23, 29, 31, 37, 41, 43, 47, 53, 59, 61, 67, 71, 73, 79, 83, 89, 97, 101, 103, 107, 109, 113, 127, 131, 137, 139, 149, 151, 157, 163, 167, 173, 179, 181, 191, 193, 197, 199, 211, 223, 227, 229, 233, 239, 241, 251, 257, 263, 269, 271, 277, 281, 283]
def okq (q : Nat) : Bool := chk lowP q
theorem chk_spec : ∀ (l : List Nat) (q : Nat), chk l q = true → ∀ p ∈ l, q % p ≠ 0
  | p :: ps, q, h, e, he => by
    unfold chk at h
    split at h
    · cases h
    · rename_i n hn
      rcases List.mem_cons.mp he with z | z
      · rw [z, hn]; omega
      · exact chk_spec ps q h e z
theorem low_all : ∀ d : Nat, d < 288 → 2 ≤ d → ∃ p ∈ lowP, d % p = 0 := by decide +kernel
theorem okq_pr {q : Nat} (h1 : 65536 ≤ q) (h2 : q < 81920) (h : okq q = true) : Pr (q : Int) := by
  refine Pr.mk (by omega) fun d hd1 hd2 ⟨e, he⟩ => ?_
  have hs := chk_spec lowP q h
  have he0 : 0 < e := by
    by_cases c : 0 < e
    · exact c
    · have : d * e ≤ d * 0 := Int.mul_le_mul_of_nonneg_left (by omega) (by omega)
      omega
  have he1 : 1 < e := by
    by_cases c : e = 1
    · rw [c] at he; omega
    · omega
  have key : ∀ x y : Int, 1 < x → 0 < y → (q : Int) = x * y → ¬ x < 288 := fun x y hx hy e hlt => by
    obtain ⟨p, hp, hd⟩ := low_all x.toNat (by omega) (by omega)
    refine hs p hp ?_
    have d1 : p ∣ x.toNat := Nat.dvd_of_mod_eq_zero hd
    have d2 : x.toNat ∣ q := by
      refine ⟨y.toNat, ?_⟩
      have : ((x.toNat * y.toNat : Nat) : Int) = q := by
        rw [Int.natCast_mul, Int.toNat_of_nonneg (by omega), Int.toNat_of_nonneg (by omega), e]
      omega
    exact Nat.mod_eq_zero_of_dvd (Nat.dvd_trans d1 d2)
  have k1 := key d e hd1 he0 he
  have k2 := key e d he1 (by omega) (by rw [Int.mul_comm]; exact he)
  have : 288 * 288 ≤ d * e := Int.mul_le_mul (by omega) (by omega) (by decide) (by omega)
  omega
def cntR (p : Nat → Bool) : Nat → Nat → Nat
  | 0, a => match p a with | true => 1 | false => 0
  | k + 1, a => cntR p k a + cntR p k (a + 2 ^ k)
def cntL (p : Nat → Bool) (a : Nat) : Nat → Nat
  | 0 => 0
  | n + 1 => cntL p a n + match p (a + n) with | true => 1 | false => 0
theorem cntL_split (p : Nat → Bool) (a n : Nat) : ∀ m, cntL p a (n + m) = cntL p a n + cntL p (a + n) m
  | 0 => rfl
  | m + 1 => by
    show cntL p a (n + m) + (match p (a + (n + m)) with | true => 1 | false => 0) = cntL p a n + (cntL p (a + n) m + match p (a + n + m) with | true => 1 | false => 0)
    rw [cntL_split p a n m, Nat.add_assoc a n m]; omega
theorem cntR_L (p : Nat → Bool) : ∀ (k a : Nat), cntR p k a = cntL p a (2 ^ k)
  | 0, a => by show _ = 0 + _; rw [Nat.zero_add]; rfl
  | k + 1, a => by
    show cntR p k a + cntR p k (a + 2 ^ k) = _
    rw [cntR_L p k a, cntR_L p k (a + 2 ^ k), Nat.pow_succ, Nat.mul_two, cntL_split]
theorem many_primes : 1290 ≤ cntL okq 65536 16384 := by
  rw [show 16384 = 2 ^ 14 by decide, ← cntR_L]
  decide +kernel
theorem cntL_step (p : Nat → Bool) (a n : Nat) : cntL p a (n + 1) = cntL p a n + if p (a + n) = true then 1 else 0 := by
  show _ + (match p (a + n) with | true => 1 | false => 0) = _
  cases p (a + n) <;> rfl
theorem cntL_le {p q r : Nat → Bool} (h : ∀ k, p k = true → q k = true ∨ r k = true) (a : Nat) : ∀ n, cntL p a n ≤ cntL q a n + cntL r a n
  | 0 => Nat.le_refl _
  | n + 1 => by
    have ih := cntL_le h a n
    rw [cntL_step, cntL_step, cntL_step]
    by_cases c : p (a + n) = true
    · rw [if_pos c]
      rcases h _ c with z | z
      · rw [if_pos z]; omega
      · rw [if_pos z]; omega
    · rw [if_neg c]; omega
/-- a prime by which f stays free -/
def Gd (f : P) (t : Int) : Prop := Pr t ∧ ¬ t ∣ P.lc f ∧ P.Cop t f (P.D f)
open Classical in
noncomputable def gd (f : P) (q : Nat) : Bool := decide (Gd f (q : Int))
theorem gd_iff {f : P} {q : Nat} : gd f q = true ↔ Gd f (q : Int) := by
  classical
  unfold gd
  constructor
  · exact of_decide_eq_true
  · exact fun h => decide_eq_true h
noncomputable def bd (f : P) (q : Nat) : Bool := okq q && !gd f q
/-- the product of the bad ones -/
noncomputable def badP (f : P) : Nat → Int
  | 0 => 1
  | n + 1 => match bd f (65536 + n) with
    | true => badP f n * ((65536 + n : Nat) : Int)
    | false => badP f n
theorem badP_pos (f : P) : ∀ n, (2 : Int) ^ (16 * cntL (bd f) 65536 n) ≤ badP f n
  | 0 => by
    show (2 : Int) ^ (16 * 0) ≤ 1
    decide
  | n + 1 => by
    have ih := badP_pos f n
    rw [cntL_step]
    unfold badP
    cases c : bd f (65536 + n)
    · simp only [Bool.false_eq_true, if_false, Nat.add_zero]; exact ih
    · simp only [if_true]
      rw [show 16 * (cntL (bd f) 65536 n + 1) = 16 * cntL (bd f) 65536 n + 16 by omega, Int.pow_add]
      exact Int.mul_le_mul ih (by omega) (by decide) (by
        have : (0 : Int) < 2 ^ (16 * cntL (bd f) 65536 n) := Int.pow_pos (by decide)
        omega)
/-- a prime above all that were multiplied divides the product nowhere -/
theorem badP_np (f : P) {t : Int} (hp : Pr t) : ∀ n : Nat, (65536 + n : Int) ≤ t → ¬ t ∣ badP f n
  | 0, _ => by unfold badP; exact hp.one
  | n + 1, h => by
    unfold badP
    cases c : bd f (65536 + n)
    · exact badP_np f hp n (by omega)
    · intro d
      rcases hp.2 _ _ d with z | z
      · exact badP_np f hp n (by omega) z
      · have := Int.le_of_dvd (by omega) z
        omega
theorem badP_dvd (f : P) {y : Int} (hy : ∀ q : Nat, Pr (q : Int) → ¬ Gd f q → (q : Int) ∣ y) : ∀ n : Nat, n ≤ 16384 → badP f n ∣ y
  | 0, _ => by unfold badP; exact Int.one_dvd ..
  | n + 1, h => by
    have ih := badP_dvd f hy n (by omega)
    unfold badP
    cases c : bd f (65536 + n)
    · exact ih
    · unfold bd at c
      rw [Bool.and_eq_true] at c
      obtain ⟨c1, c2⟩ := c
      have hpr := okq_pr (q := 65536 + n) (by omega) (by omega) c1
      have ng : ¬ Gd f ((65536 + n : Nat) : Int) := fun z => by
        rw [gd_iff.mpr z] at c2
        cases c2
      have hd := hy _ hpr ng
      obtain ⟨z, rfl⟩ := ih
      rcases hpr.2 _ _ hd with w | w
      · exact absurd w (badP_np f hpr n (by omega))
      · exact Int.mul_dvd_mul_left _ w
set_option exponentiation.threshold 100000 in
/-- AT LEAST SIX PRIMES are good -/
theorem six {f : P} (hf : P.SqF f) (h2 : 2 ≤ P.len f) (h9 : P.len f ≤ 9) (hB : P.Bt 32 f) : 6 ≤ cntL (gd f) 3 81917 := by
  obtain ⟨u, v, x, hx, e, hb⟩ := P.sqf_res hf h2 h9 hB
  have hf0 : f ≠ 0 := fun z => by rw [z, P.len_0] at h2; omega
  have hl := P.lc_ne hf0
  have hy : ∀ q : Nat, Pr (q : Int) → ¬ Gd f q → (q : Int) ∣ P.lc f * x := fun q hp hn => by
    by_cases c : (q : Int) ∣ P.lc f * x
    · exact c
    · exfalso
      have c1 : ¬ (q : Int) ∣ P.lc f := fun z => c (Int.dvd_trans z (Int.dvd_mul_right ..))
      have c2 : ¬ (q : Int) ∣ x := fun z => c (Int.dvd_trans z (Int.dvd_mul_left ..))
      obtain ⟨k, hk⟩ := P.kinv hp c2
      refine hn ⟨hp, c1, P.K k * u, P.K k * v, ?_⟩
      have : P.K k * u * f + P.K k * v * P.D f = P.K x * P.K k := by rw [← e]; grind
      rw [this]; exact hk
  have d := badP_dvd f hy 16384 (Nat.le_refl _)
  have hne : P.lc f * x ≠ 0 := Int.mul_ne_zero hl hx
  have up : (P.lc f * x).natAbs < 2 ^ 20296 := by
    rw [Int.natAbs_mul, show 20296 = 32 + 20264 by decide, Nat.pow_add]
    exact Nat.mul_lt_mul'' hB.lc hb
  have lo := badP_pos f 16384
  have hle : badP f 16384 ≤ ((P.lc f * x).natAbs : Int) := Int.le_of_dvd (by omega) (Int.dvd_natAbs.mpr d)
  have hcnt : 16 * cntL (bd f) 65536 16384 < 20296 := by
    by_cases c : 16 * cntL (bd f) 65536 16384 < 20296
    · exact c
    · exfalso
      have h1 : 2 ^ 20296 ≤ 2 ^ (16 * cntL (bd f) 65536 16384) := Nat.pow_le_pow_right (by decide) (by omega)
      have h3 : ((2 ^ (16 * cntL (bd f) 65536 16384) : Nat) : Int) = (2 : Int) ^ (16 * cntL (bd f) 65536 16384) := by rw [Int.natCast_pow]; rfl
      rw [← h3] at lo
      generalize (2 : Nat) ^ 20296 = A at *
      generalize (2 : Nat) ^ (16 * cntL (bd f) 65536 16384) = B at *
      omega
  have s := cntL_le (p := okq) (q := gd f) (r := bd f) (fun k hk => by
    unfold bd
    cases c : gd f k
    · right; rw [hk]; rfl
    · left; rfl) 65536 16384
  have m := many_primes
  have t : cntL (gd f) 65536 16384 ≤ cntL (gd f) 3 81917 := by
    have q := cntL_split (gd f) 3 65533 16384
    rw [show 3 + 65533 = 65536 by decide, show 65533 + 16384 = 81917 by decide] at q
    rw [q]
    exact Nat.le_add_left _ _
  clear up lo hle hb hB
  omega
end RC
/-! W1: enumerate over a tuple. -/
namespace RH
open PySem PySem.Spec PyProof.Rows L2
theorem meets_en1 {v : Value} {o : Obj} {H : Heap → Prop} (B : Begins v o H) :
    Meets (Builtin.«enumerate.__new__» ⟨[.type "enumerate", v], []⟩) (fun _ R s => H s.heap ∧
      R (.ok (.ret (.ref (s.heap.push o).objs.size))) { s with heap := (s.heap.push o).push { cls := .type "enumerate", data := .fields #[.none, .bool false, .ref s.heap.objs.size, rawInt 0, .none, .none] } }) :=
  .of_wp fun prog w A R s h => by
    obtain ⟨hp, g, d, tk, os⟩ := s
    obtain ⟨h1, h⟩ := h
    have hsub := sub_enumerate
    have q1 : ∀ {A' : Around} {E : Value → Shared → Prop} {Q : Value → Shared → Prop}, Q (.ref hp.objs.size) ⟨hp.push o, g, d, tk, os⟩ → wpAny (model prog w) A' (pyIter v) Q E ⟨hp, g, d, tk, os⟩ :=
      fun q => B.iter prog w _ _ ⟨hp, g, d, tk, os⟩ _ h1 q
    wp_walk using q1
    refine wpAny_stack_any fun st => wpAny_pure ?_
    split
    · rename_i c _ _ _ _ _
      cases (c == Value.type "enumerate") <;> (wp_walk using q1; exact ⟨_, rfl, h⟩)
    · wp_walk using q1
      exact ⟨_, rfl, h⟩
section
variable {prog : Program} {w : World} {A : Around} {E : Value → Shared → Prop} {s : Shared}
theorem call_en1 {v : Value} {o : Obj} {H : Heap → Prop} {Q : Value → Shared → Prop} (B : Begins v o H) (h1 : H s.heap)
    (h : ∀ h', IsEnum h' (s.heap.objs.size + 1) s.heap.objs.size 0 .none → h'.get? s.heap.objs.size = some o → (∀ b o, s.heap.get? b = some o → h'.get? b = some o) → Q (.ref (s.heap.objs.size + 1)) { s with heap := h' }) :
    wpAny (model prog w) A (call (.type "enumerate") [v]) Q E s := by
  refine callType_new F.called_enumerate (by decide) (F.typeCall_enumerate_1 _) (F.newCall_enumerate_1 _) (fun obj => F.args_object_init_2 obj _) F.entry_enumerate_new (meets_en1 B) ⟨h1, ?_⟩
  have hz : (s.heap.push o).objs.size = s.heap.objs.size + 1 := Heap.size_push ..
  show _ ∧ _
  rw [hz]
  have he : IsEnum ((s.heap.push o).push { cls := .type "enumerate", data := .fields #[.none, .bool false, .ref s.heap.objs.size, rawInt 0, .none, .none] }) (s.heap.objs.size + 1) s.heap.objs.size 0 .none := by
    have q := Heap.get?_push_size (s.heap.push o) (o := { cls := .type "enumerate", data := .fields #[.none, .bool false, .ref s.heap.objs.size, rawInt 0, .none, .none] }) rfl
    rw [hz] at q
    exact q
  exact ⟨⟨_, he, rfl⟩, h _ he (Heap.get?_push_of_some _ (Heap.get?_push_size _ B.free)) fun b o x => Heap.get?_push_of_some _ (Heap.get?_push_of_some _ x)⟩
end
/-- the tuple at a, each item with its place in a new pair -/
def IteT (K : PySem.W.Frag) (a : Addr) : It :=
  ⟨fun i H => ∃ (xs : List V) (x : V), SqT K H a xs ∧ xs[i]? = some x, fun i H v H' => ∃ T x, v = .ref T ∧ H T = none ∧ H' = upd H T (.tup [.int (i : Nat), x]) ∧ ∀ xs, SqT K H a xs → xs[i]? = some x, fun i H => ∃ xs : List V, SqT K H a xs ∧ xs.length ≤ i⟩
theorem turn_enumT {P : Program} {w : World} {K : PySem.W.Frag} {elts : List Expr} {kk : Nat} {tpos : Pos} (a e it : Addr) :
    Turn P w K (.Tuple elts kk tpos) (IteT K a) [e, it] e (fun i h => (∃ old, IsEnum h e it ((i : Nat) : Int) old) ∧ h.IsTupleIter it a i ∧ e ≠ it) where
  mem := by simp
  obj := fun i h st b hb => by
    obtain ⟨⟨old, he⟩, ⟨o, ho, hc, hd⟩, _⟩ := st
    have e' : b = e ∨ b = it := by simpa using hb
    rcases e' with z | z
    · subst z; exact ⟨_, he, fun v q => nomatch q⟩
    · subst z; exact ⟨o, ho, fun v q => by rw [hd] at q; cases q⟩
  keep := fun i h h' st k => let ⟨⟨old, he⟩, hi, hne⟩ := st; ⟨⟨old, k e (by simp) _ he⟩, hi.at fun o q => k it (by simp) o q, hne⟩
  item := by
    intro X hP hw hK hc i pins s σ H E I hf st hg
    subst hP hw hK
    obtain ⟨⟨old, he⟩, hit, hne⟩ := st
    obtain ⟨xs, x, hq, hx⟩ := hg
    obtain ⟨its, rv, p, hz⟩ := I.tuple hq
    obtain ⟨u, hu, ru⟩ := rv.get hx
    have hel : e < s.heap.objs.size := Heap.lt_size he
    have hil : it < s.heap.objs.size := by obtain ⟨_, q, _⟩ := hit; exact Heap.lt_size q
    have p' : s.heap.IsTuple a its.toArray := p
    have hai : a ≠ it := by
      intro z
      obtain ⟨o, ho, hc, hd⟩ := p'
      obtain ⟨o2, ho2, _, hd2⟩ := hit
      rw [z, ho2] at ho
      cases ho
      obtain ⟨n, hd⟩ := hd
      rw [hd2] at hd
      cases hd
    have hae : e ≠ a := by
      intro z
      obtain ⟨o, ho, hc, hd⟩ := p'
      rw [← z, he] at ho
      cases ho
      obtain ⟨n, hd⟩ := hd
      cases hd
    have hlt : i < its.toArray.size := by
      have := (List.getElem?_eq_some_iff.mp hu).1
      simpa using this
    refine wpAny_pyNext_enum_itemC (fp := [it, a]) (Draws.tuple (A := X.A.in1) (show X.A.in1.handled = none from I.ok.hd hc) it a hai its.toArray) he ⟨hit, p'⟩ hlt hne (by simp; exact ⟨hne, hae⟩) fun x' h' tk hPx ho hst' hT hsz hk => ?_
    have ex : x' = u := by
      have q : its.toArray[i]? = some x' := hPx
      rw [List.getElem?_toArray, hu] at q
      exact (Option.some.inj q).symm
    subst ex
    refine ⟨_, rfl, wpAny_letOwnedTupleGo_enum (s := { s with heap := h', toks := tk + 1 }) ho fun h'' he' sb => ?_⟩
    have hT2 : h''.get? s.heap.objs.size = some { cls := .type "tuple", data := .seq #[.int i tk, x'] } := (sb.2 _ (Nat.ne_of_gt hel)).trans hT
    have new : ObjOk X.prog X.w (upd H s.heap.objs.size (.tup [.int (i : Nat), x])) h'' s.heap.objs.size (.tup [.int (i : Nat), x]) :=
      ⟨by show 2 ≤ sizeLine; decide, [.int i tk, x'], .cons ⟨_, rfl⟩ (.cons ru .nil), ⟨_, hT2, rfl, _, rfl⟩⟩
    have I1 : Inv X pins σ (upd H s.heap.objs.size (.tup [.int (i : Nat), x])) { s with heap := h'', toks := tk + 1 } :=
      I.turnedNew (ch := [e, it]) (fun b ob hb q => (sb.2 b (fun z => hb (by simp [z]))).trans (hk b ob (fun z => hb (by simp [z])) (fun z => hb (by simp [z])) q)) hf (Nat.le_refl _) new
    refine ⟨.ref s.heap.objs.size, _, I1, rfl, ⟨_, x, rfl, I.hok.fresh (Nat.le_refl _), rfl, fun ys hy => by rw [I.tuple_inj hy hq]; exact hx⟩, ⟨⟨x', ?_⟩, hst'.1.at fun o q => (sb.2 it (Ne.symm hne)).trans q, hne⟩, fun b hb => ?_⟩
    · have e1 : ((i + 1 : Nat) : Int) = (i : Int) + 1 := by omega
      rw [e1]
      exact he'
    · have hb' : b < s.heap.objs.size := by
        have e' : b = e ∨ b = it := by simpa using hb
        rcases e' with z | z
        · rw [z]; exact hel
        · rw [z]; exact hil
      rw [upd_ne (Nat.ne_of_lt hb')]
      exact (hf b hb).1
  done := by
    intro X hP hw hK hc i pins s σ H E I hf st hg
    subst hP hw hK
    obtain ⟨⟨old, he⟩, hit, hne⟩ := st
    obtain ⟨xs, hq, hx⟩ := hg
    obtain ⟨its, rv, p, hz⟩ := I.tuple hq
    obtain ⟨f0, f1, f2, f3, f4, f5⟩ := hf it (by simp)
    have hl := rv.length
    have p' : s.heap.IsTuple a its.toArray := p
    have hT : s.TypeIs (.ref e) "enumerate" := ⟨_, he, rfl⟩
    unfold pyNext
    refine wpAny_bind (wpAny_attempt (wpAny_callSpecial?_slot (name := Str.ofString "__next__") hT F.slot_enumerate_next
      (wpAny_call_entry F.slot_enumerate_next hT F.entry_enumerate_next ?_ (F.args_enumerate_next_1 _))))
    show wpAny _ _ (field (.ref e) 2 >>= _) _ _ _
    refine wpAny_bind (wpAny_field he rfl (x := .ref it) rfl ?_)
    refine wpAny_bind (wpAny_nextOf_tuple_end (I.ok.hd hc) hit p' (by simp; omega) fun h' x he' hx' => ?_)
    obtain ⟨o, ho, hc'⟩ := hx'
    refine wpAny_bind (wpAny_isInstance (T := "StopIteration") (b := true) ⟨o, ho, hc'⟩ isSubtype_stop ?_)
    exact wpAny_pure ⟨rfl, I.turned (t' := s.toks) (fun b o hb q => he' b o hb q) f0 f1 f3 f4 f5⟩
  self := fun A i s Q E st h => let ⟨⟨_, he⟩, _⟩ := st; wpAny_pyIter_enum he h
def iEnumT (K : PySem.W.Frag) (ta : TA) : TI := fun σ H R => ta σ H fun vs H1 => ∃ a xs, vs = [.ref a] ∧ SqT K H1 a xs ∧ R (IteT K a) H1
theorem pi_enumT {X : Cx} {e : Expr} {ta : TA} {p pos tpos : Pos} {elts : List Expr} {kk : Nat} (hg : Gl X "enumerate") (hm : X.mg "enumerate" = none) (ha : PA X [e] ta) (hs : starEach [e] X.env = [(false, eval e X.env)] := by rfl) :
    PI X (.Tuple elts kk tpos) (.Call (.Name "enumerate" p) [e] [] pos) (iEnumT X.K ta) := by
  refine ⟨fun pins s σ H R I h => ?_⟩
  refine Call_ (ld_blt I hg hm boot_enumerate (PyProof.Rows.callWith_type1 (thn (ha.run pos pins s σ H _ I h) fun us s1 ⟨vs, H1, I1, r1, q1⟩ => ?_) hs rfl))
  obtain ⟨a, xs, ex, hq, q⟩ := q1
  subst ex
  cases r1 with
  | cons r rr =>
    cases rr
    cases r
    obtain ⟨its, rv, p', hz⟩ := I1.tuple hq
    refine call_en1 (begins_tuple a its.toArray) (show s1.heap.IsTuple a its.toArray from p') fun h' he hit hk => wpAny_pyIter_enum he ?_
    have I2 : Inv X pins σ H1 { s1 with heap := h' } := I1.kept (t' := s1.toks) hk
    refine ⟨s1.heap.objs.size + 1, [s1.heap.objs.size + 1, s1.heap.objs.size], _, _, H1, rfl, I2, turn_enumT a (s1.heap.objs.size + 1) s1.heap.objs.size, ⟨⟨.none, he⟩, ⟨_, hit, rfl, rfl⟩, Nat.succ_ne_self _⟩, fun b hb => ?_, q⟩
    have e' : b = s1.heap.objs.size + 1 ∨ b = s1.heap.objs.size := by simpa using hb
    have hle : s1.heap.objs.size ≤ b := by
      rcases e' with z | z
      · rw [z]; exact Nat.le_add_right _ _
      · rw [z]; exact Nat.le_refl _
    exact I1.fpOk hle (I1.hok.fresh hle)
end RH
/-! W2: sorted(list, key = a def that tells a pair of a number and a tuple of numbers): some arrangement. -/
namespace RH
open PySem PySem.Spec PyProof.Rows L2
section
variable {X : Cx} {pins : List (Addr × Obj)} {σ : L2.St} {H : Hp} {s : Shared}
/-- a call of a def of ours from within two calls of built-ins -/
theorem key_call {k : Nat} {f : Addr} {fd : FuncData} {ps : List Str} {sp : Sp} (F : FnOk X.prog X.w X.K X.mg X.base CX0 k f fd ps sp) (hr : Room (k + 2) X.A) (hb : Binds X.K fd ps []) (I : Inv X pins σ H s) {x : V} {u : Value} (r : RelV x u)
    {Q : VK} {E : Value → Shared → Prop} (h : sp [x] H Q E0) : wpAny (model X.prog X.w) X.A.in1.in1 (call (.ref f) [u])
      (fun v s' => ∃ y H', Inv X pins σ H' s' ∧ RelV y v ∧ Q y H' ∧ ∀ b o, s.heap.get? b = some o → H b = none → H' b = none ∧ (b ∉ frs X.stack → s'.heap.get? b = some o)) E s := by
  have r2 : Vals [x] [u] := .cons r .nil
  have hl : ([u] ++ ([] : List Value)).length = ps.length := by
    have := F.len _ _ _ _ h
    simpa using this
  refine wpAny_call (codeAny_mono (F.run X.A.in1.in1 X.stack s H ⟨[u], []⟩ [u] [x] Q E0 ((hr.in1).in1) I.env0.in1.in1 (by simpa using hb s [u] I.kIn hl) r2 h) fun r s' hq => ?_)
  cases r with
  | error e => exact hq.elim
  | ok fl =>
    cases fl with
    | next => exact False.elim hq
    | brk => exact False.elim hq
    | cont => exact False.elim hq
    | ret v =>
      have hq' : CE X.stack X.prog X.w H s Q v s' := hq
      obtain ⟨y, H', os, bare, un, hok, rv, q⟩ := id hq'
      obtain ⟨hh, g, d, t, os'⟩ := s'
      obtain rfl : os' = s.os := os
      exact ⟨y, H', I.call (h' := hh) (g' := g) (d' := d) (t' := t) (ch := []) un hok bare (fun b z => absurd z (by simp)), rv, q, fun b o e n => ⟨un.free b o e n (by simp), fun hb => un.keep b o e n hb (by simp)⟩⟩
/-- an object that stood untracked is tracked -/
theorem track {a : Addr} {o : HO} (I : Inv X pins σ H s) (hn : H a = none) (hL : a ≠ X.env.locals) (h1 : X.s_0.heap.objs.size ≤ a) (h2 : ∀ x c, X.env.cells.lookup x = some c → c ≠ a) (h3 : ∀ p ∈ X.pn ++ pins, p.1 ≠ a)
    (new : ObjOk X.prog X.w (upd H a o) s.heap a o) : Inv X pins σ (upd H a o) s := by
  have neS : ∀ b u, X.s_0.heap.get? b = some u → b ≠ a := fun b u e => Nat.ne_of_lt (Nat.lt_of_lt_of_le (Heap.lt_size e) h1)
  refine ⟨I.ok, I.os, I.bare, ⟨I.base.keep, I.base.slot, fun b u e n hx => ?_, I.base.there, fun b xs e => ?_, fun b u x e => ?_, fun b ps e => ?_⟩, I.loc, I.cell, ?_, fun x c e => ?_, fun p hp => ?_, fun b u e => ?_, I.len⟩
  · rw [upd_ne (neS b u e)]; exact I.base.free b u e n hx
  · have q := I.base.tups b xs e
    rw [upd_ne (ne_of_none q hn)]; exact q
  · have q := I.base.frzs b u x e
    rw [upd_ne (ne_of_none q hn)]; exact q
  · obtain ⟨m, q⟩ := I.base.tbls b ps e
    exact ⟨m, by rw [upd_ne (ne_of_none q hn)]; exact q⟩
  · rw [upd_ne (Ne.symm hL)]; exact I.free
  · rw [upd_ne (h2 x c e)]; exact I.freeC x c e
  · obtain ⟨e, n, r⟩ := I.pin p hp
    exact ⟨e, by rw [upd_ne (h3 p hp)]; exact n, r⟩
  · by_cases hb : b = a
    · subst hb
      rw [upd_same] at e
      cases e
      exact new
    · rw [upd_ne hb] at e
      exact (I.hok b u e).stay (fun c v _ q => q) (fun c q => by rw [upd_ne (ne_of_none q hn)]; exact q) fun c xs q => by rw [upd_ne (ne_of_none q hn)]; exact q
/-- the key that a value tells: a number and a tuple of numbers -/
structure KeyAt (K : PySem.W.Frag) (H : Hp) (u : Value) : Prop where
  ex : ∃ (t p : Addr) (n : Int) (c : List Int), u = .ref t ∧ H t = some (.tup [.int n, .ref p]) ∧ SqT K H p (c.map V.int)
theorem KeyAt.mono {K : PySem.W.Frag} {H H' : Hp} {u : Value} (h : KeyAt K H u) (e : Same H H') : KeyAt K H' u := by
  obtain ⟨t, p, n, c, rfl, h1, h2⟩ := h.ex
  refine ⟨t, p, n, c, rfl, e _ _ h1, ?_⟩
  rcases h2 with (h2 | ⟨o, h2⟩) | h2
  · exact .inl (.inl (e _ _ h2))
  · exact .inl (.inr ⟨o, e _ _ h2⟩)
  · exact .inr h2
theorem ints_read {h : Heap} : ∀ {c : List Int} {its : List Value}, Vals (c.map V.int) its → ReadsAll h its (c.map PyData.int) []
  | [], _, .nil => .nil
  | _ :: _, _, .cons ⟨t, e⟩ r => by
    subst e
    exact ReadsAll.cons (as := []) (bs := []) (.int _ _) (ints_read r)
theorem KeyAt.reads (I : Inv X pins σ H s) {u : Value} (h : KeyAt X.K H u) : ∃ (n : Int) (c : List Int), Reads s.heap u (.tuple [.int n, .tuple (c.map .int)]) [] := by
  obtain ⟨t, p, n, c, rfl, h1, h2⟩ := h.ex
  obtain ⟨its, rv, ⟨o, ho, hc, m, hd⟩, _⟩ := I.tuple (.inl (.inl h1) : SqT X.K H t [.int n, .ref p])
  obtain ⟨its2, rv2, ⟨o2, ho2, hc2, m2, hd2⟩, _⟩ := I.tuple h2
  obtain ⟨u1, u2, rfl, r1, r2⟩ := vals2 rv
  obtain ⟨t1, rfl⟩ := r1
  obtain rfl : u2 = Value.ref p := r2
  refine ⟨n, c, Reads.tuple ho hc hd ?_⟩
  refine ReadsAll.cons (as := []) (bs := []) (.int _ _) (ReadsAll.cons (as := []) (bs := []) ?_ .nil)
  exact Reads.tuple ho2 hc2 hd2 (ints_read rv2)
def rSortedF (K : PySem.W.Frag) (fa : Addr) (sp : Sp) : List V → List V → Hp → VK → Prop := fun vs zs H Q => ∃ (a : Addr) (xs : List V), vs = [.ref a] ∧ zs = [.ref fa] ∧ SqL K H a xs ∧ (∀ x ∈ xs, ∃ t, x = V.ref t) ∧
  (∀ x ∈ xs, ∀ H', Same H H' → ∀ Q' : VK, (∀ t p n (c : List Int), H' t = none → SqT K H' p (c.map V.int) → Q' (.ref t) (upd H' t (.tup [.int n, .ref p]))) → sp [x] H' Q' E0) ∧
  ∀ ys p H', ys.Perm xs → Same H H' → H' p = none → Q (.ref p) (upd H' p (.lst ys))
theorem sortVals_perm {κ : PyProof.Rows.KeyKind} {ks vs : List Value} (hl : ks.length = vs.length) : (PySem.W.sortVals κ false ks vs).Perm vs := by
  unfold PySem.W.sortVals
  refine ((List.mergeSort_perm _ _).map Prod.snd).trans ?_
  rw [List.map_snd_zip (by omega)]
theorem cr_sortedF {k : Nat} {fa : Addr} {fd : FuncData} {ps : List Str} {sp : Sp} (F : FnOk X.prog X.w X.K X.mg X.base CX0 k fa fd ps sp) (hr : Room (k + 2) X.A) (hb : Binds X.K fd ps []) : CallRK X (.builtin "sorted") [Str.ofString "key"] (rSortedF X.K fa sp) := by
  intro pins s σ H vs zs us ws Q I r rz h
  obtain ⟨l, xs, rfl, rfl, hs, hx, hkey, q⟩ := h
  obtain rfl := Vals.ref1 r
  obtain rfl := Vals.ref1 rz
  obtain ⟨its, rv, hl, hz⟩ := I.list hs
  obtain ⟨e1, e2⟩ := refs_back rv hx
  have hlen := rv.length
  have hZ : its.length ≤ sizeLine := by rw [← hlen]; exact hz
  show wpAny (model X.prog X.w) X.A (call (.builtin "sorted") [.ref l] [(Str.ofString "key", Value.ref fa)]) _ _ _
  refine PySem.W.sorted_of_sort hl.isList hZ (ksk_s1 _ _) (fun _ => ksk_l1 _ _) fun E' => ?_
  rw [ksk_t1]
  have ho := PySem.W.copyHeap_at s.heap its
  have kp0 : ∀ b o, s.heap.get? b = some o → (PySem.W.copyHeap s.heap its).get? b = some o := fun b o e => PySem.W.copyHeap_old e
  have I0 : Inv X pins σ H { s with heap := PySem.W.copyHeap s.heap its } := I.kept (t' := s.toks) kp0
  generalize hh0 : PySem.W.copyHeap s.heap its = h0 at *
  have la : s.heap.objs.size + 1 < h0.objs.size := Heap.lt_size ho
  have ga := I.fpOk (b := s.heap.objs.size + 1) (Nat.le_succ _) (I.hok.fresh (Nat.le_succ _))
  generalize ea : s.heap.objs.size + 1 = a at *
  obtain ⟨ga0, ga1, ga2, ga3, ga4, ga5⟩ := ga
  have ga6 : a ∉ frs X.stack := fun z => by
    rcases List.mem_cons.mp (I.stkSub a z) with y | y
    · exact ga1 y
    · exact ga2 y
  have ga7 : X.s_0.heap.objs.size ≤ a := by rw [← ea]; exact Nat.le_trans I.sz (Nat.le_succ _)
  obtain ⟨ep, ho1⟩ : ∃ ep, (h0.update a (Obj.mapSeq fun _ => (#[] : Array Value))).get? a = some (seqObj "list" #[] ep) := ⟨_, get?_update_seq ho fun _ => #[]⟩
  have sb1 := Heap.SameBut.update h0 a (Obj.mapSeq fun _ => (#[] : Array Value))
  unfold ksk_tree
  refine wpAny_bind (listItems_at ho rfl ?_)
  refine wpAny_bind (listUpdate_at ho rfl ?_ (by rw [List.size_toArray]; exact hZ) (Nat.zero_le _))
  have I1 : Inv X pins σ H { s with heap := h0.update a (Obj.mapSeq fun _ => (#[] : Array Value)) } :=
    I0.turned (t' := s.toks) (fun b o hb e => (sb1.2 b hb).trans e) ga0 ga1 (.inr ga7) ga4 ga5
  refine wpAny_bind (seqEpoch_at ho1 rfl ?_)
  refine wpAny_bind (wpAny_newTuple ?_ (by show its.length ≤ _; exact hZ))
  refine wpAny_bind (wpAny_newList ?_ (Nat.zero_le _))
  refine wpAny_holding ?_
  have hsz1 : (h0.update a (Obj.mapSeq fun _ => (#[] : Array Value))).objs.size = h0.objs.size := Heap.size_update ..
  generalize hh1 : h0.update a (Obj.mapSeq fun _ => (#[] : Array Value)) = h1 at *
  have I2 : Inv X pins σ H { s with heap := (h1.push (seqObj "tuple" its.toArray 0)).push (seqObj "list" #[] 0) } :=
    I1.kept (t' := s.toks) fun b o e => Heap.get?_push_of_some _ (Heap.get?_push_of_some _ e)
  have gk := I1.fpOk (b := (h1.push (seqObj "tuple" its.toArray 0)).objs.size) (by rw [Heap.size_push]; exact Nat.le_succ _) (I1.hok.fresh (by rw [Heap.size_push]; exact Nat.le_succ _))
  have nk0 : ((h1.push (seqObj "tuple" its.toArray 0)).push (seqObj "list" #[] 0)).get? (h1.push (seqObj "tuple" its.toArray 0)).objs.size = some (seqObj "list" #[] 0) := Heap.get?_push_size _ rfl
  have na0 : ((h1.push (seqObj "tuple" its.toArray 0)).push (seqObj "list" #[] 0)).get? a = some (seqObj "list" #[] ep) := Heap.get?_push_of_some _ (Heap.get?_push_of_some _ ho1)
  have hka : (h1.push (seqObj "tuple" its.toArray 0)).objs.size ≠ a := by
    rw [Heap.size_push, hsz1]
    exact Nat.ne_of_gt (Nat.lt_succ_of_lt la)
  have gk7 : X.s_0.heap.objs.size ≤ (h1.push (seqObj "tuple" its.toArray 0)).objs.size := Nat.le_trans I1.sz (by rw [Heap.size_push]; exact Nat.le_succ _)
  show wpAny (model X.prog X.w) X.A.in1.in1 (ksk_rest a (.ref fa) false its.toArray ep (.ref (h1.push (seqObj "tuple" its.toArray 0)).objs.size)) _ _ { s with heap := (h1.push (seqObj "tuple" its.toArray 0)).push (seqObj "list" #[] 0) }
  generalize (h1.push (seqObj "tuple" its.toArray 0)).objs.size = kS at *
  generalize (h1.push (seqObj "tuple" its.toArray 0)).push (seqObj "list" #[] 0) = h2 at *
  obtain ⟨gk0, gk1, gk2, gk3, gk4, gk5⟩ := gk
  have gk6 : kS ∉ frs X.stack := fun z => by
    rcases List.mem_cons.mp (I.stkSub kS z) with y | y
    · exact gk1 y
    · exact gk2 y
  unfold ksk_rest
  refine wpAny_bind (wpAny_rule ?_)
  first
    | rw [List.forIn_toArray]
    | (rw [← Array.forIn_toList]; simp only [List.toList_toArray])
    | rw [← Array.forIn_toList]
  refine wpAny_bind (ksk_fold (fun i s' => ∃ H' kA e, Inv X pins σ H' s' ∧ Same H H' ∧ H' a = none ∧ H' kS = none ∧ s'.heap.get? kS = some (seqObj "list" kA e) ∧ s'.heap.get? a = some (seqObj "list" #[] ep) ∧ kA.size = i ∧ ∀ u ∈ kA.toList, KeyAt X.K H' u) its 0 _
    ⟨H, #[], 0, I2, Same.refl H, ga0, gk0, nk0, na0, rfl, fun u hu => absurd hu (by simp)⟩ ?step ?done)
  case step =>
    rintro j u s' hu ⟨H', kA, e, I', sm, na, nk, ok, oa, hsz, hks⟩
    simp only [Nat.zero_add] at hsz ⊢
    have hj : j < its.length := (List.getElem?_eq_some_iff.mp hu).1
    have hxm : ∃ x, xs[j]? = some x ∧ RelV x u := by
      obtain ⟨t, rfl⟩ := e2 u (List.mem_of_getElem? hu)
      refine ⟨.ref t, ?_, rfl⟩
      rw [e1, List.getElem?_map, hu]
      rfl
    obtain ⟨x, hxj, rx⟩ := hxm
    have hsz' : kA.size ≤ its.length := by omega
    refine wpAny_bind (wpAny_attempt (wpAny_mono (key_call F hr hb I' rx (Q := fun y H2 => ∃ t p n, ∃ c : List Int, y = V.ref t ∧ H' t = none ∧ SqT X.K H' p (c.map V.int) ∧ H2 = upd H' t (.tup [.int n, .ref p])) (E := fun _ _ => False)
      (hkey x (List.mem_of_getElem? hxj) H' sm _ fun t p n c ht hp => ⟨t, p, n, c, rfl, ht, hp, rfl⟩)) (fun v s'' hv => ?_) fun _ _ hF => hF.elim))
    obtain ⟨y, H2, I2', ry, ⟨t, p, n, c, rfl, ht, hp, rfl⟩, hold⟩ := hv
    obtain rfl : v = Value.ref t := ry
    try dsimp only
    obtain ⟨nk', k2⟩ := hold kS _ ok nk
    obtain ⟨na', a2⟩ := hold a _ oa na
    have ok2 := k2 gk6
    have oa2 := a2 ga6
    have sm2 : Same H' (upd H' t (.tup [.int n, .ref p])) := fun b o e => by rw [upd_ne (ne_of_none e ht)]; exact e
    have sb := Heap.SameBut.update s''.heap kS (Obj.mapSeq (·.push (Value.ref t)))
    obtain ⟨c2, hc2⟩ : ∃ c2, (s''.heap.update kS (Obj.mapSeq (·.push (Value.ref t)))).get? kS = some (seqObj "list" (kA.push (Value.ref t)) c2) := ⟨_, get?_update_seq ok2 (·.push (Value.ref t))⟩
    refine wpAny_bind (listUpdate_at ok2 rfl ?_ (Nat.le_trans hsz' hZ) (Nat.le_trans (Nat.le_of_eq (Array.size_push ..)) (Nat.succ_le_succ (Nat.le_trans hsz' hZ))))
    have I3 : Inv X pins σ (upd H' t (.tup [.int n, .ref p])) { s'' with heap := s''.heap.update kS (Obj.mapSeq (·.push (Value.ref t))) } :=
      I2'.turned (t' := s''.toks) (fun b o hb e => (sb.2 b hb).trans e) nk' gk1 (.inr gk7) gk4 gk5
    refine wpAny_pure ⟨rfl, upd H' t (.tup [.int n, .ref p]), kA.push (.ref t), c2, I3, sm.trans sm2, na', nk', hc2, (sb.2 a hka.symm).trans oa2, by rw [Array.size_push, hsz], fun u' hu' => ?_⟩
    rw [Array.toList_push] at hu'
    rcases List.mem_append.mp hu' with z | z
    · exact (hks u' z).mono sm2
    · have : u' = Value.ref t := by simpa using z
      subst this
      refine ⟨t, p, n, c, rfl, upd_same, ?_⟩
      rcases hp with (hp | ⟨o, hp⟩) | hp
      · exact .inl (.inl (sm2 _ _ hp))
      · exact .inl (.inr ⟨o, sm2 _ _ hp⟩)
      · exact .inr hp
  case done =>
    rintro s' ⟨H', kA, e, I', sm, na, nk, ok, oa, hsz, hks⟩
    simp only [Nat.zero_add] at hsz
    try dsimp only
    refine wpAny_bind (listItems_at ok rfl ?_)
    -- the keys as data
    have hdat : ∃ kz : List PyData, PySem.W.EachIs (fun v d => ∃ as, Reads s'.heap v d as) kA.toList kz ∧ ∀ d ∈ kz, ∃ (n : Int) (c : List Int), d = .tuple [.int n, .tuple (c.map .int)] := by
      revert hks
      generalize kA.toList = us
      intro hks
      induction us with
      | nil => exact ⟨[], .nil, fun d hd => absurd hd (by simp)⟩
      | cons u us ih =>
        obtain ⟨kz, h1, h2⟩ := ih fun v hv => hks v (List.mem_cons_of_mem _ hv)
        obtain ⟨n, c, hr'⟩ := (hks u List.mem_cons_self).reads I'
        refine ⟨_ :: kz, .cons ⟨_, hr'⟩ h1, fun d hd => ?_⟩
        rcases List.mem_cons.mp hd with z | z
        · exact ⟨n, c, z⟩
        · exact h2 d z
    obtain ⟨kz, hk', hform⟩ := hdat
    have hal : PySem.W.AllAlike kz := fun d hd d' hd' => by
      obtain ⟨n, c, rfl⟩ := hform d hd
      obtain ⟨n', c', rfl⟩ := hform d' hd'
      simp only [PySem.W.alike, PySem.W.alikeAll, Bool.and_true, Bool.true_and]
      exact PySem.W.alike_ints c c'
    have hsk : PySem.W.Sortable kz := .inl fun d hd => by
      obtain ⟨n, c, rfl⟩ := hform d hd
      exact ⟨_, _, rfl⟩
    have hu : ∀ d, d ∈ kz → X.A.in1.in1.units + d.depth < cLine := fun d hd => by
      obtain ⟨n, c, rfl⟩ := hform d hd
      have hd2 : (PyData.tuple [.int n, .tuple (c.map .int)]).depth ≤ 2 := by
        simp [PyData.depth, PyData.depthAll, PySem.W.depth_ints]
      have hun := hr.un
      have e3 : X.A.in1.in1.units = X.A.units + 2 := rfl
      omega
    -- the heap but for kS
    have hkk : (PySem.W.hideAll s'.heap [kS]).get? kS = none := PySem.W.hideAll_none _ (by simp)
    refine PySem.W.keyH_end (κ := PySem.W.dataKind s'.heap kz) (h₁ := PySem.W.hideAll s'.heap [kS]) (fun b o _ e => PySem.W.of_hideAll _ e) hkk ok oa hka (PySem.W.SortsAt.data (s := s') hk' hal hsk hu) (by rw [hsz]) hZ fun h3 tk3 c3 k3 n3 => ⟨rfl, ?_⟩
    have hperm := sortVals_perm (κ := PySem.W.dataKind s'.heap kz) (ks := kA.toList) (vs := its) (by rw [Array.length_toList, hsz])
    generalize PySem.W.sortVals (PySem.W.dataKind s'.heap kz) false kA.toList its = out at *
    -- all but a and kS is kept
    have keep : ∀ b o, b ≠ a → b ≠ kS → s'.heap.get? b = some o → h3.get? b = some o := fun b o ha hk e => k3 b o ha (PySem.W.hideAll_get _ e (by simpa using hk))
    have I4 : Inv X pins σ H' { s' with heap := h3, toks := tk3 } := by
      have nit : ∀ b u, H' b = some u → b ≠ a ∧ b ≠ kS := fun b u e => ⟨ne_of_none e na, ne_of_none e nk⟩
      refine I'.step (g' := s'.gens) (d' := s'.drawn) (ch := [a, kS]) (fun b hb => ?_) (fun b o _ _ hc e _ => keep b o (fun z => hc (by simp [z])) (fun z => hc (by simp [z])) e) (fun b o _ _ hc e _ => ⟨o.slots, keep b o (fun z => hc (by simp [z])) (fun z => hc (by simp [z])) e⟩) (fun _ _ _ _ n => n)
        (fun b o hc e => ⟨o, keep b o (fun z => hc (by simp [z])) (fun z => hc (by simp [z])) e⟩) (fun _ _ e => e) (fun _ _ _ e => e) (fun b ps e => ⟨#[], by rw [e]; simp⟩) (fun m hm => ?_) (fun b u e => ?_) I'.bare
      · have hb' : b = a ∨ b = kS := by simpa using hb
        rcases hb' with z | z
        · rw [z]; exact ⟨.inr ga7, ga1, ga4, ga5⟩
        · rw [z]; exact ⟨.inr gk7, gk1, gk4, gk5⟩
      · obtain ⟨o, es, epp, ho', r'⟩ := hm
        exact ⟨o, es, epp, keep _ _ (Ne.symm ga1) (Ne.symm gk1) ho', r'⟩
      · exact (I'.hok b u e).stay (fun c v hc q => by
          rcases hc with z | z
          · rw [z] at q ⊢; exact keep _ _ (nit b u e).1 (nit b u e).2 q
          · exact keep _ _ (nit c _ z).1 (nit c _ z).2 q) (fun _ q => q) fun _ _ q => q
    have h3' : ∀ u ∈ out, ∃ t, u = Value.ref t := fun u hu => e2 u (hperm.mem_iff.mp hu)
    have hb' : (out.map backV).Perm xs := by rw [e1]; exact hperm.map backV
    have I5 : Inv X pins σ (upd H' a (.lst (out.map backV))) { s' with heap := h3, toks := tk3 } :=
      track I4 na ga1 ga7 ga4 ga5 ⟨by rw [hb'.length_eq]; exact hz, out, c3, vals_back h3', n3⟩
    exact ⟨.ref a, _, I5, rfl, q _ _ _ hb' sm na⟩
end
end RH
/-! W3: a tuple once, or no time. -/
namespace RH
open PySem PySem.Spec PyProof.Rows L2
theorem tuple_mul1 (l : Addr) (items : Array Value) (n : Nat) (dd : Option Addr) (sl : Array (Option Value)) (u : Tok) :
    Meets (Builtin.«tuple.__mul__» ⟨[.ref l, .int 1 u], []⟩) (fun _ R s => s.heap.get? l = some { cls := .type "tuple", dict := dd, data := .seq items n, slots := sl } ∧
      R (.ok (.ret (Value.ref l))) s) :=
  .of_wp fun prog w A R s h => by
    obtain ⟨hp, g, d, tk, os⟩ := s
    obtain ⟨hl, h⟩ := h
    have f1 := AutoSeq1.idx_int
    wp_walk using wpAny_loadPart' hl
    exact ⟨_, rfl, h⟩
theorem tuple_mul0 (l : Addr) (v : Value) (n : Nat) (dd : Option Addr) (sl : Array (Option Value)) (u : Tok) :
    Meets (Builtin.«tuple.__mul__» ⟨[.ref l, .int 0 u], []⟩) (fun _ R s => s.heap.get? l = some { cls := .type "tuple", dict := dd, data := .seq #[v] n, slots := sl } ∧
      R (.ok (.ret (Value.ref s.heap.objs.size))) { s with heap := s.heap.push { cls := Value.type "tuple", data := Data.seq #[] }, toks := s.toks }) :=
  .of_wp fun prog w A R s h => by
    obtain ⟨hp, g, d, tk, os⟩ := s
    obtain ⟨hl, h⟩ := h
    have f1 := AutoSeq1.idx_int
    wp_walk using wpAny_loadPart' hl
    all_goals exact ⟨_, rfl, h⟩
/-- (v,) * k -/
def rRep1 (K : PySem.W.Frag) : R2 := fun x y H Q => ∃ l k v, x = .ref l ∧ y = .int k ∧ SqT K H l [v] ∧ 0 ≤ k ∧ k ≤ 1000 ∧ (k = 1 → Q (.ref l) H) ∧ (k ≠ 1 → ∀ p, H p = none → Q (.ref p) (upd H p (.tup (List.replicate k.toNat v))))
section
variable {X : Cx}
theorem op_rep1 : OpR X (binaryOp .Mult) (rRep1 X.K) := by
  intro pins s σ H x y v u Q I rx ry h
  obtain ⟨l, k, v0, rfl, rfl, hT, h0, h1, q1, q2⟩ := h
  by_cases c2 : 2 ≤ k
  · refine op_repT pins s σ H (.ref l) (.int k) v u Q I rx ry ⟨l, k, [v0], rfl, rfl, hT, by simp, c2, h1, (by show 1 ≤ 1000; decide), fun p np => ?_⟩
    have e : (List.replicate k.toNat [v0]).flatten = List.replicate k.toNat v0 := by
      generalize k.toNat = m
      induction m with
      | zero => rfl
      | succ m ih => rw [List.replicate_succ, List.replicate_succ, List.flatten_cons, ih]; rfl
    rw [e]
    exact q2 (by omega) p np
  · cases rx
    obtain ⟨t, rfl⟩ := ry
    obtain ⟨its, r, ⟨⟨cls, dd, data, sl⟩, ho, hc, n, hd⟩, hs⟩ := I.tuple hT
    simp only at hc hd
    subst hc hd
    by_cases c1 : k = 1
    · subst c1
      refine wpAny_binaryOp_repeat_ref (T := "tuple") (U := "int") (by decide) ⟨_, ho, rfl⟩ (fun s' => typeIs_int s' 1 t) noFill_tuple_mul F.fills_int_mul F.slot_int_rmul repeat_tuple F.slot_int_index.lookup
        (call_meets F.slot_int_rmul (typeIs_int s 1 t) F.entry_int_rmul (F.args_int_rmul_2 _ _) (int_rmul_tuple 1 t l its.toArray n dd sl)
          ⟨ho, rfl, ⟨_, ho, rfl⟩, call_meets F.slot_tuple_mul ⟨_, ho, rfl⟩ F.entry_tuple_mul (F.args_tuple_mul_2 _ _) (tuple_mul1 l its.toArray n dd sl t) ⟨ho, ?_⟩⟩)
      exact ⟨.ref l, H, I, rfl, q1 rfl⟩
    · obtain rfl : k = 0 := by omega
      obtain ⟨u1, rfl, _⟩ := vals1 r
      refine wpAny_binaryOp_repeat_ref (T := "tuple") (U := "int") (by decide) ⟨_, ho, rfl⟩ (fun s' => typeIs_int s' 0 t) noFill_tuple_mul F.fills_int_mul F.slot_int_rmul repeat_tuple F.slot_int_index.lookup
        (call_meets F.slot_int_rmul (typeIs_int s 0 t) F.entry_int_rmul (F.args_int_rmul_2 _ _) (int_rmul_tuple 0 t l [u1].toArray n dd sl)
          ⟨ho, rfl, ⟨_, ho, rfl⟩, call_meets F.slot_tuple_mul ⟨_, ho, rfl⟩ F.entry_tuple_mul (F.args_tuple_mul_2 _ _) (tuple_mul0 l u1 n dd sl t) ⟨ho, ?_⟩⟩)
      refine ⟨.ref s.heap.objs.size, _, I.laid (t' := s.toks) (o := .tup []) (fun b ob q => Heap.get?_push_of_some _ q) (Nat.le_refl _) ?_, rfl, q2 (by decide) _ (I.hok.fresh (Nat.le_refl _))⟩
      exact ⟨Nat.zero_le _, [], .nil, IsTup.new _ _⟩
end
end RH
/-! W4: words for the walk. -/
namespace RH
open PySem PySem.Spec PyProof.Rows L2 RC
/-- a def of the text that keeps a promise, by its name -/
structure Dn (P : Program) (w : World) (K : PySem.W.Frag) (mg : Str → Option Value) (base : Heap) (x : Str) (k : Nat) (ps : List Str) (sp : Sp) : Prop where
  ex : ∃ f fd, FnOk P w K mg base CX0 k f fd ps sp ∧ mg x = some (.ref f) ∧ (PySem.W.keepIn K (.ref f) = true ∧ ∃ oc od osl, List.lookup f K = some { cls := oc, dict := od, data := .func fd, slots := osl }) ∧ L2.Binds K fd ps []
/-- a def as the top has left it -/
structure At (K : PySem.W.Frag) (mg : Str → Option Value) (x : Str) (st : Stmt) : Prop where
  ex : ∃ f fd, Fun K x x st f fd ∧ mg x = some (.ref f)
section
variable {X : Cx}
theorem pe_own {x : Str} {k : Nat} {ps : List Str} {sp : Sp} {p pos : Pos} {e : Expr} {es : List Expr} {t : TA} (d : Dn X.prog X.w X.K X.mg X.base x k ps sp) (hr : Room k X.A) (hg : Gl X x) (ha : PA X (e :: es) t) (hdb : (x == ("__debug__" : Str)) = false := by decide)
    (he : starEach (e :: es) X.env = (false, eval e X.env) :: starEach es X.env := by rfl) (hpl : (backTo pos (starEach es X.env)).any (·.1) = false := by rfl) : PE X (.Call (.Name x p) (e :: es) [] pos) (tCall sp [] E0 t) := by
  obtain ⟨f, fd, F, hm, hk, hb⟩ := d.ex
  exact pe_call F hr hg hm hk.1 hb .nil pass0 ha hdb he hpl
/-- the product of numbers of together less than so many bits -/
theorem op_mulB : OpR X (binaryOp .Mult) (rI IntMulOk fun i j => .int (i * j)) := opI fun _ _ _ _ _ _ _ hc q => mul_int q hc
/-- what a division of great numbers wants of the heap at the start -/
theorem op_fdivB (hN : X.base.NoSeer) (ht : X.prog.given.tree = none) (hd : X.A.depth + 100 < recursionLimit) {env : Env} {l : List Env} (hs : X.stack = env :: l) (h1 : env.scope.isGenerator = false) (h2 : env.scope.isCoroutine = false) (h3 : env.builtins = builtinsNs) (h4 : env.globals = mainGlobals) :
    OpR X (binaryOp .FloorDiv) (rI (fun _ j => j ≠ 0) fun i j => .int (i.fdiv j)) := by
  intro pins s σ H x y v u Q I rx ry h
  obtain ⟨i, j, rfl, rfl, hc, q⟩ := h
  obtain ⟨t, rfl⟩ := rx
  obtain ⟨t', rfl⟩ := ry
  refine floordiv_int hc ⟨.int _, H, I.tok _, ⟨_, rfl⟩, q⟩ (.inr ?_)
  exact PySem.PylongRoom.of I.nolimit hd (PySem.SeerAt.of (hN.keeps I.bk) ht (by rw [I.ok.frames, hs]) h1 h2 h3 h4)
end
/-- below 2 ^ a and 2 ^ b: the product can be held -/
theorem mulOk {i j : Int} {a b : Nat} (ha : i.natAbs < 2 ^ a) (hb : j.natAbs < 2 ^ b) (h : a + b ≤ 134217720) : IntMulOk i j := by
  have bd : ∀ (x : Int) (n : Nat), x.natAbs < 2 ^ n → Builtin.Int.intBits x ≤ n := fun x n hx => by
    unfold Builtin.Int.intBits
    split
    · exact Nat.zero_le _
    · rename_i hz
      have hz' : x.natAbs ≠ 0 := fun q => hz (by
        have : x = 0 := by omega
        rw [this]; rfl)
      have := (Nat.log2_lt hz').mpr hx
      omega
  have h1 := bd i a ha
  have h2 := bd j b hb
  have e : bitsLine = 134217728 := by decide
  unfold IntMulOk
  intro z
  rw [Bool.and_eq_true] at z
  have z2 := z.2
  unfold Builtin.Int.intTooBig at z2
  have z3 := of_decide_eq_true z2
  rw [e] at z3
  omega
/-! ### heaps -/
theorem Same.t {K : PySem.W.Frag} {H H' : Hp} {a : Addr} {xs : List V} (e : Same H H') (h : SqT K H a xs) : SqT K H' a xs := by
  rcases h with (h | ⟨o, h⟩) | h
  · exact .inl (.inl (e _ _ h))
  · exact .inl (.inr ⟨o, e _ _ h⟩)
  · exact .inr h
theorem same_new {H : Hp} {p : Addr} {o : HO} (h : H p = none) : Same H (upd H p o) := fun b x e => by
  rw [upd_ne (ne_of_none e h)]
  exact e
theorem SqT.of' {K : PySem.W.Frag} {H : Hp} {a : Addr} {xs : List V} (h : H a = some (.tup xs)) : SqT K H a xs := .inl (.inl h)
theorem SqL.of' {K : PySem.W.Frag} {H : Hp} {a : Addr} {xs : List V} (h : H a = some (.lst xs)) : SqL K H a xs := .inl (.inl h)
/-! ### polynomials as tuples -/
/-- the weights as a list -/
noncomputable def cf (f : P) : List Int := (List.range (P.len f)).map f.c
noncomputable def pl (f : P) : List V := (cf f).map V.int
theorem cf_len (f : P) : (cf f).length = P.len f := by unfold cf; rw [List.length_map, List.length_range]
theorem pl_len (f : P) : (pl f).length = P.len f := by unfold pl; rw [List.length_map, cf_len]
theorem cf_get {f : P} {k : Nat} (h : k < P.len f) : (cf f)[k]? = some (f.c k) := by
  unfold cf
  rw [List.getElem?_map, List.getElem?_range h]
  rfl
theorem pl_get {f : P} {k : Nat} (h : k < P.len f) : (pl f)[k]? = some (V.int (f.c k)) := by
  unfold pl
  rw [List.getElem?_map, cf_get h]
  rfl
/-- the polynomial of a list of weights -/
def ofL (l : List Int) : P := ⟨fun k => l.getD k 0, l.length, fun k h => by rw [List.getD_eq_getElem?_getD, List.getElem?_eq_none h]; rfl⟩
theorem c_ofL (l : List Int) (k : Nat) : (ofL l).c k = l.getD k 0 := rfl
theorem ofL_at {l : List Int} {k : Nat} {x : Int} (h : l[k]? = some x) : (ofL l).c k = x := by rw [c_ofL, List.getD_eq_getElem?_getD, h]; rfl
theorem ofL_Z (l : List Int) : P.Z (ofL l) l.length := fun k h => by rw [c_ofL, List.getD_eq_getElem?_getD, List.getElem?_eq_none h]; rfl
theorem ofL_cf (f : P) : ofL (cf f) = f := P.ext fun k => by
  by_cases h : k < P.len f
  · exact ofL_at (cf_get h)
  · rw [ofL_Z (cf f) k (by rw [cf_len]; omega), P.len_Z f k (by omega)]
theorem cf_ofL {l : List Int} (h : ∀ x, l.getLast? = some x → x ≠ 0) : cf (ofL l) = l := by
  have hl : P.len (ofL l) = l.length := by
    cases e : l.length with
    | zero =>
      have := P.len_min (ofL_Z l)
      omega
    | succ n =>
      have hn : n < l.length := by omega
      refine P.len_is (n := n) (by have := ofL_Z l; rw [e] at this; exact this) ?_
      rw [ofL_at (List.getElem?_eq_getElem hn)]
      refine h _ ?_
      rw [List.getLast?_eq_getElem?, e]
      exact List.getElem?_eq_getElem hn
  refine List.ext_getElem? fun k => ?_
  by_cases c : k < l.length
  · rw [cf_get (by omega), List.getElem?_eq_getElem c, ofL_at (List.getElem?_eq_getElem c)]
  · rw [List.getElem?_eq_none (by rw [cf_len]; omega), List.getElem?_eq_none (by omega)]
/-- at a stands the tuple of f -/
def AtP (K : PySem.W.Frag) (H : Hp) (a : Addr) (f : P) : Prop := SqT K H a (pl f)
theorem AtP.s {K : PySem.W.Frag} {H H' : Hp} {a : Addr} {f : P} (h : AtP K H a f) (e : Same H H') : AtP K H' a f := Same.t e h
/-! ### the text -/
def topS (i : Nat) : Stmt := PySem.Challenge.pw_rootcourt_k55_whole_no_part_splits.main.body.getD i (.Pass ⟨0, 0, 0, 0⟩)
end RH
/-! W5: loops and growing heaps, divisor, divisor_of. -/
namespace RH
open PySem PySem.Spec PyProof.Rows L2 RC
/-- what the module's names stand for -/
structure Txt (mg : Str → Option Value) : Prop where
  abs : mg "abs" = none
  all : mg "all" = none
  enumerate : mg "enumerate" = none
  int : mg "int" = none
  len : mg "len" = none
  list : mg "list" = none
  max : mg "max" = none
  min : mg "min" = none
  range : mg "range" = none
  reversed : mg "reversed" = none
  sorted : mg "sorted" = none
  tuple : mg "tuple" = none
/-! ### the rules with K by name -/
section
variable {X : Cx} {K : PySem.W.Frag}
theorem ix_tupK (h : X.K = K := by rfl) : IxR X (rIxT K) := by subst h; exact ix_tup
theorem ix_listK (h : X.K = K := by rfl) : IxR X (rIxL K) := by subst h; exact ix_list
theorem sl_listK (h : X.K = K := by rfl) : SlR X (rSlL K) := by subst h; exact sl_list
theorem sl_tupAK (h : X.K = K := by rfl) : SlR X (rSlA K) := by subst h; exact sl_tupA
theorem op_eqDK (hu : X.A.units + 64 < cLine) (h : X.K = K := by rfl) : OpR X (compareOp .Eq) (rEqD K) := by subst h; exact op_eqD hu
theorem op_neDK (hu : X.A.units + 64 < cLine) (h : X.K = K := by rfl) : OpR X (compareOp .NotEq) (rNeD K) := by subst h; exact op_neD hu
theorem op_catAK (h : X.K = K := by rfl) : OpR X (binaryOp .Add) (rCatA K) := by subst h; exact op_catA
theorem op_rep1K (h : X.K = K := by rfl) : OpR X (binaryOp .Mult) (rRep1 K) := by subst h; exact op_rep1
theorem op_notInK (h : X.K = K := by rfl) : OpR X (compareOp .NotIn) (rIn K true) := by subst h; exact op_notIn_seq
def rLen (K : PySem.W.Frag) : List V → Hp → VK → Prop := fun xs H Q => ∃ p ys, xs = [.ref p] ∧ (SqL K H p ys ∨ SqT K H p ys) ∧ Q (.int (ys.length : Nat)) H
theorem call_lenK (h : X.K = K := by rfl) : CallR X (.builtin "len") (rLen K) := by subst h; exact call_len_seq
def rTupOf (K : PySem.W.Frag) : List V → Hp → VK → Prop := fun xs H Q => ∃ p ys, xs = [.ref p] ∧ ((SqL K H p ys ∧ ∀ l, H l = none → Q (.ref l) (upd H l (.tup ys))) ∨ (SqT K H p ys ∧ Q (.ref p) H))
theorem call_tupK (h : X.K = K := by rfl) : CallR X (.type "tuple") (rTupOf K) := by subst h; exact call_tuple_of
def rLstOf (K : PySem.W.Frag) : List V → Hp → VK → Prop := fun xs H Q => ∃ p ys, xs = [.ref p] ∧ (SqL K H p ys ∨ SqT K H p ys) ∧ ∀ l, H l = none → Q (.ref l) (upd H l (.lst ys))
theorem call_lstK (h : X.K = K := by rfl) : CallR X (.type "list") (rLstOf K) := by subst h; exact call_list_of
theorem pg_tupK {pos : Pos} {es : List Expr} {k : Nat} {t : TGs} {n : Nat} (hc : X.calm = true) (ht : PGs X es t) (h : X.K = K := by rfl) (hn : (assignEach es X.env).length = n := by rfl) (hs : List.findIdx? (fun x => x.fst) (assignEach es X.env) = none := by rfl) : PG X (.Tuple es k pos) (gTup K n t) := by subst h; exact pg_tup hc ht hn hs
theorem pi_listK {tg l : Expr} {tl : TE} (hl : PE X l tl) (h : X.K = K := by rfl) : PI X tg l (iList K tl) := by subst h; exact pi_list hl
theorem pi_tupK {tg l : Expr} {tl : TE} (hl : PE X l tl) (h : X.K = K := by rfl) : PI X tg l (iTup K tl) := by subst h; exact pi_tup hl
theorem pi_enumK {e : Expr} {ta : TA} {p pos tpos : Pos} {elts : List Expr} {kk : Nat} (hg : Gl X "enumerate") (hm : X.mg "enumerate" = none) (ha : PA X [e] ta) (h : X.K = K := by rfl) (hs : starEach [e] X.env = [(false, eval e X.env)] := by rfl) : PI X (.Tuple elts kk tpos) (.Call (.Name "enumerate" p) [e] [] pos) (iEnum K ta) := by subst h; exact pi_enum hg hm ha hs
theorem pi_enumTK {e : Expr} {ta : TA} {p pos tpos : Pos} {elts : List Expr} {kk : Nat} (hg : Gl X "enumerate") (hm : X.mg "enumerate" = none) (ha : PA X [e] ta) (h : X.K = K := by rfl) (hs : starEach [e] X.env = [(false, eval e X.env)] := by rfl) : PI X (.Tuple elts kk tpos) (.Call (.Name "enumerate" p) [e] [] pos) (iEnumT K ta) := by subst h; exact pi_enumT hg hm ha hs
theorem itT {A : Prop} (h : A) : if true = true then A else True := h
end
/-- what divisions want -/
structure Big (Pg : Program) (base : Heap) : Prop where
  ns : base.NoSeer
  tr : Pg.given.tree = none
section
variable {Pg : Program} {w : World} {K : PySem.W.Frag} {mg : Str → Option Value} {base : Heap}
/-- THE RULE for a def of this text -/
theorem mkDn {x : Str} {st : Stmt} {N ps : List Str} {k : Nat} {sp : Sp} (A : At K mg x st) (S : FnScope N ps (defScope st))
    (hb : ∀ (kV doc pm : Value) (an : Option Addr) (cdv ct : Value) (us : List Value), us.length = ps.length → bindArgs (PySem.W.fnOf x x (defArgs st) (defBody st) (defScope st) .none kV doc pm an cdv ct) ⟨us, []⟩ = pure (ps.zip us))
    (len : ∀ vs H Q E, sp vs H Q E → vs.length = ps.length)
    (body : ∀ (f : Addr) (cdv : Value) (A : Around) (outer : List Env) (s : Shared) (H : Hp) (vs : List V) (Q : VK) (E : XK), Room k (A.deeper (envOfC x (defScope st) s.heap.objs.size f cdv)) → sp vs H Q E →
      ∃ t, PSs (cxOf CX0 Pg w K mg base N x (defScope st) f cdv A outer s H E).nox (defBody st) t ∧ t { nx := fun _ H' => Q .non H', rt := Q } (start N vs) H) : Dn Pg w K mg base x (k + 1) ps sp := by
  obtain ⟨f, fd, F, hm⟩ := A.ex
  exact ⟨f, fd, F.ok S len fun cdv A outer s H vs Q E hr h => body f cdv A outer s H vs Q E hr h, hm, ⟨F.kp, let ⟨oc, od, _, _, _, _, _, _, osl, _, e, _⟩ := F.ex; ⟨oc, od, osl, e⟩⟩, F.binds hb⟩
/-! ### loops -/
theorem for_at {J : It} (n : Nat) {g : TG} {tb : TS} {D : Ends} {σ : L2.St} {H : Hp} (Pv : Nat → L2.St → Hp → Prop) (h0 : Pv 0 σ H)
    (hs : ∀ i σ H, i < n → Pv i σ H → J.go i H ∧ ∀ x H', J.yld i H x H' → g x σ H' fun σ2 H2 => tb { D with nx := Pv (i + 1), ct := Pv (i + 1), bk := D.nx } σ2 H2)
    (hd : ∀ σ H, Pv n σ H → J.stop n H ∧ D.nx σ H) :
    ∃ W : Nat → Nat → L2.St → Hp → Prop, (∃ m, W 0 m σ H) ∧ ∀ i m σ H, W i m σ H → (J.stop i H ∧ D.nx σ H) ∨ (J.go i H ∧ ∃ N : L2.St → Hp → Prop, (∀ σ' H', N σ' H' → ∃ m', m' < m ∧ W (i + 1) m' σ' H') ∧ ∀ x H', J.yld i H x H' → g x σ H' fun σ2 H2 => tb { nx := N, rt := D.rt, bk := D.nx, ct := N } σ2 H2) := by
  refine ⟨fun i m σ H => i ≤ n ∧ m = n - i ∧ Pv i σ H, ⟨n, Nat.zero_le _, by omega, h0⟩, fun i m σ H ⟨hi, hm, hp⟩ => ?_⟩
  by_cases e : i = n
  · subst e
    exact .inl (hd σ H hp)
  · have hi' : i < n := by omega
    have q := hs i σ H hi' hp
    exact .inr ⟨q.1, Pv (i + 1), fun σ' H' h => ⟨n - (i + 1), by omega, by omega, rfl, h⟩, q.2⟩
theorem lc_at {J : It} (n : Nat) {g : TG} {tt : TT} {te : TE} {vs : List Nat} {σ : L2.St} {H1 : Hp} {D : Addr} {Qd : Hp → Prop} (Pv : Nat → Hp → Prop) (h0 : Pv 0 (upd H1 D (.lst [])))
    (hs : ∀ i H, i < n → Pv i H → J.go i H ∧ ∀ x H', J.yld i H x H' → g x (wipe σ vs) H' fun σ2 H2 => wipe σ2 vs = wipe σ vs ∧ tt σ2 H2 fun b H3 => if b = true then te σ2 H3 fun y H4 => ∃ acc, H4 D = some (.lst acc) ∧ acc.length < sizeLine ∧ Pv (i + 1) (upd H4 D (.lst (acc ++ [y]))) else Pv (i + 1) H3)
    (hd : ∀ H, Pv n H → J.stop n H ∧ Qd H) :
    ∃ W : Nat → Nat → Hp → Prop, (∃ m, W 0 m (upd H1 D (.lst []))) ∧ ∀ i m H, W i m H → (J.stop i H ∧ Qd H) ∨ (J.go i H ∧ ∃ Nx : Hp → Prop, (∀ H', Nx H' → ∃ m', m' < m ∧ W (i + 1) m' H') ∧ ∀ x H', J.yld i H x H' → g x (wipe σ vs) H' fun σ2 H2 => wipe σ2 vs = wipe σ vs ∧ tt σ2 H2 fun b H3 => if b = true then te σ2 H3 fun y H4 => ∃ acc, H4 D = some (.lst acc) ∧ acc.length < sizeLine ∧ Nx (upd H4 D (.lst (acc ++ [y]))) else Nx H3) := by
  refine ⟨fun i m H => i ≤ n ∧ m = n - i ∧ Pv i H, ⟨n, Nat.zero_le _, by omega, h0⟩, fun i m H ⟨hi, hm, hp⟩ => ?_⟩
  by_cases e : i = n
  · subst e
    exact .inl (hd H hp)
  · have hi' : i < n := by omega
    have q := hs i H hi' hp
    exact .inr ⟨q.1, Pv (i + 1), fun H' h => ⟨n - (i + 1), by omega, by omega, rfl, h⟩, q.2⟩
/-! ### heaps that grow -/
theorem _root_.L2.Same.put {H H' : Hp} {D : Addr} {o : HO} (h : Same H H') (n : H D = none) : Same H (upd H' D o) := fun b x e => by
  rw [upd_ne (ne_of_none e n)]
  exact h _ _ e
/-- since H1 only new things, and a list of one's own at D -/
structure Grow (H1 : Hp) (D : Addr) (l : List V) (H : Hp) : Prop where
  same : Same H1 H
  d : H D = some (.lst l)
theorem Grow.new {H1 : Hp} {D : Addr} {l : List V} (n : H1 D = none) : Grow H1 D l (upd H1 D (.lst l)) := ⟨same_new n, upd_same ..⟩
theorem Grow.to {H1 : Hp} {D : Addr} {l : List V} {H H' : Hp} (g : Grow H1 D l H) (e : Same H H') : Grow H1 D l H' := ⟨g.same.trans e, e _ _ g.d⟩
theorem Grow.set {H1 : Hp} {D : Addr} {l l' : List V} {H : Hp} (g : Grow H1 D l H) (n : H1 D = none) : Grow H1 D l' (upd H D (.lst l')) := ⟨g.same.put n, upd_same ..⟩
theorem Grow.push {H1 : Hp} {D : Addr} {l : List V} {H H' : Hp} {y : V} {R : Hp → Prop} (g : Grow H1 D l H) (n : H1 D = none) (e : Same H H') (hl : l.length < 1000000) (q : Grow H1 D (l ++ [y]) (upd H' D (.lst (l ++ [y]))) → R (upd H' D (.lst (l ++ [y])))) :
    ∃ acc, H' D = some (.lst acc) ∧ acc.length < sizeLine ∧ R (upd H' D (.lst (acc ++ [y]))) :=
  ⟨l, e _ _ g.d, by have : sizeLine = 16777216 := by decide
                    omega, q ((g.to e).set n)⟩
/-- the numbers f 0 .. f (n - 1) -/
def tab (f : Nat → Int) (n : Nat) : List V := (List.range n).map fun k => V.int (f k)
theorem tab_succ (f : Nat → Int) (n : Nat) : tab f (n + 1) = tab f n ++ [V.int (f n)] := by unfold tab; rw [List.range_succ, List.map_append]; rfl
theorem tab_len (f : Nat → Int) (n : Nat) : (tab f n).length = n := by unfold tab; rw [List.length_map, List.length_range]
theorem tab_eq (f : Nat → Int) (n : Nat) : tab f n = ((List.range n).map f).map V.int := by unfold tab; rw [List.map_map]; rfl
theorem tab_get {f : Nat → Int} {n k : Nat} (h : k < n) : (tab f n)[k]? = some (V.int (f k)) := by unfold tab; rw [List.getElem?_map, List.getElem?_range h]; rfl
theorem pl_tab (f : P) : pl f = tab f.c (P.len f) := by rw [tab_eq]; rfl


theorem dp100 {k : Nat} {A : Around} (r : Room k A) (h : 32 ≤ k := by decide) : A.depth + 100 < recursionLimit := by
  have := r.dp
  omega
/-! ### promises by the number of arguments -/
def mk1 (R : V → Hp → VK → Prop) : Sp := fun vs H Q _ => ∃ x, vs = [x] ∧ R x H Q
def mk2 (R : V → V → Hp → VK → Prop) : Sp := fun vs H Q _ => ∃ x y, vs = [x, y] ∧ R x y H Q
def mk3 (R : V → V → V → Hp → VK → Prop) : Sp := fun vs H Q _ => ∃ x y z, vs = [x, y, z] ∧ R x y z H Q
def mk4 (R : V → V → V → V → Hp → VK → Prop) : Sp := fun vs H Q _ => ∃ x y z u, vs = [x, y, z, u] ∧ R x y z u H Q
/-- gives a new tuple of f -/
def giveP (K : PySem.W.Frag) (f : P) (H : Hp) (Q : VK) : Prop := ∀ H' p, Same H H' → AtP K H' p f → Q (.ref p) H'
/-! ### divisor -/
def sp_divisor (K : PySem.W.Frag) : Sp := mk2 fun x y H Q => ∃ a b : Int, x = .int a ∧ y = .int b ∧ Q (.int (Int.gcd a b : Nat)) H
theorem gcd_step {a b : Int} (ha : 0 ≤ a) (hb : 0 < b) : Int.gcd b (a.fmod b) = Int.gcd a b := by
  obtain ⟨m, rfl⟩ := Int.eq_ofNat_of_zero_le ha
  obtain ⟨n, rfl⟩ := Int.eq_ofNat_of_zero_le (Int.le_of_lt hb)
  rw [Int.fmod_eq_emod_of_nonneg _ (Int.natCast_nonneg n), ← Int.natCast_emod, Int.gcd_natCast_natCast, Int.gcd_natCast_natCast, Nat.gcd_comm n, ← Nat.gcd_rec, Nat.gcd_comm]
abbrev s_divisor : Stmt := topS 6
abbrev N_divisor : List Str := ["one", "other"]
theorem sc_divisor : FnScope N_divisor ["one", "other"] (defScope s_divisor) := ⟨rfl, rfl, rfl, by decide +kernel, rfl, by decide +kernel, by decide +kernel⟩
theorem ok_divisor (A : At K mg "divisor" s_divisor) (T : Txt mg) : Dn Pg w K mg base "divisor" 41 ["one", "other"] (sp_divisor K) := by
  refine mkDn A sc_divisor (fun _ _ _ _ _ _ us hl => match us, hl with | [_, _], _ => rfl) (fun vs H Q E ⟨_, _, e, _⟩ => by rw [e]; rfl) fun f cdv A outer s H vs Q E hr h => ?_
  refine ⟨_, (pss_cons (ps_set (i := 0) sc_divisor.nd rfl (.inl rfl) (pe_callB call_abs (by rfl) T.abs (by decide +kernel) (pa_cons (pv 0) pa_nil)))
      (pss_cons (ps_set (i := 1) sc_divisor.nd rfl (.inl rfl) (pe_callB call_abs (by rfl) T.abs (by decide +kernel) (pa_cons (pv 1) pa_nil)))
      (pss_cons (ps_while PassesOwn.never (pt_cmpR op_gt (pv 1) pe_int (nomark _)) (pss_one (ps_par (i := 0) (j := 1) (by rfl) sc_divisor.nd rfl rfl (by decide) rfl rfl (pa_cons (pv 1) (pa_cons (pe_op op_modN (pv 0) (pv 1)) pa_nil)) (by rfl))))
      (pss_one (ps_ret (pv 0)))))), ?_⟩
  obtain ⟨v0, v1, rfl, h⟩ := h
  obtain ⟨a, b, rfl, rfl, q⟩ := h
  refine ⟨_, rfl, a, rfl, _, rfl, b, rfl, fun m σ H' => H' = H ∧ ∃ x y : Int, σ = [some (.int x), some (.int y)] ∧ 0 ≤ x ∧ 0 ≤ y ∧ Int.gcd x y = Int.gcd a b ∧ m = y.toNat, ⟨_, rfl, _, _, rfl, ?_, ?_, ?_, rfl⟩, ?_⟩
  · split <;> omega
  · split <;> omega
  · have h1 : ∀ z : Int, (if z < 0 then -z else z).natAbs = z.natAbs := fun z => by split <;> omega
    show Nat.gcd _ _ = Nat.gcd _ _
    rw [h1, h1]
  · rintro m σ H' ⟨rfl, x, y, rfl, hx, hy, hg, rfl⟩
    refine ⟨_, rfl, _, _, rfl, rfl, _, rfl, ite2 (fun c => ?_) fun c => ?_⟩
    · have c := of_decide_eq_true c
      refine ⟨_, fun _ _ h => h, _, rfl, _, rfl, _, rfl, _, _, rfl, rfl, by omega, _, _, rfl, ⟨(x.fmod y).toNat, ?_, rfl, _, _, rfl, hy, Int.fmod_nonneg hx hy, ?_, rfl⟩⟩
      · have := Int.fmod_lt_of_pos x c
        omega
      · rw [gcd_step hx c, hg]
    · have c : ¬ y > 0 := fun z => c (decide_eq_true z)
      have : y = 0 := by omega
      subst this
      refine ⟨_, rfl, ?_⟩
      have e : (Int.gcd a b : Int) = x := by rw [← hg, Int.gcd_zero_right]; omega
      rw [e] at q
      exact q
/-! ### divisor_of -/
/-- the common divisor of a list -/
def gl (ns : List Int) : Int := ns.foldl (fun d x => (Int.gcd d x : Nat)) 0
theorem gl_take {ns : List Int} {i : Nat} {x : Int} (h : ns[i]? = some x) : gl (ns.take (i + 1)) = (Int.gcd (gl (ns.take i)) x : Nat) := by
  unfold gl
  rw [List.take_succ, h, List.foldl_append]
  rfl
def sp_divisor_ofT (K : PySem.W.Frag) : Sp := mk1 fun x H Q => ∃ (a : Addr) (ns : List Int), x = .ref a ∧ SqT K H a (ns.map V.int) ∧ Q (.int (gl ns)) H
def sp_divisor_ofL (K : PySem.W.Frag) : Sp := mk1 fun x H Q => ∃ (a : Addr) (ns : List Int), x = .ref a ∧ SqL K H a (ns.map V.int) ∧ Q (.int (gl ns)) H
theorem mapI_get {ns : List Int} {i : Nat} {v : V} (h : (ns.map V.int)[i]? = some v) : ∃ x, ns[i]? = some x ∧ v = .int x := by
  rw [List.getElem?_map] at h
  cases e : ns[i]? with
  | none => rw [e] at h; cases h
  | some x => rw [e] at h; cases h; exact ⟨x, rfl, rfl⟩
theorem mapI_len (ns : List Int) : (ns.map V.int).length = ns.length := List.length_map ..
abbrev s_divisor_of : Stmt := topS 7
abbrev N_divisor_of : List Str := ["some", "found", "one"]
theorem sc_divisor_of : FnScope N_divisor_of ["some"] (defScope s_divisor_of) := ⟨rfl, rfl, rfl, by decide +kernel, rfl, by decide +kernel, by decide +kernel⟩
theorem ok_divisor_ofT (A : At K mg "divisor_of" s_divisor_of) (T : Txt mg) (d_divisor : Dn Pg w K mg base "divisor" 41 ["one", "other"] (sp_divisor K)) : Dn Pg w K mg base "divisor_of" 42 ["some"] (sp_divisor_ofT K) := by
  refine mkDn A sc_divisor_of (fun _ _ _ _ _ _ us hl => match us, hl with | [_], _ => rfl) (fun vs H Q E ⟨_, e, _⟩ => by rw [e]; rfl) fun f cdv A outer s H vs Q E hr h => ?_
  refine ⟨_, (pss_cons (ps_set (i := 1) sc_divisor_of.nd rfl (.inl rfl) pe_int)
      (pss_cons (ps_for PassesOwn.never rfl (pi_tupK (K := K) (pv 0)) (pg_name (i := 2) sc_divisor_of.nd rfl (.inl rfl)) (pss_one (ps_set (i := 1) sc_divisor_of.nd rfl (.inl rfl) (pe_own d_divisor (hr.mono (by decide)) (by rfl) (pa_cons (pv 1) (pa_cons (pv 2) pa_nil))))))
      (pss_one (ps_ret (pv 1))))), ?_⟩
  obtain ⟨v0, rfl, h⟩ := h
  obtain ⟨a, ns, rfl, hs, q⟩ := h
  refine ⟨_, rfl, a, rfl, ⟨_, hs⟩, for_tup (xs := ns.map V.int) (fun i σ H' => H' = H ∧ ∃ u, σ = [some (.ref a), some (.int (gl (ns.take i))), u]) ⟨rfl, _, rfl⟩ (fun i σ H' _ ⟨e, _⟩ => by rw [e]; exact hs) ?_ ?_⟩
  · rintro i v σ H' hv ⟨rfl, u, rfl⟩
    obtain ⟨x, hx, rfl⟩ := mapI_get hv
    refine ⟨_, rfl, _, rfl, _, _, rfl, _, _, rfl, rfl, rfl, some (.int x), ?_⟩
    rw [gl_take hx]
    rfl
  · rintro σ H' ⟨rfl, u, rfl⟩
    refine ⟨_, rfl, ?_⟩
    rw [mapI_len, List.take_length]
    exact q
theorem ok_divisor_ofL (A : At K mg "divisor_of" s_divisor_of) (T : Txt mg) (d_divisor : Dn Pg w K mg base "divisor" 41 ["one", "other"] (sp_divisor K)) : Dn Pg w K mg base "divisor_of" 42 ["some"] (sp_divisor_ofL K) := by
  refine mkDn A sc_divisor_of (fun _ _ _ _ _ _ us hl => match us, hl with | [_], _ => rfl) (fun vs H Q E ⟨_, e, _⟩ => by rw [e]; rfl) fun f cdv A outer s H vs Q E hr h => ?_
  refine ⟨_, (pss_cons (ps_set (i := 1) sc_divisor_of.nd rfl (.inl rfl) pe_int)
      (pss_cons (ps_for PassesOwn.never rfl (pi_listK (K := K) (pv 0)) (pg_name (i := 2) sc_divisor_of.nd rfl (.inl rfl)) (pss_one (ps_set (i := 1) sc_divisor_of.nd rfl (.inl rfl) (pe_own d_divisor (hr.mono (by decide)) (by rfl) (pa_cons (pv 1) (pa_cons (pv 2) pa_nil))))))
      (pss_one (ps_ret (pv 1))))), ?_⟩
  obtain ⟨v0, rfl, h⟩ := h
  obtain ⟨a, ns, rfl, hs, q⟩ := h
  refine ⟨_, rfl, a, rfl, ⟨_, hs⟩, for_list (xs := ns.map V.int) (fun i σ H' => H' = H ∧ ∃ u, σ = [some (.ref a), some (.int (gl (ns.take i))), u]) ⟨rfl, _, rfl⟩ (fun i σ H' _ ⟨e, _⟩ => by rw [e]; exact hs) ?_ ?_⟩
  · rintro i v σ H' hv ⟨rfl, u, rfl⟩
    obtain ⟨x, hx, rfl⟩ := mapI_get hv
    refine ⟨_, rfl, _, rfl, _, _, rfl, _, _, rfl, rfl, rfl, some (.int x), ?_⟩
    rw [gl_take hx]
    rfl
  · rintro σ H' ⟨rfl, u, rfl⟩
    refine ⟨_, rfl, ?_⟩
    rw [mapI_len, List.take_length]
    exact q
/-! ### poly, degree, weight_of -/
theorem lst_at {H : Hp} {a : Addr} {xs : List V} (h : H a = some (.lst xs)) : SqL K H a xs := SqL.of' h
theorem tup_at {H : Hp} {a : Addr} {xs : List V} (h : H a = some (.tup xs)) : SqT K H a xs := SqT.of' h
theorem atI_ok {xs : List V} {i : Int} {v : V} (h : 0 ≤ i) (e : xs[i.toNat]? = some v) : atI xs i = some v := by
  have hl : i.toNat < xs.length := (List.getElem?_eq_some_iff.mp e).1
  unfold atI ixN
  rw [if_pos h, if_pos (by omega)]
  exact e
theorem atI_neg {xs : List V} {v : V} (e : xs[xs.length - 1]? = some v) : atI xs (-1) = some v := by
  have hl : xs.length - 1 < xs.length := (List.getElem?_eq_some_iff.mp e).1
  unfold atI ixN
  rw [if_neg (by omega), if_pos (by omega)]
  show xs[((-1 : Int) + xs.length).toNat]? = some v
  have : ((-1 : Int) + xs.length).toNat = xs.length - 1 := by omega
  rw [this]
  exact e
theorem getD_get {ns : List Int} {k : Nat} (h : k < ns.length) : ns[k]? = some (ns.getD k 0) := by
  rw [List.getD_eq_getElem?_getD, List.getElem?_eq_getElem h]
  rfl
theorem ofL_take {ns : List Int} {m : Nat} (h : ∀ k, m ≤ k → ns.getD k 0 = 0) : ofL (ns.take m) = ofL ns := P.ext fun k => by
  rw [c_ofL, c_ofL]
  by_cases c : k < m
  · rw [List.getD_eq_getElem?_getD, List.getD_eq_getElem?_getD, List.getElem?_take, if_pos c]
  · rw [h k (by omega), List.getD_eq_getElem?_getD, List.getElem?_take, if_neg c]
    rfl
theorem cut_to {xs : List Int} {m : Nat} (h : m ≤ xs.length) : cutV (xs.map V.int) none (some (m : Int)) = (xs.map V.int).take m := by
  unfold cutV
  have e0 : HT.sIx (xs.map V.int).length 0 none = 0 := rfl
  have e1 : HT.sIx (xs.map V.int).length (xs.map V.int).length (some (m : Int)) = m := by
    unfold HT.sIx
    show (if (m : Int) < 0 then _ else _) = _
    rw [if_neg (by omega), List.length_map]
    omega
  rw [e0, e1]
  rfl
def sp_poly (K : PySem.W.Frag) : Sp := mk1 fun x H Q => ∃ (a : Addr) (ns : List Int), x = .ref a ∧ SqL K H a (ns.map V.int) ∧ giveP K (ofL ns) H Q
abbrev s_poly : Stmt := topS 9
abbrev N_poly : List Str := ["weights", "many"]
theorem sc_poly : FnScope N_poly ["weights"] (defScope s_poly) := ⟨rfl, rfl, rfl, by decide +kernel, rfl, by decide +kernel, by decide +kernel⟩
theorem ok_poly (A : At K mg "poly" s_poly) (T : Txt mg) : Dn Pg w K mg base "poly" 41 ["weights"] (sp_poly K) := by
  refine mkDn A sc_poly (fun _ _ _ _ _ _ us hl => match us, hl with | [_], _ => rfl) (fun vs H Q E ⟨_, e, _⟩ => by rw [e]; rfl) fun f cdv A outer s H vs Q E hr h => ?_
  refine ⟨_, (pss_cons (ps_set (i := 1) sc_poly.nd rfl (.inl rfl) (pe_callB (call_lenK (K := K)) (by rfl) T.len PySem.boot_len (pa_cons (pv 0) pa_nil)))
      (pss_cons (ps_while PassesOwn.never (PW.pt (pw_and (pt_cmpR op_gt (pv 1) pe_int (nomark _)) (pw_and1 (pt_cmpR op_eq (pe_ix (ix_listK (K := K)) (pv 0) (pe_op op_sub (pv 1) pe_int) (fun _ _ => rfl)) pe_int (nomark _))))) (pss_one (ps_set (i := 1) sc_poly.nd rfl (.inl rfl) (pe_op op_sub (pv 1) pe_int))))
      (pss_one (ps_ret (pe_callTy (call_tupK (K := K)) (by rfl) T.tuple (by decide +kernel) (pa_cons (pe_slice (sl_listK (K := K)) (pv 0) po_none (po_some (pv 1))) pa_nil)))))), ?_⟩
  obtain ⟨v0, rfl, h⟩ := h
  obtain ⟨a, ns, rfl, hs, q⟩ := h
  refine ⟨_, rfl, a, _, rfl, .inl hs, ?_⟩
  rw [mapI_len]
  refine ⟨fun m σ H' => H' = H ∧ σ = [some (.ref a), some (.int (m : Nat))] ∧ m ≤ ns.length ∧ ∀ k, m ≤ k → ns.getD k 0 = 0, ⟨_, rfl, rfl, Nat.le_refl _, ?_⟩, ?_⟩
  · intro k hk
    rw [List.getD_eq_getElem?_getD, List.getElem?_eq_none hk]
    rfl
  · rintro m σ H' ⟨rfl, rfl, hm, hz⟩
    refine ⟨_, rfl, _, _, rfl, rfl, _, rfl, ite2 (fun c => ?_) fun c => ?_⟩
    · have c := of_decide_eq_true c
      have c' : m - 1 < ns.length := by omega
      have eg := getD_get c'
      refine ⟨_, rfl, _, rfl, _, _, rfl, rfl, a, _, _, V.int (ns.getD (m - 1) 0), rfl, rfl, hs, atI_ok (by omega) ?_, rfl, _, rfl, ite2 (fun c2 => ?_) fun c2 => ?_⟩
      · have e : ((m : Int) - 1).toNat = m - 1 := by omega
        rw [e, List.getElem?_map, eg]
        rfl
      · have c2 : ns.getD (m - 1) 0 = 0 := by
          have := of_decide_eq_true c2
          injection this
        refine ⟨_, fun _ _ h => h, _, rfl, _, _, rfl, rfl, m - 1, by omega, rfl, ?_, by omega, fun k hk => ?_⟩
        · rw [show ((m - 1 : Nat) : Int) = (m : Int) - 1 by omega]
          rfl
        · by_cases z : k = m - 1
          · rw [z]; exact c2
          · exact hz k (by omega)
      · have c2 : ns.getD (m - 1) 0 ≠ 0 := fun z => c2 (decide_eq_true (by rw [z]))
        refine ⟨_, rfl, _, rfl, _, rfl, a, _, rfl, hs, fun p hp => ⟨p, _, rfl, .inl ⟨lst_at (upd_same ..), fun l hl => ?_⟩⟩⟩
        refine q _ _ ((same_new hp).trans (same_new hl)) (tup_at ?_)
        rw [upd_same, cut_to hm]
        have e : (ns.take m) = cf (ofL ns) := by
          rw [← ofL_take hz]
          refine (cf_ofL fun x hx => ?_).symm
          rw [List.getLast?_eq_getElem?, List.length_take, Nat.min_eq_left hm, List.getElem?_take, if_pos (by omega), eg] at hx
          injection hx with hx
          rw [← hx]
          exact c2
        rw [← List.map_take, e]
        rfl
    · have c : m = 0 := by
        have : ¬ (0 : Int) < (m : Nat) := fun z => c (decide_eq_true z)
        omega
      subst c
      refine iteF ⟨_, rfl, _, rfl, _, rfl, a, _, rfl, hs, fun p hp => ⟨p, _, rfl, .inl ⟨lst_at (upd_same ..), fun l hl => ?_⟩⟩⟩
      refine q _ _ ((same_new hp).trans (same_new hl)) (tup_at ?_)
      rw [upd_same, cut_to hm]
      have e : (ns.take 0) = cf (ofL ns) := by
        rw [← ofL_take hz]
        exact (cf_ofL fun x hx => by cases hx).symm
      rw [← List.map_take, e]
      rfl
def sp_degree (K : PySem.W.Frag) : Sp := mk1 fun x H Q => ∃ (a : Addr) (f : P), x = .ref a ∧ AtP K H a f ∧ Q (.int ((P.len f : Int) - 1)) H
abbrev s_degree : Stmt := topS 10
abbrev N_degree : List Str := ["one"]
theorem sc_degree : FnScope N_degree ["one"] (defScope s_degree) := ⟨rfl, rfl, rfl, by decide +kernel, rfl, by decide +kernel, by decide +kernel⟩
theorem ok_degree (A : At K mg "degree" s_degree) (T : Txt mg) : Dn Pg w K mg base "degree" 41 ["one"] (sp_degree K) := by
  refine mkDn A sc_degree (fun _ _ _ _ _ _ us hl => match us, hl with | [_], _ => rfl) (fun vs H Q E ⟨_, e, _⟩ => by rw [e]; rfl) fun f cdv A outer s H vs Q E hr h => ?_
  refine ⟨_, (pss_one (ps_ret (pe_op op_sub (pe_callB (call_lenK (K := K)) (by rfl) T.len PySem.boot_len (pa_cons (pv 0) pa_nil)) pe_int))), ?_⟩
  obtain ⟨v0, rfl, h⟩ := h
  obtain ⟨a, f, rfl, hs, q⟩ := h
  refine ⟨_, rfl, a, _, rfl, .inr hs, _, _, rfl, rfl, ?_⟩
  rw [pl_len]
  exact q
def sp_weight_of (K : PySem.W.Frag) : Sp := mk2 fun x y H Q => ∃ (a : Addr) (f : P) (k : Nat), x = .ref a ∧ y = .int (k : Nat) ∧ AtP K H a f ∧ Q (.int (f.c k)) H
abbrev s_weight_of : Stmt := topS 11
abbrev N_weight_of : List Str := ["one", "place"]
theorem sc_weight_of : FnScope N_weight_of ["one", "place"] (defScope s_weight_of) := ⟨rfl, rfl, rfl, by decide +kernel, rfl, by decide +kernel, by decide +kernel⟩
theorem ok_weight_of (A : At K mg "weight_of" s_weight_of) (T : Txt mg) : Dn Pg w K mg base "weight_of" 41 ["one", "place"] (sp_weight_of K) := by
  refine mkDn A sc_weight_of (fun _ _ _ _ _ _ us hl => match us, hl with | [_, _], _ => rfl) (fun vs H Q E ⟨_, _, e, _⟩ => by rw [e]; rfl) fun f cdv A outer s H vs Q E hr h => ?_
  refine ⟨_, (pss_cons (ps_if (pt_cmpR op_lt (pv 1) (pe_callB (call_lenK (K := K)) (by rfl) T.len PySem.boot_len (pa_cons (pv 0) pa_nil)) (nomark _)) (pss_one (ps_ret (pe_ix (ix_tupK (K := K)) (pv 0) (pv 1) (fun _ _ => rfl)))) pss_nil)
      (pss_one (ps_ret pe_int))), ?_⟩
  obtain ⟨v0, v1, rfl, h⟩ := h
  obtain ⟨a, f, k, rfl, rfl, hs, q⟩ := h
  refine ⟨_, rfl, _, rfl, a, _, rfl, .inr hs, _, _, rfl, rfl, _, rfl, ite2 (fun c => ?_) fun c => ?_⟩
  · have c := of_decide_eq_true c
    rw [pl_len] at c
    refine ⟨_, rfl, _, rfl, a, _, _, _, rfl, rfl, hs, atI_ok (by omega) (pl_get (k := k) (by omega)), q⟩
  · have c : ¬ (k : Int) < (pl f).length := fun z => c (decide_eq_true z)
    rw [pl_len] at c
    rw [P.len_Z f k (by omega)] at q
    exact q
end
end RH
/-! W6: sums, multiples, products. -/
namespace RH
open PySem PySem.Spec PyProof.Rows L2 RC
section
variable {Pg : Program} {w : World} {K : PySem.W.Frag} {mg : Str → Option Value} {base : Heap}
theorem giveP.to {f : P} {H H' : Hp} {Q : VK} (h : giveP K f H Q) (e : Same H H') : giveP K f H' Q := fun H2 p s t => h H2 p (e.trans s) t
theorem giveP.eq {f g : P} {H : Hp} {Q : VK} (h : giveP K f H Q) (e : g = f) : giveP K g H Q := e ▸ h
theorem pl_at {f : P} {i : Nat} {v : V} (h : (pl f)[i]? = some v) : i < P.len f ∧ v = .int (f.c i) := by
  have hl : i < (pl f).length := (List.getElem?_eq_some_iff.mp h).1
  rw [pl_len] at hl
  rw [pl_get hl] at h
  exact ⟨hl, (Option.some.inj h).symm⟩
theorem Grow.l {H1 : Hp} {D : Addr} {g : Nat → Int} {n : Nat} {H : Hp} (h : Grow H1 D (tab g n) H) : SqL K H D (((List.range n).map g).map V.int) := by
  rw [← tab_eq]
  exact lst_at h.d
theorem Grow.tab {H1 : Hp} {D : Addr} {g : Nat → Int} {i : Nat} {y : Int} {H H' : Hp} (h : Grow H1 D (tab g i) H) (n : H1 D = none) (e : Same H H') (hl : i < 1000000) (hy : y = g i) :
    ∃ acc, H' D = some (.lst acc) ∧ acc.length < sizeLine ∧ Grow H1 D (RH.tab g (i + 1)) (upd H' D (.lst (acc ++ [V.int y]))) := by
  rw [hy, tab_succ]
  exact h.push n e (by rw [tab_len]; exact hl) fun g => g
theorem ofL_tab {r : P} {g : Nat → Int} {n : Nat} (h : ∀ k, k < n → g k = r.c k) (z : P.Z r n) : ofL ((List.range n).map g) = r := P.ext fun k => by
  by_cases c : k < n
  · rw [← h k c]
    refine ofL_at ?_
    rw [List.getElem?_map, List.getElem?_range c]
    rfl
  · rw [z k (by omega), ofL_Z _ k (by rw [List.length_map, List.length_range]; omega)]
def sp_p_plus (K : PySem.W.Frag) : Sp := mk2 fun x y H Q => ∃ (a b : Addr) (f g : P), x = .ref a ∧ y = .ref b ∧ AtP K H a f ∧ AtP K H b g ∧ P.len f ≤ 1000 ∧ P.len g ≤ 1000 ∧ giveP K (f + g) H Q
abbrev s_p_plus : Stmt := topS 12
abbrev N_p_plus : List Str := ["one", "other", "many", "k"]
theorem sc_p_plus : FnScope N_p_plus ["one", "other"] (defScope s_p_plus) := ⟨rfl, rfl, rfl, by decide +kernel, rfl, by decide +kernel, by decide +kernel⟩
theorem ok_p_plus (A : At K mg "p_plus" s_p_plus) (T : Txt mg) (d_poly : Dn Pg w K mg base "poly" 41 ["weights"] (sp_poly K)) (d_weight_of : Dn Pg w K mg base "weight_of" 41 ["one", "place"] (sp_weight_of K)) : Dn Pg w K mg base "p_plus" 42 ["one", "other"] (sp_p_plus K) := by
  refine mkDn A sc_p_plus (fun _ _ _ _ _ _ us hl => match us, hl with | [_, _], _ => rfl) (fun vs H Q E ⟨_, _, e, _⟩ => by rw [e]; rfl) fun f cdv A outer s H vs Q E hr h => ?_
  refine ⟨_, (pss_cons (ps_set (i := 2) sc_p_plus.nd rfl (.inl rfl) (pe_callB (call_max2 rfl) (by rfl) T.max (by decide +kernel) (pa_cons (pe_callB (call_lenK (K := K)) (by rfl) T.len PySem.boot_len (pa_cons (pv 0) pa_nil)) (pa_cons (pe_callB (call_lenK (K := K)) (by rfl) T.len PySem.boot_len (pa_cons (pv 1) pa_nil)) pa_nil))))
      (pss_one (ps_ret (pe_own d_poly (hr.mono (by decide)) (by rfl) (pa_cons (pe_lc (own := [("k", 3)]) (g := gName 3) (tt := tYes) (by rfl) sc_p_plus.nd (pi_range1 (by rfl) T.range (pa_cons (pv 2) pa_nil)) (blkOk_by (N := N_p_plus) (sc := defScope s_p_plus) (by decide +kernel)) (fun _ _ _ _ _ => (pg_name (i := 3) sc_p_plus.nd rfl (.inl rfl))) (fun _ _ _ _ _ => pts_nil) (fun _ _ _ _ _ => (pe_op op_add (pe_own d_weight_of (hr.mono (by decide)) (by rfl) (pa_cons (pv 0) (pa_cons (pv 3) pa_nil))) (pe_own d_weight_of (hr.mono (by decide)) (by rfl) (pa_cons (pv 1) (pa_cons (pv 3) pa_nil)))))) pa_nil))))), ?_⟩
  obtain ⟨v0, v1, rfl, h⟩ := h
  obtain ⟨a, b, f, g, rfl, rfl, hf, hg, lf, lg, q⟩ := h
  refine ⟨_, rfl, a, _, rfl, .inr hf, _, rfl, b, _, rfl, .inr hg, _, _, rfl, ?_⟩
  rw [pl_len, pl_len]
  have em : (if ((P.len g : Nat) : Int) > (P.len f : Nat) then ((P.len g : Nat) : Int) else (P.len f : Nat)) = ((max (P.len f) (P.len g) : Nat) : Int) := by split <;> omega
  rw [em]
  have lm : max (P.len f) (P.len g) ≤ 1000 := by omega
  generalize ek : max (P.len f) (P.len g) = n at lm
  refine ⟨_, rfl, n, rfl, by omega, by omega, fun D hD => lc_range (lo := 0) (n := n) (fun i H' => Grow H D (tab (fun k => f.c k + g.c k) i) H') (.new hD) ?_ ?_⟩
  · intro i H' hi gr
    refine ⟨rfl, itT ⟨_, rfl, _, rfl, _, _, rfl, a, f, i, rfl, ?_, hf.s gr.same, _, rfl, _, rfl, _, _, rfl, b, g, i, rfl, ?_, hg.s gr.same, _, _, rfl, rfl, gr.tab hD (Same.refl _) (by omega) rfl⟩⟩
    · rw [Int.zero_add]
    · rw [Int.zero_add]
  · intro H' gr
    exact ⟨_, rfl, D, _, rfl, gr.l, (q.to gr.same).eq (ofL_tab (fun k _ => rfl) (((P.len_Z f).mono (by omega)).add ((P.len_Z g).mono (by omega))))⟩
def sp_scaled (K : PySem.W.Frag) : Sp := mk2 fun x y H Q => ∃ (a : Addr) (f : P) (z : Int) (b1 b2 : Nat), x = .ref a ∧ y = .int z ∧ AtP K H a f ∧ P.Bt b1 f ∧ z.natAbs < 2 ^ b2 ∧ b1 + b2 ≤ 100000000 ∧ P.len f ≤ 1000 ∧ giveP K (P.K z * f) H Q
abbrev s_scaled : Stmt := topS 13
abbrev N_scaled : List Str := ["one", "factor", "weight"]
theorem sc_scaled : FnScope N_scaled ["one", "factor"] (defScope s_scaled) := ⟨rfl, rfl, rfl, by decide +kernel, rfl, by decide +kernel, by decide +kernel⟩
theorem ok_scaled (A : At K mg "scaled" s_scaled) (T : Txt mg) (d_poly : Dn Pg w K mg base "poly" 41 ["weights"] (sp_poly K)) : Dn Pg w K mg base "scaled" 42 ["one", "factor"] (sp_scaled K) := by
  refine mkDn A sc_scaled (fun _ _ _ _ _ _ us hl => match us, hl with | [_, _], _ => rfl) (fun vs H Q E ⟨_, _, e, _⟩ => by rw [e]; rfl) fun f cdv A outer s H vs Q E hr h => ?_
  refine ⟨_, (pss_one (ps_ret (pe_own d_poly (hr.mono (by decide)) (by rfl) (pa_cons (pe_lc (own := [("weight", 2)]) (g := gName 2) (tt := tYes) (by rfl) sc_scaled.nd (pi_tupK (K := K) (pv 0)) (blkOk_by (N := N_scaled) (sc := defScope s_scaled) (by decide +kernel)) (fun _ _ _ _ _ => (pg_name (i := 2) sc_scaled.nd rfl (.inl rfl))) (fun _ _ _ _ _ => pts_nil) (fun _ _ _ _ _ => (pe_op op_mulB (pv 2) (pv 1)))) pa_nil)))), ?_⟩
  obtain ⟨v0, v1, rfl, h⟩ := h
  obtain ⟨a, f, z, b1, b2, rfl, rfl, hs, h1, h2, hb, hl, q⟩ := h
  refine ⟨_, rfl, a, rfl, ⟨_, hs⟩, fun D hD => lc_tup (xs := pl f) (fun i H' => Grow H D (tab (fun k => f.c k * z) i) H') (.new hD) (fun i H' _ g => hs.s g.same) ?_ ?_⟩
  · intro i x H' hx g
    obtain ⟨hi, rfl⟩ := pl_at hx
    exact ⟨rfl, itT ⟨_, rfl, _, rfl, _, _, rfl, rfl, mulOk (h1 i) h2 (by omega), g.tab hD (Same.refl _) (by omega) rfl⟩⟩
  · intro H' g
    rw [pl_len] at g
    exact ⟨_, rfl, D, _, rfl, g.l, (q.to g.same).eq (ofL_tab (fun k _ => by rw [P.K_mul, Int.mul_comm]) ((P.len_Z f).kmul z))⟩
def sp_p_minus (K : PySem.W.Frag) : Sp := mk2 fun x y H Q => ∃ (a b : Addr) (f g : P) (b1 : Nat), x = .ref a ∧ y = .ref b ∧ AtP K H a f ∧ AtP K H b g ∧ P.len f ≤ 1000 ∧ P.len g ≤ 1000 ∧ P.Bt b1 g ∧ b1 ≤ 90000000 ∧ giveP K (f - g) H Q
abbrev s_p_minus : Stmt := topS 14
abbrev N_p_minus : List Str := ["one", "other"]
theorem sc_p_minus : FnScope N_p_minus ["one", "other"] (defScope s_p_minus) := ⟨rfl, rfl, rfl, by decide +kernel, rfl, by decide +kernel, by decide +kernel⟩
theorem ok_p_minus (A : At K mg "p_minus" s_p_minus) (T : Txt mg) (d_p_plus : Dn Pg w K mg base "p_plus" 42 ["one", "other"] (sp_p_plus K)) (d_scaled : Dn Pg w K mg base "scaled" 42 ["one", "factor"] (sp_scaled K)) : Dn Pg w K mg base "p_minus" 43 ["one", "other"] (sp_p_minus K) := by
  refine mkDn A sc_p_minus (fun _ _ _ _ _ _ us hl => match us, hl with | [_, _], _ => rfl) (fun vs H Q E ⟨_, _, e, _⟩ => by rw [e]; rfl) fun f cdv A outer s H vs Q E hr h => ?_
  refine ⟨_, (pss_one (ps_ret (pe_own d_p_plus (hr.mono (by decide)) (by rfl) (pa_cons (pv 0) (pa_cons (pe_own d_scaled (hr.mono (by decide)) (by rfl) (pa_cons (pv 1) (pa_cons (pe_un un_neg pe_int) pa_nil))) pa_nil))))), ?_⟩
  obtain ⟨v0, v1, rfl, h⟩ := h
  obtain ⟨a, b, f, g, b1, rfl, rfl, hf, hg, lf, lg, hb, hb1, q⟩ := h
  refine ⟨_, rfl, _, rfl, _, rfl, _, _, rfl, b, g, -1, b1, 1, rfl, rfl, hg, hb, by decide, by omega, lg, fun H' p s hp => ?_⟩
  refine ⟨_, _, rfl, a, p, f, _, rfl, rfl, hf.s s, hp, lf, ?_, (q.to s).eq ?_⟩
  · rw [P.len_kmul (by decide)]
    exact lg
  · have e : P.K (-1) = -1 := P.K_neg 1
    rw [e]
    grind
theorem none_old {H : Hp} {p D : Addr} {o : HO} (h : upd H p o D = none) : H D = none := by
  by_cases z : D = p
  · subst z
    rw [upd_same] at h
    cases h
  · rw [upd_ne z] at h
    exact h
theorem tab_set {h h' : Nat → Int} {N j : Nat} {x : Int} (e : ∀ k, k ≠ j → h' k = h k) (ej : h' j = x) : (tab h N).set j (.int x) = tab h' N := by
  refine List.ext_getElem? fun k => ?_
  rw [List.getElem?_set]
  by_cases c : k < N
  · rw [tab_get c]
    by_cases z : j = k
    · subst z
      rw [if_pos rfl, tab_len, if_pos c, tab_get c, ej]
    · rw [if_neg z, tab_get c, e k (fun q => z q.symm)]
  · by_cases z : j = k
    · subst z
      rw [if_pos rfl, tab_len, if_neg c, List.getElem?_eq_none (by rw [tab_len]; omega)]
    · rw [if_neg z, List.getElem?_eq_none (by rw [tab_len]; omega), List.getElem?_eq_none (by rw [tab_len]; omega)]
theorem tab_congr {h h' : Nat → Int} {N : Nat} (e : ∀ k, k < N → h k = h' k) : tab h N = tab h' N := by
  unfold tab
  exact List.map_congr_left fun k hk => by rw [e k (List.mem_range.mp hk)]
theorem rep_tab (N : Nat) : (List.replicate N [V.int 0]).flatten = tab (fun _ => 0) N := by
  induction N with
  | zero => rfl
  | succ n ih => rw [tab_succ, List.replicate_succ', List.flatten_append, ih]; rfl
theorem enumT_go {a : Addr} {f : P} {H : Hp} {i : Nat} (hs : AtP K H a f) (hi : i < P.len f) : (IteT K a).go i H ∧ ∀ v H', (IteT K a).yld i H v H' → ∃ T, v = .ref T ∧ H T = none ∧ H' = upd H T (.tup [.int (i : Nat), .int (f.c i)]) :=
  ⟨⟨_, _, hs, pl_get hi⟩, fun v H' ⟨T, x, ev, hT, eH, hx⟩ => ⟨T, ev, hT, by rw [eH, Option.some.inj ((hx _ hs).symm.trans (pl_get hi))]⟩⟩
theorem enumT_stop {a : Addr} {f : P} {H : Hp} (hs : AtP K H a f) : (IteT K a).stop (P.len f) H := ⟨_, hs, by rw [pl_len]; exact Nat.le_refl _⟩
theorem cut_succ (f : P) (i : Nat) : P.cut f (i + 1) = P.cut f i + P.mon (f.c i) i := P.ext fun k => by
  rw [P.c_add, P.c_cut, P.c_cut, P.c_mon]
  by_cases e : k = i
  · subst e
    rw [if_pos (by omega), if_neg (by omega), if_pos rfl, Int.zero_add]
  · rw [if_neg e, Int.add_zero]
    by_cases c : k < i
    · rw [if_pos (by omega), if_pos c]
    · rw [if_neg (by omega), if_neg c]
theorem cut_all {f : P} {n : Nat} (h : P.Z f n) : P.cut f n = f := P.ext fun k => by
  rw [P.c_cut]
  split
  · rfl
  · rw [h k (by omega)]
theorem cut_zero (f : P) : P.cut f 0 = 0 := P.ext fun k => by rw [P.c_cut, if_neg (by omega), P.c_0]
theorem Zmul {f g : P} {m n : Nat} (hf : P.Z f m) (hg : P.Z g n) : P.Z (f * g) (m + n) := by
  cases m with
  | zero => rw [P.Z.nil hf, show (0 : P) * g = 0 by grind]; exact P.Z.zero _
  | succ m =>
    cases n with
    | zero => rw [P.Z.nil hg, show f * (0 : P) = 0 by grind]; exact P.Z.zero _
    | succ n => exact (hf.mul hg).mono (by omega)
def sp_p_times (K : PySem.W.Frag) : Sp := mk2 fun x y H Q => ∃ (a b : Addr) (f g : P) (b1 b2 : Nat), x = .ref a ∧ y = .ref b ∧ AtP K H a f ∧ AtP K H b g ∧ P.len f ≤ 1000 ∧ P.len g ≤ 1000 ∧ P.Bt b1 f ∧ P.Bt b2 g ∧ b1 + b2 ≤ 100000000 ∧ giveP K (f * g) H Q
abbrev s_p_times : Stmt := topS 15
abbrev N_p_times : List Str := ["one", "other", "found", "k", "weight", "j", "part"]
theorem sc_p_times : FnScope N_p_times ["one", "other"] (defScope s_p_times) := ⟨rfl, rfl, rfl, by decide +kernel, rfl, by decide +kernel, by decide +kernel⟩
theorem ok_p_times (A : At K mg "p_times" s_p_times) (T : Txt mg) (d_poly : Dn Pg w K mg base "poly" 41 ["weights"] (sp_poly K)) : Dn Pg w K mg base "p_times" 42 ["one", "other"] (sp_p_times K) := by
  refine mkDn A sc_p_times (fun _ _ _ _ _ _ us hl => match us, hl with | [_, _], _ => rfl) (fun vs H Q E ⟨_, _, e, _⟩ => by rw [e]; rfl) fun f cdv A outer s H vs Q E hr h => ?_
  refine ⟨_, (pss_cons (ps_set (i := 2) sc_p_times.nd rfl (.inl rfl) (pe_op op_rep (pe_lst (pa_cons pe_int pa_nil)) (pe_op op_add (pe_callB (call_lenK (K := K)) (by rfl) T.len PySem.boot_len (pa_cons (pv 0) pa_nil)) (pe_callB (call_lenK (K := K)) (by rfl) T.len PySem.boot_len (pa_cons (pv 1) pa_nil)))))
      (pss_cons (ps_for PassesOwn.never rfl (pi_enumTK (K := K) (by rfl) T.enumerate (pa_cons (pv 0) pa_nil)) (pg_tupK (K := K) (n := 2) rfl (pgs_cons (pg_name (i := 3) sc_p_times.nd rfl (.inl rfl)) (pgs_cons (pg_name (i := 4) sc_p_times.nd rfl (.inl rfl)) pgs_nil))) (pss_one (ps_for PassesOwn.never rfl (pi_enumTK (K := K) (by rfl) T.enumerate (pa_cons (pv 1) pa_nil)) (pg_tupK (K := K) (n := 2) rfl (pgs_cons (pg_name (i := 5) sc_p_times.nd rfl (.inl rfl)) (pgs_cons (pg_name (i := 6) sc_p_times.nd rfl (.inl rfl)) pgs_nil))) (pss_one (ps_asg (pe_op op_add (pe_ix (ix_listK (K := K)) (pv 2) (pe_op op_add (pv 3) (pv 5)) (fun _ _ => rfl)) (pe_op op_mulB (pv 4) (pv 6))) (pg_sub (pv 2) (pe_op op_add (pv 3) (pv 5)) set_list))))))
      (pss_one (ps_ret (pe_own d_poly (hr.mono (by decide)) (by rfl) (pa_cons (pv 2) pa_nil)))))), ?_⟩
  obtain ⟨v0, v1, rfl, h⟩ := h
  obtain ⟨a, b, f, g, b1, b2, rfl, rfl, hf, hg, lf, lg, h1, h2, hb, q⟩ := h
  refine ⟨by decide, fun p hp => ⟨_, rfl, a, _, rfl, .inr (hf.s (same_new hp)), _, rfl, b, _, rfl, .inr (hg.s (same_new hp)), _, _, rfl, rfl, p, (P.len f + P.len g : Nat), _, rfl, ?_, upd_same .., by omega, by omega, ?_, fun D hD => ?_⟩⟩
  · rw [pl_len, pl_len]; rfl
  · show 1 * _ ≤ sizeLine
    have : sizeLine = 16777216 := by decide
    omega
  have hD0 : H D = none := none_old hD
  have sP := same_new (o := .lst [.int 0]) hp
  have eN : ((P.len f + P.len g : Nat) : Int).toNat = P.len f + P.len g := by omega
  rw [eN, rep_tab]
  have g0 : Grow H D (tab (P.cut f 0 * g).c (P.len f + P.len g)) (upd (upd H p (.lst [.int 0])) D (.lst (tab (fun _ => 0) (P.len f + P.len g)))) := by
    refine ⟨sP.put hD0, ?_⟩
    rw [upd_same, cut_zero]
    rw [tab_congr fun k _ => ?_]
    show 0 = ((0 : P) * g).c k
    rw [show (0 : P) * g = 0 by grind, P.c_0]
  refine ⟨_, rfl, a, _, rfl, hf.s g0.same, for_at (P.len f) (fun i σ H' => (∃ u1 u2 u3 u4, σ = [some (.ref a), some (.ref b), some (.ref D), u1, u2, u3, u4]) ∧ Grow H D (tab (P.cut f i * g).c (P.len f + P.len g)) H') ⟨⟨_, _, _, _, rfl⟩, g0⟩ ?_ ?_⟩
  · rintro i σ H' hi ⟨⟨u1, u2, u3, u4, rfl⟩, gr⟩
    obtain ⟨hgo, hy⟩ := enumT_go (hf.s gr.same) hi
    refine ⟨hgo, fun v H2 hv => ?_⟩
    obtain ⟨T1, rfl, hT1, rfl⟩ := hy _ _ hv
    have gr1 := gr.to (same_new (o := .tup [.int (i : Nat), .int (f.c i)]) hT1)
    refine ⟨T1, _, rfl, tup_at (upd_same ..), rfl, _, _, rfl, _, _, rfl, rfl, ?_⟩
    refine ⟨_, rfl, b, _, rfl, hg.s gr1.same, for_at (P.len g) (fun j σ H' => (∃ u3 u4, σ = [some (.ref a), some (.ref b), some (.ref D), some (.int (i : Nat)), some (.int (f.c i)), u3, u4]) ∧ Grow H D (tab (P.cut f i * g + P.mon (f.c i) i * P.cut g j).c (P.len f + P.len g)) H') ⟨⟨_, _, rfl⟩, ?_⟩ ?_ ?_⟩
    · rw [cut_zero, show P.cut f i * g + P.mon (f.c i) i * 0 = P.cut f i * g by grind]
      exact gr1
    · rintro j σ H3 hj ⟨⟨u3, u4, rfl⟩, gr⟩
      obtain ⟨hgo, hy⟩ := enumT_go (hg.s gr.same) hj
      refine ⟨hgo, fun v H4 hv => ?_⟩
      obtain ⟨T2, rfl, hT2, rfl⟩ := hy _ _ hv
      have gr2 := gr.to (same_new (o := .tup [.int (j : Nat), .int (g.c j)]) hT2)
      refine ⟨T2, _, rfl, tup_at (upd_same ..), rfl, _, _, rfl, _, _, rfl, rfl, ?_⟩
      refine ⟨_, rfl, _, rfl, _, rfl, _, _, rfl, rfl, D, _, _, _, rfl, rfl, lst_at gr2.d, atI_ok (by omega) (tab_get (k := i + j) (by omega)), _, rfl, _, rfl, _, _, rfl, rfl, mulOk (h1 i) (h2 j) (by omega), _, _, rfl, rfl, ?_⟩
      refine ⟨_, rfl, _, rfl, _, rfl, _, _, rfl, rfl, D, _, _, i + j, rfl, rfl, gr2.d, ?_, ⟨_, _, rfl⟩, ?_⟩
      · rw [tab_len]
        unfold ixN
        rw [if_pos (by omega), if_pos (by omega)]
        rfl
      · have e : (tab (P.cut f i * g + P.mon (f.c i) i * P.cut g j).c (P.len f + P.len g)).set (i + j) (.int ((P.cut f i * g + P.mon (f.c i) i * P.cut g j).c (i + j) + f.c i * g.c j)) = tab (P.cut f i * g + P.mon (f.c i) i * P.cut g (j + 1)).c (P.len f + P.len g) := by
          have e0 : P.cut f i * g + P.mon (f.c i) i * P.cut g (j + 1) = (P.cut f i * g + P.mon (f.c i) i * P.cut g j) + P.mon (f.c i * g.c j) (i + j) := by
            rw [cut_succ, ← P.mon_mon]
            grind
          rw [e0]
          refine tab_set (fun k hk => ?_) ?_
          · rw [P.c_add _ (P.mon _ _), P.c_mon, if_neg hk, Int.add_zero]
          · rw [P.c_add _ (P.mon _ _), P.c_mon, if_pos rfl]
        exact ⟨gr2.same.put hD0, (upd_same ..).trans (congrArg (fun z => some (HO.lst z)) e)⟩
    · rintro σ H3 ⟨⟨u3, u4, rfl⟩, gr⟩
      refine ⟨enumT_stop (hg.s gr.same), ⟨_, _, _, _, rfl⟩, ?_⟩
      rw [cut_all (P.len_Z g)] at gr
      rw [cut_succ, show (P.cut f i + P.mon (f.c i) i) * g = P.cut f i * g + P.mon (f.c i) i * g by grind]
      exact gr
  · rintro σ H' ⟨⟨u1, u2, u3, u4, rfl⟩, gr⟩
    refine ⟨enumT_stop (hf.s gr.same), _, rfl, ?_⟩
    rw [cut_all (P.len_Z f)] at gr
    refine ⟨_, rfl, D, _, rfl, gr.l, (q.to gr.same).eq (ofL_tab (fun k _ => rfl) ?_)⟩
    exact Zmul (P.len_Z f) (P.len_Z g)
def sp_derived (K : PySem.W.Frag) : Sp := mk1 fun x H Q => ∃ (a : Addr) (f : P) (b1 : Nat), x = .ref a ∧ AtP K H a f ∧ P.len f ≤ 1000 ∧ P.Bt b1 f ∧ b1 ≤ 90000000 ∧ giveP K (P.D f) H Q
abbrev s_derived : Stmt := topS 17
abbrev N_derived : List Str := ["one", "k"]
theorem sc_derived : FnScope N_derived ["one"] (defScope s_derived) := ⟨rfl, rfl, rfl, by decide +kernel, rfl, by decide +kernel, by decide +kernel⟩
theorem ok_derived (A : At K mg "derived" s_derived) (T : Txt mg) (d_poly : Dn Pg w K mg base "poly" 41 ["weights"] (sp_poly K)) : Dn Pg w K mg base "derived" 42 ["one"] (sp_derived K) := by
  refine mkDn A sc_derived (fun _ _ _ _ _ _ us hl => match us, hl with | [_], _ => rfl) (fun vs H Q E ⟨_, e, _⟩ => by rw [e]; rfl) fun f cdv A outer s H vs Q E hr h => ?_
  refine ⟨_, (pss_one (ps_ret (pe_own d_poly (hr.mono (by decide)) (by rfl) (pa_cons (pe_lc (own := [("k", 1)]) (g := gName 1) (tt := tYes) (by rfl) sc_derived.nd (pi_range2 (by rfl) T.range (pa_cons pe_int (pa_cons (pe_callB (call_lenK (K := K)) (by rfl) T.len PySem.boot_len (pa_cons (pv 0) pa_nil)) pa_nil))) (blkOk_by (N := N_derived) (sc := defScope s_derived) (by decide +kernel)) (fun _ _ _ _ _ => (pg_name (i := 1) sc_derived.nd rfl (.inl rfl))) (fun _ _ _ _ _ => pts_nil) (fun _ _ _ _ _ => (pe_op op_mulB (pv 1) (pe_ix (ix_tupK (K := K)) (pv 0) (pv 1) (fun _ _ => rfl))))) pa_nil)))), ?_⟩
  obtain ⟨v0, rfl, h⟩ := h
  obtain ⟨a, f, b1, rfl, hf, lf, h1, hb, q⟩ := h
  refine ⟨_, rfl, a, _, rfl, .inr hf, ?_⟩
  rw [pl_len]
  refine ⟨1, _, rfl, ⟨by decide, by decide, by omega, by omega⟩, fun D hD => lc_range (lo := 1) (n := ((P.len f : Nat) - 1 : Int).toNat) (fun i H' => Grow H D (tab (P.D f).c i) H') (.new hD) ?_ ?_⟩
  · intro i H' hi gr
    have e1 : (1 : Int) + (i : Nat) = (i : Int) + 1 := by omega
    have e2 : ((1 : Int) + (i : Nat)).toNat = i + 1 := by omega
    refine ⟨rfl, itT ⟨_, rfl, _, rfl, _, rfl, a, _, _, _, rfl, rfl, hf.s gr.same, atI_ok (by omega) (by rw [e2]; exact pl_get (k := i + 1) (by omega)), _, _, rfl, rfl, ?_, gr.tab hD (Same.refl _) (by omega) ?_⟩⟩
    · exact mulOk (a := 10) (by omega) (h1 (i + 1)) (by omega)
    · rw [P.c_D, e1]
  · intro H' gr
    refine ⟨_, rfl, D, _, rfl, gr.l, (q.to gr.same).eq (ofL_tab (fun k _ => rfl) (P.D_Z ((P.len_Z f).mono (by omega))))⟩
def sp_raised (K : PySem.W.Frag) : Sp := mk2 fun x y H Q => ∃ (a : Addr) (f : P) (n : Nat), x = .ref a ∧ y = .int (n : Nat) ∧ AtP K H a f ∧ P.len f ≤ 1000 ∧ n ≤ 1000 ∧ giveP K (P.mon 1 n * f) H Q
/-- the tuple of f as data -/
noncomputable def dpl (f : P) : PyData := .tuple ((cf f).map .int)
theorem dp_ints {H : Hp} : ∀ ns : List Int, DpAll K H (ns.map V.int) (ns.map PyData.int)
  | [] => .nil
  | n :: ns => .cons (.int n) (dp_ints ns)
theorem AtP.dp {H : Hp} {a : Addr} {f : P} (h : AtP K H a f) : Dp K H (.ref a) (dpl f) := .tup h (dp_ints _)
theorem dpl_shaped (f : P) : SeqAt.shaped (dpl f) = true := PySem.W.shaped_ints (cf f)
theorem dpl_eqv (f g : P) : (dpl f).eqv (dpl g) = true ↔ f = g := by
  have e : (dpl f).eqv (dpl g) = decide (cf f = cf g) := by
    unfold dpl PyData.eqv
    exact PySem.W.ked_eqvAll _ _
  rw [e]
  exact ⟨fun h => by rw [← ofL_cf f, of_decide_eq_true h, ofL_cf], fun h => decide_eq_true (by rw [h])⟩
theorem cf_0 : cf 0 = [] := by
  unfold cf
  rw [P.len_0]
  rfl
theorem pl_0 : pl 0 = [] := by unfold pl; rw [cf_0]; rfl
theorem at_0 {H : Hp} {p : Addr} (h : SqT K H p []) : AtP K H p 0 := by unfold AtP; rw [pl_0]; exact h
/-- f == () -/
theorem eqD_0 {H : Hp} {a p : Addr} {f : P} {Q : VK} (h : AtP K H a f) (hp : H p = none) (q : ∀ b : Bool, (b = true ↔ f = 0) → Q (.bl b) (upd H p (.tup []))) : rEqD K (.ref a) (.ref p) (upd H p (.tup [])) Q :=
  ⟨dpl f, dpl 0, (h.s (same_new hp)).dp, (at_0 (tup_at (upd_same ..))).dp, dpl_shaped f, dpl_shaped 0, q _ (dpl_eqv f 0)⟩
/-- f != () -/
theorem neD_0 {H : Hp} {a p : Addr} {f : P} {Q : VK} (h : AtP K H a f) (hp : H p = none) (q : ∀ b : Bool, (b = true ↔ f ≠ 0) → Q (.bl b) (upd H p (.tup []))) : rNeD K (.ref a) (.ref p) (upd H p (.tup [])) Q :=
  ⟨dpl f, dpl 0, (h.s (same_new hp)).dp, (at_0 (tup_at (upd_same ..))).dp, dpl_shaped f, dpl_shaped 0, q _ (by
    have := dpl_eqv f 0
    cases e : (dpl f).eqv (dpl 0) with
    | true => rw [e] at this; exact ⟨fun z => (by cases z), fun z => absurd (this.mp rfl) z⟩
    | false => rw [e] at this; exact ⟨fun _ z => (by cases this.mpr z), fun _ => rfl⟩)⟩
theorem len_mon {f : P} (hf : f ≠ 0) (n : Nat) : P.len (P.mon 1 n * f) = n + P.len f := by
  have h := P.len_pos.mpr hf
  have e : n + P.len f = (n + (P.len f - 1)) + 1 := by omega
  rw [e]
  refine P.len_is (fun k hk => ?_) ?_
  · rw [P.mon_mul, if_pos (by omega), P.len_Z f _ (by omega), Int.mul_zero]
  · rw [P.mon_mul, if_pos (by omega), Int.one_mul]
    have : n + (P.len f - 1) - n = P.len f - 1 := by omega
    rw [this]
    exact P.lc_ne hf
theorem pl_mon {f : P} (hf : f ≠ 0) (n : Nat) : pl (P.mon 1 n * f) = List.replicate n (V.int 0) ++ pl f := by
  rw [pl_tab, len_mon hf, pl_tab]
  refine List.ext_getElem? fun k => ?_
  by_cases c : k < n + P.len f
  · rw [tab_get c, P.mon_mul]
    by_cases d : k < n
    · rw [if_neg (by omega), List.getElem?_append_left (by rw [List.length_replicate]; exact d), List.getElem?_replicate, if_pos d]
    · rw [if_pos (by omega), List.getElem?_append_right (by rw [List.length_replicate]; omega), List.length_replicate, tab_get (by omega), Int.one_mul]
  · rw [List.getElem?_eq_none (by rw [tab_len]; omega), List.getElem?_eq_none (by rw [List.length_append, List.length_replicate, tab_len]; omega)]
abbrev s_raised : Stmt := topS 16
abbrev N_raised : List Str := ["one", "many"]
theorem sc_raised : FnScope N_raised ["one", "many"] (defScope s_raised) := ⟨rfl, rfl, rfl, by decide +kernel, rfl, by decide +kernel, by decide +kernel⟩
theorem ok_raised (A : At K mg "raised" s_raised) (T : Txt mg) : Dn Pg w K mg base "raised" 41 ["one", "many"] (sp_raised K) := by
  refine mkDn A sc_raised (fun _ _ _ _ _ _ us hl => match us, hl with | [_, _], _ => rfl) (fun vs H Q E ⟨_, _, e, _⟩ => by rw [e]; rfl) fun f cdv A outer s H vs Q E hr h => ?_
  refine ⟨_, (pss_cons (ps_if (pt_cmpR (op_eqDK (K := K) hr.units) (pv 0) (pe_tup pa_nil) (nomark _)) (pss_one (ps_ret (pe_tup pa_nil))) pss_nil)
      (pss_one (ps_ret (pe_op (op_catAK (K := K)) (pe_op (op_rep1K (K := K)) (pe_tup (pa_cons pe_int pa_nil)) (pv 1)) (pv 0))))), ?_⟩
  obtain ⟨v0, v1, rfl, h⟩ := h
  obtain ⟨a, f, n, rfl, rfl, hf, lf, ln, q⟩ := h
  refine ⟨_, rfl, by decide, fun p hp => eqD_0 hf hp fun b hb => ⟨b, rfl, ite2 (fun c => ?_) fun c => ?_⟩⟩
  · have c := hb.mp c
    subst c
    refine ⟨by decide, fun p2 hp2 => q _ _ ((same_new hp).trans (same_new hp2)) ?_⟩
    rw [show P.mon 1 n * 0 = 0 by grind]
    exact at_0 (tup_at (upd_same ..))
  · have c : f ≠ 0 := fun z => c (hb.mpr z)
    have s1 := same_new (o := .tup []) hp
    have hne : pl f ≠ [] := fun z => by
      have := pl_len f
      rw [z] at this
      exact c (P.len_eq_0.mp this.symm)
    have fin : ∀ (H2 : Hp) (r : Addr), Same H H2 → SqT K H2 r (List.replicate n (V.int 0)) → rCatA K (.ref r) (.ref a) H2 Q := by
      intro H2 r s2 hr2
      refine ⟨r, a, _, _, rfl, rfl, hr2, hf.s s2, ?_, fun z => ?_, fun _ z => absurd z hne, fun z _ p hp => ?_⟩
      · rw [pl_len, List.length_replicate]
        have : sizeLine = 16777216 := by decide
        omega
      · have : n = 0 := by
          have := congrArg List.length z
          rwa [List.length_replicate] at this
        subst this
        refine q _ _ s2 ?_
        rw [P.mon_0, P.K_one, show (1 : P) * f = f by grind]
        exact hf.s s2
      · refine q _ _ (s2.trans (same_new hp)) ?_
        unfold AtP
        rw [pl_mon c]
        exact tup_at (upd_same ..)
    refine ⟨by decide, fun p2 hp2 => ⟨_, rfl, p2, _, _, rfl, rfl, tup_at (upd_same ..), by omega, by omega, fun e => ?_, fun e p3 hp3 => ?_⟩⟩
    · refine ⟨_, rfl, fin _ _ (s1.trans (same_new hp2)) ?_⟩
      have : n = 1 := by omega
      subst this
      exact tup_at (upd_same ..)
    · refine ⟨_, rfl, fin _ _ ((s1.trans (same_new hp2)).trans (same_new hp3)) (tup_at (upd_same ..))⟩
end
end RH
/-! W7: contents, division, common divisors. -/
namespace RH
open PySem PySem.Spec PyProof.Rows L2 RC
theorem gl_go : ∀ (ns : List Int) (d : Int), (ns.foldl (fun d x => ((Int.gcd d x : Nat) : Int)) d ∣ d ∧ ∀ x ∈ ns, ns.foldl (fun d x => ((Int.gcd d x : Nat) : Int)) d ∣ x) ∧ (∀ e, e ∣ d → (∀ x ∈ ns, e ∣ x) → e ∣ ns.foldl (fun d x => ((Int.gcd d x : Nat) : Int)) d) ∧ (0 ≤ d → 0 ≤ ns.foldl (fun d x => ((Int.gcd d x : Nat) : Int)) d)
  | [], d => ⟨⟨Int.dvd_refl d, fun _ h => absurd h (List.not_mem_nil)⟩, fun e h _ => h, fun h => h⟩
  | n :: ns, d => by
    obtain ⟨⟨h1, h2⟩, h3, h4⟩ := gl_go ns ((Int.gcd d n : Nat) : Int)
    refine ⟨⟨Int.dvd_trans h1 (Int.gcd_dvd_left ..), fun x hx => ?_⟩, fun e he hx => h3 e (Int.dvd_coe_gcd he (hx n (by simp))) fun x q => hx x (by simp [q]), fun _ => h4 (by omega)⟩
    rcases List.mem_cons.mp hx with rfl | hx
    · exact Int.dvd_trans h1 (Int.gcd_dvd_right ..)
    · exact h2 x hx
theorem gl_dvd {ns : List Int} {x : Int} (h : x ∈ ns) : gl ns ∣ x := (gl_go ns 0).1.2 x h
theorem gl_max {ns : List Int} {e : Int} (h : ∀ x ∈ ns, e ∣ x) : e ∣ gl ns := (gl_go ns 0).2.1 e (Int.dvd_zero e) h
theorem gl_nn (ns : List Int) : 0 ≤ gl ns := (gl_go ns 0).2.2 (Int.le_refl 0)
/-- the content -/
noncomputable def ct (f : P) : Int := gl (cf f)
theorem mem_cf {f : P} {x : Int} : x ∈ cf f ↔ ∃ k, k < P.len f ∧ f.c k = x := by
  unfold cf
  rw [List.mem_map]
  exact ⟨fun ⟨k, h, e⟩ => ⟨k, List.mem_range.mp h, e⟩, fun ⟨k, h, e⟩ => ⟨k, List.mem_range.mpr h, e⟩⟩
theorem ct_nn (f : P) : 0 ≤ ct f := gl_nn _
theorem ct_dvd (f : P) : P.K (ct f) ∣ f := P.Kdvd.mpr fun k => by
  by_cases c : k < P.len f
  · exact gl_dvd (mem_cf.mpr ⟨k, c, rfl⟩)
  · rw [P.len_Z f k (by omega)]
    exact Int.dvd_zero _
theorem ct_max {f : P} {d : Int} (h : P.K d ∣ f) : d ∣ ct f := gl_max fun x hx => by
  obtain ⟨k, _, e⟩ := mem_cf.mp hx
  rw [← e]
  exact P.Kdvd.mp h k
theorem ct_pos {f : P} (h : f ≠ 0) : 0 < ct f := by
  have h1 := ct_nn f
  rcases Int.lt_or_eq_of_le h1 with h2 | h2
  · exact h2
  · refine absurd ?_ h
    obtain ⟨d, hd⟩ := ct_dvd f
    rw [hd, ← h2, P.K_zero]
    grind
theorem ct_0 : ct 0 = 0 := by unfold ct; rw [cf_0]; rfl
theorem plOf_ct {f : P} (h : f ≠ 0) (s : Int) (hs : s = 1 ∨ s = -1) (hp : 0 < s * P.lc f) : ∃ c, f = P.K (s * ct f) * c ∧ s * ct f ≠ 0 ∧ P.PlOf f c := by
  obtain ⟨d, hd⟩ := ct_dvd f
  have h0 := ct_pos h
  have s0 : s * s = 1 := by rcases hs with rfl | rfl <;> rfl
  have sne : s ≠ 0 := by rcases hs with rfl | rfl <;> decide
  have e : f = P.K (s * ct f) * (P.K s * d) := by
    have q : P.K (s * s) = 1 := by rw [s0]; rfl
    rw [P.K_mulK] at q
    rw [P.K_mulK]
    generalize P.K (ct f) = z at hd ⊢
    generalize P.K s = y at q ⊢
    rw [hd]
    grind
  have hne : s * ct f ≠ 0 := Int.mul_ne_zero sne (by omega)
  refine ⟨P.K s * d, e, hne, .inr ⟨⟨fun y hy => ?_, ?_⟩, s * ct f, hne, e⟩⟩
  · have : P.K (ct f * y) ∣ f := by
      obtain ⟨z, hz⟩ := hy
      rw [hz] at e
      refine ⟨P.K s * z, ?_⟩
      conv => lhs; rw [e]
      rw [P.K_mulK, P.K_mulK]
      grind
    have := ct_max this
    obtain ⟨z, hz⟩ := this
    have e1 : ct f * (y * z) = ct f * 1 := by rw [← Int.mul_assoc, ← hz, Int.mul_one]
    have e2 := Int.eq_of_mul_eq_mul_left (by omega) e1
    have e3 := congrArg Int.natAbs e2
    rw [Int.natAbs_mul] at e3
    exact Nat.eq_one_of_mul_eq_one_right e3
  · have e1 := congrArg P.lc e
    rw [P.lc_mul, P.lc_K] at e1
    have : s * P.lc f = ct f * P.lc (P.K s * d) := by rw [e1, ← Int.mul_assoc, ← Int.mul_assoc, s0, Int.one_mul]
    rw [this] at hp
    exact Int.pos_of_mul_pos_right hp h0
section
variable {Pg : Program} {w : World} {K : PySem.W.Frag} {mg : Str → Option Value} {base : Heap}
def sp_content (K : PySem.W.Frag) : Sp := mk1 fun x H Q => ∃ (a : Addr) (f : P), x = .ref a ∧ AtP K H a f ∧ Q (.int (ct f)) H
abbrev s_content : Stmt := topS 19
abbrev N_content : List Str := ["one"]
theorem sc_content : FnScope N_content ["one"] (defScope s_content) := ⟨rfl, rfl, rfl, by decide +kernel, rfl, by decide +kernel, by decide +kernel⟩
theorem ok_content (A : At K mg "content" s_content) (T : Txt mg) (d_divisor_ofT : Dn Pg w K mg base "divisor_of" 42 ["some"] (sp_divisor_ofT K)) : Dn Pg w K mg base "content" 43 ["one"] (sp_content K) := by
  refine mkDn A sc_content (fun _ _ _ _ _ _ us hl => match us, hl with | [_], _ => rfl) (fun vs H Q E ⟨_, e, _⟩ => by rw [e]; rfl) fun f cdv A outer s H vs Q E hr h => ?_
  refine ⟨_, (pss_one (ps_ret (pe_own d_divisor_ofT (hr.mono (by decide)) (by rfl) (pa_cons (pv 0) pa_nil)))), ?_⟩
  obtain ⟨v0, rfl, h⟩ := h
  obtain ⟨a, f, rfl, hf, q⟩ := h
  exact ⟨_, rfl, _, rfl, a, cf f, rfl, hf, q⟩
def sp_divided (K : PySem.W.Frag) : Sp := mk2 fun x y H Q => ∃ (a : Addr) (f : P) (z : Int), x = .ref a ∧ y = .int z ∧ AtP K H a (P.K z * f) ∧ z ≠ 0 ∧ P.len f ≤ 1000 ∧ giveP K f H Q
abbrev s_divided : Stmt := topS 20
abbrev N_divided : List Str := ["one", "number", "weight"]
theorem sc_divided : FnScope N_divided ["one", "number"] (defScope s_divided) := ⟨rfl, rfl, rfl, by decide +kernel, rfl, by decide +kernel, by decide +kernel⟩
theorem ok_divided (A : At K mg "divided" s_divided) (T : Txt mg) (B : Big Pg base) : Dn Pg w K mg base "divided" 41 ["one", "number"] (sp_divided K) := by
  refine mkDn A sc_divided (fun _ _ _ _ _ _ us hl => match us, hl with | [_, _], _ => rfl) (fun vs H Q E ⟨_, _, e, _⟩ => by rw [e]; rfl) fun f cdv A outer s H vs Q E hr h => ?_
  refine ⟨_, (pss_one (ps_ret (pe_callTy (call_tupK (K := K)) (by rfl) T.tuple (by decide +kernel) (pa_cons (pe_lc (own := [("weight", 2)]) (g := gName 2) (tt := tYes) (by rfl) sc_divided.nd (pi_tupK (K := K) (pv 0)) (blkOk_by (N := N_divided) (sc := defScope s_divided) (by decide +kernel)) (fun _ _ _ _ _ => (pg_name (i := 2) sc_divided.nd rfl (.inl rfl))) (fun _ _ _ _ _ => pts_nil) (fun _ _ _ _ _ => (pe_op (op_fdivB B.ns B.tr (dp100 hr) rfl rfl rfl rfl rfl) (pv 2) (pv 1)))) pa_nil)))), ?_⟩
  obtain ⟨v0, v1, rfl, h⟩ := h
  obtain ⟨a, f, z, rfl, rfl, hs, hz, hl, q⟩ := h
  have hle : P.len (P.K z * f) = P.len f := P.len_kmul hz f
  refine ⟨_, rfl, a, rfl, ⟨_, hs⟩, fun D hD => lc_tup (xs := pl (P.K z * f)) (fun i H' => Grow H D (tab f.c i) H') (.new hD) (fun i H' _ g => hs.s g.same) ?_ ?_⟩
  · intro i x H' hx g
    obtain ⟨hi, rfl⟩ := pl_at hx
    refine ⟨rfl, itT ⟨_, rfl, _, rfl, _, _, rfl, rfl, hz, g.tab hD (Same.refl _) (by omega) ?_⟩⟩
    rw [P.K_mul, Int.mul_fdiv_cancel_left _ hz]
  · intro H' g
    rw [pl_len, hle, ← pl_tab] at g
    exact ⟨D, _, rfl, .inl ⟨lst_at g.d, fun l hl => q _ _ (g.same.trans (same_new hl)) (tup_at (upd_same ..))⟩⟩
def sp_plain (K : PySem.W.Frag) : Sp := mk1 fun x H Q => ∃ (a : Addr) (f : P), x = .ref a ∧ AtP K H a f ∧ P.len f ≤ 1000 ∧ ∀ c, P.PlOf f c → giveP K c H Q
theorem pl_last {f : P} (h : f ≠ 0) : (pl f)[(pl f).length - 1]? = some (.int (P.lc f)) := by
  rw [pl_len]
  exact pl_get (by have := P.len_pos.mpr h; omega)
abbrev s_plain : Stmt := topS 21
abbrev N_plain : List Str := ["one"]
theorem sc_plain : FnScope N_plain ["one"] (defScope s_plain) := ⟨rfl, rfl, rfl, by decide +kernel, rfl, by decide +kernel, by decide +kernel⟩
theorem ok_plain (A : At K mg "plain" s_plain) (T : Txt mg) (d_divided : Dn Pg w K mg base "divided" 41 ["one", "number"] (sp_divided K)) (d_content : Dn Pg w K mg base "content" 43 ["one"] (sp_content K)) : Dn Pg w K mg base "plain" 44 ["one"] (sp_plain K) := by
  refine mkDn A sc_plain (fun _ _ _ _ _ _ us hl => match us, hl with | [_], _ => rfl) (fun vs H Q E ⟨_, e, _⟩ => by rw [e]; rfl) fun f cdv A outer s H vs Q E hr h => ?_
  refine ⟨_, (pss_cons (ps_if (pt_cmpR (op_eqDK (K := K) hr.units) (pv 0) (pe_tup pa_nil) (nomark _)) (pss_one (ps_ret (pe_tup pa_nil))) pss_nil)
      (pss_cons (ps_if (pt_cmpR op_lt (pe_ix (ix_tupK (K := K)) (pv 0) (pe_un un_neg pe_int) (fun _ _ => rfl)) pe_int (nomark _)) (pss_one (ps_ret (pe_own d_divided (hr.mono (by decide)) (by rfl) (pa_cons (pv 0) (pa_cons (pe_op op_sub pe_int (pe_own d_content (hr.mono (by decide)) (by rfl) (pa_cons (pv 0) pa_nil))) pa_nil))))) pss_nil)
      (pss_one (ps_ret (pe_own d_divided (hr.mono (by decide)) (by rfl) (pa_cons (pv 0) (pa_cons (pe_own d_content (hr.mono (by decide)) (by rfl) (pa_cons (pv 0) pa_nil)) pa_nil))))))), ?_⟩
  obtain ⟨v0, rfl, h⟩ := h
  obtain ⟨a, f, rfl, hf, lf, q⟩ := h
  refine ⟨_, rfl, by decide, fun p hp => eqD_0 hf hp fun b hb => ⟨b, rfl, ite2 (fun c => ?_) fun c => ?_⟩⟩
  · have c := hb.mp c
    exact ⟨by decide, fun p2 hp2 => q 0 (.inl ⟨c, rfl⟩) _ _ ((same_new hp).trans (same_new hp2)) (at_0 (tup_at (upd_same ..)))⟩
  · have c : f ≠ 0 := fun z => c (hb.mpr z)
    have s1 := same_new (o := .tup []) hp
    refine ⟨_, rfl, _, rfl, a, _, _, _, rfl, rfl, hf.s s1, atI_neg (pl_last c), _, _, rfl, rfl, _, rfl, ite2 (fun c2 => ?_) fun c2 => ?_⟩
    · have c2 := of_decide_eq_true c2
      obtain ⟨g, e, ne, hg⟩ := plOf_ct c (-1) (.inr rfl) (by omega)
      refine ⟨_, rfl, _, rfl, _, rfl, a, f, rfl, hf.s s1, _, _, rfl, rfl, _, _, rfl, a, g, _, rfl, rfl, ?_, ?_, ?_, (q g hg).to s1⟩
      · rw [show (0 : Int) - ct f = -1 * ct f by omega, ← e]
        exact hf.s s1
      · omega
      · rw [e, P.len_kmul ne] at lf
        exact lf
    · have c2 : ¬ P.lc f < 0 := fun z => c2 (decide_eq_true z)
      have := P.lc_ne c
      obtain ⟨g, e, ne, hg⟩ := plOf_ct c 1 (.inl rfl) (by omega)
      refine ⟨_, rfl, _, rfl, _, rfl, a, f, rfl, hf.s s1, _, _, rfl, a, g, _, rfl, rfl, ?_, ?_, ?_, (q g hg).to s1⟩
      · rw [show ct f = 1 * ct f by omega, ← e]
        exact hf.s s1
      · omega
      · rw [e, P.len_kmul ne] at lf
        exact lf
end
end RH
/-! W8: division with a rest. -/
namespace RH
open PySem PySem.Spec PyProof.Rows L2 RC
section
variable {Pg : Program} {w : World} {K : PySem.W.Frag} {mg : Str → Option Value} {base : Heap}
theorem sz1 : 1 ≤ sizeLine := by decide
theorem sz2 : 2 ≤ sizeLine := by decide
theorem sz3 : 3 ≤ sizeLine := by decide
/-- a new tuple of a number and two polynomials -/
def give3 (K : PySem.W.Frag) (s : Int) (q r : P) (H : Hp) (Q : VK) : Prop := ∀ H' p a b, Same H H' → H' p = some (.tup [.int s, .ref a, .ref b]) → AtP K H' a q → AtP K H' b r → Q (.ref p) H'
def Cp3 (s : Int) (q r : P) : Prop := ∀ e : Int, e ∣ s → P.K e ∣ q → P.K e ∣ r → e.natAbs = 1
def sp_least_parted (K : PySem.W.Frag) : Sp := mk3 fun x y z H Q => ∃ (a b : Addr) (s : Int) (q r : P), x = .int s ∧ y = .ref a ∧ z = .ref b ∧ AtP K H a q ∧ AtP K H b r ∧ 0 < s ∧ P.len q ≤ 1000 ∧ P.len r ≤ 1000 ∧ ∀ d s' q' r', 0 < d → s = d * s' → q = P.K d * q' → r = P.K d * r' → Cp3 s' q' r' → give3 K s' q' r' H Q
theorem least_ex {s : Int} (hs : 0 < s) (q r : P) : ∃ s' q' r', 0 < gl [s, ct q, ct r] ∧ s = gl [s, ct q, ct r] * s' ∧ q = P.K (gl [s, ct q, ct r]) * q' ∧ r = P.K (gl [s, ct q, ct r]) * r' ∧ Cp3 s' q' r' := by
  have h1 : gl [s, ct q, ct r] ∣ s := gl_dvd (by simp)
  have h2 : gl [s, ct q, ct r] ∣ ct q := gl_dvd (by simp)
  have h3 : gl [s, ct q, ct r] ∣ ct r := gl_dvd (by simp)
  have hm : ∀ e : Int, e ∣ s → e ∣ ct q → e ∣ ct r → e ∣ gl [s, ct q, ct r] := fun e a b c => gl_max fun x hx => by
    simp at hx
    rcases hx with rfl | rfl | rfl <;> assumption
  have hn := gl_nn [s, ct q, ct r]
  generalize gl [s, ct q, ct r] = d at h1 h2 h3 hm hn ⊢
  have hd : 0 < d := by
    rcases Int.lt_or_eq_of_le hn with h | h
    · exact h
    · rw [← h] at h1
      have := Int.zero_dvd.mp h1
      omega
  have kd : ∀ f : P, d ∣ ct f → ∃ f', f = P.K d * f' := fun f ⟨z, hz⟩ => by
    obtain ⟨y, hy⟩ := ct_dvd f
    refine ⟨P.K z * y, ?_⟩
    conv => lhs; rw [hy, hz, P.K_mulK]
    grind
  obtain ⟨s', e1⟩ := h1
  obtain ⟨q', e2⟩ := kd q h2
  obtain ⟨r', e3⟩ := kd r h3
  refine ⟨s', q', r', hd, e1, e2, e3, fun e a b c => ?_⟩
  have up : ∀ f f' : P, f = P.K d * f' → P.K e ∣ f' → d * e ∣ ct f := fun f f' q ⟨z, hz⟩ => ct_max ⟨z, by rw [q, hz, P.K_mulK]; grind⟩
  have h := hm (d * e) (by rw [e1]; exact Int.mul_dvd_mul (Int.dvd_refl d) a) (up q q' e2 b) (up r r' e3 c)
  obtain ⟨z, hz⟩ := h
  have e4 : d * (e * z) = d * 1 := by rw [← Int.mul_assoc, ← hz, Int.mul_one]
  have e5 := congrArg Int.natAbs (Int.eq_of_mul_eq_mul_left (by omega) e4)
  rw [Int.natAbs_mul] at e5
  exact Nat.eq_one_of_mul_eq_one_right e5
abbrev s_least_parted : Stmt := topS 22
abbrev N_least_parted : List Str := ["scale", "quotient", "rest", "shared_part"]
theorem sc_least_parted : FnScope N_least_parted ["scale", "quotient", "rest"] (defScope s_least_parted) := ⟨rfl, rfl, rfl, by decide +kernel, rfl, by decide +kernel, by decide +kernel⟩
theorem ok_least_parted (A : At K mg "least_parted" s_least_parted) (T : Txt mg) (d_divisor_ofL : Dn Pg w K mg base "divisor_of" 42 ["some"] (sp_divisor_ofL K)) (d_content : Dn Pg w K mg base "content" 43 ["one"] (sp_content K)) (d_divided : Dn Pg w K mg base "divided" 41 ["one", "number"] (sp_divided K)) (B : Big Pg base) : Dn Pg w K mg base "least_parted" 44 ["scale", "quotient", "rest"] (sp_least_parted K) := by
  refine mkDn A sc_least_parted (fun _ _ _ _ _ _ us hl => match us, hl with | [_, _, _], _ => rfl) (fun vs H Q E ⟨_, _, _, e, _⟩ => by rw [e]; rfl) fun f cdv A outer s H vs Q E hr h => ?_
  refine ⟨_, (pss_cons (ps_set (i := 3) sc_least_parted.nd rfl (.inl rfl) (pe_own d_divisor_ofL (hr.mono (by decide)) (by rfl) (pa_cons (pe_lst (pa_cons (pv 0) (pa_cons (pe_own d_content (hr.mono (by decide)) (by rfl) (pa_cons (pv 1) pa_nil)) (pa_cons (pe_own d_content (hr.mono (by decide)) (by rfl) (pa_cons (pv 2) pa_nil)) pa_nil)))) pa_nil)))
      (pss_one (ps_ret (pe_tup (pa_cons (pe_op (op_fdivB B.ns B.tr (dp100 hr) rfl rfl rfl rfl rfl) (pv 0) (pv 3)) (pa_cons (pe_own d_divided (hr.mono (by decide)) (by rfl) (pa_cons (pv 1) (pa_cons (pv 3) pa_nil))) (pa_cons (pe_own d_divided (hr.mono (by decide)) (by rfl) (pa_cons (pv 2) (pa_cons (pv 3) pa_nil))) pa_nil))))))), ?_⟩
  obtain ⟨v0, v1, v2, rfl, h⟩ := h
  obtain ⟨a, b, s, q, r, rfl, rfl, rfl, hq, hr', hs, lq, lr, go⟩ := h
  obtain ⟨s', q', r', d0, es, eq, er, cp⟩ := least_ex hs q r
  generalize eD : gl [s, ct q, ct r] = d at d0 es eq er
  refine ⟨_, rfl, _, rfl, _, rfl, a, q, rfl, hq, _, rfl, _, rfl, b, r, rfl, hr', sz3, fun p hp => ⟨_, rfl, p, [s, ct q, ct r], rfl, lst_at (upd_same ..), ?_⟩⟩
  rw [eD]
  have s1 := same_new (o := .lst [.int s, .int (ct q), .int (ct r)]) hp
  have hl : ∀ f f' : P, f = P.K d * f' → P.len f' = P.len f := fun f f' e => by rw [e, P.len_kmul (by omega)]
  refine ⟨_, rfl, _, rfl, _, _, rfl, rfl, by omega, ?_⟩
  refine ⟨_, rfl, _, rfl, _, _, rfl, a, q', d, rfl, rfl, eq ▸ hq.s s1, by omega, by rw [hl q q' eq]; exact lq, fun H2 p2 s2 t2 => ?_⟩
  refine ⟨_, rfl, _, rfl, _, _, rfl, b, r', d, rfl, rfl, er ▸ (hr'.s s1).s s2, by omega, by rw [hl r r' er]; exact lr, fun H3 p3 s3 t3 => ?_⟩
  refine ⟨sz3, fun p4 hp4 => ?_⟩
  have s4 := same_new (o := .tup [.int (s.fdiv d), .ref p2, .ref p3]) hp4
  refine go d s' q' r' d0 es eq er cp _ _ p2 p3 (((s1.trans s2).trans s3).trans s4) ?_ ((t2.s s3).s s4) (t3.s s4)
  rw [upd_same]
  show some (HO.tup [V.int (s.fdiv d), _, _]) = _
  rw [es, Int.mul_fdiv_cancel_left _ (by omega)]
/-- one turn of the division -/
theorem pd_step {r g : P} {ro be : Nat} (hg : g ≠ 0) (hl : P.len g ≤ P.len r) (hr : P.Bt ro r) (hb : P.Bt be g) {d c x : Int} (hd : d = ((Int.gcd (P.lc r) (P.lc g) : Nat) : Int)) (hc : c = if (P.lc g).fdiv d < 0 then - (P.lc g).fdiv d else (P.lc g).fdiv d) (hx : x = (c * P.lc r).fdiv (P.lc g)) :
    d ≠ 0 ∧ P.lc g ≠ 0 ∧ 1 ≤ c ∧ c.natAbs < 2 ^ be ∧ x.natAbs < 2 ^ ro ∧ P.len (P.K c * r - P.mon x (P.len r - P.len g) * g) < P.len r ∧ P.Bt (ro + be + 1) (P.K c * r - P.mon x (P.len r - P.len g) * g) ∧ x ≠ 0 := by
  have hlg := P.len_pos.mpr hg
  have hr0 : r ≠ 0 := P.len_pos.mp (by omega)
  have g0 := P.lc_ne hg
  have r0 := P.lc_ne hr0
  have hd1 : d ∣ P.lc r := by rw [hd]; exact Int.gcd_dvd_left ..
  have hd2 : d ∣ P.lc g := by rw [hd]; exact Int.gcd_dvd_right ..
  have hdn : d ≠ 0 := fun z => by
    rw [z] at hd1
    exact r0 (Int.zero_dvd.mp hd1)
  obtain ⟨v, hv⟩ := hd1
  obtain ⟨u, hu⟩ := hd2
  have hfu : (P.lc g).fdiv d = u := by rw [hu, Int.mul_fdiv_cancel_left _ hdn]
  rw [hfu] at hc
  have u0 : u ≠ 0 := fun z => g0 (by rw [hu, z, Int.mul_zero])
  have v0 : v ≠ 0 := fun z => r0 (by rw [hv, z, Int.mul_zero])
  obtain ⟨σ, hσ, ec⟩ : ∃ σ : Int, (σ = 1 ∨ σ = -1) ∧ c = σ * u := by
    rw [hc]
    split
    · exact ⟨-1, .inr rfl, by omega⟩
    · exact ⟨1, .inl rfl, by omega⟩
  have ex : x = σ * v := by
    rw [hx, ec]
    have : σ * u * P.lc r = P.lc g * (σ * v) := by rw [hv, hu]; grind
    rw [this, Int.mul_fdiv_cancel_left _ g0]
  have cpos : 1 ≤ c := by
    rw [hc]
    split <;> omega
  have ab : ∀ y z : Int, y = d * z → z.natAbs ≤ y.natAbs := fun y z e => by
    rw [e, Int.natAbs_mul]
    exact Nat.le_mul_of_pos_left _ (by omega)
  have cab : c.natAbs = u.natAbs := by rw [ec]; rcases hσ with rfl | rfl <;> omega
  have xab : x.natAbs = v.natAbs := by rw [ex]; rcases hσ with rfl | rfl <;> omega
  have c1 : c.natAbs < 2 ^ be := by rw [cab]; exact Nat.lt_of_le_of_lt (ab _ _ hu) hb.lc
  have x1 : x.natAbs < 2 ^ ro := by rw [xab]; exact Nat.lt_of_le_of_lt (ab _ _ hv) hr.lc
  have key : c * P.lc r = x * P.lc g := by rw [ec, ex, hv, hu]; grind
  have em : ∀ k, (P.K c * r - P.mon x (P.len r - P.len g) * g).c k = c * r.c k - if P.len r - P.len g ≤ k then x * g.c (k - (P.len r - P.len g)) else 0 := fun k => by
    rw [P.c_sub, P.K_mul, P.mon_mul]
  refine ⟨hdn, g0, cpos, c1, x1, ?_, fun k => ?_, ?_⟩
  · have : P.Z (P.K c * r - P.mon x (P.len r - P.len g) * g) (P.len r - 1) := fun k hk => by
      rw [em, if_pos (by omega)]
      by_cases z : k = P.len r - 1
      · have e1 : k - (P.len r - P.len g) = P.len g - 1 := by omega
        rw [e1, z]
        show c * P.lc r - x * P.lc g = 0
        omega
      · rw [P.len_Z r k (by omega), P.len_Z g _ (by omega)]
        omega
    have := P.len_min this
    omega
  · rw [em]
    have b1 : (c * r.c k).natAbs < 2 ^ (ro + be) := by
      rw [Int.natAbs_mul, Nat.add_comm, Nat.pow_add]
      exact Nat.mul_lt_mul'' c1 (hr k)
    have b2 : (if P.len r - P.len g ≤ k then x * g.c (k - (P.len r - P.len g)) else 0).natAbs < 2 ^ (ro + be) := by
      split
      · rw [Int.natAbs_mul, Nat.pow_add]
        exact Nat.mul_lt_mul'' x1 (hb _)
      · exact Nat.two_pow_pos _
    rw [Nat.pow_succ]
    omega
  · rw [ex]
    rcases hσ with rfl | rfl <;> omega
/-- what a division tells -/
structure Pd (f g : P) (al be : Nat) (s : Int) (q r : P) : Prop where
  pos : 1 ≤ s
  eq : P.K s * f = q * g + r
  len : P.len r < P.len g
  cop : Cp3 s q r
  bs : s.natAbs < 2 ^ (al + (P.len f + 1 - P.len g) * (be + 1))
  bq : P.Bt (al + (P.len f + 1 - P.len g) * (be + 1)) q
  br : P.Bt (al + (P.len f + 1 - P.len g) * (be + 1)) r
  lq : P.len q ≤ P.len f + 1 - P.len g
theorem ofL_one (x : Int) : ofL [x] = P.K x := P.ext fun k => by
  rw [c_ofL, P.c_K]
  cases k with
  | zero => rfl
  | succ k => rw [if_neg (by omega)]; rfl
def sp_parted (K : PySem.W.Frag) : Sp := mk2 fun x y H Q => ∃ (a b : Addr) (f g : P) (al be : Nat), x = .ref a ∧ y = .ref b ∧ AtP K H a f ∧ AtP K H b g ∧ g ≠ 0 ∧ P.len f ≤ 20 ∧ P.len g ≤ 20 ∧ P.Bt al f ∧ P.Bt be g ∧ 1 ≤ al ∧ al + 21 * (be + 1) ≤ 40000000 ∧ ∀ s q r, Pd f g al be s q r → give3 K s q r H Q
/-- while it divides -/
structure PdI (f g : P) (al be i : Nat) (s : Int) (q r : P) : Prop where
  pos : 1 ≤ s
  eq : P.K s * f = q * g + r
  len : P.len r + i ≤ P.len f
  le : i ≤ P.len f + 1 - P.len g
  bs : s.natAbs < 2 ^ (al + i * (be + 1))
  bq : P.Bt (al + i * (be + 1)) q
  br : P.Bt (al + i * (be + 1)) r
  lq : P.len q ≤ P.len f + 1 - P.len g
theorem PdI.done {f g : P} {al be i : Nat} {s : Int} {q r : P} (h : PdI f g al be i s q r) (hl : P.len r < P.len g) {d s' : Int} {q' r' : P} (hd : 0 < d) (es : s = d * s') (eq : q = P.K d * q') (er : r = P.K d * r') (cp : Cp3 s' q' r') : Pd f g al be s' q' r' := by
  have hle : al + i * (be + 1) ≤ al + (P.len f + 1 - P.len g) * (be + 1) := Nat.add_le_add_left (Nat.mul_le_mul_right _ h.le) _
  have ab : ∀ y z : Int, y = d * z → z.natAbs ≤ y.natAbs := fun y z e => by
    rw [e, Int.natAbs_mul]
    exact Nat.le_mul_of_pos_left _ (by omega)
  have abp : ∀ (y z : P), y = P.K d * z → P.Bt (al + i * (be + 1)) y → P.Bt (al + (P.len f + 1 - P.len g) * (be + 1)) z := fun y z e b k => by
    have := ab (y.c k) (z.c k) (by rw [e, P.K_mul])
    exact Nat.lt_of_le_of_lt this ((b.mono hle) k)
  refine ⟨?_, ?_, ?_, cp, ?_, abp _ _ eq h.bq, abp _ _ er h.br, ?_⟩
  · have := h.pos
    rw [es] at this
    have := Int.pos_of_mul_pos_right (show 0 < d * s' by omega) hd
    omega
  · refine P.cancel (P.K_ne (show d ≠ 0 by omega)) ?_
    have := h.eq
    rw [es, eq, er, P.K_mulK] at this
    grind
  · rw [er, P.len_kmul (by omega)] at hl
    exact hl
  · exact Nat.lt_of_le_of_lt (ab _ _ es) (Nat.lt_of_lt_of_le h.bs (Nat.pow_le_pow_right (by decide) hle))
  · have := h.lq
    rw [eq, P.len_kmul (by omega)] at this
    exact this
theorem PdI.next {f g : P} {al be i : Nat} {s : Int} {q r : P} (h : PdI f g al be i s q r) (hg : g ≠ 0) (hl : P.len g ≤ P.len r) {c x : Int} (c1 : 1 ≤ c) (cb : c.natAbs < 2 ^ be) (xb : x.natAbs < 2 ^ (al + i * (be + 1))) (hlen : P.len (P.K c * r - P.mon x (P.len r - P.len g) * g) < P.len r)
    (hbt : P.Bt (al + i * (be + 1) + be + 1) (P.K c * r - P.mon x (P.len r - P.len g) * g)) : PdI f g al be (i + 1) (s * c) (P.K c * q + P.mon x (P.len r - P.len g)) (P.K c * r - P.mon x (P.len r - P.len g) * g) := by
  have e : al + (i + 1) * (be + 1) = al + i * (be + 1) + be + 1 := by rw [Nat.succ_mul]; omega
  have hle := h.len
  have hl1 := h.le
  refine ⟨?_, ?_, by omega, by omega, ?_, ?_, by rw [e]; exact hbt, ?_⟩
  · have := h.pos
    have := Int.mul_pos (show 0 < s by omega) (show 0 < c by omega)
    omega
  · have := h.eq
    rw [P.K_mulK]
    grind
  · rw [e, Int.natAbs_mul, show al + i * (be + 1) + be + 1 = (al + i * (be + 1)) + (be + 1) by omega, Nat.pow_add]
    refine Nat.mul_lt_mul'' h.bs (Nat.lt_of_lt_of_le cb (Nat.pow_le_pow_right (by decide) (by omega)))
  · rw [e]
    intro k
    rw [P.c_add, P.K_mul, P.c_mon]
    have b1 : (c * q.c k).natAbs < 2 ^ (al + i * (be + 1) + be) := by
      rw [Int.natAbs_mul, Nat.add_comm, Nat.pow_add]
      exact Nat.mul_lt_mul'' cb (h.bq k)
    have b2 : (if k = P.len r - P.len g then x else 0).natAbs < 2 ^ (al + i * (be + 1) + be) := by
      split
      · exact Nat.lt_of_lt_of_le xb (Nat.pow_le_pow_right (by decide) (by omega))
      · exact Nat.two_pow_pos _
    rw [Nat.pow_succ]
    omega
  · refine P.len_min (.add (((P.len_Z q).kmul c).mono h.lq) ((P.mon_Z _ _).mono ?_))
    omega
abbrev s_parted : Stmt := topS 23
abbrev N_parted : List Str := ["one", "other", "scale", "quotient", "rest", "shared_part", "factor", "step"]
theorem sc_parted : FnScope N_parted ["one", "other"] (defScope s_parted) := ⟨rfl, rfl, rfl, by decide +kernel, rfl, by decide +kernel, by decide +kernel⟩
theorem ok_parted (A : At K mg "parted" s_parted) (T : Txt mg) (d_degree : Dn Pg w K mg base "degree" 41 ["one"] (sp_degree K)) (d_divisor : Dn Pg w K mg base "divisor" 41 ["one", "other"] (sp_divisor K)) (d_raised : Dn Pg w K mg base "raised" 41 ["one", "many"] (sp_raised K)) (d_poly : Dn Pg w K mg base "poly" 41 ["weights"] (sp_poly K)) (d_p_plus : Dn Pg w K mg base "p_plus" 42 ["one", "other"] (sp_p_plus K)) (d_scaled : Dn Pg w K mg base "scaled" 42 ["one", "factor"] (sp_scaled K)) (d_p_minus : Dn Pg w K mg base "p_minus" 43 ["one", "other"] (sp_p_minus K)) (d_p_times : Dn Pg w K mg base "p_times" 42 ["one", "other"] (sp_p_times K)) (d_least_parted : Dn Pg w K mg base "least_parted" 44 ["scale", "quotient", "rest"] (sp_least_parted K)) (B : Big Pg base) : Dn Pg w K mg base "parted" 45 ["one", "other"] (sp_parted K) := by
  refine mkDn A sc_parted (fun _ _ _ _ _ _ us hl => match us, hl with | [_, _], _ => rfl) (fun vs H Q E ⟨_, _, e, _⟩ => by rw [e]; rfl) fun f cdv A outer s H vs Q E hr h => ?_
  refine ⟨_, (pss_cons (ps_if (pt_cmpR (op_eqDK (K := K) hr.units) (pv 1) (pe_tup pa_nil) (nomark _)) (pss_one ps_never) pss_nil)
      (pss_cons (ps_set (i := 2) sc_parted.nd rfl (.inl rfl) pe_int)
      (pss_cons (ps_set (i := 3) sc_parted.nd rfl (.inl rfl) (pe_tup pa_nil))
      (pss_cons (ps_set (i := 4) sc_parted.nd rfl (.inl rfl) (pv 0))
      (pss_cons (ps_while PassesOwn.never (pt_cmpR op_ge (pe_own d_degree (hr.mono (by decide)) (by rfl) (pa_cons (pv 4) pa_nil)) (pe_own d_degree (hr.mono (by decide)) (by rfl) (pa_cons (pv 1) pa_nil)) (nomark _)) (pss_cons (ps_set (i := 5) sc_parted.nd rfl (.inl rfl) (pe_own d_divisor (hr.mono (by decide)) (by rfl) (pa_cons (pe_ix (ix_tupK (K := K)) (pv 4) (pe_un un_neg pe_int) (fun _ _ => rfl)) (pa_cons (pe_ix (ix_tupK (K := K)) (pv 1) (pe_un un_neg pe_int) (fun _ _ => rfl)) pa_nil))))
      (pss_cons (ps_set (i := 6) sc_parted.nd rfl (.inl rfl) (pe_callB call_abs (by rfl) T.abs (by decide +kernel) (pa_cons (pe_op (op_fdivB B.ns B.tr (dp100 hr) rfl rfl rfl rfl rfl) (pe_ix (ix_tupK (K := K)) (pv 1) (pe_un un_neg pe_int) (fun _ _ => rfl)) (pv 5)) pa_nil)))
      (pss_cons (ps_set (i := 7) sc_parted.nd rfl (.inl rfl) (pe_own d_raised (hr.mono (by decide)) (by rfl) (pa_cons (pe_own d_poly (hr.mono (by decide)) (by rfl) (pa_cons (pe_lst (pa_cons (pe_op (op_fdivB B.ns B.tr (dp100 hr) rfl rfl rfl rfl rfl) (pe_op op_mulB (pv 6) (pe_ix (ix_tupK (K := K)) (pv 4) (pe_un un_neg pe_int) (fun _ _ => rfl))) (pe_ix (ix_tupK (K := K)) (pv 1) (pe_un un_neg pe_int) (fun _ _ => rfl))) pa_nil)) pa_nil)) (pa_cons (pe_op op_sub (pe_own d_degree (hr.mono (by decide)) (by rfl) (pa_cons (pv 4) pa_nil)) (pe_own d_degree (hr.mono (by decide)) (by rfl) (pa_cons (pv 1) pa_nil))) pa_nil))))
      (pss_cons (ps_set (i := 2) sc_parted.nd rfl (.inl rfl) (pe_op op_mulB (pv 2) (pv 6)))
      (pss_cons (ps_set (i := 3) sc_parted.nd rfl (.inl rfl) (pe_own d_p_plus (hr.mono (by decide)) (by rfl) (pa_cons (pe_own d_scaled (hr.mono (by decide)) (by rfl) (pa_cons (pv 3) (pa_cons (pv 6) pa_nil))) (pa_cons (pv 7) pa_nil))))
      (pss_one (ps_set (i := 4) sc_parted.nd rfl (.inl rfl) (pe_own d_p_minus (hr.mono (by decide)) (by rfl) (pa_cons (pe_own d_scaled (hr.mono (by decide)) (by rfl) (pa_cons (pv 4) (pa_cons (pv 6) pa_nil))) (pa_cons (pe_own d_p_times (hr.mono (by decide)) (by rfl) (pa_cons (pv 7) (pa_cons (pv 1) pa_nil))) pa_nil)))))))))))
      (pss_one (ps_ret (pe_own d_least_parted (hr.mono (by decide)) (by rfl) (pa_cons (pv 2) (pa_cons (pv 3) (pa_cons (pv 4) pa_nil))))))))))), ?_⟩
  obtain ⟨v0, v1, rfl, h⟩ := h
  obtain ⟨a, b, f, g, al, be, rfl, rfl, hf, hg, g0, lf, lg, ha, hb, h1, hN, go⟩ := h
  have hlg := P.len_pos.mpr g0
  refine ⟨_, rfl, by decide, fun p hp => eqD_0 hg hp fun bb hbb => ⟨bb, rfl, ite2 (fun c => absurd (hbb.mp c) g0) fun c => ?_⟩⟩
  have s1 := same_new (o := .tup []) hp
  refine ⟨by decide, fun p2 hp2 => ⟨_, rfl, ?_⟩⟩
  have s2 := s1.trans (same_new (o := .tup []) hp2)
  refine ⟨fun m σ H' => Same H H' ∧ ∃ (i : Nat) (s : Int) (q r : P) (qa ra : Addr) (u5 u6 u7 : Option V), σ = [some (.ref a), some (.ref b), some (.int s), some (.ref qa), some (.ref ra), u5, u6, u7] ∧ AtP K H' qa q ∧ AtP K H' ra r ∧ PdI f g al be i s q r ∧ m = P.len r, ⟨_, s2, 0, 1, 0, f, p2, a, none, none, none, rfl, at_0 (tup_at (upd_same ..)), hf.s s2, ?_, rfl⟩, ?_⟩
  · refine ⟨by decide, by rw [P.K_one]; grind, by omega, by omega, ?_, fun k => ?_, by rw [Nat.zero_mul]; exact ha, by rw [P.len_0]; omega⟩
    · have : 2 ^ 1 ≤ 2 ^ (al + 0 * (be + 1)) := Nat.pow_le_pow_right (by decide) (by omega)
      omega
    · rw [P.c_0]
      exact Nat.two_pow_pos _
  · rintro m σ H' ⟨s2, i, s, q, r, qa, ra, u5, u6, u7, rfl, hq, hra, I, rfl⟩
    have hle := I.len
    refine ⟨_, rfl, _, rfl, ra, r, rfl, hra, _, rfl, _, rfl, b, g, rfl, hg.s s2, _, _, rfl, rfl, _, rfl, ite2 (fun c => ?_) fun c => ?_⟩
    · have c := of_decide_eq_true c
      have hlr : P.len g ≤ P.len r := by omega
      have r0 : r ≠ 0 := P.len_pos.mp (by omega)
      generalize ed : ((Int.gcd (P.lc r) (P.lc g) : Nat) : Int) = d
      generalize ec : (if (P.lc g).fdiv d < 0 then - (P.lc g).fdiv d else (P.lc g).fdiv d) = cc
      generalize ex : (cc * P.lc r).fdiv (P.lc g) = x
      obtain ⟨d0, lg0, c1, cb, xb, hlen, hbt, x0⟩ := pd_step g0 hlr I.br hb ed.symm ec.symm ex.symm
      have him : i * (be + 1) ≤ 20 * (be + 1) := Nat.mul_le_mul_right _ (by omega)
      have hro : al + i * (be + 1) ≤ 40000000 := by omega
      have hN2 : al + i * (be + 1) + be ≤ 40000000 := by omega
      refine ⟨_, fun _ _ h => h, ?_⟩
      refine ⟨_, rfl, _, rfl, ra, _, _, _, rfl, rfl, hra, atI_neg (pl_last r0), _, rfl, _, rfl, b, _, _, _, rfl, rfl, hg.s s2, atI_neg (pl_last g0), _, _, rfl, _, _, rfl, rfl, ?_⟩
      rw [ed]
      refine ⟨_, rfl, _, rfl, b, _, _, _, rfl, rfl, hg.s s2, atI_neg (pl_last g0), _, rfl, _, _, rfl, rfl, d0, _, rfl, ?_⟩
      rw [ec]
      refine ⟨_, rfl, _, rfl, _, rfl, ra, _, _, _, rfl, rfl, hra, atI_neg (pl_last r0), _, _, rfl, rfl, mulOk cb (I.br.lc) (by omega), _, rfl, _, rfl, b, _, _, _, rfl, rfl, hg.s s2, atI_neg (pl_last g0), _, _, rfl, rfl, lg0, sz1, fun p3 hp3 => ⟨_, rfl, p3, [x], rfl, ?_, ?_⟩⟩
      · refine lst_at ?_
        rw [upd_same]
        show some (HO.lst [V.int ((cc * P.lc r).fdiv (P.lc g))]) = _
        rw [ex]
        rfl
      intro H2 p4 s4 t4
      have s5 := (s2.trans (same_new hp3)).trans s4
      have s5' := (same_new hp3).trans s4
      rw [ofL_one] at t4
      have em : P.mon 1 (P.len r - P.len g) * P.K x = P.mon x (P.len r - P.len g) := by rw [← P.mon_0, P.mon_mon, Int.one_mul, Nat.add_zero]
      have ek : V.int ((P.len r : Int) - 1 - ((P.len g : Int) - 1)) = V.int ((P.len r - P.len g : Nat) : Int) := congrArg V.int (by omega)
      refine ⟨_, rfl, _, rfl, ra, r, rfl, hra.s s5', _, rfl, _, rfl, b, g, rfl, hg.s s5, _, _, rfl, rfl, _, _, rfl, p4, P.K x, P.len r - P.len g, rfl, ek, t4, ?_, by omega, fun H3 p5 s6 t5 => ?_⟩
      · have := P.len_le_K x
        omega
      rw [em] at t5
      have s7 := s5.trans s6
      have s7' := s5'.trans s6
      refine ⟨_, rfl, _, rfl, _, _, rfl, rfl, mulOk I.bs cb (by omega), ?_⟩
      have lq := I.lq
      refine ⟨_, rfl, _, rfl, _, _, rfl, qa, q, cc, _, _, rfl, rfl, hq.s s7', I.bq, cb, by omega, by omega, fun H4 p6 s8 t6 => ?_⟩
      refine ⟨_, rfl, _, _, rfl, p6, p5, _, _, rfl, rfl, t6, t5.s s8, ?_, ?_, fun H5 p7 s9 t7 => ?_⟩
      · rw [P.len_kmul (by omega)]
        omega
      · have := P.len_min (P.mon_Z x (P.len r - P.len g))
        omega
      have s10 := s8.trans s9
      have s11 := s7'.trans s10
      refine ⟨_, rfl, _, rfl, _, _, rfl, ra, r, cc, _, _, rfl, rfl, hra.s s11, I.br, cb, by omega, by omega, fun H6 p8 s12 t8 => ?_⟩
      have s13 := (s2.trans s11).trans s12
      refine ⟨_, rfl, _, rfl, _, _, rfl, p5, b, P.mon x (P.len r - P.len g), g, al + i * (be + 1), be, rfl, rfl, (t5.s s10).s s12, hg.s s13, ?_, by omega, ?_, hb, by omega, fun H7 p9 s14 t9 => ?_⟩
      · have := P.len_min (P.mon_Z x (P.len r - P.len g))
        omega
      · intro k
        rw [P.c_mon]
        split
        · exact xb
        · exact Nat.two_pow_pos _
      refine ⟨_, _, rfl, p8, p9, _, _, al + i * (be + 1) + be, rfl, rfl, t8.s s14, t9, ?_, ?_, ?_, by omega, fun H8 p10 s15 t10 => ?_⟩
      · rw [P.len_kmul (by omega)]
        omega
      · have := P.len_min (Zmul (P.mon_Z x (P.len r - P.len g)) (P.len_Z g))
        omega
      · intro k
        rw [P.mon_mul]
        split
        · rw [Int.natAbs_mul, Nat.pow_add]
          exact Nat.mul_lt_mul'' xb (hb _)
        · exact Nat.two_pow_pos _
      have s16 := (s12.trans s14).trans s15
      exact ⟨_, hlen, (s2.trans s11).trans s16, i + 1, s * cc, _, _, p7, p10, _, _, _, rfl, t7.s s16, t10, I.next g0 hlr c1 cb xb hlen hbt, rfl⟩
    · have c : P.len r < P.len g := by
        have : ¬ ((P.len r : Int) - 1 ≥ (P.len g : Int) - 1) := fun z => c (decide_eq_true z)
        omega
      refine ⟨_, rfl, _, rfl, _, rfl, _, _, _, rfl, qa, ra, s, q, r, rfl, rfl, rfl, hq, hra, ?_, ?_, ?_, fun d s' q' r' d0 es eq er cp => ?_⟩
      · have := I.pos; omega
      · have := I.lq; omega
      · omega
      · exact fun H2 p3 a3 b3 s3 t3 u3 v3 => go s' q' r' (I.done c d0 es eq er cp) H2 p3 a3 b3 (s2.trans s3) t3 u3 v3
end
end RH
/-! W9: parts, common divisors. -/
namespace RH
open PySem PySem.Spec PyProof.Rows L2 RC
theorem eqI {a b : Int} : decide (V.int a = V.int b) = true ↔ a = b := ⟨fun h => by have := of_decide_eq_true h; injection this, fun h => decide_eq_true (by rw [h])⟩
theorem neI {a b : Int} : (!decide (V.int a = V.int b)) = true ↔ a ≠ b := by
  have := @eqI a b
  cases e : decide (V.int a = V.int b) with
  | true => rw [e] at this; exact ⟨fun z => (by cases z), fun z => absurd (this.mp rfl) z⟩
  | false => rw [e] at this; exact ⟨fun _ z => (by cases this.mpr z), fun _ => rfl⟩
theorem Pd.zero {f g : P} {al be : Nat} {s : Int} {q r : P} (h : Pd f g al be s q r) (hd : g ∣ f) : s = 1 ∧ r = 0 := by
  obtain ⟨d, rfl⟩ := hd
  have g0 : g ≠ 0 := P.len_pos.mp (by have := h.len; omega)
  have e : r = g * (P.K s * d - q) := by have := h.eq; grind
  have r0 : r = 0 := by
    refine Classical.byContradiction fun z => ?_
    have := P.dvd_len ⟨_, e⟩ z
    have := h.len
    omega
  refine ⟨?_, r0⟩
  have e2 : P.K s * d = q := by
    have e3 : P.K s * d - q = 0 := by
      refine Classical.byContradiction fun z => ?_
      exact P.mul_ne g0 z (by rw [← e]; exact r0)
    grind
  have := h.cop s (Int.dvd_refl s) ⟨d, e2.symm⟩ (by rw [r0]; exact P.dvd_zero _)
  have := h.pos
  omega
theorem Pd.one {f g : P} {al be : Nat} {s : Int} {q r : P} (h : Pd f g al be s q r) (hs : s = 1) (hr : r = 0) : f = g * q := by
  have := h.eq
  rw [hs, hr, P.K_one] at this
  grind
section
variable {Pg : Program} {w : World} {K : PySem.W.Frag} {mg : Str → Option Value} {base : Heap}
def sp_whole_part (K : PySem.W.Frag) : Sp := mk2 fun x y H Q => ∃ (a b : Addr) (f g : P) (al be : Nat), x = .ref a ∧ y = .ref b ∧ AtP K H a f ∧ AtP K H b g ∧ g ≠ 0 ∧ P.len f ≤ 20 ∧ P.len g ≤ 20 ∧ P.Bt al f ∧ P.Bt be g ∧ 1 ≤ al ∧ al + 21 * (be + 1) ≤ 40000000 ∧ (∀ d, f = g * d → giveP K d H Q) ∧ (¬ g ∣ f → ∀ H', Same H H' → Q .non H')
abbrev s_whole_part : Stmt := topS 24
abbrev N_whole_part : List Str := ["one", "other", "scale", "quotient", "rest"]
theorem sc_whole_part : FnScope N_whole_part ["one", "other"] (defScope s_whole_part) := ⟨rfl, rfl, rfl, by decide +kernel, rfl, by decide +kernel, by decide +kernel⟩
theorem ok_whole_part (A : At K mg "whole_part" s_whole_part) (T : Txt mg) (d_parted : Dn Pg w K mg base "parted" 45 ["one", "other"] (sp_parted K)) : Dn Pg w K mg base "whole_part" 46 ["one", "other"] (sp_whole_part K) := by
  refine mkDn A sc_whole_part (fun _ _ _ _ _ _ us hl => match us, hl with | [_, _], _ => rfl) (fun vs H Q E ⟨_, _, e, _⟩ => by rw [e]; rfl) fun f cdv A outer s H vs Q E hr h => ?_
  refine ⟨_, (pss_cons (ps_asg (pe_own d_parted (hr.mono (by decide)) (by rfl) (pa_cons (pv 0) (pa_cons (pv 1) pa_nil))) (pg_tupK (K := K) (n := 3) rfl (pgs_cons (pg_name (i := 2) sc_whole_part.nd rfl (.inl rfl)) (pgs_cons (pg_name (i := 3) sc_whole_part.nd rfl (.inl rfl)) (pgs_cons (pg_name (i := 4) sc_whole_part.nd rfl (.inl rfl)) pgs_nil)))))
      (pss_cons (ps_if (PW.pt (pw_or (pt_cmpR op_ne (pv 2) pe_int (nomark _)) (pw_or1 (pt_cmpR (op_neDK (K := K) hr.units) (pv 4) (pe_tup pa_nil) (nomark _))))) (pss_one (ps_ret pe_non)) pss_nil)
      (pss_one (ps_ret (pv 3))))), ?_⟩
  obtain ⟨v0, v1, rfl, h⟩ := h
  obtain ⟨a, b, f, g, al, be, rfl, rfl, hf, hg, g0, lf, lg, ha, hb, h1, hN, go, no⟩ := h
  refine ⟨_, rfl, _, rfl, _, _, rfl, a, b, f, g, al, be, rfl, rfl, hf, hg, g0, lf, lg, ha, hb, h1, hN, fun s q r D H2 p qa ra s2 t2 tq tr => ?_⟩
  refine ⟨p, _, rfl, tup_at t2, rfl, _, _, rfl, _, _, rfl, _, _, rfl, rfl, ?_⟩
  have no' : (s ≠ 1 ∨ r ≠ 0) → ∀ H', Same H H' → Q .non H' := fun z => no fun hd => by
    have := D.zero hd
    rcases z with z | z
    · exact z this.1
    · exact z this.2
  refine ⟨_, rfl, rfl, _, rfl, ite2 (fun c => ?_) fun c => ?_⟩
  · exact iteT (no' (.inl (neI.mp c)) _ s2)
  · have c : s = 1 := Classical.byContradiction fun z => c (neI.mpr z)
    refine ⟨_, rfl, by decide, fun p2 hp2 => neD_0 tr hp2 fun b hb => ⟨b, rfl, ite2 (fun c => ?_) fun c2 => ?_⟩⟩
    · exact no' (.inr (hb.mp c)) _ (s2.trans (same_new hp2))
    · have c2 : r = 0 := Classical.byContradiction fun z => c2 (hb.mpr z)
      have s3 := same_new (o := .tup []) hp2
      exact ⟨_, rfl, go q (D.one c c2) _ _ (s2.trans s3) (tq.s s3)⟩
/-- a row of three polynomials -/
def Row (K : PySem.W.Frag) (H : Hp) (p : Addr) (r u v : P) : Prop := ∃ a b c, SqT K H p [.ref a, .ref b, .ref c] ∧ AtP K H a r ∧ AtP K H b u ∧ AtP K H c v
theorem Row.s {H H' : Hp} {p : Addr} {r u v : P} (h : Row K H p r u v) (e : Same H H') : Row K H' p r u v :=
  let ⟨a, b, c, t, x, y, z⟩ := h
  ⟨a, b, c, Same.t e t, x.s e, y.s e, z.s e⟩
def giveR (K : PySem.W.Frag) (r u v : P) (H : Hp) (Q : VK) : Prop := ∀ H' p, Same H H' → Row K H' p r u v → Q (.ref p) H'
def sp_lightened (K : PySem.W.Frag) : Sp := mk1 fun x H Q => ∃ (p : Addr) (r u v : P), x = .ref p ∧ Row K H p r u v ∧ P.len r ≤ 1000 ∧ P.len u ≤ 1000 ∧ P.len v ≤ 1000 ∧ ∀ d r' u' v', 0 < d → r = P.K d * r' → u = P.K d * u' → v = P.K d * v' → giveR K r' u' v' H Q
abbrev s_lightened : Stmt := topS 25
abbrev N_lightened : List Str := ["row", "shared_part", "one"]
theorem sc_lightened : FnScope N_lightened ["row"] (defScope s_lightened) := ⟨rfl, rfl, rfl, by decide +kernel, rfl, by decide +kernel, by decide +kernel⟩
theorem ok_lightened (A : At K mg "lightened" s_lightened) (T : Txt mg) (d_divisor_ofL : Dn Pg w K mg base "divisor_of" 42 ["some"] (sp_divisor_ofL K)) (d_content : Dn Pg w K mg base "content" 43 ["one"] (sp_content K)) (d_divided : Dn Pg w K mg base "divided" 41 ["one", "number"] (sp_divided K)) : Dn Pg w K mg base "lightened" 44 ["row"] (sp_lightened K) := by
  refine mkDn A sc_lightened (fun _ _ _ _ _ _ us hl => match us, hl with | [_], _ => rfl) (fun vs H Q E ⟨_, e, _⟩ => by rw [e]; rfl) fun f cdv A outer s H vs Q E hr h => ?_
  refine ⟨_, (pss_cons (ps_set (i := 1) sc_lightened.nd rfl (.inl rfl) (pe_own d_divisor_ofL (hr.mono (by decide)) (by rfl) (pa_cons (pe_lc (own := [("one", 2)]) (g := gName 2) (tt := tYes) (by rfl) sc_lightened.nd (pi_tupK (K := K) (pv 0)) (blkOk_by (N := N_lightened) (sc := defScope s_lightened) (by decide +kernel)) (fun _ _ _ _ _ => (pg_name (i := 2) sc_lightened.nd rfl (.inl rfl))) (fun _ _ _ _ _ => pts_nil) (fun _ _ _ _ _ => (pe_own d_content (hr.mono (by decide)) (by rfl) (pa_cons (pv 2) pa_nil)))) pa_nil)))
      (pss_cons (ps_if (pt_cmpR op_eq (pv 1) pe_int (nomark _)) (pss_one (ps_ret (pv 0))) pss_nil)
      (pss_one (ps_ret (pe_tup (pa_cons (pe_own d_divided (hr.mono (by decide)) (by rfl) (pa_cons (pe_ix (ix_tupK (K := K)) (pv 0) pe_int (fun _ _ => rfl)) (pa_cons (pv 1) pa_nil))) (pa_cons (pe_own d_divided (hr.mono (by decide)) (by rfl) (pa_cons (pe_ix (ix_tupK (K := K)) (pv 0) pe_int (fun _ _ => rfl)) (pa_cons (pv 1) pa_nil))) (pa_cons (pe_own d_divided (hr.mono (by decide)) (by rfl) (pa_cons (pe_ix (ix_tupK (K := K)) (pv 0) pe_int (fun _ _ => rfl)) (pa_cons (pv 1) pa_nil))) pa_nil)))))))), ?_⟩
  obtain ⟨v0, rfl, h⟩ := h
  obtain ⟨p, r, u, v, rfl, ⟨a, b, c, hp, ha, hb, hc⟩, lr, lu, lv, go⟩ := h
  refine ⟨_, rfl, p, rfl, ⟨_, hp⟩, fun D hD => lc_tup (xs := [.ref a, .ref b, .ref c]) (fun i H' => Grow H D (([ct r, ct u, ct v].take i).map V.int) H') (.new hD) (fun i H' _ g => Same.t g.same hp) ?_ ?_⟩
  · intro i x H' hx g
    have hi := (List.getElem?_eq_some_iff.mp hx).1
    match i, hx, g with
    | 0, hx, g => cases hx; exact ⟨rfl, itT ⟨_, rfl, _, rfl, a, r, rfl, ha.s g.same, g.push hD (Same.refl _) (show 0 < 1000000 by decide) fun g => g⟩⟩
    | 1, hx, g => cases hx; exact ⟨rfl, itT ⟨_, rfl, _, rfl, b, u, rfl, hb.s g.same, g.push hD (Same.refl _) (show 1 < 1000000 by decide) fun g => g⟩⟩
    | 2, hx, g => cases hx; exact ⟨rfl, itT ⟨_, rfl, _, rfl, c, v, rfl, hc.s g.same, g.push hD (Same.refl _) (show 2 < 1000000 by decide) fun g => g⟩⟩
    | n + 3, hx, g => exact absurd (show n + 3 < 3 from hi) (by omega)
  · intro H2 g
    have s2 := g.same
    refine ⟨_, rfl, D, [ct r, ct u, ct v], rfl, lst_at g.d, ?_⟩
    have h1 : gl [ct r, ct u, ct v] ∣ ct r := gl_dvd (by simp)
    have h2 : gl [ct r, ct u, ct v] ∣ ct u := gl_dvd (by simp)
    have h3 : gl [ct r, ct u, ct v] ∣ ct v := gl_dvd (by simp)
    have hn := gl_nn [ct r, ct u, ct v]
    generalize gl [ct r, ct u, ct v] = d at h1 h2 h3 hn ⊢
    refine ⟨_, rfl, rfl, _, rfl, ite2 (fun z => ?_) fun z => ?_⟩
    · refine ⟨_, rfl, go 1 r u v (by decide) ?_ ?_ ?_ _ _ s2 ⟨a, b, c, Same.t s2 hp, ha.s s2, hb.s s2, hc.s s2⟩⟩ <;> (rw [P.K_one]; grind)
    · have z : d ≠ 0 := fun e => z (eqI.mpr e)
      have kd : ∀ f : P, d ∣ ct f → ∃ f', f = P.K d * f' ∧ P.len f' = P.len f := fun f ⟨z', hz⟩ => by
        obtain ⟨y, hy⟩ := ct_dvd f
        have : f = P.K d * (P.K z' * y) := by
          conv => lhs; rw [hy, hz, P.K_mulK]
          grind
        exact ⟨P.K z' * y, this, by rw [congrArg P.len this, P.len_kmul z]⟩
      obtain ⟨r', er, lr'⟩ := kd r h1
      obtain ⟨u', eu, lu'⟩ := kd u h2
      obtain ⟨v', ev, lv'⟩ := kd v h3
      refine ⟨_, rfl, p, _, _, _, rfl, rfl, Same.t s2 hp, atI_ok (by decide) rfl, _, rfl, _, _, rfl, a, r', d, rfl, rfl, er ▸ ha.s s2, z, by omega, fun H3 p3 s3 t3 => ?_⟩
      have s3' := s2.trans s3
      refine ⟨_, rfl, p, _, _, _, rfl, rfl, Same.t s3' hp, atI_ok (by decide) rfl, _, rfl, _, _, rfl, b, u', d, rfl, rfl, eu ▸ hb.s s3', z, by omega, fun H4 p4 s4 t4 => ?_⟩
      have s4' := s3'.trans s4
      refine ⟨_, rfl, p, _, _, _, rfl, rfl, Same.t s4' hp, atI_ok (by decide) rfl, _, rfl, _, _, rfl, c, v', d, rfl, rfl, ev ▸ hc.s s4', z, by omega, fun H5 p5 s5 t5 => ⟨sz3, fun p6 hp6 => ?_⟩⟩
      have s6 := same_new (o := .tup [.ref p3, .ref p4, .ref p5]) hp6
      exact go d r' u' v' (by omega) er eu ev _ _ ((s4'.trans s5).trans s6) ⟨p3, p4, p5, tup_at (upd_same ..), (t3.s (s4.trans s5)).s s6, (t4.s s5).s s6, t5.s s6⟩
end
end RH
/-! W10: the common divisor. -/
namespace RH
open PySem PySem.Spec PyProof.Rows L2 RC
theorem sm_bd {F : Nat → Int} {M : Nat} : ∀ n : Nat, (∀ i, i < n → (F i).natAbs ≤ M) → (sm n F).natAbs ≤ n * M
  | 0, _ => by show (0 : Int).natAbs ≤ _; omega
  | n + 1, h => by
    have h1 := sm_bd n fun i hi => h i (by omega)
    have h2 := h n (by omega)
    show (sm n F + F n).natAbs ≤ _
    rw [Nat.succ_mul]
    omega
theorem Bt_mul {f g : P} {a b c : Nat} (hf : P.Bt a f) (hg : P.Bt b g) (hl : P.len f ≤ 2 ^ c) : P.Bt (a + b + c) (f * g) := fun k => by
  rw [P.c_mul]
  have hF : ∀ i, (f.c i * g.c (k - i)).natAbs ≤ 2 ^ (a + b) - 1 := fun i => by
    have : (f.c i * g.c (k - i)).natAbs < 2 ^ (a + b) := by
      rw [Int.natAbs_mul, Nat.pow_add]
      exact Nat.mul_lt_mul'' (hf i) (hg _)
    omega
  have key : (sm (k + 1) (fun i => f.c i * g.c (k - i))).natAbs ≤ P.len f * (2 ^ (a + b) - 1) := by
    by_cases c : k + 1 ≤ P.len f
    · exact Nat.le_trans (sm_bd (k + 1) fun i _ => hF i) (Nat.mul_le_mul_right _ c)
    · rw [sm_more (n := P.len f) (by omega) fun i h1 h2 => by rw [P.len_Z f i h1, Int.zero_mul]]
      exact sm_bd _ fun i _ => hF i
  have h2 : P.len f * (2 ^ (a + b) - 1) ≤ 2 ^ c * (2 ^ (a + b) - 1) := Nat.mul_le_mul_right _ hl
  have h3 : 2 ^ c * (2 ^ (a + b) - 1) < 2 ^ c * 2 ^ (a + b) := Nat.mul_lt_mul_of_pos_left (by have := Nat.two_pow_pos (a + b); omega) (Nat.two_pow_pos c)
  rw [Nat.pow_add, Nat.mul_comm (2 ^ (a + b))]
  omega
theorem Bt_sub {f g : P} {a : Nat} (hf : P.Bt a f) (hg : P.Bt a g) : P.Bt (a + 1) (f - g) := fun k => by
  rw [P.c_sub, Nat.pow_succ]
  have := hf k
  have := hg k
  omega
theorem Bt_kmul {f : P} {a b : Nat} {z : Int} (hz : z.natAbs < 2 ^ a) (hf : P.Bt b f) : P.Bt (a + b) (P.K z * f) := fun k => by
  rw [P.K_mul, Int.natAbs_mul, Nat.pow_add]
  exact Nat.mul_lt_mul'' hz (hf k)
theorem Bt_div {f g : P} {a : Nat} {d : Int} (hd : d ≠ 0) (e : f = P.K d * g) (h : P.Bt a f) : P.Bt a g := fun k => by
  have := h k
  rw [e, P.K_mul, Int.natAbs_mul] at this
  exact Nat.lt_of_le_of_lt (Nat.le_mul_of_pos_left _ (by omega)) this
def bb (L : Nat) : Nat := 64 * 3 ^ (9 - L)
theorem bb_c (L1 L2 : Nat) (h1 : L1 ≤ 9) (h2 : L2 < L1) (h3 : 1 ≤ L2) {p : Nat → Nat → Bool} (h : (List.range 10).all (fun a => (List.range a).all fun b => b == 0 || p a b) = true) : p L1 L2 = true := by
  have a := List.all_eq_true.mp h L1 (List.mem_range.mpr (by omega))
  have b := List.all_eq_true.mp a L2 (List.mem_range.mpr h2)
  rw [Bool.or_eq_true, beq_iff_eq] at b
  rcases b with b | b
  · omega
  · exact b
theorem bb_all (L1 : Nat) (h1 : L1 ≤ 9) (L2 : Nat) (h2 : L2 < L1) (h3 : 1 ≤ L2) : bb L1 + (L1 + 1 - L2) * (bb (L1 - 1) + 1) ≤ bb (L2 - 1) ∧ bb (L2 - 1) + 4 * bb (L1 - 1) + 6 ≤ 4 * bb (L2 - 1) ∧ bb L1 + 21 * (bb (L1 - 1) + 1) ≤ 30000000 ∧ bb (L1 - 1) ≤ bb L2 ∧ bb L1 ≤ bb (L1 - 1) ∧ 1 ≤ bb L1 ∧ bb (L2 - 1) ≤ 1300000 := by
  refine ⟨?_, ?_, ?_, ?_, ?_, ?_, ?_⟩
  · exact of_decide_eq_true (bb_c L1 L2 h1 h2 h3 (p := fun L1 L2 => decide (bb L1 + (L1 + 1 - L2) * (bb (L1 - 1) + 1) ≤ bb (L2 - 1))) (by decide +kernel))
  · exact of_decide_eq_true (bb_c L1 L2 h1 h2 h3 (p := fun L1 L2 => decide (bb (L2 - 1) + 4 * bb (L1 - 1) + 6 ≤ 4 * bb (L2 - 1))) (by decide +kernel))
  · exact of_decide_eq_true (bb_c L1 L2 h1 h2 h3 (p := fun L1 L2 => decide (bb L1 + 21 * (bb (L1 - 1) + 1) ≤ 30000000)) (by decide +kernel))
  · exact of_decide_eq_true (bb_c L1 L2 h1 h2 h3 (p := fun L1 L2 => decide (bb (L1 - 1) ≤ bb L2)) (by decide +kernel))
  · exact of_decide_eq_true (bb_c L1 L2 h1 h2 h3 (p := fun L1 L2 => decide (bb L1 ≤ bb (L1 - 1))) (by decide +kernel))
  · exact of_decide_eq_true (bb_c L1 L2 h1 h2 h3 (p := fun L1 L2 => decide (1 ≤ bb L1)) (by decide +kernel))
  · exact of_decide_eq_true (bb_c L1 L2 h1 h2 h3 (p := fun L1 L2 => decide (bb (L2 - 1) ≤ 1300000)) (by decide +kernel))
theorem bb_0 (L1 : Nat) (h1 : L1 ≤ 9) (h2 : 1 ≤ L1) : 64 ≤ bb L1 ∧ 192 ≤ bb (L1 - 1) := by
  unfold bb
  have a : 3 ^ 0 ≤ 3 ^ (9 - L1) := Nat.pow_le_pow_right (by decide) (by omega)
  have b : 3 ^ 1 ≤ 3 ^ (9 - (L1 - 1)) := Nat.pow_le_pow_right (by decide) (by omega)
  omega
theorem sz0 : 0 ≤ sizeLine := Nat.zero_le _
theorem cf_1 : cf 1 = [1] := by unfold cf; rw [P.len_1]; rfl
theorem pl_1 : pl 1 = [.int 1] := by unfold pl; rw [cf_1]; rfl
theorem at_1 {K : PySem.W.Frag} {H : Hp} {p : Addr} (h : H p = some (.tup [.int 1])) : AtP K H p 1 := by unfold AtP; rw [pl_1]; exact tup_at h
/-- two rows of the common divisor -/
structure RI (f g r1 u1 v1 r2 u2 v2 : P) : Prop where
  e1 : u1 * f + v1 * g = r1
  e2 : u2 * f + v2 * g = r2
  lt : P.len r2 < P.len r1
  l9 : P.len r1 ≤ 9
  b1 : P.Bt (bb (P.len r1)) r1
  b2 : P.Bt (bb (P.len r1 - 1)) r2
  bu1 : P.Bt (4 * bb (P.len r1)) u1
  bv1 : P.Bt (4 * bb (P.len r1)) v1
  bu2 : P.Bt (4 * bb (P.len r1 - 1)) u2
  bv2 : P.Bt (4 * bb (P.len r1 - 1)) v2
  lu1 : P.len u1 ≤ 20 * (10 - P.len r1)
  lv1 : P.len v1 ≤ 20 * (10 - P.len r1)
  lu2 : P.len u2 ≤ 20 * (10 - P.len r1)
  lv2 : P.len v2 ≤ 20 * (10 - P.len r1)
  dv : ∀ h, P.Prim h → h ∣ r1 → h ∣ r2 → h ∣ f ∧ h ∣ g
theorem RI.start {f g : P} (lt : P.len g < P.len f) (l9 : P.len f ≤ 9) (hf : P.Bt 64 f) (hg : P.Bt 192 g) : RI f g f 1 0 g 0 1 := by
  obtain ⟨h1, h2⟩ := bb_0 (P.len f) l9 (by omega)
  have o : P.Bt 1 1 := fun k => by rw [P.c_1]; split <;> decide
  have z : P.Bt 1 0 := fun k => by rw [P.c_0]; decide
  exact ⟨by grind, by grind, lt, l9, hf.mono h1, hg.mono h2, o.mono (by omega), z.mono (by omega), z.mono (by omega), o.mono (by omega), by rw [P.len_1]; omega, by rw [P.len_0]; omega, by rw [P.len_0]; omega, by rw [P.len_1]; omega, fun h _ a b => ⟨a, b⟩⟩
theorem RI.next {f g r1 u1 v1 r2 u2 v2 : P} (h : RI f g r1 u1 v1 r2 u2 v2) (hr : r2 ≠ 0) {s : Int} {q r : P} (D : Pd r1 r2 (bb (P.len r1)) (bb (P.len r1 - 1)) s q r) {d : Int} {r' u' v' : P} (hd : 0 < d) (er : r = P.K d * r') (eu : P.K s * u1 - q * u2 = P.K d * u') (ev : P.K s * v1 - q * v2 = P.K d * v') : RI f g r2 u2 v2 r' u' v' := by
  have l2 := P.len_pos.mpr hr
  have lt := h.lt
  have l9 := h.l9
  have lq := D.lq
  obtain ⟨c1, c2, c3, c4, c5, c6, c7⟩ := bb_all (P.len r1) h.l9 (P.len r2) h.lt l2
  have dn : d ≠ 0 := by omega
  have lD := D.len
  have lr : P.len r = P.len r' := by rw [er, P.len_kmul dn]
  have bt : ∀ x1 x2 x' : P, P.Bt (4 * bb (P.len r1)) x1 → P.Bt (4 * bb (P.len r1 - 1)) x2 → P.K s * x1 - q * x2 = P.K d * x' → P.Bt (4 * bb (P.len r2 - 1)) x' := fun x1 x2 x' b1 b2 e => by
    have k1 := Bt_kmul D.bs b1
    have k2 := Bt_mul (c := 5) D.bq b2 (by omega)
    have k3 := Bt_sub (k1.mono (b := bb (P.len r2 - 1) + 4 * bb (P.len r1 - 1) + 5) (by omega)) (k2.mono (b := bb (P.len r2 - 1) + 4 * bb (P.len r1 - 1) + 5) (by omega))
    exact Bt_div dn e (k3.mono (by omega))
  have ln : ∀ x1 x2 x' : P, P.len x1 ≤ 20 * (10 - P.len r1) → P.len x2 ≤ 20 * (10 - P.len r1) → P.K s * x1 - q * x2 = P.K d * x' → P.len x' ≤ 20 * (10 - P.len r2) := fun x1 x2 x' b1 b2 e => by
    rw [← P.len_kmul dn x', ← e]
    refine P.len_min (.sub (((P.len_Z x1).kmul s).mono (by omega)) ((Zmul (P.len_Z q) (P.len_Z x2)).mono ?_))
    omega
  refine ⟨h.e2, ?_, by omega, by omega, h.b2.mono (by omega), Bt_div dn er (D.br.mono (by omega)), h.bu2.mono (by omega), h.bv2.mono (by omega), bt _ _ _ h.bu1 h.bu2 eu, bt _ _ _ h.bv1 h.bv2 ev, ?_, ?_, ln _ _ _ h.lu1 h.lu2 eu, ln _ _ _ h.lv1 h.lv2 ev, fun k hk a b => ?_⟩
  · refine P.cancel (P.K_ne dn) ?_
    have e1 := h.e1
    have e2 := h.e2
    have e3 := D.eq
    grind
  · have := h.lu2; omega
  · have := h.lv2; omega
  · have : k ∣ P.K s * r1 := by
      rw [D.eq]
      exact P.dvd_add (P.dvd_mul a q) (by rw [er]; exact P.dvd_mul b _)
    exact h.dv k hk (hk.gl (show s ≠ 0 by have := D.pos; omega) this) a
section
variable {Pg : Program} {w : World} {K : PySem.W.Frag} {mg : Str → Option Value} {base : Heap}
def sp_shared_rows (K : PySem.W.Frag) : Sp := mk2 fun x y H Q => ∃ (a b : Addr) (f g : P), x = .ref a ∧ y = .ref b ∧ AtP K H a f ∧ AtP K H b g ∧ P.len g < P.len f ∧ P.len f ≤ 9 ∧ P.Bt 64 f ∧ P.Bt 192 g ∧ ∀ r u v u2 v2, RI f g r u v 0 u2 v2 → giveR K r u v H Q
def sp_shared (K : PySem.W.Frag) : Sp := mk2 fun x y H Q => ∃ (a b : Addr) (f g : P), x = .ref a ∧ y = .ref b ∧ AtP K H a f ∧ AtP K H b g ∧ P.len g < P.len f ∧ P.len f ≤ 9 ∧ P.Bt 64 f ∧ P.Bt 192 g ∧ ∀ d, P.IsG f g d → giveP K d H Q
abbrev s_shared_rows : Stmt := topS 26
abbrev N_shared_rows : List Str := ["one", "other", "first_row", "second_row", "scale", "quotient", "rest", "left", "right"]
theorem sc_shared_rows : FnScope N_shared_rows ["one", "other"] (defScope s_shared_rows) := ⟨rfl, rfl, rfl, by decide +kernel, rfl, by decide +kernel, by decide +kernel⟩
theorem ok_shared_rows (A : At K mg "shared_rows" s_shared_rows) (T : Txt mg) (d_parted : Dn Pg w K mg base "parted" 45 ["one", "other"] (sp_parted K)) (d_p_minus : Dn Pg w K mg base "p_minus" 43 ["one", "other"] (sp_p_minus K)) (d_scaled : Dn Pg w K mg base "scaled" 42 ["one", "factor"] (sp_scaled K)) (d_p_times : Dn Pg w K mg base "p_times" 42 ["one", "other"] (sp_p_times K)) (d_lightened : Dn Pg w K mg base "lightened" 44 ["row"] (sp_lightened K)) : Dn Pg w K mg base "shared_rows" 46 ["one", "other"] (sp_shared_rows K) := by
  refine mkDn A sc_shared_rows (fun _ _ _ _ _ _ us hl => match us, hl with | [_, _], _ => rfl) (fun vs H Q E ⟨_, _, e, _⟩ => by rw [e]; rfl) fun f cdv A outer s H vs Q E hr h => ?_
  refine ⟨_, (pss_cons (ps_set (i := 2) sc_shared_rows.nd rfl (.inl rfl) (pe_tup (pa_cons (pv 0) (pa_cons (pe_tup (pa_cons pe_int pa_nil)) (pa_cons (pe_tup pa_nil) pa_nil)))))
      (pss_cons (ps_set (i := 3) sc_shared_rows.nd rfl (.inl rfl) (pe_tup (pa_cons (pv 1) (pa_cons (pe_tup pa_nil) (pa_cons (pe_tup (pa_cons pe_int pa_nil)) pa_nil)))))
      (pss_cons (ps_while PassesOwn.never (pt_cmpR (op_neDK (K := K) hr.units) (pe_ix (ix_tupK (K := K)) (pv 3) pe_int (fun _ _ => rfl)) (pe_tup pa_nil) (nomark _)) (pss_cons (ps_asg (pe_own d_parted (hr.mono (by decide)) (by rfl) (pa_cons (pe_ix (ix_tupK (K := K)) (pv 2) pe_int (fun _ _ => rfl)) (pa_cons (pe_ix (ix_tupK (K := K)) (pv 3) pe_int (fun _ _ => rfl)) pa_nil))) (pg_tupK (K := K) (n := 3) rfl (pgs_cons (pg_name (i := 4) sc_shared_rows.nd rfl (.inl rfl)) (pgs_cons (pg_name (i := 5) sc_shared_rows.nd rfl (.inl rfl)) (pgs_cons (pg_name (i := 6) sc_shared_rows.nd rfl (.inl rfl)) pgs_nil)))))
      (pss_cons (ps_set (i := 7) sc_shared_rows.nd rfl (.inl rfl) (pe_own d_p_minus (hr.mono (by decide)) (by rfl) (pa_cons (pe_own d_scaled (hr.mono (by decide)) (by rfl) (pa_cons (pe_ix (ix_tupK (K := K)) (pv 2) pe_int (fun _ _ => rfl)) (pa_cons (pv 4) pa_nil))) (pa_cons (pe_own d_p_times (hr.mono (by decide)) (by rfl) (pa_cons (pv 5) (pa_cons (pe_ix (ix_tupK (K := K)) (pv 3) pe_int (fun _ _ => rfl)) pa_nil))) pa_nil))))
      (pss_cons (ps_set (i := 8) sc_shared_rows.nd rfl (.inl rfl) (pe_own d_p_minus (hr.mono (by decide)) (by rfl) (pa_cons (pe_own d_scaled (hr.mono (by decide)) (by rfl) (pa_cons (pe_ix (ix_tupK (K := K)) (pv 2) pe_int (fun _ _ => rfl)) (pa_cons (pv 4) pa_nil))) (pa_cons (pe_own d_p_times (hr.mono (by decide)) (by rfl) (pa_cons (pv 5) (pa_cons (pe_ix (ix_tupK (K := K)) (pv 3) pe_int (fun _ _ => rfl)) pa_nil))) pa_nil))))
      (pss_one (ps_par (i := 2) (j := 3) (by rfl) sc_shared_rows.nd rfl rfl (by decide) rfl rfl (pa_cons (pv 3) (pa_cons (pe_own d_lightened (hr.mono (by decide)) (by rfl) (pa_cons (pe_tup (pa_cons (pv 6) (pa_cons (pv 7) (pa_cons (pv 8) pa_nil)))) pa_nil)) pa_nil)) (by rfl)))))))
      (pss_one (ps_ret (pv 2)))))), ?_⟩
  obtain ⟨v0, v1, rfl, h⟩ := h
  obtain ⟨a, b, f, g, rfl, rfl, hf, hg, lt, l9, bf, bg, go⟩ := h
  refine ⟨_, rfl, sz1, fun p1 hp1 => ⟨sz0, fun p2 hp2 => ⟨sz3, fun p3 hp3 => ⟨_, rfl, sz0, fun p4 hp4 => ⟨sz1, fun p5 hp5 => ⟨sz3, fun p6 hp6 => ?_⟩⟩⟩⟩⟩⟩
  have s1 := same_new (o := .tup [.int 1]) hp1
  have s2 := same_new (o := .tup []) hp2
  have s3 := same_new (o := .tup [.ref a, .ref p1, .ref p2]) hp3
  have s4 := same_new (o := .tup []) hp4
  have s5 := same_new (o := .tup [.int 1]) hp5
  have s6 := same_new (o := .tup [.ref b, .ref p4, .ref p5]) hp6
  have s46 := (s4.trans s5).trans s6
  have s16 := ((s1.trans s2).trans s3).trans s46
  refine ⟨fun m σ H' => Same H H' ∧ ∃ (r1 u1 v1 r2 u2 v2 : P) (q1 q2 : Addr) (w4 w5 w6 w7 w8 : Option V), σ = [some (.ref a), some (.ref b), some (.ref q1), some (.ref q2), w4, w5, w6, w7, w8] ∧ Row K H' q1 r1 u1 v1 ∧ Row K H' q2 r2 u2 v2 ∧ RI f g r1 u1 v1 r2 u2 v2 ∧ m = P.len r1, ⟨_, s16, f, 1, 0, g, 0, 1, p3, p6, _, _, _, _, _, rfl, ?_, ?_, .start lt l9 bf bg, rfl⟩, ?_⟩
  · exact Row.s ⟨a, p1, p2, tup_at (upd_same ..), hf.s ((s1.trans s2).trans s3), AtP.s (at_1 (upd_same ..)) (s2.trans s3), AtP.s (at_0 (tup_at (upd_same ..))) s3⟩ s46
  · exact ⟨b, p4, p5, tup_at (upd_same ..), hg.s s16, AtP.s (at_0 (tup_at (upd_same ..))) (s5.trans s6), AtP.s (at_1 (upd_same ..)) s6⟩
  · rintro m σ H' ⟨sm, r1, u1, v1, r2, u2, v2, q1, q2, w4, w5, w6, w7, w8, rfl, R1, ⟨a2, b2, c2, hq2, ha2, hb2, hc2⟩, I, rfl⟩
    obtain ⟨a1, b1, c1, hq1, ha1, hb1, hc1⟩ := R1
    refine ⟨_, rfl, q2, _, _, _, rfl, rfl, hq2, atI_ok (by decide) rfl, sz0, fun p7 hp7 => neD_0 ha2 hp7 fun bb' hbb => ⟨bb', rfl, ite2 (fun c => ?_) fun c => ?_⟩⟩
    · have r20 := hbb.mp c
      have s7 := same_new (o := .tup []) hp7
      have l2 := P.len_pos.mpr r20
      have lt2 := I.lt
      have l92 := I.l9
      obtain ⟨k1, k2, k3, k4, k5, k6, k7⟩ := bb_all (P.len r1) I.l9 (P.len r2) I.lt l2
      refine ⟨_, fun _ _ h => h, ?_⟩
      refine ⟨_, rfl, q1, _, _, _, rfl, rfl, Same.t s7 hq1, atI_ok (by decide) rfl, _, rfl, q2, _, _, _, rfl, rfl, Same.t s7 hq2, atI_ok (by decide) rfl, ?_⟩
      refine ⟨_, _, rfl, a1, a2, r1, r2, _, _, rfl, rfl, ha1.s s7, ha2.s s7, r20, by omega, by omega, I.b1, I.b2, k6, by omega, fun s q r D H8 p8 qa ra s8 t8 tq tr => ?_⟩
      refine ⟨p8, _, rfl, tup_at t8, rfl, _, _, rfl, _, _, rfl, _, _, rfl, rfl, ?_⟩
      have s78 := s7.trans s8
      have lq := D.lq
      have lu1 := I.lu1
      have lv1 := I.lv1
      have lu2 := I.lu2
      have lv2 := I.lv2
      have lD := D.len
      have bq2 := Bt_mul (c := 5) D.bq I.bu2 (by omega)
      have bq3 := Bt_mul (c := 5) D.bq I.bv2 (by omega)
      have z1 := P.len_min (Zmul (P.len_Z q) (P.len_Z u2))
      have z2 := P.len_min (Zmul (P.len_Z q) (P.len_Z v2))
      have sne : s ≠ 0 := by have := D.pos; omega
      -- left
      refine ⟨_, rfl, q1, _, _, _, rfl, rfl, Same.t s78 hq1, atI_ok (by decide) rfl, _, rfl, _, _, rfl, b1, u1, s, _, _, rfl, rfl, hb1.s s78, I.bu1, D.bs, by omega, by omega, fun H9 p9 s9 t9 => ?_⟩
      have s79 := s78.trans s9
      refine ⟨_, rfl, _, rfl, q2, _, _, _, rfl, rfl, Same.t s79 hq2, atI_ok (by decide) rfl, _, _, rfl, qa, b2, q, u2, _, _, rfl, rfl, tq.s s9, hb2.s s79, by omega, by omega, D.bq, I.bu2, by omega, fun H10 p10 s10 t10 => ?_⟩
      refine ⟨_, _, rfl, p9, p10, _, _, _, rfl, rfl, t9.s s10, t10, by rw [P.len_kmul sne]; omega, by omega, bq2, by omega, fun H11 p11 s11 t11 => ?_⟩
      have s8b := (s9.trans s10).trans s11
      have s7b := s78.trans s8b
      -- right
      refine ⟨_, rfl, q1, _, _, _, rfl, rfl, Same.t s7b hq1, atI_ok (by decide) rfl, _, rfl, _, _, rfl, c1, v1, s, _, _, rfl, rfl, hc1.s s7b, I.bv1, D.bs, by omega, by omega, fun H12 p12 s12 t12 => ?_⟩
      have s7c := s7b.trans s12
      refine ⟨_, rfl, _, rfl, q2, _, _, _, rfl, rfl, Same.t s7c hq2, atI_ok (by decide) rfl, _, _, rfl, qa, c2, q, v2, _, _, rfl, rfl, tq.s (s8b.trans s12), hc2.s s7c, by omega, by omega, D.bq, I.bv2, by omega, fun H13 p13 s13 t13 => ?_⟩
      refine ⟨_, _, rfl, p12, p13, _, _, _, rfl, rfl, t12.s s13, t13, by rw [P.len_kmul sne]; omega, by omega, bq3, by omega, fun H14 p14 s14 t14 => ?_⟩
      have s11b := (s12.trans s13).trans s14
      have s7d := s7b.trans s11b
      -- the rows
      refine ⟨_, rfl, _, rfl, _, rfl, _, rfl, sz3, fun p15 hp15 => ?_⟩
      have s15 := same_new (o := .tup [.ref ra, .ref p11, .ref p14]) hp15
      refine ⟨_, rfl, p15, r, _, _, rfl, ⟨ra, p11, p14, tup_at (upd_same ..), ((tr.s s8b).s s11b).s s15, (t11.s s11b).s s15, t14.s s15⟩, by omega, ?_, ?_, fun d r' u' v' d0 er eu ev H16 p16 s16 t16 => ?_⟩
      · have := P.len_min (P.Z.sub (((P.len_Z u1).kmul s).mono (m := 400) (by omega)) ((Zmul (P.len_Z q) (P.len_Z u2)).mono (m := 400) (by omega)))
        omega
      · have := P.len_min (P.Z.sub (((P.len_Z v1).kmul s).mono (m := 400) (by omega)) ((Zmul (P.len_Z q) (P.len_Z v2)).mono (m := 400) (by omega)))
        omega
      have s7e := (s7d.trans s15).trans s16
      exact ⟨_, _, rfl, P.len r2, by omega, sm.trans s7e, r2, u2, v2, r', u', v', q2, p16, _, _, _, _, _, rfl, Row.s ⟨a2, b2, c2, hq2, ha2, hb2, hc2⟩ s7e, t16, I.next r20 D d0 er eu ev, rfl⟩
    · have r20 : r2 = 0 := Classical.byContradiction fun z => c (hbb.mpr z)
      subst r20
      have s7 := same_new (o := .tup []) hp7
      exact ⟨_, rfl, go _ _ _ _ _ I _ _ (sm.trans s7) (Row.s ⟨a1, b1, c1, hq1, ha1, hb1, hc1⟩ s7)⟩
abbrev s_shared : Stmt := topS 27
abbrev N_shared : List Str := ["one", "other"]
theorem sc_shared : FnScope N_shared ["one", "other"] (defScope s_shared) := ⟨rfl, rfl, rfl, by decide +kernel, rfl, by decide +kernel, by decide +kernel⟩
theorem ok_shared (A : At K mg "shared" s_shared) (T : Txt mg) (d_plain : Dn Pg w K mg base "plain" 44 ["one"] (sp_plain K)) (d_shared_rows : Dn Pg w K mg base "shared_rows" 46 ["one", "other"] (sp_shared_rows K)) : Dn Pg w K mg base "shared" 47 ["one", "other"] (sp_shared K) := by
  refine mkDn A sc_shared (fun _ _ _ _ _ _ us hl => match us, hl with | [_, _], _ => rfl) (fun vs H Q E ⟨_, _, e, _⟩ => by rw [e]; rfl) fun f cdv A outer s H vs Q E hr h => ?_
  refine ⟨_, (pss_one (ps_ret (pe_own d_plain (hr.mono (by decide)) (by rfl) (pa_cons (pe_ix (ix_tupK (K := K)) (pe_own d_shared_rows (hr.mono (by decide)) (by rfl) (pa_cons (pv 0) (pa_cons (pv 1) pa_nil))) pe_int (fun _ _ => rfl)) pa_nil)))), ?_⟩
  obtain ⟨v0, v1, rfl, h⟩ := h
  obtain ⟨a, b, f, g, rfl, rfl, hf, hg, lt, l9, bf, bg, go⟩ := h
  refine ⟨_, rfl, _, rfl, _, _, rfl, a, b, f, g, rfl, rfl, hf, hg, lt, l9, bf, bg, fun r u v u2 v2 I H2 p s2 ⟨a1, b1, c1, hp, ha, hb, hc⟩ => ?_⟩
  refine ⟨p, _, _, _, rfl, rfl, hp, atI_ok (by decide) rfl, _, rfl, a1, r, rfl, ha, by have := I.l9; omega, fun c hc => ?_⟩
  have r0 : r ≠ 0 := P.len_pos.mp (by have := I.lt; omega)
  rcases hc with ⟨z, _⟩ | ⟨pc, x, x0, e⟩
  · exact absurd z r0
  · have h1 : c ∣ r := ⟨P.K x, by rw [e]; grind⟩
    have h2 := I.dv c pc.1 h1 (P.dvd_zero c)
    exact (go c ⟨pc, h2.1, h2.2, u, v, x, x0, by rw [I.e1, e]⟩).to s2
end
end RH
/-! W11: layers. -/
namespace RH
open PySem PySem.Spec PyProof.Rows L2 RC
theorem none_same {H H' : Hp} {D : Addr} (s : Same H H') (h : H' D = none) : H D = none := by
  cases e : H D with
  | none => rfl
  | some o => rw [s _ _ e] at h; cases h
theorem sqT_put {K : PySem.W.Frag} {H : Hp} {D a : Addr} {l l' xs : List V} (h : H D = some (.lst l)) (t : SqT K H a xs) : SqT K (upd H D (.lst l')) a xs := by
  rcases t with (t | ⟨o, t⟩) | t
  · refine .inl (.inl ?_)
    rw [upd_ne (fun z => by rw [z, h] at t; cases t)]
    exact t
  · refine .inl (.inr ⟨o, ?_⟩)
    rw [upd_ne (fun z => by rw [z, h] at t; cases t)]
    exact t
  · exact .inr t
theorem AtP.put {K : PySem.W.Frag} {H : Hp} {D a : Addr} {l l' : List V} {f : P} (t : AtP K H a f) (h : H D = some (.lst l)) : AtP K (upd H D (.lst l')) a f := sqT_put h t
/-- a pair of a polynomial and a number -/
def Pair (K : PySem.W.Frag) (H : Hp) (v : V) (L : P) : Prop := ∃ (t a : Addr) (k : Int), v = .ref t ∧ SqT K H t [.ref a, .int k] ∧ AtP K H a L
theorem Pair.s {K : PySem.W.Frag} {H H' : Hp} {v : V} {L : P} (h : Pair K H v L) (s : Same H H') : Pair K H' v L :=
  let ⟨t, a, k, e, x, y⟩ := h
  ⟨t, a, k, e, Same.t s x, y.s s⟩
theorem Pair.put {K : PySem.W.Frag} {H : Hp} {D : Addr} {l l' : List V} {v : V} {L : P} (h : Pair K H v L) (d : H D = some (.lst l)) : Pair K (upd H D (.lst l')) v L :=
  let ⟨t, a, k, e, x, y⟩ := h
  ⟨t, a, k, e, sqT_put d x, y.put d⟩
/-- each of xs stands for its one of Ls -/
inductive All2 {β α : Type} (R : β → α → Prop) : List β → List α → Prop
  | nil : All2 R [] []
  | cons {v : β} {a : α} {vs : List β} {as : List α} : R v a → All2 R vs as → All2 R (v :: vs) (a :: as)
section
variable {β α : Type}
theorem All2.imp {R S : β → α → Prop} (h : ∀ v a, R v a → S v a) : ∀ {vs : List β} {as : List α}, All2 R vs as → All2 S vs as
  | _, _, .nil => .nil
  | _, _, .cons r rs => .cons (h _ _ r) (rs.imp h)
theorem All2.len {R : β → α → Prop} : ∀ {vs : List β} {as : List α}, All2 R vs as → vs.length = as.length
  | _, _, .nil => rfl
  | _, _, .cons _ rs => congrArg (· + 1) rs.len
theorem All2.append {R : β → α → Prop} : ∀ {vs ws : List β} {as bs : List α}, All2 R vs as → All2 R ws bs → All2 R (vs ++ ws) (as ++ bs)
  | _, _, _, _, .nil, h => h
  | _, _, _, _, .cons r rs, h => .cons r (rs.append h)
theorem All2.get {R : β → α → Prop} : ∀ {vs : List β} {as : List α} {i : Nat} {v : β}, All2 R vs as → vs[i]? = some v → ∃ a, as[i]? = some a ∧ R v a
  | _, _, _, _, .nil, h => by cases h
  | _, _, 0, _, .cons r rs, h => by cases h; exact ⟨_, rfl, r⟩
  | _, _, i + 1, _, .cons r rs, h => rs.get (i := i) h
theorem All2.get' {R : β → α → Prop} : ∀ {vs : List β} {as : List α} {i : Nat} {a : α}, All2 R vs as → as[i]? = some a → ∃ v, vs[i]? = some v ∧ R v a
  | _, _, _, _, .nil, h => by cases h
  | _, _, 0, _, .cons r rs, h => by cases h; exact ⟨_, rfl, r⟩
  | _, _, i + 1, _, .cons r rs, h => rs.get' (i := i) h
theorem All2.take {R : β → α → Prop} : ∀ (n : Nat) {vs : List β} {as : List α}, All2 R vs as → All2 R (vs.take n) (as.take n)
  | 0, _, _, _ => .nil
  | n + 1, _, _, .nil => .nil
  | n + 1, _, _, .cons r rs => .cons r (rs.take n)
theorem All2.drop {R : β → α → Prop} : ∀ (n : Nat) {vs : List β} {as : List α}, All2 R vs as → All2 R (vs.drop n) (as.drop n)
  | 0, _, _, h => h
  | n + 1, _, _, .nil => .nil
  | n + 1, _, _, .cons r rs => rs.drop n
theorem All2.set {R : β → α → Prop} : ∀ {vs : List β} {as : List α} (i : Nat) {v : β} {a : α}, All2 R vs as → R v a → All2 R (vs.set i v) (as.set i a)
  | _, _, _, _, _, .nil, _ => .nil
  | _, _, 0, _, _, .cons r rs, h => .cons h rs
  | _, _, i + 1, _, _, .cons r rs, h => .cons r (rs.set i h)
theorem all2_mem {R S : β → α → Prop} : ∀ {vs : List β} {as : List α}, All2 R vs as → ∀ {M : α → Prop}, (∀ a ∈ as, M a) → (∀ v a, R v a → M a → S v a) → All2 S vs as
  | _, _, .nil, _, _, _ => .nil
  | _, _, .cons r rs, _, h, f => .cons (f _ _ r (h _ (by simp))) (all2_mem rs (fun a ha => h a (by simp [ha])) f)
theorem All2.self {R : α → α → Prop} : ∀ {as : List α}, (∀ a ∈ as, R a a) → All2 R as as
  | [], _ => .nil
  | a :: as, h => .cons (h a (by simp)) (All2.self fun x hx => h x (by simp [hx]))
end
/-! ### the mathematics -/
/-- what a layer is -/
structure LyOk (p L : P) : Prop where
  pl : P.Pl L
  l2 : 2 ≤ P.len L
  l9 : P.len L ≤ 9
  sq : P.SqF L
  bt : P.Bt 32 L
  dv : L ∣ p
/-- the layers of p -/
structure Lys (p : P) (Ls : List P) : Prop where
  ok : ∀ L ∈ Ls, LyOk p L
  all : ∀ q, P.Irr q → q ∣ p → ∃ L ∈ Ls, q ∣ L
  n : Ls.length ≤ 9
theorem bt_part {W g : P} {b : Nat} (hW : W ≠ 0) (l9 : P.len W ≤ 9) (hb : P.Bt b W) (hd : g ∣ W) : P.Bt (b + 12) g := fun k => by
  obtain ⟨h, e⟩ := hd
  have h0 := (P.ne_of_mul (e ▸ hW)).2
  have := P.part_bd (A := ((2 ^ b : Nat) : Int)) (fun k => by have := hb k; omega) e hW l9 k
  rw [Int.natAbs_mul] at this
  have h1 : 1 ≤ (P.lc h).natAbs := by have := P.lc_ne h0; omega
  have h2 : (g.c k).natAbs ≤ (P.lc h).natAbs * (g.c k).natAbs := Nat.le_mul_of_pos_left _ (by omega)
  have h3 : P.len W * 2 ^ (P.len W - 1) ≤ 9 * 2 ^ 8 := Nat.mul_le_mul l9 (Nat.pow_le_pow_right (by decide) (by omega))
  have h4 : P.len W * 2 ^ (P.len W - 1) * 2 ^ b ≤ 9 * 2 ^ 8 * 2 ^ b := Nat.mul_le_mul_right _ h3
  have h5 := Nat.two_pow_pos b
  rw [Nat.pow_add]
  have e6 : ((2 ^ b : Nat) : Int).natAbs = 2 ^ b := by omega
  rw [e6] at this
  omega
/-- while the layers are told -/
structure LI (W w rest turn : P) (Ls : List P) (c : P) : Prop where
  c0 : c ≠ 0
  pr : P.Pl rest
  tr : c * turn = P.D c * rest
  dW : c * rest ∣ W
  dw : rest ∣ w
  ls : ∀ L ∈ Ls, P.Pl L ∧ 2 ≤ P.len L ∧ L ∣ w
  all : ∀ q, P.Irr q → q ∣ w → q ∣ rest ∨ ∃ L ∈ Ls, q ∣ L
  n : Ls.length + P.len rest ≤ P.len W
theorem LI.turn {W w rest turn c : P} {Ls : List P} (h : LI W w rest turn Ls c) (hW : W ≠ 0) (l9 : P.len W ≤ 9) (hb : P.Bt 20 W) : P.len turn < P.len rest ∧ P.Bt 83 turn ∧ P.Bt 32 rest ∧ P.len rest ≤ 9 := by
  have hdr : rest ∣ W := P.dvd_trans (P.dvd_mul_left _ _) h.dW
  have hdc : c ∣ W := P.dvd_trans (P.dvd_mul_right _ _) h.dW
  have br := bt_part hW l9 hb hdr
  have bc := bt_part hW l9 hb hdc
  have lr := P.dvd_len hdr hW
  have lc := P.dvd_len hdc hW
  have r0 := h.pr.ne
  have lr1 := P.len_pos.mpr r0
  by_cases z : turn = 0
  · subst z
    exact ⟨by rw [P.len_0]; exact lr1, fun k => by rw [P.c_0]; exact Nat.two_pow_pos _, br, by omega⟩
  have cD : P.D c ≠ 0 := fun e => P.mul_ne h.c0 z (by rw [h.tr, e]; grind)
  have c2 : 2 ≤ P.len c := Classical.byContradiction fun e => cD (by rw [P.eq_K (a := c) (by omega)]; exact P.D_K _)
  have lD := (P.D_len c2).1
  have l1 := (P.len_mul h.c0 z).1
  have l2 := (P.len_mul cD r0).1
  have l3 := (P.len_mul h.c0 r0).1
  have l4 := P.dvd_len h.dW hW
  rw [h.tr] at l1
  have F0 := P.mul_ne cD r0
  have bD : P.Bt 36 (P.D c) := fun k => by
    rw [P.c_D]
    by_cases y : P.len c ≤ k + 1
    · rw [P.len_Z c _ y, Int.mul_zero]
      decide
    · rw [Int.natAbs_mul]
      have h1 : ((k : Int) + 1).natAbs < 2 ^ 4 := by omega
      have := Nat.mul_lt_mul'' h1 (bc (k + 1))
      rw [← Nat.pow_add] at this
      exact this
  have bF := Bt_mul (c := 3) bD br (by omega)
  refine ⟨by omega, ?_, br, by omega⟩
  exact (bt_part F0 (by omega) bF ⟨c, by rw [← h.tr]; grind⟩).mono (by decide)
theorem LI.next {W w rest turn c g : P} {Ls : List P} (h : LI W w rest turn Ls c) (hg : P.IsG rest turn g) (l2 : 2 ≤ P.len rest) :
    ∃ rest2 t' c2, rest = g * rest2 ∧ turn = g * t' ∧ P.len c2 + P.len rest2 < P.len c + P.len rest ∧ P.len rest2 ≤ P.len rest ∧ (1 < P.len g → LI W w rest2 (t' - P.D rest2) (Ls ++ [g]) c2) ∧ (¬ 1 < P.len g → LI W w rest2 (t' - P.D rest2) Ls c2) := by
  obtain ⟨rest2, t', e1, e2, p2, c2, ec, c20, tr2⟩ := P.lay_step h.c0 h.pr h.tr hg
  have r0 := h.pr.ne
  have g0 := hg.1.ne
  have lm := (P.len_mul g0 p2.ne).1
  rw [← e1] at lm
  have lc := (P.len_mul p2.ne c20).1
  rw [← ec] at lc
  have lg := P.len_pos.mpr g0
  have lr2 := P.len_pos.mpr p2.ne
  have dW2 : c2 * rest2 ∣ W := P.dvd_trans ⟨1, by rw [ec]; grind⟩ (P.dvd_trans (P.dvd_mul_right c rest) h.dW)
  have dw2 : rest2 ∣ w := P.dvd_trans ⟨g, by rw [e1]; grind⟩ h.dw
  have gw : g ∣ w := P.dvd_trans ⟨rest2, e1⟩ h.dw
  refine ⟨rest2, t', c2, e1, e2, ?_, by omega, fun z => ?_, fun z => ?_⟩
  · omega
  · refine ⟨c20, p2, tr2, dW2, dw2, fun L hL => ?_, fun q hq hd => ?_, ?_⟩
    · rcases List.mem_append.mp hL with hL | hL
      · exact h.ls L hL
      · rw [List.mem_singleton] at hL
        subst hL
        exact ⟨hg.1, by omega, gw⟩
    · rcases h.all q hq hd with a | ⟨L, hL, a⟩
      · rw [e1] at a
        rcases hq.prime a with a | a
        · exact .inr ⟨g, by simp, a⟩
        · exact .inl a
      · exact .inr ⟨L, by simp [hL], a⟩
    · have := h.n
      rw [List.length_append, List.length_singleton]
      omega
  · refine ⟨c20, p2, tr2, dW2, dw2, h.ls, fun q hq hd => ?_, by have := h.n; omega⟩
    rcases h.all q hq hd with a | a
    · rw [e1] at a
      rcases hq.prime a with a | a
      · exact absurd (P.dvd_len a g0) (by have := hq.2.1; omega)
      · exact .inl a
    · exact .inr a
theorem LI.done {p W w rest turn c : P} {Ls : List P} (h : LI W w rest turn Ls c) (hW : P.Pl W) (l9 : P.len W ≤ 9) (hb : P.Bt 20 W) {x : Int} (hx : x ≠ 0) (ep : p = P.K x * W) (hw : ∃ c0, W = c0 * w) (sq : P.SqF w) (hir : ∀ q, P.Irr q → q ∣ W → q ∣ w) (hl : P.len rest ≤ 1) : Lys p Ls := by
  refine ⟨fun L hL => ?_, fun q hq hd => ?_, by have := h.n; omega⟩
  · obtain ⟨a, b, c⟩ := h.ls L hL
    have dW : L ∣ W := by
      obtain ⟨c0, e⟩ := hw
      exact P.dvd_trans c ⟨c0, by rw [e]; grind⟩
    obtain ⟨y, ey⟩ := c
    exact ⟨a, b, Nat.le_trans (P.dvd_len dW hW.ne) l9, sq.part ey, bt_part hW.ne l9 hb dW, P.dvd_trans dW ⟨P.K x, by rw [ep]; grind⟩⟩
  · have : q ∣ W := hq.1.1.gl hx (by rw [← ep]; exact hd)
    rcases h.all q hq (hir q hq this) with a | a
    · exact absurd (P.dvd_len a h.pr.ne) (by have := hq.2.1; omega)
    · exact a
theorem LI.start {W c0 : P} (hW : P.Pl W) (hg : P.IsG W (P.D W) c0) : ∃ w d, W = c0 * w ∧ P.D W = c0 * d ∧ LI W w w (d - P.D w) [] c0 ∧ P.SqF w ∧ (∀ q, P.Irr q → q ∣ W → q ∣ w) := by
  obtain ⟨w, d, e1, e2, pw, ly⟩ := P.lay_start hW hg
  refine ⟨w, d, e1, e2, ⟨hg.1.ne, pw, ly.tr, by rw [← e1]; exact P.dvd_refl _, P.dvd_refl _, fun L hL => absurd hL (List.not_mem_nil), fun q _ h => .inl h, ?_⟩, ly.sqf hg.2.2.2, fun q hq hd => ly.irr hq hd⟩
  have := P.dvd_len ⟨c0, by rw [e1]; grind⟩ hW.ne (a := w)
  simp
  exact this
end RH
/-! W12: layers, the walk. -/
namespace RH
open PySem PySem.Spec PyProof.Rows L2 RC
section
variable {Pg : Program} {w : World} {K : PySem.W.Frag} {mg : Str → Option Value} {base : Heap}
theorem D_bt {f : P} {b : Nat} (h : P.Bt b f) (l : P.len f ≤ 16) : P.Bt (b + 4) (P.D f) := fun k => by
  rw [P.c_D]
  by_cases y : P.len f ≤ k + 1
  · rw [P.len_Z f _ y, Int.mul_zero]
    exact Nat.two_pow_pos _
  · rw [Int.natAbs_mul, Nat.pow_add, Nat.mul_comm]
    exact Nat.mul_lt_mul'' (h (k + 1)) (by omega)
theorem len_D (f : P) : P.len (P.D f) ≤ P.len f - 1 := by
  by_cases h : 2 ≤ P.len f
  · have := (P.D_len h).1; omega
  · rw [P.eq_K (a := f) (by omega), P.D_K, P.len_0]
    exact Nat.zero_le _
def sp_layers (K : PySem.W.Frag) : Sp := mk1 fun x H Q => ∃ (a : Addr) (p : P), x = .ref a ∧ AtP K H a p ∧ p ≠ 0 ∧ P.len p ≤ 9 ∧ P.Bt 20 p ∧ ∀ Ls, Lys p Ls → ∀ H' l xs, Same H H' → H l = none → H' l = some (.lst xs) → All2 (Pair K H') xs Ls → Q (.ref l) H'
abbrev s_layers : Stmt := topS 29
abbrev N_layers : List Str := ["one", "whole", "slope", "part", "rest", "turn", "found", "times_in", "layer"]
theorem sc_layers : FnScope N_layers ["one"] (defScope s_layers) := ⟨rfl, rfl, rfl, by decide +kernel, rfl, by decide +kernel, by decide +kernel⟩
/-- while the layers are told -/
def layInv (K : PySem.W.Frag) (H : Hp) (a aW aD a0 D : Addr) (c d : P) : Nat → L2.St → Hp → Prop := fun m σ H' => ∃ (rest turn c1 : P) (Ls : List P) (xs : List V) (ar atn : Addr) (k : Int) (u8 : Option V), σ = [some (.ref a), some (.ref aW), some (.ref aD), some (.ref a0), some (.ref ar), some (.ref atn), some (.ref D), some (.int k), u8] ∧ Grow H D xs H' ∧ AtP K H' ar rest ∧ AtP K H' atn turn ∧ All2 (Pair K H') xs Ls ∧ LI c d rest turn Ls c1 ∧ m = P.len c1 + P.len rest
theorem ok_layers (A : At K mg "layers" s_layers) (T : Txt mg) (d_plain : Dn Pg w K mg base "plain" 44 ["one"] (sp_plain K)) (d_derived : Dn Pg w K mg base "derived" 42 ["one"] (sp_derived K)) (d_shared : Dn Pg w K mg base "shared" 47 ["one", "other"] (sp_shared K)) (d_whole_part : Dn Pg w K mg base "whole_part" 46 ["one", "other"] (sp_whole_part K)) (d_p_minus : Dn Pg w K mg base "p_minus" 43 ["one", "other"] (sp_p_minus K)) (d_degree : Dn Pg w K mg base "degree" 41 ["one"] (sp_degree K)) : Dn Pg w K mg base "layers" 48 ["one"] (sp_layers K) := by
  refine mkDn A sc_layers (fun _ _ _ _ _ _ us hl => match us, hl with | [_], _ => rfl) (fun vs H Q E ⟨_, e, _⟩ => by rw [e]; rfl) fun f cdv A outer s H vs Q E hr h => ?_
  refine ⟨_, (pss_cons (ps_if (pt_cmpR (op_eqDK (K := K) hr.units) (pv 0) (pe_tup pa_nil) (nomark _)) (pss_one ps_never) pss_nil)
      (pss_cons (ps_set (i := 1) sc_layers.nd rfl (.inl rfl) (pe_own d_plain (hr.mono (by decide)) (by rfl) (pa_cons (pv 0) pa_nil)))
      (pss_cons (ps_set (i := 2) sc_layers.nd rfl (.inl rfl) (pe_own d_derived (hr.mono (by decide)) (by rfl) (pa_cons (pv 1) pa_nil)))
      (pss_cons (ps_set (i := 3) sc_layers.nd rfl (.inl rfl) (pe_own d_shared (hr.mono (by decide)) (by rfl) (pa_cons (pv 1) (pa_cons (pv 2) pa_nil))))
      (pss_cons (ps_set (i := 4) sc_layers.nd rfl (.inl rfl) (pe_own d_whole_part (hr.mono (by decide)) (by rfl) (pa_cons (pv 1) (pa_cons (pv 3) pa_nil))))
      (pss_cons (ps_set (i := 5) sc_layers.nd rfl (.inl rfl) (pe_own d_p_minus (hr.mono (by decide)) (by rfl) (pa_cons (pe_own d_whole_part (hr.mono (by decide)) (by rfl) (pa_cons (pv 2) (pa_cons (pv 3) pa_nil))) (pa_cons (pe_own d_derived (hr.mono (by decide)) (by rfl) (pa_cons (pv 4) pa_nil)) pa_nil))))
      (pss_cons (ps_set (i := 6) sc_layers.nd rfl (.inl rfl) (pe_lst pa_nil))
      (pss_cons (ps_set (i := 7) sc_layers.nd rfl (.inl rfl) pe_int)
      (pss_cons (ps_while PassesOwn.never (pt_cmpR op_gt (pe_own d_degree (hr.mono (by decide)) (by rfl) (pa_cons (pv 4) pa_nil)) pe_int (nomark _)) (pss_cons (ps_set (i := 8) sc_layers.nd rfl (.inl rfl) (pe_own d_shared (hr.mono (by decide)) (by rfl) (pa_cons (pv 4) (pa_cons (pv 5) pa_nil))))
      (pss_cons (ps_if (pt_cmpR op_gt (pe_own d_degree (hr.mono (by decide)) (by rfl) (pa_cons (pv 8) pa_nil)) pe_int (nomark _)) (pss_one (ps_expr (pe_bm PySem.F.plainAttrs_list PySem.F.slot_list_append PySem.F.type_list_append mt_append (pv 6) (pa_cons (pe_tup (pa_cons (pv 8) (pa_cons (pv 7) pa_nil))) pa_nil)))) pss_nil)
      (pss_cons (ps_set (i := 4) sc_layers.nd rfl (.inl rfl) (pe_own d_whole_part (hr.mono (by decide)) (by rfl) (pa_cons (pv 4) (pa_cons (pv 8) pa_nil))))
      (pss_cons (ps_set (i := 5) sc_layers.nd rfl (.inl rfl) (pe_own d_p_minus (hr.mono (by decide)) (by rfl) (pa_cons (pe_own d_whole_part (hr.mono (by decide)) (by rfl) (pa_cons (pv 5) (pa_cons (pv 8) pa_nil))) (pa_cons (pe_own d_derived (hr.mono (by decide)) (by rfl) (pa_cons (pv 4) pa_nil)) pa_nil))))
      (pss_one (ps_set (i := 7) sc_layers.nd rfl (.inl rfl) (pe_op op_add (pv 7) pe_int))))))))
      (pss_one (ps_ret (pv 6)))))))))))), ?_⟩
  obtain ⟨v0, rfl, h⟩ := h
  obtain ⟨a, p, rfl, hp, p0, lp, bp, go⟩ := h
  refine ⟨_, rfl, sz0, fun p1 hp1 => eqD_0 hp hp1 fun bb' hbb => ⟨bb', rfl, ite2 (fun c => absurd (hbb.mp c) p0) fun c => ?_⟩⟩
  have s1 := same_new (o := .tup []) hp1
  obtain ⟨x, W, x0, ep, pW⟩ := P.ex_pl p0
  have lW : P.len W = P.len p := by rw [ep, P.len_kmul x0]
  have W0 := pW.ne
  have l1W := P.len_pos.mpr W0
  have bW : P.Bt 20 W := Bt_div x0 ep bp
  refine ⟨_, rfl, _, rfl, a, p, rfl, hp.s s1, by omega, fun c hc => ?_⟩
  have hcW : c = W := by
    rcases hc with ⟨z, _⟩ | ⟨pc, y, y0, e⟩
    · exact absurd z p0
    · exact (P.Pl.eq pc pW y0 x0 (by rw [← e, ← ep]))
  subst hcW
  intro H2 aW s2 tW
  refine ⟨_, rfl, _, rfl, aW, c, 20, rfl, tW, by omega, bW, by decide, fun H3 aD s3 tD => ?_⟩
  have lD := len_D c
  refine ⟨_, rfl, _, rfl, _, _, rfl, aW, aD, c, P.D c, rfl, rfl, tW.s s3, tD, by omega, by omega, bW.mono (by decide), (D_bt bW (by omega)).mono (by decide), fun c0 hc0 H4 a0 s4 t0 => ?_⟩
  obtain ⟨w', d', eW, eD, I0, sqw, irw⟩ := LI.start pW hc0
  have b0 := bt_part W0 (by omega) bW hc0.2.1
  have l0 : P.len c0 ≤ P.len c := P.dvd_len hc0.2.1 W0
  have c00 := hc0.1.ne
  refine ⟨_, rfl, _, rfl, _, _, rfl, aW, a0, c, c0, 20, 32, rfl, rfl, tW.s (s3.trans s4), t0, c00, by omega, by omega, bW, b0, by decide, by decide, fun d hd => ?_, fun z => absurd hc0.2.1 z⟩
  have ew : d = w' := P.cancel c00 (by rw [← hd, ← eW])
  subst ew
  intro H5 aw s5 tw
  have lw : P.len d ≤ P.len c := P.dvd_len ⟨c0, by rw [eW]; grind⟩ W0
  have bw := bt_part W0 (by omega) bW (g := d) ⟨c0, by rw [eW]; grind⟩
  refine ⟨_, rfl, _, rfl, _, _, rfl, aD, a0, P.D c, c0, 24, 32, rfl, rfl, tD.s (s4.trans s5), t0.s s5, c00, by omega, by omega, D_bt bW (by omega), b0, by decide, by decide, fun d2 hd2 => ?_, fun z => absurd hc0.2.2.1 z⟩
  have ed2 : d2 = d' := P.cancel c00 (by rw [← hd2, ← eD])
  subst ed2
  intro H6 ad s6 td
  refine ⟨_, rfl, _, rfl, aw, d, 32, rfl, tw.s s6, by omega, bw, by decide, fun H7 aDw s7 tDw => ?_⟩
  have ld2 : P.len d2 ≤ 9 := by
    by_cases z : d2 = 0
    · rw [z, P.len_0]; omega
    · have : P.D c ≠ 0 := by rw [eD]; exact P.mul_ne c00 z
      have := P.dvd_len (a := d2) ⟨c0, by rw [eD]; grind⟩ this
      omega
  have lDd := len_D d
  refine ⟨_, _, rfl, ad, aDw, d2, P.D d, 36, rfl, rfl, td.s s7, tDw, by omega, by omega, D_bt bw (by omega), by decide, fun H8 at' s8 tt => ?_⟩
  have s38 := ((((s3.trans s4).trans s5).trans s6).trans s7).trans s8
  have s68 := (s6.trans s7).trans s8
  have s18 := (s1.trans s2).trans s38
  refine ⟨sz0, fun D hD => ?_⟩
  have hD0 := none_same s18 hD
  have g0 : Grow H D [] (upd H8 D (.lst [])) := ⟨s18.put hD0, upd_same ..⟩
  have sD := same_new (o := .lst []) hD
  refine ⟨layInv K H a aW aD a0 D c d, ⟨_, d, d2 - P.D d, c0, [], [], aw, at', _, _, rfl, g0, (tw.s s68).s sD, tt.s sD, .nil, I0, rfl⟩, ?_⟩
  rintro m σ H' ⟨rest, turn, c1, Ls, xs, ar, atn, k, u8, rfl, gr, tr, tt, hxs, I, rfl⟩
  refine ⟨_, rfl, _, rfl, ar, rest, rfl, tr, _, _, rfl, rfl, _, rfl, ite2 (fun z => ?_) fun z => ?_⟩
  · have z := of_decide_eq_true z
    obtain ⟨lt, bt, br, l9⟩ := I.turn W0 (by omega) bW
    refine ⟨_, fun _ _ h => h, ?_⟩
    refine ⟨_, rfl, _, rfl, _, _, rfl, ar, atn, rest, turn, rfl, rfl, tr, tt, lt, l9, br.mono (by decide), bt.mono (by decide), fun g hg H9 ag s9 tg => ?_⟩
    obtain ⟨rest2, t', c2, e1, e2, hm, hle, n1, n2⟩ := I.next hg (by omega)
    have g00 := hg.1.ne
    have r0 := I.pr.ne
    have lg : P.len g ≤ P.len rest := P.dvd_len hg.2.1 r0
    have dgW : g ∣ c := P.dvd_trans hg.2.1 (P.dvd_trans (P.dvd_mul_left _ _) I.dW)
    have bg := bt_part W0 (by omega) bW dgW
    have gr9 := gr.to s9
    -- the rest of the turn
    have fin : ∀ (De : Ends) (Hx : Hp) (xs2 : List V) (Ls2 : List P), (∀ σ' H', (∃ m', m' < P.len c1 + P.len rest ∧ layInv K H a aW aD a0 D c d m' σ' H') → De.nx σ' H') → Grow H D xs2 Hx → AtP K Hx ar rest → AtP K Hx atn turn → AtP K Hx ag g → All2 (Pair K Hx) xs2 Ls2 → LI c d rest2 (t' - P.D rest2) Ls2 c2 → (tSeq (tAsg (tCall (sp_whole_part K) [] E0 (tCons (tVar 4) (tCons (tVar 8) tNil))) (gName 4)) (tSeq (tAsg (tCall (sp_p_minus K) [] E0 (tCons (tCall (sp_whole_part K) [] E0 (tCons (tVar 5) (tCons (tVar 8) tNil))) (tCons (tCall (sp_derived K) [] E0 (tCons (tVar 4) tNil)) tNil))) (gName 5)) (tAsg (tOp (rI0 fun i j => V.int (i + j)) (tVar 7) (tC (V.int 1))) (gName 7)))) De [some (.ref a), some (.ref aW), some (.ref aD), some (.ref a0), some (.ref ar), some (.ref atn), some (.ref D), some (.int k), some (.ref ag)] Hx := by
      intro De Hx xs2 Ls2 hDe grx trx ttx tgx hxsx I2
      refine ⟨_, rfl, _, rfl, _, _, rfl, ar, ag, rest, g, 32, 32, rfl, rfl, trx, tgx, g00, by omega, by omega, br, bg, by decide, by decide, fun r hr => ?_, fun z => absurd hg.2.1 z⟩
      have er : r = rest2 := P.cancel g00 (by rw [← hr, ← e1])
      subst er
      intro H10 ar2 s10 tr2
      refine ⟨_, rfl, _, rfl, _, _, rfl, atn, ag, turn, g, 83, 32, rfl, rfl, ttx.s s10, tgx.s s10, g00, by omega, by omega, bt, bg, by decide, by decide, fun t2 ht2 => ?_, fun z => absurd hg.2.2.1 z⟩
      have et : t2 = t' := P.cancel g00 (by rw [← ht2, ← e2])
      subst et
      intro H11 at2 s11 tt2
      have dr2 : r ∣ c := P.dvd_trans (P.dvd_mul_left _ _) I2.dW
      have br2 := bt_part W0 (by omega) bW dr2
      refine ⟨_, rfl, _, rfl, ar2, r, 32, rfl, tr2.s s11, by omega, br2, by decide, fun H12 aDr s12 tDr => ?_⟩
      have lDr := len_D r
      have lt2 : P.len t2 ≤ 9 := by
        by_cases z : t2 = 0
        · rw [z, P.len_0]; omega
        · have : turn ≠ 0 := by rw [e2]; exact P.mul_ne g00 z
          have := P.dvd_len (a := t2) ⟨g, by rw [e2]; grind⟩ this
          omega
      refine ⟨_, _, rfl, at2, aDr, t2, P.D r, 36, rfl, rfl, tt2.s s12, tDr, by omega, by omega, D_bt br2 (by omega), by decide, fun H13 at3 s13 tt3 => ?_⟩
      have s1013 := ((s10.trans s11).trans s12).trans s13
      exact ⟨_, rfl, _, _, rfl, rfl, hDe _ _ ⟨P.len c2 + P.len r, hm, r, t2 - P.D r, c2, Ls2, xs2, ar2, at3, _, _, rfl, grx.to s1013, tr2.s ((s11.trans s12).trans s13), tt3, hxsx.imp fun v a h => h.s s1013, I2, rfl⟩⟩
    refine ⟨_, rfl, _, rfl, ag, g, rfl, tg, _, _, rfl, rfl, _, rfl, ite2 (fun y => ?_) fun y => ?_⟩
    · have y := of_decide_eq_true y
      have lx := hxs.len
      have hn := I.n
      refine ⟨_, rfl, .inl ⟨rfl, _, lst_at gr9.d⟩, _, rfl, _, rfl, sz2, fun q hq => ?_⟩
      have sq := same_new (o := .tup [.ref ag, .int k]) hq
      have gr10 := gr9.to sq
      refine ⟨D, xs, _, rfl, rfl, gr10.d, by have : sizeLine = 16777216 := by decide
                                             omega, ?_⟩
      refine fin _ _ (xs ++ [.ref q]) (Ls ++ [g]) (fun _ _ h => h) (gr10.set hD0) ((((tr.s s9).s sq).put gr10.d)) (((tt.s s9).s sq).put gr10.d) ((tg.s sq).put gr10.d) ?_ (n1 (by omega))
      refine All2.append (hxs.imp fun v a h => ((h.s s9).s sq).put gr10.d) (.cons ⟨q, ag, k, rfl, sqT_put gr10.d (tup_at (upd_same ..)), (tg.s sq).put gr10.d⟩ .nil)
    · have y : ¬ ((P.len g : Int) - 1 > 0) := fun e => y (decide_eq_true e)
      exact fin _ _ xs Ls (fun _ _ h => h) gr9 (tr.s s9) (tt.s s9) tg (hxs.imp fun v a h => h.s s9) (n2 (by omega))
  · have z : ¬ ((P.len rest : Int) - 1 > 0) := fun e => z (decide_eq_true e)
    refine ⟨_, rfl, go Ls (I.done pW (by omega) bW x0 ep ⟨c0, eW⟩ sqw irw (by omega)) _ D xs gr.same hD0 gr.d hxs⟩
end
end RH
/-! W13: by a number. -/
namespace RH
open PySem PySem.Spec PyProof.Rows L2 RC
section
variable {Pg : Program} {w : World} {K : PySem.W.Frag} {mg : Str → Option Value} {base : Heap}
theorem fmod_pos {a m : Int} (h : 0 < m) : a.fmod m = a % m := Int.fmod_eq_emod_of_nonneg _ (by omega)
def sp_by_numberT (K : PySem.W.Frag) : Sp := mk2 fun x y H Q => ∃ (a : Addr) (f : P) (m : Int), x = .ref a ∧ y = .int m ∧ AtP K H a f ∧ 0 < m ∧ P.len f ≤ 10000 ∧ giveP K (P.red m f) H Q
def sp_by_numberL (K : PySem.W.Frag) : Sp := mk2 fun x y H Q => ∃ (a : Addr) (ns : List Int) (m : Int), x = .ref a ∧ y = .int m ∧ SqL K H a (ns.map V.int) ∧ 0 < m ∧ ns.length ≤ 10000 ∧ giveP K (P.red m (ofL ns)) H Q
abbrev s_by_number : Stmt := topS 31
abbrev N_by_number : List Str := ["one", "m", "weight"]
theorem sc_by_number : FnScope N_by_number ["one", "m"] (defScope s_by_number) := ⟨rfl, rfl, rfl, by decide +kernel, rfl, by decide +kernel, by decide +kernel⟩
theorem ok_by_numberT (A : At K mg "by_number" s_by_number) (T : Txt mg) (d_poly : Dn Pg w K mg base "poly" 41 ["weights"] (sp_poly K)) : Dn Pg w K mg base "by_number" 42 ["one", "m"] (sp_by_numberT K) := by
  refine mkDn A sc_by_number (fun _ _ _ _ _ _ us hl => match us, hl with | [_, _], _ => rfl) (fun vs H Q E ⟨_, _, e, _⟩ => by rw [e]; rfl) fun f cdv A outer s H vs Q E hr h => ?_
  refine ⟨_, (pss_one (ps_ret (pe_own d_poly (hr.mono (by decide)) (by rfl) (pa_cons (pe_lc (own := [("weight", 2)]) (g := gName 2) (tt := tYes) (by rfl) sc_by_number.nd (pi_tupK (K := K) (pv 0)) (blkOk_by (N := N_by_number) (sc := defScope s_by_number) (by decide +kernel)) (fun _ _ _ _ _ => (pg_name (i := 2) sc_by_number.nd rfl (.inl rfl))) (fun _ _ _ _ _ => pts_nil) (fun _ _ _ _ _ => (pe_op op_modN (pv 2) (pv 1)))) pa_nil)))), ?_⟩
  obtain ⟨v0, v1, rfl, h⟩ := h
  obtain ⟨a, f, m, rfl, rfl, hs, hm, hl, q⟩ := h
  refine ⟨_, rfl, a, rfl, ⟨_, hs⟩, fun D hD => lc_tup (xs := pl f) (fun i H' => Grow H D (tab (P.red m f).c i) H') (.new hD) (fun i H' _ g => hs.s g.same) ?_ ?_⟩
  · intro i x H' hx g
    obtain ⟨hi, rfl⟩ := pl_at hx
    exact ⟨rfl, itT ⟨_, rfl, _, rfl, _, _, rfl, rfl, by omega, g.tab hD (Same.refl _) (by omega) (by rw [fmod_pos hm, P.c_red])⟩⟩
  · intro H' g
    rw [pl_len] at g
    exact ⟨_, rfl, D, _, rfl, g.l, (q.to g.same).eq (ofL_tab (fun k _ => rfl) (P.red_Z (P.len_Z f)))⟩
theorem ok_by_numberL (A : At K mg "by_number" s_by_number) (T : Txt mg) (d_poly : Dn Pg w K mg base "poly" 41 ["weights"] (sp_poly K)) : Dn Pg w K mg base "by_number" 42 ["one", "m"] (sp_by_numberL K) := by
  refine mkDn A sc_by_number (fun _ _ _ _ _ _ us hl => match us, hl with | [_, _], _ => rfl) (fun vs H Q E ⟨_, _, e, _⟩ => by rw [e]; rfl) fun f cdv A outer s H vs Q E hr h => ?_
  refine ⟨_, (pss_one (ps_ret (pe_own d_poly (hr.mono (by decide)) (by rfl) (pa_cons (pe_lc (own := [("weight", 2)]) (g := gName 2) (tt := tYes) (by rfl) sc_by_number.nd (pi_listK (K := K) (pv 0)) (blkOk_by (N := N_by_number) (sc := defScope s_by_number) (by decide +kernel)) (fun _ _ _ _ _ => (pg_name (i := 2) sc_by_number.nd rfl (.inl rfl))) (fun _ _ _ _ _ => pts_nil) (fun _ _ _ _ _ => (pe_op op_modN (pv 2) (pv 1)))) pa_nil)))), ?_⟩
  obtain ⟨v0, v1, rfl, h⟩ := h
  obtain ⟨a, ns, m, rfl, rfl, hs, hm, hl, q⟩ := h
  refine ⟨_, rfl, a, rfl, ⟨_, hs⟩, fun D hD => lc_list (xs := ns.map V.int) (fun i H' => Grow H D (tab (P.red m (ofL ns)).c i) H') (.new hD) (fun i H' _ g => g.same.seq hs) ?_ ?_⟩
  · intro i x H' hx g
    obtain ⟨y, hy, rfl⟩ := mapI_get hx
    have hi := (List.getElem?_eq_some_iff.mp hy).1
    exact ⟨rfl, itT ⟨_, rfl, _, rfl, _, _, rfl, rfl, by omega, g.tab hD (Same.refl _) (by omega) (by rw [fmod_pos hm, P.c_red, ofL_at hy])⟩⟩
  · intro H' g
    rw [mapI_len] at g
    exact ⟨_, rfl, D, _, rfl, g.l, (q.to g.same).eq (ofL_tab (fun k _ => rfl) (P.red_Z (ofL_Z ns)))⟩
theorem len_add (f g : P) : P.len (f + g) ≤ max (P.len f) (P.len g) := P.len_min (.add ((P.len_Z f).mono (by omega)) ((P.len_Z g).mono (by omega)))
theorem len_sub (f g : P) : P.len (f - g) ≤ max (P.len f) (P.len g) := P.len_min (.sub ((P.len_Z f).mono (by omega)) ((P.len_Z g).mono (by omega)))
theorem len_mul' (f g : P) : P.len (f * g) ≤ P.len f + P.len g := P.len_min (Zmul (P.len_Z f) (P.len_Z g))
theorem len_red (m : Int) (f : P) : P.len (P.red m f) ≤ P.len f := P.len_min (P.red_Z (P.len_Z f))
def sp_m_plus (K : PySem.W.Frag) : Sp := mk3 fun x y z H Q => ∃ (a b : Addr) (f g : P) (m : Int), x = .ref a ∧ y = .ref b ∧ z = .int m ∧ AtP K H a f ∧ AtP K H b g ∧ P.len f ≤ 1000 ∧ P.len g ≤ 1000 ∧ 0 < m ∧ giveP K (P.red m (f + g)) H Q
abbrev s_m_plus : Stmt := topS 32
abbrev N_m_plus : List Str := ["one", "other", "m"]
theorem sc_m_plus : FnScope N_m_plus ["one", "other", "m"] (defScope s_m_plus) := ⟨rfl, rfl, rfl, by decide +kernel, rfl, by decide +kernel, by decide +kernel⟩
theorem ok_m_plus (A : At K mg "m_plus" s_m_plus) (T : Txt mg) (d_by_numberT : Dn Pg w K mg base "by_number" 42 ["one", "m"] (sp_by_numberT K)) (d_p_plus : Dn Pg w K mg base "p_plus" 42 ["one", "other"] (sp_p_plus K)) : Dn Pg w K mg base "m_plus" 43 ["one", "other", "m"] (sp_m_plus K) := by
  refine mkDn A sc_m_plus (fun _ _ _ _ _ _ us hl => match us, hl with | [_, _, _], _ => rfl) (fun vs H Q E ⟨_, _, _, e, _⟩ => by rw [e]; rfl) fun f cdv A outer s H vs Q E hr h => ?_
  refine ⟨_, (pss_one (ps_ret (pe_own d_by_numberT (hr.mono (by decide)) (by rfl) (pa_cons (pe_own d_p_plus (hr.mono (by decide)) (by rfl) (pa_cons (pv 0) (pa_cons (pv 1) pa_nil))) (pa_cons (pv 2) pa_nil))))), ?_⟩
  obtain ⟨v0, v1, v2, rfl, h⟩ := h
  obtain ⟨a, b, f, g, m, rfl, rfl, rfl, hf, hg, lf, lg, hm, q⟩ := h
  refine ⟨_, rfl, _, rfl, _, _, rfl, a, b, f, g, rfl, rfl, hf, hg, lf, lg, fun H' p s t => ⟨_, rfl, _, _, rfl, p, _, m, rfl, rfl, t, hm, ?_, q.to s⟩⟩
  have := len_add f g
  omega
def sp_m_minus (K : PySem.W.Frag) : Sp := mk3 fun x y z H Q => ∃ (a b : Addr) (f g : P) (m : Int) (b1 : Nat), x = .ref a ∧ y = .ref b ∧ z = .int m ∧ AtP K H a f ∧ AtP K H b g ∧ P.len f ≤ 1000 ∧ P.len g ≤ 1000 ∧ 0 < m ∧ P.Bt b1 g ∧ b1 ≤ 90000000 ∧ giveP K (P.red m (f - g)) H Q
abbrev s_m_minus : Stmt := topS 33
abbrev N_m_minus : List Str := ["one", "other", "m"]
theorem sc_m_minus : FnScope N_m_minus ["one", "other", "m"] (defScope s_m_minus) := ⟨rfl, rfl, rfl, by decide +kernel, rfl, by decide +kernel, by decide +kernel⟩
theorem ok_m_minus (A : At K mg "m_minus" s_m_minus) (T : Txt mg) (d_by_numberT : Dn Pg w K mg base "by_number" 42 ["one", "m"] (sp_by_numberT K)) (d_p_minus : Dn Pg w K mg base "p_minus" 43 ["one", "other"] (sp_p_minus K)) : Dn Pg w K mg base "m_minus" 44 ["one", "other", "m"] (sp_m_minus K) := by
  refine mkDn A sc_m_minus (fun _ _ _ _ _ _ us hl => match us, hl with | [_, _, _], _ => rfl) (fun vs H Q E ⟨_, _, _, e, _⟩ => by rw [e]; rfl) fun f cdv A outer s H vs Q E hr h => ?_
  refine ⟨_, (pss_one (ps_ret (pe_own d_by_numberT (hr.mono (by decide)) (by rfl) (pa_cons (pe_own d_p_minus (hr.mono (by decide)) (by rfl) (pa_cons (pv 0) (pa_cons (pv 1) pa_nil))) (pa_cons (pv 2) pa_nil))))), ?_⟩
  obtain ⟨v0, v1, v2, rfl, h⟩ := h
  obtain ⟨a, b, f, g, m, b1, rfl, rfl, rfl, hf, hg, lf, lg, hm, hb, hb1, q⟩ := h
  refine ⟨_, rfl, _, rfl, _, _, rfl, a, b, f, g, b1, rfl, rfl, hf, hg, lf, lg, hb, hb1, fun H' p s t => ⟨_, rfl, _, _, rfl, p, _, m, rfl, rfl, t, hm, ?_, q.to s⟩⟩
  have := len_sub f g
  omega
def sp_m_times (K : PySem.W.Frag) : Sp := mk3 fun x y z H Q => ∃ (a b : Addr) (f g : P) (m : Int) (b1 b2 : Nat), x = .ref a ∧ y = .ref b ∧ z = .int m ∧ AtP K H a f ∧ AtP K H b g ∧ P.len f ≤ 1000 ∧ P.len g ≤ 1000 ∧ 0 < m ∧ P.Bt b1 f ∧ P.Bt b2 g ∧ b1 + b2 ≤ 100000000 ∧ giveP K (P.red m (f * g)) H Q
abbrev s_m_times : Stmt := topS 34
abbrev N_m_times : List Str := ["one", "other", "m"]
theorem sc_m_times : FnScope N_m_times ["one", "other", "m"] (defScope s_m_times) := ⟨rfl, rfl, rfl, by decide +kernel, rfl, by decide +kernel, by decide +kernel⟩
theorem ok_m_times (A : At K mg "m_times" s_m_times) (T : Txt mg) (d_by_numberT : Dn Pg w K mg base "by_number" 42 ["one", "m"] (sp_by_numberT K)) (d_p_times : Dn Pg w K mg base "p_times" 42 ["one", "other"] (sp_p_times K)) : Dn Pg w K mg base "m_times" 43 ["one", "other", "m"] (sp_m_times K) := by
  refine mkDn A sc_m_times (fun _ _ _ _ _ _ us hl => match us, hl with | [_, _, _], _ => rfl) (fun vs H Q E ⟨_, _, _, e, _⟩ => by rw [e]; rfl) fun f cdv A outer s H vs Q E hr h => ?_
  refine ⟨_, (pss_one (ps_ret (pe_own d_by_numberT (hr.mono (by decide)) (by rfl) (pa_cons (pe_own d_p_times (hr.mono (by decide)) (by rfl) (pa_cons (pv 0) (pa_cons (pv 1) pa_nil))) (pa_cons (pv 2) pa_nil))))), ?_⟩
  obtain ⟨v0, v1, v2, rfl, h⟩ := h
  obtain ⟨a, b, f, g, m, b1, b2, rfl, rfl, rfl, hf, hg, lf, lg, hm, h1, h2, hb, q⟩ := h
  refine ⟨_, rfl, _, rfl, _, _, rfl, a, b, f, g, b1, b2, rfl, rfl, hf, hg, lf, lg, h1, h2, hb, fun H' p s t => ⟨_, rfl, _, _, rfl, p, _, m, rfl, rfl, t, hm, ?_, q.to s⟩⟩
  have := len_mul' f g
  omega
/-! ### the inverse -/
def sp_inverse_by (K : PySem.W.Frag) : Sp := mk2 fun x y H Q => ∃ (n m : Int) (b : Nat), x = .int n ∧ y = .int m ∧ 1 < m ∧ m.natAbs < 2 ^ b ∧ b ≤ 40000000 ∧ (∃ u, m ∣ n * u - 1) ∧ ∀ u, 0 ≤ u → u < m → m ∣ n * u - 1 → ∀ H', Same H H' → Q (.int u) H'
/-- while the inverse is told -/
structure IvI (n m first second left right : Int) : Prop where
  f1 : 1 ≤ first
  s0 : 0 ≤ second
  el : m ∣ n * left - first
  er : m ∣ n * right - second
  cp : ∀ d, d ∣ first → d ∣ second → d.natAbs = 1
  sg : (0 ≤ left ∧ right ≤ 0 ∧ first * (- right) + second * left = m) ∨ (left ≤ 0 ∧ 0 ≤ right ∧ first * right + second * (- left) = m)
theorem IvI.next {n m first second left right : Int} (h : IvI n m first second left right) (hs : 0 < second) : IvI n m second (first - first / second * second) right (left - first / second * right) := by
  have h1 : first - first / second * second = first % second := by rw [Int.mul_comm, ← Int.emod_def]
  have h2 := Int.emod_nonneg first (show second ≠ 0 by omega)
  have q0 : 0 ≤ first / second := Int.ediv_nonneg (by have := h.f1; omega) (by omega)
  generalize first / second = q at h1 q0 ⊢
  refine ⟨by omega, by rw [h1]; exact h2, h.er, ?_, fun d a b => ?_, ?_⟩
  · have e : n * (left - q * right) - (first - q * second) = (n * left - first) - q * (n * right - second) := by grind
    rw [e]
    exact Int.dvd_sub h.el (Int.dvd_mul_of_dvd_right h.er)
  · refine h.cp d ?_ a
    have e : first = (first - q * second) + q * second := by omega
    rw [e]
    exact Int.dvd_add b (Int.dvd_mul_of_dvd_right a)
  · rcases h.sg with ⟨a, b, c⟩ | ⟨a, b, c⟩
    · have : q * right ≤ 0 := Int.mul_nonpos_of_nonneg_of_nonpos q0 b
      exact .inr ⟨b, by omega, by rw [← c]; grind⟩
    · have : 0 ≤ q * right := Int.mul_nonneg q0 b
      exact .inl ⟨b, by omega, by rw [← c]; grind⟩
theorem IvI.start {n m : Int} (hm : 1 < m) (h : ∃ u, m ∣ n * u - 1) : IvI n m (n % m) m 1 0 := by
  obtain ⟨u, hu⟩ := h
  have cp : ∀ d, d ∣ n % m → d ∣ m → d.natAbs = 1 := fun d a b => by
    have hn : d ∣ n := by
      rw [← Int.mul_ediv_add_emod n m]
      exact Int.dvd_add (Int.dvd_mul_of_dvd_left b) a
    have h1 : d ∣ 1 := by
      have := Int.dvd_sub (Int.dvd_mul_of_dvd_left (c := u) hn) (Int.dvd_trans b hu)
      rw [show n * u - (n * u - 1) = 1 by omega] at this
      exact this
    have := Int.natAbs_dvd_natAbs.mpr h1
    exact Nat.eq_one_of_dvd_one this
  have e0 := Int.emod_nonneg n (show m ≠ 0 by omega)
  refine ⟨?_, by omega, ?_, ⟨-1, by omega⟩, cp, .inl ⟨by decide, by decide, by omega⟩⟩
  · rcases Int.lt_or_eq_of_le e0 with h | h
    · omega
    · have := cp m (by rw [← h]; exact Int.dvd_zero m) (Int.dvd_refl m)
      omega
  · rw [Int.mul_one, Int.emod_def]
    exact ⟨n / m, by omega⟩
theorem IvI.bd {n m first second left right : Int} (h : IvI n m first second left right) (hs : 0 < second) : first / second * second ≤ first ∧ left.natAbs ≤ m.natAbs ∧ right.natAbs ≤ m.natAbs := by
  have f1 := h.f1
  refine ⟨?_, ?_, ?_⟩
  · rw [Int.mul_comm]; exact Int.mul_ediv_self_le (by omega)
  · rcases h.sg with ⟨a, b, c⟩ | ⟨a, b, c⟩
    · have h1 : 1 * left ≤ second * left := Int.mul_le_mul_of_nonneg_right (by omega) a
      have h2 : 0 ≤ first * (- right) := Int.mul_nonneg (by omega) (by omega)
      omega
    · have h1 : 1 * (- left) ≤ second * (- left) := Int.mul_le_mul_of_nonneg_right (by omega) (by omega)
      have h2 : 0 ≤ first * right := Int.mul_nonneg (by omega) (by omega)
      omega
  · rcases h.sg with ⟨a, b, c⟩ | ⟨a, b, c⟩
    · have h1 : 1 * (- right) ≤ first * (- right) := Int.mul_le_mul_of_nonneg_right (by omega) (by omega)
      have h2 : 0 ≤ second * left := Int.mul_nonneg (by omega) (by omega)
      omega
    · have h1 : 1 * right ≤ first * right := Int.mul_le_mul_of_nonneg_right (by omega) (by omega)
      have h2 : 0 ≤ second * (- left) := Int.mul_nonneg (by omega) (by omega)
      omega
abbrev s_inverse_by : Stmt := topS 35
abbrev N_inverse_by : List Str := ["number", "m", "first", "second", "left", "right", "many"]
theorem sc_inverse_by : FnScope N_inverse_by ["number", "m"] (defScope s_inverse_by) := ⟨rfl, rfl, rfl, by decide +kernel, rfl, by decide +kernel, by decide +kernel⟩
theorem ok_inverse_by (A : At K mg "inverse_by" s_inverse_by) (T : Txt mg) (B : Big Pg base) : Dn Pg w K mg base "inverse_by" 41 ["number", "m"] (sp_inverse_by K) := by
  refine mkDn A sc_inverse_by (fun _ _ _ _ _ _ us hl => match us, hl with | [_, _], _ => rfl) (fun vs H Q E ⟨_, _, e, _⟩ => by rw [e]; rfl) fun f cdv A outer s H vs Q E hr h => ?_
  refine ⟨_, (pss_cons (ps_par (i := 2) (j := 3) (by rfl) sc_inverse_by.nd rfl rfl (by decide) rfl rfl (pa_cons (pe_op op_modN (pv 0) (pv 1)) (pa_cons (pv 1) pa_nil)) (by rfl))
      (pss_cons (ps_asg (pe_tup (pa_cons pe_int (pa_cons pe_int pa_nil))) (pg_tupK (K := K) (n := 2) rfl (pgs_cons (pg_name (i := 4) sc_inverse_by.nd rfl (.inl rfl)) (pgs_cons (pg_name (i := 5) sc_inverse_by.nd rfl (.inl rfl)) pgs_nil))))
      (pss_cons (ps_while PassesOwn.never (pt_cmpR op_gt (pv 3) pe_int (nomark _)) (pss_cons (ps_set (i := 6) sc_inverse_by.nd rfl (.inl rfl) (pe_op (op_fdivB B.ns B.tr (dp100 hr) rfl rfl rfl rfl rfl) (pv 2) (pv 3)))
      (pss_cons (ps_par (i := 2) (j := 3) (by rfl) sc_inverse_by.nd rfl rfl (by decide) rfl rfl (pa_cons (pv 3) (pa_cons (pe_op op_sub (pv 2) (pe_op op_mulB (pv 6) (pv 3))) pa_nil)) (by rfl))
      (pss_one (ps_par (i := 4) (j := 5) (by rfl) sc_inverse_by.nd rfl rfl (by decide) rfl rfl (pa_cons (pv 5) (pa_cons (pe_op op_sub (pv 4) (pe_op op_mulB (pv 6) (pv 5))) pa_nil)) (by rfl))))))
      (pss_cons (ps_if (pt_cmpR op_ne (pv 2) pe_int (nomark _)) (pss_one ps_never) pss_nil)
      (pss_one (ps_ret (pe_op op_modN (pv 4) (pv 1)))))))), ?_⟩
  obtain ⟨v0, v1, rfl, h⟩ := h
  obtain ⟨n, m, b, rfl, rfl, hm, hb, hb2, hu, q⟩ := h
  have I0 := IvI.start hm hu
  have e0 : n.fmod m = n % m := fmod_pos (by omega)
  refine ⟨_, rfl, _, rfl, _, _, rfl, rfl, by omega, _, rfl, _, _, rfl, sz2, fun p hp => ⟨p, _, rfl, tup_at (upd_same ..), rfl, _, _, rfl, _, _, rfl, rfl, ?_⟩⟩
  refine ⟨fun k σ H' => H' = upd H p (.tup [.int 1, .int 0]) ∧ ∃ (f1 s1 l1 r1 : Int) (u6 : Option V), σ = [some (.int n), some (.int m), some (.int f1), some (.int s1), some (.int l1), some (.int r1), u6] ∧ IvI n m f1 s1 l1 r1 ∧ f1 ≤ m ∧ s1 ≤ m ∧ k = s1.toNat, ⟨_, rfl, n.fmod m, m, 1, 0, _, rfl, e0 ▸ I0, ?_, by omega, rfl⟩, ?_⟩
  · have := Int.emod_lt_of_pos n (show 0 < m by omega)
    omega
  · rintro k σ H' ⟨rfl, f1, s1, l1, r1, u6, rfl, I, fm, sm, rfl⟩
    refine ⟨_, rfl, _, _, rfl, rfl, _, rfl, ite2 (fun c => ?_) fun c => ?_⟩
    · have c := of_decide_eq_true c
      have e : f1.fdiv s1 = f1 / s1 := Int.fdiv_eq_ediv_of_nonneg _ (by omega)
      have I2 := I.next c
      obtain ⟨b1, b2, b3⟩ := I.bd c
      rw [← e] at I2 b1
      have hf1 := I.f1
      have q0 : 0 ≤ f1.fdiv s1 := by rw [e]; exact Int.ediv_nonneg (by omega) (by omega)
      have q1 : f1.fdiv s1 ≤ f1 := by rw [e]; exact Int.ediv_le_self _ (by omega)
      refine ⟨_, fun _ _ h => h, ?_⟩
      refine ⟨_, rfl, _, rfl, _, _, rfl, rfl, by omega, ?_⟩
      refine ⟨_, rfl, _, rfl, _, rfl, _, rfl, _, _, rfl, rfl, mulOk (a := b) (b := b) (by omega) (by omega) (by omega), _, _, rfl, rfl, _, _, rfl, ?_⟩
      refine ⟨_, rfl, _, rfl, _, rfl, _, rfl, _, _, rfl, rfl, mulOk (a := b) (b := b) (by omega) (by omega) (by omega), _, _, rfl, rfl, _, _, rfl, ?_⟩
      refine ⟨(f1 - f1.fdiv s1 * s1).toNat, ?_, rfl, _, _, _, _, _, rfl, I2, sm, ?_, rfl⟩
      · have : f1 - f1.fdiv s1 * s1 = f1 % s1 := by rw [e, Int.mul_comm, ← Int.emod_def]
        have h2 := Int.emod_lt_of_pos f1 c
        have h3 := I2.s0
        omega
      · have : f1 - f1.fdiv s1 * s1 = f1 % s1 := by rw [e, Int.mul_comm, ← Int.emod_def]
        have h2 := Int.emod_lt_of_pos f1 c
        omega
    · have c : ¬ s1 > 0 := fun z => c (decide_eq_true z)
      have s0 : s1 = 0 := by have := I.s0; omega
      subst s0
      have h1 : f1 = 1 := by
        have := I.cp f1 (Int.dvd_refl f1) (Int.dvd_zero f1)
        have := I.f1
        omega
      subst h1
      refine ⟨_, rfl, rfl, _, rfl, ?_⟩
      refine iteF ⟨_, rfl, _, rfl, _, _, rfl, rfl, by omega, ?_⟩
      show Q (.int (l1.fmod m)) _
      rw [fmod_pos (by omega)]
      refine q _ (Int.emod_nonneg _ (by omega)) (Int.emod_lt_of_pos _ (by omega)) ?_ _ (same_new hp)
      have e2 : n * (l1 % m) - 1 = (n * l1 - 1) - m * (n * (l1 / m)) := by rw [Int.emod_def]; grind
      rw [e2]
      exact Int.dvd_sub I.el ⟨_, rfl⟩
def sp_single (K : PySem.W.Frag) : Sp := mk2 fun x y H Q => ∃ (a : Addr) (f : P) (t : Int) (b b1 : Nat), x = .ref a ∧ y = .int t ∧ AtP K H a f ∧ 1 < t ∧ t.natAbs < 2 ^ b ∧ P.Bt b1 f ∧ b + b1 ≤ 40000000 ∧ P.len f ≤ 1000 ∧ (f ≠ 0 → ∃ u, t ∣ P.lc f * u - 1) ∧ (f = 0 → giveP K 0 H Q) ∧ (f ≠ 0 → ∀ u, 0 ≤ u → u < t → t ∣ P.lc f * u - 1 → giveP K (P.red t (P.K u * f)) H Q)
abbrev s_single : Stmt := topS 37
abbrev N_single : List Str := ["one", "t", "unit", "weight"]
theorem sc_single : FnScope N_single ["one", "t"] (defScope s_single) := ⟨rfl, rfl, rfl, by decide +kernel, rfl, by decide +kernel, by decide +kernel⟩
theorem ok_single (A : At K mg "single" s_single) (T : Txt mg) (d_inverse_by : Dn Pg w K mg base "inverse_by" 41 ["number", "m"] (sp_inverse_by K)) (d_by_numberL : Dn Pg w K mg base "by_number" 42 ["one", "m"] (sp_by_numberL K)) : Dn Pg w K mg base "single" 43 ["one", "t"] (sp_single K) := by
  refine mkDn A sc_single (fun _ _ _ _ _ _ us hl => match us, hl with | [_, _], _ => rfl) (fun vs H Q E ⟨_, _, e, _⟩ => by rw [e]; rfl) fun f cdv A outer s H vs Q E hr h => ?_
  refine ⟨_, (pss_cons (ps_if (pt_cmpR (op_eqDK (K := K) hr.units) (pv 0) (pe_tup pa_nil) (nomark _)) (pss_one (ps_ret (pe_tup pa_nil))) pss_nil)
      (pss_cons (ps_set (i := 2) sc_single.nd rfl (.inr rfl) (pe_own d_inverse_by (hr.mono (by decide)) (by rfl) (pa_cons (pe_ix (ix_tupK (K := K)) (pv 0) (pe_un un_neg pe_int) (fun _ _ => rfl)) (pa_cons (pv 1) pa_nil))))
      (pss_one (ps_ret (pe_own d_by_numberL (hr.mono (by decide)) (by rfl) (pa_cons (pe_lc (own := [("weight", 3)]) (g := gName 3) (tt := tYes) (by rfl) sc_single.nd (pi_tupK (K := K) (pv 0)) (blkOk_by (N := N_single) (sc := defScope s_single) (by decide +kernel)) (fun _ _ _ _ _ => (pg_name (i := 3) sc_single.nd rfl (.inl rfl))) (fun _ _ _ _ _ => pts_nil) (fun _ _ _ _ _ => (pe_op op_mulB (pv 3) (pv 2)))) (pa_cons (pv 1) pa_nil))))))), ?_⟩
  obtain ⟨v0, v1, rfl, h⟩ := h
  obtain ⟨a, f, t, b, b1, rfl, rfl, hf, ht, hb, hb1, hbs, lf, hu, q0, q⟩ := h
  refine ⟨_, rfl, sz0, fun p hp => eqD_0 hf hp fun bb' hbb => ⟨bb', rfl, ite2 (fun c => ?_) fun c => ?_⟩⟩
  · exact ⟨sz0, fun p2 hp2 => q0 (hbb.mp c) _ _ ((same_new hp).trans (same_new hp2)) (at_0 (tup_at (upd_same ..)))⟩
  · have c : f ≠ 0 := fun z => c (hbb.mpr z)
    have s1 := same_new (o := .tup []) hp
    refine ⟨_, rfl, _, rfl, a, _, _, _, rfl, rfl, hf.s s1, atI_neg (pl_last c), _, rfl, _, _, rfl, P.lc f, t, b, rfl, rfl, ht, hb, by omega, hu c, fun u u0 ut hd H1 s2 => ?_⟩
    have s1 := s1.trans s2
    refine ⟨_, rfl, a, rfl, ⟨_, hf.s s1⟩, fun D hD => lc_tup (xs := pl f) (fun i H' => Grow H1 D (tab (fun k => f.c k * u) i) H') (.new hD) (fun i H' _ g => (hf.s s1).s g.same) ?_ ?_⟩
    · intro i x H' hx g
      obtain ⟨hi, rfl⟩ := pl_at hx
      exact ⟨rfl, itT ⟨_, rfl, _, rfl, _, _, rfl, rfl, mulOk (b := b) (hb1 i) (by omega) (by omega), g.tab hD (Same.refl _) (by omega) rfl⟩⟩
    · intro H' g
      rw [pl_len] at g
      refine ⟨_, rfl, _, _, rfl, D, _, t, rfl, rfl, g.l, by omega, by rw [List.length_map, List.length_range]; omega, ?_⟩
      rw [ofL_tab (fun k _ => by rw [P.K_mul, Int.mul_comm]) ((P.len_Z f).kmul u)]
      exact ((q c u u0 ut hd).to s1).to g.same
end
end RH
/-! W14: division by a number. -/
namespace RH
open PySem PySem.Spec PyProof.Rows L2 RC
/-- what a division by a number tells -/
structure Md (f g : P) (m : Int) (q r : P) : Prop where
  cg : P.Cg m f (g * q + r)
  rq : P.Rd m q
  rr : P.Rd m r
  lr : P.len r < P.len g
  lq : P.len q ≤ P.len f + 1 - P.len g
/-- row by row within one turn -/
def rw1 (ro g : P) (m phi : Int) (p j : Nat) : P := ⟨fun i => if p ≤ i ∧ i < p + j then (ro.c i - phi * g.c (i - p)) % m else ro.c i, max (P.len ro) (p + j), fun k h => by
  rw [if_neg (by omega)]
  exact P.len_Z ro k (by omega)⟩
theorem c_rw1 (ro g : P) (m phi : Int) (p j i : Nat) : (rw1 ro g m phi p j).c i = if p ≤ i ∧ i < p + j then (ro.c i - phi * g.c (i - p)) % m else ro.c i := rfl
theorem rw1_0 (ro g : P) (m phi : Int) (p : Nat) : rw1 ro g m phi p 0 = ro := P.ext fun k => by rw [c_rw1, if_neg (by omega)]
/-- while it divides by a number -/
structure MdI (f g : P) (m : Int) (N p : Nat) (al b : Nat) (ka ro : P) : Prop where
  cg : P.Cg m f (g * ka + ro)
  zk : P.Z ka N
  k0 : ∀ k, k < p → ka.c k = 0
  zr : P.Z ro (P.len f)
  d : ∀ k, p + P.len g - 1 ≤ k → m ∣ ro.c k
  bt : ∀ k, (ro.c k).natAbs < 2 ^ al ∨ (ro.c k).natAbs < 2 ^ b
theorem MdI.next {f g : P} {m : Int} {N p al b : Nat} {ka ro : P} (h : MdI f g m N (p + 1) al b ka ro) (hm : 1 < m) (hb : m.natAbs < 2 ^ b) (hg : g ≠ 0) (hN : N = P.len f + 1 - P.len g) (hp : p < N) {u : Int} (hu : m ∣ P.lc g * u - 1) {phi : Int} (ephi : phi = ro.c (p + P.len g - 1) * u % m) :
    MdI f g m N p al b (ka + P.mon phi p) (rw1 ro g m phi p (P.len g)) := by
  have lg := P.len_pos.mpr hg
  refine ⟨?_, .add h.zk ((P.mon_Z _ _).mono (by omega)), fun k hk => ?_, fun k hk => ?_, fun k hk => ?_, fun k => ?_⟩
  · have e : P.Cg m (rw1 ro g m phi p (P.len g)) (ro - P.mon phi p * g) := P.Cg.iff.mpr fun k => by
      rw [c_rw1, P.c_sub, P.mon_mul]
      by_cases c : p ≤ k
      · rw [if_pos c]
        by_cases c2 : k < p + P.len g
        · rw [if_pos ⟨c, c2⟩]
          exact ⟨-((ro.c k - phi * g.c (k - p)) / m), by rw [Int.emod_def]; grind⟩
        · rw [if_neg (by omega), P.len_Z g (k - p) (by omega)]
          exact ⟨0, by omega⟩
      · rw [if_neg (by omega), if_neg c]
        exact ⟨0, by omega⟩
    refine h.cg.trans (P.Cg.symm ?_)
    refine ((P.Cg.refl m _).add e).trans (P.Cg.of_eq ?_)
    grind
  · rw [P.c_add, h.k0 k (by omega), P.c_mon, if_neg (by omega)]
    rfl
  · rw [c_rw1, if_neg (by omega)]
    exact h.zr k hk
  · rw [c_rw1]
    by_cases c : k < p + P.len g
    · have ek : k = p + P.len g - 1 := by omega
      rw [if_pos (by omega)]
      have e2 : g.c (k - p) = P.lc g := by rw [show k - p = P.len g - 1 by omega]; rfl
      rw [e2, ek]
      refine Int.dvd_of_emod_eq_zero ?_
      rw [Int.emod_emod]
      refine Int.emod_eq_zero_of_dvd ?_
      obtain ⟨z, hz⟩ := hu
      refine ⟨- ro.c (p + P.len g - 1) * z + (ro.c (p + P.len g - 1) * u / m) * P.lc g, ?_⟩
      rw [ephi, Int.emod_def]
      grind
    · rw [if_neg (by omega)]
      exact h.d k (by omega)
  · rw [c_rw1]
    split
    · right
      have h1 := Int.emod_nonneg (ro.c k - phi * g.c (k - p)) (show m ≠ 0 by omega)
      have h2 := Int.emod_lt_of_pos (ro.c k - phi * g.c (k - p)) (show 0 < m by omega)
      omega
    · exact h.bt k
theorem MdI.done {f g : P} {m : Int} {N al b : Nat} {ka ro : P} (h : MdI f g m N 0 al b ka ro) (hm : 1 < m) (hg : g ≠ 0) (hN : N = P.len f + 1 - P.len g) : Md f g m (P.red m ka) (P.red m ro) := by
  have lg := P.len_pos.mpr hg
  refine ⟨h.cg.trans (P.Cg.symm (((P.red_Cg m ka).mull g).add (P.red_Cg m ro))), P.red_Rd (by omega) _, P.red_Rd (by omega) _, ?_, ?_⟩
  · have : P.Z (P.red m ro) (P.len g - 1) := fun k hk => by
      rw [P.c_red]
      exact Int.emod_eq_zero_of_dvd (h.d k (by omega))
    have := P.len_min this
    omega
  · rw [← hN]
    exact P.len_min (P.red_Z h.zk)
section
variable {Pg : Program} {w : World} {K : PySem.W.Frag} {mg : Str → Option Value} {base : Heap}
def give2 (K : PySem.W.Frag) (q r : P) (H : Hp) (Q : VK) : Prop := ∀ H' p a b, Same H H' → H' p = some (.tup [.ref a, .ref b]) → AtP K H' a q → AtP K H' b r → Q (.ref p) H'
def sp_m_parted (K : PySem.W.Frag) : Sp := mk3 fun x y z H Q => ∃ (a b : Addr) (f g : P) (m : Int) (al be bm : Nat), x = .ref a ∧ y = .ref b ∧ z = .int m ∧ AtP K H a f ∧ AtP K H b g ∧ g ≠ 0 ∧ 1 < m ∧ m.natAbs < 2 ^ bm ∧ P.Bt al f ∧ P.Bt be g ∧ al + be + bm ≤ 20000000 ∧ P.len f ≤ 1000 ∧ P.len g ≤ 1000 ∧ (∃ u, m ∣ P.lc g * u - 1) ∧ ∀ q r, Md f g m q r → give2 K q r H Q
/-- two lists of one's own -/
structure Grow2 (H1 : Hp) (D1 D2 : Addr) (l1 l2 : List V) (H : Hp) : Prop where
  same : Same H1 H
  d1 : H D1 = some (.lst l1)
  d2 : H D2 = some (.lst l2)
theorem Grow2.to {H1 : Hp} {D1 D2 : Addr} {l1 l2 : List V} {H H' : Hp} (g : Grow2 H1 D1 D2 l1 l2 H) (e : Same H H') : Grow2 H1 D1 D2 l1 l2 H' := ⟨g.same.trans e, e _ _ g.d1, e _ _ g.d2⟩
theorem Grow2.set1 {H1 : Hp} {D1 D2 : Addr} {l1 l2 l : List V} {H : Hp} (g : Grow2 H1 D1 D2 l1 l2 H) (n : H1 D1 = none) (ne : D1 ≠ D2) : Grow2 H1 D1 D2 l l2 (upd H D1 (.lst l)) := ⟨g.same.put n, upd_same .., by rw [upd_ne (fun z => ne z.symm)]; exact g.d2⟩
theorem Grow2.set2 {H1 : Hp} {D1 D2 : Addr} {l1 l2 l : List V} {H : Hp} (g : Grow2 H1 D1 D2 l1 l2 H) (n : H1 D2 = none) (ne : D1 ≠ D2) : Grow2 H1 D1 D2 l1 l (upd H D2 (.lst l)) := ⟨g.same.put n, by rw [upd_ne ne]; exact g.d1, upd_same ..⟩
theorem ofL_Zc {r : P} {n : Nat} (z : P.Z r n) : ofL ((List.range n).map r.c) = r := ofL_tab (fun _ _ => rfl) z
theorem tab_lst {H : Hp} {D : Addr} {g : Nat → Int} {n : Nat} (h : H D = some (.lst (tab g n))) : SqL K H D (((List.range n).map g).map V.int) := by
  rw [← tab_eq]
  exact lst_at h
theorem pl_tabN {f : P} : pl f = tab f.c (P.len f) := pl_tab f
theorem bits_or {x : Int} {a b c : Nat} (h : x.natAbs < 2 ^ a ∨ x.natAbs < 2 ^ b) (ha : a ≤ c) (hb : b ≤ c) : x.natAbs < 2 ^ c := by
  rcases h with h | h
  · exact Nat.lt_of_lt_of_le h (Nat.pow_le_pow_right (by decide) ha)
  · exact Nat.lt_of_lt_of_le h (Nat.pow_le_pow_right (by decide) hb)
theorem ixN_ok {n k : Nat} (h : k < n) : ixN n (k : Int) = some k := by
  unfold ixN
  rw [if_pos (by omega), if_pos (by omega)]
  rfl
abbrev s_m_parted : Stmt := topS 36
abbrev N_m_parted : List Str := ["one", "other", "m", "unit", "rest", "quotient", "place", "factor", "k", "weight"]
theorem sc_m_parted : FnScope N_m_parted ["one", "other", "m"] (defScope s_m_parted) := ⟨rfl, rfl, rfl, by decide +kernel, rfl, by decide +kernel, by decide +kernel⟩
theorem ok_m_parted (A : At K mg "m_parted" s_m_parted) (T : Txt mg) (d_inverse_by : Dn Pg w K mg base "inverse_by" 41 ["number", "m"] (sp_inverse_by K)) (d_by_numberL : Dn Pg w K mg base "by_number" 42 ["one", "m"] (sp_by_numberL K)) : Dn Pg w K mg base "m_parted" 43 ["one", "other", "m"] (sp_m_parted K) := by
  refine mkDn A sc_m_parted (fun _ _ _ _ _ _ us hl => match us, hl with | [_, _, _], _ => rfl) (fun vs H Q E ⟨_, _, _, e, _⟩ => by rw [e]; rfl) fun f cdv A outer s H vs Q E hr h => ?_
  refine ⟨_, (pss_cons (ps_if (pt_cmpR (op_eqDK (K := K) hr.units) (pv 1) (pe_tup pa_nil) (nomark _)) (pss_one ps_never) pss_nil)
      (pss_cons (ps_set (i := 3) sc_m_parted.nd rfl (.inl rfl) (pe_own d_inverse_by (hr.mono (by decide)) (by rfl) (pa_cons (pe_ix (ix_tupK (K := K)) (pv 1) (pe_un un_neg pe_int) (fun _ _ => rfl)) (pa_cons (pv 2) pa_nil))))
      (pss_cons (ps_set (i := 4) sc_m_parted.nd rfl (.inl rfl) (pe_callTy (call_lstK (K := K)) (by rfl) T.list (by decide +kernel) (pa_cons (pv 0) pa_nil)))
      (pss_cons (ps_set (i := 5) sc_m_parted.nd rfl (.inl rfl) (pe_op op_rep (pe_lst (pa_cons pe_int pa_nil)) (pe_callB (call_max2 rfl) (by rfl) T.max (by decide +kernel) (pa_cons pe_int (pa_cons (pe_op op_add (pe_op op_sub (pe_callB (call_lenK (K := K)) (by rfl) T.len PySem.boot_len (pa_cons (pv 0) pa_nil)) (pe_callB (call_lenK (K := K)) (by rfl) T.len PySem.boot_len (pa_cons (pv 1) pa_nil))) pe_int) pa_nil)))))
      (pss_cons (ps_for PassesOwn.never rfl (pi_revR (by rfl) T.reversed (prg_1 (by rfl) T.range (pe_callB (call_lenK (K := K)) (by rfl) T.len PySem.boot_len (pa_cons (pv 5) pa_nil)))) (pg_name (i := 6) sc_m_parted.nd rfl (.inl rfl)) (pss_cons (ps_set (i := 7) sc_m_parted.nd rfl (.inl rfl) (pe_op op_modN (pe_op op_mulB (pe_ix (ix_listK (K := K)) (pv 4) (pe_op op_sub (pe_op op_add (pv 6) (pe_callB (call_lenK (K := K)) (by rfl) T.len PySem.boot_len (pa_cons (pv 1) pa_nil))) pe_int) (fun _ _ => rfl)) (pv 3)) (pv 2)))
      (pss_cons (ps_asg (pv 7) (pg_sub (pv 5) (pv 6) set_list))
      (pss_one (ps_for PassesOwn.never rfl (pi_enumTK (K := K) (by rfl) T.enumerate (pa_cons (pv 1) pa_nil)) (pg_tupK (K := K) (n := 2) rfl (pgs_cons (pg_name (i := 8) sc_m_parted.nd rfl (.inl rfl)) (pgs_cons (pg_name (i := 9) sc_m_parted.nd rfl (.inl rfl)) pgs_nil))) (pss_one (ps_asg (pe_op op_modN (pe_op op_sub (pe_ix (ix_listK (K := K)) (pv 4) (pe_op op_add (pv 6) (pv 8)) (fun _ _ => rfl)) (pe_op op_mulB (pv 7) (pv 9))) (pv 2)) (pg_sub (pv 4) (pe_op op_add (pv 6) (pv 8)) set_list))))))))
      (pss_one (ps_ret (pe_tup (pa_cons (pe_own d_by_numberL (hr.mono (by decide)) (by rfl) (pa_cons (pv 5) (pa_cons (pv 2) pa_nil))) (pa_cons (pe_own d_by_numberL (hr.mono (by decide)) (by rfl) (pa_cons (pv 4) (pa_cons (pv 2) pa_nil))) pa_nil)))))))))), ?_⟩
  obtain ⟨v0, v1, v2, rfl, h⟩ := h
  obtain ⟨a, b, f, g, m, al, be, bm, rfl, rfl, rfl, hf, hg, g0, hm, hbm, bf, bg, hbs, lf, lg, hu, go⟩ := h
  have lg1 := P.len_pos.mpr g0
  refine ⟨_, rfl, sz0, fun p hp => eqD_0 hg hp fun bb' hbb => ⟨bb', rfl, ite2 (fun c => absurd (hbb.mp c) g0) fun c => ?_⟩⟩
  have s1 := same_new (o := .tup []) hp
  refine ⟨_, rfl, _, rfl, b, _, _, _, rfl, rfl, hg.s s1, atI_neg (pl_last g0), _, rfl, _, _, rfl, P.lc g, m, bm, rfl, rfl, hm, hbm, by omega, hu, fun u u0 ut hdu H1 s2 => ?_⟩
  have s2 := s1.trans s2
  refine ⟨_, rfl, a, _, rfl, .inr (hf.s s2), fun D1 hD1 => ?_⟩
  have hD10 := none_same s2 hD1
  have s3 := s2.trans (same_new (o := .lst (pl f)) hD1)
  refine ⟨sz1, fun p2 hp2 => ?_⟩
  have s4 := s3.trans (same_new (o := .lst [.int 0]) hp2)
  refine ⟨_, rfl, a, _, rfl, .inr (hf.s s4), _, rfl, b, _, rfl, .inr (hg.s s4), _, _, rfl, rfl, _, _, rfl, rfl, 0, _, rfl, ?_⟩
  rw [pl_len, pl_len]
  generalize eN : P.len f + 1 - P.len g = N
  have eN2 : (if ((P.len f : Nat) : Int) - (P.len g : Nat) + 1 > 0 then ((P.len f : Nat) : Int) - (P.len g : Nat) + 1 else 0) = (N : Int) := by split <;> omega
  refine ⟨p2, (N : Int), _, rfl, congrArg V.int eN2, upd_same .., by omega, by omega, ?_, fun D2 hD2 => ?_⟩
  · show 1 * _ ≤ sizeLine
    have : sizeLine = 16777216 := by decide
    omega
  have eN3 : ((N : Int)).toNat = N := by omega
  rw [eN3, rep_tab]
  have hD20 := none_same s4 hD2
  have ne12 : D1 ≠ D2 := fun z => by
    have := none_old hD2
    rw [← z, upd_same] at this
    cases this
  have g0' : Grow2 H D1 D2 (tab f.c (P.len f)) (tab (0 : P).c N) (upd (upd (upd H1 D1 (.lst (pl f))) p2 (.lst [.int 0])) D2 (.lst (tab (fun _ => 0) N))) := by
    refine ⟨s4.put hD20, ?_, ?_⟩
    · rw [upd_ne ne12, upd_ne (fun z => by rw [← z, upd_same] at hp2; cases hp2), upd_same, pl_tab]
    · rw [upd_same, tab_congr fun k _ => ?_]
      exact (P.c_0 k).symm
  have I0 : MdI f g m N N al bm 0 f := ⟨P.Cg.of_eq (by grind), P.Z.zero N, fun k _ => P.c_0 k, P.len_Z f, fun k hk => by rw [P.len_Z f k (by omega)]; exact Int.dvd_zero m, fun k => .inl (bf k)⟩
  refine ⟨_, rfl, D2, _, rfl, .inl (lst_at (upd_same ..)), _, rfl, ?_⟩
  rw [tab_len]
  refine ⟨by omega, by omega, by omega, by omega, ?_⟩
  have eN4 : ((N : Int) - 0).toNat = N := by omega
  rw [eN4]
  refine for_at N (fun i σ H' => ∃ (ka ro : P) (u6 u7 u8 u9 : Option V), σ = [some (.ref a), some (.ref b), some (.int m), some (.int u), some (.ref D1), some (.ref D2), u6, u7, u8, u9] ∧ Grow2 H D1 D2 (tab ro.c (P.len f)) (tab ka.c N) H' ∧ MdI f g m N (N - i) al bm ka ro) ⟨0, f, _, _, _, _, rfl, g0', I0⟩ ?_ ?_
  · rintro i σ H' hi ⟨ka, ro, u6, u7, u8, u9, rfl, gr, I⟩
    refine ⟨hi, fun v H2 ⟨eH, ev⟩ => ?_⟩
    subst eH
    have ev : v = .int ((N - 1 - i : Nat) : Int) := by rw [ev]; exact congrArg V.int (by omega)
    subst ev
    have eP : N - i = (N - 1 - i) + 1 := by omega
    have eP2 : N - (i + 1) = N - 1 - i := by omega
    rw [eP] at I
    generalize N - 1 - i = p at I eP2 eP ⊢
    have hpN : p < N := by omega
    generalize ephi : ro.c (p + P.len g - 1) * u % m = phi
    have I2 := I.next hm hbm g0 eN.symm hpN hdu ephi.symm
    have ph0 : 0 ≤ phi := by rw [← ephi]; exact Int.emod_nonneg _ (by omega)
    have ph1 : phi < m := by rw [← ephi]; exact Int.emod_lt_of_pos _ (by omega)
    have lr : ∀ k, (ro.c k).natAbs < 2 ^ (al + bm) := fun k => bits_or (I.bt k) (by omega) (by omega)
    refine ⟨_, rfl, _, rfl, _, rfl, b, _, rfl, .inr (hg.s gr.same), _, _, rfl, rfl, _, _, rfl, rfl, D1, _, _, V.int (ro.c (p + P.len g - 1)), rfl, rfl, lst_at gr.d1, atI_ok ?_ ?_, _, rfl, _, _, rfl, rfl, mulOk (b := bm) (lr _) (by omega) (by omega), _, rfl, _, _, rfl, rfl, by omega, ?_⟩
    · rw [pl_len]; omega
    · rw [pl_len]
      have e : ((p : Int) + (P.len g : Nat) - 1).toNat = p + P.len g - 1 := by omega
      rw [e]
      exact tab_get (by omega)
    dsimp only
    rw [show (ro.c (p + P.len g - 1) * u).fmod m = phi by rw [fmod_pos (by omega)]; exact ephi]
    refine ⟨_, rfl, _, rfl, _, rfl, D2, _, _, p, rfl, rfl, gr.d2, by rw [tab_len]; exact ixN_ok hpN, ?_⟩
    have ek : (tab ka.c N).set p (.int phi) = tab (ka + P.mon phi p).c N := tab_set (fun k hk => by rw [P.c_add, P.c_mon, if_neg hk, Int.add_zero]) (by rw [P.c_add, P.c_mon, if_pos rfl, I.k0 p (by omega), Int.zero_add])
    have gr2 : Grow2 H D1 D2 (tab ro.c (P.len f)) (tab (ka + P.mon phi p).c N) (upd H2 D2 (.lst ((tab ka.c N).set p (.int phi)))) := by
      have := gr.set2 (l := tab (ka + P.mon phi p).c N) hD20 ne12
      rw [ek]
      exact this
    refine ⟨_, rfl, b, _, rfl, hg.s gr2.same, for_at (P.len g) (fun j σ H' => (∃ (u8 u9 : Option V), σ = [some (.ref a), some (.ref b), some (.int m), some (.int u), some (.ref D1), some (.ref D2), some (.int (p : Nat)), some (.int phi), u8, u9]) ∧ Grow2 H D1 D2 (tab (rw1 ro g m phi p j).c (P.len f)) (tab (ka + P.mon phi p).c N) H') ⟨⟨_, _, rfl⟩, by rw [rw1_0]; exact gr2⟩ ?_ ?_⟩
    · rintro j σ H3 hj ⟨⟨u8, u9, rfl⟩, gr⟩
      obtain ⟨hgo, hy⟩ := enumT_go (hg.s gr.same) hj
      refine ⟨hgo, fun v H4 hv => ?_⟩
      obtain ⟨T2, rfl, hT2, rfl⟩ := hy _ _ hv
      have gr3 := gr.to (same_new (o := .tup [.int (j : Nat), .int (g.c j)]) hT2)
      refine ⟨T2, _, rfl, tup_at (upd_same ..), rfl, _, _, rfl, _, _, rfl, rfl, ?_⟩
      have hjf : p + j < P.len f := by omega
      have ec : (rw1 ro g m phi p j).c (p + j) = ro.c (p + j) := by rw [c_rw1, if_neg (by omega)]
      refine ⟨_, rfl, _, rfl, _, rfl, _, _, rfl, rfl, D1, _, _, _, rfl, rfl, lst_at gr3.d1, atI_ok (by omega) (tab_get (k := p + j) hjf), _, rfl, _, rfl, _, _, rfl, rfl, mulOk (a := bm) (by omega) (bg j) (by omega), _, _, rfl, rfl, _, rfl, _, _, rfl, rfl, by omega, ?_⟩
      refine ⟨_, rfl, _, rfl, _, rfl, _, _, rfl, rfl, D1, _, _, p + j, rfl, rfl, gr3.d1, by rw [tab_len]; exact ixN_ok hjf, ⟨_, _, rfl⟩, ?_⟩
      have e : (tab (rw1 ro g m phi p j).c (P.len f)).set (p + j) (.int (((rw1 ro g m phi p j).c (p + j) - phi * g.c j).fmod m)) = tab (rw1 ro g m phi p (j + 1)).c (P.len f) := by
        rw [ec, fmod_pos (by omega)]
        refine tab_set (fun k hk => ?_) ?_
        · rw [c_rw1, c_rw1]
          by_cases z : p ≤ k ∧ k < p + j
          · rw [if_pos z, if_pos (by omega)]
          · rw [if_neg z, if_neg (by omega)]
        · rw [c_rw1, if_pos (by omega), show p + j - p = j by omega]
      have := gr3.set1 (l := tab (rw1 ro g m phi p (j + 1)).c (P.len f)) hD10 ne12
      rw [← e] at this
      exact ⟨this.same, (upd_same ..).trans (congrArg (fun z => some (HO.lst z)) e), this.d2⟩
    · rintro σ H3 ⟨⟨u8, u9, rfl⟩, gr⟩
      refine ⟨enumT_stop (hg.s gr.same), _, _, _, _, _, _, rfl, gr, ?_⟩
      rw [eP2]
      exact I2
  · rintro σ H' ⟨ka, ro, u6, u7, u8, u9, rfl, gr, I⟩
    rw [Nat.sub_self] at I
    refine ⟨Nat.le_refl _, ?_⟩
    refine ⟨_, rfl, _, rfl, _, _, rfl, D2, (List.range N).map ka.c, m, rfl, rfl, tab_lst gr.d2, by omega, by rw [List.length_map, List.length_range]; omega, fun H3 p3 s3 t3 => ?_⟩
    rw [ofL_Zc I.zk] at t3
    have gr2 := gr.to s3
    refine ⟨_, rfl, _, rfl, _, _, rfl, D1, (List.range (P.len f)).map ro.c, m, rfl, rfl, tab_lst gr2.d1, by omega, by rw [List.length_map, List.length_range]; omega, fun H4 p4 s4 t4 => ?_⟩
    rw [ofL_Zc I.zr] at t4
    refine ⟨sz2, fun p5 hp5 => ?_⟩
    have s5 := same_new (o := .tup [.ref p3, .ref p4]) hp5
    exact go _ _ (I.done hm g0 eN.symm) _ _ p3 p4 ((gr2.same.trans s4).trans s5) (upd_same ..) ((t3.s s4).s s5) (t4.s s5)
end
end RH
/-! W15: common divisors, powers and products by a number. -/
namespace RH
open PySem PySem.Spec PyProof.Rows L2 RC
theorem Rd_bt {m : Int} {b : Nat} {f : P} (h : P.Rd m f) (hb : m.natAbs < 2 ^ b) : P.Bt b f := fun k => by
  have := h k
  omega
theorem Rd_unit {t : Int} (hp : Pr t) {f : P} (h : P.Rd t f) (f0 : f ≠ 0) : ∃ u, t ∣ P.lc f * u - 1 := by
  refine hp.inv fun d => ?_
  have h1 := h (P.len f - 1)
  have h2 := P.lc_ne f0
  have h3 := Int.le_of_dvd (show 0 < P.lc f by have : P.lc f = f.c (P.len f - 1) := rfl; omega) d
  have : P.lc f = f.c (P.len f - 1) := rfl
  omega
/-- made monic -/
theorem mk_mon {t : Int} (ht : 1 < t) {f : P} (f0 : f ≠ 0) {u : Int} (hu : t ∣ P.lc f * u - 1) : P.Mon (P.red t (P.K u * f)) ∧ P.len (P.red t (P.K u * f)) = P.len f ∧ P.Rd t (P.red t (P.K u * f)) ∧ P.Cg t (P.red t (P.K u * f)) (P.K u * f) ∧ P.Cg t f (P.K (P.lc f) * P.red t (P.K u * f)) := by
  have lf := P.len_pos.mpr f0
  have e1 : (P.red t (P.K u * f)).c (P.len f - 1) = 1 := by
    rw [P.c_red, P.K_mul]
    show u * P.lc f % t = 1
    obtain ⟨z, hz⟩ := hu
    rw [show u * P.lc f = 1 + t * z by rw [← hz, Int.mul_comm]; omega, Int.add_mul_emod_self_left]
    exact Int.emod_eq_of_lt (by omega) ht
  have z1 : P.Z (P.red t (P.K u * f)) (P.len f - 1 + 1) := P.red_Z (((P.len_Z f).kmul u).mono (by omega))
  have cg := P.red_Cg t (P.K u * f)
  refine ⟨?_, ?_, P.red_Rd (by omega) _, cg, ?_⟩
  · unfold P.Mon
    rw [P.lc_is z1 (by rw [e1]; decide), e1]
  · rw [P.len_is z1 (by rw [e1]; decide)]
    omega
  · refine P.Cg.symm ((cg.mull (P.K (P.lc f))).trans ?_)
    refine (P.Cg.of_eq (b := P.K (P.lc f * u) * f) (by rw [P.K_mulK]; grind)).trans ?_
    refine ((P.Cg.K (b := 1) hu).mulr f).trans (P.Cg.of_eq ?_)
    rw [P.K_one]
    grind
/-- a common divisor by a prime -/
structure Gt (t : Int) (f g d : P) : Prop where
  mon : P.Mon d
  rd : P.Rd t d
  cb : ∃ u v, P.Cg t (u * f + v * g) d
  d1 : P.Dv t d f
  d2 : P.Dv t d g
/-- while it is told -/
structure GtI (t : Int) (f g a b : P) : Prop where
  a0 : a ≠ 0
  ra : P.Rd t a
  rb : P.Rd t b
  ca : ∃ u v, P.Cg t (u * f + v * g) a
  cb : ∃ u v, P.Cg t (u * f + v * g) b
  dv : ∀ d, P.Dv t d a → P.Dv t d b → P.Dv t d f ∧ P.Dv t d g
theorem GtI.start {t : Int} {f g : P} (f0 : f ≠ 0) (rf : P.Rd t f) (rg : P.Rd t g) : GtI t f g f g := ⟨f0, rf, rg, ⟨1, 0, P.Cg.of_eq (by grind)⟩, ⟨0, 1, P.Cg.of_eq (by grind)⟩, fun d a b => ⟨a, b⟩⟩
theorem GtI.next {t : Int} {f g a b q r : P} (h : GtI t f g a b) (b0 : b ≠ 0) (D : Md a b t q r) : GtI t f g b r := by
  refine ⟨b0, h.rb, D.rr, h.cb, ?_, fun d hb hr => h.dv d ?_ hb⟩
  · obtain ⟨u, v, e⟩ := h.ca
    obtain ⟨u', v', e'⟩ := h.cb
    refine ⟨u - u' * q, v - v' * q, ?_⟩
    have e2 : (u - u' * q) * f + (v - v' * q) * g = (u * f + v * g) - (u' * f + v' * g) * q := by grind
    refine (P.Cg.of_eq e2).trans ((e.sub (e'.mulr q)).trans ((D.cg.sub (P.Cg.refl t (b * q))).trans (P.Cg.of_eq (by grind))))
  · have h1 : P.Dv t d (b * q + r) := by
      rw [show b * q = q * b by grind]
      exact (hb.mul q).add hr
    exact h1.cg D.cg.symm
theorem GtI.done {t : Int} (ht : 1 < t) {f g a : P} (h : GtI t f g a 0) {u : Int} (hu : t ∣ P.lc a * u - 1) : Gt t f g (P.red t (P.K u * a)) := by
  obtain ⟨h1, h2, h3, h4, h5⟩ := mk_mon ht h.a0 hu
  have da : P.Dv t (P.red t (P.K u * a)) a := ⟨P.K (P.lc a), h5.trans (P.Cg.of_eq (by grind))⟩
  have dd := h.dv _ da (P.Dv.zero (P.Cg.refl t 0))
  refine ⟨h1, h3, ?_, dd.1, dd.2⟩
  obtain ⟨x, y, e⟩ := h.ca
  refine ⟨P.K u * x, P.K u * y, ?_⟩
  refine (P.Cg.of_eq (b := P.K u * (x * f + y * g)) (by grind)).trans ((e.mull (P.K u)).trans h4.symm)
/-- alike by g and m -/
def Dq (m : Int) (g a b : P) : Prop := P.Dv m g (a - b)
theorem Dq.refl (m : Int) (g a : P) : Dq m g a a := P.Dv.zero (P.Cg.of_eq (by grind))
theorem Dq.symm {m : Int} {g a b : P} (h : Dq m g a b) : Dq m g b a := by
  unfold Dq at *
  have := h.neg
  rw [show -(a - b) = b - a by grind] at this
  exact this
theorem Dq.trans {m : Int} {g a b c : P} (h : Dq m g a b) (h' : Dq m g b c) : Dq m g a c := by
  unfold Dq at *
  have := h.add h'
  rw [show a - b + (b - c) = a - c by grind] at this
  exact this
theorem Dq.mul {m : Int} {g a b c d : P} (h : Dq m g a b) (h' : Dq m g c d) : Dq m g (a * c) (b * d) := by
  unfold Dq at *
  have := (h'.mul a).add (h.mul d)
  rw [show a * (c - d) + d * (a - b) = a * c - b * d by grind] at this
  exact this
theorem Dq.sub {m : Int} {g a b c d : P} (h : Dq m g a b) (h' : Dq m g c d) : Dq m g (a - c) (b - d) := by
  unfold Dq at *
  have := P.Dv.sub h h'
  rw [show (a - b) - (c - d) = (a - c) - (b - d) by grind] at this
  exact this
theorem Dq.add {m : Int} {g a b c d : P} (h : Dq m g a b) (h' : Dq m g c d) : Dq m g (a + c) (b + d) := by
  unfold Dq at *
  have := P.Dv.add h h'
  rw [show (a - b) + (c - d) = (a + c) - (b + d) by grind] at this
  exact this
theorem Dq.of {m : Int} {g a b : P} (h : P.Cg m a b) : Dq m g a b := P.Dv.zero ((h.sub (P.Cg.refl m b)).trans (P.Cg.of_eq (by grind)))
theorem Md.dq {f g : P} {m : Int} {q r : P} (D : Md f g m q r) : Dq m g f r := by
  unfold Dq
  refine P.Dv.cg (a := g) (b := g * q) ⟨q, P.Cg.refl _ _⟩ ?_
  exact P.Cg.symm ((D.cg.sub (P.Cg.refl m r)).trans (P.Cg.of_eq (by grind)))
theorem Dq.pow {m : Int} {g a b : P} (h : Dq m g a b) : ∀ n : Nat, Dq m g (a ^ n) (b ^ n)
  | 0 => Dq.refl ..
  | n + 1 => (h.pow n).mul h
/-- v is the tuple of f -/
def PV (K : PySem.W.Frag) (H : Hp) (v : V) (f : P) : Prop := ∃ a, v = .ref a ∧ AtP K H a f
theorem PV.s {K : PySem.W.Frag} {H H' : Hp} {v : V} {f : P} (h : PV K H v f) (e : Same H H') : PV K H' v f := let ⟨a, x, y⟩ := h; ⟨a, x, y.s e⟩
theorem PV.put {K : PySem.W.Frag} {H : Hp} {D : Addr} {l l' : List V} {v : V} {f : P} (h : PV K H v f) (d : H D = some (.lst l)) : PV K (upd H D (.lst l')) v f := let ⟨a, x, y⟩ := h; ⟨a, x, y.put d⟩
theorem prod_take {L : List P} {i : Nat} {p : P} (h : L[i]? = some p) : P.prod (L.take (i + 1)) = P.prod (L.take i) * p := by
  rw [List.take_succ, h, P.prod_append]
  show _ * (p * 1) = _
  grind
section
variable {Pg : Program} {w : World} {K : PySem.W.Frag} {mg : Str → Option Value} {base : Heap}
def sp_m_shared (K : PySem.W.Frag) : Sp := mk3 fun x y z H Q => ∃ (a b : Addr) (f g : P) (t : Int) (bt : Nat), x = .ref a ∧ y = .ref b ∧ z = .int t ∧ AtP K H a f ∧ AtP K H b g ∧ f ≠ 0 ∧ Pr t ∧ t.natAbs < 2 ^ bt ∧ bt ≤ 5000000 ∧ P.Rd t f ∧ P.Rd t g ∧ P.len f ≤ 1000 ∧ P.len g ≤ 1000 ∧ ∀ d, Gt t f g d → giveP K d H Q
abbrev s_m_shared : Stmt := topS 38
abbrev N_m_shared : List Str := ["one", "other", "t", "quotient", "rest"]
theorem sc_m_shared : FnScope N_m_shared ["one", "other", "t"] (defScope s_m_shared) := ⟨rfl, rfl, rfl, by decide +kernel, rfl, by decide +kernel, by decide +kernel⟩
theorem ok_m_shared (A : At K mg "m_shared" s_m_shared) (T : Txt mg) (d_m_parted : Dn Pg w K mg base "m_parted" 43 ["one", "other", "m"] (sp_m_parted K)) (d_single : Dn Pg w K mg base "single" 43 ["one", "t"] (sp_single K)) : Dn Pg w K mg base "m_shared" 44 ["one", "other", "t"] (sp_m_shared K) := by
  refine mkDn A sc_m_shared (fun _ _ _ _ _ _ us hl => match us, hl with | [_, _, _], _ => rfl) (fun vs H Q E ⟨_, _, _, e, _⟩ => by rw [e]; rfl) fun f cdv A outer s H vs Q E hr h => ?_
  refine ⟨_, (pss_cons (ps_while PassesOwn.never (pt_cmpR (op_neDK (K := K) hr.units) (pv 1) (pe_tup pa_nil) (nomark _)) (pss_cons (ps_asg (pe_own d_m_parted (hr.mono (by decide)) (by rfl) (pa_cons (pv 0) (pa_cons (pv 1) (pa_cons (pv 2) pa_nil)))) (pg_tupK (K := K) (n := 2) rfl (pgs_cons (pg_name (i := 3) sc_m_shared.nd rfl (.inl rfl)) (pgs_cons (pg_name (i := 4) sc_m_shared.nd rfl (.inl rfl)) pgs_nil))))
      (pss_one (ps_par (i := 0) (j := 1) (by rfl) sc_m_shared.nd rfl rfl (by decide) rfl rfl (pa_cons (pv 1) (pa_cons (pv 4) pa_nil)) (by rfl)))))
      (pss_one (ps_ret (pe_own d_single (hr.mono (by decide)) (by rfl) (pa_cons (pv 0) (pa_cons (pv 2) pa_nil)))))), ?_⟩
  obtain ⟨v0, v1, v2, rfl, h⟩ := h
  obtain ⟨a, b, f, g, t, bt, rfl, rfl, rfl, hf, hg, f0, hp, ht, hbt, rf, rg, lf, lg, go⟩ := h
  refine ⟨fun m σ H' => Same H H' ∧ ∃ (x y : P) (ax ay : Addr) (u3 u4 : Option V), σ = [some (.ref ax), some (.ref ay), some (.int t), u3, u4] ∧ AtP K H' ax x ∧ AtP K H' ay y ∧ GtI t f g x y ∧ P.len x ≤ 1000 ∧ P.len y ≤ 1000 ∧ m = P.len y, ⟨_, Same.refl _, f, g, a, b, _, _, rfl, hf, hg, .start f0 rf rg, lf, lg, rfl⟩, ?_⟩
  rintro m σ H' ⟨s1, x, y, ax, ay, u3, u4, rfl, hx, hy, I, lx, ly, rfl⟩
  refine ⟨_, rfl, sz0, fun p hp' => neD_0 hy hp' fun bb' hbb => ⟨bb', rfl, ite2 (fun c => ?_) fun c => ?_⟩⟩
  · have y0 := hbb.mp c
    have s2 := same_new (o := .tup []) hp'
    refine ⟨_, fun _ _ h => h, ?_⟩
    refine ⟨_, rfl, _, rfl, _, rfl, _, _, _, rfl, ax, ay, x, y, t, bt, bt, bt, rfl, rfl, rfl, hx.s s2, hy.s s2, y0, hp.1, ht, Rd_bt I.ra ht, Rd_bt I.rb ht, by omega, lx, ly, Rd_unit hp I.rb y0, fun q r D H2 p2 aq ar s3 t3 tq tr => ?_⟩
    have lr := D.lr
    refine ⟨p2, _, rfl, tup_at t3, rfl, _, _, rfl, _, _, rfl, rfl, _, rfl, _, rfl, _, _, rfl, P.len r, by omega, (s1.trans s2).trans s3, y, r, ay, ar, _, _, rfl, hy.s (s2.trans s3), tr, I.next y0 D, ly, by omega, rfl⟩
  · have y0 : y = 0 := Classical.byContradiction fun z => c (hbb.mpr z)
    subst y0
    have s2 := same_new (o := .tup []) hp'
    refine ⟨_, rfl, _, rfl, _, _, rfl, ax, x, t, bt, bt, rfl, rfl, hx.s s2, hp.1, ht, Rd_bt I.ra ht, by omega, lx, fun z => Rd_unit hp I.ra z, fun z => absurd z I.a0, fun _ u _ _ hu => ?_⟩
    exact ((go _ (I.done hp.1 hu)).to s1).to s2
def sp_product_by (K : PySem.W.Frag) : Sp := mk2 fun x y H Q => ∃ (a : Addr) (xs : List V) (L : List P) (m : Int) (b b1 : Nat), x = .ref a ∧ y = .int m ∧ SqL K H a xs ∧ All2 (PV K H) xs L ∧ L.length ≤ 40 ∧ (∀ p ∈ L, P.len p ≤ 20 ∧ P.Bt b1 p) ∧ 1 < m ∧ m.natAbs < 2 ^ b ∧ b + b1 ≤ 40000000 ∧ giveP K (P.red m (P.prod L)) H Q
abbrev s_product_by : Stmt := topS 41
abbrev N_product_by : List Str := ["some", "m", "found", "one"]
theorem sc_product_by : FnScope N_product_by ["some", "m"] (defScope s_product_by) := ⟨rfl, rfl, rfl, by decide +kernel, rfl, by decide +kernel, by decide +kernel⟩
theorem ok_product_by (A : At K mg "product_by" s_product_by) (T : Txt mg) (d_m_times : Dn Pg w K mg base "m_times" 43 ["one", "other", "m"] (sp_m_times K)) : Dn Pg w K mg base "product_by" 44 ["some", "m"] (sp_product_by K) := by
  refine mkDn A sc_product_by (fun _ _ _ _ _ _ us hl => match us, hl with | [_, _], _ => rfl) (fun vs H Q E ⟨_, _, e, _⟩ => by rw [e]; rfl) fun f cdv A outer s H vs Q E hr h => ?_
  refine ⟨_, (pss_cons (ps_set (i := 2) sc_product_by.nd rfl (.inl rfl) (pe_tup (pa_cons pe_int pa_nil)))
      (pss_cons (ps_for PassesOwn.never rfl (pi_listK (K := K) (pv 0)) (pg_name (i := 3) sc_product_by.nd rfl (.inl rfl)) (pss_one (ps_set (i := 2) sc_product_by.nd rfl (.inl rfl) (pe_own d_m_times (hr.mono (by decide)) (by rfl) (pa_cons (pv 2) (pa_cons (pv 3) (pa_cons (pv 1) pa_nil)))))))
      (pss_one (ps_ret (pv 2))))), ?_⟩
  obtain ⟨v0, v1, rfl, h⟩ := h
  obtain ⟨a, xs, L, m, b, b1, rfl, rfl, hxs, hL, lL, hp, hm, hb, hbs, go⟩ := h
  refine ⟨sz1, fun p hp1 => ?_⟩
  have s1 := same_new (o := .tup [.int 1]) hp1
  have one : P.red m 1 = 1 := (P.Rd.one hm).red
  refine ⟨_, rfl, a, rfl, ⟨_, s1.seq hxs⟩, for_list (xs := xs) (fun i σ H' => Same H H' ∧ ∃ (af : Addr) (u : Option V), σ = [some (.ref a), some (.int m), some (.ref af), u] ∧ AtP K H' af (P.red m (P.prod (L.take i))) ∧ P.len (P.red m (P.prod (L.take i))) ≤ 20 * i + 1) ⟨s1, p, _, rfl, ?_, ?_⟩ (fun i σ H' _ h => h.1.seq hxs) ?_ ?_⟩
  · show AtP K _ p (P.red m 1)
    rw [one]
    exact at_1 (upd_same ..)
  · show P.len (P.red m 1) ≤ _
    rw [one, P.len_1]
    omega
  · rintro i v σ H' hv ⟨s2, af, u, rfl, hf, lf⟩
    obtain ⟨f, hf2, ⟨av, rfl, hav⟩⟩ := hL.get hv
    have hi : i < L.length := (List.getElem?_eq_some_iff.mp hf2).1
    obtain ⟨lp, bp⟩ := hp f (List.mem_of_getElem? hf2)
    refine ⟨_, rfl, _, rfl, _, rfl, _, _, _, rfl, af, av, _, f, m, b, b1, rfl, rfl, rfl, hf, hav.s s2, by omega, by omega, by omega, Rd_bt (P.red_Rd (by omega) _) hb, bp, by omega, fun H2 p2 s3 t3 => ?_⟩
    have e : P.red m (P.red m (P.prod (L.take i)) * f) = P.red m (P.prod (L.take (i + 1))) := by
      rw [prod_take hf2]
      exact P.red_eq (by omega) ((P.red_Cg m _).mulr f)
    refine ⟨s2.trans s3, p2, _, rfl, e ▸ t3, ?_⟩
    rw [← e]
    have h1 := len_red m (P.red m (P.prod (L.take i)) * f)
    have h2 := len_mul' (P.red m (P.prod (L.take i))) f
    omega
  · rintro σ H' ⟨s2, af, u, rfl, hf, lf⟩
    rw [hL.len, List.take_length] at hf
    exact ⟨_, rfl, go _ _ s2 hf⟩
end
end RH
/-! W16: powers, keys. -/
namespace RH
open PySem PySem.Spec PyProof.Rows L2 RC
theorem sq_pow (s : P) : ∀ k : Nat, (s * s) ^ k = s ^ (2 * k)
  | 0 => rfl
  | k + 1 => by
    rw [P.pow_succ', sq_pow s k, show 2 * (k + 1) = 2 * k + 1 + 1 by omega, P.pow_succ', P.pow_succ']
    grind
theorem mon_inv {g : P} (h : P.Mon g) (m : Int) : ∃ u, m ∣ P.lc g * u - 1 := ⟨1, by
  have : P.lc g = 1 := h
  rw [this]
  exact ⟨0, by omega⟩⟩
section
variable {Pg : Program} {w : World} {K : PySem.W.Frag} {mg : Str → Option Value} {base : Heap}
def sp_m_power (K : PySem.W.Frag) : Sp := mk4 fun x y z u H Q => ∃ (a b : Addr) (f g : P) (n : Nat) (m : Int) (al be bm : Nat), x = .ref a ∧ y = .int (n : Nat) ∧ z = .ref b ∧ u = .int m ∧ AtP K H a f ∧ AtP K H b g ∧ P.Mon g ∧ 2 ≤ P.len g ∧ P.len g ≤ 30 ∧ P.len f ≤ 30 ∧ 1 < m ∧ m.natAbs < 2 ^ bm ∧ P.Bt al f ∧ P.Bt be g ∧ al + be + 10 * bm ≤ 10000000 ∧ ∀ r, P.Rd m r → P.len r < P.len g → Dq m g r (f ^ n) → giveP K r H Q
/-- while the power is told -/
structure PwI (f g : P) (n : Nat) (m : Int) (k : Nat) (r s : P) : Prop where
  rr : P.Rd m r
  rs : P.Rd m s
  lr : P.len r < P.len g
  ls : P.len s < P.len g
  e : Dq m g (r * s ^ k) (f ^ n)
abbrev s_m_power : Stmt := topS 39
abbrev N_m_power : List Str := ["one", "many", "by", "m", "found", "square"]
theorem sc_m_power : FnScope N_m_power ["one", "many", "by", "m"] (defScope s_m_power) := ⟨rfl, rfl, rfl, by decide +kernel, rfl, by decide +kernel, by decide +kernel⟩
theorem ok_m_power (A : At K mg "m_power" s_m_power) (T : Txt mg) (d_m_parted : Dn Pg w K mg base "m_parted" 43 ["one", "other", "m"] (sp_m_parted K)) (d_m_times : Dn Pg w K mg base "m_times" 43 ["one", "other", "m"] (sp_m_times K)) (d_by_numberT : Dn Pg w K mg base "by_number" 42 ["one", "m"] (sp_by_numberT K)) (B : Big Pg base) : Dn Pg w K mg base "m_power" 44 ["one", "many", "by", "m"] (sp_m_power K) := by
  refine mkDn A sc_m_power (fun _ _ _ _ _ _ us hl => match us, hl with | [_, _, _, _], _ => rfl) (fun vs H Q E ⟨_, _, _, _, e, _⟩ => by rw [e]; rfl) fun f cdv A outer s H vs Q E hr h => ?_
  refine ⟨_, (pss_cons (ps_set (i := 4) sc_m_power.nd rfl (.inl rfl) (pe_tup (pa_cons pe_int pa_nil)))
      (pss_cons (ps_set (i := 5) sc_m_power.nd rfl (.inl rfl) (pe_ix (ix_tupK (K := K)) (pe_own d_m_parted (hr.mono (by decide)) (by rfl) (pa_cons (pv 0) (pa_cons (pv 2) (pa_cons (pv 3) pa_nil)))) pe_int (fun _ _ => rfl)))
      (pss_cons (ps_while PassesOwn.never (pt_cmpR op_gt (pv 1) pe_int (nomark _)) (pss_cons (ps_if (pt_cmpR op_eq (pe_op op_modN (pv 1) pe_int) pe_int (nomark _)) (pss_one (ps_set (i := 4) sc_m_power.nd rfl (.inl rfl) (pe_ix (ix_tupK (K := K)) (pe_own d_m_parted (hr.mono (by decide)) (by rfl) (pa_cons (pe_own d_m_times (hr.mono (by decide)) (by rfl) (pa_cons (pv 4) (pa_cons (pv 5) (pa_cons (pv 3) pa_nil)))) (pa_cons (pv 2) (pa_cons (pv 3) pa_nil)))) pe_int (fun _ _ => rfl)))) pss_nil)
      (pss_cons (ps_set (i := 5) sc_m_power.nd rfl (.inl rfl) (pe_ix (ix_tupK (K := K)) (pe_own d_m_parted (hr.mono (by decide)) (by rfl) (pa_cons (pe_own d_m_times (hr.mono (by decide)) (by rfl) (pa_cons (pv 5) (pa_cons (pv 5) (pa_cons (pv 3) pa_nil)))) (pa_cons (pv 2) (pa_cons (pv 3) pa_nil)))) pe_int (fun _ _ => rfl)))
      (pss_one (ps_set (i := 1) sc_m_power.nd rfl (.inl rfl) (pe_op (op_fdivB B.ns B.tr (dp100 hr) rfl rfl rfl rfl rfl) (pv 1) pe_int))))))
      (pss_one (ps_ret (pe_own d_by_numberT (hr.mono (by decide)) (by rfl) (pa_cons (pv 4) (pa_cons (pv 3) pa_nil)))))))), ?_⟩
  obtain ⟨v0, v1, v2, v3, rfl, h⟩ := h
  obtain ⟨a, b, f, g, n, m, al, be, bm, rfl, rfl, rfl, rfl, hf, hg, mon, l2, lg, lf, hm, hbm, bf, bg, hbs, go⟩ := h
  have g0 := mon.ne
  refine ⟨sz1, fun p hp => ?_⟩
  have s1 := same_new (o := .tup [.int 1]) hp
  refine ⟨_, rfl, _, rfl, _, rfl, _, _, _, rfl, a, b, f, g, m, al, be, bm, rfl, rfl, rfl, hf.s s1, hg.s s1, g0, hm, hbm, bf, bg, by omega, by omega, by omega, mon_inv mon m, fun q0 sq D H2 p2 aq as s2 t2 tq ts => ?_⟩
  have bd : ∀ z, P.Rd m z → P.Bt bm z := fun z h => Rd_bt h hbm
  refine ⟨p2, _, _, _, rfl, rfl, tup_at t2, atI_ok (by decide) rfl, ?_⟩
  refine ⟨fun mm σ H' => Same H H' ∧ ∃ (k : Nat) (r s : P) (ar as : Addr), σ = [some (.ref a), some (.int (k : Nat)), some (.ref b), some (.int m), some (.ref ar), some (.ref as)] ∧ AtP K H' ar r ∧ AtP K H' as s ∧ PwI f g n m k r s ∧ mm = k, ⟨_, s1.trans s2, n, 1, sq, p, as, rfl, (at_1 (upd_same ..)).s s2, ts, ⟨P.Rd.one hm, D.rr, by rw [P.len_1]; omega, D.lr, ?_⟩, rfl⟩, ?_⟩
  · rw [show (1 : P) * sq ^ n = sq ^ n by grind]
    exact D.dq.symm.pow n
  rintro k σ H' ⟨s3, k', r, s, ar, as, rfl, hr2, hs, I, rfl⟩
  refine ⟨_, rfl, _, _, rfl, rfl, _, rfl, ite2 (fun c => ?_) fun c => ?_⟩
  · have c := of_decide_eq_true c
    refine ⟨_, fun _ _ h => h, ?_⟩
    have fin : ∀ (De : Ends) (Hx : Hp) (r2 : P) (ar2 : Addr), (∀ σ' H', (∃ m', m' < k ∧ (Same H H' ∧ ∃ (k : Nat) (r s : P) (ar as : Addr), σ' = [some (.ref a), some (.int (k : Nat)), some (.ref b), some (.int m), some (.ref ar), some (.ref as)] ∧ AtP K H' ar r ∧ AtP K H' as s ∧ PwI f g n m k r s ∧ m' = k)) → De.nx σ' H') → Same H Hx → AtP K Hx ar2 r2 → AtP K Hx as s → P.Rd m r2 → P.len r2 < P.len g → Dq m g (r2 * (s * s) ^ (k / 2)) (f ^ n) → (tSeq (tAsg (tOp (rIxT K) (tCall (sp_m_parted K) [] E0 (tCons (tCall (sp_m_times K) [] E0 (tCons (tVar 5) (tCons (tVar 5) (tCons (tVar 3) tNil)))) (tCons (tVar 2) (tCons (tVar 3) tNil)))) (tC (.int 1))) (gName 5)) (tAsg (tOp (rI (fun _ j => j ≠ 0) fun i j => .int (i.fdiv j)) (tVar 1) (tC (.int 2))) (gName 1))) De [some (.ref a), some (.int (k : Nat)), some (.ref b), some (.int m), some (.ref ar2), some (.ref as)] Hx := by
      intro De Hx r2 ar2 hDe sx har has rr2 lr2 hq
      have ls := I.ls
      refine ⟨_, rfl, _, rfl, _, rfl, _, _, _, rfl, as, as, s, s, m, bm, bm, rfl, rfl, rfl, has, has, by omega, by omega, by omega, bd s I.rs, bd s I.rs, by omega, fun H4 p4 s4 t4 => ?_⟩
      have h1 := len_red m (s * s)
      have h2 := len_mul' s s
      refine ⟨_, rfl, _, rfl, _, _, _, rfl, p4, b, _, g, m, bm, be, bm, rfl, rfl, rfl, t4, hg.s (sx.trans s4), g0, hm, hbm, bd _ (P.red_Rd (by omega) _), bg, by omega, by omega, by omega, mon_inv mon m, fun q5 s5' D5 H5 p5 a5 b5 s5 t5 ta5 tb5 => ?_⟩
      refine ⟨p5, _, _, _, rfl, rfl, tup_at t5, atI_ok (by decide) rfl, _, rfl, _, _, rfl, rfl, show (2 : Int) ≠ 0 by decide, ?_⟩
      have ek : ((k : Nat) : Int).fdiv 2 = ((k / 2 : Nat) : Int) := by
        rw [Int.fdiv_eq_ediv_of_nonneg _ (by decide)]
        rfl
      refine hDe _ _ ⟨k / 2, by omega, (sx.trans s4).trans s5, k / 2, r2, s5', ar2, b5, ?_, har.s (s4.trans s5), tb5, ⟨rr2, D5.rr, lr2, D5.lr, ?_⟩, rfl⟩
      · rw [← ek]
        rfl
      · have d1 : Dq m g s5' (s * s) := D5.dq.symm.trans (Dq.of (P.red_Cg m _))
        exact ((Dq.refl m g r2).mul (d1.pow (k / 2))).trans hq
    have em : ((k : Nat) : Int).fmod 2 = ((k % 2 : Nat) : Int) := by
      rw [fmod_pos (by decide)]
      rfl
    refine ⟨_, rfl, _, _, rfl, rfl, show (2 : Int) ≠ 0 by decide, rfl, _, rfl, ite2 (fun c2 => ?_) fun c2 => ?_⟩
    · have c2 := eqI.mp c2
      have ko : k % 2 = 1 := by omega
      have lr := I.lr
      have ls := I.ls
      refine ⟨_, rfl, _, rfl, _, rfl, _, _, _, rfl, ar, as, r, s, m, bm, bm, rfl, rfl, rfl, hr2, hs, by omega, by omega, by omega, bd r I.rr, bd s I.rs, by omega, fun H4 p4 s4 t4 => ?_⟩
      have h1 := len_red m (r * s)
      have h2 := len_mul' r s
      refine ⟨_, rfl, _, rfl, _, _, _, rfl, p4, b, _, g, m, bm, be, bm, rfl, rfl, rfl, t4, hg.s (s3.trans s4), g0, hm, hbm, bd _ (P.red_Rd (by omega) _), bg, by omega, by omega, by omega, mon_inv mon m, fun q5 r5 D5 H5 p5 a5 b5 s5 t5 ta5 tb5 => ?_⟩
      refine ⟨p5, _, _, _, rfl, rfl, tup_at t5, atI_ok (by decide) rfl, ?_⟩
      refine fin _ _ r5 b5 (fun _ _ h => h) ((s3.trans s4).trans s5) tb5 (hs.s (s4.trans s5)) D5.rr D5.lr ?_
      have d1 : Dq m g r5 (r * s) := D5.dq.symm.trans (Dq.of (P.red_Cg m _))
      refine ((d1.mul (Dq.refl m g _)).trans ?_)
      have e : r * s * (s * s) ^ (k / 2) = r * s ^ k := by
        conv => rhs; rw [show k = 2 * (k / 2) + 1 by omega, P.pow_succ', ← sq_pow]
        grind
      rw [e]
      exact I.e
    · have c2 : ¬ ((k : Nat) : Int).fmod 2 = 1 := fun z => c2 (eqI.mpr z)
      have ke : k % 2 = 0 := by omega
      refine fin _ _ r ar (fun _ _ h => h) s3 hr2 hs I.rr I.lr ?_
      have e : r * (s * s) ^ (k / 2) = r * s ^ k := by
        conv => rhs; rw [show k = 2 * (k / 2) by omega, ← sq_pow]
      rw [e]
      exact I.e
  · have c : ¬ ((k : Nat) : Int) > 0 := fun z => c (decide_eq_true z)
    have k0 : k = 0 := by omega
    subst k0
    have lr := I.lr
    refine ⟨_, rfl, _, rfl, _, _, rfl, ar, r, m, rfl, rfl, hr2, by omega, by omega, ?_⟩
    rw [I.rr.red]
    have e := I.e
    rw [show r * s ^ 0 = r by show r * 1 = r; grind] at e
    exact (go r I.rr I.lr e).to s3
end
end RH
/-! W17: keys. -/
namespace RH
open PySem PySem.Spec PyProof.Rows L2 RC
theorem cop0 {t : Int} (hp : Pr t) {a : P} (h : P.Cop t a 0) (ra : P.Rd t a) (l : 2 ≤ P.len a) : False := by
  have a0 : a ≠ 0 := P.len_pos.mp (by omega)
  obtain ⟨u, hu⟩ := Rd_unit hp ra a0
  obtain ⟨h1, h2, h3, h4, h5⟩ := mk_mon hp.1 a0 hu
  obtain ⟨x, y, e⟩ := h
  have : P.Dv t (P.red t (P.K u * a)) 1 := by
    refine ⟨P.K (P.lc a) * x, ?_⟩
    refine e.symm.trans ?_
    refine (P.Cg.of_eq (b := x * a) (by grind)).trans ((h5.mull x).trans (P.Cg.of_eq (by grind)))
  have := P.mon_one hp.1 h1 this
  omega
/-- while a key is told -/
structure KyI (t : Int) (f g a b l r : P) : Prop where
  a2 : 2 ≤ P.len a
  lt : P.len b < P.len a
  la : P.len a ≤ P.len g
  ra : P.Rd t a
  rb : P.Rd t b
  dl : Dq t g (f * l) a
  dr : Dq t g (f * r) b
  cp : P.Cop t a b
  rl : P.Rd t l
  rr : P.Rd t r
  ll : P.len l ≤ 1 + 40 * (P.len g - P.len a)
  lr : P.len r ≤ 1 + 40 * (P.len g - P.len a)
theorem KyI.start {t : Int} (ht : 1 < t) {f g q b : P} (l2 : 2 ≤ P.len g) (rg : P.Rd t g) (cp : P.Cop t f g) (D : Md f g t q b) : KyI t f g g b 0 1 := by
  refine ⟨l2, D.lr, Nat.le_refl _, rg, D.rr, ?_, ?_, ?_, P.Rd.zero (by omega), P.Rd.one ht, by rw [P.len_0]; omega, by rw [P.len_1]; omega⟩
  · unfold Dq
    exact ⟨-1, P.Cg.of_eq (by grind)⟩
  · rw [show f * 1 = f by grind]
    exact D.dq
  · obtain ⟨u, v, e⟩ := cp
    refine ⟨u * q + v, u, P.Cg.trans ?_ e⟩
    refine (P.Cg.of_eq (b := u * (g * q + b) + v * g) (by grind)).trans ((D.cg.symm.mull u).add (P.Cg.refl t _))
theorem KyI.next {t : Int} (ht : 1 < t) {f g a b l r q c : P} (h : KyI t f g a b l r) (lb : 2 ≤ P.len b) (lg : P.len g ≤ 20) (D : Md a b t q c) : KyI t f g b c r (P.red t (l - P.red t (q * r))) := by
  have lt := h.lt
  have la := h.la
  have lr := h.lr
  have ll := h.ll
  have lq := D.lq
  have e2 : P.Cg t (P.red t (l - P.red t (q * r))) (l - q * r) := (P.red_Cg t _).trans ((P.Cg.refl t l).sub (P.red_Cg t _))
  refine ⟨lb, D.lr, by omega, h.rb, D.rr, h.dr, ?_, ?_, h.rr, P.red_Rd (by omega) _, by omega, ?_⟩
  · have d1 : Dq t g (f * P.red t (l - P.red t (q * r))) (f * (l - q * r)) := Dq.of (e2.mull f)
    refine d1.trans ?_
    rw [show f * (l - q * r) = f * l - q * (f * r) by grind]
    refine (h.dl.sub ((Dq.refl t g q).mul h.dr)).trans (Dq.of ?_)
    exact (D.cg.sub (P.Cg.refl t (q * b))).trans (P.Cg.of_eq (by grind))
  · obtain ⟨u, v, e⟩ := h.cp
    refine ⟨u * q + v, u, P.Cg.trans ?_ e⟩
    refine (P.Cg.of_eq (b := u * (b * q + c) + v * b) (by grind)).trans ((D.cg.symm.mull u).add (P.Cg.refl t _))
  · have h1 := len_red t (l - P.red t (q * r))
    have h2 := len_sub l (P.red t (q * r))
    have h3 := len_red t (q * r)
    have h4 := len_mul' q r
    omega
section
variable {Pg : Program} {w : World} {K : PySem.W.Frag} {mg : Str → Option Value} {base : Heap}
def sp_inverse_part (K : PySem.W.Frag) : Sp := mk3 fun x y z H Q => ∃ (a b : Addr) (f g : P) (t : Int) (al bt : Nat), x = .ref a ∧ y = .ref b ∧ z = .int t ∧ AtP K H a f ∧ AtP K H b g ∧ P.Mon g ∧ 2 ≤ P.len g ∧ P.len g ≤ 20 ∧ P.Rd t g ∧ Pr t ∧ t.natAbs < 2 ^ bt ∧ P.Bt al f ∧ al + 4 * bt ≤ 5000000 ∧ P.len f ≤ 1000 ∧ P.Cop t f g ∧ ∀ r, P.Rd t r → P.len r < P.len g → Dq t g (f * r) 1 → giveP K r H Q
abbrev s_inverse_part : Stmt := topS 42
abbrev N_inverse_part : List Str := ["one", "by", "t", "first", "second", "left", "right", "quotient", "rest", "unit"]
theorem sc_inverse_part : FnScope N_inverse_part ["one", "by", "t"] (defScope s_inverse_part) := ⟨rfl, rfl, rfl, by decide +kernel, rfl, by decide +kernel, by decide +kernel⟩
theorem ok_inverse_part (A : At K mg "inverse_part" s_inverse_part) (T : Txt mg) (d_m_parted : Dn Pg w K mg base "m_parted" 43 ["one", "other", "m"] (sp_m_parted K)) (d_degree : Dn Pg w K mg base "degree" 41 ["one"] (sp_degree K)) (d_m_minus : Dn Pg w K mg base "m_minus" 44 ["one", "other", "m"] (sp_m_minus K)) (d_m_times : Dn Pg w K mg base "m_times" 43 ["one", "other", "m"] (sp_m_times K)) (d_inverse_by : Dn Pg w K mg base "inverse_by" 41 ["number", "m"] (sp_inverse_by K)) (d_by_numberT : Dn Pg w K mg base "by_number" 42 ["one", "m"] (sp_by_numberT K)) (d_scaled : Dn Pg w K mg base "scaled" 42 ["one", "factor"] (sp_scaled K)) : Dn Pg w K mg base "inverse_part" 45 ["one", "by", "t"] (sp_inverse_part K) := by
  refine mkDn A sc_inverse_part (fun _ _ _ _ _ _ us hl => match us, hl with | [_, _, _], _ => rfl) (fun vs H Q E ⟨_, _, _, e, _⟩ => by rw [e]; rfl) fun f cdv A outer s H vs Q E hr h => ?_
  refine ⟨_, (pss_cons (ps_par (i := 3) (j := 4) (by rfl) sc_inverse_part.nd rfl rfl (by decide) rfl rfl (pa_cons (pv 1) (pa_cons (pe_ix (ix_tupK (K := K)) (pe_own d_m_parted (hr.mono (by decide)) (by rfl) (pa_cons (pv 0) (pa_cons (pv 1) (pa_cons (pv 2) pa_nil)))) pe_int (fun _ _ => rfl)) pa_nil)) (by rfl))
      (pss_cons (ps_asg (pe_tup (pa_cons (pe_tup pa_nil) (pa_cons (pe_tup (pa_cons pe_int pa_nil)) pa_nil))) (pg_tupK (K := K) (n := 2) rfl (pgs_cons (pg_name (i := 5) sc_inverse_part.nd rfl (.inl rfl)) (pgs_cons (pg_name (i := 6) sc_inverse_part.nd rfl (.inl rfl)) pgs_nil))))
      (pss_cons (ps_while PassesOwn.never (pt_cmpR op_gt (pe_own d_degree (hr.mono (by decide)) (by rfl) (pa_cons (pv 4) pa_nil)) pe_int (nomark _)) (pss_cons (ps_asg (pe_own d_m_parted (hr.mono (by decide)) (by rfl) (pa_cons (pv 3) (pa_cons (pv 4) (pa_cons (pv 2) pa_nil)))) (pg_tupK (K := K) (n := 2) rfl (pgs_cons (pg_name (i := 7) sc_inverse_part.nd rfl (.inl rfl)) (pgs_cons (pg_name (i := 8) sc_inverse_part.nd rfl (.inl rfl)) pgs_nil))))
      (pss_cons (ps_par (i := 3) (j := 4) (by rfl) sc_inverse_part.nd rfl rfl (by decide) rfl rfl (pa_cons (pv 4) (pa_cons (pv 8) pa_nil)) (by rfl))
      (pss_one (ps_par (i := 5) (j := 6) (by rfl) sc_inverse_part.nd rfl rfl (by decide) rfl rfl (pa_cons (pv 6) (pa_cons (pe_own d_m_minus (hr.mono (by decide)) (by rfl) (pa_cons (pv 5) (pa_cons (pe_own d_m_times (hr.mono (by decide)) (by rfl) (pa_cons (pv 7) (pa_cons (pv 6) (pa_cons (pv 2) pa_nil)))) (pa_cons (pv 2) pa_nil)))) pa_nil)) (by rfl))))))
      (pss_cons (ps_set (i := 9) sc_inverse_part.nd rfl (.inl rfl) (pe_own d_inverse_by (hr.mono (by decide)) (by rfl) (pa_cons (pe_ix (ix_tupK (K := K)) (pv 4) pe_int (fun _ _ => rfl)) (pa_cons (pv 2) pa_nil))))
      (pss_one (ps_ret (pe_ix (ix_tupK (K := K)) (pe_own d_m_parted (hr.mono (by decide)) (by rfl) (pa_cons (pe_own d_by_numberT (hr.mono (by decide)) (by rfl) (pa_cons (pe_own d_scaled (hr.mono (by decide)) (by rfl) (pa_cons (pv 6) (pa_cons (pv 9) pa_nil))) (pa_cons (pv 2) pa_nil))) (pa_cons (pv 1) (pa_cons (pv 2) pa_nil)))) pe_int (fun _ _ => rfl)))))))), ?_⟩
  obtain ⟨v0, v1, v2, rfl, h⟩ := h
  obtain ⟨a, b, f, g, t, al, bt, rfl, rfl, rfl, hf, hg, mon, l2, lg, rg, hp, ht, bf, hbs, lf, cop, go⟩ := h
  have g0 := mon.ne
  have ht1 := hp.1
  have bd : ∀ z, P.Rd t z → P.Bt bt z := fun z h => Rd_bt h ht
  refine ⟨_, rfl, _, rfl, _, rfl, _, rfl, _, _, _, rfl, a, b, f, g, t, al, bt, bt, rfl, rfl, rfl, hf, hg, g0, ht1, ht, bf, bd g rg, by omega, lf, by omega, mon_inv mon t, fun q0 b0 D H2 p2 aq ab s2 t2 tq tb => ?_⟩
  refine ⟨p2, _, _, _, rfl, rfl, tup_at t2, atI_ok (by decide) rfl, _, _, rfl, ?_⟩
  refine ⟨sz0, fun p3 hp3 => ⟨sz1, fun p4 hp4 => ⟨sz2, fun p5 hp5 => ⟨p5, _, rfl, tup_at (upd_same ..), rfl, _, _, rfl, _, _, rfl, rfl, ?_⟩⟩⟩⟩
  have s3 := same_new (o := .tup []) hp3
  have s4 := same_new (o := .tup [.int 1]) hp4
  have s5 := same_new (o := .tup [.ref p3, .ref p4]) hp5
  have s35 := (s3.trans s4).trans s5
  refine ⟨fun m σ H' => Same H H' ∧ ∃ (x y l r : P) (ax ay al' ar : Addr) (u7 u8 u9 : Option V), σ = [some (.ref a), some (.ref b), some (.int t), some (.ref ax), some (.ref ay), some (.ref al'), some (.ref ar), u7, u8, u9] ∧ AtP K H' ax x ∧ AtP K H' ay y ∧ AtP K H' al' l ∧ AtP K H' ar r ∧ KyI t f g x y l r ∧ m = P.len y, ⟨_, s2.trans s35, g, b0, 0, 1, b, ab, p3, p4, _, _, _, rfl, hg.s (s2.trans s35), tb.s s35, AtP.s (at_0 (tup_at (upd_same ..))) (s4.trans s5), AtP.s (at_1 (upd_same ..)) s5, .start ht1 l2 rg cop D, rfl⟩, ?_⟩
  rintro m σ H' ⟨s6, x, y, l, r, ax, ay, al', ar, u7, u8, u9, rfl, hx, hy, hl, hr2, I, rfl⟩
  have lt := I.lt
  have la := I.la
  have lr := I.lr
  have ll := I.ll
  refine ⟨_, rfl, _, rfl, ay, y, rfl, hy, _, _, rfl, rfl, _, rfl, ite2 (fun c => ?_) fun c => ?_⟩
  · have c := of_decide_eq_true c
    have ly : 2 ≤ P.len y := by omega
    have y0 : y ≠ 0 := P.len_pos.mp (by omega)
    refine ⟨_, fun _ _ h => h, ?_⟩
    refine ⟨_, rfl, _, rfl, _, rfl, _, _, _, rfl, ax, ay, x, y, t, bt, bt, bt, rfl, rfl, rfl, hx, hy, y0, ht1, ht, bd x I.ra, bd y I.rb, by omega, by omega, by omega, Rd_unit hp I.rb y0, fun q c' D2 H7 p7 aq7 ac s7 t7 tq7 tc => ?_⟩
    have lq := D2.lq
    refine ⟨p7, _, rfl, tup_at t7, rfl, _, _, rfl, _, _, rfl, rfl, _, rfl, _, rfl, _, _, rfl, ?_⟩
    refine ⟨_, rfl, _, rfl, _, rfl, _, rfl, _, rfl, _, _, _, rfl, aq7, ar, q, r, t, bt, bt, rfl, rfl, rfl, tq7, hr2.s s7, by omega, by omega, by omega, bd q D2.rq, bd r I.rr, by omega, fun H8 p8 s8 t8 => ?_⟩
    have h3 := len_red t (q * r)
    have h4 := len_mul' q r
    refine ⟨_, rfl, _, _, _, rfl, al', p8, l, _, t, bt, rfl, rfl, rfl, hl.s (s7.trans s8), t8, by omega, by omega, by omega, bd _ (P.red_Rd (by omega) _), by omega, fun H9 p9 s9 t9 => ?_⟩
    have s79 := (s7.trans s8).trans s9
    have lc' := D2.lr
    exact ⟨_, _, rfl, P.len c', lc', s6.trans s79, y, c', r, _, ay, ac, ar, p9, _, _, _, rfl, hy.s s79, tc.s (s8.trans s9), hr2.s s79, t9, I.next ht1 ly lg D2, rfl⟩
  · have c : ¬ (P.len y : Int) - 1 > 0 := fun z => c (decide_eq_true z)
    have ly : P.len y ≤ 1 := by omega
    have y0 : y ≠ 0 := fun z => by
      have h1 := I.cp
      rw [z] at h1
      exact cop0 hp h1 I.ra I.a2
    have ly1 := P.len_pos.mpr y0
    have ey := P.eq_K ly
    have elc : P.lc y = y.c 0 := P.lc_c ly
    obtain ⟨u0, hu0⟩ := Rd_unit hp I.rb y0
    refine ⟨_, rfl, ay, _, _, _, rfl, rfl, hy, atI_ok (by decide) (pl_get (k := 0) (by omega)), _, rfl, _, _, rfl, y.c 0, t, bt, rfl, rfl, ht1, ht, by omega, ⟨u0, by rw [← elc]; exact hu0⟩, fun u hu1 hu2 hu3 H7 s7 => ?_⟩
    refine ⟨_, rfl, _, rfl, _, _, rfl, ar, r, u, bt, bt, rfl, rfl, hr2.s s7, bd r I.rr, by omega, by omega, by omega, fun H8 p8 s8 t8 => ?_⟩
    have h5 : P.len (P.K u * r) ≤ P.len r := P.len_min ((P.len_Z r).kmul u)
    refine ⟨_, rfl, _, _, rfl, p8, _, t, rfl, rfl, t8, by omega, by omega, fun H9 p9 s9 t9 => ?_⟩
    have s79 := (s7.trans s8).trans s9
    have h6 := len_red t (P.K u * r)
    refine ⟨_, rfl, _, rfl, _, _, _, rfl, p9, b, _, g, t, bt, bt, bt, rfl, rfl, rfl, t9, hg.s (s6.trans s79), g0, ht1, ht, bd _ (P.red_Rd (by omega) _), bd g rg, by omega, by omega, by omega, mon_inv mon t, fun q9 r9 D9 H10 p10 a10 b10 s10 t10 ta tb' => ?_⟩
    refine ⟨p10, _, _, _, rfl, rfl, tup_at t10, atI_ok (by decide) rfl, go r9 D9.rr D9.lr ?_ _ _ ((s6.trans s79).trans s10) tb'⟩
    have d1 : Dq t g r9 (P.K u * r) := D9.dq.symm.trans (Dq.of (P.red_Cg t _))
    refine ((Dq.refl t g f).mul d1).trans ?_
    rw [show f * (P.K u * r) = P.K u * (f * r) by grind]
    refine ((Dq.refl t g (P.K u)).mul I.dr).trans (Dq.of ?_)
    rw [ey, ← P.K_mulK]
    have := P.Cg.K (a := y.c 0 * u) (b := 1) hu3
    rw [show u * y.c 0 = y.c 0 * u by rw [Int.mul_comm]]
    exact this
/-! ### the keys -/
theorem cutV_to {xs : List V} {m : Nat} (h : m ≤ xs.length) : cutV xs none (some (m : Int)) = xs.take m := by
  unfold cutV
  have e0 : HT.sIx xs.length 0 none = 0 := rfl
  have e1 : HT.sIx xs.length xs.length (some (m : Int)) = m := by
    unfold HT.sIx
    show (if (m : Int) < 0 then _ else _) = _
    rw [if_neg (by omega)]
    omega
  rw [e0, e1]
  rfl
theorem cutV_from {xs : List V} {m : Nat} (h : m ≤ xs.length) : cutV xs (some (m : Int)) none = xs.drop m := by
  unfold cutV
  have e0 : HT.sIx xs.length xs.length none = xs.length := rfl
  have e1 : HT.sIx xs.length 0 (some (m : Int)) = m := by
    unfold HT.sIx
    show (if (m : Int) < 0 then _ else _) = _
    rw [if_neg (by omega)]
    omega
  rw [e0, e1]
  exact List.take_of_length_le (by rw [List.length_drop]; omega)
theorem enumL_go {a : Addr} {xs : List V} {H : Hp} {i : Nat} {x : V} (hs : SqL K H a xs) (hx : xs[i]? = some x) : (Ite K a).go i H ∧ ∀ v H', (Ite K a).yld i H v H' → ∃ T, v = .ref T ∧ H T = none ∧ H' = upd H T (.tup [.int (i : Nat), x]) :=
  ⟨⟨_, _, hs, hx⟩, fun v H' ⟨T, x', ev, hT, eH, hx'⟩ => ⟨T, ev, hT, by rw [eH, Option.some.inj ((hx' _ hs).symm.trans hx)]⟩⟩
theorem enumL_stop {a : Addr} {xs : List V} {H : Hp} {n : Nat} (hs : SqL K H a xs) (hn : n = xs.length) : (Ite K a).stop n H := ⟨_, hs, Nat.le_of_eq hn.symm⟩
theorem prod_len_le {L : List P} {n : Nat} (h : ∀ q ∈ L, P.len q ≤ n) : P.len (P.prod L) ≤ n * L.length + 1 := by
  induction L with
  | nil => show P.len 1 ≤ _; rw [P.len_1]; omega
  | cons q L ih =>
    have h1 := ih fun p hp => h p (by simp [hp])
    have h2 := h q (by simp)
    have h3 := len_mul' q (P.prod L)
    show P.len (q * P.prod L) ≤ n * (L.length + 1) + 1
    rw [Nat.mul_succ]
    omega
/-- the others -/
def oth (L : List P) (k : Nat) : List P := L.take k ++ L.drop (k + 1)
/-- a key of the k-th part -/
def Key (t : Int) (L : List P) (k : Nat) (ka : P) : Prop := ∃ p, L[k]? = some p ∧ P.Rd t ka ∧ P.len ka < P.len p ∧ Dq t p (P.prod (oth L k) * ka) 1
def sp_keys_of (K : PySem.W.Frag) : Sp := mk2 fun x y H Q => ∃ (a : Addr) (xs : List V) (L : List P) (t : Int) (bt : Nat), x = .ref a ∧ y = .int t ∧ SqL K H a xs ∧ All2 (PV K H) xs L ∧ L.length ≤ 12 ∧ (∀ p ∈ L, P.Mon p ∧ 2 ≤ P.len p ∧ P.len p ≤ 20 ∧ P.Rd t p) ∧ (∀ k p, L[k]? = some p → P.Cop t (P.prod (oth L k)) p) ∧ Pr t ∧ t.natAbs < 2 ^ bt ∧ bt ≤ 500000 ∧ ∀ Ks : List P, Ks.length = L.length → (∀ k ka, Ks[k]? = some ka → Key t L k ka) → ∀ H' l ys, Same H H' → H l = none → H' l = some (.lst ys) → All2 (PV K H') ys Ks → Q (.ref l) H'
abbrev s_keys_of : Stmt := topS 43
abbrev N_keys_of : List Str := ["parts", "t", "found", "k", "part", "others"]
theorem sc_keys_of : FnScope N_keys_of ["parts", "t"] (defScope s_keys_of) := ⟨rfl, rfl, rfl, by decide +kernel, rfl, by decide +kernel, by decide +kernel⟩
theorem ok_keys_of (A : At K mg "keys_of" s_keys_of) (T : Txt mg) (d_product_by : Dn Pg w K mg base "product_by" 44 ["some", "m"] (sp_product_by K)) (d_inverse_part : Dn Pg w K mg base "inverse_part" 45 ["one", "by", "t"] (sp_inverse_part K)) : Dn Pg w K mg base "keys_of" 46 ["parts", "t"] (sp_keys_of K) := by
  refine mkDn A sc_keys_of (fun _ _ _ _ _ _ us hl => match us, hl with | [_, _], _ => rfl) (fun vs H Q E ⟨_, _, e, _⟩ => by rw [e]; rfl) fun f cdv A outer s H vs Q E hr h => ?_
  refine ⟨_, (pss_cons (ps_set (i := 2) sc_keys_of.nd rfl (.inl rfl) (pe_lst pa_nil))
      (pss_cons (ps_for PassesOwn.never rfl (pi_enumK (K := K) (by rfl) T.enumerate (pa_cons (pv 0) pa_nil)) (pg_tupK (K := K) (n := 2) rfl (pgs_cons (pg_name (i := 3) sc_keys_of.nd rfl (.inl rfl)) (pgs_cons (pg_name (i := 4) sc_keys_of.nd rfl (.inl rfl)) pgs_nil))) (pss_cons (ps_set (i := 5) sc_keys_of.nd rfl (.inl rfl) (pe_own d_product_by (hr.mono (by decide)) (by rfl) (pa_cons (pe_op op_cat (pe_slice (sl_listK (K := K)) (pv 0) po_none (po_some (pv 3))) (pe_slice (sl_listK (K := K)) (pv 0) (po_some (pe_op op_add (pv 3) pe_int)) po_none)) (pa_cons (pv 1) pa_nil))))
      (pss_one (ps_expr (pe_bm PySem.F.plainAttrs_list PySem.F.slot_list_append PySem.F.type_list_append mt_append (pv 2) (pa_cons (pe_own d_inverse_part (hr.mono (by decide)) (by rfl) (pa_cons (pv 5) (pa_cons (pv 4) (pa_cons (pv 1) pa_nil)))) pa_nil))))))
      (pss_one (ps_ret (pv 2))))), ?_⟩
  obtain ⟨v0, v1, rfl, h⟩ := h
  obtain ⟨a, xs, L, t, bt, rfl, rfl, hxs, hL, lL, hp, hc, pt, ht, hbt, go⟩ := h
  have lx := hL.len
  refine ⟨sz0, fun D hD => ?_⟩
  have g0 : Grow H D [] (upd H D (.lst [])) := .new hD
  refine ⟨_, rfl, a, _, rfl, g0.same.seq hxs, for_at xs.length (fun i σ H' => ∃ (ys : List V) (Ks : List P) (u3 u4 u5 : Option V), σ = [some (.ref a), some (.int t), some (.ref D), u3, u4, u5] ∧ Grow H D ys H' ∧ All2 (PV K H') ys Ks ∧ Ks.length = i ∧ ∀ k ka, Ks[k]? = some ka → Key t L k ka) ⟨[], [], _, _, _, rfl, g0, .nil, rfl, fun k ka h => by cases h⟩ ?_ ?_⟩
  · rintro i σ H' hi ⟨ys, Ks, u3, u4, u5, rfl, gr, hys, lK, hK⟩
    have hx := List.getElem?_eq_getElem hi
    generalize xs[i] = x at hx
    obtain ⟨p, hpL, ⟨ap, rfl, hap⟩⟩ := hL.get hx
    have sq : SqL K H' a xs := gr.same.seq hxs
    obtain ⟨hgo, hy⟩ := enumL_go sq hx
    refine ⟨hgo, fun v H2 hv => ?_⟩
    obtain ⟨T2, rfl, hT2, rfl⟩ := hy _ _ hv
    have s2 := same_new (o := .tup [.int (i : Nat), .ref ap]) hT2
    have gr2 := gr.to s2
    obtain ⟨mon, l2, lp, rp⟩ := hp p (List.mem_of_getElem? hpL)
    refine ⟨T2, _, rfl, tup_at (upd_same ..), rfl, _, _, rfl, _, _, rfl, rfl, ?_⟩
    have c1 : cutV xs none (some (i : Int)) = xs.take i := cutV_to (by omega)
    have c2 : cutV xs (some (((i + 1 : Nat)) : Int)) none = xs.drop (i + 1) := cutV_from (by omega)
    refine ⟨_, rfl, _, rfl, i, rfl, a, _, rfl, s2.seq sq, fun p3 hp3 => ?_⟩
    rw [c1]
    have s3 := same_new (o := .lst (xs.take i)) hp3
    refine ⟨_, rfl, _, rfl, _, _, rfl, rfl, ((i + 1 : Nat) : Int), rfl, a, _, rfl, s3.seq (s2.seq sq), fun p4 hp4 => ?_⟩
    rw [c2]
    have s4 := same_new (o := .lst (xs.drop (i + 1))) hp4
    refine ⟨p3, p4, _, _, rfl, rfl, s4 _ _ (upd_same ..), upd_same .., ?_, fun p5 hp5 => ?_⟩
    · rw [List.length_take, List.length_drop]
      have : sizeLine = 16777216 := by decide
      omega
    have s5 := same_new (o := .lst (xs.take i ++ xs.drop (i + 1))) hp5
    have s25 := ((s2.trans s3).trans s4).trans s5
    have sH5 := gr.same.trans s25
    have hoth : All2 (PV K H) (xs.take i ++ xs.drop (i + 1)) (oth L i) := (hL.take i).append (hL.drop (i + 1))
    have hmem : ∀ q ∈ oth L i, q ∈ L := fun q hq => by
      rcases List.mem_append.mp hq with hq | hq
      · exact List.mem_of_mem_take hq
      · exact List.mem_of_mem_drop hq
    refine ⟨_, rfl, _, _, rfl, p5, _, oth L i, t, bt, bt, rfl, rfl, lst_at (upd_same ..), hoth.imp fun v q h => h.s sH5, ?_, fun q hq => ?_, pt.1, ht, by omega, fun H6 p6 s6 t6 => ?_⟩
    · unfold oth
      rw [List.length_append, List.length_take, List.length_drop]
      omega
    · obtain ⟨_, _, a3, a4⟩ := hp q (hmem q hq)
      exact ⟨a3, Rd_bt a4 ht⟩
    have gr6 := gr.to (s25.trans s6)
    have lO : P.len (P.prod (oth L i)) ≤ 20 * (oth L i).length + 1 := prod_len_le fun q hq => (hp q (hmem q hq)).2.2.1
    have lO2 : (oth L i).length ≤ 24 := by
      unfold oth
      rw [List.length_append, List.length_take, List.length_drop]
      omega
    have lO3 := len_red t (P.prod (oth L i))
    refine ⟨_, rfl, .inl ⟨rfl, _, lst_at gr6.d⟩, _, rfl, _, rfl, _, rfl, _, _, _, rfl, p6, ap, _, p, t, bt, bt, rfl, rfl, rfl, t6, hap.s gr6.same, mon, l2, lp, rp, pt, ht, Rd_bt (P.red_Rd (by have := pt.1; omega) _) ht, by omega, by omega, ?_, fun ka r1 l1 dk H7 p7 s7 t7 => ?_⟩
    · obtain ⟨u, v, e⟩ := hc i p hpL
      exact ⟨u, v, (((P.red_Cg t _).mull u).add (P.Cg.refl t _)).trans e⟩
    have gr7 := gr6.to s7
    refine ⟨D, ys, _, rfl, rfl, gr7.d, ?_, ys ++ [.ref p7], Ks ++ [ka], _, _, _, rfl, gr7.set hD, ?_, by rw [List.length_append, lK]; rfl, fun k ka' hk => ?_⟩
    · have : sizeLine = 16777216 := by decide
      have := hys.len
      omega
    · exact (hys.imp fun v q h => (((h.s s25).s s6).s s7).put gr7.d).append (.cons ⟨p7, rfl, t7.put gr7.d⟩ .nil)
    · by_cases z : k < Ks.length
      · rw [List.getElem?_append_left z] at hk
        exact hK k ka' hk
      · rw [List.getElem?_append_right (by omega)] at hk
        have : k - Ks.length = 0 := by
          have := (List.getElem?_eq_some_iff.mp hk).1
          simp at this
          omega
        rw [this] at hk
        cases hk
        have ek : k = i := by omega
        subst ek
        refine ⟨p, hpL, r1, l1, ?_⟩
        exact (Dq.mul (Dq.of (P.red_Cg t _).symm) (Dq.refl t p ka)).trans dk
  · rintro σ H' ⟨ys, Ks, u3, u4, u5, rfl, gr, hys, lK, hK⟩
    exact ⟨enumL_stop (gr.same.seq hxs) rfl, _, rfl, go Ks (by omega) hK _ D ys gr.same hD gr.d hys⟩
end
end RH
/-! W18: lifting. -/
namespace RH
open PySem PySem.Spec PyProof.Rows L2 RC
/-- a lifted part and the part -/
structure Lft (t la : Int) (G p : P) : Prop where
  mon : P.Mon G
  len : P.len G = P.len p
  cg : P.Cg t G p
  rd : P.Rd la G
theorem prod_cg {t : Int} {R : P → P → Prop} (hR : ∀ G p, R G p → P.Cg t G p) : ∀ {Gs L : List P}, All2 R Gs L → P.Cg t (P.prod Gs) (P.prod L)
  | _, _, .nil => P.Cg.refl _ _
  | _, _, .cons r rs => (hR _ _ r).mul (prod_cg hR rs)
theorem prod_len_eq {R : P → P → Prop} (hR : ∀ G p, R G p → P.Mon G ∧ P.Mon p ∧ P.len G = P.len p) : ∀ {Gs L : List P}, All2 R Gs L → P.len (P.prod Gs) = P.len (P.prod L) ∧ P.prod Gs ≠ 0 ∧ P.prod L ≠ 0
  | _, _, .nil => ⟨rfl, P.Mon.one.ne, P.Mon.one.ne⟩
  | _, _, .cons (v := G) (a := p) (vs := Gs) (as := L) r rs => by
    obtain ⟨h1, h2, h3⟩ := prod_len_eq hR rs
    obtain ⟨a, b, c⟩ := hR _ _ r
    have e1 := (P.len_mul a.ne h2).1
    have e2 := (P.len_mul b.ne h3).1
    refine ⟨?_, P.mul_ne a.ne h2, P.mul_ne b.ne h3⟩
    show P.len (G * P.prod Gs) = P.len (p * P.prod L)
    omega
/-- its parts -/
def divP (f : P) (m : Int) : P := ⟨fun k => f.c k / m, P.len f, fun k h => by rw [P.len_Z f k h]; exact Int.zero_ediv m⟩
theorem c_divP (f : P) (m : Int) (k : Nat) : (divP f m).c k = f.c k / m := rfl
theorem divP_mul {f : P} {m : Int} (h : P.K m ∣ f) : P.K m * divP f m = f := P.ext fun k => by
  rw [P.K_mul, c_divP]
  exact Int.mul_ediv_cancel' (P.Kdvd.mp h k)
/-- a step of the k-th part -/
def More (t : Int) (Gs : List P) (turn : P) (k : Nat) (x : P × P) : Prop := P.Rd t x.2 ∧ P.len x.2 < P.len x.1 ∧ P.Dv t x.1 (x.2 * P.prod (oth Gs k) - turn)
theorem more_of {t la : Int} (ht : 0 < t) {Gs L : List P} (hG : All2 (Lft t la) Gs L) {k : Nat} {G p : P} (h1 : Gs[k]? = some G) (h2 : L[k]? = some p) {ka : P} (hk : Key t L k ka) {turn q more : P} (D : Md (P.red t (turn * ka)) p t q more) : More t Gs turn k (G, more) := by
  obtain ⟨p', e, r1, l1, dk⟩ := hk
  rw [h2] at e
  cases e
  obtain ⟨p2, e2, hl⟩ := hG.get h1
  rw [h2] at e2
  cases e2
  refine ⟨D.rr, by have := D.lr; have := hl.len; show P.len more < P.len G; omega, ?_⟩
  have d1 : Dq t p more (turn * ka) := D.dq.symm.trans (Dq.of (P.red_Cg t _))
  have d2 : Dq t p (more * P.prod (oth L k)) turn := by
    refine (d1.mul (Dq.refl t p _)).trans ?_
    rw [show turn * ka * P.prod (oth L k) = turn * (P.prod (oth L k) * ka) by grind]
    refine ((Dq.refl t p turn).mul dk).trans ?_
    rw [show turn * 1 = turn by grind]
    exact Dq.refl ..
  have co : P.Cg t (P.prod (oth Gs k)) (P.prod (oth L k)) := prod_cg (fun _ _ h => Lft.cg h) ((hG.take k).append (hG.drop (k + 1)))
  have d3 : Dq t p (more * P.prod (oth Gs k)) turn := (Dq.of (co.mull more)).trans d2
  obtain ⟨z, hz⟩ := d3
  exact ⟨z, hz.trans (hl.cg.symm.mulr z)⟩
/-- the part after a step -/
def lnew (la m : Int) (x : P × P) : P := P.red la (x.1 + P.red la (P.K m * x.2))
theorem lft_new {t la m : Int} (ht : 1 < t) (hla : 1 < la) (htl : t ∣ la) (hm : t ∣ m) {G p M : P} (h : Lft t la G p) (hl : P.len M < P.len G) : Lft t la (P.red la (G + P.K m * M)) p := by
  have lG := P.len_pos.mpr h.mon.ne
  have e1 : (P.red la (G + P.K m * M)).c (P.len G - 1) = 1 := by
    rw [P.c_red, P.c_add, P.K_mul, P.len_Z M _ (by omega), Int.mul_zero, Int.add_zero]
    have : G.c (P.len G - 1) = 1 := h.mon
    rw [this]
    exact Int.emod_eq_of_lt (by omega) hla
  have z1 : P.Z (P.red la (G + P.K m * M)) (P.len G - 1 + 1) := P.red_Z (.add ((P.len_Z G).mono (by omega)) (((P.len_Z M).kmul m).mono (by omega)))
  have cg := (P.red_Cg la (G + P.K m * M)).dvd htl
  refine ⟨?_, ?_, ?_, P.red_Rd (by omega) _⟩
  · unfold P.Mon
    rw [P.lc_is z1 (by rw [e1]; decide), e1]
  · rw [P.len_is z1 (by rw [e1]; decide), ← h.len]
    omega
  · refine cg.trans (P.Cg.trans ?_ h.cg)
    have : P.Cg t (P.K m) (P.K 0) := P.Cg.K (by rw [Int.sub_zero]; exact hm)
    refine ((P.Cg.refl t G).add (this.mulr M)).trans (P.Cg.of_eq ?_)
    rw [P.K_zero]
    grind
theorem lft_list {t la m : Int} (ht : 1 < t) (hla : 1 < la) (htl : t ∣ la) (hm : t ∣ m) : ∀ {l : List (P × P)} {L : List P}, All2 (Lft t la) (l.map Prod.fst) L → (∀ x ∈ l, P.len x.2 < P.len x.1) → All2 (Lft t la) (l.map fun x => P.red la (x.1 + P.K m * x.2)) L
  | [], _, .nil, _ => .nil
  | x :: l, _, .cons r rs, h => .cons (lft_new ht hla htl hm r (h x (by simp))) (lft_list ht hla htl hm rs fun y hy => h y (by simp [hy]))
theorem oth_mid : ∀ (A B : List P) (y : P), oth (A ++ y :: B) A.length = A ++ B
  | [], B, y => rfl
  | a :: A, B, y => by
    have := oth_mid A B y
    unfold oth at *
    show a :: (List.take A.length (A ++ y :: B) ++ List.drop (A.length + 1) (A ++ y :: B)) = a :: (A ++ B)
    rw [this]
/-- a whole step -/
theorem lift_all {t la m : Int} (hp : Pr t) (hla : 1 < la) (hm : t ∣ m) (hmt : m * t ∣ la) {goal : P} {l : List (P × P)} {Gs L : List P} (hG : All2 (Lft t la) Gs L) (mL : ∀ p ∈ L, P.Mon p) (hfr : P.FrM t (P.prod L)) (eG : l.map Prod.fst = Gs) (hmore : ∀ k x, l[k]? = some x → More t Gs (P.red t (divP (P.red la (goal - P.red la (P.prod Gs))) m)) k x)
    (mg : P.Mon goal) (lg : P.len goal = P.len (P.prod L)) (hc : P.Cg m goal (P.prod Gs)) : P.Cg (m * t) goal (P.prod (l.map (fun x => P.red la (x.1 + P.K m * x.2)))) := by
  have tl : t ∣ la := Int.dvd_trans ⟨m, Int.mul_comm ..⟩ hmt
  have ml : m ∣ la := Int.dvd_trans ⟨t, rfl⟩ hmt
  have clk : P.Cg la (P.red la (goal - P.red la (P.prod Gs))) (goal - P.prod Gs) := (P.red_Cg la _).trans ((P.Cg.refl la goal).sub (P.red_Cg la _))
  generalize elk : P.red la (goal - P.red la (P.prod Gs)) = lack at clk hmore
  have rlk : P.Rd la lack := by rw [← elk]; exact P.red_Rd (by omega) _
  have dlk : P.K m ∣ lack := P.Cg.zero.mp ((clk.dvd ml).trans ((hc.sub (P.Cg.refl m _)).trans (P.Cg.of_eq (by grind))))
  have eT := divP_mul dlk
  have hML : P.Mon (P.prod L) := P.prod_mon mL
  have hlen : P.len (P.prod Gs) = P.len (P.prod L) := (prod_len_eq (R := fun G p => P.Mon G ∧ P.Mon p ∧ P.len G = P.len p) (fun _ _ h => h) (all2_mem hG mL fun G p h hp => ⟨h.mon, hp, h.len⟩)).1
  have hMG : P.Mon (P.prod Gs) := P.prod_mon fun G hG' => by
    obtain ⟨i, hi⟩ := List.getElem?_of_mem hG'
    obtain ⟨p, _, h⟩ := hG.get hi
    exact h.mon
  have lL := P.len_pos.mpr hML.ne
  have zlk : P.Z lack (P.len (P.prod L) - 1) := fun k hk => by
    have h1 : la ∣ lack.c k - (goal.c k - (P.prod Gs).c k) := P.Cg.iff.mp clk k
    have h2 : goal.c k - (P.prod Gs).c k = 0 := by
      by_cases z : k = P.len (P.prod L) - 1
      · have e1 : goal.c k = 1 := by rw [z, ← lg]; exact mg
        have e2 : (P.prod Gs).c k = 1 := by rw [z, ← hlen]; exact hMG
        omega
      · rw [P.len_Z goal k (by omega), P.len_Z (P.prod Gs) k (by omega)]
        rfl
    rw [h2, Int.sub_zero] at h1
    have h3 := rlk k
    have h4 := Int.emod_eq_zero_of_dvd h1
    rwa [Int.emod_eq_of_lt h3.1 h3.2] at h4
  have zt : P.len (P.red t (divP lack m)) < P.len (P.prod (l.map Prod.fst)) := by
    rw [eG, hlen]
    have : P.Z (P.red t (divP lack m)) (P.len (P.prod L) - 1) := P.red_Z fun k hk => by rw [c_divP, zlk k hk]; exact Int.zero_ediv m
    have := P.len_min this
    omega
  have cL : P.Cg t (P.prod L) (P.prod Gs) := (prod_cg (fun _ _ h => Lft.cg h) hG).symm
  have step := P.lift_step hp hm (goal := goal) (turn := P.red t (divP lack m)) (l := l) (fun x hx => ?_) (by rw [eG]; exact hfr.cg cL) (fun pre x post e => ?_) zt ⟨divP lack m, ?_, (P.red_Cg t _).symm⟩
  · refine step.trans ?_
    clear step hmore eG zt
    induction l with
    | nil => exact P.Cg.refl _ _
    | cons x l ih => exact ((P.red_Cg la _).symm.dvd hmt).mul ih
  · obtain ⟨i, hi⟩ := List.getElem?_of_mem hx
    refine ⟨?_, (hmore i x hi).2.1⟩
    have : Gs[i]? = some x.1 := by rw [← eG, List.getElem?_map, hi]; rfl
    obtain ⟨p, _, h⟩ := hG.get this
    exact h.mon
  · have hi : l[pre.length]? = some x := by rw [e, List.getElem?_append_right (Nat.le_refl _), Nat.sub_self]; rfl
    have eo : (pre ++ post).map Prod.fst = oth Gs pre.length := by
      rw [← eG, e, List.map_append, List.map_append]
      have := oth_mid (pre.map Prod.fst) (post.map Prod.fst) x.1
      rw [List.length_map] at this
      exact this.symm
    rw [eo]
    exact (hmore _ x hi).2.2
  · rw [eG, eT]
    exact (clk.symm).dvd hmt
end RH
/-! W19: lifting, the walk. -/
namespace RH
open PySem PySem.Spec PyProof.Rows L2 RC
section
variable {Pg : Program} {w : World} {K : PySem.W.Frag} {mg : Str → Option Value} {base : Heap}
/-- what lifting wants -/
structure LfW (f : P) (t : Int) (e : Nat) (L : List P) (bl : Nat) : Prop where
  pt : Pr t
  bt : t.natAbs < 2 ^ 17
  bp : (t ^ e).natAbs < 2 ^ bl
  e1 : 1 ≤ e
  b1 : bl ≤ 1000
  f0 : f ≠ 0
  lf : P.len f ≤ 20
  bf : P.Bt 64 f
  nt : ¬ t ∣ P.lc f
  lL : L.length ≤ 12
  ps : ∀ p ∈ L, P.Mon p ∧ 2 ≤ P.len p ∧ P.len p ≤ 20 ∧ P.Rd t p
  cp : ∀ k p, L[k]? = some p → P.Cop t (P.prod (oth L k)) p
  fr : P.FrM t (P.prod L)
  cg : P.Cg t (P.K (P.lc f) * P.prod L) f
  ln : P.len (P.prod L) = P.len f
def sp_lifted (K : PySem.W.Frag) : Sp := mk4 fun x y z u H Q => ∃ (a b : Addr) (xs : List V) (f : P) (t : Int) (L : List P) (e bl : Nat), x = .ref a ∧ y = .int t ∧ z = .ref b ∧ u = .int (e : Nat) ∧ AtP K H a f ∧ SqL K H b xs ∧ All2 (PV K H) xs L ∧ e ≤ 1000 ∧ LfW f t e L bl ∧ ∀ Gs : List P, All2 (Lft t (t ^ e)) Gs L → P.Cg (t ^ e) (P.K (P.lc f) * P.prod Gs) f → ∀ H' l ys, Same H H' → H l = none → H' l = some (.lst ys) → All2 (PV K H') ys Gs → Q (.ref l) H'
theorem pow_lt {t : Int} (ht : 1 < t) {i j : Nat} (h : i < j) : t ^ i < t ^ j := by
  obtain ⟨n, rfl⟩ := Int.eq_ofNat_of_zero_le (show 0 ≤ t by omega)
  have : n ^ i < n ^ j := Nat.pow_lt_pow_right (by omega) h
  rw [← Int.natCast_pow, ← Int.natCast_pow]
  omega
theorem pow_le {t : Int} (ht : 1 < t) {i j : Nat} (h : i ≤ j) : t ^ i ≤ t ^ j := by
  rcases Nat.lt_or_eq_of_le h with h | h
  · exact Int.le_of_lt (pow_lt ht h)
  · rw [h]; exact Int.le_refl _
theorem pow_dvd' (t : Int) {i j : Nat} (h : i ≤ j) : t ^ i ∣ t ^ j := ⟨t ^ (j - i), by rw [← Int.pow_add]; congr 1; omega⟩
theorem set_mid {α : Type} : ∀ (A : List α) (y z : α) (B : List α), (A ++ y :: B).set A.length z = A ++ z :: B
  | [], _, _, _ => rfl
  | a :: A, y, z, B => congrArg (a :: ·) (set_mid A y z B)
/-- while it lifts -/
def lifInv (K : PySem.W.Frag) (H : Hp) (af apt ag lk D : Addr) (t : Int) (e : Nat) (goal : P) (L Ks : List P) (zs : List V) : Nat → L2.St → Hp → Prop := fun mm σ H' => ∃ (j : Nat) (Gs : List P) (ys : List V) (u5 u10 u11 u12 u13 u14 : Option V), σ = [some (.ref af), some (.int t), some (.ref apt), some (.int (e : Nat)), some (.int (t ^ e)), u5, some (.ref ag), some (.ref lk), some (.ref D), some (.int (t ^ j)), u10, u11, u12, u13, u14] ∧ Grow H D ys H' ∧ AtP K H' ag goal ∧ H' lk = some (.lst zs) ∧ All2 (PV K H') zs Ks ∧ All2 (PV K H') ys Gs ∧ All2 (Lft t (t ^ e)) Gs L ∧ P.Cg (t ^ j) goal (P.prod Gs) ∧ 1 ≤ j ∧ j ≤ e ∧ mm = e - j
abbrev s_lifted : Stmt := topS 44
abbrev N_lifted : List Str := ["f", "t", "parts", "e", "last", "k", "goal", "keys", "found", "m", "lack", "turn", "weight", "part", "more"]
theorem sc_lifted : FnScope N_lifted ["f", "t", "parts", "e"] (defScope s_lifted) := ⟨rfl, rfl, rfl, by decide +kernel, rfl, by decide +kernel, by decide +kernel⟩
theorem ok_lifted (A : At K mg "lifted" s_lifted) (T : Txt mg) (d_by_numberT : Dn Pg w K mg base "by_number" 42 ["one", "m"] (sp_by_numberT K)) (d_scaled : Dn Pg w K mg base "scaled" 42 ["one", "factor"] (sp_scaled K)) (d_inverse_by : Dn Pg w K mg base "inverse_by" 41 ["number", "m"] (sp_inverse_by K)) (d_keys_of : Dn Pg w K mg base "keys_of" 46 ["parts", "t"] (sp_keys_of K)) (d_m_minus : Dn Pg w K mg base "m_minus" 44 ["one", "other", "m"] (sp_m_minus K)) (d_product_by : Dn Pg w K mg base "product_by" 44 ["some", "m"] (sp_product_by K)) (d_by_numberL : Dn Pg w K mg base "by_number" 42 ["one", "m"] (sp_by_numberL K)) (d_m_parted : Dn Pg w K mg base "m_parted" 43 ["one", "other", "m"] (sp_m_parted K)) (d_m_times : Dn Pg w K mg base "m_times" 43 ["one", "other", "m"] (sp_m_times K)) (d_m_plus : Dn Pg w K mg base "m_plus" 43 ["one", "other", "m"] (sp_m_plus K)) (B : Big Pg base) : Dn Pg w K mg base "lifted" 47 ["f", "t", "parts", "e"] (sp_lifted K) := by
  refine mkDn A sc_lifted (fun _ _ _ _ _ _ us hl => match us, hl with | [_, _, _, _], _ => rfl) (fun vs H Q E ⟨_, _, _, _, e, _⟩ => by rw [e]; rfl) fun f cdv A outer s H vs Q E hr h => ?_
  refine ⟨_, (pss_cons (ps_set (i := 4) sc_lifted.nd rfl (.inl rfl) pe_int)
      (pss_cons (ps_for PassesOwn.never rfl (pi_range1 (by rfl) T.range (pa_cons (pv 3) pa_nil)) (pg_name (i := 5) sc_lifted.nd rfl (.inl rfl)) (pss_one (ps_set (i := 4) sc_lifted.nd rfl (.inl rfl) (pe_op op_mulB (pv 4) (pv 1)))))
      (pss_cons (ps_set (i := 6) sc_lifted.nd rfl (.inl rfl) (pe_own d_by_numberT (hr.mono (by decide)) (by rfl) (pa_cons (pe_own d_scaled (hr.mono (by decide)) (by rfl) (pa_cons (pv 0) (pa_cons (pe_own d_inverse_by (hr.mono (by decide)) (by rfl) (pa_cons (pe_ix (ix_tupK (K := K)) (pv 0) (pe_un un_neg pe_int) (fun _ _ => rfl)) (pa_cons (pv 4) pa_nil))) pa_nil))) (pa_cons (pv 4) pa_nil))))
      (pss_cons (ps_set (i := 7) sc_lifted.nd rfl (.inl rfl) (pe_own d_keys_of (hr.mono (by decide)) (by rfl) (pa_cons (pv 2) (pa_cons (pv 1) pa_nil))))
      (pss_cons (ps_set (i := 8) sc_lifted.nd rfl (.inl rfl) (pe_callTy (call_lstK (K := K)) (by rfl) T.list (by decide +kernel) (pa_cons (pv 2) pa_nil)))
      (pss_cons (ps_set (i := 9) sc_lifted.nd rfl (.inr rfl) (pv 1))
      (pss_cons (ps_while PassesOwn.never (pt_cmpR op_lt (pv 9) (pv 4) (nomark _)) (pss_cons (ps_set (i := 10) sc_lifted.nd rfl (.inl rfl) (pe_own d_m_minus (hr.mono (by decide)) (by rfl) (pa_cons (pv 6) (pa_cons (pe_own d_product_by (hr.mono (by decide)) (by rfl) (pa_cons (pv 8) (pa_cons (pv 4) pa_nil))) (pa_cons (pv 4) pa_nil)))))
      (pss_cons (ps_set (i := 11) sc_lifted.nd rfl (.inl rfl) (pe_own d_by_numberL (hr.mono (by decide)) (by rfl) (pa_cons (pe_lc (own := [("weight", 12)]) (g := gName 12) (tt := tYes) (by rfl) sc_lifted.nd (pi_tupK (K := K) (pv 10)) (blkOk_by (N := N_lifted) (sc := defScope s_lifted) (by decide +kernel)) (fun _ _ _ _ _ => (pg_name (i := 12) sc_lifted.nd rfl (.inl rfl))) (fun _ _ _ _ _ => pts_nil) (fun _ _ _ _ _ => (pe_op (op_fdivB B.ns B.tr (dp100 hr) rfl rfl rfl rfl rfl) (pv 12) (pv 9)))) (pa_cons (pv 1) pa_nil))))
      (pss_cons (ps_for PassesOwn.never rfl (pi_enumK (K := K) (by rfl) T.enumerate (pa_cons (pv 2) pa_nil)) (pg_tupK (K := K) (n := 2) rfl (pgs_cons (pg_name (i := 5) sc_lifted.nd rfl (.inl rfl)) (pgs_cons (pg_name (i := 13) sc_lifted.nd rfl (.inl rfl)) pgs_nil))) (pss_cons (ps_set (i := 14) sc_lifted.nd rfl (.inl rfl) (pe_ix (ix_tupK (K := K)) (pe_own d_m_parted (hr.mono (by decide)) (by rfl) (pa_cons (pe_own d_m_times (hr.mono (by decide)) (by rfl) (pa_cons (pv 11) (pa_cons (pe_ix (ix_listK (K := K)) (pv 7) (pv 5) (fun _ _ => rfl)) (pa_cons (pv 1) pa_nil)))) (pa_cons (pv 13) (pa_cons (pv 1) pa_nil)))) pe_int (fun _ _ => rfl)))
      (pss_one (ps_asg (pe_own d_m_plus (hr.mono (by decide)) (by rfl) (pa_cons (pe_ix (ix_listK (K := K)) (pv 8) (pv 5) (fun _ _ => rfl)) (pa_cons (pe_own d_scaled (hr.mono (by decide)) (by rfl) (pa_cons (pv 14) (pa_cons (pv 9) pa_nil))) (pa_cons (pv 4) pa_nil)))) (pg_sub (pv 8) (pv 5) set_list)))))
      (pss_one (ps_set (i := 9) sc_lifted.nd rfl (.inr rfl) (pe_op op_mulB (pv 9) (pv 1))))))))
      (pss_one (ps_ret (pv 8)))))))))), ?_⟩
  obtain ⟨v0, v1, v2, v3, rfl, h⟩ := h
  obtain ⟨af, apt, xs, f, t, L, e, bl, rfl, rfl, rfl, rfl, hf, hxs, hL, he, W, go⟩ := h
  have ht1 := W.pt.1
  have lx := hL.len
  have lL := W.lL
  have b1 := W.b1
  have lf := W.lf
  have f0 := W.f0
  have hla : 1 < t ^ e := by
    have := pow_lt ht1 (show 0 < e from W.e1)
    rw [Int.pow_zero] at this
    exact this
  have tle : t ≤ t ^ e := by
    have := pow_le ht1 W.e1
    rw [Int.pow_one] at this
    exact this
  have tdv : t ∣ t ^ e := by
    have := pow_dvd' t W.e1
    rw [Int.pow_one] at this
    exact this
  have hbl := W.bp
  have hbt := W.bt
  refine ⟨_, rfl, (e : Nat), rfl, by omega, by omega, for_range (lo := 0) (n := e) (fun i σ H' => H' = H ∧ ∃ u5 : Option V, σ = [some (.ref af), some (.int t), some (.ref apt), some (.int (e : Nat)), some (.int (t ^ i)), u5, none, none, none, none, none, none, none, none, none]) ⟨rfl, none, by rw [Int.pow_zero]; rfl⟩ ?_ ?_⟩
  · rintro i σ H' hi ⟨rfl, u5, rfl⟩
    have hp1 := pow_lt ht1 hi
    have hp0 : 0 < t ^ i := Int.pow_pos (by omega)
    refine ⟨_, rfl, _, rfl, _, _, rfl, rfl, mulOk (a := bl) (b := 17) (by omega) hbt (by omega), rfl, some (.int (0 + (i : Nat))), ?_⟩
    rw [Int.pow_succ]
    rfl
  rintro σ H' ⟨rfl, u5, rfl⟩
  have hnt : ∃ u, t ^ e ∣ P.lc f * u - 1 := inv_pow (W.pt.inv W.nt) e
  refine ⟨_, rfl, _, rfl, _, rfl, af, _, _, _, rfl, rfl, hf, atI_neg (pl_last f0), _, rfl, _, _, rfl, P.lc f, t ^ e, bl, rfl, rfl, hla, hbl, by omega, hnt, fun u hu0 hu1 hu2 H1 s1 => ?_⟩
  refine ⟨_, _, rfl, af, f, u, 64, bl, rfl, rfl, hf.s s1, W.bf, by omega, by omega, by omega, fun H2 p2 s2 t2 => ?_⟩
  have lu : P.len (P.K u * f) ≤ 20 := Nat.le_trans (P.len_min ((P.len_Z f).kmul u)) lf
  refine ⟨_, rfl, _, _, rfl, p2, _, t ^ e, rfl, rfl, t2, by omega, by omega, fun H3 ag s3 tg => ?_⟩
  obtain ⟨mg, lg, rg, cg1, cg2⟩ := mk_mon hla f0 hu2
  generalize egoal : P.red (t ^ e) (P.K u * f) = goal at mg lg rg cg1 cg2 tg
  have s13 := (s1.trans s2).trans s3
  refine ⟨_, rfl, _, rfl, _, _, rfl, apt, xs, L, t, 17, rfl, rfl, s13.seq hxs, hL.imp fun v p h => h.s s13, lL, W.ps, W.cp, W.pt, hbt, by omega, fun Ks lKs hKs H4 lk zs s4 n4 d4 all4 => ?_⟩
  have s14 := s13.trans s4
  refine ⟨_, rfl, apt, xs, rfl, .inl (s14.seq hxs), fun D hD => ?_⟩
  have sD := same_new (o := .lst xs) hD
  have hD0 := none_same s14 hD
  have g0 : Grow H' D xs (upd H4 D (.lst xs)) := ⟨s14.put hD0, upd_same ..⟩
  have lkD : lk ≠ D := fun z => by
    rw [z, hD] at d4
    cases d4
  have hLL : All2 (Lft t (t ^ e)) L L := All2.self fun p hp => by
    obtain ⟨h1, h2, h3, h4⟩ := W.ps p hp
    exact ⟨h1, rfl, P.Cg.refl _ _, fun k => by have := h4 k; omega⟩
  have cgt : P.Cg t (P.K u * f) (P.prod L) := by
    refine (W.cg.symm.mull (P.K u)).trans ?_
    refine (P.Cg.of_eq (b := P.K (P.lc f * u) * P.prod L) (by rw [P.K_mulK]; grind)).trans ?_
    refine ((P.Cg.K (b := 1) (Int.dvd_trans tdv hu2)).mulr _).trans (P.Cg.of_eq ?_)
    rw [P.K_one]
    grind
  refine ⟨_, rfl, lifInv K H' af apt ag lk D t e goal L Ks zs, ⟨_, 1, L, xs, u5, none, none, none, none, none, ?_, g0, (tg.s s4).s sD, by rw [upd_ne lkD]; exact d4, all4.imp fun v p h => h.s sD, hL.imp fun v p h => (h.s s14).s sD, hLL, ?_, Nat.le_refl _, W.e1, rfl⟩, ?_⟩
  · rw [Int.pow_one]
    rfl
  · rw [Int.pow_one]
    exact (cg1.dvd tdv).trans cgt
  rintro mm σ H5 ⟨j, Gs, ys, u5, u10, u11, u12, u13, u14, rfl, gr, tg, dlk, hzs, hys, hG, hcg, j1, je, rfl⟩
  refine ⟨_, rfl, _, rfl, _, _, rfl, rfl, _, rfl, ite2 (fun c => ?_) fun c => ?_⟩
  · have c := of_decide_eq_true c
    have jlt : j < e := Classical.byContradiction fun z => by
      have := pow_le ht1 (show e ≤ j by omega)
      omega
    have mpos : 0 < t ^ j := Int.pow_pos (by omega)
    have hGm : ∀ G ∈ Gs, P.len G ≤ 20 ∧ P.Bt bl G ∧ P.Mon G := fun G hG' => by
      obtain ⟨i, hi⟩ := List.getElem?_of_mem hG'
      obtain ⟨p, hp, h⟩ := hG.get hi
      have := (W.ps p (List.mem_of_getElem? hp)).2.2.1
      exact ⟨by have := h.len; omega, Rd_bt h.rd hbl, h.mon⟩
    have lG := hG.len
    refine ⟨_, fun _ _ h => h, ?_⟩
    refine ⟨_, rfl, _, rfl, _, rfl, _, _, rfl, D, ys, Gs, t ^ e, bl, bl, rfl, rfl, lst_at gr.d, hys, by omega, fun p hp => ⟨(hGm p hp).1, (hGm p hp).2.1⟩, hla, hbl, by omega, fun H6 p6 s6 t6 => ?_⟩
    have lP : P.len (P.prod Gs) ≤ 20 * Gs.length + 1 := prod_len_le fun q hq => (hGm q hq).1
    have lP2 := len_red (t ^ e) (P.prod Gs)
    refine ⟨_, rfl, _, _, _, rfl, ag, p6, goal, _, t ^ e, bl, rfl, rfl, rfl, tg.s s6, t6, by omega, by omega, by omega, Rd_bt (P.red_Rd (by omega) _) hbl, by omega, fun H7 al s7 tl => ?_⟩
    have lk2 := len_red (t ^ e) (goal - P.red (t ^ e) (P.prod Gs))
    have lk3 := len_sub goal (P.red (t ^ e) (P.prod Gs))
    generalize elack : P.red (t ^ e) (goal - P.red (t ^ e) (P.prod Gs)) = lack at tl lk2
    have s67 := s6.trans s7
    refine ⟨_, rfl, al, rfl, ⟨_, tl⟩, fun D2 hD2 => lc_tup (xs := pl lack) (fun i Hx => Grow H7 D2 (tab (divP lack (t ^ j)).c i) Hx) (.new hD2) (fun i Hx _ g => tl.s g.same) ?_ ?_⟩
    · intro i x Hx hx g
      obtain ⟨hi, rfl⟩ := pl_at hx
      refine ⟨rfl, itT ⟨_, rfl, _, rfl, _, _, rfl, rfl, by omega, g.tab hD2 (Same.refl _) (by omega) ?_⟩⟩
      rw [c_divP, Int.fdiv_eq_ediv_of_nonneg _ (by omega)]
    intro H8 g8
    rw [pl_len] at g8
    have s8 := g8.same
    have eof : ofL ((List.range (P.len lack)).map (divP lack (t ^ j)).c) = divP lack (t ^ j) := ofL_Zc (fun k hk => by rw [c_divP, P.len_Z lack k hk]; exact Int.zero_ediv _)
    refine ⟨_, rfl, _, _, rfl, D2, _, t, rfl, rfl, g8.l, by omega, by rw [List.length_map, List.length_range]; omega, fun H9 aturn s9 tt => ?_⟩
    rw [eof] at tt
    have s59 := (s67.trans s8).trans s9
    have gr9 := gr.to s59
    have lturn := len_red t (divP lack (t ^ j))
    have lturn2 : P.len (divP lack (t ^ j)) ≤ P.len lack := P.len_min (fun k hk => by rw [c_divP, P.len_Z lack k hk]; exact Int.zero_ediv _)
    refine ⟨_, rfl, apt, _, rfl, gr9.same.seq hxs, for_at xs.length (fun i σ Hx => ∃ (l : List (P × P)) (yi : List V) (u5 u12 u13 u14 : Option V), σ = [some (.ref af), some (.int t), some (.ref apt), some (.int (e : Nat)), some (.int (t ^ e)), u5, some (.ref ag), some (.ref lk), some (.ref D), some (.int (t ^ j)), some (.ref al), some (.ref aturn), u12, u13, u14] ∧ Grow H' D yi Hx ∧ AtP K Hx ag goal ∧ Hx lk = some (.lst zs) ∧ All2 (PV K Hx) zs Ks ∧ AtP K Hx aturn (P.red t (divP lack (t ^ j))) ∧ All2 (PV K Hx) yi (l.map (fun x => P.red (t ^ e) (x.1 + P.K (t ^ j) * x.2)) ++ Gs.drop i) ∧ l.map Prod.fst = Gs.take i ∧ ∀ k x, l[k]? = some x → More t Gs (P.red t (divP lack (t ^ j))) k x) ⟨[], ys, _, _, _, _, rfl, gr9, tg.s s59, s59 _ _ dlk, hzs.imp fun v p h => h.s s59, tt, hys.imp fun v p h => h.s s59, rfl, fun k x h => by cases h⟩ ?_ ?_⟩
    · rintro i σ Hx hi ⟨l, yi, u5, u12, u13, u14, rfl, grx, tgx, dlx, hzx, ttx, hyx, el, hmo⟩
      have hx := List.getElem?_eq_getElem hi
      generalize xs[i] = x at hx
      obtain ⟨p, hpL, ⟨ap, rfl, hap⟩⟩ := hL.get hx
      have sq : SqL K Hx apt xs := grx.same.seq hxs
      obtain ⟨hgo, hy⟩ := enumL_go sq hx
      refine ⟨hgo, fun v Hy hv => ?_⟩
      obtain ⟨T2, rfl, hT2, rfl⟩ := hy _ _ hv
      have s2 := same_new (o := .tup [.int (i : Nat), .ref ap]) hT2
      have gry := grx.to s2
      obtain ⟨mon, l2, lp, rp⟩ := W.ps p (List.mem_of_getElem? hpL)
      have hiL : i < L.length := by omega
      obtain ⟨ka, hka⟩ : ∃ ka, Ks[i]? = some ka := ⟨_, List.getElem?_eq_getElem (by omega)⟩
      obtain ⟨G, hGi⟩ : ∃ G, Gs[i]? = some G := ⟨_, List.getElem?_eq_getElem (by omega)⟩
      obtain ⟨vk, hvk, ⟨ak, rfl, hak⟩⟩ := hzx.get' hka
      have ll : l.length = i := by
        have := congrArg List.length el
        rw [List.length_map, List.length_take] at this
        omega
      have edrop : Gs.drop i = G :: Gs.drop (i + 1) := by
        rw [List.drop_eq_getElem_cons (by omega)]
        congr 1
        rw [List.getElem?_eq_getElem (by omega)] at hGi
        exact Option.some.inj hGi
      have hFi : (l.map (fun x => P.red (t ^ e) (x.1 + P.K (t ^ j) * x.2)) ++ Gs.drop i)[i]? = some G := by
        rw [List.getElem?_append_right (by rw [List.length_map]; omega), List.length_map, ll, Nat.sub_self, edrop]
        rfl
      obtain ⟨vg, hvg, ⟨agk, rfl, hagk⟩⟩ := hyx.get' hFi
      have hKey := hKs i ka hka
      have lka : P.len ka ≤ 20 := by
        obtain ⟨p', e', _, l', _⟩ := hKey
        rw [hpL] at e'
        cases e'
        omega
      have rka : P.Rd t ka := by
        obtain ⟨p', e', r', _, _⟩ := hKey
        exact r'
      refine ⟨T2, _, rfl, tup_at (upd_same ..), rfl, _, _, rfl, _, _, rfl, rfl, ?_⟩
      refine ⟨_, rfl, _, rfl, _, rfl, lk, _, _, _, rfl, rfl, lst_at (s2 _ _ dlx), atI_ok (by omega) hvk, _, rfl, _, _, _, rfl, aturn, ak, _, ka, t, 17, 17, rfl, rfl, rfl, ttx.s s2, hak.s s2, by omega, by omega, by omega, Rd_bt (P.red_Rd (by omega) _) hbt, Rd_bt rka hbt, by omega, fun Ha pa sa ta => ?_⟩
      have lpr := len_red t (P.red t (divP lack (t ^ j)) * ka)
      have lpr2 := len_mul' (P.red t (divP lack (t ^ j))) ka
      have gra := gry.to sa
      refine ⟨_, rfl, _, rfl, _, _, _, rfl, pa, ap, _, p, t, 17, 17, 17, rfl, rfl, rfl, ta, hap.s gra.same, mon.ne, ht1, hbt, Rd_bt (P.red_Rd (by omega) _) hbt, Rd_bt rp hbt, by omega, by omega, by omega, mon_inv mon t, fun q more Dm Hb pb aq am sb tb tq tm => ?_⟩
      have hM := more_of (by omega) hG hGi hpL hKey Dm
      refine ⟨pb, _, _, _, rfl, rfl, tup_at tb, atI_ok (by decide) rfl, ?_⟩
      have grb := gra.to sb
      have s2b := (s2.trans sa).trans sb
      have lmore : P.len more < P.len p := Dm.lr
      have lft := (hG.get hGi)
      obtain ⟨p', hp', lft⟩ := lft
      rw [hpL] at hp'
      cases hp'
      have lGp := lft.len
      refine ⟨_, rfl, _, rfl, D, _, _, _, rfl, rfl, lst_at grb.d, atI_ok (by omega) hvg, _, rfl, _, rfl, _, _, rfl, am, more, t ^ j, 17, bl, rfl, rfl, tm, Rd_bt Dm.rr hbt, by omega, by omega, by omega, fun Hc pc sc tc => ?_⟩
      have lkm : P.len (P.K (t ^ j) * more) ≤ P.len more := P.len_min ((P.len_Z more).kmul _)
      refine ⟨_, rfl, _, _, _, rfl, agk, pc, G, _, t ^ e, rfl, rfl, rfl, (hagk.s s2b).s sc, tc, by omega, by omega, by omega, fun Hd pd sd td => ?_⟩
      have s2d := (s2b.trans sc).trans sd
      have grd := grx.to s2d
      have lyi := hyx.len
      rw [List.length_append, List.length_map, ll, List.length_drop] at lyi
      refine ⟨_, rfl, _, rfl, D, yi, _, i, rfl, rfl, grd.d, ixN_ok (by omega), l ++ [(G, more)], yi.set i (.ref pd), _, _, _, _, rfl, grd.set hD0, (tgx.s s2d).put grd.d, ?_, hzx.imp fun v p h => (h.s s2d).put grd.d, (ttx.s s2d).put grd.d, ?_, ?_, fun k x hk => ?_⟩
      · rw [upd_ne lkD]
        exact s2d _ _ dlx
      · have := (hyx.imp fun v p h => (PV.s h s2d).put grd.d (l' := yi.set i (.ref pd))).set i (⟨pd, rfl, td.put grd.d⟩ : PV K _ (.ref pd) (P.red (t ^ e) (G + P.K (t ^ j) * more)))
        have sm := set_mid (l.map (fun x => P.red (t ^ e) (x.1 + P.K (t ^ j) * x.2))) G (P.red (t ^ e) (G + P.K (t ^ j) * more)) (Gs.drop (i + 1))
        rw [List.length_map, ll] at sm
        rw [edrop, sm] at this
        rw [List.map_append, List.append_assoc]
        exact this
      · rw [List.map_append, el, List.take_succ, hGi]
        rfl
      · by_cases z : k < l.length
        · rw [List.getElem?_append_left z] at hk
          exact hmo k x hk
        · rw [List.getElem?_append_right (by omega)] at hk
          have : k - l.length = 0 := by
            have := (List.getElem?_eq_some_iff.mp hk).1
            simp at this
            omega
          rw [this] at hk
          cases hk
          have ek : k = i := by omega
          subst ek
          exact hM
    · rintro σ Hx ⟨l, yi, u5, u12, u13, u14, rfl, grx, tgx, dlx, hzx, ttx, hyx, el, hmo⟩
      refine ⟨enumL_stop (grx.same.seq hxs) rfl, ?_⟩
      rw [List.take_of_length_le (by omega)] at el
      rw [List.drop_of_length_le (by omega), List.append_nil] at hyx
      have tdj : t ∣ t ^ j := by
        have := pow_dvd' t j1
        rw [Int.pow_one] at this
        exact this
      have dj : t ^ j * t ∣ t ^ e := by
        rw [← Int.pow_succ]
        exact pow_dvd' t jlt
      have step := lift_all W.pt hla tdj dj (goal := goal) (l := l) hG (fun p hp => (W.ps p hp).1) W.fr el (by rw [elack]; exact hmo) mg (by rw [lg, W.ln]) hcg
      have hnew : All2 (Lft t (t ^ e)) (l.map (fun x => P.red (t ^ e) (x.1 + P.K (t ^ j) * x.2))) L := by
        rw [← el] at hG
        exact lft_list ht1 hla tdv tdj hG fun x hx => by
          obtain ⟨k, hk⟩ := List.getElem?_of_mem hx
          exact (hmo k x hk).2.1
      have hj1 : t ^ (j + 1) ≤ t ^ e := pow_le ht1 jlt
      refine ⟨_, rfl, _, rfl, _, _, rfl, rfl, mulOk (a := bl) (b := 17) (by omega) hbt (by omega), e - (j + 1), by omega, j + 1, _, yi, u5, some (.ref al), some (.ref aturn), u12, u13, u14, ?_, grx, tgx, dlx, hzx, hyx, hnew, ?_, by omega, jlt, rfl⟩
      · rw [Int.pow_succ]
        rfl
      · rw [Int.pow_succ]
        exact step
  · have c : ¬ t ^ j < t ^ e := fun z => c (decide_eq_true z)
    have ej : j = e := Classical.byContradiction fun z => c (pow_lt ht1 (by omega))
    subst ej
    refine ⟨_, rfl, go Gs hG ?_ _ D ys gr.same hD0 gr.d hys⟩
    refine (hcg.symm.mull (P.K (P.lc f))).trans ?_
    exact cg2.symm
end
end RH
/-! W20: primes, freeness, rows. -/
namespace RH
open PySem PySem.Spec PyProof.Rows L2 RC
theorem pr_not {n k : Int} (h : Pr n) (h2 : 2 ≤ k) (hk : k < n) (d : k ∣ n) : False := by
  obtain ⟨m, hm⟩ := d
  have hm0 : 0 < m := Classical.byContradiction fun z => by
    have : k * m ≤ k * 0 := Int.mul_le_mul_of_nonneg_left (by omega) (by omega)
    omega
  have hmn : m < n := by
    have : 2 * m ≤ k * m := Int.mul_le_mul_of_nonneg_right h2 (by omega)
    omega
  rcases h.2 k m ⟨1, by omega⟩ with d | d
  · have := Int.le_of_dvd (by omega) d
    omega
  · have := Int.le_of_dvd hm0 d
    omega
theorem pr_of {n : Int} (hn : 2 ≤ n) {k : Int} (h : ∀ d : Int, 2 ≤ d → d < k → ¬ d ∣ n) (hk : n < k * k) (k2 : 2 ≤ k) : Pr n := by
  refine Pr.mk (by omega) fun d h1 h2 hd => ?_
  by_cases c : d < k
  · exact h d (by omega) c hd
  · obtain ⟨e, he⟩ := hd
    have e1 : 1 < e := Classical.byContradiction fun z => by
      have : d * e ≤ d * 1 := Int.mul_le_mul_of_nonneg_left (by omega) (by omega)
      omega
    refine h e (by omega) (Classical.byContradiction fun z => ?_) ⟨d, by rw [he, Int.mul_comm]⟩
    have h3 : k * k ≤ d * k := Int.mul_le_mul_of_nonneg_right (by omega) (by omega)
    have h4 : d * k ≤ d * e := Int.mul_le_mul_of_nonneg_left (by omega) (by omega)
    omega
section
variable {Pg : Program} {w : World} {K : PySem.W.Frag} {mg : Str → Option Value} {base : Heap}
def sp_is_prime (K : PySem.W.Frag) : Sp := mk1 fun x H Q => ∃ n : Int, x = .int n ∧ 2 ≤ n ∧ n < 2 ^ 20 ∧ ∀ b : Bool, (b = true ↔ Pr n) → Q (.bl b) H
abbrev s_is_prime : Stmt := topS 46
abbrev N_is_prime : List Str := ["number", "k"]
theorem sc_is_prime : FnScope N_is_prime ["number"] (defScope s_is_prime) := ⟨rfl, rfl, rfl, by decide +kernel, rfl, by decide +kernel, by decide +kernel⟩
theorem ok_is_prime (A : At K mg "is_prime" s_is_prime) (T : Txt mg) : Dn Pg w K mg base "is_prime" 41 ["number"] (sp_is_prime K) := by
  refine mkDn A sc_is_prime (fun _ _ _ _ _ _ us hl => match us, hl with | [_], _ => rfl) (fun vs H Q E ⟨_, e, _⟩ => by rw [e]; rfl) fun f cdv A outer s H vs Q E hr h => ?_
  refine ⟨_, (pss_cons (ps_if (pt_cmpR op_lt (pv 0) pe_int (nomark _)) (pss_one (ps_ret pe_bl)) pss_nil)
      (pss_cons (ps_for PassesOwn.never rfl (pi_range2 (by rfl) T.range (pa_cons pe_int (pa_cons (pv 0) pa_nil))) (pg_name (i := 1) sc_is_prime.nd rfl (.inl rfl)) (pss_cons (ps_if (pt_cmpR op_gt (pe_op op_mulB (pv 1) (pv 1)) (pv 0) (nomark _)) (pss_one (ps_ret pe_bl)) pss_nil)
      (pss_one (ps_if (pt_cmpR op_eq (pe_op op_modN (pv 0) (pv 1)) pe_int (nomark _)) (pss_one (ps_ret pe_bl)) pss_nil))))
      (pss_one (ps_ret pe_bl)))), ?_⟩
  obtain ⟨v0, rfl, h⟩ := h
  obtain ⟨n, rfl, h2, hn, go⟩ := h
  refine ⟨_, rfl, _, _, rfl, rfl, _, rfl, ite2 (fun c => absurd (of_decide_eq_true c) (by omega)) fun _ => ?_⟩
  refine ⟨_, rfl, 2, n, rfl, ⟨by decide, by decide, by omega, by omega⟩, for_range (lo := 2) (n := (n - 2).toNat) (fun i σ H' => H' = H ∧ (∃ u : Option V, σ = [some (.int n), u]) ∧ ∀ d : Int, 2 ≤ d → d < 2 + i → ¬ d ∣ n) ⟨rfl, ⟨_, rfl⟩, fun d a b => by omega⟩ ?_ ?_⟩
  · rintro i σ H' hi ⟨rfl, ⟨u, rfl⟩, hd⟩
    refine ⟨_, rfl, _, rfl, _, _, rfl, rfl, mulOk (a := 21) (b := 21) (by omega) (by omega) (by decide), _, rfl, _, _, rfl, rfl, _, rfl, ite2 (fun c => ?_) fun c => ?_⟩
    · have c := of_decide_eq_true c
      exact go true ⟨fun _ => pr_of h2 hd c (by omega), fun _ => rfl⟩
    · refine ⟨_, rfl, _, rfl, _, _, rfl, rfl, by omega, rfl, _, rfl, ite2 (fun c2 => ?_) fun c2 => ?_⟩
      · have c2 := eqI.mp c2
        refine go false ⟨fun z => (by cases z), fun z => ?_⟩
        refine (pr_not z (show (2 : Int) ≤ 2 + i by omega) (by omega) ?_).elim
        rw [fmod_pos (by omega)] at c2
        exact Int.dvd_of_emod_eq_zero c2
      · have c2 : ¬ n.fmod (2 + (i : Int)) = 0 := fun z => c2 (eqI.mpr z)
        refine ⟨rfl, ⟨_, rfl⟩, fun d a b hdv => ?_⟩
        by_cases z : d = 2 + i
        · rw [z] at hdv
          rw [fmod_pos (by omega)] at c2
          exact c2 (Int.emod_eq_zero_of_dvd hdv)
        · exact hd d a (by omega) hdv
  · rintro σ H' ⟨rfl, ⟨u, rfl⟩, hd⟩
    refine go true ⟨fun _ => Pr.mk (by omega) fun d a b => hd d (by omega) (by omega), fun _ => rfl⟩
def sp_free_by (K : PySem.W.Frag) : Sp := mk2 fun x y H Q => ∃ (a : Addr) (f : P) (t : Int), x = .ref a ∧ y = .int t ∧ AtP K H a f ∧ f ≠ 0 ∧ P.len f ≤ 20 ∧ P.Rd t f ∧ Pr t ∧ t < 2 ^ 17 ∧ ∀ b : Bool, (b = true ↔ P.Cop t f (P.D f)) → ∀ H', Same H H' → Q (.bl b) H'
theorem gt_cop {t : Int} (ht : 1 < t) {f d : P} (G : Gt t f (P.red t (P.D f)) d) : P.len d = 1 ↔ P.Cop t f (P.D f) := by
  constructor
  · intro h
    have e := P.mon_len1 G.mon h
    obtain ⟨u, v, c⟩ := G.cb
    rw [e] at c
    exact ⟨u, v, (((P.Cg.refl t _).add ((P.red_Cg t _).symm.mull v))).trans c⟩
  · rintro ⟨u, v, c⟩
    have h2 : P.Dv t d (P.D f) := G.d2.cg (P.red_Cg t _)
    exact P.mon_one ht G.mon (((G.d1.mul u).add (h2.mul v)).cg c)
abbrev s_free_by : Stmt := topS 47
abbrev N_free_by : List Str := ["one", "t"]
theorem sc_free_by : FnScope N_free_by ["one", "t"] (defScope s_free_by) := ⟨rfl, rfl, rfl, by decide +kernel, rfl, by decide +kernel, by decide +kernel⟩
theorem ok_free_by (A : At K mg "free_by" s_free_by) (T : Txt mg) (d_degree : Dn Pg w K mg base "degree" 41 ["one"] (sp_degree K)) (d_m_shared : Dn Pg w K mg base "m_shared" 44 ["one", "other", "t"] (sp_m_shared K)) (d_by_numberT : Dn Pg w K mg base "by_number" 42 ["one", "m"] (sp_by_numberT K)) (d_derived : Dn Pg w K mg base "derived" 42 ["one"] (sp_derived K)) : Dn Pg w K mg base "free_by" 45 ["one", "t"] (sp_free_by K) := by
  refine mkDn A sc_free_by (fun _ _ _ _ _ _ us hl => match us, hl with | [_, _], _ => rfl) (fun vs H Q E ⟨_, _, e, _⟩ => by rw [e]; rfl) fun f cdv A outer s H vs Q E hr h => ?_
  refine ⟨_, (pss_one (ps_ret (pe_and (pe_cmpR (op_neDK (K := K) hr.units) (pv 0) (pe_tup pa_nil) (nomark _)) (pe_one (pe_cmpR op_eq (pe_own d_degree (hr.mono (by decide)) (by rfl) (pa_cons (pe_own d_m_shared (hr.mono (by decide)) (by rfl) (pa_cons (pv 0) (pa_cons (pe_own d_by_numberT (hr.mono (by decide)) (by rfl) (pa_cons (pe_own d_derived (hr.mono (by decide)) (by rfl) (pa_cons (pv 0) pa_nil)) (pa_cons (pv 1) pa_nil))) (pa_cons (pv 1) pa_nil)))) pa_nil)) pe_int (nomark _)))))), ?_⟩
  obtain ⟨v0, v1, rfl, h⟩ := h
  obtain ⟨a, f, t, rfl, rfl, hf, f0, lf, rf, pt, ht, go⟩ := h
  have ht1 := pt.1
  have hb : t.natAbs < 2 ^ 17 := by omega
  refine ⟨_, rfl, sz0, fun p hp => neD_0 hf hp fun bb' hbb => ?_⟩
  have s1 := same_new (o := .tup []) hp
  refine ⟨bb', rfl, ite2 (fun c => ?_) fun c => absurd (hbb.mpr f0) c⟩
  refine ⟨_, rfl, _, rfl, _, rfl, a, f, 17, rfl, hf.s s1, by omega, Rd_bt rf hb, by decide, fun H2 p2 s2 t2 => ?_⟩
  have lD := len_D f
  refine ⟨_, rfl, _, _, rfl, p2, _, t, rfl, rfl, t2, by omega, by omega, fun H3 p3 s3 t3 => ?_⟩
  have lr := len_red t (P.D f)
  refine ⟨_, rfl, _, _, _, rfl, a, p3, f, _, t, 17, rfl, rfl, rfl, hf.s ((s1.trans s2).trans s3), t3, f0, pt, hb, by decide, rf, P.red_Rd (by omega) _, by omega, by omega, fun d G H4 p4 s4 t4 => ?_⟩
  refine ⟨_, rfl, p4, d, rfl, t4, rfl, go _ ?_ _ (((s1.trans s2).trans s3).trans s4)⟩
  rw [← gt_cop ht1 G]
  refine ⟨fun h => ?_, fun h => ?_⟩
  · have := eqI.mp h
    omega
  · refine eqI.mpr ?_
    omega
/-! ### rows -/
/-- a new list of numbers -/
def giveL (f : Nat → Int) (n : Nat) (H : Hp) (Q : VK) : Prop := ∀ H' p, Same H H' → H p = none → H' p = some (.lst (tab f n)) → Q (.ref p) H'
def sp_without_row (K : PySem.W.Frag) : Sp := mk4 fun x y z u H Q => ∃ (a b : Addr) (r o : Nat → Int) (n : Nat) (phi t : Int), x = .ref a ∧ y = .int phi ∧ z = .ref b ∧ u = .int t ∧ H a = some (.lst (tab r n)) ∧ H b = some (.lst (tab o n)) ∧ n ≤ 1000 ∧ 1 < t ∧ phi.natAbs < 2 ^ 100 ∧ (∀ k, k < n → (o k).natAbs < 2 ^ 100) ∧ giveL (fun k => (r k - phi * o k) % t) n H Q
abbrev s_without_row : Stmt := topS 49
abbrev N_without_row : List Str := ["row", "factor", "other", "t", "k"]
theorem sc_without_row : FnScope N_without_row ["row", "factor", "other", "t"] (defScope s_without_row) := ⟨rfl, rfl, rfl, by decide +kernel, rfl, by decide +kernel, by decide +kernel⟩
theorem ok_without_row (A : At K mg "without_row" s_without_row) (T : Txt mg) : Dn Pg w K mg base "without_row" 41 ["row", "factor", "other", "t"] (sp_without_row K) := by
  refine mkDn A sc_without_row (fun _ _ _ _ _ _ us hl => match us, hl with | [_, _, _, _], _ => rfl) (fun vs H Q E ⟨_, _, _, _, e, _⟩ => by rw [e]; rfl) fun f cdv A outer s H vs Q E hr h => ?_
  refine ⟨_, (pss_one (ps_ret (pe_lc (own := [("k", 4)]) (g := gName 4) (tt := tYes) (by rfl) sc_without_row.nd (pi_range1 (by rfl) T.range (pa_cons (pe_callB (call_lenK (K := K)) (by rfl) T.len PySem.boot_len (pa_cons (pv 0) pa_nil)) pa_nil)) (blkOk_by (N := N_without_row) (sc := defScope s_without_row) (by decide +kernel)) (fun _ _ _ _ _ => (pg_name (i := 4) sc_without_row.nd rfl (.inl rfl))) (fun _ _ _ _ _ => pts_nil) (fun _ _ _ _ _ => (pe_op op_modN (pe_op op_sub (pe_ix (ix_listK (K := K)) (pv 0) (pv 4) (fun _ _ => rfl)) (pe_op op_mulB (pv 1) (pe_ix (ix_listK (K := K)) (pv 2) (pv 4) (fun _ _ => rfl)))) (pv 3)))))), ?_⟩
  obtain ⟨v0, v1, v2, v3, rfl, h⟩ := h
  obtain ⟨a, b, r, o, n, phi, t, rfl, rfl, rfl, rfl, ha, hb, hn, ht, hphi, ho, go⟩ := h
  refine ⟨_, rfl, a, _, rfl, .inl (lst_at ha), ?_⟩
  rw [tab_len]
  refine ⟨n, rfl, by omega, by omega, fun D hD => lc_range (lo := 0) (n := n) (fun i H' => Grow H D (tab (fun k => (r k - phi * o k) % t) i) H') (.new hD) ?_ ?_⟩
  · intro i H' hi gr
    have e0 : (0 : Int) + (i : Nat) = (i : Nat) := by omega
    have e1 : ((0 : Int) + (i : Nat)).toNat = i := by omega
    refine ⟨rfl, itT ⟨_, rfl, _, rfl, a, _, _, _, rfl, rfl, lst_at (gr.same _ _ ha), atI_ok (by omega) (by rw [e1]; exact tab_get hi), _, rfl, _, rfl, _, rfl, b, _, _, _, rfl, rfl, lst_at (gr.same _ _ hb), atI_ok (by omega) (by rw [e1]; exact tab_get hi), _, _, rfl, rfl, mulOk hphi (ho i hi) (by decide), _, _, rfl, rfl, _, rfl, _, _, rfl, rfl, by omega, gr.tab hD (Same.refl _) (by omega) ?_⟩⟩
    rw [fmod_pos (by omega)]
  · intro H' gr
    exact go _ D gr.same hD gr.d
def sp_unit_of (K : PySem.W.Frag) : Sp := mk3 fun x y z H Q => ∃ (a : Addr) (r : Nat → Int) (n j : Nat) (t : Int), x = .ref a ∧ y = .int (j : Nat) ∧ z = .int t ∧ H a = some (.lst (tab r n)) ∧ n ≤ 1000 ∧ j < n ∧ 1 < t ∧ t < 2 ^ 20 ∧ (∀ k, k < n → (r k).natAbs < 2 ^ 100) ∧ (∃ u, t ∣ r j * u - 1) ∧ ∀ u, t ∣ r j * u - 1 → giveL (fun k => r k * u % t) n H Q
abbrev s_unit_of : Stmt := topS 50
abbrev N_unit_of : List Str := ["row", "at", "t", "factor", "weight"]
theorem sc_unit_of : FnScope N_unit_of ["row", "at", "t"] (defScope s_unit_of) := ⟨rfl, rfl, rfl, by decide +kernel, rfl, by decide +kernel, by decide +kernel⟩
theorem ok_unit_of (A : At K mg "unit_of" s_unit_of) (T : Txt mg) (d_inverse_by : Dn Pg w K mg base "inverse_by" 41 ["number", "m"] (sp_inverse_by K)) : Dn Pg w K mg base "unit_of" 42 ["row", "at", "t"] (sp_unit_of K) := by
  refine mkDn A sc_unit_of (fun _ _ _ _ _ _ us hl => match us, hl with | [_, _, _], _ => rfl) (fun vs H Q E ⟨_, _, _, e, _⟩ => by rw [e]; rfl) fun f cdv A outer s H vs Q E hr h => ?_
  refine ⟨_, (pss_cons (ps_set (i := 3) sc_unit_of.nd rfl (.inr rfl) (pe_own d_inverse_by (hr.mono (by decide)) (by rfl) (pa_cons (pe_ix (ix_listK (K := K)) (pv 0) (pv 1) (fun _ _ => rfl)) (pa_cons (pv 2) pa_nil))))
      (pss_one (ps_ret (pe_lc (own := [("weight", 4)]) (g := gName 4) (tt := tYes) (by rfl) sc_unit_of.nd (pi_listK (K := K) (pv 0)) (blkOk_by (N := N_unit_of) (sc := defScope s_unit_of) (by decide +kernel)) (fun _ _ _ _ _ => (pg_name (i := 4) sc_unit_of.nd rfl (.inl rfl))) (fun _ _ _ _ _ => pts_nil) (fun _ _ _ _ _ => (pe_op op_modN (pe_op op_mulB (pv 4) (pv 3)) (pv 2))))))), ?_⟩
  obtain ⟨v0, v1, v2, rfl, h⟩ := h
  obtain ⟨a, r, n, j, t, rfl, rfl, rfl, ha, hn, hj, ht, ht2, hrb, hu, go⟩ := h
  refine ⟨_, rfl, _, rfl, a, _, _, _, rfl, rfl, lst_at ha, atI_ok (by omega) (tab_get (k := j) hj), _, rfl, _, _, rfl, r j, t, 20, rfl, rfl, ht, by omega, by decide, hu, fun u u0 u1 u2 H1 s1 => ?_⟩
  have ha1 := s1 _ _ ha
  refine ⟨_, rfl, a, rfl, ⟨_, lst_at ha1⟩, fun D hD => lc_list (xs := tab r n) (fun i H' => Grow H1 D (tab (fun k => r k * u % t) i) H') (.new hD) (fun i H' _ g => g.same.seq (lst_at ha1)) ?_ ?_⟩
  · intro i x H' hx gr
    have hi : i < n := by
      have := (List.getElem?_eq_some_iff.mp hx).1
      rwa [tab_len] at this
    rw [tab_get hi] at hx
    cases hx
    refine ⟨rfl, itT ⟨_, rfl, _, rfl, _, _, rfl, rfl, mulOk (b := 20) (hrb i hi) (by omega) (by decide), _, rfl, _, _, rfl, rfl, by omega, gr.tab hD (Same.refl _) (by omega) ?_⟩⟩
    rw [fmod_pos (by omega)]
  · intro H' gr
    rw [tab_len] at gr
    exact go u u2 _ D (s1.trans gr.same) (none_same s1 hD) gr.d
end
end RH
/-! W21: rows that are fixed. -/
namespace RH
open PySem PySem.Spec PyProof.Rows L2 RC
/-- v is a list of the first n weights of f -/
def RowN (n : Nat) (H : Hp) (v : V) (f : P) : Prop := ∃ a, v = .ref a ∧ H a = some (.lst (tab f.c n))
theorem RowN.s {n : Nat} {H H' : Hp} {v : V} {f : P} (h : RowN n H v f) (e : Same H H') : RowN n H' v f := let ⟨a, x, y⟩ := h; ⟨a, x, e _ _ y⟩
/-- .. not at D -/
def RowD (n : Nat) (D : Addr) (H : Hp) (v : V) (f : P) : Prop := ∃ a, v = .ref a ∧ a ≠ D ∧ H a = some (.lst (tab f.c n))
theorem RowD.s {n : Nat} {D : Addr} {H H' : Hp} {v : V} {f : P} (h : RowD n D H v f) (e : Same H H') : RowD n D H' v f := let ⟨a, x, z, y⟩ := h; ⟨a, x, z, e _ _ y⟩
theorem RowD.put {n : Nat} {D : Addr} {H : Hp} {v : V} {f : P} {o : HO} (h : RowD n D H v f) : RowD n D (upd H D o) v f := let ⟨a, x, z, y⟩ := h; ⟨a, x, z, by rw [upd_ne z]; exact y⟩
theorem RowD.n {n : Nat} {D : Addr} {H : Hp} {v : V} {f : P} (h : RowD n D H v f) : RowN n H v f := let ⟨a, x, z, y⟩ := h; ⟨a, x, y⟩
theorem RowN.d {n : Nat} {D : Addr} {H : Hp} {v : V} {f : P} (h : RowN n H v f) (hD : H D = none) : RowD n D H v f := let ⟨a, x, y⟩ := h; ⟨a, x, fun z => (by rw [z, hD] at y; cases y), y⟩
/-- the row of the k-th power -/
def rowP (h : P) (k : Nat) (t : Int) : P := ⟨fun i => if i = k then (h.c k - 1) % t else h.c i, max (P.len h) (k + 1), fun i hi => by
  rw [if_neg (by omega)]
  exact P.len_Z h i (by omega)⟩
theorem c_rowP (h : P) (k : Nat) (t : Int) (i : Nat) : (rowP h k t).c i = if i = k then (h.c k - 1) % t else h.c i := rfl
structure Fx (t : Nat) (w : P) (n k : Nat) (R : P) : Prop where
  rd : P.Rd (t : Int) R
  z : P.Z R n
  d : P.Dv (t : Int) w (R - (P.X ^ (t * k) - P.X ^ k))
theorem fx_of {t : Nat} (ht : 1 < (t : Int)) {w h : P} {n k : Nat} (hk : k < n) (rh : P.Rd (t : Int) h) (zh : P.Z h n) (dh : Dq (t : Int) w h (P.X ^ (t * k))) : Fx t w n k (rowP h k t) := by
  refine ⟨fun i => ?_, fun i hi => ?_, ?_⟩
  · rw [c_rowP]
    split
    · exact ⟨Int.emod_nonneg _ (by omega), Int.emod_lt_of_pos _ (by omega)⟩
    · exact rh i
  · rw [c_rowP, if_neg (by omega)]
    exact zh i hi
  · have e : P.Cg (t : Int) (rowP h k t) (h - P.X ^ k) := P.Cg.iff.mpr fun i => by
      rw [c_rowP, P.c_sub, P.X_pow, P.c_mon]
      by_cases c : i = k
      · rw [if_pos c, if_pos c, c]
        exact ⟨-((h.c k - 1) / t), by rw [Int.emod_def]; grind⟩
      · rw [if_neg c, if_neg c]
        exact ⟨0, by omega⟩
    have := (Dq.of (g := w) e).trans (dh.sub (Dq.refl (t : Int) w (P.X ^ k)))
    exact this
theorem len_X : P.len P.X = 2 := P.len_is (n := 1) P.X_Z (by rw [P.c_X]; decide)
theorem pl_X : pl P.X = [.int 0, .int 1] := by
  unfold pl cf
  rw [len_X]
  rfl
theorem at_X {K : PySem.W.Frag} {H : Hp} {p : Addr} (h : H p = some (.tup [.int 0, .int 1])) : AtP K H p P.X := by unfold AtP; rw [pl_X]; exact tup_at h
theorem tab_pad {h : P} {n : Nat} (l : P.len h ≤ n) : pl h ++ (List.replicate (n - P.len h) [V.int 0]).flatten = tab h.c n := by
  rw [rep_tab, pl_tab]
  refine List.ext_getElem? fun k => ?_
  by_cases c : k < n
  · rw [tab_get c]
    by_cases z : k < P.len h
    · rw [List.getElem?_append_left (by rw [tab_len]; exact z), tab_get z]
    · rw [List.getElem?_append_right (by rw [tab_len]; omega), tab_len, tab_get (by omega), P.len_Z h k (by omega)]
  · rw [List.getElem?_eq_none (by rw [List.length_append, tab_len, tab_len]; omega), List.getElem?_eq_none (by rw [tab_len]; omega)]
section
variable {Pg : Program} {w : World} {K : PySem.W.Frag} {mg : Str → Option Value} {base : Heap}
def sp_fixed_rows (K : PySem.W.Frag) : Sp := mk2 fun x y H Q => ∃ (a : Addr) (g : P) (n t : Nat), x = .ref a ∧ y = .int (t : Nat) ∧ AtP K H a g ∧ P.Mon g ∧ P.Rd (t : Int) g ∧ P.len g = n + 1 ∧ 1 ≤ n ∧ n ≤ 19 ∧ Pr (t : Int) ∧ t < 2 ^ 17 ∧ ∀ Rs : List P, Rs.length = n → (∀ k R, Rs[k]? = some R → Fx t g n k R) → ∀ H' l xs, Same H H' → H l = none → H' l = some (.lst xs) → All2 (RowN n H') xs Rs → Q (.ref l) H'
abbrev s_fixed_rows : Stmt := topS 48
abbrev N_fixed_rows : List Str := ["one", "t", "many", "step", "found", "here", "k", "row"]
theorem sc_fixed_rows : FnScope N_fixed_rows ["one", "t"] (defScope s_fixed_rows) := ⟨rfl, rfl, rfl, by decide +kernel, rfl, by decide +kernel, by decide +kernel⟩
theorem ok_fixed_rows (A : At K mg "fixed_rows" s_fixed_rows) (T : Txt mg) (d_degree : Dn Pg w K mg base "degree" 41 ["one"] (sp_degree K)) (d_m_power : Dn Pg w K mg base "m_power" 44 ["one", "many", "by", "m"] (sp_m_power K)) (d_m_parted : Dn Pg w K mg base "m_parted" 43 ["one", "other", "m"] (sp_m_parted K)) (d_m_times : Dn Pg w K mg base "m_times" 43 ["one", "other", "m"] (sp_m_times K)) : Dn Pg w K mg base "fixed_rows" 45 ["one", "t"] (sp_fixed_rows K) := by
  refine mkDn A sc_fixed_rows (fun _ _ _ _ _ _ us hl => match us, hl with | [_, _], _ => rfl) (fun vs H Q E ⟨_, _, e, _⟩ => by rw [e]; rfl) fun f cdv A outer s H vs Q E hr h => ?_
  refine ⟨_, (pss_cons (ps_set (i := 2) sc_fixed_rows.nd rfl (.inl rfl) (pe_own d_degree (hr.mono (by decide)) (by rfl) (pa_cons (pv 0) pa_nil)))
      (pss_cons (ps_set (i := 3) sc_fixed_rows.nd rfl (.inl rfl) (pe_own d_m_power (hr.mono (by decide)) (by rfl) (pa_cons (pe_tup (pa_cons pe_int (pa_cons pe_int pa_nil))) (pa_cons (pv 1) (pa_cons (pv 0) (pa_cons (pv 1) pa_nil))))))
      (pss_cons (ps_set (i := 4) sc_fixed_rows.nd rfl (.inl rfl) (pe_lst pa_nil))
      (pss_cons (ps_set (i := 5) sc_fixed_rows.nd rfl (.inl rfl) (pe_tup (pa_cons pe_int pa_nil)))
      (pss_cons (ps_for PassesOwn.never rfl (pi_range1 (by rfl) T.range (pa_cons (pv 2) pa_nil)) (pg_name (i := 6) sc_fixed_rows.nd rfl (.inl rfl)) (pss_cons (ps_set (i := 7) sc_fixed_rows.nd rfl (.inl rfl) (pe_op op_cat (pe_callTy (call_lstK (K := K)) (by rfl) T.list (by decide +kernel) (pa_cons (pv 5) pa_nil)) (pe_op op_rep (pe_lst (pa_cons pe_int pa_nil)) (pe_op op_sub (pv 2) (pe_callB (call_lenK (K := K)) (by rfl) T.len PySem.boot_len (pa_cons (pv 5) pa_nil))))))
      (pss_cons (ps_asg (pe_op op_modN (pe_op op_sub (pe_ix (ix_listK (K := K)) (pv 7) (pv 6) (fun _ _ => rfl)) pe_int) (pv 1)) (pg_sub (pv 7) (pv 6) set_list))
      (pss_cons (ps_expr (pe_bm PySem.F.plainAttrs_list PySem.F.slot_list_append PySem.F.type_list_append mt_append (pv 4) (pa_cons (pv 7) pa_nil)))
      (pss_one (ps_set (i := 5) sc_fixed_rows.nd rfl (.inl rfl) (pe_ix (ix_tupK (K := K)) (pe_own d_m_parted (hr.mono (by decide)) (by rfl) (pa_cons (pe_own d_m_times (hr.mono (by decide)) (by rfl) (pa_cons (pv 5) (pa_cons (pv 3) (pa_cons (pv 1) pa_nil)))) (pa_cons (pv 0) (pa_cons (pv 1) pa_nil)))) pe_int (fun _ _ => rfl))))))))
      (pss_one (ps_ret (pv 4)))))))), ?_⟩
  obtain ⟨v0, v1, rfl, h⟩ := h
  obtain ⟨a, g, n, t, rfl, rfl, hg, mon, rg, ln, n1, n19, pt, htb, go⟩ := h
  have ht1 := pt.1
  have hb : ((t : Nat) : Int).natAbs < 2 ^ 17 := by omega
  refine ⟨_, rfl, _, rfl, a, g, rfl, hg, ?_⟩
  have en : ((P.len g : Nat) : Int) - 1 = (n : Nat) := by omega
  rw [en]
  refine ⟨sz2, fun p1 hp1 => ?_⟩
  have s1 := same_new (o := .tup [.int 0, .int 1]) hp1
  refine ⟨_, rfl, _, rfl, _, rfl, _, _, _, _, rfl, p1, a, P.X, g, t, (t : Nat), 1, 17, 17, rfl, rfl, rfl, rfl, at_X (upd_same ..), hg.s s1, mon, by omega, by omega, by rw [len_X]; omega, ht1, hb, fun k => ?_, Rd_bt rg hb, by decide, fun st rst lst dst H2 p2 s2 t2 => ?_⟩
  · rw [P.c_X]; split <;> decide
  have s12 := s1.trans s2
  refine ⟨sz0, fun D hD => ?_⟩
  have hD0 := none_same s12 hD
  have sD := same_new (o := .lst []) hD
  refine ⟨sz1, fun p3 hp3 => ?_⟩
  have s3 := same_new (o := .tup [.int 1]) hp3
  have sD3 := sD.trans s3
  have g0 : Grow H D [] (upd (upd H2 D (.lst [])) p3 (.tup [.int 1])) := ⟨s12.trans sD3, s3 _ _ (upd_same ..)⟩
  refine ⟨_, rfl, n, rfl, by omega, by omega, for_range (lo := 0) (n := n) (fun i σ H' => ∃ (h : P) (xs : List V) (Rs : List P) (ah : Addr) (u6 u7 : Option V), σ = [some (.ref a), some (.int (t : Nat)), some (.int (n : Nat)), some (.ref p2), some (.ref D), some (.ref ah), u6, u7] ∧ Grow H D xs H' ∧ AtP K H' ah h ∧ AtP K H' p2 st ∧ P.Rd (t : Int) h ∧ P.len h ≤ n ∧ Dq (t : Int) g h (P.X ^ (t * i)) ∧ Rs.length = i ∧ All2 (RowD n D H') xs Rs ∧ ∀ k R, Rs[k]? = some R → Fx t g n k R) ⟨1, [], [], p3, _, _, rfl, g0, at_1 (upd_same ..), t2.s sD3, P.Rd.one ht1, by rw [P.len_1]; exact n1, by rw [Nat.mul_zero]; exact Dq.refl .., rfl, .nil, fun k R h => by cases h⟩ ?_ ?_⟩
  · rintro i σ H' hi ⟨h, xs, Rs, ah, u6, u7, rfl, gr, hh, hst, rh, lh, dh, lR, hxs, hR⟩
    have zh : P.Z h n := P.len_iff.mp lh
    refine ⟨_, rfl, ah, _, rfl, .inr hh, fun q1 hq1 => ?_⟩
    have a1 := same_new (o := .lst (pl h)) hq1
    refine ⟨sz1, fun q2 hq2 => ?_⟩
    have a2 := same_new (o := .lst [.int 0]) hq2
    refine ⟨_, rfl, _, rfl, ah, _, rfl, .inr (hh.s (a1.trans a2)), _, _, rfl, rfl, ?_⟩
    rw [pl_len]
    refine ⟨q2, _, _, rfl, rfl, upd_same .., by omega, by omega, ?_, fun q3 hq3 => ?_⟩
    · show 1 * _ ≤ sizeLine
      have : sizeLine = 16777216 := by decide
      omega
    have a3 := same_new (o := .lst (List.replicate (((n : Nat) : Int) - (P.len h : Nat)).toNat [V.int 0]).flatten) hq3
    refine ⟨q1, q3, _, _, rfl, rfl, (a2.trans a3) _ _ (upd_same ..), upd_same .., ?_, fun q4 hq4 => ?_⟩
    · rw [pl_len, rep_tab, tab_len]
      have : sizeLine = 16777216 := by decide
      omega
    have etn : (((n : Nat) : Int) - (P.len h : Nat)).toNat = n - P.len h := by omega
    rw [etn] at hq4 ⊢
    rw [etn] at a3
    rw [tab_pad lh]
    have a4 := same_new (o := .lst (tab h.c n)) hq4
    have a14 := ((a1.trans a2).trans a3).trans a4
    have hq40 := none_same ((a1.trans a2).trans a3) hq4
    have e0 : (0 : Int) + (i : Nat) = (i : Nat) := by omega
    rw [e0]
    refine ⟨_, rfl, _, rfl, q4, _, _, _, rfl, rfl, lst_at (upd_same ..), atI_ok (by omega) (tab_get (k := i) hi), _, _, rfl, rfl, _, rfl, _, _, rfl, rfl, by omega, ?_⟩
    refine ⟨_, rfl, _, rfl, q4, _, _, i, rfl, rfl, upd_same .., by rw [tab_len]; exact ixN_ok hi, ?_⟩
    have eset : (tab h.c n).set i (.int ((h.c i - 1).fmod (t : Int))) = tab (rowP h i t).c n := tab_set (fun k hk => by rw [c_rowP, if_neg hk]) (by rw [c_rowP, if_pos rfl, fmod_pos (by omega)])
    have a5 : ∀ X : Hp, Same H' X → Same H' (upd X q4 (.lst ((tab h.c n).set i (.int ((h.c i - 1).fmod (t : Int)))))) := fun X s => s.put hq40
    have a15 := a5 _ a14
    have gr5 := gr.to a15
    have hq4D : q4 ≠ D := fun z => by
      rw [z, gr.d] at hq40
      cases hq40
    refine ⟨_, rfl, .inl ⟨rfl, _, lst_at gr5.d⟩, _, rfl, D, xs, _, rfl, rfl, gr5.d, ?_, ?_⟩
    · have := hxs.len
      have : sizeLine = 16777216 := by decide
      omega
    have gr6 := gr5.set hD0 (l' := xs ++ [.ref q4])
    have hrow : RowD n D (upd (upd (upd (upd (upd (upd H' q1 (.lst (pl h))) q2 (.lst [.int 0])) q3 (.lst (List.replicate (n - P.len h) [V.int 0]).flatten)) q4 (.lst (tab h.c n))) q4 (.lst ((tab h.c n).set i (.int ((h.c i - 1).fmod (t : Int)))))) D (.lst (xs ++ [.ref q4]))) (.ref q4) (rowP h i t) := by
      refine ⟨q4, rfl, hq4D, ?_⟩
      rw [upd_ne hq4D, upd_same, eset]
    have hxs6 : All2 (RowD n D (upd (upd (upd (upd (upd (upd H' q1 (.lst (pl h))) q2 (.lst [.int 0])) q3 (.lst (List.replicate (n - P.len h) [V.int 0]).flatten)) q4 (.lst (tab h.c n))) q4 (.lst ((tab h.c n).set i (.int ((h.c i - 1).fmod (t : Int)))))) D (.lst (xs ++ [.ref q4])))) (xs ++ [.ref q4]) (Rs ++ [rowP h i t]) := (hxs.imp fun v p h => (h.s a15).put).append (.cons hrow .nil)
    have hh6 := (hh.s a15).put gr5.d (l' := xs ++ [.ref q4])
    have hst6 := (hst.s a15).put gr5.d (l' := xs ++ [.ref q4])
    have hg6 := hg.s gr6.same
    refine ⟨_, rfl, _, rfl, _, rfl, _, _, _, rfl, ah, p2, h, st, t, 17, 17, rfl, rfl, rfl, hh6, hst6, by omega, by omega, by omega, Rd_bt rh hb, Rd_bt rst hb, by decide, fun H7 p7 s7 t7 => ?_⟩
    have l7 := len_red (t : Int) (h * st)
    have l8 := len_mul' h st
    refine ⟨_, rfl, _, rfl, _, _, _, rfl, p7, a, _, g, t, 17, 17, 17, rfl, rfl, rfl, t7, hg6.s s7, mon.ne, ht1, hb, Rd_bt (P.red_Rd (by omega) _) hb, Rd_bt rg hb, by decide, by omega, by omega, mon_inv mon _, fun q r D8 H8 p8 a8 b8 s8 t8 ta8 tb8 => ?_⟩
    have lr8 := D8.lr
    refine ⟨p8, _, _, _, rfl, rfl, tup_at t8, atI_ok (by decide) rfl, r, _, Rs ++ [rowP h i t], b8, _, _, rfl, gr6.to (s7.trans s8), tb8, hst6.s (s7.trans s8), D8.rr, by omega, ?_, by rw [List.length_append, lR]; rfl, hxs6.imp fun v p h => h.s (s7.trans s8), fun k R hk => ?_⟩
    · have d1 : Dq (t : Int) g r (h * st) := D8.dq.symm.trans (Dq.of (P.red_Cg _ _))
      refine d1.trans ((dh.mul dst).trans ?_)
      rw [Nat.mul_succ, P.pow_add']
      exact Dq.refl ..
    · by_cases z : k < Rs.length
      · rw [List.getElem?_append_left z] at hk
        exact hR k R hk
      · rw [List.getElem?_append_right (by omega)] at hk
        have : k - Rs.length = 0 := by
          have := (List.getElem?_eq_some_iff.mp hk).1
          simp at this
          omega
        rw [this] at hk
        cases hk
        have ek : k = i := by omega
        subst ek
        exact fx_of ht1 hi rh zh dh
  · rintro σ H' ⟨h, xs, Rs, ah, u6, u7, rfl, gr, hh, hst, rh, lh, dh, lR, hxs, hR⟩
    exact ⟨_, rfl, go Rs lR hR _ D xs gr.same hD0 gr.d (hxs.imp fun v p h => h.n)⟩
end
end RH
/-! W22: sums that come to nought. -/
namespace RH
open PySem PySem.Spec PyProof.Rows L2 RC
/-- a pair of lists -/
def PR (n : Nat) (D : Addr) (K : PySem.W.Frag) (H : Hp) (v : V) (x : P × P) : Prop := ∃ t a b, v = .ref t ∧ SqT K H t [.ref a, .ref b] ∧ a ≠ D ∧ b ≠ D ∧ H a = some (.lst (tab x.1.c n)) ∧ H b = some (.lst (tab x.2.c n))
theorem PR.s {n : Nat} {D : Addr} {K : PySem.W.Frag} {H H' : Hp} {v : V} {x : P × P} (h : PR n D K H v x) (e : Same H H') : PR n D K H' v x := let ⟨t, a, b, ev, ht, na, nb, ha, hb⟩ := h; ⟨t, a, b, ev, Same.t e ht, na, nb, e _ _ ha, e _ _ hb⟩
theorem PR.put {n : Nat} {D : Addr} {K : PySem.W.Frag} {H : Hp} {v : V} {x : P × P} {l l' : List V} (h : PR n D K H v x) (d : H D = some (.lst l)) : PR n D K (upd H D (.lst l')) v x := let ⟨t, a, b, ev, ht, na, nb, ha, hb⟩ := h; ⟨t, a, b, ev, sqT_put d ht, na, nb, by rw [upd_ne na]; exact ha, by rw [upd_ne nb]; exact hb⟩
theorem PR.other {n : Nat} {D D' : Addr} {K : PySem.W.Frag} {H : Hp} {v : V} {x : P × P} (h : PR n D K H v x) (d : H D' = none) : PR n D' K H v x := let ⟨t, a, b, ev, ht, na, nb, ha, hb⟩ := h; ⟨t, a, b, ev, ht, fun z => (by rw [z, d] at ha; cases ha), fun z => (by rw [z, d] at hb; cases hb), ha, hb⟩
/-- a row without another -/
def cl (n : Nat) (t : Int) (f q : P) (phi u : Int) : P := ⟨fun k => if k < n then (f.c k - phi * (q.c k * u % t)) % t else 0, n, fun k h => if_neg (by omega)⟩
theorem c_cl (n : Nat) (t : Int) (f q : P) (phi u : Int) (k : Nat) : (cl n t f q phi u).c k = if k < n then (f.c k - phi * (q.c k * u % t)) % t else 0 := rfl
theorem cl_cg {n : Nat} {t : Int} {f q : P} {phi u : Int} (zf : P.Z f n) (zq : P.Z q n) : P.Cg t (cl n t f q phi u) (f - P.K (phi * u) * q) := P.Cg.iff.mpr fun k => by
  rw [c_cl, P.c_sub, P.K_mul]
  by_cases c : k < n
  · rw [if_pos c]
    refine ⟨phi * (q.c k * u / t) - (f.c k - phi * (q.c k * u % t)) / t, ?_⟩
    rw [Int.emod_def (f.c k - phi * (q.c k * u % t)) t, Int.emod_def (q.c k * u) t]
    grind
  · rw [if_neg c, zf k (by omega), zq k (by omega)]
    exact ⟨0, by omega⟩
theorem cl_rd {n : Nat} {t : Int} (ht : 0 < t) (f q : P) (phi u : Int) : P.Rd t (cl n t f q phi u) ∧ P.Z (cl n t f q phi u) n := by
  refine ⟨fun k => ?_, fun k h => if_neg (by omega)⟩
  rw [c_cl]
  split
  · exact ⟨Int.emod_nonneg _ (by omega), Int.emod_lt_of_pos _ ht⟩
  · omega
theorem cl_0 {n : Nat} {t : Int} {f q : P} {u : Int} {a : Nat} (ha : a < n) (hu : t ∣ q.c a * u - 1) : t ∣ (cl n t f q (f.c a) u).c a := by
  rw [c_cl, if_pos ha]
  refine Int.dvd_of_emod_eq_zero ?_
  rw [Int.emod_emod]
  refine Int.emod_eq_zero_of_dvd ?_
  obtain ⟨z, hz⟩ := hu
  exact ⟨f.c a * (q.c a * u / t) - f.c a * z, by rw [Int.emod_def]; grind⟩
/-- one behind the other -/
def cat (f g : Nat → Int) (n : Nat) : Nat → Int := fun k => if k < n then f k else g (k - n)
theorem tab_cat (f g : Nat → Int) (n : Nat) : tab f n ++ tab g n = tab (cat f g n) (n + n) := List.ext_getElem? fun k => by
  by_cases c : k < n + n
  · rw [tab_get c]
    unfold cat
    by_cases d : k < n
    · rw [List.getElem?_append_left (by rw [tab_len]; exact d), tab_get d, if_pos d]
    · rw [List.getElem?_append_right (by rw [tab_len]; omega), tab_len, tab_get (by omega), if_neg d]
  · rw [List.getElem?_eq_none (by rw [List.length_append, tab_len, tab_len]; omega), List.getElem?_eq_none (by rw [tab_len]; omega)]
theorem tab_take (h : Nat → Int) (n m : Nat) : (tab h (n + m)).take n = tab h n := List.ext_getElem? fun k => by
  rw [List.getElem?_take]
  by_cases c : k < n
  · rw [if_pos c, tab_get c, tab_get (by omega)]
  · rw [if_neg c, List.getElem?_eq_none (by rw [tab_len]; omega)]
theorem tab_drop (h : Nat → Int) (n m : Nat) : (tab h (n + m)).drop n = tab (fun k => h (n + k)) m := List.ext_getElem? fun k => by
  rw [List.getElem?_drop]
  by_cases c : k < m
  · rw [tab_get c, tab_get (by omega)]
  · rw [List.getElem?_eq_none (by rw [tab_len]; omega), List.getElem?_eq_none (by rw [tab_len]; omega)]
/-- what the sums are -/
structure NSo (t : Int) (n : Nat) (R : Nat → P) (Ss : List P) : Prop where
  ok : ∀ S ∈ Ss, P.Rd t S ∧ P.Z S n ∧ P.Cg t (P.Lam n R S) 0
  sp : ∀ V, P.Z V n → P.Cg t (P.Lam n R V) 0 → P.Span t Ss V
  ln : Ss.length ≤ n
structure PrO (t : Int) (n : Nat) (x : P × P) : Prop where
  r1 : P.Rd t x.1
  r2 : P.Rd t x.2
  z1 : P.Z x.1 n
  z2 : P.Z x.2 n
theorem nso_of {t : Int} {n : Nat} {R : Nat → P} {l : List (P × P)} (h : P.NS t n R n l) (hl : ∀ x ∈ l, PrO t n x) (ln : l.length ≤ n) : NSo t n R (l.map Prod.snd) := by
  refine ⟨fun S hS => ?_, fun V hV hz => h.span V hV fun k _ => ?_, by rw [List.length_map]; exact ln⟩
  · obtain ⟨x, hx, rfl⟩ := List.mem_map.mp hS
    have o := hl x hx
    refine ⟨o.r2, o.z2, (h.rel x hx).symm.trans (P.Cg.iff.mpr fun k => ?_)⟩
    rw [P.c_0, Int.sub_zero]
    by_cases c : k < n
    · exact h.zero x hx k c
    · rw [o.z1 k (by omega)]
      exact Int.dvd_zero t
  · have := P.Cg.iff.mp hz k
    rwa [P.c_0, Int.sub_zero] at this
section
variable {K : PySem.W.Frag}
theorem Dp.ints {H : Hp} {a : Addr} {ns : List Int} (h : H a = some (.lst (ns.map V.int))) : Dp K H (.ref a) (.list (ns.map .int)) := .lst (lst_at h) (dp_ints ns)
/-- xs != [] -/
theorem neD_L {H : Hp} {a p : Addr} {ns : List Int} {Q : VK} (h : H a = some (.lst (ns.map V.int))) (hp : H p = none) (q : ∀ b : Bool, (b = true ↔ ns ≠ []) → Q (.bl b) (upd H p (.lst []))) : rNeD K (.ref a) (.ref p) (upd H p (.lst [])) Q := by
  refine ⟨_, _, Dp.ints (same_new hp _ _ h), Dp.ints (ns := []) (upd_same ..), PySem.W.shaped_ints ns, PySem.W.shaped_ints [], q _ ?_⟩
  have e : (PyData.list (ns.map PyData.int)).eqv (.list (List.map PyData.int [])) = decide (ns = []) := by
    unfold PyData.eqv
    exact PySem.W.ked_eqvAll _ _
  rw [e]
  by_cases c : ns = []
  · rw [decide_eq_true c]; exact ⟨fun z => (by cases z), fun z => absurd c z⟩
  · rw [decide_eq_false c]; exact ⟨fun _ => c, fun _ => rfl⟩
theorem upd_same1 (H : Hp) (p : Addr) (o : HO) : upd H p o p = some o := upd_same ..
theorem seqIx {j n : Nat} (h : j < n) : PySem.seqIndex? (j : Int) n = some j := by
  unfold PySem.seqIndex?
  have e : (if (j : Int) < 0 then (j : Int) + n else j) = j := if_neg (by omega)
  show (if (decide (0 ≤ (if (j : Int) < 0 then (j : Int) + n else j)) && decide ((if (j : Int) < 0 then (j : Int) + n else j) < n)) = true then some (if (j : Int) < 0 then (j : Int) + n else j).toNat else none) = some j
  rw [e, if_pos (by rw [decide_eq_true (by omega), decide_eq_true (by omega)]; rfl)]
  rfl
end
section
variable {Pg : Program} {w : World} {K : PySem.W.Frag} {mg : Str → Option Value} {base : Heap}
def sp_nought_sums (K : PySem.W.Frag) : Sp := mk2 fun x y H Q => ∃ (a : Addr) (xs : List V) (Rs : List P) (n : Nat) (t : Int), x = .ref a ∧ y = .int t ∧ H a = some (.lst xs) ∧ All2 (RowN n H) xs Rs ∧ Rs.length = n ∧ n ≤ 20 ∧ (∀ R ∈ Rs, P.Rd t R ∧ P.Z R n) ∧ Pr t ∧ t < 2 ^ 17 ∧ ∀ Ss, NSo t n (fun k => Rs.getD k 0) Ss → ∀ H' l ys, Same H H' → H l = none → H' l = some (.lst ys) → All2 (RowN n H') ys Ss → Q (.ref l) H'
abbrev s_nought_sums : Stmt := topS 51
abbrev N_nought_sums : List Str := ["rows", "t", "left", "k", "row", "j", "at", "having", "pair", "first", "both", "found", "sums", "cleared"]
theorem sc_nought_sums : FnScope N_nought_sums ["rows", "t"] (defScope s_nought_sums) := ⟨rfl, rfl, rfl, by decide +kernel, rfl, by decide +kernel, by decide +kernel⟩
theorem ok_nought_sums (A : At K mg "nought_sums" s_nought_sums) (T : Txt mg) (d_unit_of : Dn Pg w K mg base "unit_of" 42 ["row", "at", "t"] (sp_unit_of K)) (d_without_row : Dn Pg w K mg base "without_row" 41 ["row", "factor", "other", "t"] (sp_without_row K)) : Dn Pg w K mg base "nought_sums" 43 ["rows", "t"] (sp_nought_sums K) := by
  refine mkDn A sc_nought_sums (fun _ _ _ _ _ _ us hl => match us, hl with | [_, _], _ => rfl) (fun vs H Q E ⟨_, _, e, _⟩ => by rw [e]; rfl) fun f cdv A outer s H vs Q E hr h => ?_
  refine ⟨_, (pss_cons (ps_setLc (i := 2) (own := [("k", 3), ("row", 4)]) (tt := tYes) (by rfl) sc_nought_sums.nd rfl rfl (sw_true rfl rfl rfl (by decide +kernel)) (pi_enumK (K := K) (by rfl) T.enumerate (pa_cons (pv 0) pa_nil)) (blkOk_by (N := N_nought_sums) (sc := defScope s_nought_sums) (by decide +kernel)) (fun _ _ _ _ _ => (pg_tupK (K := K) (n := 2) rfl (pgs_cons (pg_name (i := 3) sc_nought_sums.nd rfl (.inr rfl)) (pgs_cons (pg_name (i := 4) sc_nought_sums.nd rfl (.inl rfl)) pgs_nil)))) (fun _ _ _ _ _ => pts_nil) (fun _ _ _ _ _ => (pe_tup (pa_cons (pv 4) (pa_cons (pe_lc (own := [("j", 5)]) (g := gName 5) (tt := tYes) (by rfl) sc_nought_sums.nd (pi_range1 (by rfl) T.range (pa_cons (pe_callB (call_lenK (K := K)) (by rfl) T.len PySem.boot_len (pa_cons (pv 0) pa_nil)) pa_nil)) (blkOk_by (N := N_nought_sums) (by rfl)) (fun _ _ _ _ _ => (pg_name (i := 5) sc_nought_sums.nd rfl (.inl rfl))) (fun _ _ _ _ _ => pts_nil) (fun _ _ _ _ _ => (pe_callTy call_int1 (by rfl) T.int (by decide +kernel) (pa_cons (pe_cmpR op_eq (pv 5) (pv 3) (nomark _)) pa_nil)))) pa_nil)))))
      (pss_cons (ps_for PassesOwn.never rfl (pi_range1 (by rfl) T.range (pa_cons (pe_callB (call_lenK (K := K)) (by rfl) T.len PySem.boot_len (pa_cons (pv 0) pa_nil)) pa_nil)) (pg_name (i := 6) sc_nought_sums.nd rfl (.inr rfl)) (pss_cons (ps_setLc (i := 7) (own := [("k", 3), ("pair", 8)]) (by rfl) sc_nought_sums.nd rfl rfl (sw_true rfl rfl rfl (by decide +kernel)) (pi_enumK (K := K) (by rfl) T.enumerate (pa_cons (pv 2) pa_nil)) (blkOk_by (N := N_nought_sums) (sc := defScope s_nought_sums) (by decide +kernel)) (fun _ _ _ _ _ => (pg_tupK (K := K) (n := 2) rfl (pgs_cons (pg_name (i := 3) sc_nought_sums.nd rfl (.inl rfl)) (pgs_cons (pg_name (i := 8) sc_nought_sums.nd rfl (.inl rfl)) pgs_nil)))) (fun _ _ _ _ _ => (pts_one (pt_cmpR op_ne (pe_ix (ix_listK (K := K)) (pe_ix (ix_tupK (K := K)) (pv 8) pe_int (fun _ _ => rfl)) (pv 6) (fun _ _ => rfl)) pe_int (nomark _)))) (fun _ _ _ _ _ => (pv 3)))
      (pss_one (ps_if (pt_cmpR (op_neDK (K := K) hr.units) (pv 7) (pe_lst pa_nil) (nomark _)) (pss_cons (ps_set (i := 9) sc_nought_sums.nd rfl (.inl rfl) (pe_bm PySem.F.plainAttrs_list PySem.F.slot_list_pop PySem.F.type_list_pop mt_popAt (pv 2) (pa_cons (pe_ix (ix_listK (K := K)) (pv 7) pe_int (fun _ _ => rfl)) pa_nil)))
      (pss_cons (ps_set (i := 10) sc_nought_sums.nd rfl (.inl rfl) (pe_own d_unit_of (hr.mono (by decide)) (by rfl) (pa_cons (pe_op op_cat (pe_ix (ix_tupK (K := K)) (pv 9) pe_int (fun _ _ => rfl)) (pe_ix (ix_tupK (K := K)) (pv 9) pe_int (fun _ _ => rfl))) (pa_cons (pv 6) (pa_cons (pv 1) pa_nil)))))
      (pss_cons (ps_set (i := 11) sc_nought_sums.nd rfl (.inl rfl) (pe_lst pa_nil))
      (pss_cons (ps_for PassesOwn.never rfl (pi_listK (K := K) (pv 2)) (pg_tupK (K := K) (n := 2) rfl (pgs_cons (pg_name (i := 4) sc_nought_sums.nd rfl (.inl rfl)) (pgs_cons (pg_name (i := 12) sc_nought_sums.nd rfl (.inl rfl)) pgs_nil))) (pss_cons (ps_set (i := 13) sc_nought_sums.nd rfl (.inl rfl) (pe_own d_without_row (hr.mono (by decide)) (by rfl) (pa_cons (pe_op op_cat (pv 4) (pv 12)) (pa_cons (pe_ix (ix_listK (K := K)) (pv 4) (pv 6) (fun _ _ => rfl)) (pa_cons (pv 10) (pa_cons (pv 1) pa_nil))))))
      (pss_one (ps_expr (pe_bm PySem.F.plainAttrs_list PySem.F.slot_list_append PySem.F.type_list_append mt_append (pv 11) (pa_cons (pe_tup (pa_cons (pe_slice (sl_listK (K := K)) (pv 13) po_none (po_some (pe_callB (call_lenK (K := K)) (by rfl) T.len PySem.boot_len (pa_cons (pv 4) pa_nil)))) (pa_cons (pe_slice (sl_listK (K := K)) (pv 13) (po_some (pe_callB (call_lenK (K := K)) (by rfl) T.len PySem.boot_len (pa_cons (pv 4) pa_nil))) po_none) pa_nil))) pa_nil))))))
      (pss_one (ps_set (i := 2) sc_nought_sums.nd rfl (.inl rfl) (pv 11))))))) pss_nil))))
      (pss_one (ps_ret (pe_lc (own := [("row", 4), ("sums", 12)]) (tt := tYes) (by rfl) sc_nought_sums.nd (pi_listK (K := K) (pv 2)) (blkOk_by (N := N_nought_sums) (sc := defScope s_nought_sums) (by decide +kernel)) (fun _ _ _ _ _ => (pg_tupK (K := K) (n := 2) rfl (pgs_cons (pg_name (i := 4) sc_nought_sums.nd rfl (.inl rfl)) (pgs_cons (pg_name (i := 12) sc_nought_sums.nd rfl (.inl rfl)) pgs_nil)))) (fun _ _ _ _ _ => pts_nil) (fun _ _ _ _ _ => (pv 12))))))), ?_⟩
  obtain ⟨v0, v1, rfl, h⟩ := h
  obtain ⟨a, xs, Rs, n, t, rfl, rfl, ha, hxs, lR, n20, hR, pt, htb, go⟩ := h
  have ht1 := pt.1
  have hb : t.natAbs < 2 ^ 17 := by omega
  have lx : xs.length = n := by rw [hxs.len, lR]
  have szl : sizeLine = 16777216 := by decide
  have rgd : ∀ k, k < n → Rs[k]? = some (Rs.getD k 0) := fun k hk => by rw [List.getD_eq_getElem?_getD, List.getElem?_eq_getElem (by omega)]; rfl
  generalize eR : (fun k => Rs.getD k 0) = R at go
  have rgd : ∀ k, k < n → Rs[k]? = some (R k) := fun k hk => by rw [← eR]; exact rgd k hk
  have oR : ∀ k, k < n → P.Rd t (R k) ∧ P.Z (R k) n := fun k hk => hR _ (List.mem_of_getElem? (rgd k hk))
  refine ⟨_, rfl, a, _, rfl, lst_at ha, fun D hD => lc_at (xs.length) (fun i H' => ∃ ws, Grow H D ws H' ∧ All2 (PR n D K H') ws ((List.range i).map fun k => (R k, P.mon 1 k))) ⟨[], .new hD, .nil⟩ ?_ ?_⟩
  · rintro i H' hi ⟨ws, gr, hws⟩
    have hin : i < n := by omega
    have hx := List.getElem?_eq_getElem hi
    generalize xs[i] = x at hx
    obtain ⟨p, hpL, ⟨ap, rfl, hap⟩⟩ := hxs.get hx
    rw [rgd i hin] at hpL
    cases hpL
    have sq : SqL K H' a xs := lst_at (gr.same _ _ ha)
    obtain ⟨hgo, hy⟩ := enumL_go sq hx
    refine ⟨hgo, fun v H2 hv => ?_⟩
    obtain ⟨T2, rfl, hT2, rfl⟩ := hy _ _ hv
    have s2 := same_new (o := .tup [.int (i : Nat), .ref ap]) hT2
    have gr2 := gr.to s2
    refine ⟨T2, _, rfl, tup_at (upd_same ..), rfl, _, _, rfl, _, _, rfl, rfl, rfl, itT ?_⟩
    refine ⟨_, rfl, _, rfl, a, _, rfl, .inl (lst_at (gr2.same _ _ ha)), ?_⟩
    rw [lx]
    refine ⟨n, rfl, by omega, by omega, fun D2 hD2 => lc_range (lo := 0) (n := n) (fun j H3 => Grow (upd H' T2 (.tup [.int (i : Nat), .ref ap])) D2 (tab (P.mon 1 i).c j) H3) (.new hD2) ?_ ?_⟩
    · intro j H3 hj g3
      refine ⟨rfl, itT ⟨_, rfl, _, rfl, rfl, .inr ⟨_, rfl, g3.tab hD2 (Same.refl _) (by omega) ?_⟩⟩⟩
      rw [P.c_mon]
      by_cases c : j = i
      · rw [if_pos c, if_pos (eqI.mpr (by omega))]
      · rw [if_neg c, if_neg fun z => c (by have := eqI.mp z; omega)]
    · intro H3 g3
      refine ⟨sz2, fun p4 hp4 => ?_⟩
      have s4 := same_new (o := .tup [.ref ap, .ref D2]) hp4
      have gr4 := (gr2.to g3.same).to s4
      have hD2D : D2 ≠ D := fun z => by rw [z, gr2.d] at hD2; cases hD2
      have hapD : ap ≠ D := fun z => by rw [z, hD] at hap; cases hap
      refine ⟨ws, gr4.d, ?_, ws ++ [.ref p4], gr4.set hD, ?_⟩
      · have := hws.len
        rw [List.length_map, List.length_range] at this
        omega
      · rw [List.range_succ, List.map_append]
        refine (hws.imp fun v x h => (((h.s s2).s g3.same).s s4).put gr4.d).append (.cons ⟨p4, ap, D2, rfl, sqT_put gr4.d (tup_at (upd_same ..)), hapD, hD2D, ?_, ?_⟩ .nil)
        · rw [upd_ne hapD]
          exact gr4.same _ _ hap
        · rw [upd_ne hD2D]
          exact s4 _ _ g3.d
  · rintro H' ⟨ws, gr, hws⟩
    refine ⟨enumL_stop (lst_at (gr.same _ _ ha)) rfl, ?_⟩
    rw [lx] at hws
    refine ⟨_, rfl, a, _, rfl, .inl (lst_at (gr.same _ _ ha)), ?_⟩
    rw [lx]
    refine ⟨n, rfl, by omega, by omega, for_range (lo := 0) (n := n) (fun i σ Hx => ∃ (l : List (P × P)) (ws : List V) (Dl : Addr) (u4 u6 u7 u9 u10 u11 u12 u13 : Option V), σ = [some (.ref a), some (.int t), some (.ref Dl), none, u4, none, u6, u7, none, u9, u10, u11, u12, u13] ∧ H Dl = none ∧ Grow H Dl ws Hx ∧ All2 (PR n Dl K Hx) ws l ∧ l.length ≤ n ∧ (∀ x ∈ l, PrO t n x) ∧ P.NS t n R i l) ⟨_, ws, D, _, _, _, _, _, _, _, _, rfl, hD, gr, hws, ?_, ?_, P.NS.start⟩ ?_ ?_⟩
    · rw [List.length_map, List.length_range]; exact Nat.le_refl _
    · intro x hx
      obtain ⟨k, hk, rfl⟩ := List.mem_map.mp hx
      have hk := List.mem_range.mp hk
      exact ⟨(oR k hk).1, fun j => by rw [P.c_mon]; split <;> omega, (oR k hk).2, (P.mon_Z 1 k).mono (by omega)⟩
    · rintro i σ Hx hi ⟨l, ws, Dl, u4, u6, u7, u9, u10, u11, u12, u13, rfl, hDl, gr, hws, ll, hl, ns⟩
      have lw := hws.len
      have e0 : (0 : Int) + (i : Nat) = (i : Nat) := by omega
      rw [e0]
      refine ⟨_, rfl, Dl, _, rfl, lst_at gr.d, fun Dh hDh => lc_at ws.length (fun j H2 => ∃ hs : List Nat, Grow Hx Dh ((hs.map fun k => ((k : Nat) : Int)).map V.int) H2 ∧ hs.length ≤ j ∧ (∀ h ∈ hs, ∃ x, l[h]? = some x ∧ x.1.c i ≠ 0) ∧ ∀ h x, h < j → l[h]? = some x → x.1.c i ≠ 0 → hs ≠ []) ⟨[], .new hDh, Nat.le_refl _, fun h q => absurd q (List.not_mem_nil), fun h x q => absurd q (by omega)⟩ ?_ ?_⟩
      · rintro j H2 hj ⟨hs, gr2, lh, h1, h2⟩
        have hv := List.getElem?_eq_getElem hj
        generalize ws[j] = v at hv
        obtain ⟨x, hx, hpr⟩ := hws.get hv
        have hpr2 := hpr.s gr2.same
        obtain ⟨tp, ar, br, rfl, htp, na, nb, har, hbr⟩ := hpr2
        have sq : SqL K H2 Dl ws := lst_at (gr2.same _ _ gr.d)
        obtain ⟨hgo, hy⟩ := enumL_go sq hv
        refine ⟨hgo, fun v3 H3 hv3 => ?_⟩
        obtain ⟨T2, rfl, hT2, rfl⟩ := hy _ _ hv3
        have s3 := same_new (o := .tup [.int (j : Nat), .ref tp]) hT2
        have gr3 := gr2.to s3
        refine ⟨T2, _, rfl, tup_at (upd_same ..), rfl, _, _, rfl, _, _, rfl, rfl, rfl, ?_⟩
        refine ⟨_, rfl, tp, _, _, _, rfl, rfl, Same.t s3 htp, atI_ok (by decide) rfl, _, rfl, ar, _, _, _, rfl, rfl, lst_at (s3 _ _ har), atI_ok (by omega) (tab_get (k := i) hi), rfl, _, rfl, ite2 (fun c => ?_) fun c => ?_⟩
        · have c := neI.mp c
          refine ⟨_, rfl, _, gr3.d, ?_, hs ++ [j], ?_, ?_, fun h q => ?_, fun h x' q q2 q3 z => by simp at z⟩
          · rw [List.length_map, List.length_map]; omega
          · have := gr3.set hDh (l' := (hs.map fun k => ((k : Nat) : Int)).map V.int ++ [V.int (j : Nat)])
            rw [List.map_append, List.map_append]
            exact this
          · rw [List.length_append, List.length_singleton]; omega
          · rcases List.mem_append.mp q with q | q
            · exact h1 h q
            · rw [List.mem_singleton] at q
              rw [q]
              exact ⟨x, hx, c⟩
        · have c : x.1.c i = 0 := Classical.byContradiction fun z => c (neI.mpr z)
          refine ⟨hs, gr3, by omega, h1, fun h x' q q2 q3 => ?_⟩
          by_cases z : h = j
          · rw [z, hx] at q2
            cases q2
            exact absurd c q3
          · exact h2 h x' (by omega) q2 q3
      · rintro H2 ⟨hs, gr2, lh, h1, h2⟩
        refine ⟨enumL_stop (lst_at (gr2.same _ _ gr.d)) rfl, ?_⟩
        have grx := gr.to gr2.same
        refine ⟨_, rfl, sz0, fun p5 hp5 => neD_L gr2.d hp5 fun bb' hbb => ⟨bb', rfl, ite2 (fun c => ?_) fun c => ?_⟩⟩
        · have c := hbb.mp c
          have s5 := same_new (o := .lst []) hp5
          obtain ⟨j, hs', rfl⟩ : ∃ j hs', hs = j :: hs' := by
            cases hs with
            | nil => exact absurd rfl c
            | cons j hs' => exact ⟨j, hs', rfl⟩
          obtain ⟨p, hpj, hpne⟩ := h1 j (by simp)
          have hjl : j < l.length := (List.getElem?_eq_some_iff.mp hpj).1
          have gr6 := grx.to s5
          have hws6 := hws.imp fun v x h => (h.s gr2.same).s s5
          obtain ⟨vp, hvp, ⟨tp, ar, br, rfl, htp, na, nb, har, hbr⟩⟩ := hws6.get' hpj
          refine ⟨_, rfl, .inl ⟨rfl, _, lst_at gr6.d⟩, _, rfl, Dh, _, _, _, rfl, rfl, lst_at (s5 _ _ gr2.d), atI_ok (by decide) rfl, ?_⟩
          refine ⟨Dl, ws, (j : Nat), j, _, rfl, rfl, gr6.d, by omega, by omega, seqIx (by omega), hvp, ?_⟩
          have hwe : All2 (PR n Dl K (upd (upd H2 p5 (.lst [])) Dl (.lst (ws.eraseIdx j)))) (ws.eraseIdx j) (l.take j ++ l.drop (j + 1)) := by
            rw [List.eraseIdx_eq_take_drop_succ]
            exact ((hws6.take j).append (hws6.drop (j + 1))).imp fun v x h => h.put gr6.d
          have gr7 := gr6.set hDl (l' := ws.eraseIdx j)
          have htp7 := sqT_put (l' := ws.eraseIdx j) gr6.d htp
          have har7 : (upd (upd H2 p5 (.lst [])) Dl (.lst (ws.eraseIdx j))) ar = some (.lst (tab p.1.c n)) := by rw [upd_ne na]; exact har
          have hbr7 : (upd (upd H2 p5 (.lst [])) Dl (.lst (ws.eraseIdx j))) br = some (.lst (tab p.2.c n)) := by rw [upd_ne nb]; exact hbr
          generalize upd (upd H2 p5 (.lst [])) Dl (.lst (ws.eraseIdx j)) = H7 at hwe gr7 htp7 har7 hbr7 ⊢
          have op := hl p (List.mem_of_getElem? hpj)
          refine ⟨_, rfl, tp, _, _, _, rfl, rfl, htp7, atI_ok (by decide) rfl, _, rfl, tp, _, _, _, rfl, rfl, htp7, atI_ok (by decide) rfl, ar, br, _, _, rfl, rfl, har7, hbr7, by rw [tab_len, tab_len]; omega, fun p8 hp8 => ?_⟩
          rw [tab_cat]
          have s8 := same_new (o := .lst (tab (cat p.1.c p.2.c n) (n + n))) hp8
          have bc : ∀ k, (cat p.1.c p.2.c n k).natAbs < 2 ^ 100 := fun k => by
            unfold cat
            have h17 : (2 : Nat) ^ 17 < 2 ^ 100 := by decide
            split
            · have := op.r1 k; omega
            · have := op.r2 (k - n); omega
          have eci : cat p.1.c p.2.c n i = p.1.c i := if_pos hi
          have hinv : ∃ u, t ∣ cat p.1.c p.2.c n i * u - 1 := by
            rw [eci]
            refine pt.inv fun d => ?_
            have h3 := op.r1 i
            have := Int.le_of_dvd (by omega) d
            omega
          refine ⟨_, rfl, _, rfl, _, _, _, rfl, p8, _, n + n, i, t, rfl, rfl, rfl, upd_same .., by omega, by omega, ht1, by omega, fun k _ => bc k, hinv, fun u hu H9 bo s9 n9 d9 => ?_⟩
          rw [eci] at hu
          have gr9 := (gr7.to s8).to s9
          have hwe9 := hwe.imp fun v x h => (h.s s8).s s9
          refine ⟨sz0, fun D3 hD3 => ?_⟩
          have s10 := same_new (o := .lst []) hD3
          have hD30 := none_same gr9.same hD3
          have ne3 : Dl ≠ D3 := fun z => by rw [← z, gr9.d] at hD3; cases hD3
          have nb3 : bo ≠ D3 := fun z => by rw [z, hD3] at d9; cases d9
          have g20 : Grow2 H Dl D3 (ws.eraseIdx j) [] (upd H9 D3 (.lst [])) := ⟨gr9.same.put hD30, s10 _ _ gr9.d, upd_same ..⟩
          generalize elr : l.take j ++ l.drop (j + 1) = lr at hwe hwe9
          have lwe : (ws.eraseIdx j).length = lr.length := hwe.len
          have llr : lr.length < l.length := by
            rw [← elr, List.length_append, List.length_take, List.length_drop]
            omega
          have hlr : ∀ x ∈ lr, PrO t n x := fun x hx => hl x (by
            rw [← elr] at hx
            rcases List.mem_append.mp hx with hx | hx
            · exact List.mem_of_mem_take hx
            · exact List.mem_of_mem_drop hx)
          refine ⟨_, rfl, Dl, rfl, ⟨_, lst_at g20.d1⟩, for_list (xs := ws.eraseIdx j) (fun k σ Hy => ∃ (ys : List V) (u4 u12 u13 : Option V), σ = [some (.ref a), some (.int t), some (.ref Dl), none, u4, none, some (.int (i : Nat)), some (.ref Dh), none, some (.ref tp), some (.ref bo), some (.ref D3), u12, u13] ∧ Grow2 H Dl D3 (ws.eraseIdx j) ys Hy ∧ All2 (PR n D3 K Hy) (ws.eraseIdx j) lr ∧ Hy bo = some (.lst (tab (fun k => cat p.1.c p.2.c n k * u % t) (n + n))) ∧ All2 (PR n D3 K Hy) ys ((lr.take k).map fun x => (cl n t x.1 p.1 (x.1.c i) u, cl n t x.2 p.2 (x.1.c i) u))) ⟨[], _, _, _, rfl, g20, hwe9.imp fun v x h => (h.other hD3).s s10, s10 _ _ d9, .nil⟩ (fun k σ Hy _ h => by obtain ⟨ys, _, _, _, _, g, _⟩ := h; exact lst_at g.d1) ?_ ?_⟩
          · rintro k v σ Hy hv ⟨ys, u4, u12, u13, rfl, g2, hwy, hbo, hys⟩
            obtain ⟨x, hx, ⟨t2, a2, b2, rfl, ht2, na2, nb2, ha2, hb2⟩⟩ := hwy.get hv
            have ox := hlr x (List.mem_of_getElem? hx)
            have hkl : k < lr.length := (List.getElem?_eq_some_iff.mp hx).1
            refine ⟨t2, _, rfl, ht2, rfl, _, _, rfl, _, _, rfl, rfl, ?_⟩
            refine ⟨_, rfl, _, rfl, a2, b2, _, _, rfl, rfl, ha2, hb2, by rw [tab_len, tab_len]; omega, fun p11 hp11 => ?_⟩
            rw [tab_cat]
            have s11 := same_new (o := .lst (tab (cat x.1.c x.2.c n) (n + n))) hp11
            refine ⟨_, rfl, _, rfl, a2, _, _, _, rfl, rfl, lst_at (s11 _ _ ha2), atI_ok (by omega) (tab_get (k := i) hi), _, rfl, _, rfl, _, _, _, _, rfl, p11, bo, cat x.1.c x.2.c n, fun k => cat p.1.c p.2.c n k * u % t, n + n, x.1.c i, t, rfl, rfl, rfl, rfl, upd_same .., s11 _ _ hbo, by omega, ht1, ?_, fun k _ => ?_, fun H12 p12 s12 n12 d12 => ?_⟩
            · have := ox.r1 i
              have h17 : (2 : Nat) ^ 17 < 2 ^ 100 := by decide
              omega
            · have h1 := Int.emod_nonneg (cat p.1.c p.2.c n k * u) (show t ≠ 0 by omega)
              have h2 := Int.emod_lt_of_pos (cat p.1.c p.2.c n k * u) (show 0 < t by omega)
              have h17 : (2 : Nat) ^ 17 < 2 ^ 100 := by decide
              show (cat p.1.c p.2.c n k * u % t).natAbs < 2 ^ 100
              omega
            have s112 := s11.trans s12
            have g12 := g2.to s112
            refine ⟨_, rfl, .inl ⟨rfl, _, lst_at g12.d2⟩, ?_⟩
            refine ⟨_, rfl, _, rfl, a2, _, rfl, .inl (lst_at (s112 _ _ ha2)), ?_⟩
            rw [tab_len]
            refine ⟨(n : Nat), rfl, p12, _, rfl, lst_at d12, fun p13 hp13 => ?_⟩
            rw [cutV_to (by rw [tab_len]; omega), tab_take]
            have s13 := same_new (o := .lst (tab (fun k => (cat x.1.c x.2.c n k - x.1.c i * (cat p.1.c p.2.c n k * u % t)) % t) n)) hp13
            refine ⟨_, rfl, _, rfl, a2, _, rfl, .inl (lst_at (s13 _ _ (s112 _ _ ha2))), ?_⟩
            rw [tab_len]
            refine ⟨(n : Nat), rfl, p12, _, rfl, lst_at (s13 _ _ d12), fun p14 hp14 => ?_⟩
            rw [cutV_from (by rw [tab_len]; omega), tab_drop]
            have s14 := same_new (o := .lst (tab (fun k => (cat x.1.c x.2.c n (n + k) - x.1.c i * (cat p.1.c p.2.c n (n + k) * u % t)) % t) n)) hp14
            refine ⟨sz2, fun p15 hp15 => ?_⟩
            have s15 := same_new (o := .tup [.ref p13, .ref p14]) hp15
            have g13 := g12.to s13
            have g14 := g13.to s14
            have g15 := g14.to s15
            have n13 : p13 ≠ D3 := fun z => by rw [z, g12.d2] at hp13; cases hp13
            have n14 : p14 ≠ D3 := fun z => by rw [z, g13.d2] at hp14; cases hp14
            have n13l : p13 ≠ Dl := fun z => by rw [z, g12.d1] at hp13; cases hp13
            have sAll := (((s112.trans s13).trans s14).trans s15)
            have hp13v := s15 _ _ (s14 _ _ (upd_same1 H12 p13 (.lst (tab (fun k => (cat x.1.c x.2.c n k - x.1.c i * (cat p.1.c p.2.c n k * u % t)) % t) n))))
            have hp14v := s15 _ _ (upd_same1 (upd H12 p13 (.lst (tab (fun k => (cat x.1.c x.2.c n k - x.1.c i * (cat p.1.c p.2.c n k * u % t)) % t) n))) p14 (.lst (tab (fun k => (cat x.1.c x.2.c n (n + k) - x.1.c i * (cat p.1.c p.2.c n (n + k) * u % t)) % t) n)))
            refine ⟨D3, ys, _, rfl, rfl, g15.d2, ?_, ys ++ [.ref p15], _, _, _, rfl, g15.set2 hD30 ne3, ?_, ?_, ?_⟩
            · have := hys.len
              rw [List.length_map, List.length_take] at this
              omega
            · exact hwy.imp fun v x h => (h.s sAll).put g15.d2
            · rw [upd_ne nb3]
              exact sAll _ _ hbo
            · have et : lr.take (k + 1) = lr.take k ++ [x] := by rw [List.take_succ, hx]; rfl
              rw [et, List.map_append]
              refine (hys.imp fun v x h => (h.s sAll).put g15.d2).append (.cons ⟨p15, p13, p14, rfl, sqT_put g15.d2 (tup_at (upd_same ..)), n13, n14, ?_, ?_⟩ .nil)
              · rw [upd_ne n13, hp13v]
                refine congrArg (fun z => some (HO.lst z)) (tab_congr fun k hk => ?_)
                rw [c_cl, if_pos hk]
                unfold cat
                rw [if_pos hk, if_pos hk]
              · rw [upd_ne n14, hp14v]
                refine congrArg (fun z => some (HO.lst z)) (tab_congr fun k hk => ?_)
                rw [c_cl, if_pos hk]
                unfold cat
                rw [if_neg (by omega), if_neg (by omega), show n + k - n = k by omega]
          · rintro σ Hy ⟨ys, u4, u12, u13, rfl, g2, hwy, hbo, hys⟩
            rw [lwe, List.take_length] at hys
            refine ⟨_, rfl, _, ys, D3, u4, _, _, _, _, _, u12, u13, rfl, hD30, ⟨g2.same, g2.d2⟩, hys, by rw [List.length_map]; omega, fun x hx => ?_, ?_⟩
            · obtain ⟨x', hx', rfl⟩ := List.mem_map.mp hx
              have q1 := cl_rd (n := n) (show 0 < t by omega) x'.1 p.1 (x'.1.c i) u
              have q2 := cl_rd (n := n) (show 0 < t by omega) x'.2 p.2 (x'.1.c i) u
              exact ⟨q1.1, q2.1, q1.2, q2.2⟩
            · rw [← elr]
              have el : l = l.take j ++ p :: l.drop (j + 1) := by
                have := List.take_append_drop j l
                rw [List.drop_eq_getElem_cons hjl] at this
                rw [List.getElem?_eq_getElem hjl] at hpj
                rw [Option.some.inj hpj] at this
                exact this.symm
              refine P.NS.some pt (el ▸ ns) (fun d => ?_) (g := fun x => (cl n t x.1 p.1 (x.1.c i) u, cl n t x.2 p.2 (x.1.c i) u)) fun x hx => ?_
              · have h3 := op.r1 i
                have := Int.le_of_dvd (by omega) d
                omega
              · have ox := hlr x (by rw [← elr]; exact hx)
                exact ⟨x.1.c i * u, cl_cg ox.z1 op.z1, cl_cg ox.z2 op.z2, cl_0 hi hu⟩
        · have c : hs = [] := Classical.byContradiction fun z => c (hbb.mpr fun e => z (List.map_eq_nil_iff.mp e))
          have s5 := same_new (o := .lst []) hp5
          refine ⟨l, ws, Dl, u4, _, _, u9, u10, u11, u12, u13, rfl, hDl, grx.to s5, hws.imp fun v x h => (h.s gr2.same).s s5, ll, hl, ns.none fun x hx => ?_⟩
          obtain ⟨h, hh⟩ := List.getElem?_of_mem hx
          have hlt : h < l.length := (List.getElem?_eq_some_iff.mp hh).1
          have : x.1.c i = 0 := Classical.byContradiction fun z => h2 h x (by omega) hh z c
          rw [this]
          exact Int.dvd_zero t
    · rintro σ Hx ⟨l, ws, Dl, u4, u6, u7, u9, u10, u11, u12, u13, rfl, hDl, gr, hws, ll, hl, ns⟩
      refine ⟨_, rfl, Dl, rfl, ⟨_, lst_at gr.d⟩, fun D4 hD4 => lc_list (xs := ws) (fun k H2 => ∃ ys, Grow Hx D4 ys H2 ∧ All2 (RowD n D4 H2) ys ((l.take k).map Prod.snd)) ⟨[], .new hD4, .nil⟩ (fun k H2 _ h => by obtain ⟨ys, g, _⟩ := h; exact g.same.seq (lst_at gr.d)) ?_ ?_⟩
      · rintro k v H2 hv ⟨ys, g2, hys⟩
        obtain ⟨x, hx, hpr⟩ := hws.get hv
        have hkl : k < l.length := (List.getElem?_eq_some_iff.mp hx).1
        have hbd : ∀ b, Hx b = some (.lst (tab x.2.c n)) → b ≠ D4 := fun b hb z => by rw [z, hD4] at hb; cases hb
        obtain ⟨t2, a2, b2, rfl, ht2, na2, nb2, ha2, hb2⟩ := hpr
        refine ⟨t2, _, rfl, Same.t g2.same ht2, rfl, _, _, rfl, _, _, rfl, rfl, rfl, itT ⟨_, rfl, ys, g2.d, ?_, ys ++ [.ref b2], g2.set hD4, ?_⟩⟩
        · have := hys.len
          rw [List.length_map, List.length_take] at this
          omega
        · have et : l.take (k + 1) = l.take k ++ [x] := by rw [List.take_succ, hx]; rfl
          rw [et, List.map_append]
          exact (hys.imp fun v x h => h.put).append (.cons ⟨b2, rfl, hbd b2 hb2, by rw [upd_ne (hbd b2 hb2)]; exact g2.same _ _ hb2⟩ .nil)
      · rintro H2 ⟨ys, g2, hys⟩
        rw [hws.len, List.take_length] at hys
        exact go _ (nso_of ns hl ll) _ D4 ys (gr.same.trans g2.same) (none_same gr.same hD4) g2.d (hys.imp fun v x h => h.n)
end
end RH
/-! W23: splitting by a prime. -/
namespace RH
open PySem PySem.Spec PyProof.Rows L2 RC
theorem len_cg {t : Int} (ht : 1 < t) {a b : P} (ha : P.Mon a) (hb : P.Mon b) (h : P.Cg t a b) : P.len a = P.len b := by
  have aux : ∀ {a b : P}, P.Mon a → P.Cg t a b → P.len a ≤ P.len b := fun {a b} ha h => Classical.byContradiction fun z => by
    have h1 := P.Cg.iff.mp h (P.len a - 1)
    rw [P.len_Z b (P.len a - 1) (by omega)] at h1
    have h2 : a.c (P.len a - 1) = 1 := ha
    rw [h2] at h1
    have := Int.le_of_dvd (by decide) h1
    omega
  exact Nat.le_antisymm (aux ha h) (aux hb h.symm)
/-- what is left behind a part is monic -/
theorem mon_quot {t : Int} (hp : Pr t) {a d q : P} (ha : P.Mon a) (hd : P.Mon d) (rq : P.Rd t q) (h : P.Cg t a (d * q)) : P.Mon q ∧ P.len q + P.len d = P.len a + 1 := by
  have ht := hp.1
  have q0 : q ≠ 0 := fun z => by
    rw [z] at h
    have h1 := P.Cg.iff.mp h (P.len a - 1)
    have h2 : a.c (P.len a - 1) = 1 := ha
    rw [show d * (0 : P) = 0 by grind, P.c_0, h2] at h1
    have := Int.le_of_dvd (by decide) h1
    omega
  have lm := P.len_mul hd.ne q0
  have lcq : P.lc (d * q) = P.lc q := by rw [lm.2]; have : P.lc d = 1 := hd; rw [this, Int.one_mul]
  have lq0 := P.lc_ne q0
  have rlq := rq (P.len q - 1)
  have elq : P.lc q = q.c (P.len q - 1) := rfl
  have ntl : ¬ t ∣ P.lc q := fun z => by
    have := Int.le_of_dvd (by omega) z
    omega
  have l1 : P.len (d * q) ≤ P.len a := Classical.byContradiction fun z => by
    have h1 := P.Cg.iff.mp h (P.len (d * q) - 1)
    rw [P.len_Z a _ (by omega)] at h1
    have e : (d * q).c (P.len (d * q) - 1) = P.lc q := lcq
    rw [e] at h1
    exact ntl (by have := Int.dvd_neg.mpr h1; rwa [show -(0 - P.lc q) = P.lc q by omega] at this)
  have l2 : P.len a ≤ P.len (d * q) := Classical.byContradiction fun z => by
    have h1 := P.Cg.iff.mp h (P.len a - 1)
    have h2 : a.c (P.len a - 1) = 1 := ha
    rw [P.len_Z (d * q) _ (by omega), h2] at h1
    have := Int.le_of_dvd (by decide) h1
    omega
  have el := Nat.le_antisymm l1 l2
  refine ⟨?_, by omega⟩
  have h1 := P.Cg.iff.mp h (P.len a - 1)
  have h2 : a.c (P.len a - 1) = 1 := ha
  have e : (d * q).c (P.len a - 1) = P.lc q := by rw [← el]; exact lcq
  rw [e, h2] at h1
  obtain ⟨z, hz⟩ := h1
  show P.lc q = 1
  by_cases c : z = 0
  · rw [c, Int.mul_zero] at hz; omega
  · rcases Int.lt_or_gt_of_ne c with c | c
    · have : t * z ≤ t * (-1) := Int.mul_le_mul_of_nonneg_left (by omega) (by omega)
      omega
    · have : t * 1 ≤ t * z := Int.mul_le_mul_of_nonneg_left (by omega) (by omega)
      omega
theorem Md.exact {t : Int} (ht : 0 < t) {a d q r : P} (D : Md a d t q r) (hd : P.Mon d) (h : P.Dv t d a) : P.Cg t a (d * q) ∧ r = 0 := by
  obtain ⟨k, hk⟩ := h
  have h1 : P.Cg t r (d * (k - q)) := by
    have := (D.cg.symm.trans hk).sub (P.Cg.refl t (d * q))
    exact (P.Cg.of_eq (by grind)).trans (this.trans (P.Cg.of_eq (by grind)))
  have h2 := (P.mon_short ht hd D.lr h1).2
  have r0 : r = 0 := D.rr.eq (P.Rd.zero ht) h2
  refine ⟨D.cg.trans (P.Cg.of_eq ?_), r0⟩
  rw [r0]
  grind
/-- a part by t -/
structure Pt (t : Int) (p : P) : Prop where
  mon : P.Mon p
  l2 : 2 ≤ P.len p
  l20 : P.len p ≤ 20
  rd : P.Rd t p
/-- what a part is split by v -/
structure SpO (t : Int) (v : P) (L : List P) (p : P) : Prop where
  ok : Pt t p
  j : ∃ j : Int, P.Dv t p (v - P.K j)
  up : ∃ q ∈ L, P.Dv t p q
structure SpI (t : Int) (v part left : P) (k : Nat) : Prop where
  mon : P.Mon left
  rd : P.Rd t left
  dv : P.Dv t left part
  cp : ∀ j : Nat, j < k → P.Cop t left (v - P.K j)
  ln : P.len left ≤ 20
  fr : P.FrM t left
theorem SpI.skip {t : Int} {v part left : P} {k : Nat} (h : SpI t v part left k) (hc : P.Cop t left (v - P.K (k : Nat))) : SpI t v part left (k + 1) := by
  refine ⟨h.mon, h.rd, h.dv, fun j hj => ?_, h.ln, h.fr⟩
  by_cases z : j = k
  · rw [z]; exact hc
  · exact h.cp j (by omega)
theorem SpI.cut {t : Int} (hp : Pr t) {v part left piece q r : P} {k : Nat} (h : SpI t v part left k) {z : P} (hz : P.Cg t z (v - P.K (k : Nat))) (G : Gt t left z piece) (D : Md left piece t q r) : SpI t v part q (k + 1) ∧ P.Cg t left (piece * q) := by
  obtain ⟨e, _⟩ := D.exact (by have := hp.1; omega) G.mon G.d1
  obtain ⟨mq, lq⟩ := mon_quot hp h.mon G.mon D.rq e
  have dq : P.Dv t q left := ⟨piece, e.trans (P.Cg.of_eq (by grind))⟩
  have lp := G.mon.len
  refine ⟨⟨mq, D.rq, dq.trans h.dv, fun j hj => ?_, by have := h.ln; omega, h.fr.part (h := piece) (e.trans (P.Cg.of_eq (by grind)))⟩, e⟩
  by_cases c : j = k
  · rw [c]
    obtain ⟨u, v', e'⟩ := G.cb
    exact P.sep h.fr e ⟨u, v', ((P.Cg.refl t _).add (hz.symm.mull v')).trans e'⟩
  · exact (h.cp j (by omega)).dv dq
section
variable {Pg : Program} {w : World} {K : PySem.W.Frag} {mg : Str → Option Value} {base : Heap}
def sp_by_numberU (K : PySem.W.Frag) : Sp := mk2 fun x y H Q => ∃ (a : Addr) (ns : List Int) (m : Int), x = .ref a ∧ y = .int m ∧ SqT K H a (ns.map V.int) ∧ 0 < m ∧ ns.length ≤ 10000 ∧ giveP K (P.red m (ofL ns)) H Q
theorem ok_by_numberU (A : At K mg "by_number" s_by_number) (T : Txt mg) (d_poly : Dn Pg w K mg base "poly" 41 ["weights"] (sp_poly K)) : Dn Pg w K mg base "by_number" 42 ["one", "m"] (sp_by_numberU K) := by
  refine mkDn A sc_by_number (fun _ _ _ _ _ _ us hl => match us, hl with | [_, _], _ => rfl) (fun vs H Q E ⟨_, _, e, _⟩ => by rw [e]; rfl) fun f cdv A outer s H vs Q E hr h => ?_
  refine ⟨_, (pss_one (ps_ret (pe_own d_poly (hr.mono (by decide)) (by rfl) (pa_cons (pe_lc (own := [("weight", 2)]) (g := gName 2) (tt := tYes) (by rfl) sc_by_number.nd (pi_tupK (K := K) (pv 0)) (blkOk_by (N := N_by_number) (sc := defScope s_by_number) (by decide +kernel)) (fun _ _ _ _ _ => (pg_name (i := 2) sc_by_number.nd rfl (.inl rfl))) (fun _ _ _ _ _ => pts_nil) (fun _ _ _ _ _ => (pe_op op_modN (pv 2) (pv 1)))) pa_nil)))), ?_⟩
  obtain ⟨v0, v1, rfl, h⟩ := h
  obtain ⟨a, ns, m, rfl, rfl, hs, hm, hl, q⟩ := h
  refine ⟨_, rfl, a, rfl, ⟨_, hs⟩, fun D hD => lc_tup (xs := ns.map V.int) (fun i H' => Grow H D (tab (P.red m (ofL ns)).c i) H') (.new hD) (fun i H' _ g => Same.t g.same hs) ?_ ?_⟩
  · intro i x H' hx g
    obtain ⟨y, hy, rfl⟩ := mapI_get hx
    have hi := (List.getElem?_eq_some_iff.mp hy).1
    exact ⟨rfl, itT ⟨_, rfl, _, rfl, _, _, rfl, rfl, by omega, g.tab hD (Same.refl _) (by omega) (by rw [fmod_pos hm, P.c_red, ofL_at hy])⟩⟩
  · intro H' g
    rw [mapI_len] at g
    exact ⟨_, rfl, D, _, rfl, g.l, (q.to g.same).eq (ofL_tab (fun k _ => rfl) (P.red_Z (ofL_Z ns)))⟩
def sp_by_size (K : PySem.W.Frag) : Sp := mk1 fun x H Q => ∃ (a : Addr) (f : P), x = .ref a ∧ AtP K H a f ∧ ∀ t, H t = none → Q (.ref t) (upd H t (.tup [.int ((P.len f : Int) - 1), .ref a]))
abbrev s_by_size : Stmt := topS 53
abbrev N_by_size : List Str := ["one"]
theorem sc_by_size : FnScope N_by_size ["one"] (defScope s_by_size) := ⟨rfl, rfl, rfl, by decide +kernel, rfl, by decide +kernel, by decide +kernel⟩
theorem ok_by_size (A : At K mg "by_size" s_by_size) (T : Txt mg) (d_degree : Dn Pg w K mg base "degree" 41 ["one"] (sp_degree K)) : Dn Pg w K mg base "by_size" 42 ["one"] (sp_by_size K) := by
  refine mkDn A sc_by_size (fun _ _ _ _ _ _ us hl => match us, hl with | [_], _ => rfl) (fun vs H Q E ⟨_, e, _⟩ => by rw [e]; rfl) fun f cdv A outer s H vs Q E hr h => ?_
  refine ⟨_, (pss_one (ps_ret (pe_tup (pa_cons (pe_own d_degree (hr.mono (by decide)) (by rfl) (pa_cons (pv 0) pa_nil)) (pa_cons (pv 0) pa_nil))))), ?_⟩
  obtain ⟨v0, rfl, h⟩ := h
  obtain ⟨a, f, rfl, hf, go⟩ := h
  exact ⟨_, rfl, _, rfl, a, f, rfl, hf, _, rfl, sz2, fun p hp => go p hp⟩
def sp_split_once (K : PySem.W.Frag) : Sp := mk3 fun x y z H Q => ∃ (a b : Addr) (xs : List V) (L : List P) (v : P) (t : Nat), x = .ref a ∧ y = .ref b ∧ z = .int (t : Nat) ∧ SqL K H a xs ∧ All2 (PV K H) xs L ∧ AtP K H b v ∧ L.length ≤ 20 ∧ P.len v ≤ 20 ∧ P.Rd (t : Int) v ∧ Pr (t : Int) ∧ t < 2 ^ 17 ∧ (∀ p ∈ L, Pt t p ∧ P.FrM t p ∧ P.Dv (t : Int) p (v ^ t - v)) ∧ ∀ F : List P, (∀ p ∈ F, SpO t v L p) → P.Cg (t : Int) (P.prod L) (P.prod F) → ∀ H' l ys, Same H H' → H l = none → H' l = some (.lst ys) → All2 (PV K H') ys F → Q (.ref l) H'
abbrev s_split_once : Stmt := topS 52
abbrev N_split_once : List Str := ["parts", "fixed", "t", "found", "part", "left", "k", "piece"]
theorem sc_split_once : FnScope N_split_once ["parts", "fixed", "t"] (defScope s_split_once) := ⟨rfl, rfl, rfl, by decide +kernel, rfl, by decide +kernel, by decide +kernel⟩
theorem ok_split_once (A : At K mg "split_once" s_split_once) (T : Txt mg) (d_degree : Dn Pg w K mg base "degree" 41 ["one"] (sp_degree K)) (d_m_shared : Dn Pg w K mg base "m_shared" 44 ["one", "other", "t"] (sp_m_shared K)) (d_m_minus : Dn Pg w K mg base "m_minus" 44 ["one", "other", "m"] (sp_m_minus K)) (d_by_numberU : Dn Pg w K mg base "by_number" 42 ["one", "m"] (sp_by_numberU K)) (d_m_parted : Dn Pg w K mg base "m_parted" 43 ["one", "other", "m"] (sp_m_parted K)) : Dn Pg w K mg base "split_once" 45 ["parts", "fixed", "t"] (sp_split_once K) := by
  refine mkDn A sc_split_once (fun _ _ _ _ _ _ us hl => match us, hl with | [_, _, _], _ => rfl) (fun vs H Q E ⟨_, _, _, e, _⟩ => by rw [e]; rfl) fun f cdv A outer s H vs Q E hr h => ?_
  refine ⟨_, (pss_cons (ps_set (i := 3) sc_split_once.nd rfl (.inl rfl) (pe_lst pa_nil))
      (pss_cons (ps_for PassesOwn.never rfl (pi_listK (K := K) (pv 0)) (pg_name (i := 4) sc_split_once.nd rfl (.inl rfl)) (pss_cons (ps_set (i := 5) sc_split_once.nd rfl (.inl rfl) (pv 4))
      (pss_one (ps_for PassesOwn.never rfl (pi_range1 (by rfl) T.range (pa_cons (pv 2) pa_nil)) (pg_name (i := 6) sc_split_once.nd rfl (.inl rfl)) (pss_one (ps_if (pt_cmpR op_gt (pe_own d_degree (hr.mono (by decide)) (by rfl) (pa_cons (pv 5) pa_nil)) pe_int (nomark _)) (pss_cons (ps_set (i := 7) sc_split_once.nd rfl (.inl rfl) (pe_own d_m_shared (hr.mono (by decide)) (by rfl) (pa_cons (pv 5) (pa_cons (pe_own d_m_minus (hr.mono (by decide)) (by rfl) (pa_cons (pv 1) (pa_cons (pe_own d_by_numberU (hr.mono (by decide)) (by rfl) (pa_cons (pe_tup (pa_cons (pv 6) pa_nil)) (pa_cons (pv 2) pa_nil))) (pa_cons (pv 2) pa_nil)))) (pa_cons (pv 2) pa_nil)))))
      (pss_one (ps_if (pt_cmpR op_gt (pe_own d_degree (hr.mono (by decide)) (by rfl) (pa_cons (pv 7) pa_nil)) pe_int (nomark _)) (pss_cons (ps_expr (pe_bm PySem.F.plainAttrs_list PySem.F.slot_list_append PySem.F.type_list_append mt_append (pv 3) (pa_cons (pv 7) pa_nil)))
      (pss_one (ps_set (i := 5) sc_split_once.nd rfl (.inl rfl) (pe_ix (ix_tupK (K := K)) (pe_own d_m_parted (hr.mono (by decide)) (by rfl) (pa_cons (pv 5) (pa_cons (pv 7) (pa_cons (pv 2) pa_nil)))) pe_int (fun _ _ => rfl))))) pss_nil))) pss_nil))))))
      (pss_one (ps_ret (pv 3))))), ?_⟩
  obtain ⟨v0, v1, v2, rfl, h⟩ := h
  obtain ⟨a, b, xs, L, v, t, rfl, rfl, rfl, hxs, hL, hv, lL, lv, rv, pt, htb, hP, go⟩ := h
  have ht1 := pt.1
  have hb : ((t : Nat) : Int).natAbs < 2 ^ 17 := by omega
  have szl : sizeLine = 16777216 := by decide
  have lx := hL.len
  refine ⟨sz0, fun D hD => ?_⟩
  refine ⟨_, rfl, a, rfl, ⟨_, (same_new hD).seq hxs⟩, for_list (xs := xs) (fun i σ H' => ∃ (ys : List V) (F : List P) (u4 u5 u6 u7 : Option V), σ = [some (.ref a), some (.ref b), some (.int (t : Nat)), some (.ref D), u4, u5, u6, u7] ∧ Grow H D ys H' ∧ All2 (PV K H') ys F ∧ (∀ p ∈ F, SpO t v L p) ∧ P.Cg (t : Int) (P.prod (L.take i)) (P.prod F) ∧ F.length ≤ t * i) ⟨[], [], _, _, _, _, rfl, .new hD, .nil, fun p h => absurd h (List.not_mem_nil), P.Cg.refl _ _, Nat.zero_le _⟩ (fun i σ H' _ h => by obtain ⟨ys, F, _, _, _, _, _, g, _⟩ := h; exact g.same.seq hxs) ?_ ?_⟩
  · rintro i x σ H' hx ⟨ys, F, u4, u5, u6, u7, rfl, gr, hys, hF, hc, lF⟩
    obtain ⟨part, hpL, ⟨ap, rfl, hap⟩⟩ := hL.get hx
    have hpm := List.mem_of_getElem? hpL
    have hiL : i < L.length := (List.getElem?_eq_some_iff.mp hpL).1
    obtain ⟨op, fp, dp⟩ := hP part hpm
    have hti : t * i ≤ 131072 * 20 := Nat.mul_le_mul (by omega) (by omega)
    refine ⟨_, rfl, _, rfl, t, rfl, by omega, by omega, for_range (lo := 0) (n := t) (fun k σ Hx => ∃ (ys : List V) (F : List P) (left : P) (al : Addr) (u6 u7 : Option V), σ = [some (.ref a), some (.ref b), some (.int (t : Nat)), some (.ref D), some (.ref ap), some (.ref al), u6, u7] ∧ Grow H D ys Hx ∧ All2 (PV K Hx) ys F ∧ AtP K Hx al left ∧ (∀ p ∈ F, SpO t v L p) ∧ P.Cg (t : Int) (P.prod (L.take i) * part) (P.prod F * left) ∧ SpI t v part left k ∧ F.length ≤ t * i + k) ⟨ys, F, part, ap, _, _, rfl, gr, hys, hap.s gr.same, hF, hc.mulr part, ⟨op.mon, op.rd, P.Dv.refl _ _, fun j hj => by omega, op.l20, fp⟩, lF⟩ ?_ ?_⟩
    · rintro k σ Hx hk ⟨ys, F, left, al, u6, u7, rfl, gr, hys, hal, hF, hc, I, lF⟩
      have e0 : (0 : Int) + (k : Nat) = (k : Nat) := by omega
      rw [e0]
      have lll := I.ln
      have left0 := I.mon.ne
      refine ⟨_, rfl, _, rfl, al, left, rfl, hal, _, _, rfl, rfl, _, rfl, ite2 (fun c => ?_) fun c => ?_⟩
      · have c := of_decide_eq_true c
        refine ⟨_, rfl, _, rfl, _, rfl, sz1, fun p1 hp1 => ?_⟩
        have s1 := same_new (o := .tup [.int (k : Nat)]) hp1
        refine ⟨_, rfl, _, _, rfl, p1, [(k : Nat)], (t : Nat), rfl, rfl, tup_at (upd_same ..), by omega, (show 1 ≤ 10000 by decide), fun H2 p2 s2 t2 => ?_⟩
        rw [ofL_one] at t2
        have lk : P.len (P.red (t : Int) (P.K (k : Nat))) ≤ 1 := Nat.le_trans (len_red _ _) (P.len_le_K _)
        have s12 := s1.trans s2
        refine ⟨_, rfl, _, _, _, rfl, b, p2, v, _, (t : Nat), 17, rfl, rfl, rfl, hv.s (gr.same.trans s12), t2, by omega, by omega, by omega, Rd_bt (P.red_Rd (by omega) _) hb, by decide, fun H3 p3 s3 t3 => ?_⟩
        have lz := len_red (t : Int) (v - P.red (t : Int) (P.K (k : Nat)))
        have lz2 := len_sub v (P.red (t : Int) (P.K (k : Nat)))
        have cz : P.Cg (t : Int) (P.red (t : Int) (v - P.red (t : Int) (P.K (k : Nat)))) (v - P.K (k : Nat)) := (P.red_Cg _ _).trans ((P.Cg.refl _ v).sub (P.red_Cg _ _))
        have s13 := s12.trans s3
        refine ⟨_, rfl, _, _, _, rfl, al, p3, left, _, (t : Nat), 17, rfl, rfl, rfl, hal.s s13, t3, left0, pt, hb, by decide, I.rd, P.red_Rd (by omega) _, by omega, by omega, fun piece G H4 p4 s4 t4 => ?_⟩
        generalize P.red (t : Int) (v - P.red (t : Int) (P.K (k : Nat))) = z at cz G
        have s14 := s13.trans s4
        have gr4 := gr.to s14
        have lpc := G.mon.len
        have lpl : P.len piece ≤ P.len left := by
          obtain ⟨x', hx'⟩ := G.d1
          by_cases q : P.len piece ≤ P.len left
          · exact q
          · have := P.mon_short (show (0 : Int) < t by omega) G.mon (by omega) hx'
            have h1 : left = 0 := I.rd.eq (P.Rd.zero (by omega)) this.2
            exact absurd h1 left0
        refine ⟨_, rfl, _, rfl, p4, piece, rfl, t4, _, _, rfl, rfl, _, rfl, ite2 (fun c2 => ?_) fun c2 => ?_⟩
        · have c2 := of_decide_eq_true c2
          refine ⟨_, rfl, .inl ⟨rfl, _, lst_at gr4.d⟩, _, rfl, D, ys, _, rfl, rfl, gr4.d, ?_, ?_⟩
          · have := hys.len
            omega
          have gr5 := gr4.set hD (l' := ys ++ [.ref p4])
          refine ⟨_, rfl, _, rfl, _, rfl, _, _, _, rfl, al, p4, left, piece, (t : Nat), 17, 17, 17, rfl, rfl, rfl, (hal.s s14).put gr4.d, t4.put gr4.d, G.mon.ne, ht1, hb, Rd_bt I.rd hb, Rd_bt G.rd hb, by decide, by omega, by omega, mon_inv G.mon _, fun q r Dm H6 p6 a6 b6 s6 t6 ta6 tb6 => ?_⟩
          obtain ⟨I2, e2⟩ := I.cut pt cz G Dm
          have hF2 : SpO (t : Int) v L piece := ⟨⟨G.mon, by omega, by omega, G.rd⟩, ⟨_, G.d2.cg cz⟩, part, hpm, G.d1.trans I.dv⟩
          refine ⟨p6, _, _, _, rfl, rfl, tup_at t6, atI_ok (by decide) rfl, ys ++ [.ref p4], F ++ [piece], q, a6, _, _, rfl, gr5.to s6, ?_, ta6, fun p hp => ?_, ?_, I2, ?_⟩
          · exact (hys.imp fun v p h => ((h.s s14).put gr4.d).s s6).append (.cons ⟨p4, rfl, (t4.put gr4.d).s s6⟩ .nil)
          · rcases List.mem_append.mp hp with hp | hp
            · exact hF p hp
            · rw [List.mem_singleton] at hp
              rw [hp]
              exact hF2
          · rw [P.prod_append]
            show P.Cg (t : Int) _ (P.prod F * (piece * 1) * q)
            refine hc.trans ((e2.mull _).trans (P.Cg.of_eq (by grind)))
          · rw [List.length_append, List.length_singleton]
            omega
        · have c2 : ¬ (P.len piece : Int) - 1 > 0 := fun z => c2 (decide_eq_true z)
          have e1 := P.mon_len1 G.mon (by omega)
          have hcop : P.Cop (t : Int) left (v - P.K (k : Nat)) := by
            obtain ⟨u, v', e⟩ := G.cb
            rw [e1] at e
            exact ⟨u, v', ((P.Cg.refl _ _).add (cz.symm.mull v')).trans e⟩
          exact ⟨ys, F, left, al, _, _, rfl, gr4, hys.imp fun v p h => h.s s14, hal.s s14, hF, hc, I.skip hcop, by omega⟩
      · have c : ¬ (P.len left : Int) - 1 > 0 := fun z => c (decide_eq_true z)
        have e1 := P.mon_len1 I.mon (by have := I.mon.len; omega)
        refine ⟨ys, F, left, al, _, _, rfl, gr, hys, hal, hF, hc, I.skip ?_, by omega⟩
        rw [e1]
        exact P.Cop.one _ _
    · rintro σ Hx ⟨ys, F, left, al, u6, u7, rfl, gr, hys, hal, hF, hc, I, lF⟩
      have e1 := P.split_end pt I.mon I.dv dp I.cp
      refine ⟨ys, F, _, _, _, _, rfl, gr, hys, hF, ?_, by rw [Nat.mul_succ]; exact lF⟩
      rw [prod_take hpL]
      rw [e1] at hc
      exact hc.trans (P.Cg.of_eq (by grind))
  · rintro σ H' ⟨ys, F, u4, u5, u6, u7, rfl, gr, hys, hF, hc, lF⟩
    rw [lx, List.take_length] at hc
    exact ⟨_, rfl, go F hF hc _ D ys gr.same hD gr.d hys⟩
end
end RH
/-! W24: the parts by a prime. -/
namespace RH
open PySem PySem.Spec PyProof.Rows L2 RC
theorem cr_sortedFK {X : Cx} {K : PySem.W.Frag} {k : Nat} {fa : Addr} {fd : FuncData} {ps : List Str} {sp : Sp} (F : FnOk X.prog X.w X.K X.mg X.base CX0 k fa fd ps sp) (hr : Room (k + 2) X.A) (hb : Binds X.K fd ps []) (h : X.K = K := by rfl) : CallRK X (.builtin "sorted") [Str.ofString "key"] (rSortedF K fa sp) := by subst h; exact cr_sortedF F hr hb
theorem all2_perm {β α : Type} {R : β → α → Prop} {ys xs : List β} (h : ys.Perm xs) : ∀ {L : List α}, All2 R xs L → ∃ L', L'.Perm L ∧ All2 R ys L' := by
  induction h with
  | nil => intro L h; cases h; exact ⟨[], .nil, .nil⟩
  | cons x _ ih =>
    intro L h
    cases h with
    | cons r rs =>
      obtain ⟨L', hp, h'⟩ := ih rs
      exact ⟨_ :: L', hp.cons _, .cons r h'⟩
  | swap x y l =>
    intro L h
    cases h with
    | cons r rs =>
      cases rs with
      | cons r2 rs2 => exact ⟨_, .swap .., .cons r2 (.cons r rs2)⟩
  | trans _ _ ih1 ih2 =>
    intro L h
    obtain ⟨L1, p1, h1⟩ := ih2 h
    obtain ⟨L2, p2, h2⟩ := ih1 h1
    exact ⟨L2, p2.trans p1, h2⟩
theorem prod_perm {L L' : List P} (h : L'.Perm L) : P.prod L' = P.prod L := by
  induction h with
  | nil => rfl
  | cons x _ ih => show x * _ = x * _; rw [ih]
  | swap x y l => show y * (x * P.prod l) = x * (y * P.prod l); grind
  | trans _ _ h1 h2 => rw [h1, h2]
/-- what the parts by a prime are -/
structure PtsO (t : Int) (f : P) (L : List P) : Prop where
  ir : ∀ p ∈ L, P.IrT t p
  rd : ∀ p ∈ L, P.Rd t p ∧ P.len p ≤ 20
  cg : P.Cg t (P.K (P.lc f) * P.prod L) f
  ln : P.len (P.prod L) = P.len f
  fr : P.FrM t (P.prod L)
  nl : L.length + 1 ≤ P.len f
section
variable {Pg : Program} {w : World} {K : PySem.W.Frag} {mg : Str → Option Value} {base : Heap}
def sp_parts_by (K : PySem.W.Frag) : Sp := mk2 fun x y H Q => ∃ (a : Addr) (f : P) (t : Nat), x = .ref a ∧ y = .int (t : Nat) ∧ AtP K H a f ∧ P.Rd (t : Int) f ∧ 2 ≤ P.len f ∧ P.len f ≤ 20 ∧ Pr (t : Int) ∧ t < 2 ^ 17 ∧ P.FrM (t : Int) f ∧ ∀ L : List P, PtsO t f L → ∀ H' l xs, Same H H' → H l = none → H' l = some (.lst xs) → All2 (PV K H') xs L → Q (.ref l) H'
abbrev s_parts_by : Stmt := topS 54
abbrev N_parts_by : List Str := ["one", "t", "whole", "parts", "sums", "row"]
theorem sc_parts_by : FnScope N_parts_by ["one", "t"] (defScope s_parts_by) := ⟨rfl, rfl, rfl, by decide +kernel, rfl, by decide +kernel, by decide +kernel⟩
theorem ok_parts_by (A : At K mg "parts_by" s_parts_by) (T : Txt mg) (d_single : Dn Pg w K mg base "single" 43 ["one", "t"] (sp_single K)) (d_nought_sums : Dn Pg w K mg base "nought_sums" 43 ["rows", "t"] (sp_nought_sums K)) (d_fixed_rows : Dn Pg w K mg base "fixed_rows" 45 ["one", "t"] (sp_fixed_rows K)) (d_split_once : Dn Pg w K mg base "split_once" 45 ["parts", "fixed", "t"] (sp_split_once K)) (d_by_numberL : Dn Pg w K mg base "by_number" 42 ["one", "m"] (sp_by_numberL K)) (d_by_size : Dn Pg w K mg base "by_size" 42 ["one"] (sp_by_size K)) : Dn Pg w K mg base "parts_by" 46 ["one", "t"] (sp_parts_by K) := by
  refine mkDn A sc_parts_by (fun _ _ _ _ _ _ us hl => match us, hl with | [_, _], _ => rfl) (fun vs H Q E ⟨_, _, e, _⟩ => by rw [e]; rfl) fun f cdv A outer s H vs Q E hr h => ?_
  obtain ⟨fs, fds, Fs, hms, hks, hbs⟩ := d_by_size.ex
  refine ⟨_, (pss_cons (ps_set (i := 2) sc_parts_by.nd rfl (.inl rfl) (pe_own d_single (hr.mono (by decide)) (by rfl) (pa_cons (pv 0) (pa_cons (pv 1) pa_nil))))
      (pss_cons (ps_set (i := 3) sc_parts_by.nd rfl (.inl rfl) (pe_lst (pa_cons (pv 2) pa_nil)))
      (pss_cons (ps_set (i := 4) sc_parts_by.nd rfl (.inl rfl) (pe_own d_nought_sums (hr.mono (by decide)) (by rfl) (pa_cons (pe_own d_fixed_rows (hr.mono (by decide)) (by rfl) (pa_cons (pv 2) (pa_cons (pv 1) pa_nil))) (pa_cons (pv 1) pa_nil))))
      (pss_cons (ps_for PassesOwn.never rfl (pi_listK (K := K) (pv 4)) (pg_name (i := 5) sc_parts_by.nd rfl (.inl rfl)) (pss_one (ps_if (pt_cmpR op_lt (pe_callB (call_lenK (K := K)) (by rfl) T.len PySem.boot_len (pa_cons (pv 3) pa_nil)) (pe_callB (call_lenK (K := K)) (by rfl) T.len PySem.boot_len (pa_cons (pv 4) pa_nil)) (nomark _)) (pss_one (ps_set (i := 3) sc_parts_by.nd rfl (.inl rfl) (pe_own d_split_once (hr.mono (by decide)) (by rfl) (pa_cons (pv 3) (pa_cons (pe_own d_by_numberL (hr.mono (by decide)) (by rfl) (pa_cons (pv 5) (pa_cons (pv 1) pa_nil))) (pa_cons (pv 1) pa_nil)))))) pss_nil)))
      (pss_one (ps_ret (pe_callBK (cr_sortedFK (K := K) Fs (hr.mono (by decide)) hbs) (by rfl) T.sorted (by decide +kernel) (pa_cons (pv 3) pa_nil) (pk_cons (pe_glob (v := .ref fs) (by rfl) hms rfl) pk_nil)))))))), ?_⟩
  obtain ⟨v0, v1, rfl, h⟩ := h
  obtain ⟨a, f, t, rfl, rfl, hf, rf, l2, l20, pt, htb, fr, go⟩ := h
  have ht1 := pt.1
  have hb : ((t : Nat) : Int).natAbs < 2 ^ 17 := by omega
  have szl : sizeLine = 16777216 := by decide
  have f0 : f ≠ 0 := P.len_pos.mp (by omega)
  refine ⟨_, rfl, _, rfl, _, _, rfl, a, f, (t : Nat), 17, 17, rfl, rfl, hf, ht1, hb, Rd_bt rf hb, by decide, by omega, fun _ => Rd_unit pt rf f0, fun z => absurd z f0, fun _ u _ _ hu H1 aw s1 tw => ?_⟩
  obtain ⟨mw, lw, rw', cw1, cw2⟩ := mk_mon ht1 f0 hu
  generalize P.red (t : Int) (P.K u * f) = g at tw mw lw rw' cw1 cw2
  have frg : P.FrM (t : Int) g := fr.part (h := P.K (P.lc f)) (cw2.trans (P.Cg.of_eq (by grind)))
  obtain ⟨n, hn⟩ : ∃ n, P.len g = n + 1 := ⟨P.len g - 1, by omega⟩
  refine ⟨_, rfl, sz1, fun p1 hp1 => ?_⟩
  have s2 := same_new (o := .lst [.ref aw]) hp1
  refine ⟨_, rfl, _, rfl, _, _, rfl, aw, g, n, t, rfl, rfl, tw.s s2, mw, rw', hn, by omega, by omega, pt, htb, fun Rs lRs hRs H3 ar xr s3 n3 d3 al3 => ?_⟩
  have hRk : ∀ k, k < n → Fx t g n k (Rs.getD k 0) := fun k hk => hRs k _ (by rw [List.getD_eq_getElem?_getD, List.getElem?_eq_getElem (by omega)]; rfl)
  refine ⟨_, rfl, _, _, rfl, ar, xr, Rs, n, (t : Nat), rfl, rfl, d3, al3, lRs, by omega, fun R hR => ?_, pt, by omega, fun Ss nso H4 as xs s4 n4 d4 al4 => ?_⟩
  · obtain ⟨k, hk⟩ := List.getElem?_of_mem hR
    have := hRs k R hk
    exact ⟨this.rd, this.z⟩
  have hRR : ∀ k, k < n → P.Z (Rs.getD k 0) n ∧ P.Dv (t : Int) g (Rs.getD k 0 - (P.X ^ (t * k) - P.X ^ k)) := fun k hk => ⟨(hRk k hk).z, (hRk k hk).d⟩
  have s12 := s1.trans s2
  have s14 := (s12.trans s3).trans s4
  have lxs := al4.len
  refine ⟨_, rfl, as, rfl, ⟨_, lst_at d4⟩, for_list (xs := xs) (fun i σ H' => ∃ (ys : List V) (L : List P) (D : Addr) (u5 : Option V), σ = [some (.ref a), some (.int (t : Nat)), some (.ref aw), some (.ref D), some (.ref as), u5] ∧ Same H4 H' ∧ H' D = some (.lst ys) ∧ All2 (PV K H') ys L ∧ (∀ p ∈ L, Pt t p) ∧ P.Cg (t : Int) g (P.prod L) ∧ ((∀ k S, k < i → Ss[k]? = some S → ∀ p ∈ L, ∃ j : Int, P.Dv (t : Int) p (S - P.K j)) ∨ Ss.length ≤ L.length)) ⟨[.ref aw], [g], p1, _, rfl, Same.refl _, s4 _ _ (s3 _ _ (upd_same ..)), .cons ⟨aw, rfl, ((tw.s s2).s s3).s s4⟩ .nil, fun p hp => ?_, ?_, .inl fun k S q => absurd q (by omega)⟩ (fun i σ H' _ h => by obtain ⟨_, _, _, _, _, s, _⟩ := h; exact lst_at (s _ _ d4)) ?_ ?_⟩
  · rw [List.mem_singleton] at hp
    rw [hp]
    exact ⟨mw, by omega, by omega, rw'⟩
  · show P.Cg (t : Int) g (g * 1)
    exact P.Cg.of_eq (by grind)
  · rintro i v σ H' hv ⟨ys, L, D, u5, rfl, s5, dD, hys, hL, hc, hor⟩
    obtain ⟨S, hS, ⟨ar5, rfl, har5⟩⟩ := al4.get hv
    have oS := nso.ok S (List.mem_of_getElem? hS)
    have hMprod : P.Mon (P.prod L) := P.prod_mon fun p hp => (hL p hp).mon
    have lprod := len_cg ht1 mw hMprod hc
    have lenL := P.prod_len (Gs := L) fun p hp => ⟨(hL p hp).mon, (hL p hp).l2⟩
    refine ⟨_, rfl, D, _, rfl, .inl (lst_at dD), _, rfl, as, _, rfl, .inl (lst_at (s5 _ _ d4)), _, _, rfl, rfl, _, rfl, ite2 (fun c => ?_) fun c => ?_⟩
    · have c := of_decide_eq_true c
      have eS : P.red (t : Int) (ofL ((List.range n).map S.c)) = S := by rw [ofL_Zc oS.2.1]; exact oS.1.red
      refine ⟨_, rfl, _, rfl, _, rfl, _, _, rfl, ar5, _, (t : Nat), rfl, rfl, tab_lst (s5 _ _ har5), by omega, by rw [List.length_map, List.length_range]; omega, fun H6 p6 s6 t6 => ?_⟩
      rw [eS] at t6
      have lS : P.len S ≤ n := P.len_min oS.2.1
      have hdv : P.Dv (t : Int) g (S ^ t - S) := (P.null_of pt mw hn hRR oS.2.1).mp oS.2.2
      refine ⟨_, rfl, _, _, _, rfl, D, p6, ys, L, S, t, rfl, rfl, rfl, lst_at (s6 _ _ dD), hys.imp fun v p h => h.s s6, t6, by omega, by omega, oS.1, pt, htb, fun p hp => ?_, fun F hF hcF H7 l7 ys7 s7 n7 d7 al7 => ?_⟩
      · obtain ⟨c', ec⟩ := P.mem_prod (t := (t : Int)) hp
        rw [ec] at hc
        exact ⟨hL p hp, frg.part hc, P.Dv.trans ⟨c', hc⟩ hdv⟩
      · refine ⟨ys7, F, l7, _, rfl, (s5.trans s6).trans s7, d7, al7, fun p hp => (hF p hp).ok, hc.trans hcF, ?_⟩
        rcases hor with hor | hor
        · refine .inl fun k S' hk hS' p hp => ?_
          by_cases z : k = i
          · rw [z, hS] at hS'
            cases hS'
            exact (hF p hp).j
          · obtain ⟨q, hq, hd⟩ := (hF p hp).up
            obtain ⟨j, hj⟩ := hor k S' (by omega) hS' q hq
            exact ⟨j, hd.trans hj⟩
        · have := hys.len
          have := al4.len
          omega
    · have c : ¬ ((ys.length : Nat) : Int) < (xs.length : Nat) := fun z => c (decide_eq_true z)
      refine ⟨ys, L, D, _, rfl, s5, dD, hys, hL, hc, .inr ?_⟩
      have := hys.len
      omega
  · rintro σ H' ⟨ys, L, D, u5, rfl, s5, dD, hys, hL, hc, hor⟩
    have hMprod : P.Mon (P.prod L) := P.prod_mon fun p hp => (hL p hp).mon
    have lprod := len_cg ht1 mw hMprod hc
    have lenL := P.prod_len (Gs := L) fun p hp => ⟨(hL p hp).mon, (hL p hp).l2⟩
    have hir : ∀ p ∈ L, P.IrT (t : Int) p := P.berl pt mw frg (Ss := Ss) (fun V hV hd => ?_) (fun p hp => ⟨(hL p hp).mon, (hL p hp).l2⟩) hc (by
      rcases hor with hor | hor
      · refine .inl fun S hS p hp => ?_
        obtain ⟨k, hk⟩ := List.getElem?_of_mem hS
        have hkl : k < Ss.length := (List.getElem?_eq_some_iff.mp hk).1
        exact hor k S (by omega) hk p hp
      · exact .inr hor)
    · refine ⟨_, rfl, D, ys, rfl, rfl, lst_at dD, fun x hx => ?_, fun x hx H6 s6 Q' hQ' => ?_, fun zs p6 H6 hperm s6 n6 => ?_⟩
      · obtain ⟨k, hk⟩ := List.getElem?_of_mem hx
        obtain ⟨p, _, ⟨ap, e, _⟩⟩ := hys.get hk
        exact ⟨ap, e⟩
      · obtain ⟨k, hk⟩ := List.getElem?_of_mem hx
        obtain ⟨p, _, ⟨ap, e, hap⟩⟩ := hys.get hk
        subst e
        exact ⟨_, rfl, ap, p, rfl, hap.s s6, fun tt htt => hQ' tt ap _ (cf p) htt (hap.s s6)⟩
      · obtain ⟨L', hp', hz⟩ := all2_perm hperm hys
        have sAll := (s14.trans s5).trans s6
        have s7 := same_new (o := .lst zs) n6
        have eprod := prod_perm hp'
        refine go L' ⟨fun p hp => hir p (hp'.mem_iff.mp hp), fun p hp => ⟨(hL p (hp'.mem_iff.mp hp)).rd, (hL p (hp'.mem_iff.mp hp)).l20⟩, ?_, by rw [eprod]; omega, by rw [eprod]; exact frg.cg hc, ?_⟩ _ p6 zs (sAll.trans s7) (none_same sAll n6) (upd_same ..) (hz.imp fun v p h => (h.s s6).s s7)
        · rw [eprod]
          exact ((hc.symm.mull _).trans cw2.symm)
        · have := hp'.length_eq
          omega
    · have zV : P.Z V n := P.len_iff.mp (by omega)
      exact nso.sp V zV ((P.null_of pt mw hn hRR zV).mpr hd)
end
end RH
/-! W25: room and primes. -/
namespace RH
open PySem PySem.Spec PyProof.Rows L2 RC
theorem ex_gr (f : P) : ∃ G : Nat, (∀ k, (f.c k).natAbs ≤ G) ∧ (f ≠ 0 → ∃ k, k < P.len f ∧ (f.c k).natAbs = G) := by
  have aux : ∀ n, ∃ G : Nat, (∀ k, k < n → (f.c k).natAbs ≤ G) ∧ (0 < n → ∃ k, k < n ∧ (f.c k).natAbs = G) ∧ (n = 0 → G = 0) := by
    intro n
    induction n with
    | zero => exact ⟨0, fun k h => by omega, fun h => by omega, fun _ => rfl⟩
    | succ n ih =>
      obtain ⟨G, h1, h2, h3⟩ := ih
      by_cases c : (f.c n).natAbs ≤ G
      · by_cases z : n = 0
        · have := h3 z
          subst z
          exact ⟨G, fun k hk => by rw [show k = 0 by omega]; exact c, fun _ => ⟨0, by omega, by omega⟩, fun h => by omega⟩
        · obtain ⟨k, hk, e⟩ := h2 (by omega)
          exact ⟨G, fun k hk => if z : k = n then z ▸ c else h1 k (by omega), fun _ => ⟨k, by omega, e⟩, fun h => by omega⟩
      · exact ⟨(f.c n).natAbs, fun k hk => if z : k = n then z ▸ Nat.le_refl _ else by have := h1 k (by omega); omega, fun _ => ⟨n, by omega, rfl⟩, fun h => by omega⟩
  obtain ⟨G, h1, h2, h3⟩ := aux (P.len f)
  refine ⟨G, fun k => ?_, fun h => h2 (P.len_pos.mpr h)⟩
  by_cases c : k < P.len f
  · exact h1 k c
  · rw [P.len_Z f k (by omega)]
    exact Nat.zero_le _
/-- the greatest weight in size -/
noncomputable def gr (f : P) : Nat := Classical.choose (ex_gr f)
theorem gr_le (f : P) (k : Nat) : (f.c k).natAbs ≤ gr f := (Classical.choose_spec (ex_gr f)).1 k
theorem gr_ex {f : P} (h : f ≠ 0) : ∃ k, k < P.len f ∧ (f.c k).natAbs = gr f := (Classical.choose_spec (ex_gr f)).2 h
/-- what a power has to be above -/
noncomputable def room (f : P) : Int := 2 ^ (P.len f - 1) * (2 * (P.len f : Nat) * (gr f : Nat) * P.lc f)
theorem room_bd {f : P} (l9 : P.len f ≤ 9) (hb : P.Bt 32 f) (h0 : f ≠ 0) (hp : 0 < P.lc f) : 0 < room f ∧ room f < 2 ^ 77 := by
  have hg : gr f < 2 ^ 32 := by
    obtain ⟨k, _, e⟩ := gr_ex h0
    have := hb k
    omega
  have hl : P.lc f < 2 ^ 32 := by have := hb.lc; omega
  have l1 := P.len_pos.mpr h0
  have g1 : 0 < gr f := by
    have := gr_le f (P.len f - 1)
    have : P.lc f = f.c (P.len f - 1) := rfl
    omega
  have p1 : (0 : Int) < 2 ^ (P.len f - 1) := Int.pow_pos (by decide)
  have p2 : (2 : Int) ^ (P.len f - 1) ≤ 2 ^ 8 := by
    have : (2 : Nat) ^ (P.len f - 1) ≤ 2 ^ 8 := Nat.pow_le_pow_right (by decide) (by omega)
    exact_mod_cast this
  have q1 : (2 * (P.len f : Nat) : Int) * (gr f : Nat) ≤ 18 * 2 ^ 32 := Int.mul_le_mul (by omega) (by omega) (by omega) (by omega)
  have q0 : 0 < (2 * (P.len f : Nat) : Int) * (gr f : Nat) := Int.mul_pos (by omega) (by omega)
  have r1 : (2 * (P.len f : Nat) : Int) * (gr f : Nat) * P.lc f ≤ 18 * 2 ^ 32 * 2 ^ 32 := Int.mul_le_mul q1 (by omega) (by omega) (by omega)
  have r0 : 0 < (2 * (P.len f : Nat) : Int) * (gr f : Nat) * P.lc f := Int.mul_pos q0 hp
  unfold room
  refine ⟨Int.mul_pos p1 r0, ?_⟩
  have := Int.mul_le_mul p2 r1 (by omega) (by omega)
  omega
/-- about nought -/
def midP (m : Int) (f : P) : P := ⟨fun k => if m < 2 * f.c k then (if m < 0 then 0 else f.c k - m) else f.c k, P.len f, fun k h => by
  rw [P.len_Z f k h]
  split
  · rw [if_pos (by omega)]
  · rfl⟩
theorem c_midP {m : Int} (hm : 0 < m) (f : P) (k : Nat) : (midP m f).c k = if m < 2 * f.c k then f.c k - m else f.c k := by
  show (if m < 2 * f.c k then (if m < 0 then 0 else f.c k - m) else f.c k) = _
  rw [if_neg (show ¬ m < 0 by omega)]
theorem midP_mid {m : Int} (hm : 0 < m) {f : P} (h : P.Rd m f) : P.Mid m f (midP m f) := by
  refine ⟨P.Cg.iff.mpr fun k => ?_, fun k => ?_⟩
  · rw [c_midP hm]
    split
    · exact ⟨-1, by omega⟩
    · exact ⟨0, by omega⟩
  · rw [c_midP hm]
    have := h k
    split <;> omega
theorem Mid_cg {m : Int} {a b p : P} (h : P.Mid m a p) (e : P.Cg m b a) : P.Mid m b p := ⟨h.1.trans e.symm, h.2⟩
section
variable {Pg : Program} {w : World} {K : PySem.W.Frag} {mg : Str → Option Value} {base : Heap}
def sp_greatest (K : PySem.W.Frag) : Sp := mk1 fun x H Q => ∃ (a : Addr) (f : P), x = .ref a ∧ AtP K H a f ∧ f ≠ 0 ∧ P.len f ≤ 1000 ∧ ∀ H', Same H H' → Q (.int (gr f : Nat)) H'
abbrev s_greatest : Stmt := topS 59
abbrev N_greatest : List Str := ["one", "weight"]
theorem sc_greatest : FnScope N_greatest ["one"] (defScope s_greatest) := ⟨rfl, rfl, rfl, by decide +kernel, rfl, by decide +kernel, by decide +kernel⟩
theorem ok_greatest (A : At K mg "greatest" s_greatest) (T : Txt mg) : Dn Pg w K mg base "greatest" 41 ["one"] (sp_greatest K) := by
  refine mkDn A sc_greatest (fun _ _ _ _ _ _ us hl => match us, hl with | [_], _ => rfl) (fun vs H Q E ⟨_, e, _⟩ => by rw [e]; rfl) fun f cdv A outer s H vs Q E hr h => ?_
  refine ⟨_, (pss_one (ps_ret (pe_callB (cr_max rfl) (by rfl) T.max (by decide +kernel) (pa_cons (pe_lc (own := [("weight", 1)]) (g := gName 1) (tt := tYes) (by rfl) sc_greatest.nd (pi_tupK (K := K) (pv 0)) (blkOk_by (N := N_greatest) (sc := defScope s_greatest) (by decide +kernel)) (fun _ _ _ _ _ => (pg_name (i := 1) sc_greatest.nd rfl (.inl rfl))) (fun _ _ _ _ _ => pts_nil) (fun _ _ _ _ _ => (pe_callB call_abs (by rfl) T.abs (by decide +kernel) (pa_cons (pv 1) pa_nil)))) pa_nil)))), ?_⟩
  obtain ⟨v0, rfl, h⟩ := h
  obtain ⟨a, f, rfl, hf, f0, lf, go⟩ := h
  have l1 := P.len_pos.mpr f0
  refine ⟨_, rfl, a, rfl, ⟨_, hf⟩, fun D hD => lc_tup (xs := pl f) (fun i H' => Grow H D (tab (fun k => ((f.c k).natAbs : Nat)) i) H') (.new hD) (fun i H' _ g => hf.s g.same) ?_ ?_⟩
  · intro i x H' hx g
    obtain ⟨hi, rfl⟩ := pl_at hx
    exact ⟨rfl, itT ⟨_, rfl, _, rfl, g.tab hD (Same.refl _) (by omega) (by split <;> omega)⟩⟩
  · intro H' g
    rw [pl_len] at g
    refine ⟨D, _, rfl, g.l, by rw [List.length_map, List.length_range]; exact l1, fun m hm hmax => ?_⟩
    have e : m = (gr f : Nat) := by
      obtain ⟨k, hk, e⟩ := List.mem_map.mp hm
      have h1 := gr_le f k
      obtain ⟨k2, hk2, e2⟩ := gr_ex f0
      have h2 := hmax _ (List.mem_map.mpr ⟨k2, List.mem_range.mpr hk2, rfl⟩)

      omega
    rw [e]
    exact go _ g.same
def sp_room_for (K : PySem.W.Frag) : Sp := mk1 fun x H Q => ∃ (a : Addr) (f : P), x = .ref a ∧ AtP K H a f ∧ f ≠ 0 ∧ P.len f ≤ 9 ∧ P.Bt 32 f ∧ 0 < P.lc f ∧ ∀ H', Same H H' → Q (.int (room f)) H'
abbrev s_room_for : Stmt := topS 60
abbrev N_room_for : List Str := ["one", "found", "k"]
theorem sc_room_for : FnScope N_room_for ["one"] (defScope s_room_for) := ⟨rfl, rfl, rfl, by decide +kernel, rfl, by decide +kernel, by decide +kernel⟩
theorem ok_room_for (A : At K mg "room_for" s_room_for) (T : Txt mg) (d_greatest : Dn Pg w K mg base "greatest" 41 ["one"] (sp_greatest K)) (d_degree : Dn Pg w K mg base "degree" 41 ["one"] (sp_degree K)) : Dn Pg w K mg base "room_for" 42 ["one"] (sp_room_for K) := by
  refine mkDn A sc_room_for (fun _ _ _ _ _ _ us hl => match us, hl with | [_], _ => rfl) (fun vs H Q E ⟨_, e, _⟩ => by rw [e]; rfl) fun f cdv A outer s H vs Q E hr h => ?_
  refine ⟨_, (pss_cons (ps_set (i := 1) sc_room_for.nd rfl (.inl rfl) (pe_op op_mulB (pe_op op_mulB (pe_op op_mulB pe_int (pe_callB (call_lenK (K := K)) (by rfl) T.len PySem.boot_len (pa_cons (pv 0) pa_nil))) (pe_own d_greatest (hr.mono (by decide)) (by rfl) (pa_cons (pv 0) pa_nil))) (pe_ix (ix_tupK (K := K)) (pv 0) (pe_un un_neg pe_int) (fun _ _ => rfl))))
      (pss_cons (ps_for PassesOwn.never rfl (pi_range1 (by rfl) T.range (pa_cons (pe_own d_degree (hr.mono (by decide)) (by rfl) (pa_cons (pv 0) pa_nil)) pa_nil)) (pg_name (i := 2) sc_room_for.nd rfl (.inl rfl)) (pss_one (ps_set (i := 1) sc_room_for.nd rfl (.inl rfl) (pe_op op_mulB pe_int (pv 1)))))
      (pss_one (ps_ret (pv 1))))), ?_⟩
  obtain ⟨v0, rfl, h⟩ := h
  obtain ⟨a, f, rfl, hf, f0, lf, bf, lc0, go⟩ := h
  have l1 := P.len_pos.mpr f0
  have hg : gr f < 2 ^ 32 := by
    obtain ⟨k, _, e⟩ := gr_ex f0
    have := bf k
    omega
  have hlc := bf.lc
  have rb := room_bd lf bf f0 lc0
  refine ⟨_, rfl, a, _, rfl, .inr hf, ?_⟩
  rw [pl_len]
  refine ⟨_, _, rfl, rfl, mulOk (a := 2) (b := 4) (by decide) (by omega) (by decide), _, rfl, _, rfl, a, f, rfl, hf, f0, by omega, fun H1 s1 => ?_⟩
  have q1 : (2 * (P.len f : Nat) : Int) * (gr f : Nat) ≤ 18 * 2 ^ 32 := Int.mul_le_mul (by omega) (by omega) (by omega) (by omega)
  have q0 : 0 ≤ (2 * (P.len f : Nat) : Int) * (gr f : Nat) := Int.mul_nonneg (by omega) (by omega)
  have r1 : (2 * (P.len f : Nat) : Int) * (gr f : Nat) * P.lc f ≤ 18 * 2 ^ 32 * 2 ^ 32 := Int.mul_le_mul q1 (by omega) (by omega) (by omega)
  have r0 : 0 ≤ (2 * (P.len f : Nat) : Int) * (gr f : Nat) * P.lc f := Int.mul_nonneg q0 (by omega)
  refine ⟨_, _, rfl, rfl, mulOk (a := 5) (b := 32) (by omega) (by omega) (by decide), _, rfl, _, rfl, a, _, _, _, rfl, rfl, hf.s s1, atI_neg (pl_last f0), _, _, rfl, rfl, mulOk (a := 40) (b := 32) (by omega) hlc (by decide), ?_⟩
  refine ⟨_, rfl, _, rfl, a, f, rfl, hf.s s1, ?_⟩
  have ed : ((P.len f : Nat) : Int) - 1 = ((P.len f - 1 : Nat) : Int) := by omega
  rw [ed]
  refine ⟨(P.len f - 1 : Nat), rfl, by omega, by omega, for_range (lo := 0) (n := P.len f - 1) (fun i σ H' => H' = H1 ∧ ∃ u2 : Option V, σ = [some (.ref a), some (.int (2 ^ i * (2 * (P.len f : Nat) * (gr f : Nat) * P.lc f))), u2]) ⟨rfl, none, by rw [Int.pow_zero, Int.one_mul]; rfl⟩ ?_ ?_⟩
  · rintro i σ H' hi ⟨rfl, u2, rfl⟩
    have p1 : (0 : Int) < 2 ^ i := Int.pow_pos (by decide)
    have p2 : (2 : Int) ^ i ≤ 2 ^ 8 := by
      have : (2 : Nat) ^ i ≤ 2 ^ 8 := Nat.pow_le_pow_right (by decide) (by omega)
      exact_mod_cast this
    have t1 := Int.mul_le_mul p2 r1 r0 (by omega)
    have t0 := Int.mul_nonneg (show (0 : Int) ≤ 2 ^ i by omega) r0
    refine ⟨_, rfl, _, _, rfl, rfl, mulOk (a := 2) (b := 90) (by decide) (by omega) (by decide), rfl, some (.int (0 + (i : Nat))), ?_⟩
    rw [show (2 : Int) ^ (i + 1) * (2 * (P.len f : Nat) * (gr f : Nat) * P.lc f) = 2 * (2 ^ i * (2 * (P.len f : Nat) * (gr f : Nat) * P.lc f)) by rw [Int.pow_succ]; grind]
    rfl
  · rintro σ H' ⟨rfl, u2, rfl⟩
    exact ⟨_, rfl, go _ s1⟩
def sp_powered (K : PySem.W.Frag) : Sp := mk2 fun x y H Q => ∃ (t : Int) (e b : Nat), x = .int t ∧ y = .int (e : Nat) ∧ 1 < t ∧ t.natAbs < 2 ^ 17 ∧ e ≤ 100000 ∧ (t ^ e).natAbs < 2 ^ b ∧ b ≤ 1000 ∧ Q (.int (t ^ e)) H
abbrev s_powered : Stmt := topS 61
abbrev N_powered : List Str := ["t", "e", "found", "k"]
theorem sc_powered : FnScope N_powered ["t", "e"] (defScope s_powered) := ⟨rfl, rfl, rfl, by decide +kernel, rfl, by decide +kernel, by decide +kernel⟩
theorem ok_powered (A : At K mg "powered" s_powered) (T : Txt mg) : Dn Pg w K mg base "powered" 41 ["t", "e"] (sp_powered K) := by
  refine mkDn A sc_powered (fun _ _ _ _ _ _ us hl => match us, hl with | [_, _], _ => rfl) (fun vs H Q E ⟨_, _, e, _⟩ => by rw [e]; rfl) fun f cdv A outer s H vs Q E hr h => ?_
  refine ⟨_, (pss_cons (ps_set (i := 2) sc_powered.nd rfl (.inl rfl) pe_int)
      (pss_cons (ps_for PassesOwn.never rfl (pi_range1 (by rfl) T.range (pa_cons (pv 1) pa_nil)) (pg_name (i := 3) sc_powered.nd rfl (.inl rfl)) (pss_one (ps_set (i := 2) sc_powered.nd rfl (.inl rfl) (pe_op op_mulB (pv 2) (pv 0)))))
      (pss_one (ps_ret (pv 2))))), ?_⟩
  obtain ⟨v0, v1, rfl, h⟩ := h
  obtain ⟨t, e, b, rfl, rfl, ht1, htb, he, hb, b1, go⟩ := h
  refine ⟨_, rfl, (e : Nat), rfl, by omega, by omega, for_range (lo := 0) (n := e) (fun i σ H' => H' = H ∧ ∃ u3 : Option V, σ = [some (.int t), some (.int (e : Nat)), some (.int (t ^ i)), u3]) ⟨rfl, none, by rw [Int.pow_zero]; rfl⟩ ?_ ?_⟩
  · rintro i σ H' hi ⟨rfl, u3, rfl⟩
    have hp1 := pow_lt ht1 hi
    have hp0 : 0 < t ^ i := Int.pow_pos (by omega)
    refine ⟨_, rfl, _, rfl, _, _, rfl, rfl, mulOk (a := b) (b := 17) (by omega) htb (by omega), rfl, some (.int (0 + (i : Nat))), ?_⟩
    rw [Int.pow_succ]
    rfl
  · rintro σ H' ⟨rfl, u3, rfl⟩
    exact ⟨_, rfl, go⟩
def sp_great_power (K : PySem.W.Frag) : Sp := mk2 fun x y H Q => ∃ (a : Addr) (f : P) (t : Int), x = .ref a ∧ y = .int t ∧ AtP K H a f ∧ f ≠ 0 ∧ P.len f ≤ 9 ∧ P.Bt 32 f ∧ 0 < P.lc f ∧ 1 < t ∧ t < 2 ^ 17 ∧ ∀ e : Nat, 1 ≤ e → e ≤ 100 → room f < t ^ e → (t ^ e).natAbs < 2 ^ 100 → ∀ H', Same H H' → Q (.int (e : Nat)) H'
abbrev s_great_power : Stmt := topS 62
abbrev N_great_power : List Str := ["one", "t", "e", "m"]
theorem sc_great_power : FnScope N_great_power ["one", "t"] (defScope s_great_power) := ⟨rfl, rfl, rfl, by decide +kernel, rfl, by decide +kernel, by decide +kernel⟩
theorem ok_great_power (A : At K mg "great_power" s_great_power) (T : Txt mg) (d_room_for : Dn Pg w K mg base "room_for" 42 ["one"] (sp_room_for K)) : Dn Pg w K mg base "great_power" 43 ["one", "t"] (sp_great_power K) := by
  refine mkDn A sc_great_power (fun _ _ _ _ _ _ us hl => match us, hl with | [_, _], _ => rfl) (fun vs H Q E ⟨_, _, e, _⟩ => by rw [e]; rfl) fun f cdv A outer s H vs Q E hr h => ?_
  refine ⟨_, (pss_cons (ps_set (i := 2) sc_great_power.nd rfl (.inl rfl) pe_int)
      (pss_cons (ps_set (i := 3) sc_great_power.nd rfl (.inl rfl) (pv 1))
      (pss_cons (ps_while PassesOwn.never (pt_cmpR op_le (pv 3) (pe_own d_room_for (hr.mono (by decide)) (by rfl) (pa_cons (pv 0) pa_nil)) (nomark _)) (pss_cons (ps_set (i := 3) sc_great_power.nd rfl (.inl rfl) (pe_op op_mulB (pv 3) (pv 1)))
      (pss_one (ps_set (i := 2) sc_great_power.nd rfl (.inl rfl) (pe_op op_add (pv 2) pe_int)))))
      (pss_one (ps_ret (pv 2)))))), ?_⟩
  obtain ⟨v0, v1, rfl, h⟩ := h
  obtain ⟨a, f, t, rfl, rfl, hf, f0, lf, bf, lc0, ht1, ht2, go⟩ := h
  have rb := room_bd lf bf f0 lc0
  have key : ∀ e : Nat, 1 ≤ e → (e = 1 ∨ t ^ (e - 1) ≤ room f) → e ≤ 100 ∧ 0 < t ^ e ∧ t ^ e < 2 ^ 95 := fun e h1 h => by
    have p0 : 0 < t ^ e := Int.pow_pos (by omega)
    rcases h with h | h
    · subst h
      rw [Int.pow_one] at *
      exact ⟨by omega, by omega, by omega⟩
    · have p1 : 0 < t ^ (e - 1) := Int.pow_pos (by omega)
      have e1 : t ^ e = t ^ (e - 1) * t := by rw [← Int.pow_succ]; congr 1; omega
      refine ⟨Classical.byContradiction fun z => ?_, p0, ?_⟩
      · have h2 : (2 : Int) ^ (e - 1) ≤ t ^ (e - 1) := by
          obtain ⟨n, rfl⟩ := Int.eq_ofNat_of_zero_le (show 0 ≤ t by omega)
          have : 2 ^ (e - 1) ≤ n ^ (e - 1) := Nat.pow_le_pow_left (by omega) _
          exact_mod_cast this
        have h3 : (2 : Int) ^ 77 ≤ 2 ^ (e - 1) := by
          have : (2 : Nat) ^ 77 ≤ 2 ^ (e - 1) := Nat.pow_le_pow_right (by decide) (by omega)
          exact_mod_cast this
        omega
      · rw [e1]
        have := Int.mul_le_mul (show t ^ (e - 1) ≤ 2 ^ 77 by omega) (show t ≤ 2 ^ 17 by omega) (by omega) (by omega)
        omega
  refine ⟨_, rfl, fun mm σ H' => Same H H' ∧ ∃ e : Nat, σ = [some (.ref a), some (.int t), some (.int (e : Nat)), some (.int (t ^ e))] ∧ 1 ≤ e ∧ (e = 1 ∨ t ^ (e - 1) ≤ room f) ∧ mm = (room f + 1 - t ^ e).toNat, ⟨_, Same.refl _, 1, by rw [Int.pow_one]; rfl, by decide, .inl rfl, rfl⟩, ?_⟩
  rintro mm σ H' ⟨s1, e, rfl, e1, he, rfl⟩
  obtain ⟨k1, k2, k3⟩ := key e e1 he
  refine ⟨_, rfl, _, rfl, _, rfl, a, f, rfl, hf.s s1, f0, lf, bf, lc0, fun H2 s2 => ⟨_, _, rfl, rfl, _, rfl, ite2 (fun c => ?_) fun c => ?_⟩⟩
  · have c := of_decide_eq_true c
    have hlt : t ^ e < t ^ (e + 1) := pow_lt ht1 (Nat.lt_succ_self e)
    refine ⟨_, fun _ _ h => h, _, rfl, _, rfl, _, _, rfl, rfl, mulOk (a := 96) (b := 18) (by omega) (by omega) (by decide), _, rfl, _, _, rfl, rfl, (room f + 1 - t ^ (e + 1)).toNat, by omega, s1.trans s2, e + 1, ?_, by omega, .inr c, rfl⟩
    rw [Int.pow_succ]
    rfl
  · have c : ¬ t ^ e ≤ room f := fun z => c (decide_eq_true z)
    exact ⟨_, rfl, go e e1 k1 (by omega) (by omega) _ (s1.trans s2)⟩
def sp_middled (K : PySem.W.Frag) : Sp := mk2 fun x y H Q => ∃ (a : Addr) (f : P) (m : Int) (b : Nat), x = .ref a ∧ y = .int m ∧ AtP K H a f ∧ 0 < m ∧ P.Bt b f ∧ b ≤ 1000000 ∧ P.len f ≤ 1000 ∧ giveP K (midP m f) H Q
abbrev s_middled : Stmt := topS 65
abbrev N_middled : List Str := ["one", "m", "found", "weight"]
theorem sc_middled : FnScope N_middled ["one", "m"] (defScope s_middled) := ⟨rfl, rfl, rfl, by decide +kernel, rfl, by decide +kernel, by decide +kernel⟩
theorem ok_middled (A : At K mg "middled" s_middled) (T : Txt mg) (d_poly : Dn Pg w K mg base "poly" 41 ["weights"] (sp_poly K)) : Dn Pg w K mg base "middled" 42 ["one", "m"] (sp_middled K) := by
  refine mkDn A sc_middled (fun _ _ _ _ _ _ us hl => match us, hl with | [_, _], _ => rfl) (fun vs H Q E ⟨_, _, e, _⟩ => by rw [e]; rfl) fun f cdv A outer s H vs Q E hr h => ?_
  refine ⟨_, (pss_cons (ps_set (i := 2) sc_middled.nd rfl (.inl rfl) (pe_lst pa_nil))
      (pss_cons (ps_for PassesOwn.never rfl (pi_tupK (K := K) (pv 0)) (pg_name (i := 3) sc_middled.nd rfl (.inl rfl)) (pss_cons (ps_if (pt_cmpR op_gt (pe_op op_mulB pe_int (pv 3)) (pv 1) (nomark _)) (pss_one (ps_set (i := 3) sc_middled.nd rfl (.inl rfl) (pe_op op_sub (pv 3) (pv 1)))) pss_nil)
      (pss_one (ps_expr (pe_bm PySem.F.plainAttrs_list PySem.F.slot_list_append PySem.F.type_list_append mt_append (pv 2) (pa_cons (pv 3) pa_nil))))))
      (pss_one (ps_ret (pe_own d_poly (hr.mono (by decide)) (by rfl) (pa_cons (pv 2) pa_nil)))))), ?_⟩
  obtain ⟨v0, v1, rfl, h⟩ := h
  obtain ⟨a, f, m, b, rfl, rfl, hf, hm, bf, hb, lf, q⟩ := h
  have szl : sizeLine = 16777216 := by decide
  refine ⟨sz0, fun D hD => ?_⟩
  refine ⟨_, rfl, a, rfl, ⟨_, hf.s (same_new hD)⟩, for_tup (xs := pl f) (fun i σ H' => (∃ u3 : Option V, σ = [some (.ref a), some (.int m), some (.ref D), u3]) ∧ Grow H D (tab (midP m f).c i) H') ⟨⟨_, rfl⟩, .new hD⟩ (fun i σ H' _ h => hf.s h.2.same) ?_ ?_⟩
  · rintro i x σ H' hx ⟨⟨u3, rfl⟩, gr⟩
    obtain ⟨hi, rfl⟩ := pl_at hx
    have fin : ∀ (De : Ends) (y : Int), y = (midP m f).c i → (∀ σ' H', ((∃ u3 : Option V, σ' = [some (.ref a), some (.int m), some (.ref D), u3]) ∧ Grow H D (tab (midP m f).c (i + 1)) H') → De.nx σ' H') → (tDrop (tBM K "list" rAppend (tVar 2) (tCons (tVar 3) tNil))) De [some (.ref a), some (.int m), some (.ref D), some (.int y)] H' := by
      intro De y hy hDe
      refine ⟨_, rfl, .inl ⟨rfl, _, lst_at gr.d⟩, _, rfl, D, _, _, rfl, rfl, gr.d, by rw [tab_len]; omega, hDe _ _ ⟨⟨_, rfl⟩, ?_⟩⟩
      rw [hy, ← tab_succ]
      exact gr.set hD
    refine ⟨_, rfl, _, _, rfl, rfl, mulOk (a := 2) (b := b) (by decide) (bf i) (by omega), _, rfl, _, _, rfl, rfl, _, rfl, ite2 (fun c => ?_) fun c => ?_⟩
    · have c := of_decide_eq_true c
      refine ⟨_, rfl, _, rfl, _, _, rfl, rfl, fin _ _ ?_ fun _ _ h => h⟩
      rw [c_midP hm, if_pos c]
    · have c : ¬ m < 2 * f.c i := fun z => c (decide_eq_true z)
      refine fin _ _ ?_ fun _ _ h => h
      rw [c_midP hm, if_neg c]
  · rintro σ H' ⟨⟨u3, rfl⟩, gr⟩
    rw [pl_len] at gr
    exact ⟨_, rfl, _, rfl, D, _, rfl, gr.l, (q.to gr.same).eq (ofL_tab (fun _ _ => rfl) fun k hk => by rw [c_midP hm, P.len_Z f k hk, if_neg (by omega)])⟩
end
end RH
/-! W26: primes with their parts, choices, candidates. -/
namespace RH
open PySem PySem.Spec PyProof.Rows L2 RC
/-- what the parts by a prime are -/
structure PtsF (t : Int) (f : P) (L : List P) : Prop where
  ir : ∀ p ∈ L, P.IrT t p
  rd : ∀ p ∈ L, P.Rd t p ∧ P.len p ≤ 20
  cg : P.Cg t (P.K (P.lc f) * P.prod L) f
  ln : P.len (P.prod L) = P.len f
  fr : P.FrM t (P.prod L)
  nl : L.length + 1 ≤ P.len f
theorem red_lc {t : Int} (ht : 0 < t) {f : P} (h : ¬ t ∣ P.lc f) : P.len (P.red t f) = P.len f ∧ P.Cg t (P.K (P.lc (P.red t f))) (P.K (P.lc f)) := by
  have f0 : f ≠ 0 := fun z => h (by rw [z, P.lc_0]; exact Int.dvd_zero t)
  have l1 := P.len_pos.mpr f0
  have z1 : P.Z (P.red t f) (P.len f - 1 + 1) := P.red_Z ((P.len_Z f).mono (by omega))
  have e1 : (P.red t f).c (P.len f - 1) = P.lc f % t := rfl
  have e2 : (P.red t f).c (P.len f - 1) ≠ 0 := by
    rw [e1]
    exact fun z => h (Int.dvd_of_emod_eq_zero z)
  refine ⟨by rw [P.len_is z1 e2]; omega, ?_⟩
  rw [P.lc_is z1 e2, e1]
  exact P.Cg.K ⟨-(P.lc f / t), by rw [Int.emod_def]; grind⟩
theorem PtsO.f {t : Int} (ht : 0 < t) {f : P} {L : List P} (h : PtsO t (P.red t f) L) (hn : ¬ t ∣ P.lc f) : PtsF t f L := by
  obtain ⟨e1, e2⟩ := red_lc ht hn
  exact ⟨h.ir, h.rd, ((e2.symm.mulr _).trans h.cg).trans (P.red_Cg t f), by rw [h.ln, e1], h.fr, by have := h.nl; omega⟩
theorem cop_red {t : Int} (f : P) : P.Cop t (P.red t f) (P.D (P.red t f)) ↔ P.Cop t f (P.D f) := by
  have e1 := P.red_Cg t f
  have e2 := P.D_cg e1
  constructor
  · rintro ⟨u, v, e⟩
    exact ⟨u, v, ((e1.symm.mull u).add (e2.symm.mull v)).trans e⟩
  · rintro ⟨u, v, e⟩
    exact ⟨u, v, ((e1.mull u).add (e2.mull v)).trans e⟩
theorem cntL_mono (p : Nat → Bool) (a : Nat) : ∀ m n, m ≤ n → cntL p a m ≤ cntL p a n := by
  intro m n h
  obtain ⟨d, rfl⟩ : ∃ d, n = m + d := ⟨n - m, by omega⟩
  rw [cntL_split]
  omega
/-- a prime and its parts -/
def EntV (K : PySem.W.Frag) (f : P) (D : Addr) (H : Hp) (v : V) : Prop := ∃ (t : Nat) (L : List P) (p l : Addr) (ys : List V), v = .ref p ∧ SqT K H p [.int (t : Nat), .ref l] ∧ l ≠ D ∧ H l = some (.lst ys) ∧ All2 (PV K H) ys L ∧ Gd f (t : Int) ∧ t < 2 ^ 17 ∧ PtsF t f L
theorem EntV.s {K : PySem.W.Frag} {f : P} {D : Addr} {H H' : Hp} {v : V} (h : EntV K f D H v) (e : Same H H') : EntV K f D H' v :=
  let ⟨t, L, p, l, ys, a1, a2, a3, a4, a5, a6⟩ := h
  ⟨t, L, p, l, ys, a1, Same.t e a2, a3, e _ _ a4, a5.imp fun v p h => h.s e, a6⟩
theorem EntV.put {K : PySem.W.Frag} {f : P} {D : Addr} {H : Hp} {v : V} {l0 l' : List V} (h : EntV K f D H v) (d : H D = some (.lst l0)) : EntV K f D (upd H D (.lst l')) v :=
  let ⟨t, L, p, l, ys, a1, a2, a3, a4, a5, a6⟩ := h
  ⟨t, L, p, l, ys, a1, sqT_put d a2, a3, by rw [upd_ne a3]; exact a4, a5.imp fun v p h => h.put d, a6⟩
/-- the bits of a choice -/
def bitf (c : Nat) : Nat → Bool := fun k => c / 2 ^ k % 2 == 1
theorem sel_append {α : Type} : ∀ (A B : List α) (f : Nat → Bool), P.sel f (A ++ B) = P.sel f A ++ P.sel (fun k => f (k + A.length)) B
  | [], B, f => rfl
  | a :: A, B, f => by
    have ih := sel_append A B (fun k => f (k + 1))
    have e : (fun k => (fun k => f (k + 1)) (k + A.length)) = fun k => f (k + (a :: A).length) := by
      funext k
      show f (k + A.length + 1) = f (k + (A.length + 1))
      rw [Nat.add_assoc]
    rw [e] at ih
    show (if f 0 then a :: P.sel (fun k => f (k + 1)) (A ++ B) else P.sel (fun k => f (k + 1)) (A ++ B)) = (if f 0 then a :: P.sel (fun k => f (k + 1)) A else P.sel (fun k => f (k + 1)) A) ++ _
    rw [ih]
    split <;> rfl
theorem sel_take {α : Type} {L : List α} {i : Nat} {x : α} (h : L[i]? = some x) (f : Nat → Bool) : P.sel f (L.take (i + 1)) = P.sel f (L.take i) ++ if f i = true then [x] else [] := by
  have hi : i < L.length := (List.getElem?_eq_some_iff.mp h).1
  rw [List.take_succ, h, sel_append]
  congr 1
  show (if f (0 + (L.take i).length) then x :: P.sel _ [] else P.sel _ []) = _
  rw [List.length_take, Nat.min_eq_left (by omega), Nat.zero_add]
  rfl
theorem bit_test {c k : Nat} : Builtin.bitAnd ((c : Int) / 2 ^ ((k : Int)).toNat) 1 = ((c / 2 ^ k % 2 : Nat) : Int) := by
  rw [PyProof.Rows.bitAnd_m1]
  have : ((k : Int)).toNat = k := by omega
  rw [this]
  rw [Int.natCast_emod, Int.natCast_ediv, Int.natCast_pow]
  rfl
section
variable {Pg : Program} {w : World} {K : PySem.W.Frag} {mg : Str → Option Value} {base : Heap}
def sp_fewest (K : PySem.W.Frag) : Sp := mk1 fun x H Q => ∃ (a : Addr) (xs : List V), x = .ref a ∧ SqL K H a xs ∧ xs ≠ [] ∧ (∀ v ∈ xs, ∃ (p l : Addr) (n : Int) (ys : List V), v = .ref p ∧ SqT K H p [.int n, .ref l] ∧ H l = some (.lst ys)) ∧ ∀ v ∈ xs, Q v H
abbrev s_fewest : Stmt := topS 64
abbrev N_fewest : List Str := ["some", "found", "pair"]
theorem sc_fewest : FnScope N_fewest ["some"] (defScope s_fewest) := ⟨rfl, rfl, rfl, by decide +kernel, rfl, by decide +kernel, by decide +kernel⟩
theorem ok_fewest (A : At K mg "fewest" s_fewest) (T : Txt mg) : Dn Pg w K mg base "fewest" 41 ["some"] (sp_fewest K) := by
  refine mkDn A sc_fewest (fun _ _ _ _ _ _ us hl => match us, hl with | [_], _ => rfl) (fun vs H Q E ⟨_, e, _⟩ => by rw [e]; rfl) fun f cdv A outer s H vs Q E hr h => ?_
  refine ⟨_, (pss_cons (ps_set (i := 1) sc_fewest.nd rfl (.inl rfl) (pe_ix (ix_listK (K := K)) (pv 0) pe_int (fun _ _ => rfl)))
      (pss_cons (ps_for PassesOwn.never rfl (pi_listK (K := K) (pv 0)) (pg_name (i := 2) sc_fewest.nd rfl (.inl rfl)) (pss_one (ps_if (pt_cmpR op_lt (pe_callB (call_lenK (K := K)) (by rfl) T.len PySem.boot_len (pa_cons (pe_ix (ix_tupK (K := K)) (pv 2) pe_int (fun _ _ => rfl)) pa_nil)) (pe_callB (call_lenK (K := K)) (by rfl) T.len PySem.boot_len (pa_cons (pe_ix (ix_tupK (K := K)) (pv 1) pe_int (fun _ _ => rfl)) pa_nil)) (nomark _)) (pss_one (ps_set (i := 1) sc_fewest.nd rfl (.inl rfl) (pv 2))) pss_nil)))
      (pss_one (ps_ret (pv 1))))), ?_⟩
  obtain ⟨v0, rfl, h⟩ := h
  obtain ⟨a, xs, rfl, hxs, xne, hv, go⟩ := h
  obtain ⟨x0, xs', rfl⟩ : ∃ x0 xs', xs = x0 :: xs' := by
    cases xs with
    | nil => exact absurd rfl xne
    | cons x xs' => exact ⟨x, xs', rfl⟩
  refine ⟨_, rfl, a, _, _, x0, rfl, rfl, hxs, atI_ok (by decide) rfl, ?_⟩
  refine ⟨_, rfl, a, rfl, ⟨_, hxs⟩, for_list (xs := x0 :: xs') (fun i σ H' => H' = H ∧ ∃ (v : V) (u : Option V), v ∈ x0 :: xs' ∧ σ = [some (.ref a), some v, u]) ⟨rfl, x0, _, by simp, rfl⟩ (fun i σ H' _ h => by rw [h.1]; exact hxs) ?_ ?_⟩
  · rintro i x σ H' hx ⟨rfl, v, u, hvm, rfl⟩
    have hxm := List.mem_of_getElem? hx
    obtain ⟨p, l, n, ys, rfl, hp, hl⟩ := hv _ hxm
    obtain ⟨p2, l2, n2, ys2, rfl, hp2, hl2⟩ := hv _ hvm
    refine ⟨_, rfl, p, _, _, _, rfl, rfl, hp, atI_ok (by decide) rfl, l, _, rfl, .inl (lst_at hl), _, rfl, p2, _, _, _, rfl, rfl, hp2, atI_ok (by decide) rfl, l2, _, rfl, .inl (lst_at hl2), _, _, rfl, rfl, _, rfl, ite2 (fun c => ?_) fun c => ?_⟩
    · exact ⟨_, rfl, rfl, _, _, hxm, rfl⟩
    · exact ⟨rfl, _, _, hvm, rfl⟩
  · rintro σ H' ⟨rfl, v, u, hvm, rfl⟩
    exact ⟨_, rfl, go v hvm⟩
def sp_parts_of_primes (K : PySem.W.Frag) : Sp := mk1 fun x H Q => ∃ (a : Addr) (f : P), x = .ref a ∧ AtP K H a f ∧ P.SqF f ∧ 2 ≤ P.len f ∧ P.len f ≤ 9 ∧ P.Bt 32 f ∧ ∀ H' l xs, Same H H' → H' l = some (.lst xs) → xs ≠ [] → (∀ v ∈ xs, EntV K f l H' v) → Q (.ref l) H'
abbrev s_parts_of_primes : Stmt := topS 63
abbrev N_parts_of_primes : List Str := ["one", "found", "t"]
theorem sc_parts_of_primes : FnScope N_parts_of_primes ["one"] (defScope s_parts_of_primes) := ⟨rfl, rfl, rfl, by decide +kernel, rfl, by decide +kernel, by decide +kernel⟩
theorem ok_parts_of_primes (A : At K mg "parts_of_primes" s_parts_of_primes) (T : Txt mg) (d_free_by : Dn Pg w K mg base "free_by" 45 ["one", "t"] (sp_free_by K)) (d_by_numberT : Dn Pg w K mg base "by_number" 42 ["one", "m"] (sp_by_numberT K)) (d_is_prime : Dn Pg w K mg base "is_prime" 41 ["number"] (sp_is_prime K)) (d_parts_by : Dn Pg w K mg base "parts_by" 46 ["one", "t"] (sp_parts_by K)) (c_SOME_PRIMES : ∃ tk, mg "SOME_PRIMES" = some (.int 6 tk)) : Dn Pg w K mg base "parts_of_primes" 47 ["one"] (sp_parts_of_primes K) := by
  refine mkDn A sc_parts_of_primes (fun _ _ _ _ _ _ us hl => match us, hl with | [_], _ => rfl) (fun vs H Q E ⟨_, e, _⟩ => by rw [e]; rfl) fun f cdv A outer s H vs Q E hr h => ?_
  obtain ⟨tk_SOME_PRIMES, h_SOME_PRIMES⟩ := c_SOME_PRIMES
  refine ⟨_, (pss_cons (ps_set (i := 1) sc_parts_of_primes.nd rfl (.inl rfl) (pe_lst pa_nil))
      (pss_cons (ps_set (i := 2) sc_parts_of_primes.nd rfl (.inl rfl) pe_int)
      (pss_cons (ps_while PassesOwn.never (pt_cmpR op_lt (pe_callB (call_lenK (K := K)) (by rfl) T.len PySem.boot_len (pa_cons (pv 1) pa_nil)) (pe_glob (v := .int 6) rfl h_SOME_PRIMES ⟨_, rfl⟩) (nomark _)) (pss_cons (ps_set (i := 2) sc_parts_of_primes.nd rfl (.inl rfl) (pe_op op_add (pv 2) pe_int))
      (pss_one (ps_if (PW.pt (pw_and (pt_val (pe_own d_is_prime (hr.mono (by decide)) (by rfl) (pa_cons (pv 2) pa_nil))) (pw_and (pt_cmpR op_ne (pe_op op_modN (pe_ix (ix_tupK (K := K)) (pv 0) (pe_un un_neg pe_int) (fun _ _ => rfl)) (pv 2)) pe_int (nomark _)) (pw_and1 (pt_val (pe_own d_free_by (hr.mono (by decide)) (by rfl) (pa_cons (pe_own d_by_numberT (hr.mono (by decide)) (by rfl) (pa_cons (pv 0) (pa_cons (pv 2) pa_nil))) (pa_cons (pv 2) pa_nil)))))))) (pss_one (ps_expr (pe_bm PySem.F.plainAttrs_list PySem.F.slot_list_append PySem.F.type_list_append mt_append (pv 1) (pa_cons (pe_tup (pa_cons (pv 2) (pa_cons (pe_own d_parts_by (hr.mono (by decide)) (by rfl) (pa_cons (pe_own d_by_numberT (hr.mono (by decide)) (by rfl) (pa_cons (pv 0) (pa_cons (pv 2) pa_nil))) (pa_cons (pv 2) pa_nil))) pa_nil))) pa_nil)))) pss_nil))))
      (pss_one (ps_ret (pv 1)))))), ?_⟩
  obtain ⟨v0, rfl, h⟩ := h
  obtain ⟨a, f, rfl, hf, sqf, l2, l9, bf, go⟩ := h
  have f0 : f ≠ 0 := P.len_pos.mp (by omega)
  have szl : sizeLine = 16777216 := by decide
  have h6 := six sqf l2 l9 bf
  refine ⟨sz0, fun D hD => ?_⟩
  refine ⟨fun mm σ H' => ∃ (i : Nat) (xs : List V), σ = [some (.ref a), some (.ref D), some (.int (2 + (i : Nat)))] ∧ Grow H D xs H' ∧ xs.length = cntL (gd f) 3 i ∧ xs.length ≤ 6 ∧ (∀ v ∈ xs, EntV K f D H' v) ∧ i ≤ 81917 ∧ mm = 81917 - i, ⟨_, 0, [], rfl, .new hD, rfl, by decide, fun v h => absurd h (List.not_mem_nil), by omega, rfl⟩, ?_⟩
  rintro mm σ H' ⟨i, xs, rfl, gr, lx, lx6, hx, hi, rfl⟩
  refine ⟨_, rfl, D, _, rfl, .inl (lst_at gr.d), _, _, rfl, rfl, _, rfl, ite2 (fun c => ?_) fun c => ?_⟩
  · have c := of_decide_eq_true c
    have hi2 : i < 81917 := Classical.byContradiction fun z => by
      have : i = 81917 := by omega
      subst this
      omega
    refine ⟨_, fun _ _ h => h, _, rfl, _, _, rfl, rfl, ?_⟩
    have et : (2 : Int) + (i : Nat) + 1 = ((3 + i : Nat) : Int) := by omega
    dsimp only
    rw [et]
    have tb : 3 + i < 2 ^ 17 := by omega
    have tbI : ((3 + i : Nat) : Int) < 2 ^ 17 := by omega
    have es : ((3 + i : Nat) : Int) = 2 + ((i + 1 : Nat) : Int) := by omega
    have cs := cntL_step (gd f) 3 i
    have hno : ∀ Hx, gd f (3 + i) = false → Same H' Hx → ∃ m', m' < 81917 - i ∧ ∃ (i' : Nat) (xs : List V), [some (V.ref a), some (.ref D), some (.int ((3 + i : Nat) : Int))] = [some (.ref a), some (.ref D), some (.int (2 + (i' : Nat)))] ∧ Grow H D xs Hx ∧ xs.length = cntL (gd f) 3 i' ∧ xs.length ≤ 6 ∧ (∀ v ∈ xs, EntV K f D Hx v) ∧ i' ≤ 81917 ∧ m' = 81917 - i' := by
      intro Hx hg hs
      rw [hg] at cs
      refine ⟨81917 - (i + 1), by omega, i + 1, xs, by rw [es], gr.to hs, ?_, lx6, fun v hv => (hx v hv).s hs, by omega, rfl⟩
      rw [cs, lx]
      rfl
    have ngd : ∀ {R : Prop}, (Gd f ((3 + i : Nat) : Int) → False) → gd f (3 + i) = false := fun h => by
      cases e : gd f (3 + i) with
      | false => rfl
      | true => exact (h (gd_iff.mp e)).elim
    refine ⟨_, rfl, _, rfl, ((3 + i : Nat) : Int), rfl, by omega, by omega, fun b1 hb1 => ⟨b1, rfl, ite2 (fun c1 => ?_) fun c1 => iteF (hno _ (ngd (R := True) fun g => c1 (hb1.mpr g.1)) (Same.refl _))⟩⟩
    have pt := hb1.mp c1
    refine ⟨_, rfl, _, rfl, a, _, _, _, rfl, rfl, hf.s gr.same, atI_neg (pl_last f0), _, rfl, _, _, rfl, rfl, by omega, rfl, _, rfl, ite2 (fun c2 => ?_) fun c2 => ?_⟩
    rotate_left
    · have c2 : (P.lc f).fmod ((3 + i : Nat) : Int) = 0 := Classical.byContradiction fun z => c2 (neI.mpr z)
      rw [fmod_pos (by omega)] at c2
      exact iteF (hno _ (ngd (R := True) fun g => g.2.1 (Int.dvd_of_emod_eq_zero c2)) (Same.refl _))
    have c2 := neI.mp c2
    rw [fmod_pos (by omega)] at c2
    have ndv : ¬ ((3 + i : Nat) : Int) ∣ P.lc f := fun z => c2 (Int.emod_eq_zero_of_dvd z)
    obtain ⟨el, _⟩ := red_lc (by omega) ndv
    refine ⟨_, rfl, _, rfl, _, _, rfl, a, f, ((3 + i : Nat) : Int), rfl, rfl, hf.s gr.same, by omega, by omega, fun H2 p2 s2 t2 => ?_⟩
    refine ⟨_, rfl, _, _, rfl, p2, _, ((3 + i : Nat) : Int), rfl, rfl, t2, P.len_pos.mp (by omega), by omega, P.red_Rd (by omega) _, pt, tbI, fun b3 hb3 H3 s3 => ⟨b3, rfl, ite2 (fun c3 => ?_) fun c3 => hno _ (ngd (R := True) fun g => c3 (hb3.mpr ((cop_red f).mpr g.2.2))) (s2.trans s3)⟩⟩
    have cop := (cop_red f).mp (hb3.mp c3)
    have hgd : Gd f ((3 + i : Nat) : Int) := ⟨pt, ndv, cop⟩
    have s23 := s2.trans s3
    have gr3 := gr.to s23
    refine ⟨_, rfl, .inl ⟨rfl, _, lst_at gr3.d⟩, _, rfl, _, rfl, _, rfl, _, _, rfl, a, f, ((3 + i : Nat) : Int), rfl, rfl, hf.s gr3.same, by omega, by omega, fun H4 p4 s4 t4 => ?_⟩
    have frf : P.FrM ((3 + i : Nat) : Int) (P.red ((3 + i : Nat) : Int) f) := P.FrM.of ((cop_red f).mpr cop)
    refine ⟨_, rfl, _, _, rfl, p4, _, 3 + i, rfl, rfl, t4, P.red_Rd (by omega) _, by omega, by omega, pt, tb, frf, fun L hL H5 l5 ys s5 n5 d5 al5 => ?_⟩
    have s35 := (s23.trans s4).trans s5
    have gr5 := gr.to s35
    have n5D : l5 ≠ D := fun z => by
      have := none_same s4 (show H4 l5 = none from n5)
      rw [z, gr3.d] at this
      cases this
    refine ⟨sz2, fun p6 hp6 => ?_⟩
    have s6 := same_new (o := .tup [.int ((3 + i : Nat) : Int), .ref l5]) hp6
    have gr6 := gr5.to s6
    refine ⟨D, xs, _, rfl, rfl, gr6.d, by omega, 81917 - (i + 1), by omega, i + 1, xs ++ [.ref p6], by rw [← es]; rfl, gr6.set hD, ?_, ?_, fun v hv => ?_, by omega, rfl⟩
    · rw [List.length_append, cs, gd_iff.mpr hgd, lx]
      rfl
    · rw [List.length_append, List.length_singleton]
      omega
    · rcases List.mem_append.mp hv with hv | hv
      · exact (((hx v hv).s s35).s s6).put gr6.d
      · rw [List.mem_singleton] at hv
        subst hv
        refine EntV.put ?_ gr6.d
        exact ⟨3 + i, L, p6, l5, ys, rfl, tup_at (upd_same ..), n5D, s6 _ _ d5, al5.imp fun v p h => h.s s6, hgd, tb, hL.f (by omega) ndv⟩
  · have c : ¬ ((xs.length : Nat) : Int) < 6 := fun z => c (decide_eq_true z)
    refine ⟨_, rfl, go _ D xs gr.same gr.d (fun z => by rw [z] at c; exact c (by decide)) hx⟩
def sp_chosen (K : PySem.W.Frag) : Sp := mk2 fun x y H Q => ∃ (a : Addr) (xs : List V) (L : List P) (c : Nat), x = .ref a ∧ y = .int (c : Nat) ∧ SqL K H a xs ∧ All2 (PV K H) xs L ∧ L.length ≤ 100 ∧ ∀ H' l ys, Same H H' → H l = none → H' l = some (.lst ys) → All2 (PV K H') ys (P.sel (bitf c) L) → Q (.ref l) H'
abbrev s_chosen : Stmt := topS 66
abbrev N_chosen : List Str := ["parts", "choice", "k", "part"]
theorem sc_chosen : FnScope N_chosen ["parts", "choice"] (defScope s_chosen) := ⟨rfl, rfl, rfl, by decide +kernel, rfl, by decide +kernel, by decide +kernel⟩
theorem ok_chosen (A : At K mg "chosen" s_chosen) (T : Txt mg) : Dn Pg w K mg base "chosen" 41 ["parts", "choice"] (sp_chosen K) := by
  refine mkDn A sc_chosen (fun _ _ _ _ _ _ us hl => match us, hl with | [_, _], _ => rfl) (fun vs H Q E ⟨_, _, e, _⟩ => by rw [e]; rfl) fun f cdv A outer s H vs Q E hr h => ?_
  refine ⟨_, (pss_one (ps_ret (pe_lc (own := [("k", 2), ("part", 3)]) (by rfl) sc_chosen.nd (pi_enumK (K := K) (by rfl) T.enumerate (pa_cons (pv 0) pa_nil)) (blkOk_by (N := N_chosen) (sc := defScope s_chosen) (by decide +kernel)) (fun _ _ _ _ _ => (pg_tupK (K := K) (n := 2) rfl (pgs_cons (pg_name (i := 2) sc_chosen.nd rfl (.inl rfl)) (pgs_cons (pg_name (i := 3) sc_chosen.nd rfl (.inl rfl)) pgs_nil)))) (fun _ _ _ _ _ => (pts_one (pt_cmpR op_eq (pe_op op_and (pe_op op_shr (pv 1) (pv 2)) pe_int) pe_int (nomark _)))) (fun _ _ _ _ _ => (pv 3))))), ?_⟩
  obtain ⟨v0, v1, rfl, h⟩ := h
  obtain ⟨a, xs, L, c, rfl, rfl, hxs, hL, lL, go⟩ := h
  have lx := hL.len
  have szl : sizeLine = 16777216 := by decide
  refine ⟨_, rfl, a, _, rfl, hxs, fun D hD => lc_at xs.length (fun i H' => ∃ ys, Grow H D ys H' ∧ ys.length ≤ i ∧ All2 (PV K H') ys (P.sel (bitf c) (L.take i))) ⟨[], .new hD, Nat.le_refl _, .nil⟩ ?_ ?_⟩
  · rintro i H' hi ⟨ys, gr, ly, hys⟩
    have hx := List.getElem?_eq_getElem hi
    generalize xs[i] = x at hx
    obtain ⟨p, hpL, ⟨ap, rfl, hap⟩⟩ := hL.get hx
    have sq : SqL K H' a xs := gr.same.seq hxs
    obtain ⟨hgo, hy⟩ := enumL_go sq hx
    refine ⟨hgo, fun v H2 hv => ?_⟩
    obtain ⟨T2, rfl, hT2, rfl⟩ := hy _ _ hv
    have s2 := same_new (o := .tup [.int (i : Nat), .ref ap]) hT2
    have gr2 := gr.to s2
    have est := sel_take hpL (bitf c)
    have bt := @bit_test c i
    refine ⟨T2, _, rfl, tup_at (upd_same ..), rfl, _, _, rfl, _, _, rfl, rfl, rfl, ?_⟩
    refine ⟨_, rfl, _, rfl, _, _, rfl, rfl, show (0 : Int) ≤ (i : Nat) by omega, _, _, rfl, rfl, rfl, _, rfl, ite2 (fun z => ?_) fun z => ?_⟩
    · have z := eqI.mp z
      rw [bt] at z
      have hb : bitf c i = true := by
        unfold bitf
        rw [beq_iff_eq]
        omega
      rw [if_pos hb] at est
      refine ⟨_, rfl, ys, gr2.d, by omega, ys ++ [.ref ap], gr2.set hD, by rw [List.length_append, List.length_singleton]; omega, ?_⟩
      rw [est]
      exact (hys.imp fun v p h => (h.s s2).put gr2.d).append (.cons ⟨ap, rfl, (hap.s gr2.same).put gr2.d⟩ .nil)
    · have hb : ¬ bitf c i = true := fun q => z (eqI.mpr (by
        unfold bitf at q
        rw [beq_iff_eq] at q
        rw [bt]
        omega))
      rw [if_neg hb, List.append_nil] at est
      exact ⟨ys, gr2, by omega, by rw [est]; exact hys.imp fun v p h => h.s s2⟩
  · rintro H' ⟨ys, gr, ly, hys⟩
    rw [lx, List.take_length] at hys
    exact ⟨enumL_stop (gr.same.seq hxs) rfl, go _ D ys gr.same hD gr.d hys⟩
def sp_candidate (K : PySem.W.Frag) : Sp := mk3 fun x y z H Q => ∃ (a b : Addr) (xs : List V) (f : P) (S : List P) (m : Int) (bm : Nat), x = .ref a ∧ y = .ref b ∧ z = .int m ∧ AtP K H a f ∧ SqL K H b xs ∧ All2 (PV K H) xs S ∧ f ≠ 0 ∧ 1 < m ∧ m.natAbs < 2 ^ bm ∧ bm ≤ 1000 ∧ S.length ≤ 20 ∧ (∀ p ∈ S, P.len p ≤ 20 ∧ P.Rd m p) ∧ ∀ c, P.Cand m f S c → giveP K c H Q
abbrev s_candidate : Stmt := topS 67
abbrev N_candidate : List Str := ["one", "parts", "m", "found"]
theorem sc_candidate : FnScope N_candidate ["one", "parts", "m"] (defScope s_candidate) := ⟨rfl, rfl, rfl, by decide +kernel, rfl, by decide +kernel, by decide +kernel⟩
theorem ok_candidate (A : At K mg "candidate" s_candidate) (T : Txt mg) (d_product_by : Dn Pg w K mg base "product_by" 44 ["some", "m"] (sp_product_by K)) (d_plain : Dn Pg w K mg base "plain" 44 ["one"] (sp_plain K)) (d_middled : Dn Pg w K mg base "middled" 42 ["one", "m"] (sp_middled K)) (d_m_times : Dn Pg w K mg base "m_times" 43 ["one", "other", "m"] (sp_m_times K)) (d_by_numberU : Dn Pg w K mg base "by_number" 42 ["one", "m"] (sp_by_numberU K)) : Dn Pg w K mg base "candidate" 45 ["one", "parts", "m"] (sp_candidate K) := by
  refine mkDn A sc_candidate (fun _ _ _ _ _ _ us hl => match us, hl with | [_, _, _], _ => rfl) (fun vs H Q E ⟨_, _, _, e, _⟩ => by rw [e]; rfl) fun f cdv A outer s H vs Q E hr h => ?_
  refine ⟨_, (pss_cons (ps_set (i := 3) sc_candidate.nd rfl (.inl rfl) (pe_own d_product_by (hr.mono (by decide)) (by rfl) (pa_cons (pv 1) (pa_cons (pv 2) pa_nil))))
      (pss_one (ps_ret (pe_own d_plain (hr.mono (by decide)) (by rfl) (pa_cons (pe_own d_middled (hr.mono (by decide)) (by rfl) (pa_cons (pe_own d_m_times (hr.mono (by decide)) (by rfl) (pa_cons (pv 3) (pa_cons (pe_own d_by_numberU (hr.mono (by decide)) (by rfl) (pa_cons (pe_tup (pa_cons (pe_ix (ix_tupK (K := K)) (pv 0) (pe_un un_neg pe_int) (fun _ _ => rfl)) pa_nil)) (pa_cons (pv 2) pa_nil))) (pa_cons (pv 2) pa_nil)))) (pa_cons (pv 2) pa_nil))) pa_nil))))), ?_⟩
  obtain ⟨v0, v1, v2, rfl, h⟩ := h
  obtain ⟨a, b, xs, f, S, m, bm, rfl, rfl, rfl, hf, hxs, hS, f0, hm, hbm, b1, lS, hp, go⟩ := h
  have lP : P.len (P.prod S) ≤ 20 * S.length + 1 := prod_len_le fun q hq => (hp q hq).1
  have lP2 := len_red m (P.prod S)
  refine ⟨_, rfl, _, rfl, _, _, rfl, b, xs, S, m, bm, bm, rfl, rfl, hxs, hS, by omega, fun p q => ⟨(hp p q).1, Rd_bt (hp p q).2 hbm⟩, hm, hbm, by omega, fun H1 p1 s1 t1 => ?_⟩
  refine ⟨_, rfl, _, rfl, _, rfl, a, _, _, _, rfl, rfl, hf.s s1, atI_neg (pl_last f0), sz1, fun p2 hp2 => ?_⟩
  have s2 := same_new (o := .tup [.int (P.lc f)]) hp2
  refine ⟨_, rfl, _, _, rfl, p2, [P.lc f], m, rfl, rfl, tup_at (upd_same ..), by omega, (show 1 ≤ 10000 by decide), fun H3 p3 s3 t3 => ?_⟩
  rw [ofL_one] at t3
  have lk : P.len (P.red m (P.K (P.lc f))) ≤ 1 := Nat.le_trans (len_red _ _) (P.len_le_K _)
  have s23 := s2.trans s3
  refine ⟨_, rfl, _, _, _, rfl, p1, p3, _, _, m, bm, bm, rfl, rfl, rfl, t1.s s23, t3, by omega, by omega, by omega, Rd_bt (P.red_Rd (by omega) _) hbm, Rd_bt (P.red_Rd (by omega) _) hbm, by omega, fun H4 p4 s4 t4 => ?_⟩
  have lm := len_red m (P.red m (P.prod S) * P.red m (P.K (P.lc f)))
  have lm2 := len_mul' (P.red m (P.prod S)) (P.red m (P.K (P.lc f)))
  refine ⟨_, rfl, _, _, rfl, p4, _, m, bm, rfl, rfl, t4, by omega, Rd_bt (P.red_Rd (by omega) _) hbm, by omega, by omega, fun H5 p5 s5 t5 => ?_⟩
  have lmm : P.len (midP m (P.red m (P.red m (P.prod S) * P.red m (P.K (P.lc f))))) ≤ 1000 := by
    refine Nat.le_trans (P.len_min (n := P.len (P.red m (P.red m (P.prod S) * P.red m (P.K (P.lc f))))) fun k hk => ?_) (by omega)
    rw [c_midP (by omega), P.len_Z _ k hk, if_neg (by omega)]
  refine ⟨_, rfl, p5, _, rfl, t5, lmm, fun c hc => ?_⟩
  refine ((((go c ⟨_, ?_, hc⟩).to s1).to s23).to s4).to s5
  refine Mid_cg (midP_mid (by omega) (P.red_Rd (by omega) _)) ?_
  refine P.Cg.symm ((P.red_Cg m _).trans (((P.red_Cg m _).mul (P.red_Cg m _)).trans (P.Cg.of_eq (by grind))))
end
end RH
/-! W27: the least part. -/
namespace RH
open PySem PySem.Spec PyProof.Rows L2 RC
theorem PlOf_eq {p c d : P} (h : P.PlOf p c) (g : P.PlOf p d) : c = d := by
  rcases h with ⟨e, h⟩ | ⟨h, x, hx, e⟩
  · rcases g with ⟨_, g⟩ | ⟨g, y, hy, e'⟩
    · rw [h, g]
    · exact absurd (e'.symm.trans e) (P.mul_ne (P.K_ne hy) g.ne)
  · rcases g with ⟨e', g⟩ | ⟨g, y, hy, e'⟩
    · exact absurd (e.symm.trans e') (P.mul_ne (P.K_ne hx) h.ne)
    · exact P.Pl.eq h g hx hy (e.symm.trans e')
theorem Cand_eq {m : Int} {f : P} {S : List P} {c d : P} (h : P.Cand m f S c) (g : P.Cand m f S d) : c = d := by
  obtain ⟨p, mp, hp⟩ := h
  obtain ⟨q, mq, hq⟩ := g
  rw [P.Mid.eq mp mq] at hp
  exact PlOf_eq hp hq
theorem Cand_ex {m : Int} (hm : 0 < m) (f : P) (S : List P) : ∃ c, P.Cand m f S c := by
  have h := Mid_cg (midP_mid hm (P.red_Rd hm (P.K (P.lc f) * P.prod S))) ((P.red_Cg m (P.K (P.lc f) * P.prod S)).symm)
  generalize midP m (P.red m (P.K (P.lc f) * P.prod S)) = p at h
  by_cases z : p = 0
  · exact ⟨0, p, h, .inl ⟨z, rfl⟩⟩
  · obtain ⟨x, c, x0, e, pc⟩ := P.ex_pl z
    exact ⟨c, p, h, .inr ⟨pc, x, x0, e⟩⟩
/-- what is known of a candidate -/
theorem Cand_bd {m : Int} {bm : Nat} (hm : 1 < m) (hb : m.natAbs < 2 ^ bm) {f : P} {S : List P} (hS : P.Mon (P.prod S)) (hn : ¬ m ∣ P.lc f) {c : P} (h : P.Cand m f S c) : P.Pl c ∧ P.Bt bm c ∧ P.len c ≤ P.len (P.prod S) := by
  obtain ⟨p, mp, hp⟩ := h
  have small : ∀ k, m ∣ p.c k → p.c k = 0 := fun k ⟨z, hz⟩ => by
    have := mp.2 k
    by_cases c : z = 0
    · rw [hz, c, Int.mul_zero]
    · rcases Int.lt_or_gt_of_ne c with c | c
      · have : m * z ≤ m * (-1) := Int.mul_le_mul_of_nonneg_left (by omega) (by omega)
        omega
      · have : m * 1 ≤ m * z := Int.mul_le_mul_of_nonneg_left (by omega) (by omega)
        omega
  have p0 : p ≠ 0 := fun z => by
    have h1 := P.Cg.iff.mp mp.1 (P.len (P.prod S) - 1)
    rw [z, P.c_0, P.K_mul] at h1
    have h2 : (P.prod S).c (P.len (P.prod S) - 1) = 1 := hS
    rw [h2, Int.mul_one] at h1
    exact hn (by have := Int.dvd_neg.mpr h1; rwa [show -(0 - P.lc f) = P.lc f by omega] at this)
  have lp : P.len p ≤ P.len (P.prod S) := P.len_min fun k hk => small k (by
    have h1 := P.Cg.iff.mp mp.1 k
    rw [P.K_mul, P.len_Z _ k hk, Int.mul_zero, Int.sub_zero] at h1
    exact h1)
  rcases hp with ⟨z, _⟩ | ⟨pc, x, x0, e⟩
  · exact absurd z p0
  · refine ⟨pc, Bt_div x0 e fun k => ?_, by rw [e, P.len_kmul x0] at lp; exact lp⟩
    have := mp.2 k
    omega
/-! choices -/
theorem bitf_step (c k : Nat) : bitf c (k + 1) = bitf (c / 2) k := by
  unfold bitf
  rw [show 2 ^ (k + 1) = 2 * 2 ^ k by rw [Nat.pow_succ, Nat.mul_comm], ← Nat.div_div_eq_div_mul]
theorem sel_nil {α : Type} : ∀ (L : List α) (c : Nat), c < 2 ^ L.length → (P.sel (bitf c) L = [] ↔ c = 0) ∧ (P.sel (fun k => !bitf c k) L = [] ↔ c + 1 = 2 ^ L.length)
  | [], c, h => by
    have : c = 0 := by
      have : c < 1 := h
      omega
    subst this
    exact ⟨⟨fun _ => rfl, fun _ => rfl⟩, ⟨fun _ => rfl, fun _ => rfl⟩⟩
  | x :: L, c, h => by
    have h2 : (2 : Nat) ^ (x :: L).length = 2 * 2 ^ L.length := by show 2 ^ (L.length + 1) = _; rw [Nat.pow_succ, Nat.mul_comm]
    rw [h2] at h ⊢
    obtain ⟨i1, i2⟩ := sel_nil L (c / 2) (by omega)
    have e1 : (fun k => bitf c (k + 1)) = bitf (c / 2) := funext fun k => bitf_step c k
    have e2 : (fun k => !bitf c (k + 1)) = fun k => !bitf (c / 2) k := funext fun k => by rw [bitf_step]
    have b0 : bitf c 0 = (c % 2 == 1) := by unfold bitf; rw [Nat.pow_zero, Nat.div_one]
    have s1 : P.sel (bitf c) (x :: L) = if bitf c 0 then x :: P.sel (fun k => bitf c (k + 1)) L else P.sel (fun k => bitf c (k + 1)) L := rfl
    have s2 : P.sel (fun k => !bitf c k) (x :: L) = if !bitf c 0 then x :: P.sel (fun k => !bitf c (k + 1)) L else P.sel (fun k => !bitf c (k + 1)) L := rfl
    rw [s1, s2, e1, e2, b0]
    by_cases z : c % 2 = 1
    · rw [show (c % 2 == 1) = true from beq_iff_eq.mpr z]
      refine ⟨⟨fun q => by simp at q, fun q => by omega⟩, ?_⟩
      show P.sel (fun k => !bitf (c / 2) k) L = [] ↔ _
      rw [i2]
      omega
    · have : (c % 2 == 1) = false := by cases e : (c % 2 == 1) with
        | false => rfl
        | true => exact absurd (beq_iff_eq.mp e) z
      rw [this]
      refine ⟨?_, ⟨fun q => by simp at q, fun q => by omega⟩⟩
      show P.sel (bitf (c / 2)) L = [] ↔ _
      rw [i1]
      omega
theorem sel_ex {α : Type} : ∀ (L : List α) (f : Nat → Bool), ∃ c, c < 2 ^ L.length ∧ P.sel (bitf c) L = P.sel f L ∧ P.sel (fun k => !bitf c k) L = P.sel (fun k => !f k) L
  | [], f => ⟨0, Nat.one_pos, rfl, rfl⟩
  | x :: L, f => by
    obtain ⟨c, h1, h2, h3⟩ := sel_ex L fun k => f (k + 1)
    have hp : (2 : Nat) ^ (x :: L).length = 2 * 2 ^ L.length := by show 2 ^ (L.length + 1) = _; rw [Nat.pow_succ, Nat.mul_comm]
    refine ⟨2 * c + (if f 0 = true then 1 else 0), by rw [hp]; split <;> omega, ?_⟩
    have e0 : (2 * c + (if f 0 = true then 1 else 0)) / 2 = c := by split <;> omega
    have e1 : (fun k => bitf (2 * c + (if f 0 = true then 1 else 0)) (k + 1)) = bitf c := funext fun k => by rw [bitf_step, e0]
    have e2 : (fun k => !bitf (2 * c + (if f 0 = true then 1 else 0)) (k + 1)) = fun k => !bitf c k := funext fun k => by rw [bitf_step, e0]
    have b0 : bitf (2 * c + (if f 0 = true then 1 else 0)) 0 = f 0 := by
      unfold bitf
      rw [Nat.pow_zero, Nat.div_one]
      cases f 0
      · rw [if_neg (by decide)]
        exact beq_eq_false_iff_ne.mpr (by omega)
      · rw [if_pos rfl]
        exact beq_iff_eq.mpr (by omega)
    constructor
    · show (if _ then x :: P.sel _ L else P.sel _ L) = if f 0 then x :: P.sel _ L else P.sel _ L
      rw [e1, b0, h2]
    · show (if !_ then x :: P.sel _ L else P.sel _ L) = if !f 0 then x :: P.sel _ L else P.sel _ L
      rw [e2, b0, h3]
/-- a choice that tells a part -/
def Good (m : Int) (f : P) (L : List P) (c : Nat) : Prop := ∃ d, P.Cand m f (P.sel (bitf c) L) d ∧ d ∣ f
structure LpW (f : P) (m : Int) (bm : Nat) (L : List P) : Prop where
  f0 : f ≠ 0
  lf : P.len f ≤ 9
  bf : P.Bt 64 f
  m1 : 1 < m
  mb : m.natAbs < 2 ^ bm
  b1 : bm ≤ 1000
  lL : L.length ≤ 12
  ok : ∀ p ∈ L, P.Mon p ∧ P.len p ≤ 20 ∧ P.Rd m p
  lp : P.len (P.prod L) ≤ 20
  nd : ¬ m ∣ P.lc f
theorem sel_okm {L : List P} (h : ∀ p ∈ L, P.Mon p) (g : Nat → Bool) : P.Mon (P.prod (P.sel g L)) ∧ P.len (P.prod (P.sel g L)) ≤ P.len (P.prod L) := by
  have m1 : P.Mon (P.prod (P.sel g L)) := P.prod_mon fun p hp => h p (P.sel_mem L g p hp)
  have m2 : P.Mon (P.prod (P.sel (fun k => !g k) L)) := P.prod_mon fun p hp => h p (P.sel_mem L _ p hp)
  refine ⟨m1, ?_⟩
  have := (P.len_mul m1.ne m2.ne).1
  rw [← P.sel_prod L g] at this
  have := m2.len
  omega
/-- what is told -/
def NoChoice (m : Int) (f : P) (L : List P) : Prop := ∀ c, 1 ≤ c → c + 1 < 2 ^ L.length → ¬ Good m f L c
structure Choice (m : Int) (f : P) (L : List P) (c : Nat) (part : P) : Prop where
  c1 : 1 ≤ c
  c2 : c + 1 < 2 ^ L.length
  cd : P.Cand m f (P.sel (bitf c) L) part
  dv : part ∣ f
  mn : ∀ c', 1 ≤ c' → c' + 1 < 2 ^ L.length → (P.sel (bitf c') L).length < (P.sel (bitf c) L).length → ¬ Good m f L c'
section
variable {Pg : Program} {w : World} {K : PySem.W.Frag} {mg : Str → Option Value} {base : Heap}
def sp_least_part (K : PySem.W.Frag) : Sp := mk3 fun x y z H Q => ∃ (a b : Addr) (xs : List V) (f : P) (L : List P) (m : Int) (bm : Nat), x = .ref a ∧ y = .ref b ∧ z = .int m ∧ AtP K H a f ∧ SqL K H b xs ∧ All2 (PV K H) xs L ∧ LpW f m bm L ∧ (NoChoice m f L → ∀ H', Same H H' → Q .non H') ∧ (∀ c part, Choice m f L c part → ∀ H' p a', Same H H' → SqT K H' p [.int (c : Nat), .ref a'] → AtP K H' a' part → Q (.ref p) H')
abbrev s_least_part : Stmt := topS 68
abbrev N_least_part : List Str := ["one", "parts", "m", "found", "many", "choice", "some", "part"]
theorem sc_least_part : FnScope N_least_part ["one", "parts", "m"] (defScope s_least_part) := ⟨rfl, rfl, rfl, by decide +kernel, rfl, by decide +kernel, by decide +kernel⟩
theorem ok_least_part (A : At K mg "least_part" s_least_part) (T : Txt mg) (d_chosen : Dn Pg w K mg base "chosen" 41 ["parts", "choice"] (sp_chosen K)) (d_candidate : Dn Pg w K mg base "candidate" 45 ["one", "parts", "m"] (sp_candidate K)) (d_whole_part : Dn Pg w K mg base "whole_part" 46 ["one", "other"] (sp_whole_part K)) : Dn Pg w K mg base "least_part" 47 ["one", "parts", "m"] (sp_least_part K) := by
  refine mkDn A sc_least_part (fun _ _ _ _ _ _ us hl => match us, hl with | [_, _, _], _ => rfl) (fun vs H Q E ⟨_, _, _, e, _⟩ => by rw [e]; rfl) fun f cdv A outer s H vs Q E hr h => ?_
  refine ⟨_, (pss_cons (ps_set (i := 3) sc_least_part.nd rfl (.inl rfl) pe_non)
      (pss_cons (ps_set (i := 4) sc_least_part.nd rfl (.inl rfl) (pe_callB (call_lenK (K := K)) (by rfl) T.len PySem.boot_len (pa_cons (pv 1) pa_nil)))
      (pss_cons (ps_for PassesOwn.never rfl (pi_range2 (by rfl) T.range (pa_cons pe_int (pa_cons (pe_op op_sub (pe_op op_shl pe_int (pe_callB (call_lenK (K := K)) (by rfl) T.len PySem.boot_len (pa_cons (pv 1) pa_nil))) pe_int) pa_nil))) (pg_name (i := 5) sc_least_part.nd rfl (.inl rfl)) (pss_cons (ps_set (i := 6) sc_least_part.nd rfl (.inl rfl) (pe_own d_chosen (hr.mono (by decide)) (by rfl) (pa_cons (pv 1) (pa_cons (pv 5) pa_nil))))
      (pss_one (ps_if (pt_cmpR op_lt (pe_callB (call_lenK (K := K)) (by rfl) T.len PySem.boot_len (pa_cons (pv 6) pa_nil)) (pv 4) (nomark _)) (pss_cons (ps_set (i := 7) sc_least_part.nd rfl (.inl rfl) (pe_own d_candidate (hr.mono (by decide)) (by rfl) (pa_cons (pv 0) (pa_cons (pv 6) (pa_cons (pv 2) pa_nil)))))
      (pss_one (ps_if (pt_cmpR op_notN (pe_own d_whole_part (hr.mono (by decide)) (by rfl) (pa_cons (pv 0) (pa_cons (pv 7) pa_nil))) pe_non (nomark _)) (pss_cons (ps_set (i := 3) sc_least_part.nd rfl (.inl rfl) (pe_tup (pa_cons (pv 5) (pa_cons (pv 7) pa_nil))))
      (pss_one (ps_set (i := 4) sc_least_part.nd rfl (.inl rfl) (pe_callB (call_lenK (K := K)) (by rfl) T.len PySem.boot_len (pa_cons (pv 6) pa_nil))))) pss_nil))) pss_nil))))
      (pss_one (ps_ret (pv 3)))))), ?_⟩
  obtain ⟨v0, v1, v2, rfl, h⟩ := h
  obtain ⟨a, b, xs, f, L, m, bm, rfl, rfl, rfl, hf, hxs, hL, W, go0, go1⟩ := h
  have lx := hL.len
  have lL := W.lL
  have p2 : (2 : Nat) ^ L.length ≤ 2 ^ 12 := Nat.pow_le_pow_right (by decide) lL
  have p1 := Nat.two_pow_pos L.length
  refine ⟨_, rfl, b, _, rfl, .inl hxs, ?_⟩
  rw [lx]
  refine ⟨_, rfl, b, _, rfl, .inl hxs, ?_⟩
  rw [lx]
  have eN : (1 : Int) * 2 ^ (((L.length : Nat) : Int)).toNat = ((2 ^ L.length : Nat) : Int) := by
    have : (((L.length : Nat) : Int)).toNat = L.length := by omega
    rw [this, Int.one_mul, Int.natCast_pow]
    rfl
  have eT : (((2 ^ L.length : Nat) : Int) - 1 - 1).toNat = 2 ^ L.length - 2 := by omega
  refine ⟨_, _, rfl, rfl, ⟨by omega, by omega, by decide⟩, _, _, rfl, rfl, 1, ((2 ^ L.length : Nat) : Int) - 1, congrArg (fun z => [V.int 1, V.int (z - 1)]) eN, ⟨by decide, by decide, by omega, by omega⟩, ?_⟩
  rw [eT]
  refine for_range (lo := 1) (n := 2 ^ L.length - 2) (fun i σ H' => Same H H' ∧ ∃ (v3 : V) (many : Nat) (u5 u6 u7 : Option V), σ = [some (.ref a), some (.ref b), some (.int m), some v3, some (.int (many : Nat)), u5, u6, u7] ∧ ((v3 = .non ∧ many = L.length ∧ ∀ c, 1 ≤ c → c < 1 + i → ¬ Good m f L c) ∨ (∃ c0 part p a', v3 = .ref p ∧ SqT K H' p [.int (c0 : Nat), .ref a'] ∧ AtP K H' a' part ∧ P.Cand m f (P.sel (bitf c0) L) part ∧ part ∣ f ∧ 1 ≤ c0 ∧ c0 + 1 < 2 ^ L.length ∧ many = (P.sel (bitf c0) L).length ∧ ∀ c, 1 ≤ c → c < 1 + i → (P.sel (bitf c) L).length < many → ¬ Good m f L c))) ⟨Same.refl _, .non, L.length, _, _, _, rfl, .inl ⟨rfl, rfl, fun c a b => by omega⟩⟩ ?_ ?_
  · rintro i σ H' hi ⟨s1, v3, many, u5, u6, u7, rfl, hor⟩
    have e0 : (1 : Int) + (i : Nat) = ((1 + i : Nat) : Int) := by omega
    rw [e0]
    have ln1 := P.sel_len L (bitf (1 + i))
    have lne : P.sel (fun k => !bitf (1 + i) k) L ≠ [] := fun z => by
      have := (sel_nil L (1 + i) (by omega)).2.mp z
      omega
    have lnp : 0 < (P.sel (fun k => !bitf (1 + i) k) L).length := List.length_pos_iff.mpr lne
    obtain ⟨mS, lS⟩ := sel_okm (fun p hp => (W.ok p hp).1) (bitf (1 + i))
    refine ⟨_, rfl, _, rfl, _, _, rfl, b, xs, L, 1 + i, rfl, rfl, s1.seq hxs, hL.imp fun v p h => h.s s1, by omega, fun H2 l2 ys s2 n2 d2 al2 => ?_⟩
    have ly := al2.len
    refine ⟨_, rfl, l2, _, rfl, .inl (lst_at d2), _, rfl, _, _, rfl, rfl, _, rfl, ite2 (fun c => ?_) fun c => ?_⟩
    · have c := of_decide_eq_true c
      have s12 := s1.trans s2
      refine ⟨_, rfl, _, rfl, _, rfl, _, _, _, rfl, a, l2, ys, f, _, m, bm, rfl, rfl, rfl, hf.s s12, lst_at d2, al2, W.f0, W.m1, W.mb, W.b1, by omega, fun p hp => (W.ok p (P.sel_mem L _ p hp)).2, fun part hcd H3 p3 s3 t3 => ?_⟩
      obtain ⟨plc, btc, lc'⟩ := Cand_bd W.m1 W.mb mS W.nd hcd
      have b1 := W.b1
      have lf := W.lf
      have lp := W.lp
      have s13 := s12.trans s3
      refine ⟨_, rfl, _, rfl, _, _, rfl, a, p3, f, part, 64, bm, rfl, rfl, hf.s s13, t3, plc.ne, by omega, by omega, W.bf, btc, by decide, by omega, fun d hd H4 p4 s4 t4 => ?_, fun hnd H4 s4 => ?_⟩
      · refine ⟨rfl, _, rfl, iteT ?_⟩
        refine ⟨_, rfl, _, rfl, sz2, fun p5 hp5 => ?_⟩
        have s5 := same_new (o := .tup [.int ((1 + i : Nat) : Int), .ref p3]) hp5
        have s45 := s4.trans s5
        refine ⟨_, rfl, l2, _, rfl, .inl (lst_at (s45 _ _ (s3 _ _ d2))), s13.trans s45, .ref p5, ys.length, _, _, _, rfl, .inr ⟨1 + i, part, p5, p3, rfl, tup_at (upd_same ..), t3.s s45, hcd, ⟨d, hd⟩, by omega, by omega, ly, fun c' h1 h2 h3 => ?_⟩⟩
        by_cases z : c' = 1 + i
        · rw [z] at h3
          omega
        · rcases hor with ⟨_, _, hn⟩ | ⟨c0, part0, p0, a0, _, _, _, _, _, _, _, em, hn⟩
          · exact hn c' h1 (by omega)
          · exact hn c' h1 (by omega) (by omega)
      · refine ⟨rfl, _, rfl, iteF ⟨s13.trans s4, v3, many, _, _, _, rfl, ?_⟩⟩
        have ng : ¬ Good m f L (1 + i) := fun ⟨d, hd, hdv⟩ => hnd (Cand_eq hcd hd ▸ hdv)
        rcases hor with ⟨h1, h2, hn⟩ | ⟨c0, part0, p0, a0, h1, h2, h3, h4, h5, h6, h7, em, hn⟩
        · refine .inl ⟨h1, h2, fun c' q1 q2 => ?_⟩
          by_cases z : c' = 1 + i
          · rw [z]; exact ng
          · exact hn c' q1 (by omega)
        · have ss := (s2.trans s3).trans s4
          refine .inr ⟨c0, part0, p0, a0, h1, Same.t ss h2, h3.s ss, h4, h5, h6, h7, em, fun c' q1 q2 q3 => ?_⟩
          by_cases z : c' = 1 + i
          · rw [z]; exact ng
          · exact hn c' q1 (by omega) q3
    · have c : ¬ ((ys.length : Nat) : Int) < (many : Nat) := fun z => c (decide_eq_true z)
      refine ⟨s1.trans s2, v3, many, _, _, _, rfl, ?_⟩
      rcases hor with ⟨h1, h2, hn⟩ | ⟨c0, part0, p0, a0, h1, h2, h3, h4, h5, h6, h7, em, hn⟩
      · exact absurd c (by omega)
      · refine .inr ⟨c0, part0, p0, a0, h1, Same.t s2 h2, h3.s s2, h4, h5, h6, h7, em, fun c' q1 q2 q3 => ?_⟩
        by_cases z : c' = 1 + i
        · rw [z] at q3
          omega
        · exact hn c' q1 (by omega) q3
  · rintro σ H' ⟨s1, v3, many, u5, u6, u7, rfl, hor⟩
    refine ⟨_, rfl, ?_⟩
    rcases hor with ⟨h1, h2, hn⟩ | ⟨c0, part0, p0, a0, h1, h2, h3, h4, h5, h6, h7, em, hn⟩
    · rw [h1]
      exact go0 (fun c q1 q2 => hn c q1 (by omega)) _ s1
    · rw [h1]
      exact go1 c0 part0 ⟨h6, h7, h4, h5, fun c' q1 q2 q3 => hn c' q1 (by omega) (by omega)⟩ _ p0 a0 s1 h2 h3
end
end RH
/-! W28: the whole parts. -/
namespace RH
open PySem PySem.Spec PyProof.Rows L2 RC
theorem irr_lin {f : P} (h : P.Pl f) (l : P.len f = 2) : P.Irr f := by
  refine ⟨h, by omega, fun a b e => ?_⟩
  obtain ⟨a0, b0⟩ := P.ne_of_mul (e ▸ h.ne)
  have := (P.len_mul a0 b0).1
  rw [← e] at this
  omega
theorem dvd_lc {t : Int} {a : P} {x : Int} (h : P.Cg t a (P.K x)) (l : 2 ≤ P.len a) : t ∣ P.lc a := by
  have := P.Cg.iff.mp h (P.len a - 1)
  rw [P.c_K, if_neg (by omega), Int.sub_zero] at this
  exact this
theorem irr_one {t : Int} (pt : Pr t) {f p : P} (h : P.Pl f) (l2 : 2 ≤ P.len f) (nt : ¬ t ∣ P.lc f) (ir : P.IrT t p) (cg : P.Cg t (P.K (P.lc f) * p) f) : P.Irr f := by
  refine ⟨h, l2, fun a b e => Classical.byContradiction fun z => ?_⟩
  have la : 2 ≤ P.len a := by omega
  have lb : 2 ≤ P.len b := by omega
  have el : P.lc f = P.lc a * P.lc b := by rw [e, P.lc_mul]
  have na : ¬ t ∣ P.lc a := fun d => nt (by rw [el]; exact Int.dvd_mul_of_dvd_left d)
  have nb : ¬ t ∣ P.lc b := fun d => nt (by rw [el]; exact Int.dvd_mul_of_dvd_right d)
  obtain ⟨u, hu⟩ := pt.inv nt
  have nu : ¬ t ∣ u := fun d => by
    have h1 := Int.dvd_sub (Int.dvd_mul_of_dvd_right (b := P.lc f) d) hu
    rw [show P.lc f * u - (P.lc f * u - 1) = 1 by omega] at h1
    have := Int.le_of_dvd (by decide) h1
    have := pt.1
    omega
  have cp : P.Cg t p (P.K u * a * b) := by
    have h1 : P.Cg t (P.K (P.lc f * u) * p) p := ((P.Cg.K (b := 1) hu).mulr p).trans (P.Cg.of_eq (by rw [P.K_one]; grind))
    refine h1.symm.trans ((P.Cg.of_eq (b := P.K u * (P.K (P.lc f) * p)) (by rw [P.K_mulK]; grind)).trans ((cg.mull (P.K u)).trans (P.Cg.of_eq ?_)))
    rw [e]
    grind
  rcases ir.2.2 _ _ cp with ⟨x, hx⟩ | ⟨x, hx⟩
  · have u0 : u ≠ 0 := fun q => nu (by rw [q]; exact Int.dvd_zero t)
    have := dvd_lc hx (by rw [P.len_kmul u0]; exact la)
    rw [P.lc_mul, P.lc_K] at this
    rcases pt.2 _ _ this with d | d
    · exact nu d
    · exact na d
  · exact nb (dvd_lc hx lb)
theorem irT_cg {t : Int} {G p : P} (h : P.IrT t p) (hm : P.Mon G) (hl : P.len G = P.len p) (hc : P.Cg t G p) : P.IrT t G := ⟨hm, by have := h.2.1; omega, fun a b e => h.2.2 a b (hc.symm.trans e)⟩
theorem prod_oth {L : List P} {k : Nat} {p : P} (h : L[k]? = some p) : P.prod L = P.prod (oth L k) * p := by
  have hk : k < L.length := (List.getElem?_eq_some_iff.mp h).1
  have e := List.take_append_drop k L
  rw [List.drop_eq_getElem_cons hk] at e
  rw [List.getElem?_eq_getElem hk] at h
  rw [Option.some.inj h] at e
  unfold oth
  conv => lhs; rw [← e]
  rw [P.prod_append, P.prod_append]
  show _ * (p * P.prod (L.drop (k + 1))) = _
  grind
/-- what lifting is given -/
theorem lfw_of {t e : Nat} {f : P} {L : List P} (pl : P.Pl f) (l9 : P.len f ≤ 9) (bf : P.Bt 32 f) (hg : Gd f (t : Int)) (tb : t < 2 ^ 17) (F : PtsF t f L) (e1 : 1 ≤ e) (hb : ((t : Int) ^ e).natAbs < 2 ^ 100) : LfW f t e L 100 := by
  refine ⟨hg.1, by omega, hb, e1, by decide, pl.ne, by omega, bf.mono (by decide), hg.2.1, by have := F.nl; omega, fun p hp => ⟨(F.ir p hp).1, (F.ir p hp).2.1, (F.rd p hp).2, (F.rd p hp).1⟩, fun k p hk => ?_, F.fr, F.cg, F.ln⟩
  exact F.fr _ _ (P.Cg.of_eq (prod_oth hk))
/-- the first invariant -/
theorem linv_of {t e : Nat} {f : P} {L Gs : List P} (pl : P.Pl f) (l2 : 2 ≤ P.len f) (l9 : P.len f ≤ 9) (hg : Gd f (t : Int)) (F : PtsF t f L) (hroom : room f < (t : Int) ^ e) (hG : All2 (Lft t ((t : Int) ^ e)) Gs L) (hc : P.Cg ((t : Int) ^ e) (P.K (P.lc f) * P.prod Gs) f) : P.LInv t ((t : Int) ^ e) f Gs := by
  refine ⟨pl, l2, fun G hGm => ?_, fun z => ?_, hc, hg.2.1, P.FrT.of hg.2.2, fun g h eq k => ?_⟩
  · obtain ⟨i, hi⟩ := List.getElem?_of_mem hGm
    obtain ⟨p, hp, l⟩ := hG.get hi
    exact irT_cg (F.ir p (List.mem_of_getElem? hp)) l.mon l.len l.cg
  · have := hG.len
    rw [z] at this
    have h0 : L = [] := List.eq_nil_of_length_eq_zero this.symm
    have := F.ln
    rw [h0] at this
    have : P.len (P.prod []) = 1 := P.len_1
    omega
  · have b1 := P.part_bd (A := ((gr f : Nat) : Int)) (fun k => by have := gr_le f k; omega) eq pl.ne l9 k
    have e1 : (((gr f : Nat) : Int)).natAbs = gr f := by omega
    rw [e1] at b1
    have hl := pl.2
    have r1 : (2 * (P.len f * 2 ^ (P.len f - 1) * gr f : Nat) : Int) ≤ room f := by
      unfold room
      have : (2 : Int) ^ (P.len f - 1) * (2 * (P.len f : Nat) * (gr f : Nat) * P.lc f) = (2 * (P.len f * 2 ^ (P.len f - 1) * gr f : Nat) : Int) * P.lc f := by
        push_cast
        grind
      rw [this]
      have h0 : (0 : Int) ≤ (2 * (P.len f * 2 ^ (P.len f - 1) * gr f : Nat) : Int) := by omega
      have := Int.mul_le_mul_of_nonneg_left (show 1 ≤ P.lc f by omega) h0
      omega
    omega
/-- what stands between two turns -/
structure WpI (f : P) (t e : Nat) (Fs : List P) (q : P) (Gs : List P) : Prop where
  ir : ∀ g ∈ Fs, P.Irr g
  pr : P.prod Fs * q = f
  li : P.LInv t ((t : Int) ^ e) q Gs
  rd : ∀ G ∈ Gs, P.len G ≤ 20 ∧ P.Rd ((t : Int) ^ e) G
  n : Gs.length ≤ 12
  fl : Fs.length + P.len q ≤ P.len f
theorem WpI.lpw {f : P} {t e : Nat} {Fs : List P} {q : P} {Gs : List P} (h : WpI f t e Fs q Gs) (f0 : f ≠ 0) (l9 : P.len f ≤ 9) (bf : P.Bt 32 f) (pt : Pr (t : Int)) (e1 : 1 ≤ e) (hb : ((t : Int) ^ e).natAbs < 2 ^ 100) : LpW q ((t : Int) ^ e) 100 Gs ∧ q ∣ f ∧ P.Bt 44 q ∧ P.len q ≤ 9 := by
  have dq : q ∣ f := ⟨P.prod Fs, by rw [← h.pr]; grind⟩
  have lq := P.dvd_len dq f0
  have bq := bt_part f0 l9 bf dq
  have ht := pt.1
  have hM : 1 < (t : Int) ^ e := by
    have := pow_lt ht (show 0 < e from e1)
    rw [Int.pow_zero] at this
    exact this
  have mG : ∀ G ∈ Gs, P.Mon G := fun G hG => (h.li.ir G hG).1
  have mP := P.prod_mon mG
  have nd : ¬ (t : Int) ^ e ∣ P.lc q := fun d => h.li.nt (Int.dvd_trans (by have := pow_dvd' (t : Int) e1; rwa [Int.pow_one] at this) d)
  refine ⟨⟨h.li.pl.ne, by omega, bq.mono (by decide), hM, hb, by decide, h.n, fun p hp => ⟨mG p hp, h.rd p hp⟩, ?_, nd⟩, dq, bq, by omega⟩
  · have : P.len (P.prod Gs) ≤ P.len q := Classical.byContradiction fun z => by
      have h1 := P.Cg.iff.mp h.li.eq (P.len (P.prod Gs) - 1)
      rw [P.K_mul, P.len_Z q _ (by omega), Int.sub_zero] at h1
      have h2 : (P.prod Gs).c (P.len (P.prod Gs) - 1) = 1 := mP
      rw [h2, Int.mul_one] at h1
      exact nd h1
    omega
theorem WpI.done {f : P} {t e : Nat} {Fs : List P} {q : P} {Gs : List P} (h : WpI f t e Fs q Gs) (pt : Pr (t : Int)) (e1 : 1 ≤ e) (hn : NoChoice ((t : Int) ^ e) q Gs) : P.Irr q := by
  have hM : 0 < (t : Int) ^ e := Int.pow_pos (by have := pt.1; omega)
  refine P.LInv.none pt e1 h.li (fun fn h1 h2 c hc hd => ?_) (fun S => Cand_ex hM q S)
  obtain ⟨ch, k1, k2, k3⟩ := sel_ex Gs fn
  obtain ⟨n1, n2⟩ := sel_nil Gs ch k1
  rw [k2] at n1
  rw [k3] at n2
  refine hn ch (Classical.byContradiction fun z => h1 (n1.mpr (by omega))) (Classical.byContradiction fun z => h2 (n2.mpr (by omega))) ⟨c, by rw [k2]; exact hc, hd⟩
theorem WpI.next {f : P} {t e : Nat} {Fs : List P} {q : P} {Gs : List P} (h : WpI f t e Fs q Gs) (pt : Pr (t : Int)) (e1 : 1 ≤ e) {ch : Nat} {part hh : P} (C : Choice ((t : Int) ^ e) q Gs ch part) (eq : q = part * hh) : WpI f t e (Fs ++ [part]) hh (P.sel (fun k => !bitf ch k) Gs) ∧ P.len hh < P.len q := by
  have hM : 0 < (t : Int) ^ e := Int.pow_pos (by have := pt.1; omega)
  have c2 := C.c2
  obtain ⟨n1, n2⟩ := sel_nil Gs ch (by omega)
  have hS : P.sel (bitf ch) Gs ≠ [] := fun z => by have := n1.mp z; have := C.c1; omega
  have hS' : P.sel (fun k => !bitf ch k) Gs ≠ [] := fun z => by have := n2.mp z; omega
  obtain ⟨ir, li⟩ := P.LInv.some pt e1 h.li hS hS' C.cd eq (fun fn k1 k2 c hc hd => by
    obtain ⟨ch', m1, m2, m3⟩ := sel_ex Gs fn
    obtain ⟨r1, r2⟩ := sel_nil Gs ch' m1
    rw [m2] at r1
    refine C.mn ch' (Classical.byContradiction fun z => k1 (r1.mpr (by omega))) ?_ (by rw [m2]; exact k2) ⟨c, by rw [m2]; exact hc, hd⟩
    refine Classical.byContradiction fun z => ?_
    have z1 := r2.mpr (by omega)
    have z2 := P.sel_len Gs (bitf ch')
    rw [z1, m2] at z2
    have z3 := P.sel_len Gs (bitf ch)
    have z4 : ([] : List P).length = 0 := rfl
    omega) (fun S => Cand_ex hM q S)
  have lm := (P.len_mul ir.1.ne li.pl.ne).1
  rw [← eq] at lm
  have l2 := ir.2.1
  refine ⟨⟨fun g hg => ?_, ?_, li, fun G hG => h.rd G (P.sel_mem Gs _ G hG), ?_, ?_⟩, by omega⟩
  · rcases List.mem_append.mp hg with hg | hg
    · exact h.ir g hg
    · rw [List.mem_singleton] at hg
      rw [hg]
      exact ir
  · rw [← h.pr, P.prod_append, eq]
    show P.prod Fs * (part * 1) * hh = _
    grind
  · have := P.sel_len Gs (bitf ch)
    have := h.n
    omega
  · rw [List.length_append, List.length_singleton]
    have := h.fl
    omega
/-- what the whole parts are -/
structure WpO (f : P) (Fs : List P) : Prop where
  ir : ∀ g ∈ Fs, P.Irr g
  pr : P.prod Fs = f
  n : Fs.length ≤ 20
section
variable {Pg : Program} {w : World} {K : PySem.W.Frag} {mg : Str → Option Value} {base : Heap}
def sp_whole_parts (K : PySem.W.Frag) : Sp := mk1 fun x H Q => ∃ (a : Addr) (f : P), x = .ref a ∧ AtP K H a f ∧ P.Pl f ∧ P.SqF f ∧ 2 ≤ P.len f ∧ P.len f ≤ 9 ∧ P.Bt 32 f ∧ ∀ Fs, WpO f Fs → ∀ H' l ys, Same H H' → H l = none → H' l = some (.lst ys) → All2 (PV K H') ys Fs → Q (.ref l) H'
abbrev s_whole_parts : Stmt := topS 69
abbrev N_whole_parts : List Str := ["one", "t", "parts", "e", "m", "left", "found", "choice", "k", "part"]
theorem sc_whole_parts : FnScope N_whole_parts ["one"] (defScope s_whole_parts) := ⟨rfl, rfl, rfl, by decide +kernel, rfl, by decide +kernel, by decide +kernel⟩
/-- the value of the choice -/
def ChV (K : PySem.W.Frag) (H : Hp) (m : Int) (q : P) (Gs : List P) (v : V) : Prop := (v = .non ∧ NoChoice m q Gs) ∨ ∃ (c : Nat) (part : P) (p a : Addr), v = .ref p ∧ SqT K H p [.int (c : Nat), .ref a] ∧ AtP K H a part ∧ Choice m q Gs c part
/-- while whole parts are found -/
def wpInv (K : PySem.W.Frag) (H : Hp) (D : Addr) (f : P) (t e : Nat) : Nat → L2.St → Hp → Prop := fun mm σ H' => ∃ (Fs : List P) (q : P) (Gs : List P) (ys zs : List V) (aq Dl : Addr) (v : V) (u2 : Option V), σ = [some (.ref aq), some (.int (t : Nat)), u2, some (.int (e : Nat)), some (.int ((t : Int) ^ e)), some (.ref Dl), some (.ref D), some v, none, none] ∧ Grow H D ys H' ∧ All2 (PV K H') ys Fs ∧ AtP K H' aq q ∧ Dl ≠ D ∧ H' Dl = some (.lst zs) ∧ All2 (PV K H') zs Gs ∧ WpI f t e Fs q Gs ∧ ChV K H' ((t : Int) ^ e) q Gs v ∧ mm = P.len q
theorem ok_whole_parts (A : At K mg "whole_parts" s_whole_parts) (T : Txt mg) (d_degree : Dn Pg w K mg base "degree" 41 ["one"] (sp_degree K)) (d_fewest : Dn Pg w K mg base "fewest" 41 ["some"] (sp_fewest K)) (d_parts_of_primes : Dn Pg w K mg base "parts_of_primes" 47 ["one"] (sp_parts_of_primes K)) (d_great_power : Dn Pg w K mg base "great_power" 43 ["one", "t"] (sp_great_power K)) (d_powered : Dn Pg w K mg base "powered" 41 ["t", "e"] (sp_powered K)) (d_lifted : Dn Pg w K mg base "lifted" 47 ["f", "t", "parts", "e"] (sp_lifted K)) (d_least_part : Dn Pg w K mg base "least_part" 47 ["one", "parts", "m"] (sp_least_part K)) (d_whole_part : Dn Pg w K mg base "whole_part" 46 ["one", "other"] (sp_whole_part K)) : Dn Pg w K mg base "whole_parts" 48 ["one"] (sp_whole_parts K) := by
  refine mkDn A sc_whole_parts (fun _ _ _ _ _ _ us hl => match us, hl with | [_], _ => rfl) (fun vs H Q E ⟨_, e, _⟩ => by rw [e]; rfl) fun f cdv A outer s H vs Q E hr h => ?_
  refine ⟨_, (pss_cons (ps_if (pt_cmpR op_eq (pe_own d_degree (hr.mono (by decide)) (by rfl) (pa_cons (pv 0) pa_nil)) pe_int (nomark _)) (pss_one (ps_ret (pe_lst (pa_cons (pv 0) pa_nil)))) pss_nil)
      (pss_cons (ps_asg (pe_own d_fewest (hr.mono (by decide)) (by rfl) (pa_cons (pe_own d_parts_of_primes (hr.mono (by decide)) (by rfl) (pa_cons (pv 0) pa_nil)) pa_nil)) (pg_tupK (K := K) (n := 2) rfl (pgs_cons (pg_name (i := 1) sc_whole_parts.nd rfl (.inl rfl)) (pgs_cons (pg_name (i := 2) sc_whole_parts.nd rfl (.inl rfl)) pgs_nil))))
      (pss_cons (ps_if (pt_cmpR op_eq (pe_callB (call_lenK (K := K)) (by rfl) T.len PySem.boot_len (pa_cons (pv 2) pa_nil)) pe_int (nomark _)) (pss_one (ps_ret (pe_lst (pa_cons (pv 0) pa_nil)))) pss_nil)
      (pss_cons (ps_set (i := 3) sc_whole_parts.nd rfl (.inl rfl) (pe_own d_great_power (hr.mono (by decide)) (by rfl) (pa_cons (pv 0) (pa_cons (pv 1) pa_nil))))
      (pss_cons (ps_set (i := 4) sc_whole_parts.nd rfl (.inl rfl) (pe_own d_powered (hr.mono (by decide)) (by rfl) (pa_cons (pv 1) (pa_cons (pv 3) pa_nil))))
      (pss_cons (ps_set (i := 5) sc_whole_parts.nd rfl (.inl rfl) (pe_own d_lifted (hr.mono (by decide)) (by rfl) (pa_cons (pv 0) (pa_cons (pv 1) (pa_cons (pv 2) (pa_cons (pv 3) pa_nil))))))
      (pss_cons (ps_set (i := 6) sc_whole_parts.nd rfl (.inl rfl) (pe_lst pa_nil))
      (pss_cons (ps_set (i := 7) sc_whole_parts.nd rfl (.inr rfl) (pe_own d_least_part (hr.mono (by decide)) (by rfl) (pa_cons (pv 0) (pa_cons (pv 5) (pa_cons (pv 4) pa_nil)))))
      (pss_cons (ps_while PassesOwn.never (pt_cmpR op_notN (pv 7) pe_non (nomark _)) (pss_cons (ps_expr (pe_bm PySem.F.plainAttrs_list PySem.F.slot_list_append PySem.F.type_list_append mt_append (pv 6) (pa_cons (pe_ix (ix_tupK (K := K)) (pv 7) pe_int (fun _ _ => rfl)) pa_nil)))
      (pss_cons (ps_set (i := 0) sc_whole_parts.nd rfl (.inl rfl) (pe_own d_whole_part (hr.mono (by decide)) (by rfl) (pa_cons (pv 0) (pa_cons (pe_ix (ix_tupK (K := K)) (pv 7) pe_int (fun _ _ => rfl)) pa_nil))))
      (pss_cons (ps_setLc (i := 5) (own := [("k", 8), ("part", 9)]) (by rfl) sc_whole_parts.nd rfl rfl (sw_true rfl rfl rfl (by decide +kernel)) (pi_enumK (K := K) (by rfl) T.enumerate (pa_cons (pv 5) pa_nil)) (blkOk_by (N := N_whole_parts) (sc := defScope s_whole_parts) (by decide +kernel)) (fun _ _ _ _ _ => (pg_tupK (K := K) (n := 2) rfl (pgs_cons (pg_name (i := 8) sc_whole_parts.nd rfl (.inl rfl)) (pgs_cons (pg_name (i := 9) sc_whole_parts.nd rfl (.inl rfl)) pgs_nil)))) (fun _ _ _ _ _ => (pts_one (pt_cmpR op_eq (pe_op op_and (pe_op op_shr (pe_ix (ix_tupK (K := K)) (pv 7) pe_int (fun _ _ => rfl)) (pv 8)) pe_int) pe_int (nomark _)))) (fun _ _ _ _ _ => (pv 9)))
      (pss_one (ps_set (i := 7) sc_whole_parts.nd rfl (.inr rfl) (pe_own d_least_part (hr.mono (by decide)) (by rfl) (pa_cons (pv 0) (pa_cons (pv 5) (pa_cons (pv 4) pa_nil))))))))))
      (pss_one (ps_ret (pe_op op_cat (pv 6) (pe_lst (pa_cons (pv 0) pa_nil)))))))))))))), ?_⟩
  obtain ⟨v0, rfl, h⟩ := h
  obtain ⟨a, f, rfl, hf, pl, sqf, l2, l9, bf, go⟩ := h
  have szl : sizeLine = 16777216 := by decide
  have f0 := pl.ne
  refine ⟨_, rfl, _, rfl, a, f, rfl, hf, rfl, _, rfl, ite2 (fun c => ?_) fun c => ?_⟩
  · have c := eqI.mp c
    refine ⟨_, rfl, sz1, fun p hp => ?_⟩
    have s1 := same_new (o := .lst [.ref a]) hp
    exact go [f] ⟨fun g hg => by rw [List.mem_singleton] at hg; rw [hg]; exact irr_lin pl (by omega), by show f * 1 = f; grind, (show 1 ≤ 20 by decide)⟩ _ p _ s1 hp (upd_same ..) (.cons ⟨a, rfl, hf.s s1⟩ .nil)
  refine ⟨_, rfl, _, rfl, a, f, rfl, hf, sqf, l2, l9, bf, fun H1 l1 xs1 s1 d1 ne1 en1 => ?_⟩
  refine ⟨_, rfl, l1, xs1, rfl, lst_at d1, ne1, fun v hv => ?_, fun v hv => ?_⟩
  · obtain ⟨t, L, p, l, ys, a1, a2, a3, a4, a5⟩ := en1 v hv
    exact ⟨p, l, _, ys, a1, a2, a4⟩
  obtain ⟨t, L, p, apt, xs, rfl, hp, _, dpt, hL, hg, tb, F⟩ := en1 v hv
  have pt := hg.1
  have ht1 := pt.1
  refine ⟨p, _, rfl, hp, rfl, _, _, rfl, _, _, rfl, rfl, ?_⟩
  have lx := hL.len
  refine ⟨_, rfl, apt, _, rfl, .inl (lst_at dpt), rfl, _, rfl, ite2 (fun c => ?_) fun c => ?_⟩
  · have c := eqI.mp c
    obtain ⟨p', rfl⟩ : ∃ p', L = [p'] := by
      match L, lx with
      | [], h => simp at h; rw [h] at c; simp at c
      | [p'], h => exact ⟨p', rfl⟩
      | p' :: q' :: L', h => simp at h; rw [h] at c; omega
    refine ⟨_, rfl, sz1, fun p5 hp5 => ?_⟩
    have s5 := s1.trans (same_new (o := .lst [.ref a]) hp5)
    have cg := F.cg
    rw [show P.prod [p'] = p' by show p' * 1 = p'; grind] at cg
    exact go [f] ⟨fun g hg' => by rw [List.mem_singleton] at hg'; rw [hg']; exact irr_one pt pl l2 hg.2.1 (F.ir p' (by simp)) cg, by show f * 1 = f; grind, (show 1 ≤ 20 by decide)⟩ _ p5 _ s5 (none_same s1 hp5) (upd_same ..) (.cons ⟨a, rfl, hf.s s5⟩ .nil)
  refine ⟨_, rfl, _, rfl, _, _, rfl, a, f, (t : Nat), rfl, rfl, hf.s s1, f0, l9, bf, pl.2, ht1, by omega, fun e e1 e100 hroom heb H2 s2 => ?_⟩
  have s12 := s1.trans s2
  have hbt : ((t : Nat) : Int).natAbs < 2 ^ 17 := by omega
  refine ⟨_, rfl, _, rfl, _, _, rfl, (t : Nat), e, 100, rfl, rfl, ht1, hbt, by omega, heb, by decide, ?_⟩
  refine ⟨_, rfl, _, rfl, _, rfl, _, rfl, _, _, _, _, rfl, a, apt, xs, f, (t : Nat), L, e, 100, rfl, rfl, rfl, rfl, hf.s s12, lst_at (s2 _ _ dpt), hL.imp fun v p h => h.s s2, by omega, lfw_of pl l9 bf hg tb F e1 heb, fun Gs hG hcG H3 Dl zs s3 n3 d3 al3 => ?_⟩
  have LI := linv_of pl l2 l9 hg F hroom hG hcG
  have s13 := s12.trans s3
  refine ⟨sz0, fun D hD => ?_⟩
  have hD0 := none_same s13 hD
  have sD := same_new (o := .lst []) hD
  have neD : Dl ≠ D := fun z => by rw [z, hD] at d3; cases d3
  have g0 : Grow H D [] (upd H3 D (.lst [])) := ⟨s13.trans sD, upd_same ..⟩
  have W0 : WpI f t e [] f Gs := ⟨fun g h => absurd h (List.not_mem_nil), by show (1 : P) * f = f; grind, LI, fun G hGm => by
    obtain ⟨i, hi⟩ := List.getElem?_of_mem hGm
    obtain ⟨p', hp', l⟩ := hG.get hi
    exact ⟨by rw [l.len]; exact (F.rd p' (List.mem_of_getElem? hp')).2, l.rd⟩, by have := hG.len; have := F.nl; omega, by simp⟩
  obtain ⟨lp0, _, _, _⟩ := W0.lpw f0 l9 bf pt e1 heb
  have fin : ∀ (v : V) (Hx : Hp), Same (upd H3 D (.lst [])) Hx → ChV K Hx ((t : Int) ^ e) f Gs v → wpInv K H D f t e (P.len f) [some (.ref a), some (.int (t : Nat)), some (.ref apt), some (.int (e : Nat)), some (.int ((t : Int) ^ e)), some (.ref Dl), some (.ref D), some v, none, none] Hx := fun v Hx sx hv =>
    ⟨[], f, Gs, [], zs, a, Dl, v, _, rfl, g0.to sx, .nil, hf.s ((s13.trans sD).trans sx), neD, sx _ _ (sD _ _ d3), al3.imp fun v p h => (h.s sD).s sx, W0, hv, rfl⟩
  have loop : ∀ mm σ Hx, wpInv K H D f t e mm σ Hx → tWhile (tTest (tOp (fun x y H Q => y = V.non ∧ Q (V.bl !decide (x = V.non)) H) (tVar 7) (tC .non))) (tSeq (tDrop (tBM K "list" rAppend (tVar 6) (tCons (tOp (rIxT K) (tVar 7) (tC (.int 1))) tNil))) (tSeq (tAsg (tCall (sp_whole_part K) [] E0 (tCons (tVar 0) (tCons (tOp (rIxT K) (tVar 7) (tC (.int 1))) tNil))) (gName 0)) (tSeq (tAsg (tLc (iEnum K (tCons (tVar 5) tNil)) (gTup K 2 (gCons (gName 8) (gCons (gName 9) gNil))) (tTest (tOp rEq (tOp (rI0 fun i j => V.int (Builtin.bitAnd i j)) (tOp (rI (fun _ j => 0 ≤ j) fun i j => V.int (i / 2 ^ j.toNat)) (tOp (rIxT K) (tVar 7) (tC (.int 0))) (tVar 8)) (tC (.int 1))) (tC (.int 0)))) (tVar 9) (List.map (fun x => x.snd) [(Str.ofString "k", 8), (Str.ofString "part", 9)])) (gName 5)) (tAsg (tCall (sp_least_part K) [] E0 (tCons (tVar 0) (tCons (tVar 5) (tCons (tVar 4) tNil)))) (gName 7))))) { nx := tRet (tOp rCat (tVar 6) (tLst (tCons (tVar 0) tNil))) { nx := fun x H' => Q V.non H', rt := Q }, rt := Q } σ Hx := by
    intro mm0 σ0 Hx0 hI0
    refine ⟨wpInv K H D f t e, ⟨mm0, hI0⟩, ?_⟩
    rintro mm σ Hx ⟨Fs, q, Gs, ys, zs, aq, Dl, v, u2, rfl, gr, hys, haq, neD, dDl, hzs, I, hv, rfl⟩
    obtain ⟨lp, dq, bq, lq9⟩ := I.lpw f0 l9 bf pt e1 heb
    have lys := hys.len
    have fl := I.fl
    rcases hv with ⟨rfl, hn⟩ | ⟨c, part, pc, ap, rfl, hpc, hap, C⟩
    · refine ⟨_, rfl, rfl, _, rfl, iteF ?_⟩
      refine ⟨_, rfl, _, rfl, sz1, fun p9 hp9 => ?_⟩
      have s9 := same_new (o := .lst [.ref aq]) hp9
      have gr9 := gr.to s9
      refine ⟨D, p9, _, _, rfl, rfl, gr9.d, upd_same .., by show ys.length + 1 ≤ _; omega, fun p10 hp10 => ?_⟩
      have s10 := same_new (o := .lst (ys ++ [.ref aq])) hp10
      have irq := I.done pt e1 hn
      refine go (Fs ++ [q]) ⟨fun g hg' => ?_, ?_, ?_⟩ _ p10 _ (gr9.same.trans s10) (none_same gr9.same hp10) (upd_same ..) (((hys.imp fun v p h => (h.s s9).s s10)).append (.cons ⟨aq, rfl, (haq.s s9).s s10⟩ .nil))
      · rcases List.mem_append.mp hg' with hg' | hg'
        · exact I.ir g hg'
        · rw [List.mem_singleton] at hg'
          rw [hg']
          exact irq
      · rw [P.prod_append]
        show P.prod Fs * (q * 1) = f
        rw [← I.pr]
        grind
      · rw [List.length_append, List.length_singleton]
        omega
    · refine ⟨_, rfl, rfl, _, rfl, iteT ⟨_, fun _ _ h => h, ?_⟩⟩
      refine ⟨_, rfl, .inl ⟨rfl, _, lst_at gr.d⟩, _, rfl, pc, _, _, _, rfl, rfl, hpc, atI_ok (by decide) rfl, D, ys, _, rfl, rfl, gr.d, by omega, ?_⟩
      have gr1 := gr.set hD0 (l' := ys ++ [.ref ap])
      have hys1 : All2 (PV K (upd Hx D (.lst (ys ++ [.ref ap])))) (ys ++ [.ref ap]) (Fs ++ [part]) := (hys.imp fun v p h => h.put gr.d).append (.cons ⟨ap, rfl, hap.put gr.d⟩ .nil)
      have haq1 := haq.put gr.d (l' := ys ++ [.ref ap])
      have hpc1 := sqT_put (l' := ys ++ [.ref ap]) gr.d hpc
      have hap1 := hap.put gr.d (l' := ys ++ [.ref ap])
      have dDl1 : (upd Hx D (.lst (ys ++ [.ref ap]))) Dl = some (.lst zs) := by rw [upd_ne neD]; exact dDl
      have hzs1 := hzs.imp fun v p h => PV.put h gr.d (l' := ys ++ [.ref ap])
      generalize upd Hx D (.lst (ys ++ [.ref ap])) = H1' at gr1 hys1 haq1 hpc1 hap1 dDl1 hzs1 ⊢
      have mS := (sel_okm (fun p hp => (lp.ok p hp).1) (bitf c))
      obtain ⟨plp, btp, lcp⟩ := Cand_bd lp.m1 lp.mb mS.1 lp.nd C.cd
      have lpp := P.dvd_len C.dv lp.f0
      refine ⟨_, rfl, _, rfl, pc, _, _, _, rfl, rfl, hpc1, atI_ok (by decide) rfl, _, _, rfl, aq, ap, q, part, 44, 100, rfl, rfl, haq1, hap1, plp.ne, by omega, by omega, bq, btp, by decide, by decide, fun hh ehh H5 a5 s5 t5 => ?_, fun z => absurd C.dv z⟩
      obtain ⟨I2, lt2⟩ := I.next pt e1 C ehh
      refine ⟨_, rfl, Dl, _, rfl, lst_at (s5 _ _ dDl1), fun D2 hD2 => lc_at zs.length (fun i H6 => ∃ ws, Grow H5 D2 ws H6 ∧ ws.length ≤ i ∧ All2 (PV K H6) ws (P.sel (fun k => !bitf c k) (Gs.take i))) ⟨[], .new hD2, Nat.le_refl _, .nil⟩ ?_ ?_⟩
      · rintro i H6 hi ⟨ws, g6, lw, hws⟩
        have hx := List.getElem?_eq_getElem hi
        generalize zs[i] = x at hx
        obtain ⟨G, hGi, ⟨aG, rfl, haG⟩⟩ := hzs1.get hx
        have s6 := s5.trans g6.same
        have lzs := hzs1.len
        have nGs := I.n
        have sq : SqL K H6 Dl zs := lst_at (s6 _ _ dDl1)
        obtain ⟨hgo, hy⟩ := enumL_go sq hx
        refine ⟨hgo, fun v H7 hv => ?_⟩
        obtain ⟨T2, rfl, hT2, rfl⟩ := hy _ _ hv
        have s7 := same_new (o := .tup [.int (i : Nat), .ref aG]) hT2
        have g7 := g6.to s7
        have est := sel_take hGi (fun k => !bitf c k)
        have bt := @bit_test c i
        refine ⟨T2, _, rfl, tup_at (upd_same ..), rfl, _, _, rfl, _, _, rfl, rfl, rfl, ?_⟩
        refine ⟨_, rfl, pc, _, _, _, rfl, rfl, Same.t (s6.trans s7) hpc1, atI_ok (by decide) rfl, _, rfl, _, _, rfl, rfl, show (0 : Int) ≤ (i : Nat) by omega, _, _, rfl, rfl, rfl, _, rfl, ite2 (fun z => ?_) fun z => ?_⟩
        · have z := eqI.mp z
          rw [bt] at z
          have hb : (!bitf c i) = true := by
            unfold bitf
            rw [show (c / 2 ^ i % 2 == 1) = false from beq_eq_false_iff_ne.mpr (by omega)]
            rfl
          rw [if_pos hb] at est
          refine ⟨_, rfl, ws, g7.d, by omega, ws ++ [.ref aG], g7.set hD2, by rw [List.length_append, List.length_singleton]; omega, ?_⟩
          rw [est]
          exact (hws.imp fun v p h => (h.s s7).put g7.d).append (.cons ⟨aG, rfl, ((haG.s s6).s s7).put g7.d⟩ .nil)
        · have hb : ¬ (!bitf c i) = true := fun qq => z (eqI.mpr (by
            unfold bitf at qq
            rw [bt]
            have : (c / 2 ^ i % 2 == 1) = false := by
              cases e : (c / 2 ^ i % 2 == 1) with
              | false => rfl
              | true => rw [e] at qq; cases qq
            have := beq_eq_false_iff_ne.mp this
            omega))
          rw [if_neg hb, List.append_nil] at est
          exact ⟨ws, g7, by omega, by rw [est]; exact hws.imp fun v p h => h.s s7⟩
      · rintro H6 ⟨ws, g6, lw, hws⟩
        rw [hzs1.len, List.take_length] at hws
        have s6 := s5.trans g6.same
        refine ⟨enumL_stop (lst_at (s6 _ _ dDl1)) rfl, ?_⟩
        have neD2 : D2 ≠ D := fun z => by
          have := s5 _ _ gr1.d
          rw [← z, hD2] at this
          cases this
        obtain ⟨lp2, dq2, bq2, lq2⟩ := I2.lpw f0 l9 bf pt e1 heb
        have inv : ∀ (v : V) (H8 : Hp), Same H6 H8 → ChV K H8 ((t : Int) ^ e) hh (P.sel (fun k => !bitf c k) Gs) v → wpInv K H D f t e (P.len hh) [some (.ref a5), some (.int (t : Nat)), u2, some (.int (e : Nat)), some (.int ((t : Int) ^ e)), some (.ref D2), some (.ref D), some v, none, none] H8 := fun v H8 s8 hv =>
          ⟨Fs ++ [part], hh, _, ys ++ [.ref ap], ws, a5, D2, v, u2, rfl, (gr1.to s6).to s8, hys1.imp fun v p h => (h.s s6).s s8, (t5.s g6.same).s s8, neD2, s8 _ _ g6.d, hws.imp fun v p h => h.s s8, I2, hv, rfl⟩
        refine ⟨_, rfl, _, rfl, _, rfl, _, _, _, rfl, a5, D2, ws, hh, _, _, 100, rfl, rfl, rfl, t5.s g6.same, lst_at g6.d, hws, lp2, fun hn H8 s8 => ⟨_, lt2, inv _ H8 s8 (.inl ⟨rfl, hn⟩)⟩, fun c' part' C' H8 p8 a8 s8 t8 ta8 => ⟨_, lt2, inv _ H8 s8 (.inr ⟨c', part', p8, a8, rfl, t8, ta8, C'⟩)⟩⟩
  refine ⟨_, rfl, _, rfl, _, rfl, _, _, _, rfl, a, Dl, zs, f, Gs, _, 100, rfl, rfl, rfl, hf.s (s13.trans sD), lst_at (sD _ _ d3), al3.imp fun v p h => h.s sD, lp0, fun hn H8 s8 => ?_, fun c' part' C' H8 p8 a8 s8 t8 ta8 => ?_⟩
  · exact loop _ _ _ (fin _ H8 s8 (.inl ⟨rfl, hn⟩))
  · exact loop _ _ _ (fin _ H8 s8 (.inr ⟨c', part', p8, a8, rfl, t8, ta8, C'⟩))
end
end RH
/-! W29: factors. -/
namespace RH
open PySem PySem.Spec PyProof.Rows L2 RC
/-- what the factors are -/
structure Fac (p : P) (Gs : List P) : Prop where
  ir : ∀ g ∈ Gs, P.Irr g ∧ g ∣ p
  all : ∀ q, P.Irr q → q ∣ p → q ∈ Gs
theorem dvd_prod {q : P} (hq : P.Irr q) : ∀ {Fs : List P}, q ∣ P.prod Fs → ∃ g ∈ Fs, q ∣ g
  | [], h => absurd (P.dvd_len h P.Mon.one.ne) (by have := hq.2.1; show ¬ P.len q ≤ P.len 1; rw [P.len_1]; omega)
  | g :: Fs, h => by
    rcases hq.prime (show q ∣ g * P.prod Fs from h) with h | h
    · exact ⟨g, by simp, h⟩
    · obtain ⟨g', hg, hd⟩ := dvd_prod hq h
      exact ⟨g', by simp [hg], hd⟩
theorem prod_dvd {g : P} : ∀ {Fs : List P}, g ∈ Fs → g ∣ P.prod Fs
  | g' :: Fs, h => by
    rcases List.mem_cons.mp h with rfl | h
    · exact ⟨P.prod Fs, rfl⟩
    · obtain ⟨d, hd⟩ := prod_dvd h
      exact ⟨g' * d, by show g' * P.prod Fs = _; rw [hd]; grind⟩
section
variable {Pg : Program} {w : World} {K : PySem.W.Frag} {mg : Str → Option Value} {base : Heap}
def sp_checked_bounds (K : PySem.W.Frag) : Sp := mk1 fun x H Q => ∃ (a : Addr) (p : P), x = .ref a ∧ AtP K H a p ∧ p ≠ 0 ∧ P.len p ≤ 9 ∧ (∀ k, (p.c k).natAbs < 1000000) ∧ ∀ H', Same H H' → Q .non H'
abbrev s_checked_bounds : Stmt := topS 70
abbrev N_checked_bounds : List Str := ["p"]
theorem sc_checked_bounds : FnScope N_checked_bounds ["p"] (defScope s_checked_bounds) := ⟨rfl, rfl, rfl, by decide +kernel, rfl, by decide +kernel, by decide +kernel⟩
theorem ok_checked_bounds (A : At K mg "checked_bounds" s_checked_bounds) (T : Txt mg) (d_greatest : Dn Pg w K mg base "greatest" 41 ["one"] (sp_greatest K)) (d_degree : Dn Pg w K mg base "degree" 41 ["one"] (sp_degree K)) (c_MOST_WEIGHT : ∃ tk, mg "MOST_WEIGHT" = some (.int 1000000 tk)) (c_MOST_DEGREE : ∃ tk, mg "MOST_DEGREE" = some (.int 8 tk)) : Dn Pg w K mg base "checked_bounds" 42 ["p"] (sp_checked_bounds K) := by
  refine mkDn A sc_checked_bounds (fun _ _ _ _ _ _ us hl => match us, hl with | [_], _ => rfl) (fun vs H Q E ⟨_, e, _⟩ => by rw [e]; rfl) fun f cdv A outer s H vs Q E hr h => ?_
  obtain ⟨tk_MOST_WEIGHT, h_MOST_WEIGHT⟩ := c_MOST_WEIGHT
  obtain ⟨tk_MOST_DEGREE, h_MOST_DEGREE⟩ := c_MOST_DEGREE
  refine ⟨_, (pss_one (ps_if (PW.pt (pw_or (pt_cmpR op_gt (pe_own d_degree (hr.mono (by decide)) (by rfl) (pa_cons (pv 0) pa_nil)) (pe_glob (v := .int 8) rfl h_MOST_DEGREE ⟨_, rfl⟩) (nomark _)) (pw_or1 (PW.pt (pw_and (pt_cmpR (op_neDK (K := K) hr.units) (pv 0) (pe_tup pa_nil) (nomark _)) (pw_and1 (pt_cmpR op_ge (pe_own d_greatest (hr.mono (by decide)) (by rfl) (pa_cons (pv 0) pa_nil)) (pe_glob (v := .int 1000000) rfl h_MOST_WEIGHT ⟨_, rfl⟩) (nomark _)))))))) (pss_one ps_never) pss_nil)), ?_⟩
  obtain ⟨v0, rfl, h⟩ := h
  obtain ⟨a, p, rfl, hp, p0, lp, bp, go⟩ := h
  have hg : gr p < 1000000 := by
    obtain ⟨k, _, e⟩ := gr_ex p0
    have := bp k
    omega
  refine ⟨_, rfl, _, rfl, a, p, rfl, hp, _, _, rfl, rfl, _, rfl, ite2 (fun c => absurd (of_decide_eq_true c) (by omega)) fun _ => ?_⟩
  refine ⟨_, rfl, sz0, fun p1 hp1 => neD_0 hp hp1 fun bb' hbb => ⟨bb', rfl, ite2 (fun c => ?_) fun c => absurd (hbb.mpr p0) c⟩⟩
  have s1 := same_new (o := .tup []) hp1
  refine ⟨_, rfl, _, rfl, a, p, rfl, hp.s s1, p0, by omega, fun H2 s2 => ⟨_, _, rfl, rfl, _, rfl, ite2 (fun c => absurd (of_decide_eq_true c) (by omega)) fun _ => go _ (s1.trans s2)⟩⟩
def sp_unit_of_whole (K : PySem.W.Frag) : Sp := mk1 fun x H Q => ∃ (a : Addr) (p : P), x = .ref a ∧ AtP K H a p ∧ p ≠ 0 ∧ ∀ H' n, Same H H' → Q (.int n) H'
abbrev s_unit_of_whole : Stmt := topS 71
abbrev N_unit_of_whole : List Str := ["p"]
theorem sc_unit_of_whole : FnScope N_unit_of_whole ["p"] (defScope s_unit_of_whole) := ⟨rfl, rfl, rfl, by decide +kernel, rfl, by decide +kernel, by decide +kernel⟩
theorem ok_unit_of_whole (A : At K mg "unit_of_whole" s_unit_of_whole) (T : Txt mg) (d_content : Dn Pg w K mg base "content" 43 ["one"] (sp_content K)) : Dn Pg w K mg base "unit_of_whole" 44 ["p"] (sp_unit_of_whole K) := by
  refine mkDn A sc_unit_of_whole (fun _ _ _ _ _ _ us hl => match us, hl with | [_], _ => rfl) (fun vs H Q E ⟨_, e, _⟩ => by rw [e]; rfl) fun f cdv A outer s H vs Q E hr h => ?_
  refine ⟨_, (pss_cons (ps_if (PW.pt (pw_and (pt_cmpR (op_neDK (K := K) hr.units) (pv 0) (pe_tup pa_nil) (nomark _)) (pw_and1 (pt_cmpR op_lt (pe_ix (ix_tupK (K := K)) (pv 0) (pe_un un_neg pe_int) (fun _ _ => rfl)) pe_int (nomark _))))) (pss_one (ps_ret (pe_op op_sub pe_int (pe_own d_content (hr.mono (by decide)) (by rfl) (pa_cons (pv 0) pa_nil))))) pss_nil)
      (pss_one (ps_ret (pe_own d_content (hr.mono (by decide)) (by rfl) (pa_cons (pv 0) pa_nil))))), ?_⟩
  obtain ⟨v0, rfl, h⟩ := h
  obtain ⟨a, p, rfl, hp, p0, go⟩ := h
  refine ⟨_, rfl, sz0, fun p1 hp1 => neD_0 hp hp1 fun bb' hbb => ⟨bb', rfl, ite2 (fun c => ?_) fun c => absurd (hbb.mpr p0) c⟩⟩
  have s1 := same_new (o := .tup []) hp1
  refine ⟨_, rfl, _, rfl, a, _, _, _, rfl, rfl, hp.s s1, atI_neg (pl_last p0), _, _, rfl, rfl, _, rfl, ite2 (fun c => ?_) fun c => ?_⟩
  · exact ⟨_, rfl, _, rfl, a, p, rfl, hp.s s1, _, _, rfl, rfl, go _ _ s1⟩
  · exact ⟨_, rfl, _, rfl, a, p, rfl, hp.s s1, go _ _ s1⟩
def sp_by_part (K : PySem.W.Frag) : Sp := mk1 fun x H Q => ∃ (t a : Addr) (k : Int) (f : P), x = .ref t ∧ SqT K H t [.ref a, .int k] ∧ AtP K H a f ∧ ∀ t', H t' = none → Q (.ref t') (upd H t' (.tup [.int ((P.len f : Int) - 1), .ref a]))
abbrev s_by_part : Stmt := topS 72
abbrev N_by_part : List Str := ["pair"]
theorem sc_by_part : FnScope N_by_part ["pair"] (defScope s_by_part) := ⟨rfl, rfl, rfl, by decide +kernel, rfl, by decide +kernel, by decide +kernel⟩
theorem ok_by_part (A : At K mg "by_part" s_by_part) (T : Txt mg) (d_by_size : Dn Pg w K mg base "by_size" 42 ["one"] (sp_by_size K)) : Dn Pg w K mg base "by_part" 43 ["pair"] (sp_by_part K) := by
  refine mkDn A sc_by_part (fun _ _ _ _ _ _ us hl => match us, hl with | [_], _ => rfl) (fun vs H Q E ⟨_, e, _⟩ => by rw [e]; rfl) fun f cdv A outer s H vs Q E hr h => ?_
  refine ⟨_, (pss_one (ps_ret (pe_own d_by_size (hr.mono (by decide)) (by rfl) (pa_cons (pe_ix (ix_tupK (K := K)) (pv 0) pe_int (fun _ _ => rfl)) pa_nil)))), ?_⟩
  obtain ⟨v0, rfl, h⟩ := h
  obtain ⟨t, a, k, f, rfl, ht, hf, go⟩ := h
  exact ⟨_, rfl, t, _, _, _, rfl, rfl, ht, atI_ok (by decide) rfl, _, rfl, a, f, rfl, hf, go⟩
def sp_factors (K : PySem.W.Frag) : Sp := mk1 fun x H Q => ∃ (a : Addr) (p : P), x = .ref a ∧ AtP K H a p ∧ p ≠ 0 ∧ P.len p ≤ 9 ∧ (∀ k, (p.c k).natAbs < 1000000) ∧ ∀ Gs, Fac p Gs → Gs.length ≤ 200 → ∀ H' t l u ws, Same H H' → H' t = some (.tup [.int u, .ref l]) → H l = none → H' l = some (.lst ws) → All2 (Pair K H') ws Gs → Q (.ref t) H'
abbrev s_factors : Stmt := topS 73
abbrev N_factors : List Str := ["p", "found", "layer", "times_in", "part"]
theorem sc_factors : FnScope N_factors ["p"] (defScope s_factors) := ⟨rfl, rfl, rfl, by decide +kernel, rfl, by decide +kernel, by decide +kernel⟩
theorem ok_factors (A : At K mg "factors" s_factors) (T : Txt mg) (d_checked_bounds : Dn Pg w K mg base "checked_bounds" 42 ["p"] (sp_checked_bounds K)) (d_degree : Dn Pg w K mg base "degree" 41 ["one"] (sp_degree K)) (d_layers : Dn Pg w K mg base "layers" 48 ["one"] (sp_layers K)) (d_whole_parts : Dn Pg w K mg base "whole_parts" 48 ["one"] (sp_whole_parts K)) (d_unit_of_whole : Dn Pg w K mg base "unit_of_whole" 44 ["p"] (sp_unit_of_whole K)) (d_by_part : Dn Pg w K mg base "by_part" 43 ["pair"] (sp_by_part K)) : Dn Pg w K mg base "factors" 49 ["p"] (sp_factors K) := by
  refine mkDn A sc_factors (fun _ _ _ _ _ _ us hl => match us, hl with | [_], _ => rfl) (fun vs H Q E ⟨_, e, _⟩ => by rw [e]; rfl) fun f cdv A outer s H vs Q E hr h => ?_
  obtain ⟨fs, fds, Fs, hms, hks, hbs⟩ := d_by_part.ex
  refine ⟨_, (pss_cons (ps_expr (pe_own d_checked_bounds (hr.mono (by decide)) (by rfl) (pa_cons (pv 0) pa_nil)))
      (pss_cons (ps_set (i := 1) sc_factors.nd rfl (.inl rfl) (pe_lst pa_nil))
      (pss_cons (ps_if (pt_cmpR op_gt (pe_own d_degree (hr.mono (by decide)) (by rfl) (pa_cons (pv 0) pa_nil)) pe_int (nomark _)) (pss_one (ps_for PassesOwn.never rfl (pi_listK (K := K) (pe_own d_layers (hr.mono (by decide)) (by rfl) (pa_cons (pv 0) pa_nil))) (pg_tupK (K := K) (n := 2) rfl (pgs_cons (pg_name (i := 2) sc_factors.nd rfl (.inl rfl)) (pgs_cons (pg_name (i := 3) sc_factors.nd rfl (.inr rfl)) pgs_nil))) (pss_one (ps_expr (pe_bm PySem.F.plainAttrs_list PySem.F.slot_list_extend PySem.F.type_list_extend mt_extend (pv 1) (pa_cons (pe_lc (own := [("part", 4)]) (g := gName 4) (tt := tYes) (by rfl) sc_factors.nd (pi_listK (K := K) (pe_own d_whole_parts (hr.mono (by decide)) (by rfl) (pa_cons (pv 2) pa_nil))) (blkOk_by (N := N_factors) (sc := defScope s_factors) (by decide +kernel)) (fun _ _ _ _ _ => (pg_name (i := 4) sc_factors.nd rfl (.inl rfl))) (fun _ _ _ _ _ => pts_nil) (fun _ _ _ _ _ => (pe_tup (pa_cons (pv 4) (pa_cons (pv 3) pa_nil))))) pa_nil)))))) pss_nil)
      (pss_one (ps_ret (pe_tup (pa_cons (pe_own d_unit_of_whole (hr.mono (by decide)) (by rfl) (pa_cons (pv 0) pa_nil)) (pa_cons (pe_callBK (cr_sortedFK (K := K) Fs (hr.mono (by decide)) hbs) (by rfl) T.sorted (by decide +kernel) (pa_cons (pv 1) pa_nil) (pk_cons (pe_glob (v := .ref fs) (by rfl) hms rfl) pk_nil)) pa_nil)))))))), ?_⟩
  obtain ⟨v0, rfl, h⟩ := h
  obtain ⟨a, p, rfl, hp, p0, lp, bp, go⟩ := h
  have szl : sizeLine = 16777216 := by decide
  have lp1 := P.len_pos.mpr p0
  have b20 : P.Bt 20 p := fun k => by have := bp k; omega
  refine ⟨_, rfl, _, rfl, a, p, rfl, hp, p0, lp, bp, fun H1 s1 => ?_⟩
  refine ⟨sz0, fun D hD => ?_⟩
  have hD0 := none_same s1 hD
  have sD := same_new (o := .lst []) hD
  have g0 : Grow H D [] (upd H1 D (.lst [])) := ⟨s1.trans sD, upd_same ..⟩
  have fin : ∀ (Hx : Hp) (ys : List V) (Gs : List P) (u2 u3 u4 : Option V), Grow H D ys Hx → All2 (Pair K Hx) ys Gs → Gs.length ≤ 200 → Fac p Gs → tRet (tTup (tCons (tCall (sp_unit_of_whole K) [] E0 (tCons (tVar 0) tNil)) (tCons (tCKw (rSortedF K fs (sp_by_part K)) (tCons (tVar 1) tNil) (tCons (tC (.ref fs)) tNil)) tNil))) { nx := fun x H' => Q V.non H', rt := Q } [some (.ref a), some (.ref D), u2, u3, u4] Hx := by
    intro Hx ys Gs u2 u3 u4 gr hys lG F
    refine ⟨_, rfl, _, rfl, a, p, rfl, hp.s gr.same, p0, fun H2 n s2 => ?_⟩
    have gr2 := gr.to s2
    refine ⟨_, rfl, D, ys, rfl, rfl, lst_at gr2.d, fun x hx => ?_, fun x hx H6 s6 Q' hQ' => ?_, fun zs p6 H6 hperm s6 n6 => ?_⟩
    · obtain ⟨k, hk⟩ := List.getElem?_of_mem hx
      obtain ⟨g, _, ⟨t, a', kk, e, _⟩⟩ := hys.get hk
      exact ⟨t, e⟩
    · obtain ⟨k, hk⟩ := List.getElem?_of_mem hx
      obtain ⟨g, _, ⟨t, a', kk, e, ht, ha'⟩⟩ := hys.get hk
      subst e
      exact ⟨_, rfl, t, a', kk, g, rfl, Same.t (s2.trans s6) ht, ha'.s (s2.trans s6), fun tt htt => hQ' tt a' _ (cf g) htt (ha'.s (s2.trans s6))⟩
    · obtain ⟨L', hp', hz⟩ := all2_perm hperm hys
      have s7 := same_new (o := .lst zs) n6
      have gr6 := gr2.to s6
      refine ⟨sz2, fun p8 hp8 => ?_⟩
      have s8 := same_new (o := .tup [.int n, .ref p6]) hp8
      refine go L' ⟨fun g hg => F.ir g (hp'.mem_iff.mp hg), fun q hq hd => hp'.mem_iff.mpr (F.all q hq hd)⟩ (by have := hp'.length_eq; omega) _ p8 p6 n zs ((gr6.same.trans s7).trans s8) (upd_same ..) (none_same gr6.same n6) (s8 _ _ (upd_same ..)) (hz.imp fun v g h => (((h.s s2).s s6).s s7).s s8)
  refine ⟨_, rfl, _, rfl, a, p, rfl, hp.s g0.same, _, _, rfl, rfl, _, rfl, ite2 (fun c => ?_) fun c => ?_⟩
  · have c := of_decide_eq_true c
    refine ⟨_, rfl, _, rfl, a, p, rfl, hp.s g0.same, p0, lp, b20, fun Ls hLs H2 ll xs s2 n2 d2 al2 => ?_⟩
    have llD : ll ≠ D := fun z => by rw [z, g0.d] at n2; cases n2
    have lxs := al2.len
    have nLs := hLs.n
    refine ⟨ll, rfl, ⟨_, lst_at d2⟩, for_list (xs := xs) (fun i σ Hx => ∃ (ys : List V) (Gs : List P) (u2 u3 : Option V), σ = [some (.ref a), some (.ref D), u2, u3, none] ∧ Grow H D ys Hx ∧ Hx ll = some (.lst xs) ∧ All2 (Pair K Hx) xs Ls ∧ All2 (Pair K Hx) ys Gs ∧ Gs.length ≤ 20 * i ∧ (∀ g ∈ Gs, P.Irr g ∧ g ∣ p) ∧ ∀ j L, j < i → Ls[j]? = some L → ∀ q, P.Irr q → q ∣ L → q ∈ Gs) ⟨[], [], _, _, rfl, g0.to s2, d2, al2, .nil, Nat.zero_le _, fun g h => absurd h (List.not_mem_nil), fun j L h => by omega⟩ (fun i σ Hx _ h => by obtain ⟨_, _, _, _, _, _, d, _⟩ := h; exact lst_at d) ?_ ?_⟩
    · rintro i x σ Hx hx ⟨ys, Gs, u2, u3, rfl, gr, dll, hxs, hys, lG, hG, hall⟩
      obtain ⟨L, hL, ⟨t, al, kk, rfl, ht, hal⟩⟩ := hxs.get hx
      have oL := hLs.ok L (List.mem_of_getElem? hL)
      have hi : i < Ls.length := (List.getElem?_eq_some_iff.mp hL).1
      refine ⟨t, _, rfl, ht, rfl, _, _, rfl, _, _, rfl, rfl, ?_⟩
      refine ⟨_, rfl, .inl ⟨rfl, _, lst_at gr.d⟩, ?_⟩
      refine ⟨_, rfl, _, rfl, al, L, rfl, hal, oL.pl, oL.sq, oL.l2, oL.l9, oL.bt, fun Fs hFs H3 lf fs' s3 n3 d3 al3 => ?_⟩
      refine ⟨lf, rfl, ⟨_, lst_at d3⟩, fun D2 hD2 => lc_list (xs := fs') (fun j H4 => ∃ ws, Grow H3 D2 ws H4 ∧ ws.length = j ∧ All2 (Pair K H4) ws (Fs.take j)) ⟨[], .new hD2, rfl, .nil⟩ (fun j H4 _ h => by obtain ⟨_, g, _⟩ := h; exact lst_at (g.same _ _ d3)) ?_ ?_⟩
      · rintro j v H4 hv ⟨ws, g4, lw, hws⟩
        obtain ⟨g, hg, ⟨ag, rfl, hag⟩⟩ := al3.get hv
        have hj : j < Fs.length := (List.getElem?_eq_some_iff.mp hg).1
        have nF := hFs.n
        refine ⟨rfl, itT ⟨_, rfl, _, rfl, sz2, fun p5 hp5 => ?_⟩⟩
        have s5 := same_new (o := .tup [.ref ag, .int kk]) hp5
        have g5 := g4.to s5
        refine ⟨ws, g5.d, by omega, ws ++ [.ref p5], g5.set hD2, by rw [List.length_append, lw]; rfl, ?_⟩
        rw [List.take_succ, hg]
        exact (hws.imp fun v g h => (h.s s5).put g5.d).append (.cons ⟨p5, ag, kk, rfl, sqT_put g5.d (tup_at (upd_same ..)), (hag.s g5.same).put g5.d⟩ .nil)
      · rintro H4 ⟨ws, g4, lw, hws⟩
        rw [al3.len, List.take_length] at hws
        have s34 := s3.trans g4.same
        have gr4 := gr.to s34
        have lys := hys.len
        have lws := hws.len
        have nF := hFs.n
        refine ⟨D, D2, ys, ws, rfl, rfl, gr4.d, g4.d, by omega, ys ++ ws, Gs ++ Fs, _, _, rfl, gr4.set hD0, ?_, hxs.imp fun v g h => (h.s s34).put gr4.d, (hys.imp fun v g h => (h.s s34).put gr4.d).append (hws.imp fun v g h => h.put gr4.d), ?_, fun g hg => ?_, fun j L' hj hL' q hq hd => ?_⟩
        · rw [upd_ne llD]
          exact s34 _ _ dll
        · rw [List.length_append]
          omega
        · rcases List.mem_append.mp hg with hg | hg
          · exact hG g hg
          · refine ⟨hFs.ir g hg, P.dvd_trans (prod_dvd hg) ?_⟩
            rw [hFs.pr]
            exact oL.dv
        · by_cases z : j = i
          · rw [z, hL] at hL'
            cases hL'
            rw [← hFs.pr] at hd
            obtain ⟨g, hg, hd⟩ := dvd_prod hq hd
            rw [P.Irr.eq hq (hFs.ir g hg) hd]
            exact List.mem_append.mpr (.inr hg)
          · exact List.mem_append.mpr (.inl (hall j L' (by omega) hL' q hq hd))
    · rintro σ Hx ⟨ys, Gs, u2, u3, rfl, gr, dll, hxs, hys, lG, hG, hall⟩
      refine fin Hx ys Gs _ _ _ gr hys (by omega) ⟨hG, fun q hq hd => ?_⟩
      obtain ⟨L, hL, hdL⟩ := hLs.all q hq hd
      obtain ⟨j, hj⟩ := List.getElem?_of_mem hL
      have hjl : j < Ls.length := (List.getElem?_eq_some_iff.mp hj).1
      exact hall j L (by omega) hj q hq hdL
  · have c : ¬ ((P.len p : Nat) : Int) - 1 > 0 := fun z => c (decide_eq_true z)
    refine fin _ [] [] _ _ _ g0 .nil (Nat.zero_le _) ⟨fun g h => absurd h (List.not_mem_nil), fun q hq hd => absurd (P.dvd_len hd p0) (by have := hq.2.1; omega)⟩
end
end RH
/-! W30: the law's own numbers. -/
namespace RH
open PySem PySem.Spec PyProof.Rows L2 RC
theorem op_notInDK {X : Cx} {K : PySem.W.Frag} (hu : X.A.units + 65 < cLine) (h : X.K = K := by rfl) : OpR X (compareOp .NotIn) (rNotInD K) := by subst h; exact op_notInD hu
theorem u65 {k : Nat} {A : Around} (r : Room k A) : A.units + 65 < cLine := by
  have := r.un
  omega
section
variable {Pg : Program} {w : World} {K : PySem.W.Frag} {mg : Str → Option Value} {base : Heap}
def sp_Lcell_at (K : PySem.W.Frag) : Sp := mk2 fun x y H Q => ∃ (a : Addr) (cs : List Int), x = .ref a ∧ y = .int 0 ∧ SqL K H a (cs.map V.int) ∧ ∀ n, Q (.int n) H
abbrev s_Lcell_at : Stmt := topS 75
abbrev N_Lcell_at : List Str := ["_law_script", "_law_k"]
theorem sc_Lcell_at : FnScope N_Lcell_at ["_law_script", "_law_k"] (defScope s_Lcell_at) := ⟨rfl, rfl, rfl, by decide +kernel, rfl, by decide +kernel, by decide +kernel⟩
theorem ok_Lcell_at (A : At K mg "_law_cell_at" s_Lcell_at) (T : Txt mg) : Dn Pg w K mg base "_law_cell_at" 41 ["_law_script", "_law_k"] (sp_Lcell_at K) := by
  refine mkDn A sc_Lcell_at (fun _ _ _ _ _ _ us hl => match us, hl with | [_, _], _ => rfl) (fun vs H Q E ⟨_, _, e, _⟩ => by rw [e]; rfl) fun f cdv A outer s H vs Q E hr h => ?_
  refine ⟨_, (pss_cons (ps_if (pt_cmpR op_lt (pv 1) (pe_callB (call_lenK (K := K)) (by rfl) T.len PySem.boot_len (pa_cons (pv 0) pa_nil)) (nomark _)) (pss_one (ps_ret (pe_ix (ix_listK (K := K)) (pv 0) (pv 1) (fun _ _ => rfl)))) pss_nil)
      (pss_one (ps_ret pe_int))), ?_⟩
  obtain ⟨v0, v1, rfl, h⟩ := h
  obtain ⟨a, cs, rfl, rfl, ha, go⟩ := h
  refine ⟨_, rfl, _, rfl, a, _, rfl, .inl ha, _, _, rfl, rfl, _, rfl, ite2 (fun c => ?_) fun c => ?_⟩
  · have c := of_decide_eq_true c
    rw [mapI_len] at c
    have hx := getD_get (ns := cs) (k := 0) (by omega)
    refine ⟨_, rfl, _, rfl, a, _, _, V.int (cs.getD 0 0), rfl, rfl, ha, atI_ok (by decide) ?_, go _⟩
    rw [List.getElem?_map]
    show (cs[0]?).map V.int = _
    rw [hx]
    rfl
  · exact go 0
def sp_Lmixed (K : PySem.W.Frag) : Sp := mk2 fun x y H Q => ∃ (n : Int) (k : Nat), x = .int n ∧ y = .int (k : Nat) ∧ k ≤ 1000 ∧ ∀ r : Int, 0 ≤ r → r < 2 ^ 31 → Q (.int r) H
abbrev s_Lmixed : Stmt := topS 76
abbrev N_Lmixed : List Str := ["_law_cell", "_law_k", "_law_figure"]
theorem sc_Lmixed : FnScope N_Lmixed ["_law_cell", "_law_k"] (defScope s_Lmixed) := ⟨rfl, rfl, rfl, by decide +kernel, rfl, by decide +kernel, by decide +kernel⟩
theorem ok_Lmixed (A : At K mg "_law_mixed" s_Lmixed) (T : Txt mg) (B : Big Pg base) : Dn Pg w K mg base "_law_mixed" 41 ["_law_cell", "_law_k"] (sp_Lmixed K) := by
  refine mkDn A sc_Lmixed (fun _ _ _ _ _ _ us hl => match us, hl with | [_, _], _ => rfl) (fun vs H Q E ⟨_, _, e, _⟩ => by rw [e]; rfl) fun f cdv A outer s H vs Q E hr h => ?_
  refine ⟨_, (pss_cons (ps_set (i := 2) sc_Lmixed.nd rfl (.inl rfl) (pe_op op_modN (pe_op op_mulB (pe_op op_add (pe_op op_add (pe_op op_modN (pv 0) pe_int) (pe_op op_mulB pe_int (pv 1))) pe_int) pe_int) pe_int))
      (pss_cons (ps_set (i := 2) sc_Lmixed.nd rfl (.inl rfl) (pe_op op_modN (pe_op op_mulB (pv 2) (pe_op op_add (pe_op (op_fdivB B.ns B.tr (dp100 hr) rfl rfl rfl rfl rfl) (pv 2) pe_int) pe_int)) pe_int))
      (pss_one (ps_ret (pe_op op_modN (pe_op op_mulB (pe_op op_add (pv 2) (pe_op op_mulB pe_int (pv 1))) (pe_op op_add (pe_op (op_fdivB B.ns B.tr (dp100 hr) rfl rfl rfl rfl rfl) (pv 2) pe_int) pe_int)) pe_int))))), ?_⟩
  obtain ⟨v0, v1, rfl, h⟩ := h
  obtain ⟨n, k, rfl, rfl, hk, go⟩ := h
  have e1 := Int.emod_nonneg n (show (2147483647 : Int) ≠ 0 by decide)
  have e2 := Int.emod_lt_of_pos n (show (0 : Int) < 2147483647 by decide)
  have f1 : n.fmod 2147483647 = n % 2147483647 := fmod_pos (by decide)
  refine ⟨_, rfl, _, _, rfl, rfl, show (2147483647 : Int) ≠ 0 by decide, _, rfl, _, _, rfl, rfl, mulOk (a := 20) (b := 20) (by decide) (by omega) (by decide), _, _, rfl, rfl, _, _, rfl, rfl, _, _, rfl, rfl, mulOk (a := 40) (b := 20) (by rw [f1]; omega) (by decide) (by decide), _, _, rfl, rfl, show (2147483647 : Int) ≠ 0 by decide, ?_⟩
  have b0 : ∀ z : Int, 0 ≤ z.fmod 2147483647 ∧ z.fmod 2147483647 < 2147483647 := fun z => by
    rw [fmod_pos (by decide)]
    exact ⟨Int.emod_nonneg _ (by decide), Int.emod_lt_of_pos _ (by decide)⟩
  have h1 := b0 ((n.fmod 2147483647 + 7919 * (k : Nat) + 1) * 48271)
  generalize eX : ((n.fmod 2147483647 + 7919 * (k : Nat) + 1) * 48271).fmod 2147483647 = X at h1
  have d1 : 0 ≤ X.fdiv 1009 ∧ X.fdiv 1009 ≤ X := by
    rw [Int.fdiv_eq_ediv_of_nonneg _ (by decide)]
    exact ⟨Int.ediv_nonneg h1.1 (by decide), Int.ediv_le_self _ h1.1⟩
  dsimp only
  rw [eX]
  refine ⟨_, rfl, _, rfl, _, _, rfl, rfl, show (1009 : Int) ≠ 0 by decide, _, _, rfl, rfl, _, _, rfl, rfl, mulOk (a := 32) (b := 33) (by omega) (by omega) (by decide), _, _, rfl, rfl, show (2147483647 : Int) ≠ 0 by decide, ?_⟩
  have h2 := b0 (X * (X.fdiv 1009 + 69621))
  generalize eY : (X * (X.fdiv 1009 + 69621)).fmod 2147483647 = Y at h2
  have d2 : 0 ≤ Y.fdiv 16807 ∧ Y.fdiv 16807 ≤ Y := by
    rw [Int.fdiv_eq_ediv_of_nonneg _ (by decide)]
    exact ⟨Int.ediv_nonneg h2.1 (by decide), Int.ediv_le_self _ h2.1⟩
  dsimp only
  rw [eY]
  refine ⟨_, rfl, _, rfl, _, _, rfl, rfl, mulOk (a := 10) (b := 20) (by decide) (by omega) (by decide), _, _, rfl, rfl, _, rfl, _, _, rfl, rfl, show (16807 : Int) ≠ 0 by decide, _, _, rfl, rfl, _, _, rfl, rfl, mulOk (a := 33) (b := 33) (by omega) (by omega) (by decide), _, _, rfl, rfl, show (2147483629 : Int) ≠ 0 by decide, ?_⟩
  refine go _ ?_ ?_
  · rw [fmod_pos (by decide)]
    exact Int.emod_nonneg _ (by decide)
  · rw [fmod_pos (by decide)]
    have := Int.emod_lt_of_pos ((Y + 31 * (k : Nat)) * (Y.fdiv 16807 + 40692)) (show (0 : Int) < 2147483629 by decide)
    omega
def sp_Lparts (K : PySem.W.Frag) : Sp := mk2 fun x y H Q => ∃ (n : Int) (a : Addr) (bs : List Int), x = .int n ∧ y = .ref a ∧ SqL K H a (bs.map V.int) ∧ bs.length ≤ 100 ∧ (∀ b ∈ bs, 0 < b) ∧ ∀ fs : List Int, fs.length = bs.length → (∀ (k : Nat) (b f : Int), bs[k]? = some b → fs[k]? = some f → 0 ≤ f ∧ f < b) → ∀ H' l, Same H H' → H l = none → H' l = some (.lst (fs.map V.int)) → Q (.ref l) H'
abbrev s_Lparts : Stmt := topS 77
abbrev N_Lparts : List Str := ["_law_cell", "_law_bases", "_law_found", "_law_rest_here", "_law_k", "_law_base"]
theorem sc_Lparts : FnScope N_Lparts ["_law_cell", "_law_bases"] (defScope s_Lparts) := ⟨rfl, rfl, rfl, by decide +kernel, rfl, by decide +kernel, by decide +kernel⟩
theorem ok_Lparts (A : At K mg "_law_parts" s_Lparts) (T : Txt mg) (d_Lmixed : Dn Pg w K mg base "_law_mixed" 41 ["_law_cell", "_law_k"] (sp_Lmixed K)) (B : Big Pg base) : Dn Pg w K mg base "_law_parts" 42 ["_law_cell", "_law_bases"] (sp_Lparts K) := by
  refine mkDn A sc_Lparts (fun _ _ _ _ _ _ us hl => match us, hl with | [_, _], _ => rfl) (fun vs H Q E ⟨_, _, e, _⟩ => by rw [e]; rfl) fun f cdv A outer s H vs Q E hr h => ?_
  refine ⟨_, (pss_cons (ps_set (i := 2) sc_Lparts.nd rfl (.inl rfl) (pe_lst pa_nil))
      (pss_cons (ps_set (i := 3) sc_Lparts.nd rfl (.inl rfl) (pe_op (op_fdivB B.ns B.tr (dp100 hr) rfl rfl rfl rfl rfl) (pv 0) pe_int))
      (pss_cons (ps_for PassesOwn.never rfl (pi_enumK (K := K) (by rfl) T.enumerate (pa_cons (pv 1) pa_nil)) (pg_tupK (K := K) (n := 2) rfl (pgs_cons (pg_name (i := 4) sc_Lparts.nd rfl (.inl rfl)) (pgs_cons (pg_name (i := 5) sc_Lparts.nd rfl (.inl rfl)) pgs_nil))) (pss_one (ps_if (PW.pt (pw_and (pt_cmpR op_eq (pe_op op_modN (pv 0) pe_int) pe_int (nomark _)) (pw_and1 (pt_cmpR (op_notInK (K := K)) (pv 3) (pe_tup (pa_cons pe_int (pa_cons (pe_un un_neg pe_int) pa_nil))) (by rfl))))) (pss_cons (ps_expr (pe_bm PySem.F.plainAttrs_list PySem.F.slot_list_append PySem.F.type_list_append mt_append (pv 2) (pa_cons (pe_op op_modN (pv 3) (pv 5)) pa_nil)))
      (pss_one (ps_set (i := 3) sc_Lparts.nd rfl (.inl rfl) (pe_op (op_fdivB B.ns B.tr (dp100 hr) rfl rfl rfl rfl rfl) (pv 3) (pv 5))))) (pss_one (ps_expr (pe_bm PySem.F.plainAttrs_list PySem.F.slot_list_append PySem.F.type_list_append mt_append (pv 2) (pa_cons (pe_op op_modN (pe_op op_add (pe_own d_Lmixed (hr.mono (by decide)) (by rfl) (pa_cons (pe_op (op_fdivB B.ns B.tr (dp100 hr) rfl rfl rfl rfl rfl) (pv 0) pe_int) (pa_cons (pv 4) pa_nil))) (pe_op op_pow (pe_own d_Lmixed (hr.mono (by decide)) (by rfl) (pa_cons (pe_op (op_fdivB B.ns B.tr (dp100 hr) rfl rfl rfl rfl rfl) (pv 0) pe_int) (pa_cons (pe_op op_add (pv 4) pe_int) pa_nil))) pe_int)) (pv 5)) pa_nil)))))))
      (pss_one (ps_ret (pv 2)))))), ?_⟩
  obtain ⟨v0, v1, rfl, h⟩ := h
  obtain ⟨n, a, bs, rfl, rfl, ha, lb, hb, go⟩ := h
  have szl : sizeLine = 16777216 := by decide
  refine ⟨sz0, fun D hD => ?_⟩
  have g0 : Grow H D [] (upd H D (.lst [])) := .new hD
  refine ⟨_, rfl, _, _, rfl, rfl, show (2 : Int) ≠ 0 by decide, ?_⟩
  refine ⟨_, rfl, a, _, rfl, g0.same.seq ha, for_at (bs.map V.int).length (fun i σ H' => ∃ (fs : List Int) (r : Int) (u4 u5 : Option V), σ = [some (.int n), some (.ref a), some (.ref D), some (.int r), u4, u5] ∧ Grow H D (fs.map V.int) H' ∧ fs.length = i ∧ ∀ (k : Nat) (b f : Int), bs[k]? = some b → fs[k]? = some f → 0 ≤ f ∧ f < b) ⟨[], _, _, _, rfl, g0, rfl, fun k b f _ h => by cases h⟩ ?_ ?_⟩
  · rintro i σ H' hi ⟨fs, r, u4, u5, rfl, gr, lf, hfs⟩
    rw [mapI_len] at hi
    have hx := getD_get (ns := bs) hi
    generalize bs.getD i 0 = b at hx
    have hb0 := hb b (List.mem_of_getElem? hx)
    have hxv : (bs.map V.int)[i]? = some (.int b) := by rw [List.getElem?_map, hx]; rfl
    obtain ⟨hgo, hy⟩ := enumL_go (gr.same.seq ha) hxv
    refine ⟨hgo, fun v H2 hv => ?_⟩
    obtain ⟨T2, rfl, hT2, rfl⟩ := hy _ _ hv
    have s2 := same_new (o := .tup [.int (i : Nat), .int b]) hT2
    have gr2 := gr.to s2
    have nb : b ≠ 0 := by omega
    have next : ∀ (Hx : Hp) (z : Int) (r' : Int), Grow H D (fs.map V.int) Hx → 0 ≤ z → z < b → ∃ (fs' : List Int) (r'' : Int) (u4 u5 : Option V), [some (V.int n), some (.ref a), some (.ref D), some (.int r'), some (.int (i : Nat)), some (.int b)] = [some (.int n), some (.ref a), some (.ref D), some (.int r''), u4, u5] ∧ Grow H D (fs'.map V.int) (upd Hx D (.lst (fs.map V.int ++ [.int z]))) ∧ fs'.length = i + 1 ∧ ∀ (k : Nat) (b f : Int), bs[k]? = some b → fs'[k]? = some f → 0 ≤ f ∧ f < b := by
      intro Hx z r' g hz0 hz1
      refine ⟨fs ++ [z], r', _, _, rfl, ?_, by rw [List.length_append, lf]; rfl, fun k b' f hk hf => ?_⟩
      · rw [List.map_append]
        exact g.set hD
      · by_cases c : k < fs.length
        · rw [List.getElem?_append_left c] at hf
          exact hfs k b' f hk hf
        · rw [List.getElem?_append_right (by omega)] at hf
          have : k - fs.length = 0 := by
            have := (List.getElem?_eq_some_iff.mp hf).1
            simp at this
            omega
          rw [this] at hf
          cases hf
          have ek : k = i := by omega
          rw [ek, hx] at hk
          cases hk
          exact ⟨hz0, hz1⟩
    have fb : ∀ z : Int, 0 ≤ z.fmod b ∧ z.fmod b < b := fun z => by
      rw [fmod_pos hb0]
      exact ⟨Int.emod_nonneg _ nb, Int.emod_lt_of_pos _ hb0⟩
    have lsz : (fs.map V.int).length < sizeLine := by rw [mapI_len]; omega
    have els : ∀ (De : Ends) (Hx : Hp), Grow H D (fs.map V.int) Hx → (∀ σ' H', (∃ (fs' : List Int) (r : Int) (u4 u5 : Option V), σ' = [some (.int n), some (.ref a), some (.ref D), some (.int r), u4, u5] ∧ Grow H D (fs'.map V.int) H' ∧ fs'.length = i + 1 ∧ ∀ (k : Nat) (b f : Int), bs[k]? = some b → fs'[k]? = some f → 0 ≤ f ∧ f < b) → De.nx σ' H') → tDrop (tBM K "list" rAppend (tVar 2) (tCons (tOp (rI (fun _ j => j ≠ 0) fun i j => V.int (i.fmod j)) (tOp (rI0 fun i j => V.int (i + j)) (tCall (sp_Lmixed K) [] E0 (tCons (tOp (rI (fun _ j => j ≠ 0) fun i j => V.int (i.fdiv j)) (tVar 0) (tC (.int 2))) (tCons (tVar 4) tNil))) (tOp (rI CPow fun i j => V.int (i ^ j.toNat)) (tCall (sp_Lmixed K) [] E0 (tCons (tOp (rI (fun _ j => j ≠ 0) fun i j => V.int (i.fdiv j)) (tVar 0) (tC (.int 2))) (tCons (tOp (rI0 fun i j => V.int (i + j)) (tVar 4) (tC (.int 97))) tNil))) (tC (.int 7)))) (tVar 5)) tNil)) De [some (.int n), some (.ref a), some (.ref D), some (.int r), some (.int (i : Nat)), some (.int b)] Hx := by
      intro De Hx g hDe
      refine ⟨_, rfl, .inl ⟨rfl, _, lst_at g.d⟩, ?_⟩
      refine ⟨_, rfl, _, _, rfl, rfl, show (2 : Int) ≠ 0 by decide, _, rfl, _, _, rfl, _, i, rfl, rfl, by omega, fun r1 h1 h2 => ?_⟩
      refine ⟨_, rfl, _, _, rfl, rfl, show (2 : Int) ≠ 0 by decide, _, rfl, _, _, rfl, rfl, _, _, rfl, _, i + 97, rfl, rfl, by omega, fun r2 h3 h4 => ?_⟩
      refine ⟨_, _, rfl, rfl, ⟨by decide, by decide, by omega⟩, _, _, rfl, rfl, _, rfl, _, _, rfl, rfl, nb, D, _, _, rfl, rfl, g.d, lsz, ?_⟩
      exact hDe _ _ (next Hx _ r g (fb _).1 (fb _).2)
    refine ⟨T2, _, rfl, tup_at (upd_same ..), rfl, _, _, rfl, _, _, rfl, rfl, ?_⟩
    refine ⟨_, rfl, _, _, rfl, rfl, show (2 : Int) ≠ 0 by decide, rfl, _, rfl, ite2 (fun c => ?_) fun c => ?_⟩
    · refine ⟨_, rfl, _, rfl, sz2, fun p3 hp3 => ?_⟩
      have s3 := same_new (o := .tup [.int 0, .int (-1)]) hp3
      have gr3 := gr2.to s3
      refine ⟨p3, _, rfl, .inr (tup_at (upd_same ..)), rfl, rfl, _, rfl, ite2 (fun c2 => ?_) fun c2 => ?_⟩
      · refine ⟨_, rfl, .inl ⟨rfl, _, lst_at gr3.d⟩, _, rfl, _, rfl, _, _, rfl, rfl, nb, D, _, _, rfl, rfl, gr3.d, lsz, ?_⟩
        refine ⟨_, rfl, _, rfl, _, _, rfl, rfl, nb, ?_⟩
        exact next _ _ _ gr3 (fb r).1 (fb r).2
      · exact els _ _ gr3 fun _ _ h => h
    · exact iteF (els _ _ gr2 fun _ _ h => h)
  · rintro σ H' ⟨fs, r, u4, u5, rfl, gr, lf, hfs⟩
    rw [mapI_len] at lf
    exact ⟨enumL_stop (gr.same.seq ha) rfl, _, rfl, go fs lf hfs _ D gr.same hD gr.d⟩
end
end RH
/-! W31: the law's own polynomials. -/
namespace RH
open PySem PySem.Spec PyProof.Rows L2 RC
/-- b * (a / b) is a root -/
def HasRoot (f : P) (a b : Int) : Prop := ∃ G : P, P.ev (P.K a) G = 0 ∧ P.K b * P.ev (P.K b * P.X) G = P.K (b ^ P.len f) * f
theorem no_root {f : P} (h : P.Irr f) (l3 : 3 ≤ P.len f) {a b : Int} (hb : b ≠ 0) (hr : HasRoot f a b) : False := by
  obtain ⟨G, e1, e2⟩ := hr
  obtain ⟨G', e3, _⟩ := P.root_div G a (n := P.len G) ((P.len_Z G).mono (by omega))
  rw [e1] at e3
  have e4 : P.ev (P.K b * P.X) G = (P.K b * P.X - P.K a) * P.ev (P.K b * P.X) G' := by
    rw [e3, P.ev_add, P.ev_mul', P.ev_sub, P.ev_X, P.ev_K]
    have : P.ev (P.K b * P.X) 0 = 0 := P.ev_K _ 0
    rw [this]
    grind
  rw [e4] at e2
  have lL : P.len (P.K b * P.X - P.K a) = 2 := P.len_is (n := 1) (fun k hk => by rw [P.c_sub, P.K_mul, P.c_X, P.c_K, if_neg (by omega), if_neg (by omega), Int.mul_zero]; rfl) (by rw [P.c_sub, P.K_mul, P.c_X, P.c_K, if_pos rfl, if_neg (by decide)]; omega)
  generalize P.ev (P.K b * P.X) G' = T at e2
  generalize P.K b * P.X - P.K a = L at e2 lL
  have L0 : L ≠ 0 := P.len_pos.mp (by omega)
  have hd : f ∣ L * (P.K b * T) := ⟨P.K (b ^ P.len f), by rw [show L * (P.K b * T) = P.K b * (L * T) by grind, e2]; grind⟩
  rcases h.prime hd with d | d
  · have := P.dvd_len d L0
    omega
  · have d2 := h.1.1.gl hb d
    obtain ⟨z, hz⟩ := d2
    have bn : b ^ P.len f ≠ 0 := Int.pow_ne_zero hb
    have e5 : P.K (b ^ P.len f) = P.K b * (L * z) := P.cancel h.1.ne (by rw [show f * P.K (b ^ P.len f) = P.K (b ^ P.len f) * f by grind, ← e2, hz]; grind)
    have := P.dvd_len (a := L) ⟨P.K b * z, by rw [e5]; grind⟩ (P.K_ne bn)
    rw [P.len_K bn] at this
    omega
theorem no_zero {f : P} (h : P.Irr f) (l3 : 3 ≤ P.len f) (h0 : f.c 0 = 0) : False := by
  have e := P.tl_eq f
  rw [h0, P.K_zero] at e
  have e2 : f = P.X * P.tl f := e.trans (by grind)
  obtain ⟨a0, b0⟩ := P.ne_of_mul (e2 ▸ h.1.ne)
  have lm := (P.len_mul a0 b0).1
  rw [← e2, len_X] at lm
  rcases h.2.2 _ _ e2 with q | q
  · rw [len_X] at q; omega
  · omega
section
variable {Pg : Program} {w : World} {K : PySem.W.Frag} {mg : Str → Option Value} {base : Heap}
def sp_Lpoly (K : PySem.W.Frag) : Sp := mk1 fun x H Q => ∃ (a : Addr) (ns : List Int), x = .ref a ∧ SqL K H a (ns.map V.int) ∧ giveP K (ofL ns) H Q
abbrev s_Lpoly : Stmt := topS 78
abbrev N_Lpoly : List Str := ["_law_weights", "_law_many"]
theorem sc_Lpoly : FnScope N_Lpoly ["_law_weights"] (defScope s_Lpoly) := ⟨rfl, rfl, rfl, by decide +kernel, rfl, by decide +kernel, by decide +kernel⟩
theorem ok_Lpoly (A : At K mg "_law_poly" s_Lpoly) (T : Txt mg) : Dn Pg w K mg base "_law_poly" 41 ["_law_weights"] (sp_Lpoly K) := by
  refine mkDn A sc_Lpoly (fun _ _ _ _ _ _ us hl => match us, hl with | [_], _ => rfl) (fun vs H Q E ⟨_, e, _⟩ => by rw [e]; rfl) fun f cdv A outer s H vs Q E hr h => ?_
  refine ⟨_, (pss_cons (ps_set (i := 1) sc_Lpoly.nd rfl (.inl rfl) (pe_callB (call_lenK (K := K)) (by rfl) T.len PySem.boot_len (pa_cons (pv 0) pa_nil)))
      (pss_cons (ps_while PassesOwn.never (PW.pt (pw_and (pt_cmpR op_gt (pv 1) pe_int (nomark _)) (pw_and1 (pt_cmpR op_eq (pe_ix (ix_listK (K := K)) (pv 0) (pe_op op_sub (pv 1) pe_int) (fun _ _ => rfl)) pe_int (nomark _))))) (pss_one (ps_set (i := 1) sc_Lpoly.nd rfl (.inl rfl) (pe_op op_sub (pv 1) pe_int))))
      (pss_one (ps_ret (pe_callTy (call_tupK (K := K)) (by rfl) T.tuple (by decide +kernel) (pa_cons (pe_slice (sl_listK (K := K)) (pv 0) po_none (po_some (pv 1))) pa_nil)))))), ?_⟩
  obtain ⟨v0, rfl, h⟩ := h
  obtain ⟨a, ns, rfl, hs, q⟩ := h
  refine ⟨_, rfl, a, _, rfl, .inl hs, ?_⟩
  rw [mapI_len]
  refine ⟨fun m σ H' => H' = H ∧ σ = [some (.ref a), some (.int (m : Nat))] ∧ m ≤ ns.length ∧ ∀ k, m ≤ k → ns.getD k 0 = 0, ⟨_, rfl, rfl, Nat.le_refl _, ?_⟩, ?_⟩
  · intro k hk
    rw [List.getD_eq_getElem?_getD, List.getElem?_eq_none hk]
    rfl
  · rintro m σ H' ⟨rfl, rfl, hm, hz⟩
    refine ⟨_, rfl, _, _, rfl, rfl, _, rfl, ite2 (fun c => ?_) fun c => ?_⟩
    · have c := of_decide_eq_true c
      have c' : m - 1 < ns.length := by omega
      have eg := getD_get c'
      refine ⟨_, rfl, _, rfl, _, _, rfl, rfl, a, _, _, V.int (ns.getD (m - 1) 0), rfl, rfl, hs, atI_ok (by omega) ?_, rfl, _, rfl, ite2 (fun c2 => ?_) fun c2 => ?_⟩
      · have e : ((m : Int) - 1).toNat = m - 1 := by omega
        rw [e, List.getElem?_map, eg]
        rfl
      · have c2 : ns.getD (m - 1) 0 = 0 := by
          have := of_decide_eq_true c2
          injection this
        refine ⟨_, fun _ _ h => h, _, rfl, _, _, rfl, rfl, m - 1, by omega, rfl, ?_, by omega, fun k hk => ?_⟩
        · rw [show ((m - 1 : Nat) : Int) = (m : Int) - 1 by omega]
          rfl
        · by_cases z : k = m - 1
          · rw [z]; exact c2
          · exact hz k (by omega)
      · have c2 : ns.getD (m - 1) 0 ≠ 0 := fun z => c2 (decide_eq_true (by rw [z]))
        refine ⟨_, rfl, _, rfl, _, rfl, a, _, rfl, hs, fun p hp => ⟨p, _, rfl, .inl ⟨lst_at (upd_same ..), fun l hl => ?_⟩⟩⟩
        refine q _ _ ((same_new hp).trans (same_new hl)) (tup_at ?_)
        rw [upd_same, cut_to hm]
        have e : (ns.take m) = cf (ofL ns) := by
          rw [← ofL_take hz]
          refine (cf_ofL fun x hx => ?_).symm
          rw [List.getLast?_eq_getElem?, List.length_take, Nat.min_eq_left hm, List.getElem?_take, if_pos (by omega), eg] at hx
          injection hx with hx
          rw [← hx]
          exact c2
        rw [← List.map_take, e]
        rfl
    · have c : m = 0 := by
        have : ¬ (0 : Int) < (m : Nat) := fun z => c (decide_eq_true z)
        omega
      subst c
      refine iteF ⟨_, rfl, _, rfl, _, rfl, a, _, rfl, hs, fun p hp => ⟨p, _, rfl, .inl ⟨lst_at (upd_same ..), fun l hl => ?_⟩⟩⟩
      refine q _ _ ((same_new hp).trans (same_new hl)) (tup_at ?_)
      rw [upd_same, cut_to hm]
      have e : (ns.take 0) = cf (ofL ns) := by
        rw [← ofL_take hz]
        exact (cf_ofL fun x hx => by cases hx).symm
      rw [← List.map_take, e]
      rfl
def sp_Lproduct (K : PySem.W.Frag) : Sp := mk2 fun x y H Q => ∃ (a b : Addr) (f g : P) (b1 b2 : Nat), x = .ref a ∧ y = .ref b ∧ AtP K H a f ∧ AtP K H b g ∧ P.len f ≤ 1000 ∧ P.len g ≤ 1000 ∧ P.Bt b1 f ∧ P.Bt b2 g ∧ b1 + b2 ≤ 100000000 ∧ giveP K (f * g) H Q
abbrev s_Lproduct : Stmt := topS 79
abbrev N_Lproduct : List Str := ["_law_one", "_law_other", "_law_found", "_law_k", "_law_j"]
theorem sc_Lproduct : FnScope N_Lproduct ["_law_one", "_law_other"] (defScope s_Lproduct) := ⟨rfl, rfl, rfl, by decide +kernel, rfl, by decide +kernel, by decide +kernel⟩
theorem ok_Lproduct (A : At K mg "_law_product" s_Lproduct) (T : Txt mg) (d_Lpoly : Dn Pg w K mg base "_law_poly" 41 ["_law_weights"] (sp_Lpoly K)) : Dn Pg w K mg base "_law_product" 42 ["_law_one", "_law_other"] (sp_Lproduct K) := by
  refine mkDn A sc_Lproduct (fun _ _ _ _ _ _ us hl => match us, hl with | [_, _], _ => rfl) (fun vs H Q E ⟨_, _, e, _⟩ => by rw [e]; rfl) fun f cdv A outer s H vs Q E hr h => ?_
  refine ⟨_, (pss_cons (ps_set (i := 2) sc_Lproduct.nd rfl (.inl rfl) (pe_op op_rep (pe_lst (pa_cons pe_int pa_nil)) (pe_op op_add (pe_callB (call_lenK (K := K)) (by rfl) T.len PySem.boot_len (pa_cons (pv 0) pa_nil)) (pe_callB (call_lenK (K := K)) (by rfl) T.len PySem.boot_len (pa_cons (pv 1) pa_nil)))))
      (pss_cons (ps_for PassesOwn.never rfl (pi_range1 (by rfl) T.range (pa_cons (pe_callB (call_lenK (K := K)) (by rfl) T.len PySem.boot_len (pa_cons (pv 0) pa_nil)) pa_nil)) (pg_name (i := 3) sc_Lproduct.nd rfl (.inl rfl)) (pss_one (ps_for PassesOwn.never rfl (pi_range1 (by rfl) T.range (pa_cons (pe_callB (call_lenK (K := K)) (by rfl) T.len PySem.boot_len (pa_cons (pv 1) pa_nil)) pa_nil)) (pg_name (i := 4) sc_Lproduct.nd rfl (.inl rfl)) (pss_one (ps_asg (pe_op op_add (pe_ix (ix_listK (K := K)) (pv 2) (pe_op op_add (pv 3) (pv 4)) (fun _ _ => rfl)) (pe_op op_mulB (pe_ix (ix_tupK (K := K)) (pv 0) (pv 3) (fun _ _ => rfl)) (pe_ix (ix_tupK (K := K)) (pv 1) (pv 4) (fun _ _ => rfl)))) (pg_sub (pv 2) (pe_op op_add (pv 3) (pv 4)) set_list))))))
      (pss_one (ps_ret (pe_own d_Lpoly (hr.mono (by decide)) (by rfl) (pa_cons (pv 2) pa_nil)))))), ?_⟩
  obtain ⟨v0, v1, rfl, h⟩ := h
  obtain ⟨a, b, f, g, b1, b2, rfl, rfl, hf, hg, lf, lg, h1, h2, hb, q⟩ := h
  refine ⟨by decide, fun p hp => ⟨_, rfl, a, _, rfl, .inr (hf.s (same_new hp)), _, rfl, b, _, rfl, .inr (hg.s (same_new hp)), _, _, rfl, rfl, p, (P.len f + P.len g : Nat), _, rfl, ?_, upd_same .., by omega, by omega, ?_, fun D hD => ?_⟩⟩
  · rw [pl_len, pl_len]; rfl
  · show 1 * _ ≤ sizeLine
    have : sizeLine = 16777216 := by decide
    omega
  have hD0 : H D = none := none_old hD
  have sP := same_new (o := .lst [.int 0]) hp
  have eN : ((P.len f + P.len g : Nat) : Int).toNat = P.len f + P.len g := by omega
  rw [eN, rep_tab]
  have g0 : Grow H D (tab (P.cut f 0 * g).c (P.len f + P.len g)) (upd (upd H p (.lst [.int 0])) D (.lst (tab (fun _ => 0) (P.len f + P.len g)))) := by
    refine ⟨sP.put hD0, ?_⟩
    rw [upd_same, cut_zero]
    rw [tab_congr fun k _ => ?_]
    show 0 = ((0 : P) * g).c k
    rw [show (0 : P) * g = 0 by grind, P.c_0]
  refine ⟨_, rfl, a, _, rfl, .inr (hf.s g0.same), ?_⟩
  rw [pl_len]
  refine ⟨(P.len f : Nat), rfl, by omega, by omega, for_range (lo := 0) (n := P.len f) (fun i σ H' => (∃ u3 u4 : Option V, σ = [some (.ref a), some (.ref b), some (.ref D), u3, u4]) ∧ Grow H D (tab (P.cut f i * g).c (P.len f + P.len g)) H') ⟨⟨_, _, rfl⟩, g0⟩ ?_ ?_⟩
  · rintro i σ H' hi ⟨⟨u3, u4, rfl⟩, gr⟩
    have e0 : (0 : Int) + (i : Nat) = (i : Nat) := by omega
    rw [e0]
    refine ⟨_, rfl, b, _, rfl, .inr (hg.s gr.same), ?_⟩
    rw [pl_len]
    refine ⟨(P.len g : Nat), rfl, by omega, by omega, for_range (lo := 0) (n := P.len g) (fun j σ H' => (∃ u4 : Option V, σ = [some (.ref a), some (.ref b), some (.ref D), some (.int (i : Nat)), u4]) ∧ Grow H D (tab (P.cut f i * g + P.mon (f.c i) i * P.cut g j).c (P.len f + P.len g)) H') ⟨⟨_, rfl⟩, ?_⟩ ?_ ?_⟩
    · rw [cut_zero, show P.cut f i * g + P.mon (f.c i) i * 0 = P.cut f i * g by grind]
      exact gr
    · rintro j σ H3 hj ⟨⟨u4, rfl⟩, gr⟩
      have e1 : (0 : Int) + (j : Nat) = (j : Nat) := by omega
      rw [e1]
      refine ⟨_, rfl, _, rfl, _, rfl, _, _, rfl, rfl, D, _, _, _, rfl, rfl, lst_at gr.d, atI_ok (by omega) (tab_get (k := i + j) (by omega)), _, rfl, _, rfl, a, _, _, _, rfl, rfl, hf.s gr.same, atI_ok (by omega) (pl_get (k := i) hi), _, rfl, _, rfl, b, _, _, _, rfl, rfl, hg.s gr.same, atI_ok (by omega) (pl_get (k := j) hj), _, _, rfl, rfl, mulOk (h1 i) (h2 j) (by omega), _, _, rfl, rfl, ?_⟩
      refine ⟨_, rfl, _, rfl, _, rfl, _, _, rfl, rfl, D, _, _, i + j, rfl, rfl, gr.d, ?_, ⟨_, rfl⟩, ?_⟩
      · rw [tab_len]
        exact ixN_ok (by omega)
      · have e : (tab (P.cut f i * g + P.mon (f.c i) i * P.cut g j).c (P.len f + P.len g)).set (i + j) (.int ((P.cut f i * g + P.mon (f.c i) i * P.cut g j).c (i + j) + f.c i * g.c j)) = tab (P.cut f i * g + P.mon (f.c i) i * P.cut g (j + 1)).c (P.len f + P.len g) := by
          have e0 : P.cut f i * g + P.mon (f.c i) i * P.cut g (j + 1) = (P.cut f i * g + P.mon (f.c i) i * P.cut g j) + P.mon (f.c i * g.c j) (i + j) := by
            rw [cut_succ, ← P.mon_mon]
            grind
          rw [e0]
          refine tab_set (fun k hk => ?_) ?_
          · rw [P.c_add _ (P.mon _ _), P.c_mon, if_neg hk, Int.add_zero]
          · rw [P.c_add _ (P.mon _ _), P.c_mon, if_pos rfl]
        exact ⟨gr.same.put hD0, (upd_same ..).trans (congrArg (fun z => some (HO.lst z)) e)⟩
    · rintro σ H3 ⟨⟨u4, rfl⟩, gr⟩
      refine ⟨⟨_, _, rfl⟩, ?_⟩
      rw [cut_all (P.len_Z g)] at gr
      rw [cut_succ, show (P.cut f i + P.mon (f.c i) i) * g = P.cut f i * g + P.mon (f.c i) i * g by grind]
      exact gr
  · rintro σ H' ⟨⟨u3, u4, rfl⟩, gr⟩
    rw [cut_all (P.len_Z f)] at gr
    refine ⟨_, rfl, _, rfl, D, _, rfl, gr.l, (q.to gr.same).eq (ofL_tab (fun k _ => rfl) ?_)⟩
    exact Zmul (P.len_Z f) (P.len_Z g)
/-! ### the rest -/
/-- while the rest is told -/
structure LrI (f g : P) (i n : Nat) (x : Int) (q r : P) : Prop where
  x0 : x ≠ 0
  eq : P.K x * f = g * q + r
  z : P.Z r n
  bt : P.Bt (32 + 50 * i) r
  n : n + i = P.len f
theorem LrI.next {f g : P} {i n : Nat} {x : Int} {q r : P} (h : LrI f g i n x q r) (g0 : g ≠ 0) (bg : P.Bt 45 g) (hn : P.len g ≤ n) : LrI f g (i + 1) (n - 1) (x * P.lc g) (P.K (P.lc g) * q + P.mon (r.c (n - 1)) (n - P.len g)) (P.K (P.lc g) * r - P.mon (r.c (n - 1)) (n - P.len g) * g) := by
  have lg := P.len_pos.mpr g0
  have hi := h.n
  refine ⟨Int.mul_ne_zero h.x0 (P.lc_ne g0), ?_, fun k hk => ?_, fun k => ?_, by omega⟩
  · have := h.eq
    rw [P.K_mulK]
    grind
  · rw [P.c_sub, P.K_mul, P.mon_mul, if_pos (by omega)]
    by_cases c : k = n - 1
    · rw [c, show n - 1 - (n - P.len g) = P.len g - 1 by omega]
      show P.lc g * r.c (n - 1) - r.c (n - 1) * P.lc g = 0
      rw [Int.mul_comm]
      omega
    · rw [h.z k (by omega), P.len_Z g _ (by omega)]
      omega
  · rw [P.c_sub, P.K_mul, P.mon_mul]
    have b1 : (P.lc g * r.c k).natAbs < 2 ^ (45 + (32 + 50 * i)) := by
      rw [Int.natAbs_mul, Nat.pow_add]
      exact Nat.mul_lt_mul'' bg.lc (h.bt k)
    have b2 : (if n - P.len g ≤ k then r.c (n - 1) * g.c (k - (n - P.len g)) else 0).natAbs < 2 ^ (45 + (32 + 50 * i)) := by
      split
      · rw [Int.natAbs_mul, Nat.pow_add, Nat.mul_comm]
        exact Nat.mul_lt_mul'' (bg _) (h.bt _)
      · exact Nat.two_pow_pos _
    have e : 2 ^ (32 + 50 * (i + 1)) = 2 ^ (45 + (32 + 50 * i)) * 2 ^ 5 := by rw [← Nat.pow_add]; congr 1; omega
    rw [e]
    omega
def sp_Lrest (K : PySem.W.Frag) : Sp := mk2 fun x y H Q => ∃ (a b : Addr) (f g : P), x = .ref a ∧ y = .ref b ∧ AtP K H a f ∧ AtP K H b g ∧ g ≠ 0 ∧ P.len f ≤ 20 ∧ P.len g ≤ 20 ∧ P.Bt 32 f ∧ P.Bt 45 g ∧ ∀ x q r, x ≠ 0 → P.K x * f = g * q + r → giveP K r H Q
abbrev s_Lrest : Stmt := topS 83
abbrev N_Lrest : List Str := ["_law_one", "_law_other", "_law_rest_here", "_law_first", "_law_k", "_law_place"]
theorem sc_Lrest : FnScope N_Lrest ["_law_one", "_law_other"] (defScope s_Lrest) := ⟨rfl, rfl, rfl, by decide +kernel, rfl, by decide +kernel, by decide +kernel⟩
theorem ok_Lrest (A : At K mg "_law_rest" s_Lrest) (T : Txt mg) (d_Lpoly : Dn Pg w K mg base "_law_poly" 41 ["_law_weights"] (sp_Lpoly K)) : Dn Pg w K mg base "_law_rest" 42 ["_law_one", "_law_other"] (sp_Lrest K) := by
  refine mkDn A sc_Lrest (fun _ _ _ _ _ _ us hl => match us, hl with | [_, _], _ => rfl) (fun vs H Q E ⟨_, _, e, _⟩ => by rw [e]; rfl) fun f cdv A outer s H vs Q E hr h => ?_
  refine ⟨_, (pss_cons (ps_set (i := 2) sc_Lrest.nd rfl (.inl rfl) (pe_callTy (call_lstK (K := K)) (by rfl) T.list (by decide +kernel) (pa_cons (pv 0) pa_nil)))
      (pss_cons (ps_while PassesOwn.never (pt_cmpR op_ge (pe_callB (call_lenK (K := K)) (by rfl) T.len PySem.boot_len (pa_cons (pv 2) pa_nil)) (pe_callB (call_lenK (K := K)) (by rfl) T.len PySem.boot_len (pa_cons (pv 1) pa_nil)) (nomark _)) (pss_cons (ps_set (i := 3) sc_Lrest.nd rfl (.inl rfl) (pe_ix (ix_listK (K := K)) (pv 2) (pe_un un_neg pe_int) (fun _ _ => rfl)))
      (pss_cons (ps_for PassesOwn.never rfl (pi_range1 (by rfl) T.range (pa_cons (pe_callB (call_lenK (K := K)) (by rfl) T.len PySem.boot_len (pa_cons (pv 2) pa_nil)) pa_nil)) (pg_name (i := 4) sc_Lrest.nd rfl (.inl rfl)) (pss_one (ps_asg (pe_op op_mulB (pe_ix (ix_listK (K := K)) (pv 2) (pv 4) (fun _ _ => rfl)) (pe_ix (ix_tupK (K := K)) (pv 1) (pe_un un_neg pe_int) (fun _ _ => rfl))) (pg_sub (pv 2) (pv 4) set_list))))
      (pss_cons (ps_for PassesOwn.never rfl (pi_range1 (by rfl) T.range (pa_cons (pe_callB (call_lenK (K := K)) (by rfl) T.len PySem.boot_len (pa_cons (pv 1) pa_nil)) pa_nil)) (pg_name (i := 4) sc_Lrest.nd rfl (.inl rfl)) (pss_cons (ps_set (i := 5) sc_Lrest.nd rfl (.inl rfl) (pe_op op_add (pe_op op_sub (pe_callB (call_lenK (K := K)) (by rfl) T.len PySem.boot_len (pa_cons (pv 2) pa_nil)) (pe_callB (call_lenK (K := K)) (by rfl) T.len PySem.boot_len (pa_cons (pv 1) pa_nil))) (pv 4)))
      (pss_one (ps_asg (pe_op op_sub (pe_ix (ix_listK (K := K)) (pv 2) (pv 5) (fun _ _ => rfl)) (pe_op op_mulB (pv 3) (pe_ix (ix_tupK (K := K)) (pv 1) (pv 4) (fun _ _ => rfl)))) (pg_sub (pv 2) (pv 5) set_list)))))
      (pss_one (ps_expr (pe_bm0 PySem.F.plainAttrs_list PySem.F.slot_list_pop PySem.F.type_list_pop mt_pop (pv 2))))))))
      (pss_one (ps_ret (pe_own d_Lpoly (hr.mono (by decide)) (by rfl) (pa_cons (pv 2) pa_nil)))))), ?_⟩
  obtain ⟨v0, v1, rfl, h⟩ := h
  obtain ⟨a, b, f, g, rfl, rfl, hf, hg, g0, lf, lg, bf, bg, go⟩ := h
  have lg1 := P.len_pos.mpr g0
  refine ⟨_, rfl, a, _, rfl, .inr hf, fun D hD => ?_⟩
  refine ⟨fun mm σ H' => ∃ (i n : Nat) (x : Int) (q r : P) (u3 u4 u5 : Option V), σ = [some (.ref a), some (.ref b), some (.ref D), u3, u4, u5] ∧ Grow H D (tab r.c n) H' ∧ LrI f g i n x q r ∧ mm = n, ⟨_, 0, P.len f, 1, 0, f, _, _, _, rfl, ⟨same_new hD, by rw [upd_same, pl_tab]⟩, ⟨by decide, by rw [P.K_one]; grind, P.len_Z f, bf, rfl⟩, rfl⟩, ?_⟩
  rintro n σ H' ⟨i, n', x, q, r, u3, u4, u5, rfl, gr, I, rfl⟩
  have hin := I.n
  refine ⟨_, rfl, D, _, rfl, .inl (lst_at gr.d), ?_⟩
  rw [tab_len]
  refine ⟨_, rfl, b, _, rfl, .inr (hg.s gr.same), ?_⟩
  rw [pl_len]
  refine ⟨_, _, rfl, rfl, _, rfl, ite2 (fun c => ?_) fun c => ?_⟩
  · have c := of_decide_eq_true c
    have hgn : P.len g ≤ n := by omega
    have I2 := I.next g0 bg hgn
    have bl : ∀ z, P.Bt (32 + 50 * i) z → P.Bt 1100 z := fun z h => h.mono (by omega)
    have hlen : (tab r.c n).length = n := tab_len _ _
    refine ⟨_, fun _ _ h => h, ?_⟩
    refine ⟨_, rfl, _, rfl, D, _, _, V.int (r.c (n - 1)), rfl, rfl, lst_at gr.d, atI_neg (by rw [hlen]; exact tab_get (by omega)), ?_⟩
    refine ⟨_, rfl, D, _, rfl, .inl (lst_at gr.d), ?_⟩
    rw [tab_len]
    refine ⟨(n : Nat), rfl, by omega, by omega, for_range (lo := 0) (n := n) (fun j σ Hx => (∃ u4 : Option V, σ = [some (.ref a), some (.ref b), some (.ref D), some (.int (r.c (n - 1))), u4, u5]) ∧ Grow H D (tab (fun k => if k < j then P.lc g * r.c k else r.c k) n) Hx) ⟨⟨_, rfl⟩, ?_⟩ ?_ ?_⟩
    · rw [tab_congr (h' := r.c) fun k _ => if_neg (by omega)]
      exact gr
    · rintro j σ Hx hj ⟨⟨u4, rfl⟩, gr⟩
      have e1 : (0 : Int) + (j : Nat) = (j : Nat) := by omega
      rw [e1]
      have ej : (if j < j then P.lc g * r.c j else r.c j) = r.c j := if_neg (by omega)
      refine ⟨_, rfl, _, rfl, D, _, _, V.int (r.c j), rfl, rfl, lst_at gr.d, atI_ok (by omega) ?_, _, rfl, _, rfl, b, _, _, _, rfl, rfl, hg.s gr.same, atI_neg (pl_last g0), _, _, rfl, rfl, mulOk (bl r I.bt j) bg.lc (by decide), ?_⟩
      · have := tab_get (f := fun k => if k < j then P.lc g * r.c k else r.c k) (n := n) (k := j) hj
        rw [ej] at this
        exact this
      refine ⟨_, rfl, _, rfl, D, _, _, j, rfl, rfl, gr.d, by rw [tab_len]; exact ixN_ok hj, ⟨_, rfl⟩, ?_⟩
      have e : (tab (fun k => if k < j then P.lc g * r.c k else r.c k) n).set j (.int (r.c j * P.lc g)) = tab (fun k => if k < j + 1 then P.lc g * r.c k else r.c k) n := tab_set (fun k hk => by
        by_cases z : k < j
        · rw [if_pos z, if_pos (by omega)]
        · rw [if_neg z, if_neg (by omega)]) (by rw [if_pos (by omega), Int.mul_comm])
      exact ⟨gr.same.put hD, (upd_same ..).trans (congrArg (fun z => some (HO.lst z)) e)⟩
    · rintro σ Hx ⟨⟨u4, rfl⟩, gr⟩
      rw [tab_congr (h' := (P.K (P.lc g) * r).c) fun k hk => by rw [if_pos hk, P.K_mul]] at gr
      refine ⟨_, rfl, b, _, rfl, .inr (hg.s gr.same), ?_⟩
      rw [pl_len]
      refine ⟨(P.len g : Nat), rfl, by omega, by omega, for_range (lo := 0) (n := P.len g) (fun j σ Hx => (∃ u4 u5 : Option V, σ = [some (.ref a), some (.ref b), some (.ref D), some (.int (r.c (n - 1))), u4, u5]) ∧ Grow H D (tab (P.K (P.lc g) * r - P.mon (r.c (n - 1)) (n - P.len g) * P.cut g j).c n) Hx) ⟨⟨_, _, rfl⟩, ?_⟩ ?_ ?_⟩
      · rw [cut_zero, show P.K (P.lc g) * r - P.mon (r.c (n - 1)) (n - P.len g) * 0 = P.K (P.lc g) * r by grind]
        exact gr
      · rintro j σ Hx hj ⟨⟨u4, u5, rfl⟩, gr⟩
        have e1 : (0 : Int) + (j : Nat) = (j : Nat) := by omega
        rw [e1]
        refine ⟨_, rfl, D, _, rfl, .inl (lst_at gr.d), ?_⟩
        rw [tab_len]
        refine ⟨_, rfl, b, _, rfl, .inr (hg.s gr.same), ?_⟩
        rw [pl_len]
        refine ⟨_, _, rfl, rfl, _, rfl, _, _, rfl, rfl, ?_⟩
        have ep : V.int (((n : Nat) : Int) - (P.len g : Nat) + (j : Nat)) = V.int ((n - P.len g + j : Nat) : Int) := congrArg V.int (by omega)
        dsimp only
        rw [ep]
        refine ⟨_, rfl, _, rfl, D, _, _, _, rfl, rfl, lst_at gr.d, atI_ok (by omega) (tab_get (k := n - P.len g + j) (by omega)), _, rfl, _, rfl, _, rfl, b, _, _, _, rfl, rfl, hg.s gr.same, atI_ok (by omega) (pl_get (k := j) hj), _, _, rfl, rfl, mulOk (bl r I.bt _) (bg j) (by decide), _, _, rfl, rfl, ?_⟩
        refine ⟨_, rfl, _, rfl, D, _, _, n - P.len g + j, rfl, rfl, gr.d, by rw [tab_len]; exact ixN_ok (by omega), ⟨_, _, rfl⟩, ?_⟩
        have e : (tab (P.K (P.lc g) * r - P.mon (r.c (n - 1)) (n - P.len g) * P.cut g j).c n).set (n - P.len g + j) (.int ((P.K (P.lc g) * r - P.mon (r.c (n - 1)) (n - P.len g) * P.cut g j).c (n - P.len g + j) - r.c (n - 1) * g.c j)) = tab (P.K (P.lc g) * r - P.mon (r.c (n - 1)) (n - P.len g) * P.cut g (j + 1)).c n := by
          have e0 : P.K (P.lc g) * r - P.mon (r.c (n - 1)) (n - P.len g) * P.cut g (j + 1) = (P.K (P.lc g) * r - P.mon (r.c (n - 1)) (n - P.len g) * P.cut g j) - P.mon (r.c (n - 1) * g.c j) (n - P.len g + j) := by
            rw [cut_succ, ← P.mon_mon]
            grind
          rw [e0]
          refine tab_set (fun k hk => ?_) ?_
          · rw [P.c_sub _ (P.mon _ _), P.c_mon, if_neg hk, Int.sub_zero]
          · rw [P.c_sub _ (P.mon _ _), P.c_mon, if_pos rfl]
        exact ⟨gr.same.put hD, (upd_same ..).trans (congrArg (fun z => some (HO.lst z)) e)⟩
      · rintro σ Hx ⟨⟨u4, u5, rfl⟩, gr⟩
        rw [cut_all (P.len_Z g)] at gr
        refine ⟨_, rfl, .inl ⟨rfl, _, lst_at gr.d⟩, D, _, V.int ((P.K (P.lc g) * r - P.mon (r.c (n - 1)) (n - P.len g) * g).c (n - 1)), rfl, rfl, gr.d, ?_, n - 1, by omega, i + 1, n - 1, _, _, _, _, _, _, rfl, ?_, I2, rfl⟩
        · rw [tab_len]
          exact tab_get (by omega)
        · have e : (tab (P.K (P.lc g) * r - P.mon (r.c (n - 1)) (n - P.len g) * g).c n).dropLast = tab (P.K (P.lc g) * r - P.mon (r.c (n - 1)) (n - P.len g) * g).c (n - 1) := by
            obtain ⟨m, rfl⟩ : ∃ m, n = m + 1 := ⟨n - 1, by omega⟩
            rw [tab_succ, List.dropLast_concat]
            rfl
          rw [e]
          exact gr.set hD
  · refine ⟨_, rfl, _, rfl, D, _, rfl, gr.l, ?_⟩
    rw [ofL_Zc I.z]
    exact (go x q r I.x0 I.eq).to gr.same
end
end RH
/-! W32: roots. -/
namespace RH
open PySem PySem.Spec PyProof.Rows L2 RC
/-- the last i weights -/
noncomputable def tp (f : P) (i : Nat) : P := ⟨fun k => if k < i then f.c (P.len f - i + k) else 0, i, fun k h => if_neg (by omega)⟩
theorem c_tp (f : P) (i k : Nat) : (tp f i).c k = if k < i then f.c (P.len f - i + k) else 0 := rfl
theorem tp_0 (f : P) : tp f 0 = 0 := P.ext fun k => by rw [c_tp, if_neg (by omega), P.c_0]
theorem tp_all (f : P) : tp f (P.len f) = f := P.ext fun k => by
  rw [c_tp]
  split
  · congr 1; omega
  · rw [P.len_Z f k (by omega)]
theorem tp_succ {f : P} {i : Nat} (hi : i < P.len f) : tp f (i + 1) = P.X * tp f i + P.K (f.c (P.len f - 1 - i)) := P.ext fun k => by
  rw [P.c_add]
  cases k with
  | zero =>
    rw [P.X_mul0, c_tp, if_pos (by omega), P.c_K0, Int.zero_add]
    congr 1; omega
  | succ k =>
    rw [P.X_mul, c_tp, c_tp, P.c_K, if_neg (show ¬ k + 1 = 0 by omega), Int.add_zero]
    by_cases c : k < i
    · rw [if_pos c, if_pos (by omega)]
      congr 1; omega
    · rw [if_neg c, if_neg (by omega)]
/-- while a root is tried -/
structure RtI (f : P) (a b : Int) (i : Nat) (found scale : Int) : Prop where
  sc : scale = b ^ i
  bf : found.natAbs < 2 ^ (40 + 10 * i)
  bs : scale.natAbs < 2 ^ (1 + 5 * i)
  ex : ∃ G : P, P.ev (P.K a) G = P.K found ∧ P.K b * P.ev (P.K b * P.X) G = P.K (b ^ i) * tp f i
theorem RtI.start (f : P) (a b : Int) : RtI f a b 0 0 1 := ⟨by rw [Int.pow_zero], by decide, by decide, 0, P.ev_K _ 0, by rw [tp_0]; have : P.ev (P.K b * P.X) 0 = 0 := P.ev_K _ 0; rw [this]; grind⟩
theorem RtI.next {f : P} {a b : Int} {i : Nat} {found scale : Int} (h : RtI f a b i found scale) (hi : i < P.len f) (bf : P.Bt 32 f) (ha : a.natAbs < 2 ^ 8) (hb : b.natAbs < 2 ^ 5) (l9 : P.len f ≤ 9) : RtI f a b (i + 1) (found * a + f.c (P.len f - 1 - i) * scale) (scale * b) := by
  have b1 : (found * a).natAbs < 2 ^ (48 + 10 * i) := by
    rw [Int.natAbs_mul, show 48 + 10 * i = (40 + 10 * i) + 8 by omega, Nat.pow_add]
    exact Nat.mul_lt_mul'' h.bf ha
  have b2 : (f.c (P.len f - 1 - i) * scale).natAbs < 2 ^ (48 + 10 * i) := by
    rw [Int.natAbs_mul]
    refine Nat.lt_of_lt_of_le (Nat.mul_lt_mul'' (bf _) h.bs) ?_
    rw [← Nat.pow_add]
    exact Nat.pow_le_pow_right (by decide) (by omega)
  refine ⟨by rw [h.sc, Int.pow_succ], ?_, ?_, ?_⟩
  · have e : 2 ^ (40 + 10 * (i + 1)) = 2 ^ (48 + 10 * i) * 2 ^ 2 := by rw [← Nat.pow_add]; congr 1; omega
    rw [e]
    omega
  · rw [Int.natAbs_mul, show 1 + 5 * (i + 1) = (1 + 5 * i) + 5 by omega, Nat.pow_add]
    exact Nat.mul_lt_mul'' h.bs hb
  · obtain ⟨G, e1, e2⟩ := h.ex
    refine ⟨G * P.X + P.K (f.c (P.len f - 1 - i) * scale), ?_, ?_⟩
    · rw [P.ev_add, P.ev_mul', P.ev_X, P.ev_K, e1, P.K_add, P.K_mulK found a]
    · rw [P.ev_add, P.ev_mul', P.ev_X, P.ev_K, tp_succ hi, Int.pow_succ, P.K_mulK (b ^ i) b, h.sc, P.K_mulK (f.c (P.len f - 1 - i)) (b ^ i)]
      generalize P.ev (P.K b * P.X) G = Z at e2 ⊢
      grind
section
variable {Pg : Program} {w : World} {K : PySem.W.Frag} {mg : Str → Option Value} {base : Heap}
def sp_Lroot (K : PySem.W.Frag) : Sp := mk3 fun x y z H Q => ∃ (p : Addr) (f : P) (a b : Int), x = .ref p ∧ y = .int a ∧ z = .int b ∧ AtP K H p f ∧ P.len f ≤ 9 ∧ P.Bt 32 f ∧ a.natAbs < 2 ^ 8 ∧ b.natAbs < 2 ^ 5 ∧ ∀ bb : Bool, (bb = true → HasRoot f a b) → Q (.bl bb) H
abbrev s_Lroot : Stmt := topS 84
abbrev N_Lroot : List Str := ["_law_one", "_law_top", "_law_bottom", "_law_found", "_law_scale", "_law_weight"]
theorem sc_Lroot : FnScope N_Lroot ["_law_one", "_law_top", "_law_bottom"] (defScope s_Lroot) := ⟨rfl, rfl, rfl, by decide +kernel, rfl, by decide +kernel, by decide +kernel⟩
theorem ok_Lroot (A : At K mg "_law_root" s_Lroot) (T : Txt mg) : Dn Pg w K mg base "_law_root" 41 ["_law_one", "_law_top", "_law_bottom"] (sp_Lroot K) := by
  refine mkDn A sc_Lroot (fun _ _ _ _ _ _ us hl => match us, hl with | [_, _, _], _ => rfl) (fun vs H Q E ⟨_, _, _, e, _⟩ => by rw [e]; rfl) fun f cdv A outer s H vs Q E hr h => ?_
  refine ⟨_, (pss_cons (ps_set (i := 3) sc_Lroot.nd rfl (.inl rfl) pe_int)
      (pss_cons (ps_set (i := 4) sc_Lroot.nd rfl (.inl rfl) pe_int)
      (pss_cons (ps_for PassesOwn.never rfl (RT.pi_revA (by rfl) T.reversed (pv 0)) (pg_name (i := 5) sc_Lroot.nd rfl (.inl rfl)) (pss_cons (ps_set (i := 3) sc_Lroot.nd rfl (.inl rfl) (pe_op op_add (pe_op op_mulB (pv 3) (pv 1)) (pe_op op_mulB (pv 5) (pv 4))))
      (pss_one (ps_set (i := 4) sc_Lroot.nd rfl (.inl rfl) (pe_op op_mulB (pv 4) (pv 2))))))
      (pss_one (ps_ret (pe_cmpR op_eq (pv 3) pe_int (nomark _))))))), ?_⟩
  obtain ⟨v0, v1, v2, rfl, h⟩ := h
  obtain ⟨p, f, a, b, rfl, rfl, rfl, hf, l9, bf, ha, hb, go⟩ := h
  refine ⟨_, rfl, p, pl f, rfl, .inr ⟨hf, ?_⟩⟩
  rw [pl_len]
  refine for_at (P.len f) (fun i σ H' => H' = H ∧ ∃ (fo sc : Int) (u5 : Option V), σ = [some (.ref p), some (.int a), some (.int b), some (.int fo), some (.int sc), u5] ∧ RtI f a b i fo sc) ⟨rfl, 0, 1, _, rfl, .start f a b⟩ ?_ ?_
  · rintro i σ H' hi ⟨rfl, fo, sc, u5, rfl, I⟩
    have hg := pl_get (f := f) (k := P.len f - 1 - i) (by omega)
    refine ⟨⟨hi, _, _, hf, hg⟩, fun v H2 ⟨eH, hv⟩ => ?_⟩
    subst eH
    have ev := Option.some.inj ((hv _ hf).symm.trans hg)
    subst ev
    have I2 := I.next hi bf ha hb l9
    exact ⟨_, rfl, _, rfl, _, _, rfl, rfl, mulOk I.bf ha (by omega), _, rfl, _, rfl, _, _, rfl, rfl, mulOk (bf _) I.bs (by omega), _, _, rfl, rfl, _, rfl, _, rfl, _, _, rfl, rfl, mulOk I.bs hb (by omega), rfl, _, _, _, rfl, I2⟩
  · rintro σ H' ⟨rfl, fo, sc, u5, rfl, I⟩
    refine ⟨Nat.le_refl _, _, rfl, rfl, go _ fun hz => ?_⟩
    have z := eqI.mp hz
    obtain ⟨G, e1, e2⟩ := I.ex
    rw [tp_all] at e2
    exact ⟨G, by rw [e1, z]; rfl, e2⟩
def sp_Lno_root (K : PySem.W.Frag) : Sp := mk1 fun x H Q => ∃ (p : Addr) (f : P), x = .ref p ∧ AtP K H p f ∧ P.Irr f ∧ P.len f ≤ 9 ∧ P.Bt 32 f ∧ Q (.bl true) H
abbrev s_Lno_root : Stmt := topS 85
abbrev N_Lno_root : List Str := ["_law_part", "_law_bottom", "_law_top"]
theorem sc_Lno_root : FnScope N_Lno_root ["_law_part"] (defScope s_Lno_root) := ⟨rfl, rfl, rfl, by decide +kernel, rfl, by decide +kernel, by decide +kernel⟩
theorem ok_Lno_root (A : At K mg "_law_no_root" s_Lno_root) (T : Txt mg) (d_Lroot : Dn Pg w K mg base "_law_root" 41 ["_law_one", "_law_top", "_law_bottom"] (sp_Lroot K)) : Dn Pg w K mg base "_law_no_root" 42 ["_law_part"] (sp_Lno_root K) := by
  refine mkDn A sc_Lno_root (fun _ _ _ _ _ _ us hl => match us, hl with | [_], _ => rfl) (fun vs H Q E ⟨_, e, _⟩ => by rw [e]; rfl) fun f cdv A outer s H vs Q E hr h => ?_
  refine ⟨_, (pss_cons (ps_if (pt_cmpR op_lt (pe_callB (call_lenK (K := K)) (by rfl) T.len PySem.boot_len (pa_cons (pv 0) pa_nil)) pe_int (nomark _)) (pss_one (ps_ret pe_bl)) pss_nil)
      (pss_cons (ps_if (pt_cmpR op_eq (pe_ix (ix_tupK (K := K)) (pv 0) pe_int (fun _ _ => rfl)) pe_int (nomark _)) (pss_one (ps_ret pe_bl)) pss_nil)
      (pss_cons (ps_for PassesOwn.never rfl (pi_range2 (by rfl) T.range (pa_cons pe_int (pa_cons (pe_op op_add (pe_callB (call_min2 rfl) (by rfl) T.min (by decide +kernel) (pa_cons pe_int (pa_cons (pe_ix (ix_tupK (K := K)) (pv 0) (pe_un un_neg pe_int) (fun _ _ => rfl)) pa_nil))) pe_int) pa_nil))) (pg_name (i := 1) sc_Lno_root.nd rfl (.inl rfl)) (pss_one (ps_if (pt_cmpR op_eq (pe_op op_modN (pe_ix (ix_tupK (K := K)) (pv 0) (pe_un un_neg pe_int) (fun _ _ => rfl)) (pv 1)) pe_int (nomark _)) (pss_one (ps_for PassesOwn.never rfl (pi_range2 (by rfl) T.range (pa_cons pe_int (pa_cons (pe_op op_add (pe_callB (call_min2 rfl) (by rfl) T.min (by decide +kernel) (pa_cons pe_int (pa_cons (pe_callB call_abs (by rfl) T.abs (by decide +kernel) (pa_cons (pe_ix (ix_tupK (K := K)) (pv 0) pe_int (fun _ _ => rfl)) pa_nil)) pa_nil))) pe_int) pa_nil))) (pg_name (i := 2) sc_Lno_root.nd rfl (.inl rfl)) (pss_cons (ps_if (PW.pt (pw_and (pt_cmpR op_eq (pe_op op_modN (pe_ix (ix_tupK (K := K)) (pv 0) pe_int (fun _ _ => rfl)) (pv 2)) pe_int (nomark _)) (pw_and1 (pt_val (pe_own d_Lroot (hr.mono (by decide)) (by rfl) (pa_cons (pv 0) (pa_cons (pv 2) (pa_cons (pv 1) pa_nil)))))))) (pss_one (ps_ret pe_bl)) pss_nil)
      (pss_one (ps_if (PW.pt (pw_and (pt_cmpR op_eq (pe_op op_modN (pe_ix (ix_tupK (K := K)) (pv 0) pe_int (fun _ _ => rfl)) (pv 2)) pe_int (nomark _)) (pw_and1 (pt_val (pe_own d_Lroot (hr.mono (by decide)) (by rfl) (pa_cons (pv 0) (pa_cons (pe_op op_sub pe_int (pv 2)) (pa_cons (pv 1) pa_nil)))))))) (pss_one (ps_ret pe_bl)) pss_nil))))) pss_nil)))
      (pss_one (ps_ret pe_bl))))), ?_⟩
  obtain ⟨v0, rfl, h⟩ := h
  obtain ⟨p, f, rfl, hf, ir, l9, bf, go⟩ := h
  have f0 := ir.1.ne
  have lc0 := ir.1.2
  refine ⟨_, rfl, p, _, rfl, .inr hf, ?_⟩
  rw [pl_len]
  refine ⟨_, _, rfl, rfl, _, rfl, ite2 (fun c => go) fun c => ?_⟩
  have l3 : 3 ≤ P.len f := Classical.byContradiction fun z => c (decide_eq_true (by omega))
  have hg0 := pl_get (f := f) (k := 0) (by omega)
  refine ⟨_, rfl, p, _, _, _, rfl, rfl, hf, atI_ok (by decide) hg0, rfl, _, rfl, ite2 (fun c => (no_zero ir l3 (eqI.mp c)).elim) fun _ => ?_⟩
  have b0 := bf 0
  have bl := bf.lc
  refine ⟨_, rfl, _, rfl, p, _, _, _, rfl, rfl, hf, atI_neg (pl_last f0), _, _, rfl, _, _, rfl, rfl, 1, _, rfl, ⟨by decide, by decide, by split <;> omega, by split <;> omega⟩, for_range (lo := 1) (fun i σ H' => H' = H ∧ ∃ u1 u2 : Option V, σ = [some (.ref p), u1, u2]) ⟨rfl, _, _, rfl⟩ ?_ ?_⟩
  · rintro i σ H' hi ⟨rfl, u1, u2, rfl⟩
    have hi30 : (1 : Int) + (i : Nat) ≤ 30 := by split at hi <;> omega
    refine ⟨_, rfl, _, rfl, p, _, _, _, rfl, rfl, hf, atI_neg (pl_last f0), _, rfl, _, _, rfl, rfl, by omega, rfl, _, rfl, ite2 (fun c => ?_) fun c => ⟨rfl, _, _, rfl⟩⟩
    refine ⟨_, rfl, p, _, _, _, rfl, rfl, hf, atI_ok (by decide) hg0, _, rfl, _, _, rfl, _, _, rfl, rfl, 1, _, rfl, ⟨by decide, by decide, ?_, ?_⟩, for_range (lo := 1) (fun j σ Hx => Hx = H' ∧ ∃ u2 : Option V, σ = [some (.ref p), some (.int (1 + (i : Nat))), u2]) ⟨rfl, _, rfl⟩ ?_ ?_⟩
    · split <;> split <;> omega
    · split <;> split <;> omega
    · rintro j σ H' hj ⟨rfl, u2, rfl⟩
      have hj100 : (1 : Int) + (j : Nat) ≤ 100 := by split at hj <;> omega
      have second : ∀ De : Ends, De.nx [some (.ref p), some (.int (1 + (i : Nat))), some (.int (1 + (j : Nat)))] H' → (tIfS (tAnd (tTest (tOp rEq (tOp (rI (fun _ j => j ≠ 0) fun i j => V.int (i.fmod j)) (tOp (rIxT K) (tVar 0) (tC (.int 0))) (tVar 2)) (tC (.int 0)))) (tB (tCall (sp_Lroot K) [] E0 (tCons (tVar 0) (tCons (tOp (rI0 fun i j => V.int (i - j)) (tC (.int 0)) (tVar 2)) (tCons (tVar 1) tNil)))))) (tRet (tC (.bl false))) tNext) De [some (.ref p), some (.int (1 + (i : Nat))), some (.int (1 + (j : Nat)))] H' := by
        intro De hDe
        refine ⟨_, rfl, p, _, _, _, rfl, rfl, hf, atI_ok (by decide) hg0, _, rfl, _, _, rfl, rfl, by omega, rfl, _, rfl, ite2 (fun c2 => ?_) fun c2 => iteF hDe⟩
        refine ⟨_, rfl, _, rfl, _, _, rfl, rfl, _, rfl, _, _, _, rfl, p, f, 0 - (1 + (j : Nat)), 1 + (i : Nat), rfl, rfl, rfl, hf, l9, bf, by omega, by omega, fun bb hbb => ⟨bb, rfl, ite2 (fun c3 => (no_root ir l3 (by omega) (hbb c3)).elim) fun c3 => hDe⟩⟩
      refine ⟨_, rfl, p, _, _, _, rfl, rfl, hf, atI_ok (by decide) hg0, _, rfl, _, _, rfl, rfl, by omega, rfl, _, rfl, ite2 (fun c2 => ?_) fun c2 => iteF (second _ ⟨rfl, _, rfl⟩)⟩
      refine ⟨_, rfl, _, rfl, _, rfl, _, _, _, rfl, p, f, 1 + (j : Nat), 1 + (i : Nat), rfl, rfl, rfl, hf, l9, bf, by omega, by omega, fun bb hbb => ⟨bb, rfl, ite2 (fun c3 => (no_root ir l3 (by omega) (hbb c3)).elim) fun c3 => second _ ⟨rfl, _, rfl⟩⟩⟩
    · rintro σ H' ⟨rfl, u2, rfl⟩
      exact ⟨rfl, _, _, rfl⟩
  · rintro σ H' ⟨rfl, u1, u2, rfl⟩
    exact go
end
end RH
/-! W33: what the law makes. -/
namespace RH
open PySem PySem.Spec PyProof.Rows L2 RC
theorem cutV_mid {xs : List V} {lo hi : Nat} (h1 : lo ≤ hi) (h2 : hi ≤ xs.length) : cutV xs (some (lo : Int)) (some (hi : Int)) = (xs.drop lo).take (hi - lo) := by
  unfold cutV
  have e0 : HT.sIx xs.length xs.length (some (hi : Int)) = hi := by
    unfold HT.sIx
    show (if (hi : Int) < 0 then _ else _) = _
    rw [if_neg (by omega)]
    omega
  have e1 : HT.sIx xs.length 0 (some (lo : Int)) = lo := by
    unfold HT.sIx
    show (if (lo : Int) < 0 then _ else _) = _
    rw [if_neg (by omega)]
    omega
  rw [e0, e1]
theorem map_tab {fs : List Int} {n : Nat} (h : fs.length = n) : fs.map V.int = tab (fun i => fs.getD i 0) n := List.ext_getElem? fun k => by
  by_cases c : k < n
  · rw [tab_get c, List.getElem?_map, getD_get (by omega)]
    rfl
  · rw [List.getElem?_eq_none (by rw [List.length_map]; omega), List.getElem?_eq_none (by rw [tab_len]; omega)]
theorem tab_mid (h : Nat → Int) {lo len n : Nat} (hl : lo + len ≤ n) : ((tab h n).drop lo).take len = tab (fun k => h (lo + k)) len := by
  obtain ⟨d, rfl⟩ : ∃ d, n = lo + (len + d) := ⟨n - lo - len, by omega⟩
  rw [tab_drop, tab_take]
theorem tab_snoc (G : Nat → Int) (m : Nat) (top : Int) : tab G m ++ [V.int top] = tab (fun k => if k < m then G k else top) (m + 1) := by
  rw [tab_succ, if_neg (by omega), tab_congr (h := fun k => if k < m then G k else top) (h' := G) fun k hk => if_pos hk]
/-- the three kinds of weights -/
def pick (s w : Int) : Int := if s = 0 then w - 20 else if s = 1 then w % 5 - 2 else w % 9 - 4
theorem pick_bd {s w : Int} (h0 : 0 ≤ w) (h1 : w < 41) : (pick s w).natAbs ≤ 20 := by
  unfold pick
  split
  · omega
  · split
    · have := Int.emod_nonneg w (show (5 : Int) ≠ 0 by decide)
      have := Int.emod_lt_of_pos w (show (0 : Int) < 5 by decide)
      omega
    · have := Int.emod_nonneg w (show (9 : Int) ≠ 0 by decide)
      have := Int.emod_lt_of_pos w (show (0 : Int) < 9 by decide)
      omega
def pick2 (s w : Int) : Int := if s = 0 then w - 1000000000000 else if s = 1 then w % 7 - 3 else w % 201 - 100
theorem pick2_bd {s w : Int} (h0 : 0 ≤ w) (h1 : w < 2000000000000) : (pick2 s w).natAbs < 2 ^ 41 := by
  unfold pick2
  split
  · omega
  · split
    · have := Int.emod_nonneg w (show (7 : Int) ≠ 0 by decide)
      have := Int.emod_lt_of_pos w (show (0 : Int) < 7 by decide)
      omega
    · have := Int.emod_nonneg w (show (201 : Int) ≠ 0 by decide)
      have := Int.emod_lt_of_pos w (show (0 : Int) < 201 by decide)
      omega
theorem three_at {a b c : Int} {s : Int} (h0 : 0 ≤ s) (h3 : s < 3) : [V.int a, V.int b, V.int c][s.toNat]? = some (V.int (if s = 0 then a else if s = 1 then b else c)) := by
  have : s = 0 ∨ s = 1 ∨ s = 2 := by omega
  rcases this with rfl | rfl | rfl <;> rfl
/-- how many weights beside the first -/
noncomputable def wtL : List P → Nat
  | [] => 0
  | m :: Ms => (P.len m - 1) + wtL Ms
theorem wtL_snoc (m : P) : ∀ Ms : List P, wtL (Ms ++ [m]) = wtL Ms + (P.len m - 1)
  | [] => by show (P.len m - 1) + 0 = 0 + _; omega
  | n :: Ms => by show (P.len n - 1) + wtL (Ms ++ [m]) = (P.len n - 1) + wtL Ms + _; rw [wtL_snoc m Ms]; omega
/-- what is made -/
structure Mad (Ms : List P) : Prop where
  ok : ∀ m ∈ Ms, m ≠ 0 ∧ P.len m ≤ 5 ∧ ∀ k, (m.c k).natAbs ≤ 20
  wt : wtL Ms ≤ 8
  n : Ms.length ≤ 3
theorem ofL_snoc {G : Nat → Int} {m : Nat} {top : Int} (ht : top ≠ 0) : (ofL ((List.range (m + 1)).map fun k => if k < m then G k else top)) ≠ 0 ∧ P.len (ofL ((List.range (m + 1)).map fun k => if k < m then G k else top)) = m + 1 ∧ ∀ k, (ofL ((List.range (m + 1)).map fun k => if k < m then G k else top)).c k = if k < m then G k else if k = m then top else 0 := by
  have hc : ∀ k, (ofL ((List.range (m + 1)).map fun k => if k < m then G k else top)).c k = if k < m then G k else if k = m then top else 0 := fun k => by
    by_cases c : k < m + 1
    · have : ((List.range (m + 1)).map fun k => if k < m then G k else top)[k]? = some (if k < m then G k else top) := by rw [List.getElem?_map, List.getElem?_range c]; rfl
      rw [ofL_at this]
      by_cases d : k < m
      · rw [if_pos d, if_pos d]
      · rw [if_neg d, if_neg d, if_pos (by omega)]
    · rw [ofL_Z _ k (by rw [List.length_map, List.length_range]; omega), if_neg (by omega), if_neg (by omega)]
  have hl : P.len (ofL ((List.range (m + 1)).map fun k => if k < m then G k else top)) = m + 1 := P.len_is (fun k hk => by rw [hc, if_neg (by omega), if_neg (by omega)]) (by rw [hc, if_neg (by omega), if_pos rfl]; exact ht)
  exact ⟨P.len_pos.mp (by omega), hl, hc⟩
section
variable {Pg : Program} {w : World} {K : PySem.W.Frag} {mg : Str → Option Value} {base : Heap}
abbrev bsM : List Int := [3, 4, 3, 41, 41, 41, 41, 4, 3, 41, 41, 41, 41, 4, 3, 41, 41, 41, 41, 3]
def sp_Lmade (K : PySem.W.Frag) : Sp := mk1 fun x H Q => ∃ n : Int, x = .int n ∧ ∀ Ms : List P, Mad Ms → ∀ H' l ys, Same H H' → H l = none → H' l = some (.lst ys) → All2 (PV K H') ys Ms → Q (.ref l) H'
abbrev s_Lmade : Stmt := topS 86
abbrev N_Lmade : List Str := ["_law_cell", "_law_parts_here", "_law_most", "_law_found", "_law_many", "_law_k", "_law_here", "_law_weights", "_law_weight", "_law_one"]
theorem sc_Lmade : FnScope N_Lmade ["_law_cell"] (defScope s_Lmade) := ⟨rfl, rfl, rfl, by decide +kernel, rfl, by decide +kernel, by decide +kernel⟩
theorem ok_Lmade (A : At K mg "_law_made" s_Lmade) (T : Txt mg) (d_Lparts : Dn Pg w K mg base "_law_parts" 42 ["_law_cell", "_law_bases"] (sp_Lparts K)) (d_Lpoly : Dn Pg w K mg base "_law_poly" 41 ["_law_weights"] (sp_Lpoly K)) : Dn Pg w K mg base "_law_made" 43 ["_law_cell"] (sp_Lmade K) := by
  refine mkDn A sc_Lmade (fun _ _ _ _ _ _ us hl => match us, hl with | [_], _ => rfl) (fun vs H Q E ⟨_, e, _⟩ => by rw [e]; rfl) fun f cdv A outer s H vs Q E hr h => ?_
  refine ⟨_, (pss_cons (ps_set (i := 1) sc_Lmade.nd rfl (.inl rfl) (pe_own d_Lparts (hr.mono (by decide)) (by rfl) (pa_cons (pv 0) (pa_cons (pe_op op_cat (pe_op op_cat (pe_op op_cat (pe_op op_cat (pe_op op_cat (pe_op op_cat (pe_op op_cat (pe_lst (pa_cons pe_int pa_nil)) (pe_lst (pa_cons pe_int (pa_cons pe_int pa_nil)))) (pe_op op_rep (pe_lst (pa_cons pe_int pa_nil)) pe_int)) (pe_lst (pa_cons pe_int (pa_cons pe_int pa_nil)))) (pe_op op_rep (pe_lst (pa_cons pe_int pa_nil)) pe_int)) (pe_lst (pa_cons pe_int (pa_cons pe_int pa_nil)))) (pe_op op_rep (pe_lst (pa_cons pe_int pa_nil)) pe_int)) (pe_lst (pa_cons pe_int pa_nil))) pa_nil))))
      (pss_cons (ps_set (i := 2) sc_Lmade.nd rfl (.inl rfl) (pe_ix (ix_listK (K := K)) (pe_lst (pa_cons pe_int (pa_cons pe_int (pa_cons pe_int pa_nil)))) (pe_ix (ix_listK (K := K)) (pv 1) pe_int (fun _ _ => rfl)) (fun _ _ => rfl)))
      (pss_cons (ps_set (i := 3) sc_Lmade.nd rfl (.inl rfl) (pe_lst pa_nil))
      (pss_cons (ps_set (i := 4) sc_Lmade.nd rfl (.inl rfl) pe_int)
      (pss_cons (ps_for PassesOwn.never rfl (pi_range1 (by rfl) T.range (pa_cons (pe_op op_add pe_int (pe_ix (ix_listK (K := K)) (pv 1) pe_int (fun _ _ => rfl))) pa_nil)) (pg_name (i := 5) sc_Lmade.nd rfl (.inl rfl)) (pss_cons (ps_set (i := 6) sc_Lmade.nd rfl (.inr rfl) (pe_slice (sl_listK (K := K)) (pv 1) (po_some (pe_op op_add pe_int (pe_op op_mulB pe_int (pv 5)))) (po_some (pe_op op_add pe_int (pe_op op_mulB pe_int (pv 5))))))
      (pss_cons (ps_setLc (i := 7) (own := [("_law_weight", 8)]) (g := gName 8) (tt := tYes) (by rfl) sc_Lmade.nd rfl rfl (sw_true rfl rfl rfl (by decide +kernel)) (pi_listK (K := K) (pe_slice (sl_listK (K := K)) (pv 6) (po_some pe_int) po_none)) (blkOk_by (N := N_Lmade) (sc := defScope s_Lmade) (by decide +kernel)) (fun _ _ _ _ _ => (pg_name (i := 8) sc_Lmade.nd rfl (.inl rfl))) (fun _ _ _ _ _ => pts_nil) (fun _ _ _ _ _ => (pe_ix (ix_listK (K := K)) (pe_lst (pa_cons (pe_op op_sub (pv 8) pe_int) (pa_cons (pe_op op_sub (pe_op op_modN (pv 8) pe_int) pe_int) (pa_cons (pe_op op_sub (pe_op op_modN (pv 8) pe_int) pe_int) pa_nil)))) (pe_ix (ix_listK (K := K)) (pv 6) pe_int (fun _ _ => rfl)) (fun _ _ => rfl))))
      (pss_cons (ps_set (i := 9) sc_Lmade.nd rfl (.inl rfl) (pe_own d_Lpoly (hr.mono (by decide)) (by rfl) (pa_cons (pe_op op_cat (pe_slice (sl_listK (K := K)) (pv 7) po_none (po_some (pe_op op_add pe_int (pe_ix (ix_listK (K := K)) (pv 6) pe_int (fun _ _ => rfl))))) (pe_lst (pa_cons (pe_op op_add pe_int (pe_op op_modN (pe_ix (ix_listK (K := K)) (pv 6) pe_int (fun _ _ => rfl)) pe_int)) pa_nil))) pa_nil)))
      (pss_one (ps_if (pt_cmpR op_le (pe_op op_sub (pe_op op_add (pv 4) (pe_callB (call_lenK (K := K)) (by rfl) T.len PySem.boot_len (pa_cons (pv 9) pa_nil))) pe_int) (pv 2) (nomark _)) (pss_cons (ps_expr (pe_bm PySem.F.plainAttrs_list PySem.F.slot_list_append PySem.F.type_list_append mt_append (pv 3) (pa_cons (pv 9) pa_nil)))
      (pss_one (ps_set (i := 4) sc_Lmade.nd rfl (.inl rfl) (pe_op op_sub (pe_op op_add (pv 4) (pe_callB (call_lenK (K := K)) (by rfl) T.len PySem.boot_len (pa_cons (pv 9) pa_nil))) pe_int)))) pss_nil))))))
      (pss_one (ps_ret (pv 3)))))))), ?_⟩
  obtain ⟨v0, rfl, h⟩ := h
  obtain ⟨n, rfl, go⟩ := h
  have szl : sizeLine = 16777216 := by decide
  refine ⟨_, rfl, sz1, fun q1 h1 => ⟨sz2, fun q2 h2 => ?_⟩⟩
  have s1 := same_new (o := .lst [.int 3]) h1
  have s2 := same_new (o := .lst [.int 4, .int 3]) h2
  refine ⟨q1, q2, _, _, rfl, rfl, s2 _ _ (upd_same ..), upd_same .., by decide, fun q3 h3 => ⟨sz1, fun q4 h4 => ⟨q4, 4, _, rfl, rfl, upd_same .., by decide, by decide, by decide, fun q5 h5 => ?_⟩⟩⟩
  have s3 := same_new (o := .lst ([.int 3] ++ [.int 4, .int 3])) h3
  have s4 := same_new (o := .lst [.int 41]) h4
  have s5 := same_new (o := .lst (List.replicate (4 : Int).toNat [V.int 41]).flatten) h5
  refine ⟨q3, q5, _, _, rfl, rfl, s5 _ _ (s4 _ _ (upd_same ..)), upd_same .., by decide, fun q6 h6 => ⟨sz2, fun q7 h7 => ?_⟩⟩
  have s6 := same_new (o := .lst ([.int 3] ++ [.int 4, .int 3] ++ (List.replicate (4 : Int).toNat [V.int 41]).flatten)) h6
  have s7 := same_new (o := .lst [.int 4, .int 3]) h7
  refine ⟨q6, q7, _, _, rfl, rfl, s7 _ _ (upd_same ..), upd_same .., by decide, fun q8 h8 => ⟨sz1, fun q9 h9 => ⟨q9, 4, _, rfl, rfl, upd_same .., by decide, by decide, by decide, fun q10 h10 => ?_⟩⟩⟩
  have s8 := same_new (o := .lst ([.int 3] ++ [.int 4, .int 3] ++ (List.replicate (4 : Int).toNat [V.int 41]).flatten ++ [.int 4, .int 3])) h8
  have s9 := same_new (o := .lst [.int 41]) h9
  have s10 := same_new (o := .lst (List.replicate (4 : Int).toNat [V.int 41]).flatten) h10
  refine ⟨q8, q10, _, _, rfl, rfl, s10 _ _ (s9 _ _ (upd_same ..)), upd_same .., by decide, fun q11 h11 => ⟨sz2, fun q12 h12 => ?_⟩⟩
  have s11 := same_new (o := .lst ([.int 3] ++ [.int 4, .int 3] ++ (List.replicate (4 : Int).toNat [V.int 41]).flatten ++ [.int 4, .int 3] ++ (List.replicate (4 : Int).toNat [V.int 41]).flatten)) h11
  have s12 := same_new (o := .lst [.int 4, .int 3]) h12
  refine ⟨q11, q12, _, _, rfl, rfl, s12 _ _ (upd_same ..), upd_same .., by decide, fun q13 h13 => ⟨sz1, fun q14 h14 => ⟨q14, 4, _, rfl, rfl, upd_same .., by decide, by decide, by decide, fun q15 h15 => ?_⟩⟩⟩
  have s13 := same_new (o := .lst ([.int 3] ++ [.int 4, .int 3] ++ (List.replicate (4 : Int).toNat [V.int 41]).flatten ++ [.int 4, .int 3] ++ (List.replicate (4 : Int).toNat [V.int 41]).flatten ++ [.int 4, .int 3])) h13
  have s14 := same_new (o := .lst [.int 41]) h14
  have s15 := same_new (o := .lst (List.replicate (4 : Int).toNat [V.int 41]).flatten) h15
  refine ⟨q13, q15, _, _, rfl, rfl, s15 _ _ (s14 _ _ (upd_same ..)), upd_same .., by decide, fun q16 h16 => ⟨sz1, fun q17 h17 => ?_⟩⟩
  have s16 := same_new (o := .lst ([.int 3] ++ [.int 4, .int 3] ++ (List.replicate (4 : Int).toNat [V.int 41]).flatten ++ [.int 4, .int 3] ++ (List.replicate (4 : Int).toNat [V.int 41]).flatten ++ [.int 4, .int 3] ++ (List.replicate (4 : Int).toNat [V.int 41]).flatten)) h16
  have s17 := same_new (o := .lst [.int 3]) h17
  refine ⟨q16, q17, _, _, rfl, rfl, s17 _ _ (upd_same ..), upd_same .., by decide, fun q18 h18 => ?_⟩
  have s18 := same_new (o := .lst (bsM.map V.int)) h18
  have sA := (((((((((((((((((s1.trans s2).trans s3).trans s4).trans s5).trans s6).trans s7).trans s8).trans s9).trans s10).trans s11).trans s12).trans s13).trans s14).trans s15).trans s16).trans s17).trans s18)
  refine ⟨_, _, rfl, n, q18, bsM, rfl, rfl, lst_at (upd_same ..), by decide, by decide, fun fs lfs hfs H2 pa s19 n19 d19 => ?_⟩
  have sB : Same H H2 := sA.trans s19
  clear s19 sA s1 s2 s3 s4 s5 s6 s7 s8 s9 s10 s11 s12 s13 s14 s15 s16 s17 s18 h1 h2 h3 h4 h5 h6 h7 h8 h9 h10 h11 h12 h13 h14 h15 h16 h17 h18 n19
  have lf20 : fs.length = 20 := lfs
  rw [map_tab lf20] at d19
  generalize hF : (fun i => fs.getD i 0) = F at d19
  have B : ∀ (i : Nat) (b : Int), bsM[i]? = some b → 0 ≤ F i ∧ F i < b := fun i b hb => by
    rw [← hF]
    exact hfs i b _ hb (getD_get (by have := (List.getElem?_eq_some_iff.mp hb).1; rw [lf20]; exact this))
  clear hF hfs lf20 lfs
  have b0 := B 0 3 rfl
  have b19 := B 19 3 rfl
  have hb1 : ∀ k, k < 3 → 0 ≤ F (1 + 6 * k) ∧ F (1 + 6 * k) < 4 := fun k hk => by
    have : k = 0 ∨ k = 1 ∨ k = 2 := by omega
    rcases this with rfl | rfl | rfl <;> exact B _ _ rfl
  have hb2 : ∀ k, k < 3 → 0 ≤ F (1 + 6 * k + 1) ∧ F (1 + 6 * k + 1) < 3 := fun k hk => by
    have : k = 0 ∨ k = 1 ∨ k = 2 := by omega
    rcases this with rfl | rfl | rfl <;> exact B _ _ rfl
  have hb3 : ∀ k, k < 3 → ∀ j, j < 4 → 0 ≤ F (1 + 6 * k + (2 + j)) ∧ F (1 + 6 * k + (2 + j)) < 41 := fun k hk j hj => by
    have hk' : k = 0 ∨ k = 1 ∨ k = 2 := by omega
    have hj' : j = 0 ∨ j = 1 ∨ j = 2 ∨ j = 3 := by omega
    rcases hk' with rfl | rfl | rfl <;> rcases hj' with rfl | rfl | rfl | rfl <;> exact B _ _ rfl
  refine ⟨sz3, fun pm hpm => ?_⟩
  have sm := same_new (o := .lst [.int 6, .int 8, .int 6]) hpm
  refine ⟨_, rfl, pa, _, _, _, rfl, rfl, lst_at (sm _ _ d19), atI_ok (by decide) (tab_get (k := 19) (by decide)), pm, _, _, _, rfl, rfl, lst_at (upd_same ..), atI_ok b19.1 (three_at b19.1 b19.2), ?_⟩
  have hM : 0 ≤ (if F 19 = 0 then (6 : Int) else if F 19 = 1 then 8 else 6) ∧ (if F 19 = 0 then (6 : Int) else if F 19 = 1 then 8 else 6) ≤ 8 := by refine ⟨?_, ?_⟩ <;> (split <;> first | omega | (split <;> omega))
  generalize (if F 19 = 0 then (6 : Int) else if F 19 = 1 then 8 else 6) = M at hM
  refine ⟨sz0, fun D hD => ?_⟩
  have sC := sB.trans sm
  have hD0 := none_same sC hD
  have sD := same_new (o := .lst []) hD
  have g0 : Grow H D [] (upd (upd H2 pm (.lst [.int 6, .int 8, .int 6])) D (.lst [])) := ⟨sC.trans sD, upd_same ..⟩
  have dpa := sD _ _ (sm _ _ d19)
  have npa : pa ≠ D := fun z => by
    have := sm _ _ d19
    rw [z, hD] at this
    cases this
  refine ⟨_, rfl, pa, _, _, _, rfl, rfl, lst_at dpa, atI_ok (by decide) (tab_get (k := 0) (by decide)), _, _, rfl, rfl, 1 + F 0, rfl, by omega, by omega, for_range (lo := 0) (n := (1 + F 0).toNat) (fun k σ Hx => ∃ (Ms : List P) (ys : List V) (mn : Int) (u5 u6 u7 u9 : Option V), σ = [some (.int n), some (.ref pa), some (.int M), some (.ref D), some (.int mn), u5, u6, u7, none, u9] ∧ Grow H D ys Hx ∧ Hx pa = some (.lst (tab F 20)) ∧ All2 (PV K Hx) ys Ms ∧ (∀ m ∈ Ms, m ≠ 0 ∧ P.len m ≤ 5 ∧ ∀ k, (m.c k).natAbs ≤ 20) ∧ mn = (wtL Ms : Nat) ∧ mn ≤ M ∧ Ms.length ≤ k) ⟨[], [], 0, _, _, _, _, rfl, g0, dpa, .nil, fun m h => absurd h (List.not_mem_nil), rfl, hM.1, Nat.le_refl _⟩ ?_ ?_⟩
  · rintro k σ Hx hk ⟨Ms, ys, mn, u5, u6, u7, u9, rfl, gr, dpa, hys, hMs, emn, hmn, lMs⟩
    have k3 : k < 3 := by omega
    have e0 : (0 : Int) + (k : Nat) = (k : Nat) := by omega
    rw [e0]
    refine ⟨_, rfl, _, rfl, _, _, rfl, rfl, mulOk (a := 4) (b := 4) (by decide) (by omega) (by decide), _, _, rfl, rfl, ((1 + 6 * k : Nat) : Int), congrArg V.int (by omega), _, rfl, _, _, rfl, rfl, mulOk (a := 4) (b := 4) (by decide) (by omega) (by decide), _, _, rfl, rfl, ((7 + 6 * k : Nat) : Int), congrArg V.int (by omega), pa, _, rfl, lst_at dpa, fun ph hph => ?_⟩
    rw [cutV_mid (by omega) (by rw [tab_len]; omega), show 7 + 6 * k - (1 + 6 * k) = 6 by omega, tab_mid F (show 1 + 6 * k + 6 ≤ 20 by omega)]
    have sh := same_new (o := .lst (tab (fun j => F (1 + 6 * k + j)) 6)) hph
    have dph : (upd Hx ph (.lst (tab (fun j => F (1 + 6 * k + j)) 6))) ph = some (.lst (tab (fun j => F (1 + 6 * k + j)) 6)) := upd_same ..
    have gr1 := gr.to sh
    refine ⟨_, rfl, 2, rfl, ph, _, rfl, lst_at dph, fun pz hpz => ?_⟩
    rw [show (2 : Int) = ((2 : Nat) : Int) from rfl, cutV_from (by rw [tab_len]; decide), show tab (fun j => F (1 + 6 * k + j)) 6 = tab (fun j => F (1 + 6 * k + j)) (2 + 4) from rfl, tab_drop]
    have sz := same_new (o := .lst (tab (fun j => F (1 + 6 * k + (2 + j))) 4)) hpz
    refine ⟨pz, rfl, ⟨_, lst_at (upd_same ..)⟩, fun D2 hD2 => lc_list (xs := tab (fun j => F (1 + 6 * k + (2 + j))) 4) (fun i H4 => Grow (upd (upd Hx ph (.lst (tab (fun j => F (1 + 6 * k + j)) 6))) pz (.lst (tab (fun j => F (1 + 6 * k + (2 + j))) 4))) D2 (tab (fun j => pick (F (1 + 6 * k + 1)) (F (1 + 6 * k + (2 + j)))) i) H4) (.new hD2) (fun i H4 _ g => lst_at (g.same _ _ (upd_same ..))) ?_ ?_⟩
    · intro i x H4 hx g4
      have hi : i < 4 := by
        have := (List.getElem?_eq_some_iff.mp hx).1
        rwa [tab_len] at this
      rw [tab_get hi] at hx
      cases hx
      have hw := hb3 k k3 i hi
      have hs := hb2 k k3
      refine ⟨rfl, itT ⟨_, rfl, _, _, rfl, rfl, _, rfl, _, _, rfl, rfl, show (5 : Int) ≠ 0 by decide, _, _, rfl, rfl, _, rfl, _, _, rfl, rfl, show (9 : Int) ≠ 0 by decide, _, _, rfl, rfl, sz3, fun pq hpq => ?_⟩⟩
      have sq := same_new (o := .lst [.int (F (1 + 6 * k + (2 + i)) - 20), .int ((F (1 + 6 * k + (2 + i))).fmod 5 - 2), .int ((F (1 + 6 * k + (2 + i))).fmod 9 - 4)]) hpq
      refine ⟨_, rfl, ph, _, _, _, rfl, rfl, lst_at (sq _ _ (g4.same _ _ (sz _ _ dph))), atI_ok (by decide) (tab_get (k := 1) (by decide)), pq, _, _, _, rfl, rfl, lst_at (upd_same ..), atI_ok hs.1 (three_at hs.1 hs.2), g4.tab hD2 sq (by omega) ?_⟩
      unfold pick
      rw [fmod_pos (by decide), fmod_pos (by decide)]
      rfl
    · intro H4 g4
      rw [tab_len] at g4
      have s4 := (sh.trans sz).trans g4.same
      have dph4 := g4.same _ _ (sz _ _ dph)
      have gr4 := gr.to s4
      have h1 := hb1 k k3
      obtain ⟨m, hm⟩ : ∃ m : Nat, 1 + F (1 + 6 * k) = (m : Nat) := ⟨(1 + F (1 + 6 * k)).toNat, by omega⟩
      have m4 : m ≤ 4 := by omega
      have m1 : 1 ≤ m := by omega
      refine ⟨_, rfl, _, rfl, ph, _, _, _, rfl, rfl, lst_at dph4, atI_ok (by decide) (tab_get (k := 0) (by decide)), _, _, rfl, rfl, (m : Nat), congrArg V.int hm, D2, _, rfl, lst_at g4.d, fun pw hpw => ?_⟩
      rw [cutV_to (by rw [tab_len]; exact m4), show tab (fun j => pick (F (1 + 6 * k + 1)) (F (1 + 6 * k + (2 + j)))) 4 = tab (fun j => pick (F (1 + 6 * k + 1)) (F (1 + 6 * k + (2 + j)))) (m + (4 - m)) by congr 1; omega, tab_take]
      have sw := same_new (o := .lst (tab (fun j => pick (F (1 + 6 * k + 1)) (F (1 + 6 * k + (2 + j)))) m)) hpw
      refine ⟨_, rfl, ph, _, _, _, rfl, rfl, lst_at (sw _ _ dph4), atI_ok (by decide) (tab_get (k := 5) (by decide)), _, _, rfl, rfl, show (3 : Int) ≠ 0 by decide, _, _, rfl, rfl, sz1, fun pt hpt => ?_⟩
      have h5 := hb3 k k3 3 (by decide)
      have ht : 1 ≤ 1 + (F (1 + 6 * k + 5)).fmod 3 ∧ 1 + (F (1 + 6 * k + 5)).fmod 3 ≤ 3 := by
        rw [fmod_pos (by decide)]
        have := Int.emod_nonneg (F (1 + 6 * k + 5)) (show (3 : Int) ≠ 0 by decide)
        have := Int.emod_lt_of_pos (F (1 + 6 * k + 5)) (show (0 : Int) < 3 by decide)
        omega
      dsimp only
      generalize 1 + (F (1 + 6 * k + 5)).fmod 3 = top at ht hpt ⊢
      have st := same_new (o := .lst [.int top]) hpt
      refine ⟨pw, pt, _, _, rfl, rfl, st _ _ (upd_same ..), upd_same .., by rw [tab_len]; show m + 1 ≤ _; omega, fun pc hpc => ?_⟩
      rw [tab_snoc]
      have sc := same_new (o := .lst (tab (fun j => if j < m then pick (F (1 + 6 * k + 1)) (F (1 + 6 * k + (2 + j))) else top) (m + 1))) hpc
      obtain ⟨n0, nl, nc⟩ := ofL_snoc (G := fun j => pick (F (1 + 6 * k + 1)) (F (1 + 6 * k + (2 + j)))) (m := m) (top := top) (by omega)
      refine ⟨_, rfl, pc, _, rfl, tab_lst (upd_same ..), fun H6 p6 s6 t6 => ?_⟩
      generalize ofL ((List.range (m + 1)).map fun j => if j < m then pick (F (1 + 6 * k + 1)) (F (1 + 6 * k + (2 + j))) else top) = one at n0 nl nc t6
      have hone : ∀ j, (one.c j).natAbs ≤ 20 := fun j => by
        rw [nc]
        split
        · rename_i hj
          have := hb3 k k3 j (by omega)
          exact pick_bd this.1 this.2
        · split <;> omega
      have s46 := ((sw.trans st).trans sc).trans s6
      have gr6 := gr4.to s46
      have dpa6 := s46 _ _ (s4 _ _ dpa)
      refine ⟨_, rfl, _, rfl, p6, _, rfl, .inr t6, _, _, rfl, rfl, _, _, rfl, rfl, _, rfl, _, _, rfl, rfl, _, rfl, ite2 (fun c => ?_) fun c => ?_⟩
      · have c := of_decide_eq_true c
        rw [pl_len] at c
        have lys := hys.len
        refine ⟨_, rfl, .inl ⟨rfl, _, lst_at gr6.d⟩, _, rfl, D, ys, _, rfl, rfl, gr6.d, by omega, ?_⟩
        have t7 := t6.put gr6.d (l' := ys ++ [.ref p6])
        refine ⟨_, rfl, _, rfl, p6, _, rfl, .inr t7, _, _, rfl, rfl, _, _, rfl, rfl, ?_⟩
        refine ⟨Ms ++ [one], ys ++ [.ref p6], _, _, _, _, _, rfl, gr6.set hD0, ?_, ?_, fun m' hm' => ?_, ?_, ?_, ?_⟩
        · rw [upd_ne npa]
          exact dpa6
        · exact (hys.imp fun v p h => ((h.s s4).s s46).put gr6.d).append (.cons ⟨p6, rfl, t7⟩ .nil)
        · rcases List.mem_append.mp hm' with hm' | hm'
          · exact hMs m' hm'
          · rw [List.mem_singleton] at hm'
            rw [hm']
            exact ⟨n0, by omega, hone⟩
        · rw [pl_len, wtL_snoc]
          omega
        · rw [pl_len]
          exact c
        · rw [List.length_append, List.length_singleton]
          omega
      · exact ⟨Ms, ys, mn, _, _, _, _, rfl, gr6, dpa6, hys.imp fun v p h => (h.s s4).s s46, hMs, emn, hmn, by omega⟩
  · rintro σ Hx ⟨Ms, ys, mn, u5, u6, u7, u9, rfl, gr, dpa, hys, hMs, emn, hmn, lMs⟩
    refine ⟨_, rfl, go Ms ⟨hMs, by omega, by omega⟩ _ D ys gr.same hD0 gr.d hys⟩
end
end RH
/-! W34: a lesser one. -/
namespace RH
open PySem PySem.Spec PyProof.Rows L2 RC
section
variable {Pg : Program} {w : World} {K : PySem.W.Frag} {mg : Str → Option Value} {base : Heap}
abbrev bsL : List Int := [3, 5, 2000000000000, 2000000000000, 2000000000000, 2000000000000, 2000000000000, 2000000000000]
def sp_Llesser (K : PySem.W.Frag) : Sp := mk1 fun x H Q => ∃ n : Int, x = .int n ∧ ∀ g : P, P.len g ≤ 9 → P.Bt 45 g → giveP K g H Q
abbrev s_Llesser : Stmt := topS 87
abbrev N_Llesser : List Str := ["_law_cell", "_law_parts_here", "_law_weights", "_law_weight"]
theorem sc_Llesser : FnScope N_Llesser ["_law_cell"] (defScope s_Llesser) := ⟨rfl, rfl, rfl, by decide +kernel, rfl, by decide +kernel, by decide +kernel⟩
theorem ok_Llesser (A : At K mg "_law_lesser" s_Llesser) (T : Txt mg) (d_Lparts : Dn Pg w K mg base "_law_parts" 42 ["_law_cell", "_law_bases"] (sp_Lparts K)) (d_Lpoly : Dn Pg w K mg base "_law_poly" 41 ["_law_weights"] (sp_Lpoly K)) : Dn Pg w K mg base "_law_lesser" 43 ["_law_cell"] (sp_Llesser K) := by
  refine mkDn A sc_Llesser (fun _ _ _ _ _ _ us hl => match us, hl with | [_], _ => rfl) (fun vs H Q E ⟨_, e, _⟩ => by rw [e]; rfl) fun f cdv A outer s H vs Q E hr h => ?_
  refine ⟨_, (pss_cons (ps_set (i := 1) sc_Llesser.nd rfl (.inr rfl) (pe_own d_Lparts (hr.mono (by decide)) (by rfl) (pa_cons (pv 0) (pa_cons (pe_op op_cat (pe_lst (pa_cons pe_int (pa_cons pe_int pa_nil))) (pe_op op_rep (pe_lst (pa_cons (pe_op op_mulB pe_int (pe_op op_pow pe_int pe_int)) pa_nil)) pe_int)) pa_nil))))
      (pss_cons (ps_setLc (i := 2) (own := [("_law_weight", 3)]) (g := gName 3) (tt := tYes) (by rfl) sc_Llesser.nd rfl rfl (sw_true rfl rfl rfl (by decide +kernel)) (pi_listK (K := K) (pe_slice (sl_listK (K := K)) (pv 1) (po_some pe_int) po_none)) (blkOk_by (N := N_Llesser) (sc := defScope s_Llesser) (by decide +kernel)) (fun _ _ _ _ _ => (pg_name (i := 3) sc_Llesser.nd rfl (.inl rfl))) (fun _ _ _ _ _ => pts_nil) (fun _ _ _ _ _ => (pe_ix (ix_listK (K := K)) (pe_lst (pa_cons (pe_op op_sub (pv 3) (pe_op op_pow pe_int pe_int)) (pa_cons (pe_op op_sub (pe_op op_modN (pv 3) pe_int) pe_int) (pa_cons (pe_op op_sub (pe_op op_modN (pv 3) pe_int) pe_int) pa_nil)))) (pe_ix (ix_listK (K := K)) (pv 1) pe_int (fun _ _ => rfl)) (fun _ _ => rfl))))
      (pss_one (ps_ret (pe_own d_Lpoly (hr.mono (by decide)) (by rfl) (pa_cons (pe_op op_cat (pe_slice (sl_listK (K := K)) (pv 2) po_none (po_some (pe_op op_add pe_int (pe_ix (ix_listK (K := K)) (pv 1) pe_int (fun _ _ => rfl))))) (pe_lst (pa_cons (pe_op op_add (pe_ix (ix_listK (K := K)) (pv 2) pe_int (fun _ _ => rfl)) (pe_callTy call_int1 (by rfl) T.int (by decide +kernel) (pa_cons (pe_cmpR op_eq (pe_ix (ix_listK (K := K)) (pv 2) pe_int (fun _ _ => rfl)) pe_int (nomark _)) pa_nil))) pa_nil))) pa_nil)))))), ?_⟩
  obtain ⟨v0, rfl, h⟩ := h
  obtain ⟨n, rfl, go⟩ := h
  have szl : sizeLine = 16777216 := by decide
  have e10 : (2 : Int) * 10 ^ (12 : Int).toNat = 2000000000000 := by decide
  have e12 : (10 : Int) ^ (12 : Int).toNat = 1000000000000 := by decide
  refine ⟨_, rfl, sz2, fun q1 h1 => ⟨_, _, rfl, rfl, ⟨by decide, by decide, by decide⟩, _, _, rfl, rfl, mulOk (a := 2) (b := 60) (by decide) (by decide) (by decide), sz1, fun q2 h2 => ⟨q2, 6, _, rfl, rfl, upd_same .., by decide, by decide, by decide, fun q3 h3 => ?_⟩⟩⟩
  have s1 := same_new (o := .lst [.int 3, .int 5]) h1
  have s2 := same_new (o := .lst [.int (2 * 10 ^ (12 : Int).toNat)]) h2
  have s3 := same_new (o := .lst (List.replicate (6 : Int).toNat [V.int (2 * 10 ^ (12 : Int).toNat)]).flatten) h3
  refine ⟨q1, q3, _, _, rfl, rfl, s3 _ _ (s2 _ _ (upd_same ..)), upd_same .., by decide, fun q4 h4 => ?_⟩
  have el : [V.int 3, V.int 5] ++ (List.replicate (6 : Int).toNat [V.int (2 * 10 ^ (12 : Int).toNat)]).flatten = bsL.map V.int := by rw [e10]; rfl
  have s4 := same_new (o := .lst ([V.int 3, V.int 5] ++ (List.replicate (6 : Int).toNat [V.int (2 * 10 ^ (12 : Int).toNat)]).flatten)) h4
  have sA := ((s1.trans s2).trans s3).trans s4
  refine ⟨_, _, rfl, n, q4, bsL, rfl, rfl, ?_, by decide, by decide, fun fs lfs hfs H2 pa s19 n19 d19 => ?_⟩
  · rw [← el]
    exact lst_at (upd_same ..)
  have sB : Same H H2 := sA.trans s19
  clear s19 sA s1 s2 s3 s4 h1 h2 h3 h4 n19 el
  have lf : fs.length = 8 := lfs
  rw [map_tab lf] at d19
  generalize hF : (fun i => fs.getD i 0) = F at d19
  have B : ∀ (i : Nat) (b : Int), bsL[i]? = some b → 0 ≤ F i ∧ F i < b := fun i b hb => by
    rw [← hF]
    exact hfs i b _ hb (getD_get (by have := (List.getElem?_eq_some_iff.mp hb).1; rw [lf]; exact this))
  clear hF hfs lf lfs
  have b0 := B 0 3 rfl
  have b1 := B 1 5 rfl
  have hb3 : ∀ j, j < 6 → 0 ≤ F (2 + j) ∧ F (2 + j) < 2000000000000 := fun j hj => by
    have hj' : j = 0 ∨ j = 1 ∨ j = 2 ∨ j = 3 ∨ j = 4 ∨ j = 5 := by omega
    rcases hj' with rfl | rfl | rfl | rfl | rfl | rfl <;> exact B _ _ rfl
  have cf2 : cutV (tab F 8) (some (2 : Int)) none = tab (fun j => F (2 + j)) 6 := by
    have := cutV_from (xs := tab F 8) (m := 2) (by rw [tab_len]; decide)
    have e : (tab F 8).drop 2 = tab (fun j => F (2 + j)) 6 := tab_drop F 2 6
    rw [e] at this
    exact this
  refine ⟨_, rfl, 2, rfl, pa, _, rfl, lst_at d19, fun pz hpz => ?_⟩
  rw [cf2]
  have sz := same_new (o := .lst (tab (fun j => F (2 + j)) 6)) hpz
  refine ⟨pz, rfl, ⟨_, lst_at (upd_same ..)⟩, fun D2 hD2 => lc_list (xs := tab (fun j => F (2 + j)) 6) (fun i H4 => Grow (upd H2 pz (.lst (tab (fun j => F (2 + j)) 6))) D2 (tab (fun j => pick2 (F 0) (F (2 + j))) i) H4) (.new hD2) (fun i H4 _ g => lst_at (g.same _ _ (upd_same ..))) ?_ ?_⟩
  · intro i x H4 hx g4
    have hi : i < 6 := by
      have := (List.getElem?_eq_some_iff.mp hx).1
      rwa [tab_len] at this
    rw [tab_get hi] at hx
    cases hx
    have hw := hb3 i hi
    refine ⟨rfl, itT ⟨_, rfl, _, _, rfl, rfl, ⟨by decide, by decide, by decide⟩, _, _, rfl, rfl, _, rfl, _, _, rfl, rfl, show (7 : Int) ≠ 0 by decide, _, _, rfl, rfl, _, rfl, _, _, rfl, rfl, show (201 : Int) ≠ 0 by decide, _, _, rfl, rfl, sz3, fun pq hpq => ?_⟩⟩
    have sq := same_new (o := .lst [.int (F (2 + i) - 10 ^ (12 : Int).toNat), .int ((F (2 + i)).fmod 7 - 3), .int ((F (2 + i)).fmod 201 - 100)]) hpq
    refine ⟨_, rfl, pa, _, _, _, rfl, rfl, lst_at (sq _ _ (g4.same _ _ (sz _ _ d19))), atI_ok (by decide) (tab_get (k := 0) (by decide)), pq, _, _, _, rfl, rfl, lst_at (upd_same ..), atI_ok b0.1 (three_at b0.1 b0.2), g4.tab hD2 sq (by omega) ?_⟩
    unfold pick2
    rw [fmod_pos (by decide), fmod_pos (by decide), e12]
  · intro H4 g4
    rw [tab_len] at g4
    have s4 := sz.trans g4.same
    have d4 := s4 _ _ d19
    obtain ⟨m, hm⟩ : ∃ m : Nat, 1 + F 1 = (m : Nat) := ⟨(1 + F 1).toNat, by omega⟩
    have m5 : m ≤ 5 := by omega
    have l6 : (tab (fun j => pick2 (F 0) (F (2 + j))) 6)[5]? = some (V.int (pick2 (F 0) (F (2 + 5)))) := tab_get (by decide)
    refine ⟨_, rfl, _, rfl, pa, _, _, _, rfl, rfl, lst_at d4, atI_ok (by decide) (tab_get (k := 1) (by decide)), _, _, rfl, rfl, (m : Nat), congrArg V.int hm, D2, _, rfl, lst_at g4.d, fun pw hpw => ?_⟩
    rw [cutV_to (by rw [tab_len]; omega), show tab (fun j => pick2 (F 0) (F (2 + j))) 6 = tab (fun j => pick2 (F 0) (F (2 + j))) (m + (6 - m)) by congr 1; omega, tab_take]
    have sw := same_new (o := .lst (tab (fun j => pick2 (F 0) (F (2 + j))) m)) hpw
    have dw := sw _ _ g4.d
    refine ⟨_, rfl, D2, _, _, _, rfl, rfl, lst_at dw, atI_ok (by decide) l6, _, rfl, D2, _, _, _, rfl, rfl, lst_at dw, atI_ok (by decide) l6, rfl, .inr ⟨_, rfl, _, _, rfl, rfl, sz1, fun pt hpt => ?_⟩⟩
    have h5 := pick2_bd (s := F 0) (hb3 5 (by decide)).1 (hb3 5 (by decide)).2
    have ht : (pick2 (F 0) (F (2 + 5)) + if decide (V.int (pick2 (F 0) (F (2 + 5))) = V.int 0) = true then 1 else 0).natAbs < 2 ^ 42 := by split <;> omega
    dsimp only
    generalize (pick2 (F 0) (F (2 + 5)) + if decide (V.int (pick2 (F 0) (F (2 + 5))) = V.int 0) = true then 1 else 0) = top at ht hpt ⊢
    have st := same_new (o := .lst [.int top]) hpt
    refine ⟨pw, pt, _, _, rfl, rfl, st _ _ (upd_same ..), upd_same .., by rw [tab_len]; show m + 1 ≤ _; omega, fun pc hpc => ?_⟩
    rw [tab_snoc]
    have sc := same_new (o := .lst (tab (fun j => if j < m then pick2 (F 0) (F (2 + j)) else top) (m + 1))) hpc
    refine ⟨_, rfl, pc, _, rfl, tab_lst (upd_same ..), ?_⟩
    refine ((((go _ ?_ fun k => ?_).to sB).to s4).to sw).to (st.trans sc)
    · refine Nat.le_trans (P.len_min (ofL_Z _)) ?_
      rw [List.length_map, List.length_range]
      omega
    · by_cases c : k < m + 1
      · have : ((List.range (m + 1)).map fun j => if j < m then pick2 (F 0) (F (2 + j)) else top)[k]? = some (if k < m then pick2 (F 0) (F (2 + k)) else top) := by rw [List.getElem?_map, List.getElem?_range c]; rfl
        rw [ofL_at this]
        split
        · have := pick2_bd (s := F 0) (hb3 k (by omega)).1 (hb3 k (by omega)).2
          omega
        · omega
      · rw [ofL_Z _ k (by rw [List.length_map, List.length_range]; omega)]
        decide
end
end RH
/-! W35: the law. -/
namespace RH
open PySem PySem.Spec PyProof.Rows L2 RC
theorem depth_ints : ∀ ns : List Int, PyData.depthAll (ns.map PyData.int) = 0
  | [] => PyData.depthAll.eq_1
  | n :: ns => by
    show PyData.depthAll (.int n :: ns.map PyData.int) = 0
    rw [PyData.depthAll.eq_2, PyData.depth.eq_6, depth_ints ns]
    rfl
theorem dpl_depth (f : P) : (dpl f).depth = 1 := by
  show PyData.depthAll ((cf f).map .int) + 1 = 1
  rw [depth_ints]
theorem dpl_lay (f : P) : (dpl f).canLay0 = true := PyProof.Rows.canLayAll_ints (cf f)
theorem dpls_depth : ∀ Gs : List P, PyData.depthAll (Gs.map dpl) ≤ 1
  | [] => by show PyData.depthAll [] ≤ 1; rw [PyData.depthAll.eq_1]; omega
  | g :: Gs => by
    show PyData.depthAll (dpl g :: Gs.map dpl) ≤ 1
    rw [PyData.depthAll.eq_2, dpl_depth]
    have := dpls_depth Gs
    omega
theorem dpls_lay : ∀ Gs : List P, PyData.canLayAll0 (Gs.map dpl) = true
  | [] => PyData.canLayAll0.eq_1
  | g :: Gs => by
    show PyData.canLayAll0 (dpl g :: Gs.map dpl) = true
    rw [PyData.canLayAll0.eq_2, dpl_lay, dpls_lay Gs]
    rfl
theorem dpls_shaped (Gs : List P) : SeqAt.shaped (.list (Gs.map dpl)) = true := by
  unfold SeqAt.shaped
  have h1 : (PyData.list (Gs.map dpl)).canLay0 = true := by rw [PyData.canLay0.eq_5]; exact dpls_lay Gs
  have h2 : (PyData.list (Gs.map dpl)).depth = PyData.depthAll (Gs.map dpl) + 1 := rfl
  rw [h1, h2, decide_eq_true (by have := dpls_depth Gs; omega)]
  rfl
theorem dp_polys {K : PySem.W.Frag} {H : Hp} : ∀ {xs : List V} {Gs : List P}, All2 (PV K H) xs Gs → DpAll K H xs (Gs.map dpl)
  | _, _, .nil => .nil
  | _, _, .cons ⟨a, e, h⟩ rs => .cons (by rw [e]; exact h.dp) (dp_polys rs)
theorem mul_bd {f g : P} {A B : Nat} (hf : ∀ k, (f.c k).natAbs ≤ A) (hg : ∀ k, (g.c k).natAbs ≤ B) (k : Nat) : ((f * g).c k).natAbs ≤ P.len f * (A * B) := by
  rw [P.c_mul]
  have hF : ∀ i, (f.c i * g.c (k - i)).natAbs ≤ A * B := fun i => by
    rw [Int.natAbs_mul]
    exact Nat.mul_le_mul (hf i) (hg _)
  by_cases c : k + 1 ≤ P.len f
  · exact Nat.le_trans (sm_bd (k + 1) fun i _ => hF i) (Nat.mul_le_mul_right _ c)
  · rw [sm_more (n := P.len f) (by omega) fun i h1 h2 => by rw [P.len_Z f i h1, Int.zero_mul]]
    exact sm_bd _ fun i _ => hF i
/-- the bound of the first i multiplied -/
def bdM (i : Nat) : Nat := if i = 0 then 1 else 20 * 100 ^ (i - 1)
theorem prod_wt : ∀ {Ms : List P}, (∀ m ∈ Ms, m ≠ 0) → P.prod Ms ≠ 0 ∧ P.len (P.prod Ms) = 1 + wtL Ms
  | [], _ => ⟨P.Mon.one.ne, P.len_1⟩
  | m :: Ms, h => by
    obtain ⟨h1, h2⟩ := prod_wt (Ms := Ms) fun x hx => h x (by simp [hx])
    have m0 := h m (by simp)
    have lm := (P.len_mul m0 h1).1
    have := P.len_pos.mpr m0
    refine ⟨P.mul_ne m0 h1, ?_⟩
    show P.len (m * P.prod Ms) = 1 + ((P.len m - 1) + wtL Ms)
    omega
theorem wtL_take : ∀ (Ms : List P) (i : Nat), wtL (Ms.take i) ≤ wtL Ms
  | [], i => by rw [List.take_nil]; exact Nat.le_refl _
  | m :: Ms, 0 => Nat.zero_le _
  | m :: Ms, i + 1 => by
    show (P.len m - 1) + wtL (Ms.take i) ≤ (P.len m - 1) + wtL Ms
    have := wtL_take Ms i
    omega
theorem no_part {f g q : P} {x : Int} (h : P.Irr f) (hx : x ≠ 0) (l1 : 2 ≤ P.len g) (l2 : P.len g < P.len f) (e : P.K x * f = g * q) : False := by
  have g0 : g ≠ 0 := P.len_pos.mp (by omega)
  rcases h.prime (show f ∣ g * q from ⟨P.K x, by rw [← e]; grind⟩) with d | d
  · have := P.dvd_len d g0
    omega
  · obtain ⟨z, hz⟩ := d
    have e2 : P.K x = g * z := P.cancel h.1.ne (by rw [show f * P.K x = P.K x * f by grind, e, hz]; grind)
    have := P.dvd_len (a := g) ⟨z, e2⟩ (P.K_ne hx)
    rw [P.len_K hx] at this
    omega
section
variable {Pg : Program} {w : World} {K : PySem.W.Frag} {mg : Str → Option Value} {base : Heap}
def sp_law (K : PySem.W.Frag) : Sp := mk1 fun x H Q => ∃ (a : Addr) (cs : List Int), x = .ref a ∧ SqL K H a (cs.map V.int) ∧ ∀ H', Q (.bl true) H'
abbrev s_law : Stmt := topS 88
abbrev N_law : List Str := ["_law_script", "_law_some", "_law_whole", "_law_one", "_law_parts_here", "_law_part", "_law_many", "_law_cell", "_law_low_one"]
theorem sc_law : FnScope N_law ["_law_script"] (defScope s_law) := ⟨rfl, rfl, rfl, by decide +kernel, rfl, by decide +kernel, by decide +kernel⟩
theorem ok_law (A : At K mg "law" s_law) (T : Txt mg) (d_Lmade : Dn Pg w K mg base "_law_made" 43 ["_law_cell"] (sp_Lmade K)) (d_Lcell_at : Dn Pg w K mg base "_law_cell_at" 41 ["_law_script", "_law_k"] (sp_Lcell_at K)) (d_Lproduct : Dn Pg w K mg base "_law_product" 42 ["_law_one", "_law_other"] (sp_Lproduct K)) (d_factors : Dn Pg w K mg base "factors" 49 ["p"] (sp_factors K)) (d_Lno_root : Dn Pg w K mg base "_law_no_root" 42 ["_law_part"] (sp_Lno_root K)) (d_Llesser : Dn Pg w K mg base "_law_lesser" 43 ["_law_cell"] (sp_Llesser K)) (d_Lrest : Dn Pg w K mg base "_law_rest" 42 ["_law_one", "_law_other"] (sp_Lrest K)) : Dn Pg w K mg base "law" 50 ["_law_script"] (sp_law K) := by
  refine mkDn A sc_law (fun _ _ _ _ _ _ us hl => match us, hl with | [_], _ => rfl) (fun vs H Q E ⟨_, e, _⟩ => by rw [e]; rfl) fun f cdv A outer s H vs Q E hr h => ?_
  refine ⟨_, (pss_cons (ps_set (i := 1) sc_law.nd rfl (.inl rfl) (pe_own d_Lmade (hr.mono (by decide)) (by rfl) (pa_cons (pe_own d_Lcell_at (hr.mono (by decide)) (by rfl) (pa_cons (pv 0) (pa_cons pe_int pa_nil))) pa_nil)))
      (pss_cons (ps_set (i := 2) sc_law.nd rfl (.inl rfl) (pe_tup (pa_cons pe_int pa_nil)))
      (pss_cons (ps_for PassesOwn.never rfl (pi_listK (K := K) (pv 1)) (pg_name (i := 3) sc_law.nd rfl (.inl rfl)) (pss_one (ps_set (i := 2) sc_law.nd rfl (.inl rfl) (pe_own d_Lproduct (hr.mono (by decide)) (by rfl) (pa_cons (pv 2) (pa_cons (pv 3) pa_nil))))))
      (pss_cons (ps_setLc (i := 4) (own := [("_law_part", 5), ("_law_many", 6)]) (tt := tYes) (by rfl) sc_law.nd rfl rfl (sw_true rfl rfl rfl (by decide +kernel)) (pi_listK (K := K) (pe_ix (ix_tupK (K := K)) (pe_own d_factors (hr.mono (by decide)) (by rfl) (pa_cons (pv 2) pa_nil)) pe_int (fun _ _ => rfl))) (blkOk_by (N := N_law) (sc := defScope s_law) (by decide +kernel)) (fun _ _ _ _ _ => (pg_tupK (K := K) (n := 2) rfl (pgs_cons (pg_name (i := 5) sc_law.nd rfl (.inl rfl)) (pgs_cons (pg_name (i := 6) sc_law.nd rfl (.inl rfl)) pgs_nil)))) (fun _ _ _ _ _ => pts_nil) (fun _ _ _ _ _ => (pv 5)))
      (pss_cons (ps_for PassesOwn.never rfl (pi_listK (K := K) (pv 1)) (pg_name (i := 3) sc_law.nd rfl (.inl rfl)) (pss_one (ps_for PassesOwn.never rfl (pi_listK (K := K) (pe_ix (ix_tupK (K := K)) (pe_own d_factors (hr.mono (by decide)) (by rfl) (pa_cons (pv 3) pa_nil)) pe_int (fun _ _ => rfl))) (pg_tupK (K := K) (n := 2) rfl (pgs_cons (pg_name (i := 5) sc_law.nd rfl (.inl rfl)) (pgs_cons (pg_name (i := 6) sc_law.nd rfl (.inl rfl)) pgs_nil))) (pss_one (ps_if (pt_cmpR (op_notInDK (K := K) (u65 hr)) (pv 5) (pv 4) (by rfl)) (pss_one (ps_ret pe_bl)) pss_nil)))))
      (pss_cons (ps_if (pt_not (pt_val (pe_callB (cr_all rfl) (by rfl) T.all (by decide +kernel) (pa_cons (pe_lc (own := [("_law_part", 5)]) (g := gName 5) (tt := tYes) (by rfl) sc_law.nd (pi_listK (K := K) (pv 4)) (blkOk_by (N := N_law) (sc := defScope s_law) (by decide +kernel)) (fun _ _ _ _ _ => (pg_name (i := 5) sc_law.nd rfl (.inl rfl))) (fun _ _ _ _ _ => pts_nil) (fun _ _ _ _ _ => (pe_own d_Lno_root (hr.mono (by decide)) (by rfl) (pa_cons (pv 5) pa_nil)))) pa_nil)))) (pss_one (ps_ret pe_bl)) pss_nil)
      (pss_cons (ps_for PassesOwn.never rfl (pi_listK (K := K) (pe_op op_cat (pe_slice (sl_listK (K := K)) (pv 0) (po_some pe_int) (po_some pe_int)) (pe_lst (pa_cons pe_int pa_nil)))) (pg_name (i := 7) sc_law.nd rfl (.inl rfl)) (pss_cons (ps_set (i := 8) sc_law.nd rfl (.inl rfl) (pe_own d_Llesser (hr.mono (by decide)) (by rfl) (pa_cons (pv 7) pa_nil)))
      (pss_one (ps_for PassesOwn.never rfl (pi_listK (K := K) (pv 4)) (pg_name (i := 5) sc_law.nd rfl (.inl rfl)) (pss_one (ps_if (PW.pt (pw_and (pt_chain op_lt op_lt pe_int (pe_callB (call_lenK (K := K)) (by rfl) T.len PySem.boot_len (pa_cons (pv 8) pa_nil)) (pe_callB (call_lenK (K := K)) (by rfl) T.len PySem.boot_len (pa_cons (pv 5) pa_nil))) (pw_and1 (pt_cmpR (op_eqDK (K := K) hr.units) (pe_own d_Lrest (hr.mono (by decide)) (by rfl) (pa_cons (pv 5) (pa_cons (pv 8) pa_nil))) (pe_tup pa_nil) (nomark _))))) (pss_one (ps_ret pe_bl)) pss_nil))))))
      (pss_one (ps_ret pe_bl))))))))), ?_⟩
  obtain ⟨v0, rfl, h⟩ := h
  obtain ⟨a, cs, rfl, ha, go⟩ := h
  have szl : sizeLine = 16777216 := by decide
  refine ⟨_, rfl, _, _, rfl, a, cs, rfl, rfl, ha, fun n0 => ⟨_, rfl, n0, rfl, fun Ms hMs H1 lm ys s1 n1 d1 al1 => ?_⟩⟩
  have lys := al1.len
  have nMs := hMs.n
  have hM0 : ∀ m ∈ Ms, m ≠ 0 := fun m hm => (hMs.ok m hm).1
  refine ⟨sz1, fun p1 hp1 => ?_⟩
  have s2 := same_new (o := .tup [.int 1]) hp1
  refine ⟨_, rfl, lm, rfl, ⟨_, lst_at (s2 _ _ d1)⟩, for_list (xs := ys) (fun i σ Hx => Same H1 Hx ∧ ∃ (aw : Addr) (u3 : Option V), σ = [some (.ref a), some (.ref lm), some (.ref aw), u3, none, none, none, none, none] ∧ AtP K Hx aw (P.prod (Ms.take i)) ∧ ∀ k, ((P.prod (Ms.take i)).c k).natAbs ≤ bdM i) ⟨s2, p1, _, rfl, at_1 (upd_same ..), fun k => by show ((1 : P).c k).natAbs ≤ 1; rw [P.c_1]; split <;> decide⟩ (fun i σ Hx _ h => lst_at (h.1 _ _ d1)) ?_ ?_⟩
  · rintro i x σ Hx hx ⟨s3, aw, u3, rfl, haw, hbd⟩
    obtain ⟨m, hm, ⟨am, rfl, ham⟩⟩ := al1.get hx
    obtain ⟨m0, m5, m20⟩ := hMs.ok m (List.mem_of_getElem? hm)
    have hi : i < Ms.length := (List.getElem?_eq_some_iff.mp hm).1
    have hi3 : i = 0 ∨ i = 1 ∨ i = 2 := by omega
    have lw := (prod_wt (Ms := Ms.take i) fun x hx => hM0 x (List.mem_of_mem_take hx)).2
    have wt1 := wtL_take Ms i
    have wt8 := hMs.wt
    have b2000 : bdM i < 2 ^ 15 := by rcases hi3 with rfl | rfl | rfl <;> decide
    refine ⟨_, rfl, _, rfl, _, _, rfl, aw, am, _, m, 15, 15, rfl, rfl, haw, ham.s s3, by omega, by omega, fun k => by have := hbd k; omega, fun k => by have := m20 k; omega, by decide, fun H2 p2 s4 t4 => ⟨s3.trans s4, p2, _, rfl, by rw [prod_take hm]; exact t4, fun k => ?_⟩⟩
    rw [prod_take hm]
    rcases hi3 with rfl | rfl | rfl
    · show ((1 * m : P).c k).natAbs ≤ 20
      rw [show (1 : P) * m = m by grind]
      exact m20 k
    · have := mul_bd m20 hbd k
      rw [show m * P.prod (Ms.take 1) = P.prod (Ms.take 1) * m by grind] at this
      refine Nat.le_trans this ?_
      show P.len m * (20 * 20) ≤ 2000
      have := Nat.mul_le_mul_right (20 * 20) m5
      omega
    · have := mul_bd m20 hbd k
      rw [show m * P.prod (Ms.take 2) = P.prod (Ms.take 2) * m by grind] at this
      refine Nat.le_trans this ?_
      show P.len m * (20 * 2000) ≤ 200000
      have := Nat.mul_le_mul_right (20 * 2000) m5
      omega
  rintro σ Hx ⟨s3, aw, u3, rfl, haw, hbd⟩
  rw [lys, List.take_length] at haw hbd
  obtain ⟨w0, lw⟩ := prod_wt hM0
  have wt8 := hMs.wt
  have b6 : bdM Ms.length ≤ 200000 := by
    have : Ms.length = 0 ∨ Ms.length = 1 ∨ Ms.length = 2 ∨ Ms.length = 3 := by omega
    rcases this with h | h | h | h <;> rw [h] <;> decide
  generalize eW : P.prod Ms = W at haw hbd w0 lw
  have bW : ∀ k, (W.c k).natAbs < 1000000 := fun k => by have := hbd k; omega
  refine ⟨_, rfl, _, rfl, aw, W, rfl, haw, w0, by omega, bW, fun Gs F lG H3 t l u ws s4 d4 n4 dl4 al4 => ?_⟩
  refine ⟨t, _, _, _, rfl, rfl, tup_at d4, atI_ok (by decide) rfl, l, rfl, ⟨_, lst_at dl4⟩, fun D hD => lc_list (xs := ws) (fun i H4 => ∃ zs, Grow H3 D zs H4 ∧ zs.length = i ∧ All2 (PV K H4) zs (Gs.take i)) ⟨[], .new hD, rfl, .nil⟩ (fun i H4 _ h => by obtain ⟨_, g, _⟩ := h; exact lst_at (g.same _ _ dl4)) ?_ ?_⟩
  · rintro i v H4 hv ⟨zs, g4, lz, hzs⟩
    obtain ⟨g, hg, hpr⟩ := al4.get hv
    have hi : i < Gs.length := (List.getElem?_eq_some_iff.mp hg).1
    obtain ⟨t2, a2, k2, rfl, ht2, ha2⟩ := hpr.s g4.same
    refine ⟨t2, _, rfl, ht2, rfl, _, _, rfl, _, _, rfl, rfl, rfl, itT ⟨_, rfl, zs, g4.d, by omega, zs ++ [.ref a2], g4.set hD, by rw [List.length_append, lz]; rfl, ?_⟩⟩
    rw [List.take_succ, hg]
    exact (hzs.imp fun v p h => h.put g4.d).append (.cons ⟨a2, rfl, ha2.put g4.d⟩ .nil)
  rintro H4 ⟨zs, g4, lz, hzs⟩
  rw [al4.len, List.take_length] at hzs
  have s34 := (s3.trans s4).trans g4.same
  have sH := s1.trans s34
  have d1' := s34 _ _ d1
  have al1' := al1.imp fun v p h => h.s s34
  have hG9 : ∀ g ∈ Gs, P.Irr g ∧ P.len g ≤ 9 ∧ P.Bt 32 g := fun g hg => by
    obtain ⟨ir, dv⟩ := F.ir g hg
    exact ⟨ir, by have := P.dvd_len dv w0; omega, bt_part w0 (by omega) (fun k => by have := bW k; omega) dv⟩
  have lzG := hzs.len
  -- the parts of each are among them
  refine ⟨_, rfl, lm, rfl, ⟨_, lst_at d1'⟩, for_list (xs := ys) (fun i σ Hy => Same H4 Hy ∧ ∃ u3 u5 u6 : Option V, σ = [some (.ref a), some (.ref lm), some (.ref aw), u3, some (.ref D), u5, u6, none, none]) ⟨Same.refl _, _, _, _, rfl⟩ (fun i σ Hy _ h => lst_at (h.1 _ _ d1')) ?_ ?_⟩
  · rintro i x σ Hy hx ⟨s5, u3, u5, u6, rfl⟩
    obtain ⟨m, hm, ⟨am, rfl, ham⟩⟩ := al1'.get hx
    have hmm := List.mem_of_getElem? hm
    obtain ⟨m0, m5, m20⟩ := hMs.ok m hmm
    have dmW : m ∣ W := by rw [← eW]; exact prod_dvd hmm
    refine ⟨_, rfl, _, rfl, am, m, rfl, ham.s s5, m0, by omega, fun k => by have := m20 k; omega, fun Gm Fm lGm H6 t6 l6 u6' w6 s6 d6 n6 dl6 al6 => ?_⟩
    refine ⟨t6, _, _, _, rfl, rfl, tup_at d6, atI_ok (by decide) rfl, l6, rfl, ⟨_, lst_at dl6⟩, for_list (xs := w6) (fun j σ Hz => Same H6 Hz ∧ ∃ u5 u6 : Option V, σ = [some (.ref a), some (.ref lm), some (.ref aw), some (.ref am), some (.ref D), u5, u6, none, none]) ⟨Same.refl _, _, _, rfl⟩ (fun j σ Hz _ h => lst_at (h.1 _ _ dl6)) ?_ ?_⟩
    · rintro j v σ Hz hv ⟨s7, u5, u6, rfl⟩
      obtain ⟨g, hg, hpr⟩ := al6.get hv
      obtain ⟨t2, a2, k2, rfl, ht2, ha2⟩ := hpr.s s7
      obtain ⟨irg, dvg⟩ := Fm.ir g (List.mem_of_getElem? hg)
      have hin : g ∈ Gs := F.all g irg (P.dvd_trans dvg dmW)
      have s57 := (s5.trans s6).trans s7
      refine ⟨t2, _, rfl, ht2, rfl, _, _, rfl, _, _, rfl, rfl, ?_⟩
      refine ⟨_, rfl, _, rfl, dpl g, Gs.map dpl, ha2.dp, .lst (lst_at (s57 _ _ g4.d)) (dp_polys (hzs.imp fun v p h => h.s s57)), dpl_shaped g, dpls_shaped Gs, _, rfl, ?_⟩
      have hany : ((Gs.map dpl).any fun z => z.eqv (dpl g)) = true := List.any_eq_true.mpr ⟨dpl g, List.mem_map.mpr ⟨g, hin, rfl⟩, (dpl_eqv g g).mpr rfl⟩
      rw [hany]
      exact iteF ⟨s7, _, _, rfl⟩
    · rintro σ Hz ⟨s7, u5, u6, rfl⟩
      exact ⟨(s5.trans s6).trans s7, _, _, _, rfl⟩
  rintro σ Hy ⟨s5, u3, u5, u6, rfl⟩
  have hzsY := hzs.imp fun v p h => h.s s5
  have dDY := s5 _ _ g4.d
  -- no fraction is a root
  refine ⟨_, rfl, D, rfl, ⟨_, lst_at dDY⟩, fun D2 hD2 => lc_list (xs := zs) (fun i H7 => Grow Hy D2 ((List.replicate i true).map V.bl) H7) (.new hD2) (fun i H7 _ g => lst_at (g.same _ _ dDY)) ?_ ?_⟩
  · rintro i v H7 hv g7
    obtain ⟨g, hg, ⟨ag, rfl, hag⟩⟩ := hzsY.get hv
    have hi : i < Gs.length := (List.getElem?_eq_some_iff.mp hg).1
    obtain ⟨ir, l9, b32⟩ := hG9 g (List.mem_of_getElem? hg)
    refine ⟨rfl, itT ⟨_, rfl, _, rfl, ag, g, rfl, hag.s g7.same, ir, l9, b32, _, g7.d, by rw [List.length_map, List.length_replicate]; omega, ?_⟩⟩
    have := g7.set hD2 (l' := (List.replicate i true).map V.bl ++ [V.bl true])
    rw [List.replicate_succ', List.map_append]
    exact this
  rintro H7 g7
  have s7 := g7.same
  refine ⟨D2, List.replicate zs.length true, rfl, lst_at g7.d, _, rfl, ?_⟩
  have hall : (List.replicate zs.length true).all id = true := List.all_eq_true.mpr fun x hx => (List.mem_replicate.mp hx).2
  rw [hall]
  refine iteF ?_
  -- nothing lesser divides
  have haH7 : SqL K H7 a (cs.map V.int) := ((sH.trans s5).trans s7).seq ha
  refine ⟨_, rfl, 1, rfl, 31, rfl, a, _, rfl, haH7, fun pz hpz => ⟨sz1, fun pq hpq => ?_⟩⟩
  have sz := same_new (o := .lst (cutV (cs.map V.int) (some 1) (some 31))) hpz
  have sq := same_new (o := .lst [.int 2]) hpq
  have lcut : (cutV (cs.map V.int) (some 1) (some 31)).length ≤ 31 := by
    unfold cutV
    rw [List.length_take]
    have : HT.sIx (cs.map V.int).length (cs.map V.int).length (some 31) ≤ 31 := by
      unfold HT.sIx
      show (if (31 : Int) < 0 then _ else _) ≤ 31
      rw [if_neg (by decide)]
      exact Nat.min_le_left _ _
    omega
  refine ⟨pz, pq, _, _, rfl, rfl, sq _ _ (upd_same ..), upd_same .., by show _ + 1 ≤ _; omega, fun pc hpc => ?_⟩
  have sc := same_new (o := .lst (cutV (cs.map V.int) (some 1) (some 31) ++ [V.int 2])) hpc
  have hcell : ∀ v ∈ cutV (cs.map V.int) (some 1) (some 31) ++ [V.int 2], ∃ n : Int, v = .int n := fun v hv => by
    rcases List.mem_append.mp hv with hv | hv
    · obtain ⟨n, _, e⟩ := List.mem_map.mp (List.mem_of_mem_drop (List.mem_of_mem_take hv))
      exact ⟨n, e.symm⟩
    · exact ⟨2, List.mem_singleton.mp hv⟩
  have s8 := (sz.trans sq).trans sc
  have dpc : (upd (upd (upd H7 pz (.lst (cutV (cs.map V.int) (some 1) (some 31)))) pq (.lst [.int 2])) pc (.lst (cutV (cs.map V.int) (some 1) (some 31) ++ [V.int 2]))) pc = some (.lst (cutV (cs.map V.int) (some 1) (some 31) ++ [V.int 2])) := upd_same ..
  generalize upd (upd (upd H7 pz (.lst (cutV (cs.map V.int) (some 1) (some 31)))) pq (.lst [.int 2])) pc (.lst (cutV (cs.map V.int) (some 1) (some 31) ++ [V.int 2])) = H8 at s8 dpc ⊢
  have s78 := s7.trans s8
  have hzs8 := hzsY.imp fun v p h => h.s s78
  have dD8 := s78 _ _ dDY
  refine ⟨pc, rfl, ⟨_, lst_at dpc⟩, for_list (xs := cutV (cs.map V.int) (some 1) (some 31) ++ [V.int 2]) (fun i σ Hz => Same H8 Hz ∧ ∃ u5 u7 u8 : Option V, σ = [some (.ref a), some (.ref lm), some (.ref aw), u3, some (.ref D), u5, u6, u7, u8]) ⟨Same.refl _, _, _, _, rfl⟩ (fun i σ Hz _ h => lst_at (h.1 _ _ dpc)) ?_ ?_⟩
  · rintro i v σ Hz hv ⟨s9, u5, u7, u8, rfl⟩
    obtain ⟨n, rfl⟩ := hcell v (List.mem_of_getElem? hv)
    refine ⟨_, rfl, _, rfl, n, rfl, fun lo llo blo H10 plo s10 tlo => ?_⟩
    have s810 := s9.trans s10
    refine ⟨_, rfl, D, rfl, ⟨_, lst_at (s810 _ _ dD8)⟩, for_list (xs := zs) (fun j σ Hw => Same H10 Hw ∧ ∃ u5 : Option V, σ = [some (.ref a), some (.ref lm), some (.ref aw), u3, some (.ref D), u5, u6, some (.int n), some (.ref plo)]) ⟨Same.refl _, _, rfl⟩ (fun j σ Hw _ h => lst_at (h.1 _ _ (s810 _ _ dD8))) ?_ ?_⟩
    · rintro j v σ Hw hv ⟨s11, u5, rfl⟩
      obtain ⟨g, hg, ⟨ag, rfl, hag⟩⟩ := hzs8.get hv
      obtain ⟨ir, l9, b32⟩ := hG9 g (List.mem_of_getElem? hg)
      have s811 := s810.trans s11
      refine ⟨_, rfl, plo, _, rfl, .inr (tlo.s s11), ?_⟩
      rw [pl_len]
      refine ⟨_, _, rfl, rfl, _, rfl, ite2 (fun c => ?_) fun c => ⟨_, rfl, iteF ⟨s11, _, rfl⟩⟩⟩
      have c := of_decide_eq_true c
      refine ⟨_, rfl, ag, _, rfl, .inr (hag.s s811), ?_⟩
      rw [pl_len]
      refine ⟨_, _, rfl, rfl, _, rfl, ite2 (fun c2 => ?_) fun c2 => iteF ⟨s11, _, rfl⟩⟩
      have c2 := of_decide_eq_true c2
      refine ⟨_, rfl, _, rfl, _, _, rfl, ag, plo, g, lo, rfl, rfl, hag.s s811, tlo.s s11, P.len_pos.mp (by omega), by omega, by omega, b32, blo, fun x q r hx he H12 pr s12 tr => ?_⟩
      refine ⟨sz0, fun p13 hp13 => eqD_0 tr hp13 fun bb hbb => ⟨bb, rfl, ite2 (fun c3 => ?_) fun c3 => ⟨(s11.trans s12).trans (same_new hp13), _, rfl⟩⟩⟩
      have r0 := hbb.mp c3
      rw [r0] at he
      exact (no_part ir hx (by omega) (by omega) (he.trans (show lo * q + 0 = lo * q by grind))).elim
    · rintro σ Hw ⟨s11, u5, rfl⟩
      exact ⟨s810.trans s11, _, _, _, rfl⟩
  · rintro σ Hz ⟨s9, u5, u7, u8, rfl⟩
    exact go _
end
end RH
/-! W36: the head. -/
namespace RH
open PySem PySem.Spec PyProof.Rows L2
abbrev s_Lpowered : Stmt := topS 80
abbrev s_Lcommon : Stmt := topS 81
abbrev s_Lplain : Stmt := topS 82
def dd (x : Str) (s : Stmt) : He.DefD := ⟨(x, none), x, x, defArgs s, defBody s, defScope s, [], []⟩
def fn : List He.DefD := ([dd "divisor" s_divisor, dd "divisor_of" s_divisor_of, dd "poly" s_poly, dd "degree" s_degree, dd "weight_of" s_weight_of, dd "p_plus" s_p_plus, dd "scaled" s_scaled, dd "p_minus" s_p_minus, dd "p_times" s_p_times, dd "raised" s_raised, dd "derived" s_derived, dd "content" s_content, dd "divided" s_divided, dd "plain" s_plain, dd "least_parted" s_least_parted, dd "parted" s_parted, dd "whole_part" s_whole_part, dd "lightened" s_lightened, dd "shared_rows" s_shared_rows, dd "shared" s_shared, dd "layers" s_layers, dd "by_number" s_by_number, dd "m_plus" s_m_plus, dd "m_minus" s_m_minus, dd "m_times" s_m_times, dd "inverse_by" s_inverse_by, dd "m_parted" s_m_parted, dd "single" s_single, dd "m_shared" s_m_shared, dd "m_power" s_m_power] : List He.DefD) ++ ([dd "product_by" s_product_by, dd "inverse_part" s_inverse_part, dd "keys_of" s_keys_of, dd "lifted" s_lifted, dd "is_prime" s_is_prime, dd "free_by" s_free_by, dd "fixed_rows" s_fixed_rows, dd "without_row" s_without_row, dd "unit_of" s_unit_of, dd "nought_sums" s_nought_sums, dd "split_once" s_split_once, dd "by_size" s_by_size, dd "parts_by" s_parts_by, dd "greatest" s_greatest, dd "room_for" s_room_for, dd "powered" s_powered, dd "great_power" s_great_power, dd "parts_of_primes" s_parts_of_primes, dd "fewest" s_fewest, dd "middled" s_middled, dd "chosen" s_chosen, dd "candidate" s_candidate, dd "least_part" s_least_part, dd "whole_parts" s_whole_parts, dd "checked_bounds" s_checked_bounds, dd "unit_of_whole" s_unit_of_whole, dd "by_part" s_by_part, dd "factors" s_factors, dd "_law_cell_at" s_Lcell_at, dd "_law_mixed" s_Lmixed] : List He.DefD) ++ ([dd "_law_parts" s_Lparts, dd "_law_poly" s_Lpoly, dd "_law_product" s_Lproduct, dd "_law_powered" s_Lpowered, dd "_law_common" s_Lcommon, dd "_law_plain" s_Lplain, dd "_law_rest" s_Lrest, dd "_law_root" s_Lroot, dd "_law_no_root" s_Lno_root, dd "_law_made" s_Lmade, dd "_law_lesser" s_Llesser, dd "law" s_law] : List He.DefD)
def fa : List He.Fa := ([.glo "divisor", .glo "divisor_of", .glo "poly", .glo "degree", .glo "weight_of", .glo "p_plus", .glo "scaled", .glo "p_minus", .glo "p_times", .glo "raised", .glo "derived", .glo "content", .glo "divided", .glo "plain", .glo "least_parted", .glo "parted", .glo "whole_part", .glo "lightened", .glo "shared_rows", .glo "shared", .glo "layers", .glo "by_number", .glo "m_plus", .glo "m_minus", .glo "m_times", .glo "inverse_by", .glo "m_parted", .glo "single", .glo "m_shared", .glo "m_power"] : List He.Fa) ++ ([.glo "product_by", .glo "inverse_part", .glo "keys_of", .glo "lifted", .glo "is_prime", .glo "free_by", .glo "fixed_rows", .glo "without_row", .glo "unit_of", .glo "nought_sums", .glo "split_once", .glo "by_size", .glo "parts_by", .glo "greatest", .glo "room_for", .glo "powered", .glo "great_power", .glo "parts_of_primes", .glo "fewest", .glo "middled", .glo "chosen", .glo "candidate", .glo "least_part", .glo "whole_parts", .glo "checked_bounds", .glo "unit_of_whole", .glo "by_part", .glo "factors", .glo "_law_cell_at", .glo "_law_mixed"] : List He.Fa) ++ ([.glo "_law_parts", .glo "_law_poly", .glo "_law_product", .glo "_law_powered", .glo "_law_common", .glo "_law_plain", .glo "_law_rest", .glo "_law_root", .glo "_law_no_root", .glo "_law_made", .glo "_law_lesser", .glo "law", .free "abs", .free "all", .free "enumerate", .free "int", .free "len", .free "list", .free "max", .free "min", .free "range", .free "reversed", .free "sorted", .free "tuple", .int "MOST_DEGREE" 8, .int "MOST_WEIGHT" 1000000, .int "SOME_PRIMES" 6] : List He.Fa)
def loose : List Str := (["CourtError", "NoPart", "NoFree", "TooGreat", "divisor", "divisor_of", "poly", "degree", "weight_of", "p_plus", "scaled", "p_minus", "p_times", "raised", "derived", "content", "divided", "plain", "least_parted", "parted", "whole_part", "lightened", "shared_rows", "shared", "layers", "by_number", "m_plus", "m_minus", "m_times", "inverse_by"] : List Str) ++ (["m_parted", "single", "m_shared", "m_power", "product_by", "inverse_part", "keys_of", "lifted", "is_prime", "free_by", "fixed_rows", "without_row", "unit_of", "nought_sums", "split_once", "by_size", "parts_by", "greatest", "room_for", "powered", "great_power", "parts_of_primes", "fewest", "middled", "chosen", "candidate", "least_part", "whole_parts", "checked_bounds", "unit_of_whole"] : List Str) ++ (["by_part", "factors", "_law_cell_at", "_law_mixed", "_law_parts", "_law_poly", "_law_product", "_law_powered", "_law_common", "_law_plain", "_law_rest", "_law_root", "_law_no_root", "_law_made", "_law_lesser", "MOST_DEGREE", "MOST_WEIGHT", "SOME_PRIMES"] : List Str)
abbrev R : PySem.W.OpenRow := PySem.W.OpenLaw.row PySem.Challenge.rw_rootcourt_k55_whole_no_part_splits
abbrev hk : PySem.W.Hook := He.hookD 4 fa fn
def ob (s : PySem.W.SharedT) : He.AlD := He.obsDG 4 fa fn (HandSHeadRun.getT s)
theorem ob_eq (s : PySem.W.SharedT) : ob s = hk.obs s.abs := He.obsDG_eq (HandSHeadRun.getT_eq s)
theorem run (w : World) : HandSHeadRun.RunEq R (PySem.W.view R.prog [88]) hk ob 3400 loose w := by
  intro os
  kernel_rfl

end RH
/-! W37: all together. -/
namespace RH
open PySem PySem.Spec PyProof.Rows L2 RC
theorem law_ok {Pg : Program} {w : World} {K : PySem.W.Frag} {mg : Str → Option Value} {base : Heap} (A : ∀ (i : Nat) (x : Str) (st : Stmt), fn[i]? = some (dd x st) → fa[i]? = some (.glo x) → At K mg x st) (T : Txt mg) (B : Big Pg base)
    (c_MOST_DEGREE : ∃ tk, mg "MOST_DEGREE" = some (.int 8 tk)) (c_MOST_WEIGHT : ∃ tk, mg "MOST_WEIGHT" = some (.int 1000000 tk)) (c_SOME_PRIMES : ∃ tk, mg "SOME_PRIMES" = some (.int 6 tk)) : Dn Pg w K mg base "law" 50 ["_law_script"] (sp_law K) := by
  have d_divisor : Dn Pg w K mg base "divisor" 41 ["one", "other"] (sp_divisor K) := ok_divisor (A 0 "divisor" s_divisor rfl rfl) T   
  have d_divisor_ofT : Dn Pg w K mg base "divisor_of" 42 ["some"] (sp_divisor_ofT K) := ok_divisor_ofT (A 1 "divisor_of" s_divisor_of rfl rfl) T d_divisor  
  have d_divisor_ofL : Dn Pg w K mg base "divisor_of" 42 ["some"] (sp_divisor_ofL K) := ok_divisor_ofL (A 1 "divisor_of" s_divisor_of rfl rfl) T d_divisor  
  have d_poly : Dn Pg w K mg base "poly" 41 ["weights"] (sp_poly K) := ok_poly (A 2 "poly" s_poly rfl rfl) T   
  have d_degree : Dn Pg w K mg base "degree" 41 ["one"] (sp_degree K) := ok_degree (A 3 "degree" s_degree rfl rfl) T   
  have d_weight_of : Dn Pg w K mg base "weight_of" 41 ["one", "place"] (sp_weight_of K) := ok_weight_of (A 4 "weight_of" s_weight_of rfl rfl) T   
  have d_p_plus : Dn Pg w K mg base "p_plus" 42 ["one", "other"] (sp_p_plus K) := ok_p_plus (A 5 "p_plus" s_p_plus rfl rfl) T d_poly d_weight_of  
  have d_scaled : Dn Pg w K mg base "scaled" 42 ["one", "factor"] (sp_scaled K) := ok_scaled (A 6 "scaled" s_scaled rfl rfl) T d_poly  
  have d_p_minus : Dn Pg w K mg base "p_minus" 43 ["one", "other"] (sp_p_minus K) := ok_p_minus (A 7 "p_minus" s_p_minus rfl rfl) T d_p_plus d_scaled  
  have d_p_times : Dn Pg w K mg base "p_times" 42 ["one", "other"] (sp_p_times K) := ok_p_times (A 8 "p_times" s_p_times rfl rfl) T d_poly  
  have d_raised : Dn Pg w K mg base "raised" 41 ["one", "many"] (sp_raised K) := ok_raised (A 9 "raised" s_raised rfl rfl) T   
  have d_derived : Dn Pg w K mg base "derived" 42 ["one"] (sp_derived K) := ok_derived (A 10 "derived" s_derived rfl rfl) T d_poly  
  have d_content : Dn Pg w K mg base "content" 43 ["one"] (sp_content K) := ok_content (A 11 "content" s_content rfl rfl) T d_divisor_ofT  
  have d_divided : Dn Pg w K mg base "divided" 41 ["one", "number"] (sp_divided K) := ok_divided (A 12 "divided" s_divided rfl rfl) T   B
  have d_plain : Dn Pg w K mg base "plain" 44 ["one"] (sp_plain K) := ok_plain (A 13 "plain" s_plain rfl rfl) T d_divided d_content  
  have d_least_parted : Dn Pg w K mg base "least_parted" 44 ["scale", "quotient", "rest"] (sp_least_parted K) := ok_least_parted (A 14 "least_parted" s_least_parted rfl rfl) T d_divisor_ofL d_content d_divided  B
  have d_parted : Dn Pg w K mg base "parted" 45 ["one", "other"] (sp_parted K) := ok_parted (A 15 "parted" s_parted rfl rfl) T d_degree d_divisor d_raised d_poly d_p_plus d_scaled d_p_minus d_p_times d_least_parted  B
  have d_whole_part : Dn Pg w K mg base "whole_part" 46 ["one", "other"] (sp_whole_part K) := ok_whole_part (A 16 "whole_part" s_whole_part rfl rfl) T d_parted  
  have d_lightened : Dn Pg w K mg base "lightened" 44 ["row"] (sp_lightened K) := ok_lightened (A 17 "lightened" s_lightened rfl rfl) T d_divisor_ofL d_content d_divided  
  have d_shared_rows : Dn Pg w K mg base "shared_rows" 46 ["one", "other"] (sp_shared_rows K) := ok_shared_rows (A 18 "shared_rows" s_shared_rows rfl rfl) T d_parted d_p_minus d_scaled d_p_times d_lightened  
  have d_shared : Dn Pg w K mg base "shared" 47 ["one", "other"] (sp_shared K) := ok_shared (A 19 "shared" s_shared rfl rfl) T d_plain d_shared_rows  
  have d_layers : Dn Pg w K mg base "layers" 48 ["one"] (sp_layers K) := ok_layers (A 20 "layers" s_layers rfl rfl) T d_plain d_derived d_shared d_whole_part d_p_minus d_degree  
  have d_by_numberT : Dn Pg w K mg base "by_number" 42 ["one", "m"] (sp_by_numberT K) := ok_by_numberT (A 21 "by_number" s_by_number rfl rfl) T d_poly  
  have d_by_numberL : Dn Pg w K mg base "by_number" 42 ["one", "m"] (sp_by_numberL K) := ok_by_numberL (A 21 "by_number" s_by_number rfl rfl) T d_poly  
  have d_by_numberU : Dn Pg w K mg base "by_number" 42 ["one", "m"] (sp_by_numberU K) := ok_by_numberU (A 21 "by_number" s_by_number rfl rfl) T d_poly  
  have d_m_plus : Dn Pg w K mg base "m_plus" 43 ["one", "other", "m"] (sp_m_plus K) := ok_m_plus (A 22 "m_plus" s_m_plus rfl rfl) T d_by_numberT d_p_plus  
  have d_m_minus : Dn Pg w K mg base "m_minus" 44 ["one", "other", "m"] (sp_m_minus K) := ok_m_minus (A 23 "m_minus" s_m_minus rfl rfl) T d_by_numberT d_p_minus  
  have d_m_times : Dn Pg w K mg base "m_times" 43 ["one", "other", "m"] (sp_m_times K) := ok_m_times (A 24 "m_times" s_m_times rfl rfl) T d_by_numberT d_p_times  
  have d_inverse_by : Dn Pg w K mg base "inverse_by" 41 ["number", "m"] (sp_inverse_by K) := ok_inverse_by (A 25 "inverse_by" s_inverse_by rfl rfl) T   B
  have d_m_parted : Dn Pg w K mg base "m_parted" 43 ["one", "other", "m"] (sp_m_parted K) := ok_m_parted (A 26 "m_parted" s_m_parted rfl rfl) T d_inverse_by d_by_numberL  
  have d_single : Dn Pg w K mg base "single" 43 ["one", "t"] (sp_single K) := ok_single (A 27 "single" s_single rfl rfl) T d_inverse_by d_by_numberL  
  have d_m_shared : Dn Pg w K mg base "m_shared" 44 ["one", "other", "t"] (sp_m_shared K) := ok_m_shared (A 28 "m_shared" s_m_shared rfl rfl) T d_m_parted d_single  
  have d_m_power : Dn Pg w K mg base "m_power" 44 ["one", "many", "by", "m"] (sp_m_power K) := ok_m_power (A 29 "m_power" s_m_power rfl rfl) T d_m_parted d_m_times d_by_numberT  B
  have d_product_by : Dn Pg w K mg base "product_by" 44 ["some", "m"] (sp_product_by K) := ok_product_by (A 30 "product_by" s_product_by rfl rfl) T d_m_times  
  have d_inverse_part : Dn Pg w K mg base "inverse_part" 45 ["one", "by", "t"] (sp_inverse_part K) := ok_inverse_part (A 31 "inverse_part" s_inverse_part rfl rfl) T d_m_parted d_degree d_m_minus d_m_times d_inverse_by d_by_numberT d_scaled  
  have d_keys_of : Dn Pg w K mg base "keys_of" 46 ["parts", "t"] (sp_keys_of K) := ok_keys_of (A 32 "keys_of" s_keys_of rfl rfl) T d_product_by d_inverse_part  
  have d_lifted : Dn Pg w K mg base "lifted" 47 ["f", "t", "parts", "e"] (sp_lifted K) := ok_lifted (A 33 "lifted" s_lifted rfl rfl) T d_by_numberT d_scaled d_inverse_by d_keys_of d_m_minus d_product_by d_by_numberL d_m_parted d_m_times d_m_plus  B
  have d_is_prime : Dn Pg w K mg base "is_prime" 41 ["number"] (sp_is_prime K) := ok_is_prime (A 34 "is_prime" s_is_prime rfl rfl) T   
  have d_free_by : Dn Pg w K mg base "free_by" 45 ["one", "t"] (sp_free_by K) := ok_free_by (A 35 "free_by" s_free_by rfl rfl) T d_degree d_m_shared d_by_numberT d_derived  
  have d_fixed_rows : Dn Pg w K mg base "fixed_rows" 45 ["one", "t"] (sp_fixed_rows K) := ok_fixed_rows (A 36 "fixed_rows" s_fixed_rows rfl rfl) T d_degree d_m_power d_m_parted d_m_times  
  have d_without_row : Dn Pg w K mg base "without_row" 41 ["row", "factor", "other", "t"] (sp_without_row K) := ok_without_row (A 37 "without_row" s_without_row rfl rfl) T   
  have d_unit_of : Dn Pg w K mg base "unit_of" 42 ["row", "at", "t"] (sp_unit_of K) := ok_unit_of (A 38 "unit_of" s_unit_of rfl rfl) T d_inverse_by  
  have d_nought_sums : Dn Pg w K mg base "nought_sums" 43 ["rows", "t"] (sp_nought_sums K) := ok_nought_sums (A 39 "nought_sums" s_nought_sums rfl rfl) T d_unit_of d_without_row  
  have d_split_once : Dn Pg w K mg base "split_once" 45 ["parts", "fixed", "t"] (sp_split_once K) := ok_split_once (A 40 "split_once" s_split_once rfl rfl) T d_degree d_m_shared d_m_minus d_by_numberU d_m_parted  
  have d_by_size : Dn Pg w K mg base "by_size" 42 ["one"] (sp_by_size K) := ok_by_size (A 41 "by_size" s_by_size rfl rfl) T d_degree  
  have d_parts_by : Dn Pg w K mg base "parts_by" 46 ["one", "t"] (sp_parts_by K) := ok_parts_by (A 42 "parts_by" s_parts_by rfl rfl) T d_single d_nought_sums d_fixed_rows d_split_once d_by_numberL d_by_size  
  have d_greatest : Dn Pg w K mg base "greatest" 41 ["one"] (sp_greatest K) := ok_greatest (A 43 "greatest" s_greatest rfl rfl) T   
  have d_room_for : Dn Pg w K mg base "room_for" 42 ["one"] (sp_room_for K) := ok_room_for (A 44 "room_for" s_room_for rfl rfl) T d_greatest d_degree  
  have d_powered : Dn Pg w K mg base "powered" 41 ["t", "e"] (sp_powered K) := ok_powered (A 45 "powered" s_powered rfl rfl) T   
  have d_great_power : Dn Pg w K mg base "great_power" 43 ["one", "t"] (sp_great_power K) := ok_great_power (A 46 "great_power" s_great_power rfl rfl) T d_room_for  
  have d_parts_of_primes : Dn Pg w K mg base "parts_of_primes" 47 ["one"] (sp_parts_of_primes K) := ok_parts_of_primes (A 47 "parts_of_primes" s_parts_of_primes rfl rfl) T d_free_by d_by_numberT d_is_prime d_parts_by c_SOME_PRIMES 
  have d_fewest : Dn Pg w K mg base "fewest" 41 ["some"] (sp_fewest K) := ok_fewest (A 48 "fewest" s_fewest rfl rfl) T   
  have d_middled : Dn Pg w K mg base "middled" 42 ["one", "m"] (sp_middled K) := ok_middled (A 49 "middled" s_middled rfl rfl) T d_poly  
  have d_chosen : Dn Pg w K mg base "chosen" 41 ["parts", "choice"] (sp_chosen K) := ok_chosen (A 50 "chosen" s_chosen rfl rfl) T   
  have d_candidate : Dn Pg w K mg base "candidate" 45 ["one", "parts", "m"] (sp_candidate K) := ok_candidate (A 51 "candidate" s_candidate rfl rfl) T d_product_by d_plain d_middled d_m_times d_by_numberU  
  have d_least_part : Dn Pg w K mg base "least_part" 47 ["one", "parts", "m"] (sp_least_part K) := ok_least_part (A 52 "least_part" s_least_part rfl rfl) T d_chosen d_candidate d_whole_part  
  have d_whole_parts : Dn Pg w K mg base "whole_parts" 48 ["one"] (sp_whole_parts K) := ok_whole_parts (A 53 "whole_parts" s_whole_parts rfl rfl) T d_degree d_fewest d_parts_of_primes d_great_power d_powered d_lifted d_least_part d_whole_part  
  have d_checked_bounds : Dn Pg w K mg base "checked_bounds" 42 ["p"] (sp_checked_bounds K) := ok_checked_bounds (A 54 "checked_bounds" s_checked_bounds rfl rfl) T d_greatest d_degree c_MOST_WEIGHT c_MOST_DEGREE 
  have d_unit_of_whole : Dn Pg w K mg base "unit_of_whole" 44 ["p"] (sp_unit_of_whole K) := ok_unit_of_whole (A 55 "unit_of_whole" s_unit_of_whole rfl rfl) T d_content  
  have d_by_part : Dn Pg w K mg base "by_part" 43 ["pair"] (sp_by_part K) := ok_by_part (A 56 "by_part" s_by_part rfl rfl) T d_by_size  
  have d_factors : Dn Pg w K mg base "factors" 49 ["p"] (sp_factors K) := ok_factors (A 57 "factors" s_factors rfl rfl) T d_checked_bounds d_degree d_layers d_whole_parts d_unit_of_whole d_by_part  
  have d_Lcell_at : Dn Pg w K mg base "_law_cell_at" 41 ["_law_script", "_law_k"] (sp_Lcell_at K) := ok_Lcell_at (A 58 "_law_cell_at" s_Lcell_at rfl rfl) T   
  have d_Lmixed : Dn Pg w K mg base "_law_mixed" 41 ["_law_cell", "_law_k"] (sp_Lmixed K) := ok_Lmixed (A 59 "_law_mixed" s_Lmixed rfl rfl) T   B
  have d_Lparts : Dn Pg w K mg base "_law_parts" 42 ["_law_cell", "_law_bases"] (sp_Lparts K) := ok_Lparts (A 60 "_law_parts" s_Lparts rfl rfl) T d_Lmixed  B
  have d_Lpoly : Dn Pg w K mg base "_law_poly" 41 ["_law_weights"] (sp_Lpoly K) := ok_Lpoly (A 61 "_law_poly" s_Lpoly rfl rfl) T   
  have d_Lproduct : Dn Pg w K mg base "_law_product" 42 ["_law_one", "_law_other"] (sp_Lproduct K) := ok_Lproduct (A 62 "_law_product" s_Lproduct rfl rfl) T d_Lpoly  
  have d_Lrest : Dn Pg w K mg base "_law_rest" 42 ["_law_one", "_law_other"] (sp_Lrest K) := ok_Lrest (A 66 "_law_rest" s_Lrest rfl rfl) T d_Lpoly  
  have d_Lroot : Dn Pg w K mg base "_law_root" 41 ["_law_one", "_law_top", "_law_bottom"] (sp_Lroot K) := ok_Lroot (A 67 "_law_root" s_Lroot rfl rfl) T   
  have d_Lno_root : Dn Pg w K mg base "_law_no_root" 42 ["_law_part"] (sp_Lno_root K) := ok_Lno_root (A 68 "_law_no_root" s_Lno_root rfl rfl) T d_Lroot  
  have d_Lmade : Dn Pg w K mg base "_law_made" 43 ["_law_cell"] (sp_Lmade K) := ok_Lmade (A 69 "_law_made" s_Lmade rfl rfl) T d_Lparts d_Lpoly  
  have d_Llesser : Dn Pg w K mg base "_law_lesser" 43 ["_law_cell"] (sp_Llesser K) := ok_Llesser (A 70 "_law_lesser" s_Llesser rfl rfl) T d_Lparts d_Lpoly  
  have d_law : Dn Pg w K mg base "law" 50 ["_law_script"] (sp_law K) := ok_law (A 71 "law" s_law rfl rfl) T d_Lmade d_Lcell_at d_Lproduct d_factors d_Lno_root d_Llesser d_Lrest  
  exact d_law
/-! ### the frame, with what great divisions want -/
def Ext (K K' : PySem.W.Frag) : Prop := ∀ (a : Addr) (o : Obj), List.lookup a K = some o → List.lookup a K' = some o
theorem lookup_app {K E : PySem.W.Frag} {a : Addr} : List.lookup a (K ++ E) = (match List.lookup a K with | some o => some o | none => List.lookup a E) := by
  induction K with
  | nil => rfl
  | cons p K ih =>
    obtain ⟨b, o⟩ := p
    show List.lookup a ((b, o) :: (K ++ E)) = _
    rw [List.lookup_cons, List.lookup_cons, ih]
    cases a == b <;> rfl
theorem ext_in {K E : PySem.W.Frag} {h : Heap} (KX : K.In h) (hE : ∀ p ∈ E, h.get? p.1 = some p.2) : (K ++ E).In h ∧ Ext K (K ++ E) ∧ ∀ p ∈ E, List.lookup p.1 (K ++ E) = some p.2 := by
  have hin : (K ++ E).In h := fun a o e => by
    rw [lookup_app] at e
    cases c : List.lookup a K with
    | some o' =>
      rw [c] at e
      cases e
      exact KX a _ c
    | none =>
      rw [c] at e
      have : ∀ E : PySem.W.Frag, (∀ p ∈ E, h.get? p.1 = some p.2) → List.lookup a E = some o → h.get? a = some o := by
        intro E
        induction E with
        | nil => intro _ q; cases q
        | cons p E ih =>
          obtain ⟨b, o'⟩ := p
          intro hE q
          rw [List.lookup_cons] at q
          cases z : a == b with
          | true =>
            rw [z] at q
            cases q
            rw [eq_of_beq z]
            exact hE (b, o) List.mem_cons_self
          | false =>
            rw [z] at q
            exact ih (fun p hp => hE p (by simp [hp])) q
      exact this E hE e
  refine ⟨hin, fun a o e => by rw [lookup_app, e], fun p hp => ?_⟩
  have : ∃ o, List.lookup p.1 (K ++ E) = some o := by
    rw [lookup_app]
    cases c : List.lookup p.1 K with
    | some o' => exact ⟨o', rfl⟩
    | none =>
      have : ∀ E : PySem.W.Frag, p ∈ E → ∃ o, List.lookup p.1 E = some o := by
        intro E
        induction E with
        | nil => intro q; cases q
        | cons q E ih =>
          obtain ⟨b, o'⟩ := q
          intro hq
          rw [List.lookup_cons]
          cases z : p.1 == b with
          | true => exact ⟨o', rfl⟩
          | false =>
            rcases List.mem_cons.mp hq with e | e
            · rw [e] at z
              simp at z
            · exact ih e
      exact this E hp
  obtain ⟨o, ho⟩ := this
  rw [ho]
  have := (hin _ _ ho).symm.trans (hE p hp)
  exact this
theorem Fun.ext {K K' : PySem.W.Frag} (e : Ext K K') {x qual : Str} {st : Stmt} {f : Addr} {fd : FuncData} (F : Fun K x qual st f fd) : Fun K' x qual st f fd := by
  obtain ⟨⟨oc, od, kV, doc, pm, an, cdv, ct, osl, e1, e2, e3⟩, kp⟩ := F
  refine ⟨⟨oc, od, kV, doc, pm, an, cdv, ct, osl, e1, e _ _ e2, ?_⟩, ?_⟩
  · unfold PySem.W.codeIn at e3 ⊢
    split at e3
    · rename_i c
      cases z : List.lookup c K with
      | none => rw [z] at e3; cases e3
      | some o =>
        rw [z] at e3
        rw [e _ _ z]
        exact e3
    · cases e3
  · unfold PySem.W.keepIn
    dsimp only
    rw [e _ _ e2]
/-- THE FRAME: a law walked with what great divisions want -/
theorem walk_own {l : PySem.W.OpenLaw} {n k : Nat} {q : Program} {loose : List Str} {XP : (Str → Option Value) → Heap → Prop} {YP : World → Heap → Prop} {d : DefRec} {x : Str} (hn : l.most = some n) (hn2 : n ≤ sizeLine) (hdf : d.params.defaults = []) (hr : Room k callerA) (him : importsNone q = true)
    (F : ∀ (w : World) (mg : Str → Option Value) (fa : Addr) (h : Heap), YP w h → h.Ns mainGlobals mg → mg d.name = some (.ref fa) → ∃ (K : PySem.W.Frag) (fd : FuncData) (sp : PySem.W.Frag → Sp), K.In h ∧ (∀ (s : Shared) (u : Value), BindsTo s fd ⟨[u], []⟩ [(x, u)]) ∧
      (∀ (K' : PySem.W.Frag) (H : Hp) (a : Addr) (ns : List Int), ns.length ≤ n → Only H → SqL K' H a (ns.map V.int) → sp K' [.ref a] H (fun v _ => v = .bl true) fun _ _ _ => False) ∧
      ∀ K' : PySem.W.Frag, Ext K K' → ∀ base : Heap, K'.In base → base.NoSeer → base.Ns mainGlobals mg → FnOk l.prog w K' mg base CX0 k fa fd [x] (sp K')) :
    PySem.W.WalkO q loose XP YP l.row.toRowW d [] fun f vs => call f vs :=
  Att.attach_call hn hdf fun w s₀ s₁ mg mb fa o pm cd doc a vs ns G Y ho hd hcd hmg hobj hints hlen hg => by
    obtain ⟨K, fd, sp, KX, hb, hsp, hF⟩ := F w mg fa s₁.heap Y G.T.g hmg
    have S := G.T.seer him
    obtain ⟨mc, ⟨o1, es1, ep1, g1, r1⟩, c1, c2⟩ := S.statics
    obtain ⟨mm, ⟨o2, es2, ep2, g2, r2⟩, c3⟩ := S.mods
    obtain ⟨mb', ⟨o3, es3, ep3, g3, r3⟩, c4⟩ := S.imp
    obtain ⟨mg', bm, ob, ⟨o4, es4, ep4, g4, r4⟩, c5, c6, c7, c8⟩ := S.main
    obtain ⟨KX', hext, hlk⟩ := ext_in (E := [(cStatics, o1), (sysModules, o2), (builtinsNs, o3), (mainGlobals, o4), (bm, ob)]) KX (fun p hp => by
      simp only [List.mem_cons, List.not_mem_nil, or_false] at hp
      rcases hp with rfl | rfl | rfl | rfl | rfl
      · exact g1
      · exact g2
      · exact g3
      · exact g4
      · exact c6)
    refine L2.law_call (CX := CX0) KX' G.T.g G.T.b G.T.builtins G.T.nolimit hg hobj hints (Nat.le_trans hlen hn2) hr (fun base KB gB => ?_) hb (fun H hO hS => hsp _ H a ns hlen hO hS) fun _ _ _ z => z
    refine hF _ hext base KB ?_ gB
    have at1 := KB _ _ (hlk (cStatics, o1) (by simp))
    have at2 := KB _ _ (hlk (sysModules, o2) (by simp))
    have at3 := KB _ _ (hlk (builtinsNs, o3) (by simp))
    have at4 := KB _ _ (hlk (mainGlobals, o4) (by simp))
    have at5 := KB _ _ (hlk (bm, ob) (by simp))
    exact ⟨⟨mc, ⟨o1, es1, ep1, at1, r1⟩, c1, c2⟩, ⟨mm, ⟨o2, es2, ep2, at2, r2⟩, c3⟩, ⟨mb', ⟨o3, es3, ep3, at3, r3⟩, c4⟩, ⟨mg', bm, ob, ⟨o4, es4, ep4, at4, r4⟩, c5, at5, c7, c8⟩⟩
/-- a def as the head tells it -/
theorem at_of {K K' : PySem.W.Frag} {h : Heap} {mg : Str → Option Value} (KX : K.In h) (G : h.Ns mainGlobals mg) (c : He.SaysD fa fn K) (e : Ext K K') (i : Nat) (x : Str) (st : Stmt) (h1 : fn[i]? = some (dd x st)) (h2 : fa[i]? = some (.glo x)) : At K' mg x st := by
  obtain ⟨fd, F⟩ := c.def_ i h1
  have g := He.glo_ok KX G (c.fact i h2)
  refine ⟨He.ga K x, fd, Fun.ext e ?_, g⟩
  obtain ⟨⟨oc, od, dV, kV, doc, pm, an, cdv, ct, osl, e1, e2, e3, dV0, _⟩, kp⟩ := F
  have : dV = .none := by
    rcases dV0 with ⟨_, z⟩ | ⟨z, _⟩
    · exact z
    · exact absurd rfl z
  subst this
  exact ⟨⟨oc, od, kV, doc, pm, an, cdv, ct, osl, e1, e2, e3⟩, kp⟩
theorem facts {P : Program} {w : World} {K : PySem.W.Frag} {h : Heap} {mg : Str → Option Value} {f : Addr} (KX : K.In h) (G : h.Ns mainGlobals mg) (hfa : mg ("law" : Str) = some (.ref f)) (c : He.SaysD fa fn K) (ht : P.given.tree = none) :
    ∃ fd : FuncData, (∀ (s : Shared) (v : Value), BindsTo s fd ⟨[v], []⟩ [("_law_script", v)]) ∧ ∀ K' : PySem.W.Frag, Ext K K' → ∀ base : Heap, K'.In base → base.NoSeer → base.Ns mainGlobals mg → FnOk P w K' mg base CX0 50 f fd ["_law_script"] (sp_law K') := by
  have fr : ∀ (j : Nat) (x : Str), fa[j]? = some (.free x) → mg x = none := fun j x hj => He.free_ok KX G (c.fact j hj)
  have T : Txt mg := ⟨fr 72 "abs" rfl, fr 73 "all" rfl, fr 74 "enumerate" rfl, fr 75 "int" rfl, fr 76 "len" rfl, fr 77 "list" rfl, fr 78 "max" rfl, fr 79 "min" rfl, fr 80 "range" rfl, fr 81 "reversed" rfl, fr 82 "sorted" rfl, fr 83 "tuple" rfl⟩
  have i1 : ∃ tk, mg "MOST_DEGREE" = some (.int 8 tk) := He.int_ok KX G (c.fact 84 rfl)
  have i2 : ∃ tk, mg "MOST_WEIGHT" = some (.int 1000000 tk) := He.int_ok KX G (c.fact 85 rfl)
  have i3 : ∃ tk, mg "SOME_PRIMES" = some (.int 6 tk) := He.int_ok KX G (c.fact 86 rfl)
  obtain ⟨fd0, F0⟩ := c.def_ 71 (d := dd "law" s_law) rfl
  have b := FunD.bindsA (ps := ["_law_script"]) F0 fun _ _ _ _ _ _ us hl => match us, hl with | [_], _ => rfl
  have g0 := He.glo_ok KX G (c.fact 71 (f := .glo "law") rfl)
  have ef : f = He.ga K "law" := by
    have := hfa.symm.trans g0
    injection this with this
    injection this
  refine ⟨fd0, fun s v => b s [v] rfl, fun K' e base KB S gB => ?_⟩
  obtain ⟨f', fd', F', m', ⟨_, oc, od, osl, lk⟩, b'⟩ := (law_ok (Pg := P) (w := w) (K := K') (base := base) (fun i x st h1 h2 => at_of KX G c e i x st h1 h2) T ⟨S, ht⟩ i1 i2 i3).ex
  have ef' : f' = f := by
    have := m'.symm.trans hfa
    injection this with this
    injection this
  subst ef'
  obtain ⟨⟨oc0, od0, _, _, _, _, _, _, _, osl0, _, lk0, _⟩, _⟩ := F0
  have lk1 := e _ _ lk0
  have ef2 : He.fAd K (dd "law" s_law).at_ = f' := ef.symm
  rw [ef2] at lk1
  have := lk.symm.trans lk1
  injection this with this
  injection this with _ _ this _
  injection this with this
  rw [← this]
  exact F'
end RH
open PySem PySem.W PySem.Calls PyProof.Rows
theorem PySem.Challenge.cw_rootcourt_k55_whole_no_part_splits_holds : PySem.Challenge.rw_rootcourt_k55_whole_no_part_splits.Holds := by
  w_on; o_law
  refine HandSHeadRun.head_any (r := RH.R) (q := view RH.R.prog [88]) (H := RH.hk) (ob := RH.ob) (M := 3400) (loose := RH.loose) (d := HandSHeadRun.topDef RH.R.prog 88) (kwd := []) RH.ob_eq
    (by kernel_rfl) (fun s => by kernel_rfl) RH.run (by kernel_rfl) (by kernel_rfl) (by kernel_rfl) (by rfl) (by first | assumption | decide +kernel) (by decide +kernel) ⟨rfl, rfl, rfl, rfl, rfl, by decide +kernel⟩ ?hw ?hc
  case hw => w_witness2
  case hc =>
    refine RH.walk_own (l := PySem.Challenge.rw_rootcourt_k55_whole_no_part_splits) (n := 63) (k := 50) (x := "_law_script") rfl (by decide) (by kernel_rfl) ⟨rfl, by decide, by decide⟩ (by kernel_rfl) ?F
    intro w mg fa h Y G hmg0
    obtain ⟨K, KX, c⟩ := Y
    have hmg : mg ("law" : PySem.Str) = some (.ref fa) := by
      have e : (HandSHeadRun.topDef RH.R.prog 88).name = ("law" : PySem.Str) := by kernel_rfl
      rw [← e]
      exact hmg0
    obtain ⟨fd, hb, hF⟩ := RH.facts (P := (PySem.Challenge.rw_rootcourt_k55_whole_no_part_splits).prog) (w := w) KX G hmg c (by kernel_rfl)
    exact ⟨K, fd, RH.sp_law, KX, hb, fun K' H a ns hl _ hS => ⟨_, rfl, a, ns, rfl, hS, fun _ => rfl⟩, hF⟩
